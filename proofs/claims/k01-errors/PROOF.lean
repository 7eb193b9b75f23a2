import PyProof.Rows.All
import Wide.All
import OpenK.AllK
import Wide.FinOn
import HandS.ForMost
import HandS.ForExc
import KE.KDictKeyed
import HandS.Lambda
import HandS.Property
import HandS.ClsMeth
import HandS.Style
import HandS.TupAny
import HandS.Deep
import HandS.IsInst
import HandS.SortInts
import HandS.DictComp
import KE.KDictWalk
import KE.KDictPairs
import HandS.Strs
import KE.SortKeyHeap
import KE.DataEq
import KE.KSortKey
import KE.KDictSum
import HandS.SortKw
import PyProof.InstNe
import HandS.Ends
import HandS.Star
import HandS.Conv
import PyProof.Rows.ReprR
import HandS.ListItems
import HandS.More
import HandS.DictEq
import HandS.DeepEq
import HandS.MakeKwOnly
import HandS.Exc
import HandS.ExcIs
import PyProof.ListStr
import KE.DataFind
import HandS.DictTup
import HandS.EndTab
import KE.KNestM
import PyProof.StrOps2
import PyProof.P3In
import PyProof.FactsAll.dict
import HandS.Zip
import KE.GoesEnumKw
import HandS.GenList
import HandS.ExcInit
import HandS.FStr
import HandS.FStrTup
import HandS.ExcField
import KE.KExcIs
import HandS.StrMore
import KE.KUnpackStar
import PyProof.Draws
import PyProof.EnumMake
import HandS.Set
import KE.DataCmp
import HandS.SetFor
import HandS.ListEq
import KE.KEqNest
import KE.GoesSet
import KE.KDictZip
import HandS.Small
import HandS.ExcValue
import PySem.Challenge.RW_windowsteps_k01_errors
set_option Elab.async false
set_option linter.all false
set_option maxRecDepth 100000
noncomputable section
theorem WS.m9{α:Sort _}(x:α):∃y,y=x:=⟨_,rfl⟩
theorem WS.bK{α:Type _}{l:List α}{i:Nat}{a:α}(h:l[i]?=some a):∃h:i<l.length,l[i]=a:=List.getElem?_eq_some_iff.mp h
namespace WS
open PySem PySem.Spec PyProof.Rows L2
inductive EV where
 |non|bl (b:Bool)|int (i:Int)|str (x:Str)|tup (xs:List EV)|ref (k:Nat)|adr (a:Addr)|ty (n:String)|sl (xs:List Int)|exc (C:Addr)|exf (C:Addr) (y:Str) (x:EV)
inductive EO where
 |lst (xs:List EV)
 |ins (C:Addr) (fs:List (Str×EV))
 |bR (kvs:List (EV×EV))
 |cP (kvs:List (EV×EV))
abbrev Mem:=List EO
abbrev bA:=List (Option EV)
structure Ex where
 cls:Addr
 fs:Option (List (Str×EV))
inductive Res(α:Type)where
 |ok (a:α) (M:Mem)
 |err (x:Ex) (M:Mem)
 |bad
def Res.bind{α β:Type}:Res α→(α→Mem→Res β)→Res β
 |.ok a M,g=>g a M
 |.err x M,_=>.err x M
 |.bad,_=>.bad
inductive RS where
 |nx (σ:bA) (M:Mem)|rt (v:EV) (M:Mem)|bk (σ:bA) (M:Mem)|ct (σ:bA) (M:Mem)|err (x:Ex) (σ:bA) (M:Mem)|bad
class bG where
 T:List (Addr×Str)
instance (priority:=low) noTbs:bG:=⟨[]⟩
variable[bG]
structure Gr where
 P:Program
 w:World
 K:PySem.W.Frag
 T:List (Addr×Str)
abbrev gr(X:Cx):Gr:=⟨X.prog,X.w,X.K,bG.T⟩
def nV(K:PySem.W.Frag)(H:Hp)(a:Addr)(xs:List V):Prop:=(∃o,H a=some (.frz o (.lst xs)))∨
  ∃(o:Obj) (its:Array Value) (n:Nat),K.lookup a=some o∧o.cls = .type "list"∧o.dict=none∧o.data = .seq its n∧its.size≤sizeLine∧Vals xs its.toList
theorem nV.sq{K:PySem.W.Frag}{H:Hp}{a:Addr}{xs:List V}(h:nV K H a xs):SqL K H a xs:=by
 rcases h with⟨o,h⟩|h
 ·exact .inl (.inr ⟨o,h⟩)
 ·exact .inr h
def R4(C:Addr)(o:Obj):Prop:=o.cls = .ref C∧o.dict=none∧∃vs,o.data = .fields vs
def Q4(C d:Addr)(o:Obj):Prop:=o.cls = .ref C∧o.dict=some d∧∃vs,o.data = .fields vs
section
variable(K:PySem.W.Frag)(ρ:Nat→Addr)(n:Nat)(H:Hp)
mutual
def RV:EV→V→Prop
 |.non,v=>v = .non
 |.bl b,v=>v = .bl b
 |.int i,v=>v = .int i
 |.str x,v=>v = .str x
 |.tup xs,v=>∃a vs,v = .ref a∧H a=some (.tup vs)∧aZ xs vs
 |.ref k,v=>k<n∧v = .ref (ρ k)
 |.adr a,v=>v = .ref a
 |.ty t,v=>v = .ty t
 |.sl xs,v=>∃a,v = .ref a∧nV K H a (xs.map V.int)
 |.exc C,v=>∃a o,v = .ref a∧H a=some (.frz o (.own 0))∧R4 C o
 |.exf C y x,v=>∃a o d u,v = .ref a∧H a=some (.frz o (.own 0))∧H d=some (.xd [(y,u)])∧Q4 C d o∧RV x u
def aZ:List EV→List V→Prop
 |[],vs=>vs = []
 |x :: xs,vs=>∃v r,vs=v :: r∧RV x v∧aZ xs r
end
def qG:List (Str×EV)→List (Str×V)→Prop
 |[],vs=>vs = []
 |x :: xs,vs=>∃v r,vs=(x.1,v) :: r∧RV K ρ n H x.2 v∧qG xs r
def bF:bA→L2.St→Prop
 |[],vs=>vs = []
 |none :: xs,vs=>∃v r,vs=v :: r∧bF xs r
 |some x :: xs,vs=>∃v r,vs=some v :: r∧RV K ρ n H x v∧bF xs r
end
def leafOf:EV→Option Leaf
 |.non=>some .none
 |.int i=>some (.num i)
 |.str x=>some (.text x)
 |_=>none
mutual
def bP:EV→Option NestedKey
 |.non=>some .none
 |.int i=>some (.num i)
 |.str x=>some (.text x)
 |.tup xs=>(kS xs).map .tup
 |_=>none
def kS:List EV→Option (List NestedKey)
 |[]=>some []
 |x :: xs=>match bP x,kS xs with
  |some k,some ks=>some (k :: ks)
  |_,_=>none
end
def plainKey:Leaf→Value→Bool
 |.none,.none=>true
 |.num i,.int j _=>decide (j=i)
 |.text x,v=>Value.isStrOf x v
 |_,_=>false
theorem plainKey.isOf:∀{k:Leaf} {v:Value},plainKey k v=true→Leaf.isOf k v=true
 |.none,.none,_=>rfl
 |.num i,.int j t,h=>h
 |.text x,v,h=>h
def DE(P:Program)(w:World):KeyKind P w Leaf where
 is:=plainKey
 hash:=(leafKind P w).hash
 inj:=fun v a b ha hb=>(leafKind P w).inj v a b (plainKey.isOf ha) (plainKey.isOf hb)
 byValue:=fun k v h=>(leafKind P w).byValue k v (plainKey.isOf h)
 pyHash:=fun hv h=>(leafKind P w).pyHash (plainKey.isOf hv) h
 eqBool:=fun hu hv h=>(leafKind P w).eqBool (plainKey.isOf hu) (plainKey.isOf hv) h
 «strs»:=fun k x t v h=>by
  have e:=(leafKind P w).strs k x t v (plainKey.isOf h);cases k with
  |none=>exact absurd h Bool.false_ne_true
  |num i=>exact absurd h Bool.false_ne_true
  |text y=>exact e
def oJ(G:Gr)(a:Addr)(l:List (Leaf×V))(h:Heap):Prop:=
 l.length≤sizeLine∧(a == sysModules)=false∧∃vs,KV l vs∧h.DictOf (DE G.P G.w) a vs
def oI(G:Gr)(a:Addr)(l:List (NestedKey×Addr×V))(h:Heap):Prop:=
 l.length≤sizeLine∧(a == sysModules)=false∧∃xs:List (NestedKey×Addr×Value),Paired (fun(p:NestedKey×Addr×V) (q:NestedKey×Addr×Value)=>p.1=q.1∧p.2.1=q.2.1∧RelV p.2.2 q.2.2) l xs∧
  ∃o es ep,h.get? a=some o∧o.ExactDict∧o.data = .dict es ep∧es.toList=xs.map (entryOfKey (nestedKind G.P G.w))∧(xs.map (·.1)).Nodup
section
variable(K:PySem.W.Frag)(ρ:Nat→Addr)(n:Nat)(H:Hp)
def kZ:List (EV×EV)→List (Leaf×V)→Prop
 |[],l=>l = []
 |p :: ps,l=>∃k v r,l=(k,v) :: r∧leafOf p.1=some k∧RV K ρ n H p.2 v∧kZ ps r
def kM:List (EV×EV)→List (NestedKey×Addr×V)→Prop
 |[],l=>l = []
 |p :: ps,l=>∃k a v r,l=(k,a,v) :: r∧bP p.1=some k∧k.depth≤8∧RV K ρ n H p.1 (.ref a)∧RV K ρ n H p.2 v∧kM ps r
end
def mE(G:Gr)(ρ:Nat→Addr)(n:Nat)(H:Hp)(a:Addr)(kvs:List (EV×EV))(u:HO):Prop:=
 (∃l,u = .ext (oJ G a l)∧kZ G.K ρ n H kvs l)∨(∃l,u = .ext (oI G a l)∧kM G.K ρ n H kvs l)
def RO(G:Gr)(ρ:Nat→Addr)(n:Nat)(H:Hp)(a:Addr):EO→Prop
 |.lst xs=>∃vs,H a=some (.lst vs)∧aZ G.K ρ n H xs vs
 |.ins C fs=>∃dx vs,H a=some (.ins C dx vs)∧qG G.K ρ n H fs vs
 |.bR kvs=>∃u,H a=some u∧mE G ρ n H a kvs u
 |.cP kvs=>∃o u,H a=some (.frz o u)∧mE G ρ n H a kvs u
def PD(u:HO):Prop:=(∀ps,u≠.tbl ps)∧∀c q,u≠LamX.CodeO c q
theorem S_{xs:List V}:PD (.lst xs):=⟨fun _ z=>(by cases z),fun _ _ z=>(by unfold LamX.CodeO at z;cases z)⟩
def t9:HO→Prop
 |.lst _=>True
 |.ins _ _ _=>True
 |.ext _=>True
 |.frz _ (.ext _)=>True
 |_=>False
def nX(K:PySem.W.Frag)(H:Hp):Prop:=(∃u,H sysModules=some u∧¬ t9 u∧(∀vs,u≠.tup vs)∧∀ps,u≠.tbl ps)∨∃o,K.lookup sysModules=some o
def mB(T:List (Addr×Str))(ρ:Nat→Addr)(n:Nat)(H:Hp):Prop:=∀p∈T,∃ps:Array Value,H p.1=some (.tbl ps)∧TriplesOk ps.toList∧∀(pos:Pos) (cv:Value),codeAmong pos ps.toList=some cv→∃c,cv = .ref c∧H c=some (LamX.CodeO c p.2)∧∀k,k<n→ρ k≠c
theorem mB.keep{T:List (Addr×Str)}{ρ ρ':Nat→Addr}{n n':Nat}{H H':Hp}(h:mB T ρ n H)(hP:∀b ps,H b=some (.tbl ps)→H' b=some (.tbl ps))(hC:∀b f,H b=some (.ext f)→(∀k,k<n→ρ k≠b)→H' b=some (.ext f))(iX:∀k,k<n→ρ' k=ρ k)(new:∀k,n≤k→k<n'→H (ρ' k)=none):mB T ρ' n' H':=fun p hp=>by
 obtain⟨ps,e,tr,hc⟩:=h p hp;refine⟨ps,hP _ _ e,tr,fun pos cv z=>?_⟩;obtain⟨c,e1,e2,e3⟩:=hc pos cv z;refine⟨c,e1,hC c _ e2 e3,fun k hk=>?_⟩;by_cases q:k<n
 ·rw[iX k q];exact e3 k q
 ·intro w
  have:=new k (Nat.le_of_not_lt q) hk;rw[w]at this;rw[this]at e2;cases e2
theorem mB.put{T:List (Addr×Str)}{ρ:Nat→Addr}{n:Nat}{H:Hp}{D:Addr}{w w':HO}(h:mB T ρ n H)(e:H D=some w)(hw:PD w):mB T ρ n (upd H D w'):=fun p hp=>by
 obtain⟨ps,e0,tr,hc⟩:=h p hp;refine⟨ps,by rw[upd_ne fun z=>hw.1 ps (by rw[z,e]at e0;cases e0;rfl)];exact e0,tr,fun pos cv z=>?_⟩;obtain⟨c,e1,e2,e3⟩:=hc pos cv z;exact⟨c,e1,by
  rw[upd_ne fun z=>by
   rw[← z,e2]at e;cases e;exact hw.2 c p.2 rfl]
  exact e2,e3⟩
theorem mB.adopt{T:List (Addr×Str)}{ρ ρ':Nat→Addr}{n n':Nat}{H:Hp}{D:Addr}{w:HO}(h:mB T ρ n H)(e:H D=some w)(hw:PD w)(iX:∀k,k<n→ρ' k=ρ k)(self:∀k,n≤k→k<n'→ρ' k=D):mB T ρ' n' H:=fun p hp=>by
 obtain⟨ps,e0,tr,hc⟩:=h p hp;refine⟨ps,e0,tr,fun pos cv z=>?_⟩;obtain⟨c,e1,e2,e3⟩:=hc pos cv z;refine⟨c,e1,e2,fun k hk=>?_⟩;by_cases q:k<n
 ·rw[iX k q];exact e3 k q
 ·rw[self k (Nat.le_of_not_lt q) hk]
  intro z;rw[z,e2]at e;cases e;exact hw.2 c p.2 rfl
structure RP(G:Gr)(ρ:Nat→Addr)(M:Mem)(H:Hp):Prop where
 obj:∀k o,M[k]? = some o→RO G ρ M.length H (ρ k) o
 inj:∀j k,j<M.length→k<M.length→ρ j=ρ k→j=k
 sm:nX G.K H
 tab:mB G.T ρ M.length H
structure After(ρ:Nat→Addr)(M:Mem)(H:Hp)(ρ':Nat→Addr)(M':Mem)(H':Hp):Prop where
 len:M.length≤M'.length
 iX:∀k,k<M.length→ρ' k=ρ k
 oF:∀b o,H b=some o→(∀k,k<M.length→ρ k≠b)→H' b=some o∨∃ps ps',o = .tbl ps∧H' b=some (.tbl ps')
 new:∀k,M.length≤k→k<M'.length→H (ρ' k)=none
 cP:∀k l,M[k]? = some (.cP l)→M'[k]? = some (.cP l)∧H' (ρ k)=H (ρ k)
section
variable{G:Gr}{ρ ρ' ρ'':Nat→Addr}{M M' M'':Mem}{n n':Nat}{H H' H'':Hp}{a:Addr}{o:EO}
theorem mE.ext{kvs:List (EV×EV)}{u:HO}(h:mE G ρ n H a kvs u):∃f,u = .ext f:=by
 rcases h with⟨l,e,_⟩|⟨l,e,_⟩ <;> exact⟨_,e⟩
theorem RO.isM(h:RO G ρ n H a o):∃u,H a=some u∧t9 u:=by
 cases o with
 |lst xs=>obtain⟨vs,e,_⟩:=h;exact⟨_,e,True.intro⟩
 |ins C fs=>obtain⟨dx,vs,e,_⟩:=h;exact⟨_,e,True.intro⟩
 |bR kvs=>obtain⟨u,e,d⟩:=h;obtain⟨f,rfl⟩:=d.ext;exact⟨_,e,True.intro⟩
 |cP kvs=>obtain⟨ob,u,e,d⟩:=h;obtain⟨f,rfl⟩:=d.ext;exact⟨_,e,True.intro⟩
theorem RP.at(R:RP G ρ M H){k:Nat}(hk:k<M.length):∃u,H (ρ k)=some u∧t9 u:=
 (R.obj k M[k] (List.getElem?_eq_getElem hk)).isM
theorem RP.ne(R:RP G ρ M H){b:Addr}{u:HO}(e:H b=some u)(hu:¬ t9 u){k:Nat}(hk:k<M.length):ρ k≠b:=by
 obtain⟨v,h1,h2⟩:=R.at hk;intro z;rw[z,e]at h1;cases h1;exact hu h2
theorem RP.oP(R:RP G ρ M H){b:Addr}(e:H b=none){k:Nat}(hk:k<M.length):ρ k≠b:=by
 obtain⟨v,h1,h2⟩:=R.at hk;intro z;rw[z,e]at h1;cases h1
theorem After.frm(a:After ρ M H ρ' M' H')(b:Addr)(o:HO)(e:H b=some o)(hb:∀k,k<M.length→ρ k≠b)(hn:∀ps,o≠.tbl ps:=by intro ps z;cases z):H' b=some o:=(a.oF b o e hb).resolve_right fun⟨ps,_,z,_⟩=>hn ps z
theorem RP.Q7(R:RP G ρ M H)(a:After ρ M H ρ' M' H'):nX G.K H':=R.sm.imp (fun⟨u,e,hu,ht,hq⟩=>⟨u,a.frm _ _ e (fun k hk=>R.ne e hu hk) hq,hu,ht,hq⟩) id
theorem RP.neT(R:RP G ρ M H){b:Addr}{ps:Array Value}(e:H b=some (.tbl ps)){k:Nat}(hk:k<M.length):ρ k≠b:=R.ne e (fun z=>z) hk
theorem RP.QH(R:RP G ρ M H){ρ':Nat→Addr}{n':Nat}(hC:∀b o,H b=some o→(∀k,k<M.length→ρ k≠b)→H' b=some o)(iX:∀k,k<M.length→ρ' k=ρ k)(new:∀k,M.length≤k→k<n'→H (ρ' k)=none):mB G.T ρ' n' H':=
 R.tab.keep (fun b ps e=>hC b _ e fun k hk=>R.neT e hk) (fun b f e h=>hC b _ e h) iX new
theorem nX.put{K:PySem.W.Frag}{D:Addr}{w w':HO}(h:nX K H)(e:H D=some w)(hw:t9 w):nX K (upd H D w'):=h.imp (fun⟨u,e1,hu,ht,hq⟩=>⟨u,by
 rw[upd_ne fun z=>hu (by rw[z,e]at e1;cases e1;exact hw)];exact e1,hu,ht,hq⟩) id
theorem After.refl:After ρ M H ρ M H:=⟨Nat.le_refl _,fun _ _=>rfl,fun _ _ e _=>.inl e,fun k h1 h2=>absurd h2 (Nat.not_lt.mpr h1),fun _ _ e=>⟨e,rfl⟩⟩
theorem After.trans(R:RP G ρ' M' H')(a:After ρ M H ρ' M' H')(b:After ρ' M' H' ρ'' M'' H''):After ρ M H ρ'' M'' H'' where
 len:=Nat.le_trans a.len b.len
 iX:=fun k hk=>(b.iX k (Nat.lt_of_lt_of_le hk a.len)).trans (a.iX k hk)
 oF:=fun c u e hc=>by
  have hc':∀k,k<M'.length→ρ' k≠c:=fun k hk=>by
   by_cases h:k<M.length
   ·rw[a.iX k h];exact hc k h
   ·intro z
    have:=a.new k (Nat.le_of_not_lt h) hk;rw[z,e]at this;cases this
  rcases a.oF c u e hc with q|⟨ps,ps',q1,q2⟩
  ·exact b.oF c u q hc'
  ·rcases b.oF c _ q2 hc' with q|⟨ps2,ps3,_,q4⟩
   ·exact .inr ⟨ps,ps',q1,q⟩
   ·exact .inr ⟨ps,ps3,q1,q4⟩
 new:=fun k h1 h2=>by
  by_cases h:k<M'.length
  ·rw[b.iX k h];exact a.new k h1 h
  ·have f:=b.new k (Nat.le_of_not_lt h) h2
   cases q:H (ρ'' k)with
   |none=>rfl
   |some u=>
    exfalso;by_cases hc:∀j,j<M.length→ρ j≠ρ'' k
    ·rcases a.oF _ _ q hc with this|⟨_,_,_,this⟩ <;> (rw[f]at this;cases this)
    ·have⟨j,hj⟩:=Classical.not_forall.mp hc
     have⟨hj1,hj2⟩:=Classical.not_imp.mp hj;have hj3:ρ j=ρ'' k:=Classical.not_not.mp hj2;obtain⟨v,h3,_⟩:=R.at (Nat.lt_of_lt_of_le hj1 a.len);rw[a.iX j hj1,hj3,f]at h3;cases h3
 cP:=fun k l e=>by
  obtain⟨e1,q1⟩:=a.cP k l e;obtain⟨e2,q2⟩:=b.cP k l e1;rw[a.iX k (bK e).1]at q2;exact⟨e2,q2.trans q1⟩
structure Carry(K:PySem.W.Frag)(ρ:Nat→Addr)(n:Nat)(H:Hp)(ρ':Nat→Addr)(n':Nat)(H':Hp):Prop where
 le:n≤n'
 iX:∀k,k<n→ρ' k=ρ k
 tup:∀b vs,H b=some (.tup vs)→H' b=some (.tup vs)
 Q8:∀b o u,¬ t9 (.frz o u)→H b=some (.frz o u)→H' b=some (.frz o u)
 xd:∀b fs,H b=some (.xd fs)→H' b=some (.xd fs)
theorem After.carry(R:RP G ρ M H)(a:After ρ M H ρ' M' H'):Carry G.K ρ M.length H ρ' M'.length H':=
 ⟨a.len,a.iX,fun b vs e=>a.frm b _ e fun k hk=>R.ne e (fun z=>z) hk,fun b o u hu e=>a.frm b _ e fun k hk=>R.ne e hu hk,fun b fs e=>a.frm b _ e fun k hk=>R.ne e (fun z=>z) hk⟩
variable{K:PySem.W.Frag}
theorem nV.carry(c:Carry K ρ n H ρ' n' H'){a:Addr}{xs:List V}(h:nV K H a xs):nV K H' a xs:=by
 rcases h with⟨o,h⟩|h
 ·exact .inl ⟨o,c.Q8 _ _ _ (fun z=>z) h⟩
 ·exact .inr h
mutual
theorem RV.carry(c:Carry K ρ n H ρ' n' H'):∀{x:EV} {v:V},RV K ρ n H x v→RV K ρ' n' H' x v
 |.non,_,h=>by unfold RV at *;exact h
 |.bl _,_,h=>by unfold RV at *;exact h
 |.int _,_,h=>by unfold RV at *;exact h
 |.str _,_,h=>by unfold RV at *;exact h
 |.tup xs,_,h=>by
  unfold RV at *
  obtain⟨a,vs,e,h1,h2⟩:=h;exact⟨a,vs,e,c.tup _ _ h1,aZ.carry c h2⟩
 |.ref k,_,h=>by
  unfold RV at *
  obtain⟨h1,h2⟩:=h;exact⟨Nat.lt_of_lt_of_le h1 c.le,by rw[c.iX k h1];exact h2⟩
 |.adr _,_,h=>by unfold RV at *;exact h
 |.ty _,_,h=>by unfold RV at *;exact h
 |.sl _,_,h=>by
  unfold RV at *
  obtain⟨a,e,h⟩:=h;exact⟨a,e,h.carry c⟩
 |.exc _,_,h=>by
  unfold RV at *
  obtain⟨a,o,e,h,z⟩:=h;exact⟨a,o,e,c.Q8 _ _ _ (fun z=>z) h,z⟩
 |.exf _ _ _,_,h=>by
  unfold RV at *
  obtain⟨a,o,d,u,e,h1,h2,z,r⟩:=h;exact⟨a,o,d,u,e,c.Q8 _ _ _ (fun z=>z) h1,c.xd _ _ h2,z,RV.carry c r⟩
theorem aZ.carry(c:Carry K ρ n H ρ' n' H'):∀{xs:List EV} {vs:List V},aZ K ρ n H xs vs→aZ K ρ' n' H' xs vs
 |[],_,h=>by unfold aZ at *;exact h
 |x :: xs,_,h=>by
  unfold aZ at *
  obtain⟨v,r,e,h1,h2⟩:=h;exact⟨v,r,e,RV.carry c h1,aZ.carry c h2⟩
end
theorem qG.carry(c:Carry K ρ n H ρ' n' H'):∀{xs:List (Str×EV)} {vs:List (Str×V)},qG K ρ n H xs vs→qG K ρ' n' H' xs vs
 |[],_,h=>h
 |x :: xs,_,⟨v,r,e,h1,h2⟩=>⟨v,r,e,h1.carry c,qG.carry c h2⟩
theorem bF.carry(c:Carry K ρ n H ρ' n' H'):∀{xs:bA} {vs:L2.St},bF K ρ n H xs vs→bF K ρ' n' H' xs vs
 |[],_,h=>h
 |none :: xs,_,⟨v,r,e,h2⟩=>⟨v,r,e,bF.carry c h2⟩
 |some x :: xs,_,⟨v,r,e,h1,h2⟩=>⟨v,r,e,h1.carry c,bF.carry c h2⟩
theorem kZ.carry(c:Carry K ρ n H ρ' n' H'):∀{xs:List (EV×EV)} {l:List (Leaf×V)},kZ K ρ n H xs l→kZ K ρ' n' H' xs l
 |[],_,h=>h
 |x :: xs,_,⟨k,v,r,e,h1,h2,h3⟩=>⟨k,v,r,e,h1,h2.carry c,kZ.carry c h3⟩
theorem kM.carry(c:Carry K ρ n H ρ' n' H'):∀{xs:List (EV×EV)} {l:List (NestedKey×Addr×V)},kM K ρ n H xs l→kM K ρ' n' H' xs l
 |[],_,h=>h
 |x :: xs,_,⟨k,a,v,r,e,h1,hd,h2,h3,h4⟩=>⟨k,a,v,r,e,h1,hd,h2.carry c,h3.carry c,kM.carry c h4⟩
theorem mE.carry(c:Carry G.K ρ n H ρ' n' H'){kvs:List (EV×EV)}{u:HO}(h:mE G ρ n H a kvs u):mE G ρ' n' H' a kvs u:=by
 rcases h with⟨l,e,h⟩|⟨l,e,h⟩
 ·exact .inl ⟨l,e,h.carry c⟩
 ·exact .inr ⟨l,e,h.carry c⟩
theorem RO.carry(c:Carry G.K ρ n H ρ' n' H')(e:H' a=H a)(h:RO G ρ n H a o):RO G ρ' n' H' a o:=by
 cases o with
 |lst xs=>obtain⟨vs,e1,h1⟩:=h;exact⟨vs,e.trans e1,h1.carry c⟩
 |ins C fs=>obtain⟨dx,vs,e1,h1⟩:=h;exact⟨dx,vs,e.trans e1,h1.carry c⟩
 |bR kvs=>obtain⟨u,e1,d⟩:=h;exact⟨u,e.trans e1,d.carry c⟩
 |cP kvs=>obtain⟨ob,u,e1,d⟩:=h;exact⟨ob,u,e.trans e1,d.carry c⟩
theorem vH(R:RP G ρ M H){p:Addr}(np:H p=none)(u:HO):After ρ M H ρ M (upd H p u)∧RP G ρ M (upd H p u):=by
 have af:After ρ M H ρ M (upd H p u):=⟨Nat.le_refl _,fun _ _=>rfl,fun b o e _=>.inl (by rw[upd_ne (ne_of_none e np)];exact e),fun k h1 h2=>absurd h2 (Nat.not_lt.mpr h1),fun k l e=>⟨e,upd_ne (R.oP np (bK e).1)⟩⟩;refine⟨af,fun k o e=>?_,R.inj,R.Q7 af,R.QH (fun b o e _=>by rw[upd_ne (ne_of_none e np)];exact e) (fun _ _=>rfl) fun k h1 h2=>absurd h2 (Nat.not_lt.mpr h1)⟩;have hk:k<M.length:=(bK e).1;exact(R.obj k o e).carry (af.carry R) (upd_ne (R.oP np hk))
def ext(ρ:Nat→Addr)(n:Nat)(p:Addr):Nat→Addr:=fun k=>if k=n then p else ρ k
theorem mM{p:Addr}:ext ρ n p n=p:=if_pos rfl
theorem lG{p:Addr}{k:Nat}(h:k<n):ext ρ n p k=ρ k:=if_neg (Nat.ne_of_lt h)
theorem alloc(R:RP G ρ M H){p:Addr}(np:H p=none)(u:HO)(o:EO)
  (h:Carry G.K ρ M.length H (ext ρ M.length p) (M.length+1) (upd H p u)→RO G (ext ρ M.length p) (M.length+1) (upd H p u) p o):
  After ρ M H (ext ρ M.length p) (M ++ [o]) (upd H p u)∧RP G (ext ρ M.length p) (M ++ [o]) (upd H p u):=by
 have ln:(M ++ [o]).length=M.length+1:=by simp
 have af:After ρ M H (ext ρ M.length p) (M ++ [o]) (upd H p u):=⟨by omega,fun k hk=>lG hk,fun b o e _=>.inl (by rw[upd_ne (ne_of_none e np)];exact e),fun k h1 h2=>by
  have:k=M.length:=by omega
  subst this;rw[mM];exact np,fun k l e=>⟨by rw[List.getElem?_append_left (bK e).1];exact e,upd_ne (R.oP np (bK e).1)⟩⟩
 refine⟨af,fun k o' e=>?_,fun j k hj hk e=>?_,R.Q7 af,R.QH (fun b o e _=>by rw[upd_ne (ne_of_none e np)];exact e) af.iX af.new⟩
 ·have hk:k<(M ++ [o]).length:=(bK e).1
  rw[ln];by_cases q:k<M.length
  ·rw[List.getElem?_append_left q]at e
   rw[lG q];have c:=af.carry R;rw[ln]at c;exact(R.obj k o' e).carry c (upd_ne (R.oP np q))
  ·have:k=M.length:=by omega
   subst this;rw[List.getElem?_append_right (Nat.le_refl _),Nat.sub_self]at e;cases e;rw[mM];have c:=af.carry R;rw[ln]at c;exact h c
 ·rw[ln]at hj hk
  by_cases q:j<M.length <;> by_cases r:k<M.length
  ·rw[lG q,lG r]at e;exact R.inj j k q r e
  ·have:k=M.length:=by omega
   subst this;rw[lG q,mM]at e;exact absurd e (R.oP np q)
  ·have:j=M.length:=by omega
   subst this;rw[lG r,mM]at e;exact absurd e.symm (R.oP np r)
  ·omega
theorem write(R:RP G ρ M H){k:Nat}(hk:k<M.length)(nl:∀l,M[k]?≠some (.cP l))(u:HO)(o:EO)
  (h:Carry G.K ρ M.length H ρ M.length (upd H (ρ k) u)→RO G ρ M.length (upd H (ρ k) u) (ρ k) o):
  After ρ M H ρ (M.set k o) (upd H (ρ k) u)∧RP G ρ (M.set k o) (upd H (ρ k) u):=by
 have ln:(M.set k o).length=M.length:=by simp
 have af:After ρ M H ρ (M.set k o) (upd H (ρ k) u):=⟨by omega,fun _ _=>rfl,fun b o e hb=>.inl (by rw[upd_ne (Ne.symm (hb k hk))];exact e),fun j h1 h2=>by omega,fun j l e=>by
  have nj:j≠k:=fun z=>by rw[z]at e;exact nl l e
  exact⟨by rw[List.getElem?_set_ne (Ne.symm nj)];exact e,upd_ne fun z=>nj (R.inj j k (bK e).1 hk z)⟩⟩
 have c:=af.carry R;rw[ln]at c;refine⟨af,fun j o' e=>?_,fun j j' hj hj'=>R.inj j j' (by omega) (by omega),R.Q7 af,R.QH (fun b o e hb=>by rw[upd_ne (Ne.symm (hb k hk))];exact e) af.iX af.new⟩;rw[ln];by_cases q:j=k
 ·subst q
  rw[List.getElem?_set_self hk]at e;cases e;exact h c
 ·rw[List.getElem?_set_ne (Ne.symm q)]at e
  have hj:j<M.length:=(bK e).1;exact(R.obj j o' e).carry c (upd_ne fun z=>q (R.inj j k hj hk z))
end
abbrev Rel(α β:Type):=PySem.W.Frag→(Nat→Addr)→Nat→Hp→α→β→Prop
def RX(K:PySem.W.Frag)(ρ:Nat→Addr)(n:Nat)(H:Hp)(x:Ex)(d:Option Addr):Prop:=
 match x.fs with
 |none=>d=none
 |some fs=>∃dx vs,d=some dx∧H dx=some (.xd vs)∧qG K ρ n H fs vs
def bI{α β:Type}(R:Rel α β)(G:Gr)(W:WX)(σ:L2.St)(ρ:Nat→Addr)(M:Mem)(H:Hp)(r:Res α)(Q:β→Hp→Prop):Prop:=
 match r with
 |.ok v M'=>∀ρ' H' v',After ρ M H ρ' M' H'→RP G ρ' M' H'→R G.K ρ' M'.length H' v v'→Q v' H'
 |.err x M'=>∀ρ' H' d,After ρ M H ρ' M' H'→RP G ρ' M' H'→RX G.K ρ' M'.length H' x d→W (.ref x.cls) d σ H'
 |.bad=>False
abbrev iE:=bI (α:=EV) (β:=V) fun K ρ n H=>RV K ρ n H
abbrev zGw:=bI (α:=List EV) (β:=List V) fun K ρ n H=>aZ K ρ n H
abbrev V2:=bI (α:=Bool) (β:=Bool) fun _ _ _ _ a b=>b=a
def iS(G:Gr)(W:WX)(ρ:Nat→Addr)(M:Mem)(H:Hp)(r:RS)(D:Ends):Prop:=
 match r with
 |.nx σe M'=>∀ρ' H' σ',After ρ M H ρ' M' H'→RP G ρ' M' H'→bF G.K ρ' M'.length H' σe σ'→D.nx σ' H'
 |.bk σe M'=>∀ρ' H' σ',After ρ M H ρ' M' H'→RP G ρ' M' H'→bF G.K ρ' M'.length H' σe σ'→D.bk σ' H'
 |.ct σe M'=>∀ρ' H' σ',After ρ M H ρ' M' H'→RP G ρ' M' H'→bF G.K ρ' M'.length H' σe σ'→D.ct σ' H'
 |.rt v M'=>∀ρ' H' v',After ρ M H ρ' M' H'→RP G ρ' M' H'→RV G.K ρ' M'.length H' v v'→D.rt v' H'
 |.err x σe M'=>∀ρ' H' σ' d,After ρ M H ρ' M' H'→RP G ρ' M' H'→bF G.K ρ' M'.length H' σe σ'→RX G.K ρ' M'.length H' x d→W (.ref x.cls) d σ' H'
 |.bad=>False
section
variable{α β γ δ:Type}{R:Rel α β}{R':Rel γ δ}{G:Gr}{W:WX}{σ:L2.St}{ρ ρ':Nat→Addr}{M M':Mem}{H H':Hp}
theorem bI.shift{r:Res α}{Q:β→Hp→Prop}(p:bI R G W σ ρ M H r Q)(rp:RP G ρ' M' H')(a:After ρ M H ρ' M' H'):bI R G W σ ρ' M' H' r Q:=by
 cases r with
 |ok v M1=>exact fun ρ1 H1 v1 b bB q=>p ρ1 H1 v1 (a.trans rp b) bB q
 |err x M1=>exact fun ρ1 H1 d b bB q=>p ρ1 H1 d (a.trans rp b) bB q
 |bad=>exact p
theorem iS.shift{r:RS}{D:Ends}(p:iS G W ρ M H r D)(rp:RP G ρ' M' H')(a:After ρ M H ρ' M' H'):iS G W ρ' M' H' r D:=by
 cases r with
 |nx s M1=>exact fun ρ1 H1 v1 b bB q=>p ρ1 H1 v1 (a.trans rp b) bB q
 |bk s M1=>exact fun ρ1 H1 v1 b bB q=>p ρ1 H1 v1 (a.trans rp b) bB q
 |ct s M1=>exact fun ρ1 H1 v1 b bB q=>p ρ1 H1 v1 (a.trans rp b) bB q
 |rt v M1=>exact fun ρ1 H1 v1 b bB q=>p ρ1 H1 v1 (a.trans rp b) bB q
 |err x s M1=>exact fun ρ1 H1 v1 d b bB q=>p ρ1 H1 v1 d (a.trans rp b) bB q
 |bad=>exact p
theorem bI.bind{r:Res α}{g:α→Mem→Res γ}{Q:δ→Hp→Prop}{Q1:β→Hp→Prop}(p:bI R' G W σ ρ M H (r.bind g) Q)
  (h:∀v M1 ρ1 H1 v1,r = .ok v M1→After ρ M H ρ1 M1 H1→RP G ρ1 M1 H1→R G.K ρ1 M1.length H1 v v1→bI R' G W σ ρ1 M1 H1 (g v M1) Q→Q1 v1 H1):bI R G W σ ρ M H r Q1:=by
 cases r with
 |ok v M1=>exact fun ρ1 H1 v1 a rp q=>h v M1 ρ1 H1 v1 rfl a rp q (bI.shift (r:=g v M1) p rp a)
 |err x M1=>exact p
 |bad=>exact p
theorem bI.ok0{v:α}{v':β}{Q:β→Hp→Prop}(p:bI R G W σ ρ M H (.ok v M) Q)(rp:RP G ρ M H)(r:R G.K ρ M.length H v v'):Q v' H:=p ρ H v' .refl rp r
end
end WS
namespace WS
variable[bG]
open PySem PySem.Spec PyProof.Rows L2
abbrev FE:=bA→Mem→Res EV
abbrev FT:=bA→Mem→Res Bool
abbrev FA:=bA→Mem→Res (List EV)
abbrev FS:=bA→Mem→RS
def nT(G:Gr)(W:WX)(t:TE)(f:FE):Prop:=∀ρ σe σ M H Q,bF G.K ρ M.length H σe σ→RP G ρ M H→iE G W σ ρ M H (f σe M) Q→t σ H Q
def vT(G:Gr)(W:WX)(t:TT)(f:FT):Prop:=∀ρ σe σ M H Q,bF G.K ρ M.length H σe σ→RP G ρ M H→V2 G W σ ρ M H (f σe M) Q→t σ H Q
def SimA(G:Gr)(W:WX)(t:TA)(f:FA):Prop:=∀ρ σe σ M H Q,bF G.K ρ M.length H σe σ→RP G ρ M H→zGw G W σ ρ M H (f σe M) Q→t σ H Q
def Q2(G:Gr)(W:WX)(t:TS)(f:FS):Prop:=∀ρ σe σ M H D,bF G.K ρ M.length H σe σ→RP G ρ M H→iS G W ρ M H (f σe M) D→t D σ H
structure SE(X:Cx)(W:WX)(e:Expr)(f:FE):Prop where
 ex:∃t,PE X e t∧nT (gr X) W t f
structure ST(X:Cx)(W:WX)(e:Expr)(f:FT):Prop where
 ex:∃t,PT X e t∧vT (gr X) W t f
structure SW(X:Cx)(W:WX)(e:Expr)(f:FT):Prop where
 ex:∃t,PW X e t∧vT (gr X) W t f
structure SA(X:Cx)(W:WX)(es:List Expr)(f:FA):Prop where
 ex:∃t,PA X es t∧SimA (gr X) W t f
structure SS(X:Cx)(W:WX)(s:Stmt)(f:FS):Prop where
 ex:∃t,PS X s t∧Q2 (gr X) W t f
structure nW(X:Cx)(W:WX)(ss:List Stmt)(f:FS):Prop where
 ex:∃t,PSs X ss t∧Q2 (gr X) W t f
section
variable{K:PySem.W.Frag}{ρ:Nat→Addr}{n:Nat}{H:Hp}
theorem aZ.length:∀{xs:List EV} {vs:List V},aZ K ρ n H xs vs→vs.length=xs.length
 |[],_,h=>by unfold aZ at h;rw[h];rfl
 |x :: xs,_,h=>by
  unfold aZ at h;obtain⟨v,r,e,h1,h2⟩:=h;rw[e,List.length_cons,List.length_cons,aZ.length h2]
theorem aZ.get:∀{xs:List EV} {vs:List V} {i:Nat} {x:EV},aZ K ρ n H xs vs→xs[i]? = some x→∃v,vs[i]? = some v∧RV K ρ n H x v
 |[],_,i,x,h,e=>by simp at e
 |y :: xs,_,0,x,h,e=>by
  unfold aZ at h;obtain⟨v,r,e1,h1,h2⟩:=h;simp at e;subst e;exact⟨v,by rw[e1];rfl,h1⟩
 |y :: xs,_,i+1,x,h,e=>by
  unfold aZ at h;obtain⟨v,r,e1,h1,h2⟩:=h;obtain⟨u,q1,q2⟩:=aZ.get (i:=i) h2 (by simpa using e);exact⟨u,by rw[e1];simpa using q1,q2⟩
theorem aZ.nil:aZ K ρ n H [] []:=by unfold aZ;rfl
theorem aZ.cons{x:EV}{v:V}{xs:List EV}{vs:List V}(a:RV K ρ n H x v)(b:aZ K ρ n H xs vs):aZ K ρ n H (x :: xs) (v :: vs):=by
 unfold aZ;exact⟨v,vs,rfl,a,b⟩
theorem aZ.append:∀{xs ys:List EV} {vs ws:List V},aZ K ρ n H xs vs→aZ K ρ n H ys ws→aZ K ρ n H (xs++ys) (vs++ws)
 |[],_,_,_,h,g=>by unfold aZ at h;subst h;exact g
 |x :: xs,_,_,_,h,g=>by
  unfold aZ at h;obtain⟨v,r,e,h1,h2⟩:=h;subst e;exact aZ.cons h1 (aZ.append h2 g)
theorem aZ.take:∀(k:Nat) {xs:List EV} {vs:List V},aZ K ρ n H xs vs→aZ K ρ n H (xs.take k) (vs.take k)
 |0,_,_,_=>aZ.nil
 |k+1,[],_,h=>by unfold aZ at h;subst h;exact aZ.nil
 |k+1,x :: xs,_,h=>by
  unfold aZ at h;obtain⟨v,r,e,h1,h2⟩:=h;subst e;exact aZ.cons h1 (aZ.take k h2)
theorem aZ.drop:∀(k:Nat) {xs:List EV} {vs:List V},aZ K ρ n H xs vs→aZ K ρ n H (xs.drop k) (vs.drop k)
 |0,_,_,h=>h
 |k+1,[],_,h=>by unfold aZ at h;subst h;exact aZ.nil
 |k+1,x :: xs,_,h=>by
  unfold aZ at h;obtain⟨v,r,e,h1,h2⟩:=h;subst e;exact aZ.drop k h2
theorem aZ.set{x:EV}{v:V}(a:RV K ρ n H x v):∀(k:Nat) {xs:List EV} {vs:List V},aZ K ρ n H xs vs→aZ K ρ n H (xs.set k x) (vs.set k v)
 |_,[],_,h=>by unfold aZ at h;subst h;exact aZ.nil
 |0,y :: xs,_,h=>by
  unfold aZ at h;obtain⟨w,r,e,h1,h2⟩:=h;subst e;exact aZ.cons a h2
 |k+1,y :: xs,_,h=>by
  unfold aZ at h;obtain⟨w,r,e,h1,h2⟩:=h;subst e;exact aZ.cons h1 (aZ.set a k h2)
theorem aZ.ints:∀(l:List Int),aZ K ρ n H (l.map EV.int) (l.map V.int)
 |[]=>aZ.nil
 |i :: l=>aZ.cons (by unfold RV;rfl) (aZ.ints l)
theorem bF.get:∀{xs:bA} {vs:L2.St} {i:Nat} {x:EV},bF K ρ n H xs vs→xs[i]? = some (some x)→∃v,vs[i]? = some (some v)∧RV K ρ n H x v
 |[],_,_,_,_,e=>by simp at e
 |none :: xs,_,0,x,⟨v,r,e1,h2⟩,e=>by simp at e
 |none :: xs,_,i+1,x,⟨v,r,e1,h2⟩,e=>by
  obtain⟨u,q1,q2⟩:=bF.get (i:=i) h2 (by simpa using e);exact⟨u,by rw[e1];simpa using q1,q2⟩
 |some y :: xs,_,0,x,⟨v,r,e1,h1,h2⟩,e=>by
  simp at e;subst e;exact⟨v,by rw[e1];rfl,h1⟩
 |some y :: xs,_,i+1,x,⟨v,r,e1,h1,h2⟩,e=>by
  obtain⟨u,q1,q2⟩:=bF.get (i:=i) h2 (by simpa using e);exact⟨u,by rw[e1];simpa using q1,q2⟩
theorem bF.set{x:EV}{v:V}(a:RV K ρ n H x v):∀(i:Nat) {xs:bA} {vs:L2.St},bF K ρ n H xs vs→bF K ρ n H (xs.set i (some x)) (vs.set i (some v))
 |_,[],_,h=>by rw[show _=_ from h];rfl
 |0,none :: xs,_,⟨w,r,e,h2⟩=>⟨v,r,by rw[e];rfl,a,h2⟩
 |0,some y :: xs,_,⟨w,r,e,h1,h2⟩=>⟨v,r,by rw[e];rfl,a,h2⟩
 |i+1,none :: xs,_,⟨w,r,e,h2⟩=>⟨w,r.set i (some v),by rw[e];rfl,bF.set a i h2⟩
 |i+1,some y :: xs,_,⟨w,r,e,h1,h2⟩=>⟨w,r.set i (some v),by rw[e];rfl,h1,bF.set a i h2⟩
theorem bF.start:∀{N:List Str} {es:List EV} {vs:List V},aZ K ρ n H es vs→es.length≤N.length→bF K ρ n H (es.map some++List.replicate (N.length-es.length) none) (L2.start N vs):=by
 intro N es vs h hl;have nones:∀(k:Nat),bF K ρ n H (List.replicate k none) (List.replicate k none):=by
  intro k
  induction k with
  |zero=>rfl
  |succ k ih=>exact⟨none,_,rfl,ih⟩
 have all:∀{es:List EV} {vs:List V} (k:Nat),aZ K ρ n H es vs→bF K ρ n H (es.map some++List.replicate k none) (vs.map some++List.replicate k none):=by
  intro es
  induction es with
  |nil=>intro vs k h;unfold aZ at h;subst h;exact nones k
  |cons x xs ih=>
   intro vs k h;unfold aZ at h;obtain⟨v,r,e,h1,h2⟩:=h;subst e;exact⟨v,_,rfl,h1,ih k h2⟩
 have e:=h.length;have q:=all (N.length-es.length) h;show bF K ρ n H _ (vs.map some++List.replicate (N.length-vs.length) none);rw[e];exact q
end
def eV(i:Nat):FE:=fun σ M=>match σ[i]? with
 |some (some v)=>.ok v M
 |_=>.bad
def eC(v:EV):FE:=fun _ M=>.ok v M
section
variable{X:Cx}{W:WX}
theorem sV(i:Nat){x:Str}{pos:Pos}(hN:X.N[i]? = some x:=by rfl)(hv:Vis X.env.scope x:=by first|exact Or.inl rfl|exact Or.inr (Or.inl rfl)|exact Or.inr (Or.inr rfl))(hd:(x == ("__debug__" : Str))=false:=by decide)
  (hcd:(x == ("__classdict__" : Str))=false:=by decide):SE X W (.Name x pos) (eV i):=by
 refine⟨_,pe_var hN hv hd hcd,fun ρ σe σ M H Q hs hp h=>?_⟩;unfold eV at h;cases q:σe[i]? with
 |none=>rw[q]at h;exact h.elim
 |some o=>
  cases o with
  |none=>rw[q]at h;exact h.elim
  |some v=>
   rw[q]at h;obtain⟨u,h1,h2⟩:=hs.get q;exact⟨u,h1,bI.ok0 (R:=fun K ρ n H=>RV K ρ n H) h hp h2⟩
theorem sY{v:EV}{u:V}(h:∀K ρ n H,RV K ρ n H v u)(G:Gr):nT G W (tC u) (eC v):=fun ρ σe σ M H Q hs hp q=>bI.ok0 (R:=fun K ρ n H=>RV K ρ n H) q hp (h _ _ _ _)
theorem sI{i:Int}{j pos}:SE X W (.Constant (.int i) j pos) (eC (.int i)):=⟨_,pe_int,sY (fun _ _ _ _=>by unfold RV;rfl) _⟩
theorem sB{b:Bool}{j pos}:SE X W (.Constant (.bool b) j pos) (eC (.bl b)):=⟨_,pe_bl,sY (fun _ _ _ _=>by unfold RV;rfl) _⟩
theorem sN{j pos}:SE X W (.Constant .none j pos) (eC .non):=⟨_,pe_non,sY (fun _ _ _ _=>by unfold RV;rfl) _⟩
theorem sS{x:Str}{j pos}:SE X W (.Constant (.str x) j pos) (eC (.str x)):=⟨_,pe_str,sY (fun _ _ _ _=>by unfold RV;rfl) _⟩
theorem sG{x:Str}{v:V}{ev:EV}{u:Value}{pos:Pos}(hg:Gl X x)(hm:X.mg x=some u)(r:RelV v u)(hv:∀K ρ n H,RV K ρ n H ev v)(hd:(x == ("__debug__" : Str))=false:=by decide):SE X W (.Name x pos) (eC ev):=
 ⟨_,pe_glob hg hm r hd,sY hv _⟩
theorem sGR{x:Str}{a:Addr}{pos:Pos}(hg:Gl X x)(hm:X.mg x=some (.ref a))(hd:(x == ("__debug__" : Str))=false:=by decide):SE X W (.Name x pos) (eC (.adr a)):=
 sG (v:=.ref a) hg hm rfl (fun _ _ _ _=>by unfold RV;rfl) hd
theorem sTy{x:Str}{T:String}{pos:Pos}(hg:Gl X x)(hm:X.mg x=none)(hv:bootBuiltins x=some (.type T))(hn:x≠"__name__":=by decide)(hd:(x == ("__debug__" : Str))=false:=by decide):SE X W (.Name x pos) (eC (.ty T)):=
 ⟨_,pe_bltn (v:=.ty T) hg hm hv rfl hn hd,sY (fun _ _ _ _=>by unfold RV;rfl) _⟩
end
def nB(G:Gr)(W:WX)(r:V→V→Hp→VK→Prop)(F:EV→EV→Mem→Res EV):Prop:=
 ∀(σ:L2.St) ρ M H x y x' y' Q,RP G ρ M H→RV G.K ρ M.length H x x'→RV G.K ρ M.length H y y'→iE G W σ ρ M H (F x y M) Q→r x' y' H Q
def UnS(G:Gr)(W:WX)(r:V→Hp→VK→Prop)(F:EV→Mem→Res EV):Prop:=
 ∀(σ:L2.St) ρ M H x x' Q,RP G ρ M H→RV G.K ρ M.length H x x'→iE G W σ ρ M H (F x M) Q→r x' H Q
def e2(op:EV→EV→Mem→Res EV)(f g:FE):FE:=fun σ M=>(f σ M).bind fun v M1=>(g σ M1).bind fun w M2=>op v w M2
def e1(op:EV→Mem→Res EV)(f:FE):FE:=fun σ M=>(f σ M).bind fun v M1=>op v M1
structure lU(X:Cx)(W:WX)(op:Operator)(F:EV→EV→Mem→Res EV):Prop where
 ex:∃r,OpR X (binaryOp op) r∧nB (gr X) W r F
structure mK(X:Cx)(W:WX)(op:CmpOp)(F:EV→EV→Mem→Res EV):Prop where
 ex:∃r,OpR X (compareOp op) r∧nB (gr X) W r F
structure SUn(X:Cx)(W:WX)(op:UnaryOp)(F:EV→Mem→Res EV):Prop where
 ex:∃r,UnR X (unaryOp op) r∧UnS (gr X) W r F
section
variable{X:Cx}{W:WX}{a b:Expr}{f g:FE}{pos:Pos}
theorem vG{G:Gr}{ta tb:TE}{r:V→V→Hp→VK→Prop}{F:EV→EV→Mem→Res EV}(ha:nT G W ta f)(hb:nT G W tb g)(ho:nB G W r F):nT G W (tOp r ta tb) (e2 F f g):=by
 intro ρ σe σ M H Q hs hp h;refine ha ρ σe σ M H _ hs hp (bI.bind h fun v M1 ρ1 H1 v1 _ a1 bB r1 h1=>?_);refine hb ρ1 σe σ M1 H1 _ (hs.carry (a1.carry hp)) bB (bI.bind h1 fun w M2 ρ2 H2 w2 _ a2 k8 r2 h2=>?_);exact ho σ ρ2 M2 H2 v w v1 w2 Q k8 (r1.carry (a2.carry bB)) r2 h2
theorem bQ{op:Operator}{F:EV→EV→Mem→Res EV}(ho:lU X W op F)(ha:SE X W a f)(hb:SE X W b g):SE X W (.BinOp a op b pos) (e2 F f g):=by
 obtain⟨r,o1,o2⟩:=ho;obtain⟨ta,a1,a2⟩:=ha;obtain⟨tb,b1,b2⟩:=hb;exact⟨_,pe_op o1 a1 b1,vG a2 b2 o2⟩
theorem sCmp{op:CmpOp}{F:EV→EV→Mem→Res EV}(ho:mK X W op F)(ha:SE X W a f)(hb:SE X W b g)(hm:behindInMarks op b=false):SE X W (.Compare a [op] [b] pos) (e2 F f g):=by
 obtain⟨r,o1,o2⟩:=ho;obtain⟨ta,a1,a2⟩:=ha;obtain⟨tb,b1,b2⟩:=hb;exact⟨_,pe_cmpR o1 a1 b1 hm,vG a2 b2 o2⟩
def eChain(op op':EV→EV→Mem→Res EV)(f g h:FE):FE:=fun σ M=>(f σ M).bind fun v M1=>(g σ M1).bind fun w M2=>(op v w M2).bind fun z M3=>match z with
 |.bl true=>(h σ M3).bind fun u M4=>op' w u M4
 |.bl false=>.ok (.bl false) M3
 |_=>.bad
def mX(f:FE):FT:=fun σ M=>(f σ M).bind fun v M1=>match v with
 |.bl b=>.ok b M1
 |_=>.bad
theorem simB{G:Gr}{ta:TE}(ha:nT G W ta f):vT G W (tB ta) (mX f):=by
 intro ρ σe σ M H Q hs hp h;refine ha ρ σe σ M H _ hs hp (bI.bind h fun v M1 ρ1 H1 v1 _ a1 bB r1 h1=>?_);cases v with
 |bl k=>
  unfold RV at r1;exact⟨k,r1,bI.ok0 (R:=fun _ _ _ _ a b=>b=a) h1 bB rfl⟩
 |_=>exact h1.elim
theorem tVal{e:Expr}(h:SE X W e f)(he:∀whole,isTrue e X.env whole=(do let v ← whole;standAt e.pos;holding [v] (truthy v)):=by intro _;rfl):ST X W e (mX f):=by
 obtain⟨t,h1,h2⟩:=h;exact⟨_,pt_val h1 he,simB h2⟩
theorem tCmp{op:CmpOp}{F:EV→EV→Mem→Res EV}(ho:mK X W op F)(ha:SE X W a f)(hb:SE X W b g)(hm:behindInMarks op b=false):ST X W (.Compare a [op] [b] pos) (mX (e2 F f g)):=by
 obtain⟨r,o1,o2⟩:=ho;obtain⟨ta,a1,a2⟩:=ha;obtain⟨tb,b1,b2⟩:=hb;exact⟨_,pt_cmpR o1 a1 b1 hm,simB (vG a2 b2 o2)⟩
def tNot(t:FT):FT:=fun σ M=>(t σ M).bind fun b M1=>.ok (!b) M1
def tAnd(t u:FT):FT:=fun σ M=>(t σ M).bind fun b M1=>if b=true then u σ M1 else .ok false M1
def tOr(t u:FT):FT:=fun σ M=>(t σ M).bind fun b M1=>if b=true then .ok true M1 else u σ M1
variable{p q:FT}{rest:List Expr}
theorem VJ(h:ST X W a p):ST X W (.UnaryOp .Not a pos) (tNot p):=by
 obtain⟨t,h1,h2⟩:=h;refine⟨_,pt_not h1,fun ρ σe σ M H Q hs hp h=>?_⟩;refine h2 ρ σe σ M H _ hs hp (bI.bind h fun v M1 ρ1 H1 v1 _ a1 bB r1 h1=>?_);subst r1;exact bI.ok0 (R:=fun _ _ _ _ a b=>b=a) h1 bB rfl
theorem zDN(h:ST X W a p):SW X W (.BoolOp .And [a] pos) p:=by
 obtain⟨t,h1,h2⟩:=h;exact⟨_,pw_and1 h1,h2⟩
theorem tOr1(h:ST X W a p):SW X W (.BoolOp .Or [a] pos) p:=by
 obtain⟨t,h1,h2⟩:=h;exact⟨_,pw_or1 h1,h2⟩
theorem zDM(h:ST X W a p)(k:SW X W (.BoolOp .And (b :: rest) pos) q):SW X W (.BoolOp .And (a :: b :: rest) pos) (tAnd p q):=by
 obtain⟨t,h1,h2⟩:=h;obtain⟨u,k1,k2⟩:=k;refine⟨_,pw_and h1 k1,fun ρ σe σ M H Q hs hp h=>?_⟩;refine h2 ρ σe σ M H _ hs hp (bI.bind h fun v M1 ρ1 H1 v1 _ a1 bB r1 h1=>?_);subst r1;show if v1=true then u σ H1 Q else Q false H1
 cases v1 with
 |true=>rw[if_pos rfl]at h1 ⊢;exact k2 ρ1 σe σ M1 H1 Q (hs.carry (a1.carry hp)) bB h1
 |false=>rw[if_neg Bool.false_ne_true]at h1 ⊢;exact bI.ok0 (R:=fun _ _ _ _ a b=>b=a) h1 bB rfl
theorem tOrC(h:ST X W a p)(k:SW X W (.BoolOp .Or (b :: rest) pos) q):SW X W (.BoolOp .Or (a :: b :: rest) pos) (tOr p q):=by
 obtain⟨t,h1,h2⟩:=h;obtain⟨u,k1,k2⟩:=k;refine⟨_,pw_or h1 k1,fun ρ σe σ M H Q hs hp h=>?_⟩;refine h2 ρ σe σ M H _ hs hp (bI.bind h fun v M1 ρ1 H1 v1 _ a1 bB r1 h1=>?_);subst r1;show if v1=true then Q true H1 else u σ H1 Q
 cases v1 with
 |false=>rw[if_neg Bool.false_ne_true]at h1 ⊢;exact k2 ρ1 σe σ M1 H1 Q (hs.carry (a1.carry hp)) bB h1
 |true=>rw[if_pos rfl]at h1 ⊢;exact bI.ok0 (R:=fun _ _ _ _ a b=>b=a) h1 bB rfl
theorem SW.st(h:SW X W a p):ST X W a p:=by
 obtain⟨t,h1,h2⟩:=h;exact⟨_,h1.pt,h2⟩
end
def bJ:FA:=fun _ M=>.ok [] M
def a8(f:FE)(g:FA):FA:=fun σ M=>(f σ M).bind fun v M1=>(g σ M1).bind fun vs M2=>.ok (v :: vs) M2
def kP(xs:List EV)(M:Mem):Res EV:=if xs.length≤sizeLine then .ok (.ref M.length) (M ++ [.lst xs])else .bad
def m4(xs:List EV)(M:Mem):Res EV:=if xs.length≤sizeLine then .ok (.tup xs) M else .bad
section
variable{X:Cx}{W:WX}{pos:Pos}{e:Expr}{es:List Expr}{f:FE}{g:FA}
theorem bW:SA X W [] bJ:=⟨_,pa_nil,fun ρ σe σ M H Q hs hp h=>bI.ok0 (R:=fun K ρ n H=>aZ K ρ n H) h hp aZ.nil⟩
theorem bC(he:SE X W e f)(hr:SA X W es g)(hs:starEach (e :: es) X.env=(false,eval e X.env) :: starEach es X.env:=by rfl):SA X W (e :: es) (a8 f g):=by
 obtain⟨t,h1,h2⟩:=he;obtain⟨u,k1,k2⟩:=hr;refine⟨_,pa_cons h1 k1 hs,fun ρ σe σ M H Q hs hp h=>?_⟩;refine h2 ρ σe σ M H _ hs hp (bI.bind h fun v M1 ρ1 H1 v1 _ a1 bB r1 h1=>?_);refine k2 ρ1 σe σ M1 H1 _ (hs.carry (a1.carry hp)) bB (bI.bind h1 fun w M2 ρ2 H2 w2 _ a2 k8 r2 h2=>?_);exact bI.ok0 (R:=fun K ρ n H=>aZ K ρ n H) h2 k8 (aZ.cons (r1.carry (a2.carry bB)) r2)
theorem C1{G:Gr}{σ:L2.St}{ρ:Nat→Addr}{M:Mem}{H:Hp}{xs:List EV}{vs:List V}{Q:VK}(hp:RP G ρ M H)(r:aZ G.K ρ M.length H xs vs)(h:iE G W σ ρ M H (kP xs M) Q):
  vs.length≤sizeLine∧∀p,H p=none→Q (.ref p) (upd H p (.lst vs)):=by
 unfold kP at h;by_cases q:xs.length≤sizeLine
 ·rw[if_pos q]at h
  refine⟨by rw[r.length];exact q,fun p np=>?_⟩;obtain⟨a,rp⟩:=alloc hp np (.lst vs) (.lst xs) fun c=>⟨vs,upd_same,r.carry c⟩;exact h _ _ _ a rp (by unfold RV;exact⟨by simp,by rw[mM]⟩)
 ·rw[if_neg q]at h
  exact h.elim
theorem OE{G:Gr}{σ:L2.St}{ρ:Nat→Addr}{M:Mem}{H:Hp}{xs:List EV}{vs:List V}{Q:VK}(hp:RP G ρ M H)(r:aZ G.K ρ M.length H xs vs)(h:iE G W σ ρ M H (m4 xs M) Q):
  vs.length≤sizeLine∧∀p,H p=none→Q (.ref p) (upd H p (.tup vs)):=by
 unfold m4 at h;by_cases q:xs.length≤sizeLine
 ·rw[if_pos q]at h
  refine⟨by rw[r.length];exact q,fun p np=>?_⟩;obtain⟨a,rp⟩:=vH hp np (.tup vs);exact h _ _ _ a rp (by unfold RV;exact⟨p,vs,rfl,upd_same,r.carry (a.carry hp)⟩)
 ·rw[if_neg q]at h
  exact h.elim
def kJ(g:FA):FE:=fun σ M=>(g σ M).bind fun xs M1=>kP xs M1
def vP(g:FA):FE:=fun σ M=>(g σ M).bind fun xs M1=>m4 xs M1
theorem kU(h:SA X W es g):SE X W (.List es pos) (kJ g):=by
 obtain⟨t,h1,h2⟩:=h;refine⟨_,pe_lst h1,fun ρ σe σ M H Q hs hp h=>?_⟩;refine h2 ρ σe σ M H _ hs hp (bI.bind h fun v M1 ρ1 H1 v1 _ a1 bB r1 h1=>?_);exact C1 bB r1 h1
theorem QJ{x1}(h:SA X W es g):SE X W (.Tuple es x1 pos) (vP g):=by
 obtain⟨t,h1,h2⟩:=h;refine⟨_,pe_tup h1,fun ρ σe σ M H Q hs hp h=>?_⟩;refine h2 ρ σe σ M H _ hs hp (bI.bind h fun v M1 ρ1 H1 v1 _ a1 bB r1 h1=>?_);exact OE bB r1 h1
end
end WS
namespace WS
variable[bG]
open PySem PySem.Spec PyProof.Rows L2
open Classical
def d9(σ:bA):List (Nat×EV)→bA
 |[]=>σ
 |p :: r=>d9 (σ.set p.1 (some p.2)) r
def puts(σ:L2.St):List (Nat×V)→L2.St
 |[]=>σ
 |p :: r=>puts (σ.set p.1 (some p.2)) r
def oM(K:PySem.W.Frag)(ρ:Nat→Addr)(n:Nat)(H:Hp):List (Nat×EV)→List (Nat×V)→Prop
 |[],l=>l = []
 |p :: r,l=>∃v s,l=(p.1,v) :: s∧RV K ρ n H p.2 v∧oM K ρ n H r s
section
variable{K:PySem.W.Frag}{ρ:Nat→Addr}{n:Nat}{H:Hp}
theorem bF.puts:∀{l:List (Nat×EV)} {l':List (Nat×V)} {σe:bA} {σ:L2.St},bF K ρ n H σe σ→oM K ρ n H l l'→bF K ρ n H (d9 σe l) (puts σ l')
 |[],_,_,_,h,e=>by rw[show _=_ from e];exact h
 |p :: r,_,σe,σ,h,⟨v,s,e,h1,h2⟩=>by
  have q:bF K ρ n H (σe.set p.1 (some p.2)) (σ.set p.1 (some v)):=bF.set h1 p.1 h;have z:=bF.puts (l:=r) (l':=s) q h2;rw[e];exact z
theorem oM.map:∀{l:List (Nat×EV)} {l':List (Nat×V)},oM K ρ n H l l'→l'.map (·.1)=l.map (·.1)
 |[],_,e=>by rw[show _=_ from e];rfl
 |p :: r,_,⟨v,s,e,h1,h2⟩=>by rw[e,List.map_cons,List.map_cons,oM.map h2]
def kI(σ:bA):List Nat→bA
 |[]=>σ
 |v :: vs=>(kI σ vs).set v none
theorem bF.clear:∀(i:Nat) {xs:bA} {vs:L2.St},bF K ρ n H xs vs→bF K ρ n H (xs.set i none) (vs.set i none)
 |_,[],_,h=>by rw[show _=_ from h];rfl
 |0,none :: xs,_,⟨w,r,e,h2⟩=>⟨none,r,by rw[e];rfl,h2⟩
 |0,some y :: xs,_,⟨w,r,e,h1,h2⟩=>⟨none,r,by rw[e];rfl,h2⟩
 |i+1,none :: xs,_,⟨w,r,e,h2⟩=>⟨w,r.set i none,by rw[e];rfl,bF.clear i h2⟩
 |i+1,some y :: xs,_,⟨w,r,e,h1,h2⟩=>⟨w,r.set i none,by rw[e];rfl,h1,bF.clear i h2⟩
theorem bF.wipe{σe:bA}{σ:L2.St}(h:bF K ρ n H σe σ):∀vs:List Nat,bF K ρ n H (kI σe vs) (L2.wipe σ vs)
 |[]=>h
 |v :: vs=>by unfold kI L2.wipe;exact(bF.wipe h vs).clear v
end
theorem CZ(σ:L2.St)(i:Nat)(o:Option V):∀vs:List Nat,i∈vs→L2.wipe (σ.set i o) vs=L2.wipe σ vs
 |[],h=>absurd h (by simp)
 |v :: vs,h=>by
  unfold L2.wipe;by_cases e:v=i
  ·subst e
   by_cases q:v∈vs
   ·rw[CZ σ v o vs q]
   ·have:∀ws:List Nat,v∉ws→L2.wipe (σ.set v o) ws=(L2.wipe σ ws).set v o:=by
     intro ws
     induction ws with
     |nil=>intro _;rfl
     |cons w ws ih=>
      intro hn;have h1:v≠w:=fun z=>hn (by simp[z]);have h2:v∉ws:=fun z=>hn (by simp[z]);unfold L2.wipe;rw[ih h2,List.set_comm _ _ h1]
    rw[this vs q,List.set_set]
  ·have q:i∈vs:=by
    rcases List.mem_cons.mp h with z|z
    ·exact absurd z.symm e
    ·exact z
   rw[CZ σ i o vs q]
theorem XH(σ:L2.St):∀vs:List Nat,L2.wipe (L2.wipe σ vs) vs=L2.wipe σ vs:=by
 have gen:∀(us vs:List Nat),(∀u∈us,u∈vs)→L2.wipe (L2.wipe σ us) vs=L2.wipe σ vs:=by
  intro us
  induction us with
  |nil=>intro vs _;rfl
  |cons u us ih=>
   intro vs h;show L2.wipe ((L2.wipe σ us).set u none) vs=_;rw[CZ _ u none vs (h u (by simp)),ih vs fun w hw=>h w (by simp[hw])]
 exact fun vs=>gen vs vs fun _ h=>h
theorem TH(vs:List Nat):∀(l:List (Nat×V)) (σ:L2.St),(∀p∈l,p.1∈vs)→L2.wipe (puts σ l) vs=L2.wipe σ vs
 |[],_,_=>rfl
 |p :: r,σ,h=>by
  unfold puts;rw[TH vs r _ fun q hq=>h q (by simp[hq]),CZ _ _ _ _ (h p (by simp))]
def getL(M:Mem):EV→Option (List EV)
 |.ref k=>match M[k]? with
  |some (.lst xs)=>some xs
  |_=>none
 |.sl xs=>some (xs.map .int)
 |_=>none
def l4(M:Mem):EV→Option (List EV)
 |.tup xs=>some xs
 |v=>getL M v
section
variable{G:Gr}{ρ:Nat→Addr}{M:Mem}{H:Hp}
theorem OI(hp:RP G ρ M H){v:EV}{u:V}{xs:List EV}(r:RV G.K ρ M.length H v u)(e:getL M v=some xs):∃a vs,u = .ref a∧SqL G.K H a vs∧aZ G.K ρ M.length H xs vs:=by
 cases v with
 |ref k=>
  unfold getL at e;dsimp only at e;cases q:M[k]? with
  |none=>rw[q]at e;cases e
  |some o=>
   rw[q]at e;cases o with
   |lst ys=>
    cases e;unfold RV at r;obtain⟨vs,h1,h2⟩:=hp.obj k _ q;exact⟨_,vs,r.2,.of h1,h2⟩
   |_=>cases e
 |sl ys=>
  unfold getL at e;cases e;unfold RV at r;obtain⟨a,e1,h⟩:=r;exact⟨a,_,e1,h.sq,aZ.ints ys⟩
 |_=>cases e
theorem YL{v:EV}{u:V}{xs:List EV}(r:RV G.K ρ M.length H v u)(e:v = .tup xs):∃a vs,u = .ref a∧SqT G.K H a vs∧aZ G.K ρ M.length H xs vs:=by
 subst e;unfold RV at r;obtain⟨a,vs,e,h1,h2⟩:=r;exact⟨a,vs,e,.of h1,h2⟩
theorem OH(hp:RP G ρ M H){v:EV}{u:V}{xs:List EV}(r:RV G.K ρ M.length H v u)(e:l4 M v=some xs):∃a vs,u = .ref a∧(SqL G.K H a vs∨SqT G.K H a vs)∧aZ G.K ρ M.length H xs vs:=by
 cases v with
 |tup ys=>cases e;obtain⟨a,vs,h1,h2,h3⟩:=YL r rfl;exact⟨a,vs,h1,.inr h2,h3⟩
 |ref k=>obtain⟨a,vs,h1,h2,h3⟩:=OI hp r e;exact⟨a,vs,h1,.inl h2,h3⟩
 |sl ys=>obtain⟨a,vs,h1,h2,h3⟩:=OI hp r e;exact⟨a,vs,h1,.inl h2,h3⟩
 |_=>cases e
end
abbrev eA:=EV→Mem→Option (List (Nat×EV))
structure SG(X:Cx)(tg:Expr)(put:eA):Prop where
 ex:∃g,PG X tg g∧∀ρ M H x x' (σ:L2.St) (Q:L2.St→Hp→Prop) l,RP (gr X) ρ M H→RV X.K ρ M.length H x x'→put x M=some l→(∀l',oM X.K ρ M.length H l l'→Q (puts σ l') H)→g x' σ H Q
def pN(i:Nat):eA:=fun x _=>some [(i,x)]
def vA:List Nat→List EV→Option (List (Nat×EV))
 |[],[]=>some []
 |i :: is,x :: xs=>(vA is xs).map ((i,x) :: ·)
 |_,_=>none
section
variable{X:Cx}{pos:Pos}
theorem gN{i:Nat}{x:Str}(hN:X.N.Nodup)(hi:X.N[i]? = some x:=by rfl)(hx:Loc X.env.scope x:=by first|exact Or.inl rfl|exact Or.inr rfl)
  (hf:X.fn x=true∨X.env.scope.names.lookup x=some .local:=by first|exact .inl rfl|exact .inr rfl):SG X (.Name x pos) (pN i):=by
 refine⟨_,pg_name hN hi hx hf,fun ρ M H x x' σ Q l hp r e h=>?_⟩;cases e;exact h [(i,x')] ⟨x',[],rfl,r,rfl⟩
end
def Res.j8{α:Type}(r:Res α)(σ:bA)(g:α→Mem→RS):RS:=match r with
 |.ok v M=>g v M
 |.err x M=>.err x σ M
 |.bad=>.bad
section
variable{α β:Type}{R:Rel α β}{G:Gr}{W:WX}{σe:bA}{σ:L2.St}{ρ:Nat→Addr}{M:Mem}{H:Hp}
theorem iS.bindR{r:Res α}{g:α→Mem→RS}{D:Ends}{Q1:β→Hp→Prop}(hs:bF G.K ρ M.length H σe σ)(hp:RP G ρ M H)(p:iS G W ρ M H (r.j8 σe g) D)
  (h:∀v M1 ρ1 H1 v1,r = .ok v M1→After ρ M H ρ1 M1 H1→RP G ρ1 M1 H1→R G.K ρ1 M1.length H1 v v1→iS G W ρ1 M1 H1 (g v M1) D→Q1 v1 H1):bI R G W σ ρ M H r Q1:=by
 cases r with
 |ok v M1=>exact fun ρ1 H1 v1 a rp q=>h v M1 ρ1 H1 v1 rfl a rp q (iS.shift (r:=g v M1) p rp a)
 |err x M1=>exact fun ρ1 H1 d a rp q=>p ρ1 H1 σ d a rp (hs.carry (a.carry hp)) q
 |bad=>exact p
end
def cH(f g:FS):FS:=fun σ M=>match f σ M with
 |.nx σ1 M1=>g σ1 M1
 |r=>r
def pU:FS:=fun σ M=>.nx σ M
section
variable{X:Cx}{W:WX}{st:Stmt}{rest:List Stmt}{f g:FS}{pos:Pos}{e:Expr}{fe:FE}
theorem uU:nW X W [] pU:=⟨_,pss_nil,fun ρ σe σ M H D hs hp h=>h ρ H σ .refl hp hs⟩
theorem cS(h:SS X W st f)(k:nW X W rest g):nW X W (st :: rest) (cH f g):=by
 obtain⟨t,h1,h2⟩:=h;obtain⟨u,k1,k2⟩:=k;refine⟨_,pss_cons h1 k1,fun ρ σe σ M H D hs hp h=>?_⟩;refine h2 ρ σe σ M H _ hs hp ?_;unfold cH at h;cases q:f σe M with
 |nx s1 M1=>rw[q]at h;exact fun ρ1 H1 σ1 a rp rs=>k2 ρ1 s1 σ1 M1 H1 D rs rp (iS.shift (r:=g s1 M1) h rp a)
 |rt v M1=>rw[q]at h;exact h
 |bk s1 M1=>rw[q]at h;exact h
 |ct s1 M1=>rw[q]at h;exact h
 |err x s1 M1=>rw[q]at h;exact h
 |bad=>rw[q]at h;exact h
theorem mT(h:SS X W st f):nW X W [st] f:=by
 obtain⟨t,h1,h2⟩:=h;exact⟨_,pss_one h1,h2⟩
def lB(f:FE):FS:=fun σ M=>(f σ M).j8 σ fun v M1=>.rt v M1
theorem oV(he:SE X W e fe):SS X W (.Return (some e) pos) (lB fe):=by
 obtain⟨t,h1,h2⟩:=he;refine⟨_,ps_ret h1,fun ρ σe σ M H D hs hp h=>?_⟩;exact h2 ρ σe σ M H _ hs hp (iS.bindR hs hp h fun v M1 ρ1 H1 v1 _ a rp r h1=>h1 ρ1 H1 v1 .refl rp r)
def p5(t:FT)(f g:FS):FS:=fun σ M=>(t σ M).j8 σ fun b M1=>if b=true then f σ M1 else g σ M1
theorem vE{c:Expr}{a b:List Stmt}{p:FT}(hc:ST X W c p)(ha:nW X W a f)(hb:nW X W b g):SS X W (.If c a b pos) (p5 p f g):=by
 obtain⟨t,h1,h2⟩:=hc;obtain⟨ta,a1,a2⟩:=ha;obtain⟨tb,b1,b2⟩:=hb;refine⟨_,ps_if h1 a1 b1,fun ρ σe σ M H D hs hp h=>?_⟩;refine h2 ρ σe σ M H _ hs hp (iS.bindR hs hp h fun v M1 ρ1 H1 v1 _ qE rp r h1=>?_);subst r;show if v1=true then ta D σ H1 else tb D σ H1
 cases v1 with
 |true=>rw[if_pos rfl]at h1 ⊢;exact a2 ρ1 σe σ M1 H1 D (hs.carry (qE.carry hp)) rp h1
 |false=>rw[if_neg Bool.false_ne_true]at h1 ⊢;exact b2 ρ1 σe σ M1 H1 D (hs.carry (qE.carry hp)) rp h1
def dQ(put:eA)(f:FE):FS:=fun σ M=>(f σ M).j8 σ fun v M1=>match put v M1 with
 |some l=>.nx (d9 σ l) M1
 |none=>.bad
theorem YW{t:TE}{gg:TG}{put:eA}(h2:nT (gr X) W t fe)(g2:∀ρ M H x x' (σ:L2.St) (Q:L2.St→Hp→Prop) l,RP (gr X) ρ M H→RV X.K ρ M.length H x x'→put x M=some l→(∀l',oM X.K ρ M.length H l l'→Q (puts σ l') H)→gg x' σ H Q):
  Q2 (gr X) W (tAsg t gg) (dQ put fe):=by
 intro ρ σe σ M H D hs hp h;refine h2 ρ σe σ M H _ hs hp (iS.bindR hs hp h fun v M1 ρ1 H1 v1 _ a rp r h1=>?_);cases q:put v M1 with
 |none=>rw[q]at h1;exact h1.elim
 |some l=>
  rw[q]at h1;exact g2 ρ1 M1 H1 v v1 σ _ l rp r q fun l' hl=>h1 ρ1 H1 _ .refl rp ((hs.carry (a.carry hp)).puts hl)
theorem iJ{i:Nat}{x:Str}{pos':Pos}(hN:X.N.Nodup)(he:SE X W e fe)(hi:X.N[i]? = some x:=by rfl)(hx:Loc X.env.scope x:=by first|exact Or.inl rfl|exact Or.inr rfl)(hs:swapsWith e (some (.Name x pos')) pos.line X.env=pure false:=by rfl)
  (hf:X.fn x=true∨X.env.scope.names.lookup x=some .local:=by first|exact .inl rfl|exact .inr rfl):SS X W (.Assign [.Name x pos'] e pos) (dQ (pN i) fe):=by
 obtain⟨t,h1,h2⟩:=he;refine⟨_,ps_set hN hi hx h1 hs hf,YW h2 fun ρ M H x x' σ Q l hp r e h=>?_⟩;cases e;exact h [(i,x')] ⟨x',[],rfl,r,rfl⟩
def QK(is:List Nat)(g:FA):FS:=fun σ M=>(g σ M).j8 σ fun vs M1=>match vA is vs with
 |some l=>.nx (d9 σ l) M1
 |none=>.bad
theorem zDP{i j:Nat}{x y:Str}{a b:Expr}{fa:FA}{px py pt:Pos}{kt k2 pt2}(hc:X.calm=true)(hN:X.N.Nodup)(ha:SA X W [a,b] fa)(hi:X.N[i]? = some x:=by rfl)(hj:X.N[j]? = some y:=by rfl)(hij:i≠j:=by decide)
  (hx:X.env.scope.names.lookup x=some .local:=by rfl) (hy:X.env.scope.names.lookup y=some .local:=by rfl)
  (hw:swappedStores [.Tuple [.Name x px,.Name y py] kt pt] (.Tuple [a,b] k2 pt2) X.env=pure (some [x,y]):=by rfl)
  (hs:swapsWithSole [.Tuple [.Name x px,.Name y py] kt pt] (.Tuple [a,b] k2 pt2) pos.line X.env=pure false:=by rfl):
  SS X W (.Assign [.Tuple [.Name x px,.Name y py] kt pt] (.Tuple [a,b] k2 pt2) pos) (QK [i,j] fa):=by
 obtain⟨t,h1,h2⟩:=ha;refine⟨_,ps_par hc hN hi hj hij hx hy h1 hw hs,fun ρ σe σ M H D hs hp h=>?_⟩;refine h2 ρ σe σ M H _ hs hp (iS.bindR (R:=fun K ρ n H=>aZ K ρ n H) hs hp h fun v M1 ρ1 H1 v1 _ qE rp r h1=>?_);cases q:vA [i,j] v with
 |none=>rw[q]at h1;exact h1.elim
 |some l=>
  rw[q]at h1
  match v,q,r with
  |[v1,v2],q,r=>
   cases q;unfold aZ at r;obtain⟨u1,r',rfl,c1,r⟩:=r;unfold aZ at r;obtain⟨u2,r'',rfl,c2,r⟩:=r;unfold aZ at r;subst r;refine⟨u1,u2,rfl,h1 ρ1 H1 _ .refl rp ?_⟩;exact(hs.carry (qE.carry hp)).puts (l:=[(i,v1),(j,v2)]) (l':=[(i,u1),(j,u2)]) ⟨u1,_,rfl,c1,u2,_,rfl,c2,rfl⟩
end
inductive Gd where
 |one (k:Nat) (o:EO)
 |two (k:Nat) (o:EO) (l:Nat) (u:EO)
abbrev lA:=Option Gd
def mG:lA→Mem→Prop
 |none,_=>True
 |some (.one k o),M=>M[k]? = some o
 |some (.two k o l u),M=>M[k]? = some o∧M[l]? = some u
structure Q0(G:Gr)(ρ1:Nat→Addr)(M1:Mem)(H1:Hp)(ρ:Nat→Addr)(M:Mem)(H:Hp):Prop where
 car:Carry G.K ρ1 M1.length H1 ρ M.length H
 cP:∀k l,M1[k]? = some (.cP l)→M[k]? = some (.cP l)∧H (ρ1 k)=H1 (ρ1 k)
theorem After.soft{G:Gr}{ρ1 ρ:Nat→Addr}{M1 M:Mem}{H1 H:Hp}(a:After ρ1 M1 H1 ρ M H)(R:RP G ρ1 M1 H1):Q0 G ρ1 M1 H1 ρ M H:=⟨a.carry R,a.cP⟩
structure WL(G:Gr)(xs:List EV)(gd:lA)(ρ1:Nat→Addr)(M1:Mem)(H1:Hp)(J:It):Prop where
 stop:∀ρ M H,Q0 G ρ1 M1 H1 ρ M H→RP G ρ M H→mG gd M→J.stop xs.length H
 go:∀i x ρ M H,Q0 G ρ1 M1 H1 ρ M H→RP G ρ M H→mG gd M→xs[i]? = some x→J.go i H∧∀x' H',J.yld i H x' H'→After ρ M H ρ M H'∧RP G ρ M H'∧RV G.K ρ M.length H' x x'
abbrev FI:=bA→Mem→Res (List EV×lA)
def nO(G:Gr)(W:WX)(σ:L2.St)(ρ:Nat→Addr)(M:Mem)(H:Hp)(r:Res (List EV×lA))(Q:It→Hp→Prop):Prop:=
 match r with
 |.ok v M'=>∀ρ' H' J,After ρ M H ρ' M' H'→RP G ρ' M' H'→WL G v.1 v.2 ρ' M' H' J→Q J H'
 |.err x M'=>∀ρ' H' d,After ρ M H ρ' M' H'→RP G ρ' M' H'→RX G.K ρ' M'.length H' x d→W (.ref x.cls) d σ H'
 |.bad=>False
structure SI(X:Cx)(W:WX)(tg iter:Expr)(fi:FI):Prop where
 ex:∃wi,PI X tg iter wi∧∀ρ σe σ M H Q,bF X.K ρ M.length H σe σ→RP (gr X) ρ M H→nO (gr X) W σ ρ M H (fi σe M) Q→wi σ H Q
section
variable{G:Gr}{W:WX}{σ:L2.St}{ρ ρ':Nat→Addr}{M M':Mem}{H H':Hp}
theorem nO.shift{r:Res (List EV×lA)}{Q:It→Hp→Prop}(p:nO G W σ ρ M H r Q)(rp:RP G ρ' M' H')(a:After ρ M H ρ' M' H'):nO G W σ ρ' M' H' r Q:=by
 cases r with
 |ok v M1=>exact fun ρ1 H1 v1 b bB q=>p ρ1 H1 v1 (a.trans rp b) bB q
 |err x M1=>exact fun ρ1 H1 d b bB q=>p ρ1 H1 d (a.trans rp b) bB q
 |bad=>exact p
theorem nO.bind{α β:Type}{R:Rel α β}{r:Res α}{g:α→Mem→Res (List EV×lA)}{Q:It→Hp→Prop}{Q1:β→Hp→Prop}(p:nO G W σ ρ M H (r.bind g) Q)
  (h:∀v M1 ρ1 H1 v1,r = .ok v M1→After ρ M H ρ1 M1 H1→RP G ρ1 M1 H1→R G.K ρ1 M1.length H1 v v1→nO G W σ ρ1 M1 H1 (g v M1) Q→Q1 v1 H1):bI R G W σ ρ M H r Q1:=by
 cases r with
 |ok v M1=>exact fun ρ1 H1 v1 a rp q=>h v M1 ρ1 H1 v1 rfl a rp q (nO.shift (r:=g v M1) p rp a)
 |err x M1=>exact p
 |bad=>exact p
end
def pZ:List EV→Option Int
 |[.int j]=>some j
 |_=>none
theorem zAE{vs:List EV}{j:Int}(h:pZ vs=some j):vs = [.int j]:=by
 unfold pZ at h;split at h
 ·cases h;rfl
 ·cases h
def mD(j:Int):Prop:=-4611686018427387904≤j∧j<4611686018427387904
instance (j:Int):Decidable (mD j):=inferInstanceAs (Decidable (_∧_))
theorem mD.lo{j:Int}(h:mD j) : -(2 ^ 62)≤j:=h.1
theorem mD.hi{j:Int}(h:mD j):j<2 ^ 62:=h.2
def p6(i:Int)(n:Nat):List EV:=(List.range n).map fun(k:Nat)=>EV.int (i+(k:Int))
def tZ(f:FA):FI:=fun σ M=>(f σ M).bind fun vs M1=>match pZ vs with
 |some j=>if mD j then .ok (p6 0 j.toNat,none) M1 else .bad
 |none=>.bad
section
variable{X:Cx}{W:WX}{tg e:Expr}{fe:FE}{fa:FA}{p pos:Pos}
theorem zCP(G:Gr)(i:Int)(n:Nat)(ρ:Nat→Addr)(M:Mem)(H:Hp):WL G (p6 i n) none ρ M H (Itr i n)where
 stop:=fun ρ M H _ _ _=>by
  show n≤(p6 i n).length;unfold p6;rw[List.length_map,List.length_range];exact Nat.le_refl _
 go:=fun k x ρ M H _ rp _ e=>by
  unfold p6 at e;rw[List.getElem?_map]at e;cases q:(List.range n)[k]? with
  |none=>rw[q]at e;cases e
  |some j=>
   rw[q]at e;obtain⟨h2,h3⟩:=(bK q);rw[List.getElem_range]at h3;subst h3;cases e;rw[List.length_range]at h2;refine⟨h2,fun x' H' y=>?_⟩;obtain⟨y1,y2⟩:=y;subst y1;exact⟨.refl,rp,by unfold RV;exact y2⟩
theorem siR1(hg:Gl X "range")(hm:X.mg "range" = none)(ha:SA X W [e] fa)(hs:starEach [e] X.env = [(false,eval e X.env)]:=by rfl):SI X W tg (.Call (.Name "range" p) [e] [] pos) (tZ fa):=by
 obtain⟨t,h1,h2⟩:=ha;refine⟨_,pi_range1 hg hm h1 hs,fun ρ σe σ M H Q rs hp h=>?_⟩;refine h2 ρ σe σ M H _ rs hp (nO.bind (R:=fun K ρ n H=>aZ K ρ n H) h fun v M1 ρ1 H1 v1 _ a rp r h1=>?_);cases q0:pZ v with
 |none=>rw[q0]at h1;exact h1.elim
 |some j=>
  rw[q0]at h1;dsimp only at h1;rw[zAE q0]at r;unfold aZ aZ RV at r;obtain⟨u,s,e1,e2,e3⟩:=r;subst e1 e2 e3;by_cases q:mD j
  ·rw[if_pos q]at h1
   refine⟨j,rfl,q.lo,q.hi,h1 ρ1 H1 _ .refl rp (zCP (gr X) 0 j.toNat ρ1 M1 H1)⟩
  ·rw[if_neg q]at h1
   exact h1.elim
end
def l3(gd:lA)(put:eA)(body:FS):List EV→FS
 |[],σ,M=>if mG gd M then .nx σ M else .bad
 |x :: r,σ,M=>if mG gd M then(match put x M with
   |none=>.bad
   |some l=>match body (d9 σ l) M with
    |.nx σ1 M1=>l3 gd put body r σ1 M1
    |.ct σ1 M1=>l3 gd put body r σ1 M1
    |.bk σ1 M1=>.nx σ1 M1
    |o=>o)else .bad
def DU(fi:FI)(put:eA)(body:FS):FS:=fun σ M=>(fi σ M).j8 σ fun v M1=>l3 v.2 put body v.1 σ M1
section
variable{X:Cx}{W:WX}{tg iter c:Expr}{fi:FI}{put:eA}{body:FS}{bs:List Stmt}{pos:Pos}{p:FT}
theorem zDQ(hp:PassesOwn (model X.prog X.w) X.A X.env X.xe)(hc:X.calm=true)(hi:SI X W tg iter fi)(hg:SG X tg put)(hb:nW X W bs body)
  (hs:∀x,foldedSetIterable iter X.env x=pure x:=by intro _;rfl):SS X W (.For tg iter bs [] pos) (DU fi put body):=by
 obtain⟨wi,i1,i2⟩:=hi;obtain⟨gg,g1,g2⟩:=hg;obtain⟨tb,b1,b2⟩:=hb;refine⟨_,ps_for hp hc i1 g1 b1 hs,fun ρ σe σ M H D rs rp h=>?_⟩;refine i2 ρ σe σ M H _ rs rp ?_;unfold DU at h;cases q:fi σe M with
 |bad=>rw[q]at h;exact h.elim
 |err x M1=>
  rw[q]at h;intro ρ1 H1 d a bB r;exact h ρ1 H1 σ d a bB (rs.carry (a.carry rp)) r
 |ok v M1=>
  rw[q]at h;intro ρ1 H1 J a1 bB jk;obtain⟨xs,gd⟩:=v;have h:iS (gr X) W ρ M H (l3 gd put body xs σe M1) D:=h;refine⟨fun i m σ' H'=>∃ρ' σe' M',After ρ1 M1 H1 ρ' M' H'∧bF X.K ρ' M'.length H' σe' σ'∧RP (gr X) ρ' M' H'∧m=xs.length-i∧i≤xs.length∧iS (gr X) W ρ' M' H' (l3 gd put body (xs.drop i) σe' M') D,
   ⟨xs.length,ρ1,σe,M1,.refl,rs.carry (a1.carry rp),bB,by simp,Nat.zero_le _,h.shift bB a1⟩,?_⟩
  rintro i m σ' H' ⟨ρ',σe',M',a',rs',kK,rfl,hi,h'⟩;by_cases hlt:i<xs.length
  ·have e1:xs.drop i=xs[i] :: xs.drop (i+1):=List.drop_eq_getElem_cons hlt
   rw[e1]at h';unfold l3 at h';by_cases ok:mG gd M'
   ·rw[if_pos ok]at h'
    have e2:xs[i]? = some xs[i]:=List.getElem?_eq_getElem hlt;obtain⟨go,yl⟩:=jk.go i xs[i] ρ' M' H' (a'.soft bB) kK ok e2;refine .inr ⟨go,fun σ2 H2=>∃ρ2 σe2 M2,After ρ1 M1 H1 ρ2 M2 H2∧bF X.K ρ2 M2.length H2 σe2 σ2∧RP (gr X) ρ2 M2 H2∧iS (gr X) W ρ2 M2 H2 (l3 gd put body (xs.drop (i+1)) σe2 M2) D,
     fun σ2 H2 ⟨ρ2,σe2,M2,z1,z2,z3,z4⟩=>⟨xs.length-(i+1),by omega,ρ2,σe2,M2,z1,z2,z3,rfl,hlt,z4⟩,fun x' H2 y=>?_⟩
    obtain⟨y1,y2,y3⟩:=yl x' H2 y;cases qp:put xs[i] M' with
    |none=>rw[qp]at h';exact h'.elim
    |some l=>
     rw[qp]at h';dsimp only at h';refine g2 ρ' M' H2 xs[i] x' σ' _ l y2 y3 qp fun l' hl=>?_;have pE:=(rs'.carry (y1.carry kK)).puts hl;refine b2 ρ' _ _ M' H2 _ pE y2 ?_;have back:∀(σe3:bA) (M3:Mem),iS (gr X) W ρ' M' H' (l3 gd put body (xs.drop (i+1)) σe3 M3) D→∀ρ3 H3 σ3,After ρ' M' H2 ρ3 M3 H3→RP (gr X) ρ3 M3 H3→bF X.K ρ3 M3.length H3 σe3 σ3→
       ∃ρ2 σe2 M2,After ρ1 M1 H1 ρ2 M2 H3∧bF X.K ρ2 M2.length H3 σe2 σ3∧RP (gr X) ρ2 M2 H3∧iS (gr X) W ρ2 M2 H3 (l3 gd put body (xs.drop (i+1)) σe2 M2) D:=fun σe3 M3 hh ρ3 H3 σ3 z1 z2 z3=>
      ⟨ρ3,σe3,M3,a'.trans kK (y1.trans y2 z1),z3,z2,iS.shift hh z2 (y1.trans y2 z1)⟩
     cases qb:body (d9 σe' l) M' with
     |nx s3 M3=>rw[qb]at h';exact fun ρ3 H3 σ3 z1 z2 z3=>back s3 M3 h' ρ3 H3 σ3 z1 z2 z3
     |ct s3 M3=>rw[qb]at h';exact fun ρ3 H3 σ3 z1 z2 z3=>back s3 M3 h' ρ3 H3 σ3 z1 z2 z3
     |bk s3 M3=>rw[qb]at h';exact fun ρ3 H3 σ3 z1 z2 z3=>h' ρ3 H3 σ3 (y1.trans y2 z1) z2 z3
     |rt v3 M3=>rw[qb]at h';exact fun ρ3 H3 σ3 z1 z2 z3=>h' ρ3 H3 σ3 (y1.trans y2 z1) z2 z3
     |err x3 s3 M3=>rw[qb]at h';exact fun ρ3 H3 σ3 d z1 z2 z3 z4=>h' ρ3 H3 σ3 d (y1.trans y2 z1) z2 z3 z4
     |bad=>rw[qb]at h';exact h'.elim
   ·rw[if_neg ok]at h';exact h'.elim
  ·have e1:xs.drop i = []:=List.drop_eq_nil_of_le (by omega)
   rw[e1]at h';unfold l3 at h';by_cases ok:mG gd M'
   ·rw[if_pos ok]at h'
    have e2:i=xs.length:=by omega
    subst e2;exact .inl ⟨jk.stop ρ' M' H' (a'.soft bB) kK ok,h' ρ' H' σ' .refl kK rs'⟩
   ·rw[if_neg ok]at h';exact h'.elim
end
abbrev Fn:=List EV→Mem→Res EV
def EX(E:XK):WX:=fun c d _ H=>E c d H
def p4(G:Gr)(n:Nat)(m:Fn):Sp:=fun vs H Q E=>vs.length=n∧∃ρ M es,RP G ρ M H∧aZ G.K ρ M.length H es vs∧iE G (EX E) [] ρ M H (m es M) Q
structure lW(P:Program)(w:World)(K:PySem.W.Frag)(mg:Str→Option Value)(base:Heap)(k:Nat)(f:Addr)(n:Nat)(m:Fn):Prop where
 ex:∃fd ps,FnOk P w K mg base (L2.CX P w) k f fd ps (p4 ⟨P,w,K,bG.T⟩ n m)∧Binds K fd ps []
 kp:PySem.W.keepIn K (.ref f)=true
abbrev FnX(X:Cx):=lW X.prog X.w X.K X.mg X.base
def fnOf(N:Nat)(body:FS):Fn:=fun es M=>match body (es.map some++List.replicate (N-es.length) none) M with
 |.rt v M1=>.ok v M1
 |.nx _ M1=>.ok .non M1
 |.err x _ M1=>.err x M1
 |_=>.bad
theorem zDA{P:Program}{w:World}{K:PySem.W.Frag}{mg:Str→Option Value}{base:Heap}{x qual:Str}{st:Stmt}{f:Addr}{fd:FuncData}{N ps:List Str}{k:Nat}{body:FS}(F:Fun K x qual st f fd)(S:FnScope N ps (defScope st))
  (hbody:∀(cdv:Value) (A:Around) (outer:List Env) (s:Shared) (H:Hp) (E:XK),Room k (A.deeper (envOfC qual (defScope st) s.heap.objs.size f cdv))→
   nW (cxOf (L2.CX P w) P w K mg base N qual (defScope st) f cdv A outer s H E) (EX E) (defBody st) body):FnOk P w K mg base (L2.CX P w) (k+1) f fd ps (p4 ⟨P,w,K,bG.T⟩ ps.length (fnOf N.length body)):=by
 refine F.okX S (fun vs H Q E h=>h.1) (fun cdv A outer s H vs Q E hr h=>?_);obtain⟨hl,ρ,M,es,rp,rv,p⟩:=h;obtain⟨t,h1,h2⟩:=hbody cdv A outer s H E hr;refine⟨t,h1,h2 ρ (es.map some++List.replicate (N.length-es.length) none) (L2.start N vs) M H { nx:=fun _ H'=>Q .non H',rt:=Q } ?_ rp ?_⟩
 ·refine bF.start rv ?_
  have e1:=rv.length;have e2:(N.take ps.length).length=ps.length:=by rw[S.pre]
  rw[List.length_take]at e2;omega
 ·unfold fnOf at p
  cases q:body (es.map some++List.replicate (N.length-es.length) none) M with
  |rt v M1=>rw[q]at p;exact p
  |nx s1 M1=>rw[q]at p;exact fun ρ1 H1 σ1 a bB _=>p ρ1 H1 .non a bB (by unfold RV;rfl)
  |err x s1 M1=>rw[q]at p;exact fun ρ1 H1 σ1 d a bB _ r=>p ρ1 H1 d a bB r
  |bk s1 M1=>rw[q]at p;exact p.elim
  |ct s1 M1=>rw[q]at p;exact p.elim
  |bad=>rw[q]at p;exact p.elim
theorem fn_ok{P:Program}{w:World}{K:PySem.W.Frag}{mg:Str→Option Value}{base:Heap}{x qual:Str}{st:Stmt}{f:Addr}{fd:FuncData}{N ps:List Str}{k:Nat}{body:FS}(F:Fun K x qual st f fd)(S:FnScope N ps (defScope st))
  (hb:∀(kV doc pm:Value) (an:Option Addr) (cdv ct:Value) (us:List Value),us.length=ps.length→bindArgs (PySem.W.fnOf x qual (defArgs st) (defBody st) (defScope st) .none kV doc pm an cdv ct) ⟨us,[]⟩=pure (ps.zip us))
  (hbody:∀(cdv:Value) (A:Around) (outer:List Env) (s:Shared) (H:Hp) (E:XK),Room k (A.deeper (envOfC qual (defScope st) s.heap.objs.size f cdv))→
   nW (cxOf (L2.CX P w) P w K mg base N qual (defScope st) f cdv A outer s H E) (EX E) (defBody st) body):lW P w K mg base (k+1) f ps.length (fnOf N.length body):=
 ⟨⟨fd,ps,zDA F S hbody,F.binds hb⟩,F.kp⟩
section
variable{X:Cx}{W:WX}{k n:Nat}{f C:Addr}{m:Fn}{x nm:Str}{p pos apos:Pos}{e o:Expr}{es:List Expr}{fa:FA}{fo:FE}
theorem zAN{G:Gr}{σ:L2.St}{ρ:Nat→Addr}{M:Mem}{H:Hp}{xs:List EV}{vs:List V}{Q:VK}(hl:xs.length=n)(rp:RP G ρ M H)(r:aZ G.K ρ M.length H xs vs)(h:iE G W σ ρ M H (m xs M) Q):p4 G n m vs H Q (WE W σ):=by
 refine⟨by rw[r.length,hl],ρ,M,xs,rp,r,?_⟩;cases q:m xs M with
 |ok v M1=>rw[q]at h;exact h
 |err y M1=>rw[q]at h;exact h
 |bad=>rw[q]at h;exact h
def nM(n:Nat)(m:Fn)(g:FA):FE:=fun σ M=>(g σ M).bind fun xs M1=>if xs.length=n then m xs M1 else .bad
theorem YX{G:Gr}{t:TA}{g:FA}(h2:SimA G W t g):nT G W (fun σ H Q=>t σ H fun vs H1=>p4 G n m vs H1 Q (WE W σ)) (nM n m g):=by
 intro ρ σe σ M H Q rs hp h;refine h2 ρ σe σ M H _ rs hp (bI.bind (R:=fun K ρ n H=>aZ K ρ n H) h fun v M1 ρ1 H1 v1 _ a rp r h1=>?_);by_cases hl:v.length=n
 ·rw[if_pos hl]at h1
  exact zAN hl rp r h1
 ·rw[if_neg hl]at h1
  exact h1.elim
theorem tF(F:FnX X k f n m)(hr:Room k X.A)(tk:Takes X W)(hm:X.mg x=some (.ref f))(ha:SA X W (e :: es) fa)(hg:Gl X x:=by rfl)(hdb:(x == ("__debug__" : Str))=false:=by decide)
  (he:starEach (e :: es) X.env=(false,eval e X.env) :: starEach es X.env:=by rfl) (hpl:(backTo pos (starEach es X.env)).any (·.1)=false:=by rfl):SE X W (.Call (.Name x p) (e :: es) [] pos) (nM n m fa):=by
 obtain⟨⟨fd,ps,F,b⟩,kp⟩:=F;obtain⟨t,h1,h2⟩:=ha;exact⟨_,pe_callS F hr hg hm kp b (fun σ=>passAt tk σ) h1 hdb he hpl,YX h2⟩
def alt(f g:FE):FE:=fun σ M=>match f σ M with
 |.bad=>g σ M
 |r=>r
theorem SE.alt{f g:FE}(a:SE X W e f)(b:SE X W e g):SE X W e (WS.alt f g):=by
 obtain⟨t,a1,a2⟩:=a;obtain⟨u,b1,b2⟩:=b;refine⟨fun σ H Q=>t σ H Q∨u σ H Q,⟨fun pins s σ H Q I h=>h.elim (a1.run pins s σ H Q I) (b1.run pins s σ H Q I)⟩,fun ρ σe σ M H Q rs hp h=>?_⟩;unfold WS.alt at h;cases q:f σe M with
 |bad=>rw[q]at h;exact .inr (b2 ρ σe σ M H Q rs hp h)
 |ok v M1=>rw[q]at h;exact .inl (a2 ρ σe σ M H Q rs hp (by rw[q];exact h))
 |err y M1=>rw[q]at h;exact .inl (a2 ρ σe σ M H Q rs hp (by rw[q];exact h))
end
section
variable{K:PySem.W.Frag}{ρ:Nat→Addr}{n:Nat}{H:Hp}
end
section
variable{X:Cx}{W:WX}{k n:Nat}{f C g:Addr}{m:Fn}{x nm y:Str}{p pos pos' apos:Pos}{e o value:Expr}{es:List Expr}{fa:FA}{fo fv:FE}
def nI{α:Type}:Res α→Res α
 |.err _ _=>.bad
 |r=>r
def W0:WX:=fun _ _ _ _=>False
end
section
variable{X:Cx}{W:WX}
structure EF(X:Cx)(W:WX)(ifs:List Expr)(f:FT):Prop where
 ex:∃t,PTs X ifs t∧vT (gr X) W t f
def tYes:FT:=fun _ M=>.ok true M
theorem zAM:EF X W [] tYes:=⟨_,pts_nil,fun ρ σe σ M H Q rs hp h=>bI.ok0 (R:=fun _ _ _ _ a b=>b=a) h hp rfl⟩
end
def lC(gd:lA)(put:eA)(t:FT)(e:FE)(σ:bA):List EV→Mem→List EV→Res (List EV)
 |[],M,acc=>if mG gd M then .ok acc M else .bad
 |x :: r,M,acc=>if mG gd M then(match put x M with
   |none=>.bad
   |some l=>(nI (t (d9 σ l) M)).bind fun b M1=>if b=true then(nI (e (d9 σ l) M1)).bind fun v M2=>lC gd put t e σ r M2 (acc ++ [v])else lC gd put t e σ r M1 acc)else .bad
def v9(own:List Nat)(fi:FI)(put:eA)(t:FT)(e:FE):FE:=fun σ M=>(fi σ M).bind fun v M1=>if v.1.length≤sizeLine then(lC v.2 put t e (kI σ own) v.1 M1 []).bind fun acc M2=>kP acc M2 else .bad
def u_(put:eA)(own:List Nat):Prop:=∀x M l,put x M=some l→∀p∈l,p.1∈own
theorem T9{i:Nat}{own:List Nat}(h:i∈own):u_ (pN i) own:=fun x M l e p hp=>by
 cases e;simp at hp;subst hp;exact h
section
variable{X:Cx}{W:WX}{elt tg iter:Expr}{ifs:List Expr}{scope:Scope}{own:List (Str×Nat)}{pos:Pos}{fi:FI}{put:eA}{ft:FT}{fe:FE}
theorem zDR{G:Gr}{wi:TI}{g:TG}{tt:TT}{te:TE}{vs:List Nat}(hi:∀ρ σe σ M H Q,bF G.K ρ M.length H σe σ→RP G ρ M H→nO G W σ ρ M H (fi σe M) Q→wi σ H Q)
  (hg:∀ρ M H x x' (σ:L2.St) (Q:L2.St→Hp→Prop) l,RP G ρ M H→RV G.K ρ M.length H x x'→put x M=some l→(∀l',oM G.K ρ M.length H l l'→Q (puts σ l') H)→g x' σ H Q)
  (ht:vT G W0 tt ft) (he:nT G W0 te fe) (hput:u_ put vs):nT G W (tLc wi g tt te vs) (v9 vs fi put ft fe):=by
 intro ρ σe σ M H Q rs hp h;refine hi ρ σe σ M H _ rs hp ?_;unfold v9 at h;cases q:fi σe M with
 |bad=>rw[q]at h;exact h.elim
 |err y M1=>rw[q]at h;exact h
 |ok v M1=>
  rw[q]at h;obtain⟨xs,gd⟩:=v;have h:iE G W σ ρ M H (if xs.length≤sizeLine then(lC gd put ft fe (kI σe vs) xs M1 []).bind fun acc M2=>kP acc M2 else .bad) Q:=h;by_cases hz:xs.length≤sizeLine
  ·rw[if_pos hz]at h
   intro ρ1 H1 J a1 bB jk D nD;have vX:=(rs.carry (a1.carry hp)).wipe vs;refine⟨fun i m H'=>∃ρ' M' acc acc',After ρ1 M1 H1 ρ' M' H'∧bF G.K ρ' M'.length H' (kI σe vs) (L2.wipe σ vs)∧RP G ρ' M' H'∧H' D=some (.lst acc')∧aZ G.K ρ' M'.length H' acc acc'∧(∀j,j<M'.length→ρ' j≠D)∧
     m=xs.length-i∧i≤xs.length∧acc.length≤i∧iE G W σ ρ M H ((lC gd put ft fe (kI σe vs) (xs.drop i) M' acc).bind fun acc M2=>kP acc M2) Q,⟨xs.length,?_⟩,?_⟩
   ·obtain⟨aD,Q_⟩:=vH bB nD (.lst [])
    exact⟨ρ1,M1,[],[],aD,vX.carry (aD.carry bB),Q_,upd_same,aZ.nil,fun j hj=>bB.oP nD hj,by simp,Nat.zero_le _,Nat.le_refl _,h⟩
   ·rintro i m H' ⟨ρ',M',acc,acc',af,rs',kK,hD,rv,tY,rfl,hi',hacc,h'⟩
    by_cases hlt:i<xs.length
    ·have e1:xs.drop i=xs[i] :: xs.drop (i+1):=List.drop_eq_getElem_cons hlt
     rw[e1]at h';unfold lC at h';by_cases ok:mG gd M'
     ·rw[if_pos ok]at h'
      have e2:xs[i]? = some xs[i]:=List.getElem?_eq_getElem hlt;obtain⟨go,yl⟩:=jk.go i xs[i] ρ' M' H' (af.soft bB) kK ok e2;refine .inr ⟨go,fun H2=>∃ρ2 M2 vS V1,After ρ1 M1 H1 ρ2 M2 H2∧bF G.K ρ2 M2.length H2 (kI σe vs) (L2.wipe σ vs)∧RP G ρ2 M2 H2∧H2 D=some (.lst V1)∧aZ G.K ρ2 M2.length H2 vS V1∧(∀j,j<M2.length→ρ2 j≠D)∧
        vS.length≤i+1∧iE G W σ ρ M H ((lC gd put ft fe (kI σe vs) (xs.drop (i+1)) M2 vS).bind fun acc M2=>kP acc M2) Q,
       fun H2 ⟨ρ2,M2,c2,c2',z1,z2,z3,z4,z5,z6,z7,z8⟩=>⟨xs.length-(i+1),by omega,ρ2,M2,c2,c2',z1,z2,z3,z4,z5,z6,rfl,hlt,z7,z8⟩,fun x' H2 y=>?_⟩
      obtain⟨y1,y2,y3⟩:=yl x' H2 y;have hD2:H2 D=some (.lst acc'):=y1.frm D _ hD tY;cases qp:put xs[i] M' with
      |none=>rw[qp]at h';exact h'.elim
      |some l=>
       rw[qp]at h';dsimp only at h';refine hg ρ' M' H2 xs[i] x' _ _ l y2 y3 qp fun l' hl=>?_;have hin:∀p∈l',p.1∈vs:=fun p hp=>by
        have e3:p.1∈l'.map (·.1):=List.mem_map.mpr ⟨p,hp,rfl⟩;rw[hl.map]at e3;obtain⟨r,hr,e4⟩:=List.mem_map.mp e3;rw[← e4];exact hput _ _ _ qp r hr
       refine⟨by rw[TH vs l' _ hin,XH],?_⟩;have pE:=(rs'.carry (y1.carry kK)).puts hl;have rv2:=rv.carry (y1.carry kK);refine ht ρ' _ _ M' H2 _ pE y2 ?_;cases qt:ft (d9 (kI σe vs) l) M' with
       |bad=>rw[qt]at h';exact h'.elim
       |err y M3=>rw[qt]at h';exact h'.elim
       |ok b M3=>
        rw[qt]at h';intro ρ3 H3 b3 a3 lT eb;subst eb;have h':iE G W σ ρ M H ((if b3=true then(nI (fe (d9 (kI σe vs) l) M3)).bind fun v M2=>lC gd put ft fe (kI σe vs) (xs.drop (i+1)) M2 (acc ++ [v])else lC gd put ft fe (kI σe vs) (xs.drop (i+1)) M3 acc).bind fun acc M2=>kP acc M2) Q:=h';have VZ:∀{ρ4:Nat→Addr} {M4:Mem} {H4:Hp},After ρ' M' H2 ρ4 M4 H4→∀j,j<M4.length→ρ4 j≠D:=fun{ρ4 M4 H4} a4 j hj=>by
         by_cases z:j<M'.length
         ·rw[a4.iX j z];exact tY j z
         ·intro e
          have:=a4.new j (Nat.le_of_not_lt z) hj;rw[e,hD2]at this;cases this
        cases b3 with
        |false=>
         rw[if_neg Bool.false_ne_true]at h'⊢;exact⟨ρ3,M3,acc,acc',af.trans kK (y1.trans y2 a3),(rs'.carry (y1.carry kK)).carry (a3.carry y2),lT,a3.frm D _ hD2 tY,rv2.carry (a3.carry y2),VZ a3,by omega,h'⟩
        |true=>
         rw[if_pos rfl]at h'⊢;refine he ρ3 _ _ M3 H3 _ (pE.carry (a3.carry y2)) lT ?_;cases qe:fe (d9 (kI σe vs) l) M3 with
         |bad=>rw[qe]at h';exact h'.elim
         |err y M4=>rw[qe]at h';exact h'.elim
         |ok v M4=>
          rw[qe]at h';intro ρ4 H4 v4 a4 D8 r4;have a34:=a3.trans lT a4;have t4:H4 D=some (.lst acc'):=a34.frm D _ hD2 tY;have V8:aZ G.K ρ4 M4.length H4 acc acc':=rv2.carry (a34.carry y2);have WF:=VZ a34;have hl4:acc'.length<sizeLine:=by rw[V8.length];omega
          have c5:Carry G.K ρ4 M4.length H4 ρ4 M4.length (upd H4 D (.lst (acc' ++ [v4]))):=⟨Nat.le_refl _,fun _ _=>rfl,fun b zs z=>by rw[upd_ne (ne_of z t4 (by intro w;cases w))];exact z,fun b o zs _ z=>by rw[upd_ne (ne_of z t4 (by intro w;cases w))];exact z,fun b zs z=>by rw[upd_ne (ne_of z t4 (by intro w;cases w))];exact z⟩;have rp5:RP G ρ4 M4 (upd H4 D (.lst (acc' ++ [v4]))):=⟨fun j o ej=>(D8.obj j o ej).carry c5 (upd_ne (WF j (bK ej).1)),D8.inj,D8.sm.put t4 True.intro,D8.tab.put t4 S_⟩;refine⟨acc',t4,hl4,ρ4,M4,acc ++ [v],acc' ++ [v4],?_,?_,rp5,upd_same,?_,WF,by rw[List.length_append,List.length_singleton];omega,h'⟩
          ·have a14:=af.trans kK (y1.trans y2 a34)
           refine⟨a14.len,a14.iX,fun b o eb hb=>?_,a14.new,fun k l e=>⟨(a14.cP k l e).1,by rw[upd_ne (bB.oP nD (bK e).1)];exact(a14.cP k l e).2⟩⟩;have nb:b≠D:=fun z=>by rw[z,nD]at eb;cases eb
           rw[upd_ne nb];exact a14.oF b o eb hb
          ·exact((rs'.carry (y1.carry kK)).carry (a34.carry y2)).carry c5
          ·exact(V8.append (aZ.cons r4 aZ.nil)).carry c5
     ·rw[if_neg ok]at h';exact h'.elim
    ·have e1:xs.drop i = []:=List.drop_eq_nil_of_le (by omega)
     rw[e1]at h';unfold lC at h';by_cases ok:mG gd M'
     ·rw[if_pos ok]at h'
      have e2:i=xs.length:=by omega
      subst e2;refine .inl ⟨jk.stop ρ' M' H' (af.soft bB) kK ok,?_⟩;have h':iE G W σ ρ M H (kP acc M') Q:=h';unfold kP at h';by_cases hl:acc.length≤sizeLine
      ·rw[if_pos hl]at h'
       have ln:(M' ++ [EO.lst acc]).length=M'.length+1:=by simp
       have cc:Carry G.K ρ' M'.length H' (ext ρ' M'.length D) (M'.length+1) H':=⟨by omega,fun k hk=>lG hk,fun _ _ z=>z,fun _ _ _ _ z=>z,fun _ _ z=>z⟩;have Q_:RP G (ext ρ' M'.length D) (M' ++ [EO.lst acc]) H':=by
        refine⟨fun j o ej=>?_,fun j j2 hj hj2 t6=>?_,kK.sm,kK.tab.adopt hD S_ (fun k hk=>lG hk) fun k h1 h2=>by rw[ln]at h2;rw[show k=M'.length from by omega];exact mM⟩
        ·rw[ln]
         have hj:j<(M' ++ [EO.lst acc]).length:=(bK ej).1;rw[ln]at hj;by_cases z:j<M'.length
         ·rw[List.getElem?_append_left z]at ej
          rw[lG z];exact(kK.obj j o ej).carry cc rfl
         ·have:j=M'.length:=by omega
          subst this;rw[List.getElem?_append_right (Nat.le_refl _),Nat.sub_self]at ej;cases ej;rw[mM];exact⟨acc',hD,rv.carry cc⟩
        ·rw[ln]at hj hj2
         by_cases z:j<M'.length <;> by_cases z2:j2<M'.length
         ·rw[lG z,lG z2]at t6;exact kK.inj j j2 z z2 t6
         ·have:j2=M'.length:=by omega
          subst this;rw[lG z,mM]at t6;exact absurd t6 (tY j z)
         ·have:j=M'.length:=by omega
          subst this;rw[lG z2,mM]at t6;exact absurd t6.symm (tY j2 z2)
         ·omega
       have aT:=a1.trans bB af;refine h' _ H' (.ref D) ⟨by rw[ln];have:=aT.len;omega,fun k hk=>by rw[lG (Nat.lt_of_lt_of_le hk aT.len)];exact aT.iX k hk,aT.oF,fun k h1 h2=>?_,fun k l e=>⟨by rw[List.getElem?_append_left (bK (aT.cP k l e).1).1];exact(aT.cP k l e).1,(aT.cP k l e).2⟩⟩ Q_ (by unfold RV;exact⟨by rw[ln];omega,by rw[mM]⟩);rw[ln]at h2;by_cases z:k<M'.length
       ·rw[lG z];exact aT.new k h1 z
       ·have:k=M'.length:=by omega
        subst this;rw[mM];cases qD:H D with
        |none=>rfl
        |some u=>
         exfalso;by_cases hb:∀k,k<M.length→ρ k≠D
         ·rcases a1.oF D u qD hb with this|⟨_,_,_,this⟩ <;> (rw[nD]at this;cases this)
         ·have⟨j,hj⟩:=Classical.not_forall.mp hb
          have⟨hj1,hj2⟩:=Classical.not_imp.mp hj;have hj3:ρ j=D:=Classical.not_not.mp hj2;obtain⟨w,h3,_⟩:=bB.at (Nat.lt_of_lt_of_le hj1 a1.len);rw[a1.iX j hj1,hj3,nD]at h3;cases h3
      ·rw[if_neg hl]at h';exact h'.elim
     ·rw[if_neg ok]at h';exact h'.elim
  ·rw[if_neg hz]at h;exact h.elim
def tE(G:Gr)(W:WX)(f:FE):TE:=fun σ H Q=>∃ρ σe M,bF G.K ρ M.length H σe σ∧RP G ρ M H∧iE G W σ ρ M H (f σe M) Q
def tT(G:Gr)(W:WX)(f:FT):TT:=fun σ H Q=>∃ρ σe M,bF G.K ρ M.length H σe σ∧RP G ρ M H∧V2 G W σ ρ M H (f σe M) Q
def gP(G:Gr)(put:eA):TG:=fun x' σ H Q=>∃ρ M x l,RP G ρ M H∧RV G.K ρ M.length H x x'∧put x M=some l∧∀l',oM G.K ρ M.length H l l'→Q (puts σ l') H
theorem SE.can{X:Cx}{e:Expr}{f:FE}(h:SE X W e f):PE X e (tE (gr X) W f):=by
 obtain⟨t,h1,h2⟩:=h;exact⟨fun pins s σ H Q I ⟨ρ,σe,M,z1,z2,z3⟩=>h1.run pins s σ H Q I (h2 ρ σe σ M H Q z1 z2 z3)⟩
theorem EF.can{X:Cx}{es:List Expr}{f:FT}(h:EF X W es f):PTs X es (tT (gr X) W f):=by
 obtain⟨t,h1,h2⟩:=h;exact⟨fun pins s σ H Q I ⟨ρ,σe,M,z1,z2,z3⟩=>h1.run pins s σ H Q I (h2 ρ σe σ M H Q z1 z2 z3)⟩
theorem SG.can{X:Cx}{t:Expr}{put:eA}(h:SG X t put):PG X t (gP (gr X) put):=by
 obtain⟨g,h1,h2⟩:=h;exact⟨fun pins s σ H v u Q I r ⟨ρ,M,x,l,z1,z2,z3,z4⟩=>h1.run pins s σ H v u Q I r (h2 ρ M H x v σ Q l z1 z2 z3 z4)⟩
theorem sLc(hc:X.calm=true)(hN:X.N.Nodup)(hi:SI X W tg iter fi)(ok:BlkOk X.N X.env.scope scope own)
  (hg:∀(s:Shared) (H:Hp) (C:Addr) (cl:List (Str×Addr)) (fp:List Addr),SG (X.blk s H scope (compEnvC scope cl C X.env) fp) tg put)
  (ht:∀(s:Shared) (H:Hp) (C:Addr) (cl:List (Str×Addr)) (fp:List Addr),EF (X.blk s H scope (compEnvC scope cl C X.env) fp) W0 ifs ft)
  (he:∀(s:Shared) (H:Hp) (C:Addr) (cl:List (Str×Addr)) (fp:List Addr),SE (X.blk s H scope (compEnvC scope cl C X.env) fp) W0 elt fe)
  (hput:u_ put (own.map (·.2))) (hs:∀x,foldedSetIterable iter X.env x=pure x:=by intro _;rfl):SE X W (.ListComp elt [⟨tg,iter,ifs,0⟩] scope pos) (v9 (own.map (·.2)) fi put ft fe):=by
 obtain⟨wi,i1,i2⟩:=hi;refine⟨_,pe_lc (g:=gP (gr X) put) (tt:=tT (gr X) W0 ft) (te:=tE (gr X) W0 fe) hc hN i1 ok (fun s H C cl fp=>(hg s H C cl fp).can) (fun s H C cl fp=>(ht s H C cl fp).can) (fun s H C cl fp=>(he s H C cl fp).can) hs,?_⟩;exact zDR (G:=gr X) i2 (fun ρ M H x x' σ Q l rp r e h=>⟨ρ,M,x,l,rp,r,e,h⟩) (fun ρ σe σ M H Q rs rp h=>⟨ρ,σe,M,rs,rp,h⟩) (fun ρ σe σ M H Q rs rp h=>⟨ρ,σe,M,rs,rp,h⟩) hput
end
section
variable{G:Gr}{W:WX}{σ:L2.St}{ρ:Nat→Addr}{M:Mem}{H:Hp}{Q:VK}
theorem mH{v:EV}{u:V}(h:iE G W σ ρ M H (.ok v M) Q)(rp:RP G ρ M H)(r:RV G.K ρ M.length H v u):Q u H:=h ρ H u .refl rp r
theorem v5{i:Int}(h:iE G W σ ρ M H (.ok (.int i) M) Q)(rp:RP G ρ M H):Q (.int i) H:=mH h rp (by unfold RV;rfl)
theorem D9{b:Bool}(h:iE G W σ ρ M H (.ok (.bl b) M) Q)(rp:RP G ρ M H):Q (.bl b) H:=mH h rp (by unfold RV;rfl)
theorem p7{x:Str}(h:iE G W σ ρ M H (.ok (.str x) M) Q)(rp:RP G ρ M H):Q (.str x) H:=mH h rp (by unfold RV;rfl)
end
def pT:EV→EV→Option (Int×Int)
 |.int i,.int j=>some (i,j)
 |_,_=>none
def pS:EV→EV→Option (Str×Str)
 |.str i,.str j=>some (i,j)
 |_,_=>none
theorem UM{x y:EV}{p:Int×Int}(h:pT x y=some p):x = .int p.1∧y = .int p.2:=by
 unfold pT at h;split at h
 ·cases h;exact⟨rfl,rfl⟩
 ·cases h
theorem UL{x y:EV}{p:Str×Str}(h:pS x y=some p):x = .str p.1∧y = .str p.2:=by
 unfold pS at h;split at h
 ·cases h;exact⟨rfl,rfl⟩
 ·cases h
def kQ(F F':EV→EV→Mem→Res EV):EV→EV→Mem→Res EV:=fun x y M=>match F x y M with
 |.bad=>F' x y M
 |r=>r
theorem nB.or{G:Gr}{W:WX}{r r':V→V→Hp→VK→Prop}{F F':EV→EV→Mem→Res EV}(a:nB G W r F)(b:nB G W r' F'):nB G W (fun x y H Q=>r x y H Q∨r' x y H Q) (kQ F F'):=by
 intro σ ρ M H x y x' y' Q rp rx ry h;unfold kQ at h;cases q:F x y M with
 |bad=>rw[q]at h;exact .inr (b σ ρ M H x y x' y' Q rp rx ry h)
 |ok v M1=>rw[q]at h;exact .inl (a σ ρ M H x y x' y' Q rp rx ry (by rw[q];exact h))
 |err v M1=>rw[q]at h;exact .inl (a σ ρ M H x y x' y' Q rp rx ry (by rw[q];exact h))
section
variable{X:Cx}{W:WX}
theorem lU.alt{op:Operator}{F F':EV→EV→Mem→Res EV}(a:lU X W op F)(b:lU X W op F'):lU X W op (kQ F F'):=by
 obtain⟨r,a1,a2⟩:=a;obtain⟨r',b1,b2⟩:=b;exact⟨_,a1.or b1,a2.or b2⟩
theorem mK.alt{op:CmpOp}{F F':EV→EV→Mem→Res EV}(a:mK X W op F)(b:mK X W op F'):mK X W op (kQ F F'):=by
 obtain⟨r,a1,a2⟩:=a;obtain⟨r',b1,b2⟩:=b;exact⟨_,a1.or b1,a2.or b2⟩
def opI(C:Int→Int→Prop)(g:Int→Int→EV):EV→EV→Mem→Res EV:=fun x y M=>match pT x y with
 |some p=>if C p.1 p.2 then .ok (g p.1 p.2) M else .bad
 |none=>.bad
def opI0(g:Int→Int→EV):EV→EV→Mem→Res EV:=fun x y M=>match pT x y with
 |some p=>.ok (g p.1 p.2) M
 |none=>.bad
def vL(g:Str→Str→EV):EV→EV→Mem→Res EV:=fun x y M=>match pS x y with
 |some p=>.ok (g p.1 p.2) M
 |none=>.bad
theorem DR{G:Gr}{C:Int→Int→Prop}{g:Int→Int→EV}{g':Int→Int→V}(hg:∀K ρ n H i j,RV K ρ n H (g i j) (g' i j)):nB G W (rI C g') (opI C g):=by
 intro σ ρ M H x y x' y' Q rp rx ry h;unfold opI at h;cases q:pT x y with
 |none=>rw[q]at h;exact h.elim
 |some p=>
  rw[q]at h;obtain⟨rfl,rfl⟩:=UM q;unfold RV at rx ry;by_cases c:C p.1 p.2
  ·dsimp only at h
   rw[if_pos c]at h;exact⟨p.1,p.2,rx,ry,c,mH h rp (hg _ _ _ _ _ _)⟩
  ·dsimp only at h
   rw[if_neg c]at h;exact h.elim
theorem PN{G:Gr}{g:Int→Int→EV}{g':Int→Int→V}(hg:∀K ρ n H i j,RV K ρ n H (g i j) (g' i j)):nB G W (rI0 g') (opI0 g):=by
 intro σ ρ M H x y x' y' Q rp rx ry h;unfold opI0 at h;cases q:pT x y with
 |none=>rw[q]at h;exact h.elim
 |some p=>
  rw[q]at h;obtain⟨rfl,rfl⟩:=UM q;unfold RV at rx ry;exact⟨p.1,p.2,rx,ry,mH h rp (hg _ _ _ _ _ _)⟩
theorem VM{G:Gr}{g:Str→Str→EV}{g':Str→Str→V}(hg:∀K ρ n H i j,RV K ρ n H (g i j) (g' i j)):nB G W (fun x y H Q=>∃i j,x = .str i∧y = .str j∧Q (g' i j) H) (vL g):=by
 intro σ ρ M H x y x' y' Q rp rx ry h;unfold vL at h;cases q:pS x y with
 |none=>rw[q]at h;exact h.elim
 |some p=>
  rw[q]at h;obtain⟨rfl,rfl⟩:=UL q;unfold RV at rx ry;exact⟨p.1,p.2,rx,ry,mH h rp (hg _ _ _ _ _ _)⟩
theorem vW{g:Int→Int→Int}:∀(K:PySem.W.Frag) (ρ:Nat→Addr) (n:Nat) (H:Hp) (i j:Int),RV K ρ n H (.int (g i j)) (.int (g i j)):=fun _ _ _ _ _ _=>by unfold RV;rfl
theorem D7{α:Type}{g:α→α→Bool}:∀(K:PySem.W.Frag) (ρ:Nat→Addr) (n:Nat) (H:Hp) (i j:α),RV K ρ n H (.bl (g i j)) (.bl (g i j)):=fun _ _ _ _ _ _=>by unfold RV;rfl
def tR:EV→EV→Mem→Res EV:=fun x y M=>match pS x y with
 |some p=>if p.1.length+p.2.length≤sizeLine then .ok (.str (p.1++p.2)) M else .bad
 |none=>.bad
def mP(M:Mem):EV→Option (Nat×List EV)
 |.ref k=>match M[k]? with
  |some (.lst xs)=>some (k,xs)
  |_=>none
 |_=>none
theorem NR{G:Gr}{ρ:Nat→Addr}{M:Mem}{H:Hp}(hp:RP G ρ M H){v:EV}{u:V}{k:Nat}{xs:List EV}(r:RV G.K ρ M.length H v u)(e:mP M v=some (k,xs)):
  v = .ref k∧k<M.length∧M[k]? = some (.lst xs)∧∃vs,u = .ref (ρ k)∧H (ρ k)=some (.lst vs)∧aZ G.K ρ M.length H xs vs:=by
 cases v with
 |ref j=>
  unfold mP at e;dsimp only at e;cases q:M[j]? with
  |none=>rw[q]at e;cases e
  |some o=>
   rw[q]at e;cases o with
   |lst ys=>
    cases e;unfold RV at r;obtain⟨vs,h1,h2⟩:=hp.obj _ _ q;exact⟨rfl,r.1,q,vs,r.2,h1,h2⟩
   |_=>cases e
 |_=>cases e
def tS:EV→EV→Mem→Res EV:=fun x y M=>match mP M x,mP M y with
 |some p,some q=>kP (p.2++q.2) M
 |_,_=>.bad
def qA:EV→Option (List EV)
 |.tup xs=>some xs
 |_=>none
theorem VG{x:EV}{xs:List EV}(h:qA x=some xs):x = .tup xs:=by
 unfold qA at h;split at h
 ·cases h;rfl
 ·cases h
def vR:EV→EV→Mem→Res EV:=fun x y M=>match qA x,qA y with
 |some p,some q=>m4 (p++q) M
 |_,_=>.bad
theorem zAU:lU X W .Add (opI0 fun i j=>.int (i+j)):=⟨_,op_add,PN vW⟩
def mV:EV→EV→Mem→Res EV:=opI CMul fun i j=>.int (i*j)
def O2:EV→EV→Mem→Res EV:=opI CDiv fun i j=>.int (i / j)
def oW:EV→EV→Mem→Res EV:=opI (fun(_ j:Int)=>0<j) (fun i j=>.int (i % j))
def DJ:EV→EV→Mem→Res EV:=opI CPow fun i j=>.int (i ^ j.toNat)
theorem n6:lU X W .Mult mV:=⟨_,op_mul,DR vW⟩
theorem zAQ:lU X W .FloorDiv O2:=⟨_,op_fdiv,DR vW⟩
theorem tD:lU X W .Mod oW:=⟨_,op_mod,DR vW⟩
theorem VL:lU X W .Pow DJ:=⟨_,op_pow,DR vW⟩
theorem zAS:lU X W .Add tR:=⟨_,op_add_str,fun σ ρ M H x y x' y' Q rp rx ry h=>by
 unfold tR at h;cases q:pS x y with
 |none=>rw[q]at h;exact h.elim
 |some p=>
  rw[q]at h;obtain⟨rfl,rfl⟩:=UL q;unfold RV at rx ry;dsimp only at h;by_cases c:p.1.length+p.2.length≤sizeLine
  ·rw[if_pos c]at h
   exact⟨p.1,p.2,rx,ry,c,p7 h rp⟩
  ·rw[if_neg c]at h
   exact h.elim⟩
theorem zAT:lU X W .Add tS:=⟨_,op_cat,fun σ ρ M H x y x' y' Q rp rx ry h=>by
 unfold tS at h;cases q1:mP M x with
 |none=>rw[q1]at h;exact h.elim
 |some p=>
  cases q2:mP M y with
  |none=>rw[q1,q2]at h;exact h.elim
  |some q=>
   rw[q1,q2]at h;dsimp only at h;obtain⟨_,_,_,vs,e1,h1,r1⟩:=NR rp rx q1;obtain⟨_,_,_,ws,e2,h2,r2⟩:=NR rp ry q2;obtain⟨l,al⟩:=C1 rp (r1.append r2) h;exact⟨_,_,vs,ws,e1,e2,h1,h2,by rw[List.length_append]at l;exact l,al⟩⟩
theorem zAR:lU X W .Add vR:=⟨_,op_catA,fun σ ρ M H x y x' y' Q rp rx ry h=>by
 unfold vR at h;cases q1:qA x with
 |none=>rw[q1]at h;exact h.elim
 |some p=>
  cases q2:qA y with
  |none=>rw[q1,q2]at h;exact h.elim
  |some q=>
   rw[q1,q2]at h;dsimp only at h;have e1:=VG q1;have e2:=VG q2;subst e1 e2;unfold RV at rx ry;obtain⟨a,vs,e1,h1,r1⟩:=rx;obtain⟨b,ws,e2,h2,r2⟩:=ry;have h0:=h;obtain⟨l,al⟩:=OE rp (r1.append r2) h;rw[List.length_append]at l;unfold m4 at h0;have hz:(p++q).length≤sizeLine:=by rw[List.length_append,← r1.length,← r2.length];exact l
   rw[if_pos hz]at h0;refine⟨a,b,vs,ws,e1,e2,.of h1,.of h2,l,fun z=>?_,fun z1 z2=>?_,fun z1 z2=>al⟩
   ·subst z
    have:p = []:=by have:=r1.length;exact List.length_eq_zero_iff.mp this.symm
    subst this;exact mH h0 rp (by unfold RV;exact⟨b,ws,rfl,h2,r2⟩)
   ·subst z2
    have:q = []:=by have:=r2.length;exact List.length_eq_zero_iff.mp this.symm
    subst this;rw[List.append_nil]at h0;exact mH h0 rp (by unfold RV;exact⟨a,vs,rfl,h1,r1⟩)⟩
def cU:EV→EV→Mem→Res EV:=kQ (opI0 fun i j=>.int (i+j)) (kQ tR (kQ tS vR))
theorem iK:lU X W .Add cU:=zAU.alt (zAS.alt (zAT.alt zAR))
theorem suNeg:SUn X W .USub (fun x M=>match x with|.int i=>.ok (.int (-i)) M|_=>.bad):=⟨_,un_neg,fun σ ρ M H x x' Q rp rx h=>by
 cases x with
 |int i=>unfold RV at rx;exact⟨i,rx,v5 h rp⟩
 |_=>exact h.elim⟩
def EC:EV→EV→Mem→Res EV:=kQ (opI0 fun i j=>.bl (decide (i<j))) (vL fun i j=>.bl (decide (i.cps.toList<j.cps.toList)))
def RW:EV→EV→Mem→Res EV:=kQ (opI0 fun i j=>.bl (decide (j≤i))) (vL fun i j=>.bl (!decide (i.cps.toList<j.cps.toList)))
theorem scLt:mK X W .Lt EC:=(show mK X W .Lt _ from⟨_,op_lt,PN D7⟩).alt ⟨_,op_lt_str,VM D7⟩
theorem scGe:mK X W .GtE RW:=(show mK X W .GtE _ from⟨_,op_ge,PN D7⟩).alt ⟨_,op_ge_str,VM D7⟩
end
mutual
def toD(n:Nat)(M:Mem)(v:EV):Option PyData:=match n,v with
 |_,.non=>some .none
 |_,.bl b=>some (.bool b)
 |_,.int i=>some (.int i)
 |_,.str x=>some (.str x)
 |n+1,.tup xs=>(l_ n M xs).map .tuple
 |n+1,.ref k=>match M[k]? with
  |some (.lst xs)=>(l_ n M xs).map .list
  |_=>none
 |_,_=>none
def l_(n:Nat)(M:Mem)(vs:List EV):Option (List PyData):=match vs with
 |[]=>some []
 |v :: r=>match toD n M v,l_ n M r with
  |some d,some ds=>some (d :: ds)
  |_,_=>none
end
theorem OB(n:Nat)(M:Mem)(h:∀v d,toD n M v=some d→∀(G:Gr) (ρ:Nat→Addr) (H:Hp) (u:V),RP G ρ M H→RV G.K ρ M.length H v u→Dp G.K H u d):
  ∀(vs:List EV) (ds:List PyData),l_ n M vs=some ds→∀(G:Gr) (ρ:Nat→Addr) (H:Hp) (us:List V),RP G ρ M H→aZ G.K ρ M.length H vs us→DpAll G.K H us ds
 |[],ds,e,G,ρ,H,us,rp,r=>by
  unfold l_ at e;cases e;unfold aZ at r;subst r;exact .nil
 |v :: vs,ds,e,G,ρ,H,us,rp,r=>by
  unfold l_ at e;unfold aZ at r;obtain⟨u,s,rfl,r1,r2⟩:=r;cases q1:toD n M v with
  |none=>rw[q1]at e;cases e
  |some d=>
   cases q2:l_ n M vs with
   |none=>rw[q1,q2]at e;cases e
   |some ds'=>
    rw[q1,q2]at e;cases e;exact .cons (h v d q1 G ρ H u rp r1) (OB n M h vs ds' q2 G ρ H s rp r2)
theorem C3(M:Mem):∀(n:Nat) (v:EV) (d:PyData),toD n M v=some d→∀(G:Gr) (ρ:Nat→Addr) (H:Hp) (u:V),RP G ρ M H→RV G.K ρ M.length H v u→Dp G.K H u d:=by
 intro n
 induction n with
 |zero=>
  intro v d e G ρ H u rp r;cases v with
  |non=>unfold toD at e;cases e;unfold RV at r;subst r;exact .non
  |bl b=>unfold toD at e;cases e;unfold RV at r;subst r;exact .bl b
  |int i=>unfold toD at e;cases e;unfold RV at r;subst r;exact .int i
  |str x=>unfold toD at e;cases e;unfold RV at r;subst r;exact .str x
  |_=>unfold toD at e;cases e
 |succ n ih=>
  intro v d e G ρ H u rp r;cases v with
  |non=>unfold toD at e;cases e;unfold RV at r;subst r;exact .non
  |bl b=>unfold toD at e;cases e;unfold RV at r;subst r;exact .bl b
  |int i=>unfold toD at e;cases e;unfold RV at r;subst r;exact .int i
  |str x=>unfold toD at e;cases e;unfold RV at r;subst r;exact .str x
  |tup xs=>
   unfold toD at e;unfold RV at r;obtain⟨a,vs,rfl,h1,h2⟩:=r;cases q:l_ n M xs with
   |none=>rw[q]at e;cases e
   |some ds=>rw[q]at e;cases e;exact .tup (.of h1) (OB n M ih xs ds q G ρ H vs rp h2)
  |ref k=>
   unfold toD at e;unfold RV at r;obtain⟨_,rfl⟩:=r;cases q0:M[k]? with
   |none=>rw[q0]at e;cases e
   |some o=>
    rw[q0]at e;cases o with
    |lst xs=>
     dsimp only at e;obtain⟨vs,h1,h2⟩:=rp.obj k _ q0;cases q:l_ n M xs with
     |none=>rw[q]at e;cases e
     |some ds=>rw[q]at e;cases e;exact .lst (.of h1) (OB n M ih xs ds q G ρ H vs rp h2)
    |_=>cases e
  |_=>unfold toD at e;cases e
abbrev pF(M:Mem)(v:EV):Option PyData:=toD 60 M v
def nR(neg:Bool):EV→EV→Mem→Res EV:=fun x y M=>match pF M x,pF M y with
 |some d,some e=>if SeqAt.shaped d=true∧SeqAt.shaped e=true then .ok (.bl (if neg=true then !PyData.eqv d e else PyData.eqv d e)) M else .bad
 |_,_=>.bad
section
variable{X:Cx}{W:WX}{k:Nat}
theorem hu64(hr:Room k X.A):X.A.units+64<cLine:=hr.units
theorem VP(hr:Room k X.A):mK X W .Eq (nR false):=⟨_,op_eqD (hu64 hr),fun σ ρ M H x y x' y' Q rp rx ry h=>by
 unfold nR at h;cases q1:pF M x with
 |none=>rw[q1]at h;exact h.elim
 |some d=>
  cases q2:pF M y with
  |none=>rw[q1,q2]at h;exact h.elim
  |some e=>
   rw[q1,q2]at h;dsimp only at h;by_cases c:SeqAt.shaped d=true∧SeqAt.shaped e=true
   ·rw[if_pos c]at h
    exact⟨d,e,C3 M 60 x d q1 _ ρ H x' rp rx,C3 M 60 y e q2 _ ρ H y' rp ry,c.1,c.2,D9 h rp⟩
   ·rw[if_neg c]at h
    exact h.elim⟩
theorem VO(hr:Room k X.A):mK X W .NotEq (nR true):=⟨_,op_neD (hu64 hr),fun σ ρ M H x y x' y' Q rp rx ry h=>by
 unfold nR at h;cases q1:pF M x with
 |none=>rw[q1]at h;exact h.elim
 |some d=>
  cases q2:pF M y with
  |none=>rw[q1,q2]at h;exact h.elim
  |some e=>
   rw[q1,q2]at h;dsimp only at h;by_cases c:SeqAt.shaped d=true∧SeqAt.shaped e=true
   ·rw[if_pos c]at h
    exact⟨d,e,C3 M 60 x d q1 _ ρ H x' rp rx,C3 M 60 y e q2 _ ρ H y' rp ry,c.1,c.2,D9 h rp⟩
   ·rw[if_neg c]at h
    exact h.elim⟩
end
def iW(n:Nat)(i:Int):Option Nat:=L2.ixN n i
def oT:EV→EV→Mem→Res EV:=fun x y M=>match y with
 |.int i=>(match l4 M x with
  |some xs=>(match iW xs.length i with
   |some j=>(match xs[j]? with
    |some v=>.ok v M
    |none=>.bad)
   |none=>.bad)
  |none=>(match x with
   |.str z=>if z.length≤sizeLine then(match L2.atI z.cps.toList i with
    |some c=>.ok (.str ⟨#[c]⟩) M
    |none=>.bad)else .bad
   |_=>.bad))
 |_=>.bad
section
variable{X:Cx}{W:WX}{a b:Expr}{f g:FE}{pos p2:Pos}
theorem sIx(ha:SE X W a f)(hb:SE X W b g)(hs:PlainIx b:=by intro _ _;rfl):SE X W (.Subscript a b pos) (e2 oT f g):=by
 obtain⟨ta,a1,a2⟩:=ha;obtain⟨tb,b1,b2⟩:=hb;refine⟨_,pe_ix ix_seq a1 b1 hs,vG a2 b2 fun σ ρ M H x y x' y' Q rp rx ry h=>?_⟩;unfold oT at h;cases y with
 |int i=>
  dsimp only at h;unfold RV at ry;cases q:l4 M x with
  |some xs=>
   rw[q]at h;dsimp only at h;obtain⟨p,vs,e1,sq,r⟩:=OH rp rx q;cases q2:iW xs.length i with
   |none=>rw[q2]at h;exact h.elim
   |some j=>
    rw[q2]at h;dsimp only at h;cases q3:xs[j]? with
    |none=>rw[q3]at h;exact h.elim
    |some v=>
     rw[q3]at h;obtain⟨u,g1,g2⟩:=r.get q3;have at1:L2.atI vs i=some u:=by
      unfold L2.atI;rw[r.length];rw[show L2.ixN xs.length i=some j from q2];exact g1
     rcases sq with sq|sq
     ·exact .inl ⟨p,vs,i,u,e1,ry,sq,at1,mH h rp g2⟩
     ·exact .inr (.inl ⟨p,vs,i,u,e1,ry,sq,at1,mH h rp g2⟩)
  |none=>
   rw[q]at h;dsimp only at h;cases x with
   |str z=>
    dsimp only at h;unfold RV at rx;by_cases c:z.length≤sizeLine
    ·rw[if_pos c]at h
     cases q2:L2.atI z.cps.toList i with
     |none=>rw[q2]at h;exact h.elim
     |some cc=>rw[q2]at h;exact .inr (.inr ⟨z,i,cc,rx,ry,c,q2,p7 h rp⟩)
    ·rw[if_neg c]at h;exact h.elim
   |_=>exact h.elim
 |_=>exact h.elim
structure SO(X:Cx)(W:WX)(e:Option Expr)(f:bA→Mem→Res (Option Int)):Prop where
 ex:∃t,PO X e t∧∀ρ σe σ M H Q,bF X.K ρ M.length H σe σ→RP (gr X) ρ M H→bI (fun _ _ _ _ a b=>b=a) (gr X) W σ ρ M H (f σe M) Q→t σ H Q
def P5:bA→Mem→Res (Option Int):=fun _ M=>.ok none M
def P3(f:FE):bA→Mem→Res (Option Int):=fun σ M=>(f σ M).bind fun v M1=>match v with
 |.int i=>.ok (some i) M1
 |_=>.bad
theorem zAP:SO X W none P5:=⟨_,po_none,fun ρ σe σ M H Q rs rp h=>bI.ok0 (R:=fun _ _ _ _ a b=>b=a) h rp rfl⟩
theorem zAO{e:Expr}(he:SE X W e f):SO X W (some e) (P3 f):=by
 obtain⟨t,h1,h2⟩:=he;refine⟨_,po_some h1,fun ρ σe σ M H Q rs rp h=>?_⟩;refine h2 ρ σe σ M H _ rs rp (bI.bind h fun v M1 ρ1 H1 v1 _ a bB r h1=>?_);cases v with
 |int i=>unfold RV at r;exact⟨i,r,bI.ok0 (R:=fun _ _ _ _ a b=>b=a) h1 bB rfl⟩
 |_=>exact h1.elim
def cutE(xs:List EV)(lo hi:Option Int):List EV:=(xs.drop (HT.sIx xs.length 0 lo)).take (HT.sIx xs.length xs.length hi-HT.sIx xs.length 0 lo)
def o6(x:EV)(lo hi:Option Int)(M:Mem):Res EV:=match x with
 |.tup xs=>m4 (cutE xs lo hi) M
 |.str z=>if z.length≤sizeLine then .ok (.str (L2.cutS z lo hi)) M else .bad
 |x=>match getL M x with
  |some xs=>kP (cutE xs lo hi) M
  |none=>.bad
def QW(f:FE)(l u:bA→Mem→Res (Option Int)):FE:=fun σ M=>(f σ M).bind fun v M1=>(l σ M1).bind fun lo M2=>(u σ M2).bind fun hi M3=>o6 v lo hi M3
theorem sSlc{e:Expr}{lo hi:Option Expr}{fl fh:bA→Mem→Res (Option Int)}(he:SE X W e f)(hl:SO X W lo fl)(hh:SO X W hi fh):SE X W (.Subscript e (.Slice lo hi none p2) pos) (QW f fl fh):=by
 obtain⟨t,h1,h2⟩:=he;obtain⟨tl,l1,l2⟩:=hl;obtain⟨th,u1,u2⟩:=hh;refine⟨_,pe_slice (sl_list.or (sl_tupA.or sl_str)) h1 l1 u1,fun ρ σe σ M H Q rs rp h=>?_⟩;refine h2 ρ σe σ M H _ rs rp (bI.bind h fun v M1 ρ1 H1 v1 _ a1 bB r1 k1=>?_);refine l2 ρ1 σe σ M1 H1 _ (rs.carry (a1.carry rp)) bB (bI.bind (R:=fun _ _ _ _ a b=>b=a) k1 fun lo' M2 ρ2 H2 lo2 _ a2 k8 r2 k2=>?_);refine u2 ρ2 σe σ M2 H2 _ ((rs.carry (a1.carry rp)).carry (a2.carry bB)) k8 (bI.bind (R:=fun _ _ _ _ a b=>b=a) k2 fun hi' M3 ρ3 H3 hi2 _ a3 lT r3 k3=>?_);subst r2 r3;have r:=(r1.carry (a2.carry bB)).carry (a3.carry k8);have QX:∀{xs:List EV} {vs:List V},aZ X.K ρ3 M3.length H3 xs vs→aZ X.K ρ3 M3.length H3 (cutE xs lo2 hi2) (cutV vs lo2 hi2):=fun{xs vs} q=>by
  unfold cutE cutV;rw[q.length];exact(q.drop _).take _
 have lists:∀(xs:List EV),getL M3 v=some xs→iE (gr X) W σ ρ3 M3 H3 (kP (cutE xs lo2 hi2) M3) Q→∃a xs,v1 = .ref a∧SqL X.K H3 a xs∧∀p,H3 p=none→Q (.ref p) (upd H3 p (.lst (cutV xs lo2 hi2))):=fun xs e k=>by
  obtain⟨a,vs,e1,sq,rr⟩:=OI lT r e;obtain⟨_,al⟩:=C1 lT (QX rr) k;exact⟨a,vs,e1,sq,al⟩
 unfold o6 at k3;cases v with
 |tup xs=>
  unfold RV at r;obtain⟨a,vs,e1,sq,rr⟩:=r;have k0:iE (gr X) W σ ρ3 M3 H3 (m4 (cutE xs lo2 hi2) M3) Q:=k3;obtain⟨lz,al⟩:=OE lT (QX rr) k0;refine .inr (.inl ⟨a,vs,e1,.of sq,fun z=>?_,fun _=>al⟩);have e2:cutE xs lo2 hi2=xs:=by
   unfold cutE;rw[← rr.length,z.1,z.2,List.drop_zero,Nat.sub_zero,rr.length,List.take_length]
  rw[e2]at k0;unfold m4 at k0;have l2:xs.length≤sizeLine:=by
   have:=(QX rr).length;rw[e2]at this;omega
  rw[if_pos l2]at k0;exact mH k0 lT (by unfold RV;exact⟨a,vs,rfl,sq,rr⟩)
 |str z=>
  unfold RV at r;dsimp only at k3;by_cases c:z.length≤sizeLine
  ·rw[if_pos c]at k3
   exact .inr (.inr ⟨z,r,c,p7 k3 lT⟩)
  ·rw[if_neg c]at k3
   exact k3.elim
 |ref j=>
  dsimp only at k3;cases q:getL M3 (.ref j)with
  |none=>rw[q]at k3;exact k3.elim
  |some xs=>rw[q]at k3;exact .inl (lists xs q k3)
 |sl ys=>
  dsimp only at k3;cases q:getL M3 (.sl ys)with
  |none=>rw[q]at k3;exact k3.elim
  |some xs=>rw[q]at k3;exact .inl (lists xs q k3)
 |_=>exact k3.elim
end
def CS(G:Gr)(W:WX)(r:List V→Hp→VK→Prop)(F:Fn):Prop:=
 ∀(σ:L2.St) ρ M H xs vs Q,RP G ρ M H→aZ G.K ρ M.length H xs vs→iE G W σ ρ M H (F xs M) Q→r vs H Q
structure SB(X:Cx)(W:WX)(f:Value)(F:Fn):Prop where
 ex:∃r,CallR X f r∧CS (gr X) W r F
def oH(F F':Fn):Fn:=fun xs M=>match F xs M with
 |.bad=>F' xs M
 |r=>r
def eB(F:Fn)(g:FA):FE:=fun σ M=>(g σ M).bind F
section
variable{X:Cx}{W:WX}{f:Value}{x:Str}{p pos:Pos}{e:Expr}{es:List Expr}{fa:FA}{F F':Fn}
theorem SB.alt(a:SB X W f F)(b:SB X W f F'):SB X W f (oH F F'):=by
 obtain⟨r,a1,a2⟩:=a;obtain⟨r',b1,b2⟩:=b;refine⟨_,a1.or b1,fun σ ρ M H xs vs Q rp rv h=>?_⟩;unfold oH at h;cases q:F xs M with
 |bad=>rw[q]at h;exact .inr (b2 σ ρ M H xs vs Q rp rv h)
 |ok v M1=>rw[q]at h;exact .inl (a2 σ ρ M H xs vs Q rp rv (by rw[q];exact h))
 |err y M1=>rw[q]at h;exact .inl (a2 σ ρ M H xs vs Q rp rv (by rw[q];exact h))
theorem D6{id:String}(hc:SB X W (.builtin id) F)(ha:SA X W (e :: es) fa)(hm:X.mg x=none)(hv:bootBuiltins x=some (.builtin id))(hg:Gl X x:=by rfl)(hn:x≠"__name__":=by decide)(hdb:(x == ("__debug__" : Str))=false:=by decide)
  (he:starEach (e :: es) X.env=(false,eval e X.env) :: starEach es X.env:=by rfl) (hpl:(backTo pos (starEach es X.env)).any (·.1)=false:=by rfl):SE X W (.Call (.Name x p) (e :: es) [] pos) (eB F fa):=by
 obtain⟨r,c1,c2⟩:=hc;obtain⟨t,h1,h2⟩:=ha;refine⟨_,pe_callB c1 hg hm hv h1 hn hdb he hpl,fun ρ σe σ M H Q rs rp h=>?_⟩;exact h2 ρ σe σ M H _ rs rp (bI.bind (R:=fun K ρ n H=>aZ K ρ n H) h fun v M1 ρ1 H1 v1 _ a bB r h1=>c2 σ ρ1 M1 H1 v v1 Q bB r h1)
theorem V7{T:String}(hc:SB X W (.type T) F)(ha:SA X W (e :: es) fa)(hm:X.mg x=none)(hv:bootBuiltins x=some (.type T))(hg:Gl X x:=by rfl)(hn:x≠"__name__":=by decide)(hdb:(x == ("__debug__" : Str))=false:=by decide)
  (he:starEach (e :: es) X.env=(false,eval e X.env) :: starEach es X.env:=by rfl) (hpl:(backTo pos (starEach es X.env)).any (·.1)=false:=by rfl):SE X W (.Call (.Name x p) (e :: es) [] pos) (eB F fa):=by
 obtain⟨r,c1,c2⟩:=hc;obtain⟨t,h1,h2⟩:=ha;refine⟨_,pe_callTy c1 hg hm hv h1 hn hdb he hpl,fun ρ σe σ M H Q rs rp h=>?_⟩;exact h2 ρ σe σ M H _ rs rp (bI.bind (R:=fun K ρ n H=>aZ K ρ n H) h fun v M1 ρ1 H1 v1 _ a bB r h1=>c2 σ ρ1 M1 H1 v v1 Q bB r h1)
def f1(F:EV→Mem→Res EV):Fn:=fun xs M=>match xs with
 |[x]=>F x M
 |_=>.bad
theorem EB{G:Gr}{r:List V→Hp→VK→Prop}{F:EV→Mem→Res EV}(h:∀(σ:L2.St) ρ M H x v Q,RP G ρ M H→RV G.K ρ M.length H x v→iE G W σ ρ M H (F x M) Q→r [v] H Q):CS G W r (f1 F):=by
 intro σ ρ M H xs vs Q rp rv k
 match xs,rv,k with
 |[],_,k=>exact k.elim
 |_ :: _ :: _,_,k=>exact k.elim
 |[x],rv,k=>
  unfold aZ aZ at rv;obtain⟨v,s,rfl,r1,rfl⟩:=rv;exact h σ ρ M H x v Q rp r1 k
def f2(F:EV→EV→Mem→Res EV):Fn:=fun xs M=>match xs with
 |[x,y]=>F x y M
 |_=>.bad
def lenV(x:EV)(M:Mem):Res EV:=match x with
 |.str z=>if z.length≤sizeLine then .ok (.int z.length) M else .bad
 |x=>match l4 M x with
  |some xs=>.ok (.int xs.length) M
  |none=>.bad
theorem DI:SB X W (.builtin "len") (f1 lenV):=⟨_,call_len_str.or call_len_seq,EB fun σ ρ M H x v Q rp r h=>by
 have seq:∀xs,l4 M x=some xs→iE (gr X) W σ ρ M H (.ok (.int xs.length) M) Q→∃p ys,[v] = [.ref p]∧(SqL X.K H p ys∨SqT X.K H p ys)∧Q (.int ys.length) H:=fun xs e k=>by
  obtain⟨a,vs,e1,sq,rr⟩:=OH rp r e;exact⟨a,vs,by rw[e1],sq,by rw[rr.length];exact v5 k rp⟩
 unfold lenV at h;cases x with
 |str z=>
  dsimp only at h;unfold RV at r;by_cases c:z.length≤sizeLine
  ·rw[if_pos c]at h
   exact .inl ⟨z,by rw[r],c,v5 h rp⟩
  ·rw[if_neg c]at h
   exact h.elim
 |_=>
  dsimp only at h;split at h
  ·rename_i xs e
   exact .inr (seq _ e h)
  ·exact h.elim⟩
def u3(x:EV)(M:Mem):Res EV:=match l4 M x with
 |some xs=>kP xs M
 |none=>.bad
theorem zAW:SB X W (.type "list") (f1 u3):=⟨_,call_list_of,EB fun σ ρ M H x v Q rp r h=>by
 unfold u3 at h;cases q:l4 M x with
 |none=>rw[q]at h;exact h.elim
 |some xs=>
  rw[q]at h;obtain⟨a,vs,e1,sq,rr⟩:=OH rp r q;exact⟨a,vs,by rw[e1],sq,(C1 rp rr h).2⟩⟩
def intsOf:List EV→Option (List Int)
 |[]=>some []
 |.int i :: r=>(intsOf r).map (i :: ·)
 |_ :: _=>none
def absV:EV→Mem→Res EV:=fun x M=>match x with
 |.int i=>.ok (.int (if i<0 then -i else i)) M
 |_=>.bad
def vD:EV→Mem→Res EV:=fun x M=>match x with
 |.int i=>if i.natAbs.log2<1920 then .ok (.str (toString i)) M else .bad
 |_=>.bad
theorem zDU:SB X W (.type "str") (f1 vD):=⟨_,call_str_int,EB fun σ ρ M H x v Q rp r h=>by
 cases x with
 |int i=>
  unfold RV at r;unfold vD at h;dsimp only at h;by_cases c:i.natAbs.log2<1920
  ·rw[if_pos c]at h;exact⟨i,by rw[r],c,p7 h rp⟩
  ·rw[if_neg c]at h;exact h.elim
 |_=>exact h.elim⟩
end
section
variable{X:Cx}{W:WX}{id:String}{name:Str}{F:EV→Fn}{o e:Expr}{es:List Expr}{fo:FE}{fa:FA}{apos cpos:Pos}
def m1(F:EV→EV→Mem→Res EV):EV→Fn:=fun x xs M=>match xs with
 |[y]=>F x y M
 |_=>.bad
def m0(F:EV→Mem→Res EV):EV→Fn:=fun x xs M=>match xs with
 |[]=>F x M
 |_=>.bad
end
def lR(kvs:List (EV×EV))(k:EV):Option EV:=match kvs with
 |[]=>none
 |p :: r=>if p.1=k then some p.2 else lR r k
def lE(kvs:List (EV×EV))(k v:EV):List (EV×EV):=match kvs with
 |[]=>[(k,v)]
 |p :: r=>if p.1=k then(p.1,v) :: r else p :: lE r k v
def oS(k:EV):Bool:=(leafOf k).isSome
def mQ(k:EV):Bool:=match k with
 |.tup _=>(match bP k with
  |some n=>decide (n.depth≤8)
  |none=>false)
 |_=>false
def nK(kvs:List (EV×EV)):Bool:=kvs.all fun p=>oS p.1
def nJ(kvs:List (EV×EV)):Bool:=kvs.all fun p=>mQ p.1
theorem TB{x y:EV}{k:Leaf}(h1:leafOf x=some k)(h2:leafOf y=some k):x=y:=by
 cases x <;> cases y <;> simp_all [leafOf] <;> (subst h1;cases h2) <;> rfl
mutual
theorem OD:∀{x y:EV} {k:NestedKey},bP x=some k→bP y=some k→x=y
 |.non,y,k,h1,h2=>by
  unfold bP at h1;cases h1;cases y with
  |non=>rfl
  |tup ys=>unfold bP at h2;cases q:kS ys with
   |none=>rw[q]at h2;cases h2
   |some m=>rw[q]at h2;cases h2
  |_=>unfold bP at h2;cases h2
 |.int i,y,k,h1,h2=>by
  unfold bP at h1;cases h1;cases y with
  |int j=>unfold bP at h2;cases h2;rfl
  |tup ys=>unfold bP at h2;cases q:kS ys with
   |none=>rw[q]at h2;cases h2
   |some m=>rw[q]at h2;cases h2
  |_=>unfold bP at h2;cases h2
 |.str i,y,k,h1,h2=>by
  unfold bP at h1;cases h1;cases y with
  |str j=>unfold bP at h2;cases h2;rfl
  |tup ys=>unfold bP at h2;cases q:kS ys with
   |none=>rw[q]at h2;cases h2
   |some m=>rw[q]at h2;cases h2
  |_=>unfold bP at h2;cases h2
 |.tup xs,y,k,h1,h2=>by
  unfold bP at h1;cases q1:kS xs with
  |none=>rw[q1]at h1;cases h1
  |some m1=>
   rw[q1]at h1;cases h1;cases y with
   |tup ys=>
    unfold bP at h2;cases q2:kS ys with
    |none=>rw[q2]at h2;cases h2
    |some m2=>
     rw[q2]at h2;cases h2;rw[TU q1 q2]
   |_=>unfold bP at h2;cases h2
 |.bl _,_,_,h1,_=>by unfold bP at h1;cases h1
 |.ref _,_,_,h1,_=>by unfold bP at h1;cases h1
 |.adr _,_,_,h1,_=>by unfold bP at h1;cases h1
 |.ty _,_,_,h1,_=>by unfold bP at h1;cases h1
 |.exc _,_,_,h1,_=>by unfold bP at h1;cases h1
 |.exf _ _ _,_,_,h1,_=>by unfold bP at h1;cases h1
 |.sl _,_,_,h1,_=>by unfold bP at h1;cases h1
theorem TU:∀{xs ys:List EV} {ks:List NestedKey},kS xs=some ks→kS ys=some ks→xs=ys
 |[],ys,ks,h1,h2=>by
  unfold kS at h1;cases h1;cases ys with
  |nil=>rfl
  |cons y ys=>unfold kS at h2;split at h2 <;> cases h2
 |x :: xs,ys,ks,h1,h2=>by
  unfold kS at h1;split at h1
  ·rename_i k ks' e1 e2
   cases h1;cases ys with
   |nil=>unfold kS at h2;cases h2
   |cons y ys=>
    unfold kS at h2;split at h2
    ·rename_i k2 ks2 e3 e4
     cases h2;rw[OD e1 e3,TU e2 e4]
    ·cases h2
  ·cases h1
end
section
variable{K:PySem.W.Frag}{ρ:Nat→Addr}{n:Nat}{H:Hp}
theorem XJ{κ:Type}[DecidableEq κ](p:κ×V)(r:List (κ×V))(k:κ)(v:V)(nd:(p :: r).map (·.1) |>.Nodup):putK (p :: r) k v=if p.1=k then(p.1,v) :: r else p :: putK r k v:=by
 unfold putK;rw[List.any_cons];by_cases e:p.1=k
 ·rw[if_pos e,decide_eq_true e,Bool.true_or,if_pos rfl,List.map_cons,if_pos e]
  congr 1
  have:∀q∈r,(if q.1=k then(q.1,v)else q)=q:=fun q hq=>by
   rw[if_neg];intro z;rw[List.map_cons,List.nodup_cons]at nd;exact nd.1 (List.mem_map.mpr ⟨q,hq,z.trans e.symm⟩)
  rw[List.map_congr_left this,List.map_id']
 ·rw[if_neg e,decide_eq_false e,Bool.false_or]
  split
  ·rw[List.map_cons,if_neg e]
  ·rfl
theorem kZ.length:∀{kvs:List (EV×EV)} {l:List (Leaf×V)},kZ K ρ n H kvs l→l.length=kvs.length
 |[],l,h=>by rw[show l = []from h];rfl
 |p :: r,_,⟨k,v,s,e,h1,h2,h3⟩=>by rw[e,List.length_cons,List.length_cons,kZ.length h3]
theorem kZ.get{x:EV}{k:Leaf}(hk:leafOf x=some k):∀{kvs:List (EV×EV)} {l:List (Leaf×V)},kZ K ρ n H kvs l→(∀v,lR kvs x=some v→∃u,valV l k=some u∧RV K ρ n H v u)∧(lR kvs x=none→valV l k=none)
 |[],l,h=>by
  have h:l = []:=h;subst h;exact⟨fun _ e=>(by unfold lR at e;cases e),fun _=>rfl⟩
 |p :: r,_,⟨k',v,s,e,h1,h2,h3⟩=>by
  subst e;obtain⟨i1,i2⟩:=kZ.get hk h3;unfold lR;by_cases z:p.1=x
  ·have z2:k'=k:=by rw[z,hk]at h1;exact(Option.some.inj h1).symm
   rw[if_pos z,valV_pos (p:=(k',v)) z2];exact⟨fun w e=>⟨v,rfl,by cases e;exact h2⟩,fun e=>by cases e⟩
  ·have z2:¬ k'=k:=fun q=>z (TB (h1.trans (by rw[q])) hk)
   rw[if_neg z,valV_neg (p:=(k',v)) z2];exact⟨i1,i2⟩
theorem kZ.put{x v:EV}{k:Leaf}{u:V}(hk:leafOf x=some k)(hv:RV K ρ n H v u):∀{kvs:List (EV×EV)} {l:List (Leaf×V)},kZ K ρ n H kvs l→(l.map (·.1)).Nodup→kZ K ρ n H (lE kvs x v) (putK l k u)
 |[],l,h,_=>by
  have h:l = []:=h;subst h;exact⟨k,u,[],rfl,hk,hv,rfl⟩
 |p :: r,_,⟨k',w,s,e,h1,h2,h3⟩,nd=>by
  subst e;rw[XJ _ _ _ _ nd];unfold lE;by_cases z:p.1=x
  ·have z2:k'=k:=by rw[z,hk]at h1;exact(Option.some.inj h1).symm
   rw[if_pos z,if_pos (show((k',w):Leaf×V).1=k from z2)];exact⟨k',u,s,rfl,h1,hv,h3⟩
  ·have z2:¬ k'=k:=fun q=>z (TB (h1.trans (by rw[q])) hk)
   rw[if_neg z,if_neg (show ¬ ((k',w):Leaf×V).1=k from z2)];rw[List.map_cons,List.nodup_cons]at nd;exact⟨k',w,_,rfl,h1,h2,kZ.put hk hv h3 nd.2⟩
def atT(l:List (NestedKey×Addr×V))(k:NestedKey):Option V:=(l.find? fun x=>decide (x.1=k)).map (·.2.2)
def putT(l:List (NestedKey×Addr×V))(k:NestedKey)(a:Addr)(v:V):List (NestedKey×Addr×V):=match l with
 |[]=>[(k,a,v)]
 |p :: r=>if p.1=k then(p.1,p.2.1,v) :: r else p :: putT r k a v
theorem kM.length:∀{kvs:List (EV×EV)} {l:List (NestedKey×Addr×V)},kM K ρ n H kvs l→l.length=kvs.length
 |[],l,h=>by rw[show l = []from h];rfl
 |p :: r,_,⟨k,a,v,s,e,h1,hd,h2,h3,h4⟩=>by rw[e,List.length_cons,List.length_cons,kM.length h4]
theorem kM.get{x:EV}{k:NestedKey}(hk:bP x=some k):∀{kvs:List (EV×EV)} {l:List (NestedKey×Addr×V)},kM K ρ n H kvs l→(∀v,lR kvs x=some v→∃u,atT l k=some u∧RV K ρ n H v u)∧(lR kvs x=none→atT l k=none)
 |[],l,h=>by
  have h:l = []:=h;subst h;exact⟨fun _ e=>(by unfold lR at e;cases e),fun _=>rfl⟩
 |p :: r,_,⟨k',a,v,s,e,h1,hd,h2,h3,h4⟩=>by
  subst e;obtain⟨i1,i2⟩:=kM.get hk h4;unfold lR atT;rw[List.find?_cons];by_cases z:p.1=x
  ·have z2:k'=k:=by rw[z,hk]at h1;exact(Option.some.inj h1).symm
   rw[if_pos z,decide_eq_true (show((k',a,v):NestedKey×Addr×V).1=k from z2)];exact⟨fun w e=>⟨v,rfl,by cases e;exact h3⟩,fun e=>by cases e⟩
  ·have z2:¬ k'=k:=fun q=>z (OD (h1.trans (by rw[q])) hk)
   rw[if_neg z,decide_eq_false (show ¬ ((k',a,v):NestedKey×Addr×V).1=k from z2)];exact⟨i1,i2⟩
theorem kM.put{x v:EV}{k:NestedKey}{b:Addr}{u:V}(hk:bP x=some k)(p9:k.depth≤8)(hb:RV K ρ n H x (.ref b))(hv:RV K ρ n H v u):∀{kvs:List (EV×EV)} {l:List (NestedKey×Addr×V)},kM K ρ n H kvs l→kM K ρ n H (lE kvs x v) (putT l k b u)
 |[],l,h=>by
  have h:l = []:=h;subst h;exact⟨k,b,u,[],rfl,hk,p9,hb,hv,rfl⟩
 |p :: r,_,⟨k',a,w,s,e,h1,hd,h2,h3,h4⟩=>by
  subst e;unfold lE putT;by_cases z:p.1=x
  ·have z2:k'=k:=by rw[z,hk]at h1;exact(Option.some.inj h1).symm
   rw[if_pos z,if_pos (show((k',a,w):NestedKey×Addr×V).1=k from z2)];exact⟨k',a,u,s,rfl,h1,hd,h2,hv,h4⟩
  ·have z2:¬ k'=k:=fun q=>z (OD (h1.trans (by rw[q])) hk)
   rw[if_neg z,if_neg (show ¬ ((k',a,w):NestedKey×Addr×V).1=k from z2)];exact⟨k',a,w,_,rfl,h1,hd,h2,h3,kM.put hk p9 hb hv h4⟩
end
mutual
theorem DL{P:Program}{w:World}{K:PySem.W.Frag}{ρ:Nat→Addr}{n:Nat}{H:Hp}{h:Heap}(ok:HOk P w H h):∀{x:EV} {k:NestedKey} {v:V} {u:Value},bP x=some k→RV K ρ n H x v→RelV v u→NestedIs h k u
 |.non,k,v,u,e,r,q=>by unfold bP at e;cases e;unfold RV at r;subst r;cases(show u=Value.none from q);exact .none
 |.int i,k,v,u,e,r,q=>by unfold bP at e;cases e;unfold RV at r;subst r;obtain⟨t,rfl⟩:=(show ∃t,u=Value.int i t from q);exact .int i t
 |.str i,k,v,u,e,r,q=>by unfold bP at e;cases e;unfold RV at r;subst r;obtain⟨t,rfl⟩:=(show ∃t,u=Value.str i t from q);exact .text i t
 |.tup xs,k,v,u,e,r,q=>by
  unfold bP at e;unfold RV at r;obtain⟨a,vs,rfl,h1,h2⟩:=r;cases(show u=Value.ref a from q);cases q1:kS xs with
  |none=>rw[q1]at e;cases e
  |some ks=>
   rw[q1]at e;cases e;obtain⟨_,its,rv,o,g1,g2,m,g3⟩:=(show ObjOk P w H h a (.tup vs)from ok a _ h1);exact .tup g1 g2 g3 (by simpa using US ok q1 h2 rv)
 |.bl _,_,_,_,e,_,_=>by unfold bP at e;cases e
 |.ref _,_,_,_,e,_,_=>by unfold bP at e;cases e
 |.adr _,_,_,_,e,_,_=>by unfold bP at e;cases e
 |.ty _,_,_,_,e,_,_=>by unfold bP at e;cases e
 |.exc _,_,_,_,e,_,_=>by unfold bP at e;cases e
 |.exf _ _ _,_,_,_,e,_,_=>by unfold bP at e;cases e
 |.sl _,_,_,_,e,_,_=>by unfold bP at e;cases e
theorem US{P:Program}{w:World}{K:PySem.W.Frag}{ρ:Nat→Addr}{n:Nat}{H:Hp}{h:Heap}(ok:HOk P w H h):∀{xs:List EV} {ks:List NestedKey} {vs:List V} {us:List Value},kS xs=some ks→aZ K ρ n H xs vs→Vals vs us→NestedAll h ks us
 |[],ks,vs,us,e,r,q=>by
  unfold kS at e;cases e;unfold aZ at r;subst r;cases q;exact .nil
 |x :: xs,ks,vs,us,e,r,q=>by
  unfold kS at e;split at e
  ·rename_i k ks' e1 e2
   cases e;unfold aZ at r;obtain⟨v,s,rfl,r1,r2⟩:=r;cases q with
   |cons q1 q2=>exact .cons (DL ok e1 r1 q1) (US ok e2 r2 q2)
  ·cases e
end
theorem UW{P:Program}{w:World}{K:PySem.W.Frag}{ρ:Nat→Addr}{n:Nat}{H:Hp}{x:EV}{k:Leaf}{v:V}{u:Value}(e:leafOf x=some k)(r:RV K ρ n H x v)(q:RelV v u):(DE P w).is k u=true:=by
 cases x with
 |non=>unfold leafOf at e;cases e;unfold RV at r;subst r;cases(show u=Value.none from q);rfl
 |int i=>unfold leafOf at e;cases e;unfold RV at r;subst r;obtain⟨t,rfl⟩:=(show ∃t,u=Value.int i t from q);exact decide_eq_true rfl
 |str i=>unfold leafOf at e;cases e;unfold RV at r;subst r;obtain⟨t,rfl⟩:=(show ∃t,u=Value.str i t from q);exact keyIs_str i t
 |_=>unfold leafOf at e;cases e
def n9(M:Mem):EV→Option (Nat×List (EV×EV))
 |.ref k=>match M[k]? with
  |some (.bR kvs)=>some (k,kvs)
  |some (.cP kvs)=>some (k,kvs)
  |_=>none
 |_=>none
section
variable{X:Cx}{W:WX}{pins:List (Addr×Obj)}{σ:L2.St}{ρ:Nat→Addr}{M:Mem}{H:Hp}{s:Shared}
theorem U2(hp:RP (gr X) ρ M H){v:EV}{u:V}{k:Nat}{kvs:List (EV×EV)}(r:RV X.K ρ M.length H v u)(e:n9 M v=some (k,kvs)):
  v = .ref k∧k<M.length∧u = .ref (ρ k)∧∃w,(H (ρ k)=some w∨∃o,H (ρ k)=some (.frz o w))∧mE (gr X) ρ M.length H (ρ k) kvs w:=by
 cases v with
 |ref j=>
  unfold n9 at e;dsimp only at e;cases q:M[j]? with
  |none=>rw[q]at e;cases e
  |some o=>
   rw[q]at e;unfold RV at r;cases o with
   |bR l=>cases e;obtain⟨w,h1,h2⟩:=hp.obj _ _ q;exact⟨rfl,r.1,r.2,w,.inl h1,h2⟩
   |cP l=>cases e;obtain⟨ob,w,h1,h2⟩:=hp.obj _ _ q;exact⟨rfl,r.1,r.2,w,.inr ⟨ob,h1⟩,h2⟩
   |_=>cases e
 |_=>cases e
theorem CY(I:Inv X pins σ H s){a:Addr}{f:Heap→Prop}(h:H a=some (.ext f)∨∃o,H a=some (.frz o (.ext f))):f s.heap:=by
 rcases h with h|⟨o,h⟩
 ·obtain⟨q,_⟩:=(show ObjOk X.prog X.w H s.heap a (.ext f)from I.hok a _ h)
  exact q
 ·obtain⟨_,q,_⟩:=(show ObjOk X.prog X.w H s.heap a (.frz o (.ext f))from I.hok a _ h)
  exact q
theorem Y3{G:Gr}{a:Addr}{h:Heap}(q:oI G a [] h):oJ G a [] h:=by
 obtain⟨z,hd,xs,rel,o,es,ep,h1,h2,h3,h4,h5⟩:=q;cases rel;have e:es.toList = []:=h4;refine⟨z,hd,[],.nil,o,es,ep,h1,h2,h3,fun x hx=>?_,by rw[e];exact .nil,List.nodup_nil⟩;rw[← Array.mem_toList_iff,e]at hx;cases hx
theorem Y4{G:Gr}{a:Addr}{h:Heap}(q:oJ G a [] h):oI G a [] h:=by
 obtain⟨z,hd,vs,rel,o,es,ep,h1,h2,h3,h4,h5,h6⟩:=q;cases rel;refine⟨z,hd,[],.nil,o,es,ep,h1,h2,h3,?_,List.nodup_nil⟩;cases e:es.toList with
 |nil=>rfl
 |cons x r=>rw[e]at h5;cases h5
theorem OL(I:Inv X pins σ H s){a:Addr}{kvs:List (EV×EV)}{w:HO}(h:H a=some w∨∃o,H a=some (.frz o w))(d:mE (gr X) ρ M.length H a kvs w)(hl:nK kvs=true):∃l,oJ (gr X) a l s.heap∧kZ X.K ρ M.length H kvs l:=by
 rcases d with⟨l,rfl,r⟩|⟨l,rfl,r⟩
 ·exact⟨l,CY I h,r⟩
 ·have q:=CY I h
  cases kvs with
  |nil=>
   have e:l = []:=r;subst e;exact⟨[],Y3 q,rfl⟩
  |cons p t=>
   exfalso;obtain⟨k,b,v,t',e,h1,hd,h2,_⟩:=r;unfold nK at hl;rw[List.all_cons]at hl;obtain⟨px,pv⟩:=p;have hl1:oS px=true:=(Bool.and_eq_true_iff.mp hl).1;have h2:RV X.K ρ M.length H px (.ref b):=h2;cases px with
   |non=>unfold RV at h2;cases h2
   |int i=>unfold RV at h2;cases h2
   |str i=>unfold RV at h2;cases h2
   |_=>exact absurd hl1 (by simp[oS,leafOf])
theorem OJ(I:Inv X pins σ H s){a:Addr}{kvs:List (EV×EV)}{w:HO}(h:H a=some w∨∃o,H a=some (.frz o w))(d:mE (gr X) ρ M.length H a kvs w)(hl:nJ kvs=true):∃l,oI (gr X) a l s.heap∧kM X.K ρ M.length H kvs l:=by
 rcases d with⟨l,rfl,r⟩|⟨l,rfl,r⟩
 ·have q:=CY I h
  cases kvs with
  |nil=>
   have e:l = []:=r;subst e;exact⟨[],Y4 q,rfl⟩
  |cons p t=>
   exfalso;obtain⟨k,v,t',e,h1,_⟩:=r;unfold nJ at hl;rw[List.all_cons]at hl;obtain⟨px,pv⟩:=p;have hl1:mQ px=true:=(Bool.and_eq_true_iff.mp hl).1;have h1:leafOf px=some k:=h1;cases px with
   |tup xs=>unfold leafOf at h1;cases h1
   |_=>exact absurd hl1 (by simp[mQ])
 ·exact⟨l,CY I h,r⟩
theorem tab_of(I:Inv X pins σ H s){a:Addr}:∀{kvs:List (EV×EV)} {l:List (NestedKey×Addr×V)} {xs:List (NestedKey×Addr×Value)},kM X.K ρ M.length H kvs l→Paired (fun(p:NestedKey×Addr×V) (q:NestedKey×Addr×Value)=>p.1=q.1∧p.2.1=q.2.1∧RelV p.2.2 q.2.2) l xs→
  ∀x∈xs,(nestedKind X.prog X.w).is s.heap x.1 x.2.1
 |[],l,xs,r,q,x,hx=>by
  have e:l = []:=r;subst e;cases q;cases hx
 |p :: t,l,xs,r,q,x,hx=>by
  obtain⟨k,b,v,t',e,h1,hd,h2,h3,h4⟩:=r;subst e;cases q with
  |cons q1 q2=>
   rcases List.mem_cons.mp hx with z|z
   ·subst z
    obtain⟨e1,e2,_⟩:=q1;dsimp only at e1 e2;rw[← e1,← e2];exact⟨DL I.hok h1 h2 rfl,hd⟩
   ·exact tab_of I (a:=a) h4 q2 x z
theorem U5:∀{l:List (NestedKey×Addr×V)} {xs:List (NestedKey×Addr×Value)},Paired (fun(p:NestedKey×Addr×V) (q:NestedKey×Addr×Value)=>p.1=q.1∧p.2.1=q.2.1∧RelV p.2.2 q.2.2) l xs→∀k,RelO (atT l k) ((atKey xs k).map (·.2))
 |_,_,.nil,k=>True.intro
 |p :: ps,q :: qs,.cons h t,k=>by
  unfold atT atKey;rw[List.find?_cons,List.find?_cons];by_cases e:p.1=k
  ·have e':q.1=k:=h.1.symm.trans e
   simp only[decide_eq_true e,decide_eq_true e'];exact h.2.2
  ·have e':¬ q.1=k:=fun z=>e (h.1.trans z)
   simp only[decide_eq_false e,decide_eq_false e'];exact U5 t k
theorem T8{k:NestedKey}{b:Addr}{v:V}{u:Value}(rv:RelV v u):∀{l:List (NestedKey×Addr×V)} {xs:List (NestedKey×Addr×Value)},Paired (fun(p:NestedKey×Addr×V) (q:NestedKey×Addr×Value)=>p.1=q.1∧p.2.1=q.2.1∧RelV p.2.2 q.2.2) l xs→(xs.map (·.1)).Nodup→
  Paired (fun(p:NestedKey×Addr×V) (q:NestedKey×Addr×Value)=>p.1=q.1∧p.2.1=q.2.1∧RelV p.2.2 q.2.2) (putT l k b v) (storedH xs k b u)
 |_,_,.nil,_=>by
  unfold putT;rw[storedH_new rfl];exact .cons ⟨rfl,rfl,rv⟩ .nil
 |p :: ps,q :: qs,.cons h t,nd=>by
  rw[List.map_cons,List.nodup_cons]at nd;unfold putT;by_cases e:p.1=k
  ·have e':q.1=k:=h.1.symm.trans e
   have at1:atKey (q :: qs) k=some q.2:=by unfold atKey;rw[List.find?_cons,decide_eq_true e'];rfl
   rw[if_pos e,storedH_old at1,List.map_cons];have same:qs.map (putAt k u)=qs:=by
    rw[List.map_congr_left (g:=id) fun z hz=>?_,List.map_id];unfold putAt;rw[if_neg]
    ·rfl
    ·intro w
     exact nd.1 (List.mem_map.mpr ⟨z,hz,w.trans e'.symm⟩)
   rw[same];unfold putAt;rw[if_pos e'];exact .cons ⟨h.1,h.2.1,rv⟩ t
  ·have e':¬ q.1=k:=fun z=>e (h.1.trans z)
   have ih:=T8 (k:=k) (b:=b) rv t nd.2;rw[if_neg e];have st:storedH (q :: qs) k b u=q :: storedH qs k b u:=by
    have at1:atKey (q :: qs) k=atKey qs k:=by unfold atKey;rw[List.find?_cons,decide_eq_false e']
    unfold storedH;rw[at1];split
    ·rw[List.map_cons];unfold putAt;rw[if_neg e']
    ·rfl
   rw[st];exact .cons h ih
theorem zD2(hr:X.A.units+64<cLine):(nestedKind X.prog X.w).room X.A.in1:=by
 show X.A.in1.units+8<cLine
 have:X.A.in1.units=X.A.units+1:=rfl;omega
def oX(d k:EV)(M:Mem):Option (Option EV):=match n9 M d with
 |some p=>if(oS k=true∧nK p.2=true)∨(mQ k=true∧nJ p.2=true)then some (lR p.2 k)else none
 |none=>none
theorem UT{k:EV}(h:mQ k=true):∃xs m,k = .tup xs∧bP k=some m∧m.depth≤8:=by
 unfold mQ at h;cases k with
 |tup xs=>
  dsimp only at h;cases q:bP (.tup xs)with
  |none=>rw[q]at h;cases h
  |some m=>rw[q]at h;exact⟨xs,m,rfl,rfl,of_decide_eq_true h⟩
 |_=>cases h
theorem X0(hu:X.A.units+64<cLine)(I:Inv X pins σ H s)(hp:RP (gr X) ρ M H){d k:EV}{d' k':V}{u:Value}{o:Option EV}(rd:RV X.K ρ M.length H d d')(rk:RV X.K ρ M.length H k k')(ru:RelV k' u)(e:oX d k M=some o):
  ∃a,d' = .ref a∧s.TypeIs (.ref a) "dict"∧(∃ob,s.heap.get? a=some ob∧ob.dict=none)∧∃o':Option V,(∀v,o=some v→∃v',o'=some v'∧RV X.K ρ M.length H v v')∧(o=none→o'=none)∧
   (∀(A:Around) (hA:A.units=X.A.units) (Q:Value→Shared→Prop) (E:Value→Shared→Prop),(∀s',Inv X pins σ H s'→Q (.bool o'.isSome) s')→wpAny (model X.prog X.w) A (compareOp .In u (.ref a)) Q E s)∧
   (∀(A:Around) (hA:A.units=X.A.units) (Q:Value→Shared→Prop) (E:Value→Shared→Prop),(∀s',Inv X pins σ H s'→Q (.bool (!o'.isSome)) s')→wpAny (model X.prog X.w) A (compareOp .NotIn u (.ref a)) Q E s)∧
   (∀(A:Around) (hA:A.units=X.A.units) (Q:Value→Shared→Prop) (E:Value→Shared→Prop) (v':V),o'=some v'→(∀w' s',Inv X pins σ H s'→RelV v' w'→Q w' s')→wpAny (model X.prog X.w) A (getItem (.ref a) u) Q E s)∧
   (∀(A:Around) (hA:A.units=X.A.units) (Q:Value→Shared→Prop) (E:Value→Shared→Prop) (z:V) (r:Value),RelV z r→(∀w' s',Inv X pins σ H s'→RelV (o'.getD z) w'→Q w' s')→wpAny (model X.prog X.w) A (call (.builtin "dict.get") [.ref a,u,r]) Q E s):=by
 unfold oX at e;cases q:n9 M d with
 |none=>rw[q]at e;cases e
 |some p=>
  obtain⟨j,kvs⟩:=p;rw[q]at e;dsimp only at e;obtain⟨_,hj,ed,w,hw,du⟩:=U2 hp rd q;by_cases c:(oS k=true∧nK kvs=true)∨(mQ k=true∧nJ kvs=true)
  ·rw[if_pos c]at e
   have e:=Option.some.inj e;subst e;refine⟨ρ j,ed,?_⟩;rcases c with⟨c1,c2⟩|⟨c1,c2⟩
   ·obtain⟨lk,hlk⟩:=Option.isSome_iff_exists.mp c1
    obtain⟨l,⟨z,hd,vs,rel,dd⟩,rr⟩:=OL I hw du c2;obtain⟨g1,g2⟩:=rr.get hlk;have ki:=UW (P:=X.prog) (w:=X.w) hlk rk ru;have hnd:∃ob,s.heap.get? (ρ j)=some ob∧ob.dict=none:=by obtain⟨ob,_,_,h1,h2,_⟩:=dd;exact⟨ob,h1,h2.2.1⟩
    refine⟨dd.typeIs,hnd,valV l lk,g1,g2,fun A hA Q E k=>?_,fun A hA Q E k=>?_,fun A hA Q E v' hv k=>?_,fun A hA Q E zz r rz k=>?_⟩
    ·refine wpAny_in_of ki hd dd.mapOf ?_
     rw[← (rel.val lk).isSome_eq];exact k _ (I.tok _)
    ·refine wpAny_notIn_of ki hd dd.mapOf ?_
     rw[← (rel.val lk).isSome_eq];exact k _ (I.tok _)
    ·obtain⟨w',hw',rw'⟩:=RelO.some_of (v:=v') (o:=valueAt vs lk) (by rw[← hv];exact rel.val lk)
     exact wpAny_getItem_of ki dd.mapOf hw' (k w' _ (I.tok _) rw')
    ·refine call_meetsIn PySem.F.slot_dict_get dd.typeIs PySem.F.entry_dict_get (PySem.F.args_dict_get_3 _ _ _) (meets_dict_get_default (DE X.prog X.w) (ρ j) ki hd r) ⟨_,dd.mapOf,k _ _ (I.tok _) ((rel.val lk).getD rz)⟩
   ·obtain⟨xs,m,rfl,hm,p9⟩:=UT c1
    obtain⟨l,⟨z,hd,ys,rel,o,es,ep,h1,h2,h3,h4,h5⟩,rr⟩:=OJ I hw du c2;obtain⟨g1,g2⟩:=rr.get hm;have dd:s.heap.DictOfH (nestedKind X.prog X.w) (ρ j) ys:=⟨o,es,ep,h1,h2,h3,h4,tab_of (a:=ρ j) I rr rel,h5⟩;have vY:=rk;unfold RV at vY;obtain⟨b,vs,e1,ht,_⟩:=vY;subst e1;cases(show u=Value.ref b from ru);have ki:(nestedKind X.prog X.w).is s.heap m b:=⟨DL I.hok hm rk rfl,p9⟩;have vr:=U5 rel m;have rm:∀A:Around,A.units=X.A.units→(nestedKind X.prog X.w).room A.in1:=fun A hA=>by
     show A.in1.units+8<cLine
     have:A.in1.units=A.units+1:=rfl;omega
    refine⟨dd.typeIs,⟨o,h1,h2.2.1⟩,atT l m,g1,g2,fun A hA Q E k=>?_,fun A hA Q E k=>?_,fun A hA Q E v' hv k=>?_,fun A hA Q E zz r rz k=>?_⟩
    ·refine wpAny_in_heap (rm A hA) ki hd dd ?_
     have e3:=vr.isSome_eq;rw[Option.isSome_map]at e3;rw[← e3];exact k _ (I.tok _)
    ·refine wpAny_notIn_heap (rm A hA) ki hd dd ?_
     have e3:=vr.isSome_eq;rw[Option.isSome_map]at e3;rw[← e3];exact k _ (I.tok _)
    ·obtain⟨w',hw',rw'⟩:=RelO.some_of (v:=v') (o:=(atKey ys m).map (·.2)) (by rw[← hv];exact vr)
     obtain⟨p,hp1,hp2⟩:=Option.map_eq_some_iff.mp hw';refine wpAny_getItem_heap (rm A hA) ki dd hp1 ?_;rw[hp2];exact k w' _ (I.tok _) rw'
    ·exact call_meetsIn PySem.F.slot_dict_get dd.typeIs PySem.F.entry_dict_get (PySem.F.args_dict_get_3 _ _ _) (meetsH_dict_get_default (nestedKind X.prog X.w) (ρ j) b hd r) ⟨rm A hA,m,ys,ki,dd,k _ _ (I.tok _) (vr.getD rz)⟩
  ·rw[if_neg c]at e;cases e
def V9(X:Cx)(W:WX)(F:EV→EV→Mem→Res EV):V→V→Hp→VK→Prop:=fun x' y' H Q=>∃(σ:L2.St) (ρ:Nat→Addr) (M:Mem) (x y:EV),RP (gr X) ρ M H∧RV X.K ρ M.length H x x'∧RV X.K ρ M.length H y y'∧iE (gr X) W σ ρ M H (F x y M) Q
theorem ops2(X:Cx)(W:WX)(F:EV→EV→Mem→Res EV):nB (gr X) W (V9 X W F) F:=fun σ ρ M H x y x' y' Q rp rx ry h=>⟨σ,ρ,M,x,y,rp,rx,ry,h⟩
def getD:EV→EV→Mem→Res EV:=fun x y M=>match oX x y M with
 |some (some v)=>.ok v M
 |_=>.bad
theorem zEP(hu:X.A.units+64<cLine):IxR X (V9 X W getD):=by
 rintro value slice pins s σ H x' y' v u Q I rx ry ⟨σ0,ρ,M,x,y,rp,r1,r2,h⟩ hs;unfold getD at h;cases q:oX x y M with
 |none=>rw[q]at h;exact h.elim
 |some o=>
  rw[q]at h;cases o with
  |none=>exact h.elim
  |some z=>
   obtain⟨a,ea,ty,nd,o',h1,h2,w1,w2,w3,w4⟩:=X0 hu I rp r1 r2 ry q;subst ea;cases(show v=Value.ref a from rx);obtain⟨z',ez,rz⟩:=h1 z rfl;have fin:wpAny (model X.prog X.w) X.A (getItem (.ref a) u) (fun w' s'=>EP X pins σ Q w' s') X.xe s:=w3 X.A rfl _ _ z' ez fun w' s' I' rw'=>⟨z',H,I',rw',mH h rp rz⟩;unfold subscriptTail;refine wpAny_bind ?_;rw[getitemInPython_of_ne ty.not_modules];refine wpAny_bind (wpAny_specialOf ty PySem.F.slot_dict_getitem.lookup ?_);have fin2:wpAny (model X.prog X.w) X.A (subscripted slice false (.ref a) u) (fun r s₃=>wpAny (model X.prog X.w) X.A (letTemporaryGo value (.ref a) r >>= fun _=>pure r) (EP X pins σ Q) X.xe s₃) X.xe s:=by
    rw[hs];exact wpAny_operating (wpAny_mono fin (fun r s₃ h₃=>wpAny_bind (wpAny_letTemporaryGo (wpAny_pure h₃))) fun _ _ x=>x)
   first
    |exact wpAny_pure (wpAny_bind fin2)
    |exact wpAny_bind (wpAny_pure (wpAny_bind fin2))
    |exact wpAny_bind fin2
end
theorem XQ{G:Gr}{a:Addr}{l:List (Leaf×V)}{h1 h2:Heap}(q:oJ G a l h1)(k:∀o,h1.get? a=some o→h2.get? a=some o):oJ G a l h2:=by
 obtain⟨z,hd,vs,rel,o,es,ep,g,r⟩:=q;exact⟨z,hd,vs,rel,o,es,ep,k o g,r⟩
theorem XN{G:Gr}{a:Addr}{l:List (NestedKey×Addr×V)}{h1 h2:Heap}(q:oI G a l h1)(k:∀o,h1.get? a=some o→h2.get? a=some o):oI G a l h2:=by
 obtain⟨z,hd,vs,rel,o,es,ep,g,r⟩:=q;exact⟨z,hd,vs,rel,o,es,ep,k o g,r⟩
theorem zA3{G:Gr}{H:Hp}{a:Addr}{l:List (Leaf×V)}{h:Heap}(q:oJ G a l h):ObjOk G.P G.w H h a (.ext (oJ G a l)):=
 ⟨q,(let ⟨_,_,_,_,o,_,_,g,_⟩:=q;⟨o,g⟩),fun _ _ x k=>XQ x k⟩
theorem zA2{G:Gr}{H:Hp}{a:Addr}{l:List (NestedKey×Addr×V)}{h:Heap}(q:oI G a l h):ObjOk G.P G.w H h a (.ext (oI G a l)):=
 ⟨q,(let ⟨_,_,_,_,o,_,_,g,_⟩:=q;⟨o,g⟩),fun _ _ x k=>XN x k⟩
theorem UH(k v:EV):∀kvs:List (EV×EV),(lE kvs k v).length≤kvs.length+1
 |[]=>by unfold lE;simp
 |p :: r=>by
  unfold lE;by_cases e:p.1=k
  ·rw[if_pos e,List.length_cons,List.length_cons];omega
  ·rw[if_neg e,List.length_cons,List.length_cons];have:=UH k v r;omega
def C_(kvs:List (EV×EV))(k:EV):Prop:=(oS k=true∧nK kvs=true)∨(mQ k=true∧nJ kvs=true)
section
variable{X:Cx}{W:WX}{pins:List (Addr×Obj)}{σ:L2.St}{ρ:Nat→Addr}{M:Mem}{H:Hp}{s:Shared}
theorem zAC(hu:X.A.units+64<cLine)(I:Inv X pins σ H s){D:Addr}{w:HO}{kvs:List (EV×EV)}{k v:EV}{k' v':V}{u r:Value}(hD:H D=some w)(du:mE (gr X) ρ M.length H D kvs w)
  (rk:RV X.K ρ M.length H k k') (ru:RelV k' u) (rv:RV X.K ρ M.length H v v') (rr:RelV v' r) (hz:kvs.length<sizeLine) (c:C_ kvs k) {Q:Unit→Shared→Prop} {E:Value→Shared→Prop}
  (h:∀(s':Shared) (w':HO),Inv X pins σ (upd H D w') s'→(∃f,w' = .ext f)→(∀ρ' n' H',Carry X.K ρ M.length H ρ' n' H'→mE (gr X) ρ' n' H' D (lE kvs k v) w')→Q () s'):
  wpAny (model X.prog X.w) X.A (setItem (.ref D) u r) Q E s∧wpAny (model X.prog X.w) X.A (dictSet D u r) Q E s:=by
 have hw:H D=some w∨∃o,H D=some (.frz o w):=.inl hD;have mu:Mut (H D):=by
  obtain⟨f,rfl⟩:=du.ext;rw[hD];exact True.intro
 rcases c with⟨c1,c2⟩|⟨c1,c2⟩
 ·obtain⟨lk,hlk⟩:=Option.isSome_iff_exists.mp c1
  obtain⟨l,⟨z,hd,vs,rel,dd⟩,rl⟩:=OL I hw du c2;have ki:=UW (P:=X.prog) (w:=X.w) hlk rk ru;have nd:(l.map (·.1)).Nodup:=by
   obtain⟨_,_,_,_,_,_,_,_,hn⟩:=id dd;rw[rel.keys];exact hn
  have ll:=rl.length;have hzv:vs.length≤sizeLine:=by rw[← rel.length];exact z
  have lp:=length_putK l lk v';have hl2:(putK l lk v').length≤sizeLine:=by omega
  have fin:∀h',h'.DictOf (DE X.prog X.w) D (stored vs lk r)→Heap.SameBut D s.heap h'→Q () { s with heap:=h',toks:=s.toks+1 }:=fun h' dd' hs=>by
   have q:oJ (gr X) D (putK l lk v') h':=⟨hl2,hd,_,rel.put lk rr,dd'⟩;have he:∃q,h'.get? D=some q:=let ⟨q,_,_,hq,_⟩:=dd';⟨q,hq⟩;refine h _ _ (d_write I mu hs he (zA3 (G:=gr X) q)) ⟨_,rfl⟩ fun ρ' n' H' cc=>.inl ⟨_,rfl,?_⟩;exact kZ.put hlk (rv.carry cc) (rl.carry cc) nd
  exact⟨wpAny_setItem_pairs (hsz:=hzv) ki dd fin,wpAny_dictSet_pairs (hsz:=hzv) ki dd fin⟩
 ·obtain⟨xs,m,rfl,hm,p9⟩:=UT c1
  obtain⟨l,⟨z,hd,ys,rel,o,es,ep,h1,h2,h3,h4,h5⟩,rl⟩:=OJ I hw du c2;have dd:s.heap.DictOfH (nestedKind X.prog X.w) D ys:=⟨o,es,ep,h1,h2,h3,h4,tab_of (a:=D) I rl rel,h5⟩;have vY:=rk;unfold RV at vY;obtain⟨b,vs,e1,ht,_⟩:=vY;subst e1;cases(show u=Value.ref b from ru);have ki:(nestedKind X.prog X.w).is s.heap m b:=⟨DL I.hok hm rk rfl,p9⟩;have ll:=rl.length;have hzv:ys.length≤sizeLine:=by rw[← Paired.length rel];exact z
  have fin:∀h' tk,h'.DictOfH (nestedKind X.prog X.w) D (storedH ys m b r)→Heap.SameBut D s.heap h'→Q () { s with heap:=h',toks:=tk }:=fun h' tk dd' hs=>by
   obtain⟨o',es',ep',g1,g2,g3,g4,_,g5⟩:=dd';have rel':=T8 (k:=m) (b:=b) rr rel h5;have rl':∀ρ' n' H',Carry X.K ρ M.length H ρ' n' H'→kM X.K ρ' n' H' (lE kvs (.tup xs) v) (putT l m b v'):=fun ρ' n' H' cc=>kM.put hm p9 (rk.carry cc) (rv.carry cc) (rl.carry cc);have lp:(putT l m b v').length≤sizeLine:=by
    have:=(rl' _ _ _ ⟨Nat.le_refl _,fun _ _=>rfl,fun _ _ z=>z,fun _ _ _ _ z=>z,fun _ _ z=>z⟩).length
    have:=UH (.tup xs) v kvs;omega
   have q:oI (gr X) D (putT l m b v') h':=⟨lp,hd,_,rel',o',es',ep',g1,g2,g3,g4,g5⟩;exact h _ _ (d_write I mu hs ⟨o',g1⟩ (zA2 (G:=gr X) q)) ⟨_,rfl⟩ fun ρ' n' H' cc=>.inr ⟨_,rfl,rl' ρ' n' H' cc⟩
  have rm:(nestedKind X.prog X.w).room X.A:=by
   show X.A.units+8<cLine;omega
  exact⟨wpAny_setItem_heap (hsz:=hzv) (zD2 hu) ki dd fun h'=>fin h' _,wpAny_dictSet_heap (hsz:=hzv) rm ki dd fun h'=>fin h' _⟩
end
abbrev oN:=EV→EV→EV→Mem→Option Mem
structure pC(X:Cx)(F:oN):Prop where
 ex:∃t,PSet X t∧∀ρ M H o i v o' i' v' (Q:Hp→Prop) M',RP (gr X) ρ M H→RV X.K ρ M.length H o o'→RV X.K ρ M.length H i i'→RV X.K ρ M.length H v v'→F o i v M=some M'→(∀H',After ρ M H ρ M' H'→RP (gr X) ρ M' H'→Q H')→t o' i' v' H Q
def vQ(F F':oN):oN:=fun o i v M=>match F o i v M with
 |some M'=>some M'
 |none=>F' o i v M
def tH:oN:=fun o i v M=>match mP M o,i with
 |some p,.int i=>(match iW p.2.length i with
  |some j=>some (M.set p.1 (.lst (p.2.set j v)))
  |none=>none)
 |_,_=>none
def uX:oN:=fun o i v M=>match o with
 |.ref k=>(match M[k]? with
  |some (.bR kvs)=>if C_ kvs i∧kvs.length<sizeLine then some (M.set k (.bR (lE kvs i v)))else none
  |_=>none)
 |_=>none
def o7:oN:=vQ tH uX
section
variable{X:Cx}{W:WX}
theorem pC.alt{F F':oN}(a:pC X F)(b:pC X F'):pC X (vQ F F'):=by
 obtain⟨t,a1,a2⟩:=a;obtain⟨u,b1,b2⟩:=b;refine⟨fun o i v H Q=>t o i v H Q∨u o i v H Q,fun pins s σ H o i v ov iv w Q I ro ri rv h=>h.elim (a1 pins s σ H o i v ov iv w Q I ro ri rv) (b1 pins s σ H o i v ov iv w Q I ro ri rv),fun ρ M H o i v o' i' v' Q M' rp ro ri rv e k=>?_⟩;unfold vQ at e;cases q:F o i v M with
 |some M1=>rw[q]at e;cases e;exact .inl (a2 ρ M H o i v o' i' v' Q _ rp ro ri rv q k)
 |none=>rw[q]at e;exact .inr (b2 ρ M H o i v o' i' v' Q M' rp ro ri rv e k)
theorem spL:pC X tH:=⟨_,set_list,fun ρ M H o i v o' i' v' Q M' rp ro ri rv e k=>by
 unfold tH at e;cases q:mP M o with
 |none=>rw[q]at e;cases e
 |some kx=>
  obtain⟨j,xs⟩:=kx;rw[q]at e;cases i with
  |int ii=>
   dsimp only at e;obtain⟨_,hk,hM,vs,e1,hl,rr⟩:=NR rp ro q;cases qj:iW xs.length ii with
   |none=>rw[qj]at e;cases e
   |some m=>
    rw[qj]at e;cases e;unfold RV at ri;obtain⟨af,Q9⟩:=write rp hk (fun l z=>by rw[hM]at z;cases z) (.lst (vs.set m v')) (.lst (xs.set m v)) fun c=>⟨_,upd_same,aZ.set (rv.carry c) m (rr.carry c)⟩;exact⟨ρ j,vs,ii,m,e1,ri,hl,by rw[rr.length];exact qj,k _ af Q9⟩
  |_=>cases e⟩
theorem spD(hu:X.A.units+64<cLine):pC X uX:=by
 refine⟨fun o' i' v' H Q=>∃(ρ:Nat→Addr) (M:Mem) (o i v:EV) (M':Mem),RP (gr X) ρ M H∧RV X.K ρ M.length H o o'∧RV X.K ρ M.length H i i'∧RV X.K ρ M.length H v v'∧uX o i v M=some M'∧(∀H',After ρ M H ρ M' H'→RP (gr X) ρ M' H'→Q H'),
  fun pins s σ H o' i' v' ov iv w Q I r1 r2 r3 ⟨ρ,M,o,i,v,M',rp,ro,ri,rv,e,k⟩=>?_,fun ρ M H o i v o' i' v' Q M' rp ro ri rv e k=>⟨ρ,M,o,i,v,M',rp,ro,ri,rv,e,k⟩⟩
 unfold uX at e;cases o with
 |ref j=>
  dsimp only at e;cases q:M[j]? with
  |none=>rw[q]at e;cases e
  |some ob=>
   rw[q]at e;cases ob with
   |bR kvs=>
    dsimp only at e;by_cases c:C_ kvs i∧kvs.length<sizeLine
    ·rw[if_pos c]at e
     cases e;obtain⟨u,hH,du⟩:=rp.obj j _ q;have hj:j<M.length:=(bK q).1;unfold RV at ro;obtain⟨_,rfl⟩:=ro;cases(show ov=Value.ref (ρ j)from r1);refine(zAC hu I hH du ri r2 rv r3 c.2 c.1 fun s' w' I' _ dw=>?_).1;obtain⟨af,Q9⟩:=write rp hj (fun l z=>by rw[q]at z;cases z) w' (.bR (lE kvs i v)) fun cc=>⟨w',upd_same,dw _ _ _ cc⟩;exact⟨_,I',k _ af Q9⟩
    ·rw[if_neg c]at e;cases e
   |_=>cases e
 |_=>cases e
theorem spV(hu:X.A.units+64<cLine):pC X o7:=spL.alt (spD hu)
def vI(F:oN)(f:FE)(go gi:FE):FS:=fun σ M=>(f σ M).j8 σ fun v M1=>(go σ M1).j8 σ fun o M2=>(gi σ M2).j8 σ fun i M3=>match F o i v M3 with
 |some M4=>.nx σ M4
 |none=>.bad
theorem PM{F:oN}{o i e:Expr}{fo fi fe:FE}{p2 pos:Pos}(hF:pC X F)(he:SE X W e fe)(ho:SE X W o fo)(hi:SE X W i fi)
  (ha:∀v,assign (.Subscript o i p2) X.env v=(do
   let ov ← holding [v] (eval o X.env)
   let iv ← holding [v,ov] (eval i X.env)
   standAt p2
   holding [v,ov,iv] (setItem ov iv v)
   release [v,ov,iv] []):=by intro _;rfl)
  (hs:swapsWithSole [.Subscript o i p2] e pos.line X.env=pure false:=by rfl) (hw:swappedStores [.Subscript o i p2] e X.env=pure none:=by rfl)
  (h1:(assignEach [.Subscript o i p2] X.env).map (·.2) = [assign (.Subscript o i p2) X.env]:=by rfl):SS X W (.Assign [.Subscript o i p2] e pos) (vI F fe fo fi):=by
 obtain⟨t,t1,t2⟩:=hF;obtain⟨te,e1,e2⟩:=he;obtain⟨to,o1,o2⟩:=ho;obtain⟨ti,i1,i2⟩:=hi;refine⟨_,ps_asg e1 (pg_sub o1 i1 t1 ha) hs hw h1,fun ρ σe σ M H D rs rp h=>?_⟩;refine e2 ρ σe σ M H _ rs rp (iS.bindR rs rp h fun v M1 ρ1 H1 v1 _ a1 bB r1 k1=>?_);have vX:=rs.carry (a1.carry rp);refine o2 ρ1 σe σ M1 H1 _ vX bB (iS.bindR vX bB k1 fun ov M2 ρ2 H2 ov2 _ a2 k8 r2 k2=>?_);have pE:=vX.carry (a2.carry bB);refine i2 ρ2 σe σ M2 H2 _ pE k8 (iS.bindR pE k8 k2 fun iv M3 ρ3 H3 iv3 _ a3 lT r3 k3=>?_);have rs3:=pE.carry (a3.carry k8);cases q:F ov iv v M3 with
 |none=>rw[q]at k3;exact k3.elim
 |some M4=>
  rw[q]at k3;exact t2 ρ3 M3 H3 ov iv v ov2 iv3 v1 _ M4 lT (r2.carry (a3.carry k8)) r3 ((r1.carry (a2.carry bB)).carry (a3.carry k8)) q fun H' af kK=>k3 ρ3 H' σ af kK (rs3.carry (af.carry lT))
def m5(x:EV)(M:Mem):Res EV:=match n9 M x with
 |some p=>if nK p.2=true∨nJ p.2=true then .ok (.int p.2.length) M else .bad
 |none=>.bad
def V_(X:Cx)(W:WX)(F:EV→Mem→Res EV):List V→Hp→VK→Prop:=fun vs H Q=>∃(σ:L2.St) (ρ:Nat→Addr) (M:Mem) (x:EV) (x':V),vs = [x']∧RP (gr X) ρ M H∧RV X.K ρ M.length H x x'∧iE (gr X) W σ ρ M H (F x M) Q
theorem cs1F(X:Cx)(W:WX)(F:EV→Mem→Res EV):CS (gr X) W (V_ X W F) (f1 F):=EB fun σ ρ M H x v Q rp r h=>⟨σ,ρ,M,x,v,rfl,rp,r,h⟩
theorem DB:SB X W (.builtin "len") (f1 m5):=by
 refine⟨V_ X W m5,fun pins s σ H xs us Q I r ⟨σ0,ρ,M,x,x',e0,rp,rx,h⟩=>?_,cs1F X W m5⟩;subst e0;cases r with
 |cons r1 r2=>
  cases r2;unfold m5 at h;cases q:n9 M x with
  |none=>rw[q]at h;exact h.elim
  |some p=>
   obtain⟨j,kvs⟩:=p;rw[q]at h;dsimp only at h;obtain⟨_,hj,e1,w,hw,du⟩:=U2 rp rx q;subst e1;cases(show _=Value.ref (ρ j)from r1);by_cases c:nK kvs=true∨nJ kvs=true
   ·rw[if_pos c]at h
    rcases c with c|c
    ·obtain⟨l,⟨z,hd,vs,rel,dd⟩,rl⟩:=OL I hw du c
     have e2:vs.length=kvs.length:=by rw[← rel.length,rl.length]
     rw[sizeLine_eq]at z;refine call_len_dict hd dd (by rw[← rel.length];omega) ?_;rw[e2];exact⟨.int kvs.length,H,I.tok _,⟨_,rfl⟩,v5 h rp⟩
    ·obtain⟨l,⟨z,hd,ys,rel,o,es,ep,h1,h2,h3,h4,h5⟩,rl⟩:=OJ I hw du c
     have e2:es.size=kvs.length:=by rw[size_of_entries h4,← Paired.length rel,rl.length]
     have ty:s.TypeIs (.ref (ρ j)) "dict":=⟨o,h1,h2.1⟩;have lk:kvs.length≤sizeLine:=by rw[← rl.length];exact z
     refine PyProof.Rows.call_len_slot (n:=kvs.length) ty PySem.F.slot_dict_len (fun Q' hq=>call_len_raw hd ⟨o,h1,h2,h3⟩ (by rw[e2];exact hq)) (by omega) (by rw[sizeLine_eq]at lk;omega) ?_;exact⟨.int kvs.length,H,I.tok _,⟨_,rfl⟩,v5 h rp⟩
   ·rw[if_neg c]at h;exact h.elim
end
structure ClsI(K:PySem.W.Frag)(C:Addr):Prop where
 cl:Cls K C
 ha:PySem.W.findIn K (.ref C) "__class__" = some (some (.builtin "object.__class__"))
 hn:PySem.W.specialIn K (.builtin "object.__class__") "__get__" = some (some (.builtin "getset_descriptor.__get__"))
 htk:PySem.W.takesIn K (.builtin "object.__class__")=some true
 hm:PySem.W.mroIn K C (.type "object")=some true
section
variable{X:Cx}{W:WX}{pins:List (Addr×Obj)}{σ:L2.St}{ρ:Nat→Addr}{M:Mem}{H:Hp}{s:Shared}
end
section
variable{X:Cx}
end
section
variable{X:Cx}{W:WX}{kx vx tg iter:Expr}{ifs:List Expr}{scope:Scope}{own:List (Str×Nat)}{pos:Pos}{fi:FI}{put:eA}{ft:FT}{fk fv:FE}
end
section
variable{K:PySem.W.Frag}{ρ:Nat→Addr}{n:Nat}{H:Hp}
end
section
variable{X:Cx}{pins:List (Addr×Obj)}{σ:L2.St}{H:Hp}{s:Shared}{d:Addr}{o:Obj}{f:Heap→Prop}{rows:List (V×V)}
end
section
variable{P:Program}{w:World}{K:PySem.W.Frag}{tg:Expr}{d:Addr}{o:Obj}{f:Heap→Prop}{rows:List (V×V)}{es:Array DictEntry}{ep:Nat}
end
section
variable{X:Cx}{tg e:Expr}{td:TE}{apos cpos:Pos}
end
section
variable{G:Gr}{ρ:Nat→Addr}{M:Mem}{H:Hp}{k:Nat}{kvs:List (EV×EV)}{o:Obj}{f:Heap→Prop}{rows:List (V×V)}
end
section
variable{X:Cx}{W:WX}{tg e:Expr}{fe:FE}{apos cpos:Pos}
end
section
variable{X:Cx}{pins:List (Addr×Obj)}{σ:L2.St}{H H':Hp}{s s':Shared}
end
section
variable{G:Gr}{ρ ρ':Nat→Addr}{M M':Mem}{H H':Hp}
end
section
variable{X:Cx}{W:WX}{e:Expr}{st:Stmt}
end
section
variable{K:PySem.W.Frag}{ρ:Nat→Addr}{n:Nat}{H:Hp}
end
section
variable{X:Cx}{W:WX}{pins:List (Addr×Obj)}{σ:L2.St}{ρ:Nat→Addr}{M:Mem}{H:Hp}{s:Shared}
end
section
variable{P:Program}{w:World}{A:Around}{R:Result→Shared→Prop}{it:Addr}{fp wr:List Addr}{G:Array GenState→Array GenState→Prop}{n:Nat}{Pv:Nat→Value→Prop}{St:Nat→Shared→Prop}
end
section
variable{P:Program}{w:World}{A:Around}{E:Value→Shared→Prop}{s:Shared}
end
section
variable{X:Cx}{W:WX}{a:Expr}{fa:FE}{p p2 q pos:Pos}
end
end WS
namespace WS
variable[bG]
open PySem PySem.Spec PyProof.Rows L2
open PySem.W (dataLt dataLe keyToks alike AllAlike Sortable SortsAt sortVals)
open Classical
section
variable{X:Cx}{W:WX}{pins:List (Addr×Obj)}{σ:L2.St}{ρ:Nat→Addr}{M:Mem}{H:Hp}{s:Shared}
end
end WS
namespace WS
variable[bG]
open PySem PySem.Spec PyProof.Rows L2
open PySem.W (dataLt dataLe keyToks alike AllAlike Sortable SortsAt sortVals KeepsBut)
open Classical
section
variable{P:Program}{w:World}{A:Around}{E:Value→Shared→Prop}{s:Shared}
end
section
variable{X:Cx}{W:WX}{pins:List (Addr×Obj)}{σ:L2.St}{ρ:Nat→Addr}{M:Mem}{H:Hp}{s:Shared}
end
end WS
namespace WS
variable[bG]
open PySem PySem.Spec PyProof.Rows L2
open Classical
section
variable{X:Cx}{W:WX}{pins:List (Addr×Obj)}{σ:L2.St}{ρ:Nat→Addr}{M:Mem}{H:Hp}{s:Shared}{k:Nat}{f:Addr}{m:Fn}
end
section
variable{X:Cx}{W:WX}{k:Nat}{f:Addr}{m:Fn}{e:Expr}{fe:FE}{y:Str}{p p2 kpos pos:Pos}
end
section
variable{G:Gr}{ρ ρ' ρ'':Nat→Addr}{M M' M'':Mem}{H H' H'':Hp}
end
section
variable{X:Cx}{W:WX}{fi fi1:FI}{put put1:eA}{ft ft1:FT}{fe:FE}
variable{elt tg iter tg1 iter1:Expr}{ifs ifs1:List Expr}{scope:Scope}{own:List (Str×Nat)}{vs1:List Nat}{pos:Pos}
end
section
variable{prog:Program}{w:World}{A:Around}{E:Value→Shared→Prop}{s:Shared}{K:PySem.W.Frag}{x C f:Addr}{ox:Obj}{od:Option Obj}{b tb:Value}
end
section
variable{X:Cx}{W:WX}{k:Nat}{C g:Addr}{own:List Addr}{m:Fn}
end
section
variable{X:Cx}{W:WX}{a b:Expr}{f g:FE}{pos:Pos}
def j_:EV→EV→Mem→Res EV:=kQ oT getD
theorem zDI(F F':EV→EV→Mem→Res EV):alt (e2 F f g) (e2 F' f g)=e2 (kQ F F') f g:=by
 funext σ M
 unfold alt e2 kQ;cases h1:f σ M with
 |bad=>rfl
 |err x M1=>rfl
 |ok v M1=>
  show(match(g σ M1).bind fun w M2=>F v w M2 with|.bad=>(g σ M1).bind fun w M2=>F' v w M2|r=>r)=(g σ M1).bind fun w M2=>match F v w M2 with|.bad=>F' v w M2|r=>r
  cases h2:g σ M1 with
  |bad=>rfl
  |err x M2=>rfl
  |ok w M2=>rfl
theorem lO(hu:X.A.units+64<cLine)(ha:SE X W a f)(hb:SE X W b g)(hs:PlainIx b:=by intro _ _;rfl):SE X W (.Subscript a b pos) (e2 j_ f g):=by
 have h1:SE X W (.Subscript a b pos) (e2 oT f g):=sIx ha hb hs;have h2:SE X W (.Subscript a b pos) (e2 getD f g):=by
  obtain⟨ta,a1,a2⟩:=ha;obtain⟨tb,b1,b2⟩:=hb;exact⟨_,pe_ix (zEP (W:=W) hu) a1 b1 hs,vG a2 b2 (ops2 X W getD)⟩
 have h:=h1.alt h2;rw[zDI]at h;exact h
end
section
variable{X:Cx}{W:WX}{k:Nat}
theorem uH{A:Around}(hr:Room k A):A.units+65<cLine:=by have:=hr.un;omega
end
theorem VA{K:PySem.W.Frag}{C:Addr}{t:Value}{b:Bool}(h1:PySem.W.isClsIn K C=true)(h2:PySem.W.typeIn K (.ref C)=some (.type "type"))(h3:PySem.W.subIn K t (.ref C)=some b)(hn:(t == Value.ref C)=false):PySem.W.kitOne K t (.ref C)=some b:=by
 unfold PySem.W.kitOne PySem.W.kitCls;rw[if_neg (by rw[hn];exact Bool.false_ne_true)];dsimp only;rw[if_pos (by rw[h2,show(PySem.W.clsIn K C).isSome=true from h1];simp),h3]
theorem j7{K:PySem.W.Frag}{C:Addr}:PySem.W.kitOne K (.ref C) (.ref C)=some true:=if_pos (beq_self_eq_true _)
theorem kH{K:PySem.W.Frag}{C:Addr}{T:String}{b:Bool}(h1:PySem.W.kitMeta T=true)(h3:PySem.W.subIn K (.ref C) (.type T)=some b):PySem.W.kitOne K (.ref C) (.type T)=some b:=by
 unfold PySem.W.kitOne PySem.W.kitCls;rw[if_neg (by rw[show(Value.ref C == Value.type T)=false from rfl];exact Bool.false_ne_true)];dsimp only;rw[if_pos h1,h3]
def uV(K:PySem.W.Frag):Sp:=fun vs H Q _=>∃(b:Addr) (ns:List Int),vs = [.ref b]∧(nX K H∧mB bG.T (fun _=>0) 0 H)∧nV K H b (ns.map V.int)∧ns.length≤63∧∀H',Q (.bl true) H'
end WS
namespace WS
variable[bG]
open PySem PySem.Spec PyProof.Rows L2 StX
section
variable{X:Cx}{W:WX}{k n:Nat}{f C:Addr}{m:Fn}{x nm:Str}{p pos apos:Pos}{e o:Expr}{es:List Expr}{fa:FA}{fo:FE}
end
end WS
namespace WS
variable[bG]
open PySem PySem.Spec PyProof.Rows L2
section
variable{X:Cx}{W:WX}{e:Expr}{f:FE}{p p2 pos rpos:Pos}
end
section
variable{X:Cx}{W:WX}{pos:Pos}
end
section
variable{X:Cx}{pins:List (Addr×Obj)}{σ:L2.St}{H:Hp}{s:Shared}{ρ:Nat→Addr}{M:Mem}
end
section
variable{X:Cx}
end
section
variable{P:Program}{w:World}{K:PySem.W.Frag}{mg mb:Str→Option Value}{base:Heap}{k:Nat}{f:Addr}
structure nE(P:Program)(w:World)(K:PySem.W.Frag)(mg:Str→Option Value)(base:Heap)(k:Nat)(f:Addr)(fd:FuncData)(ps:List Str)(sp:Sp):Prop where
 len:∀vs H Q E,sp vs H Q E→vs.length=ps.length
 run:∀(A:Around) (outer:List Env) (s:Shared) (H:Hp) (args:Args) (us:List Value) (vs:List V) (Q:VK) (E:XK),A.guards=some []→Room k A→Env0 P w K mg base A outer s H→BindsTo s fd args (ps.zip us)→Vals vs us→sp vs H Q E→
  codeAny (model P w) A (.call (.ref f) args) (CR (L2.CX P w) outer P w H s Q E) s
theorem nE.imp{fd:FuncData}{ps:List Str}{sp sp':Sp}(F:nE P w K mg base k f fd ps sp)(h:∀vs H Q E,sp' vs H Q E→sp vs H Q E):nE P w K mg base k f fd ps sp':=
 ⟨fun vs H Q E q=>F.len vs H Q E (h _ _ _ _ q),fun A outer s H args us vs Q E g hr he hb hv hs=>F.run A outer s H args us vs Q E g hr he hb hv (h _ _ _ _ hs)⟩
theorem zDz{x qual:Str}{st:Stmt}{fd:FuncData}{N ps:List Str}{body:FS}(F:Fun K x qual st f fd)(S:FnScope N ps (defScope st))
  (hbody:∀(cdv:Value) (A:Around) (outer:List Env) (s:Shared) (H:Hp) (E:XK),A.guards=some []→Room k (A.deeper (envOfC qual (defScope st) s.heap.objs.size f cdv))→
   nW (cxOf (L2.CX P w) P w K mg base N qual (defScope st) f cdv A outer s H E) (EX E) (defBody st) body):nE P w K mg base (k+1) f fd ps (p4 ⟨P,w,K,bG.T⟩ ps.length (fnOf N.length body)):=by
 obtain⟨oc,od,kV,doc,pm,an,cdv,ct,osl,rfl,lk,hcd⟩:=F.ex;refine⟨fun vs H Q E h=>h.1,fun A outer s H args us vs Q E hg hr e0 hb rel h=>?_⟩;have hlen:vs.length=ps.length:=h.1;have keep:∀b o,base.get? b=some o→s.heap.get? b=some o:=fun b o e=>(e0.bs b o e).1;have KX:K.In s.heap:=e0.mod.kin.keeps keep;have lim:s.heap.NoLimit:=e0.mod.nolimit.keeps keep;refine codeAny_call_function hr.depth (KX _ _ lk) rfl S.co S.gen rfl (PySem.W.codeRec_of KX hcd) (hb _ _ _ _ ?_);refine wpAny_newFunctionEnv_cells S.kind (fun y hy=>?_) fun env he s1 z=>?_
 ·rcases S.par y.1 (List.of_mem_zip (show(y.1,y.2)∈_ from hy)).1 with q|q
  ·exact .inl q
  ·exact .inr ⟨q,PySem.W.cellsFrom_some _ _ _ (.inl q)⟩
 ·subst he
  refine⟨lim.keeps z.toInCall.keep,codeAny_func ?_⟩;obtain⟨hl,ρ,M,es,rp,rv,p⟩:=h;obtain⟨t,ht,h2⟩:=hbody cdv A outer s H E hg (hr.deeper _);have hq:t { nx:=fun _ H'=>Q .non H',rt:=Q } (L2.start N vs) H:=by
   refine h2 ρ (es.map some++List.replicate (N.length-es.length) none) (L2.start N vs) M H { nx:=fun _ H'=>Q .non H',rt:=Q } ?_ rp ?_
   ·refine bF.start rv ?_
    have e1:=rv.length;have e2:(N.take ps.length).length=ps.length:=by rw[S.pre]
    rw[List.length_take]at e2;omega
   ·unfold fnOf at p
    cases q:body (es.map some++List.replicate (N.length-es.length) none) M with
    |rt v M1=>rw[q]at p;exact p
    |nx s1 M1=>rw[q]at p;exact fun ρ1 H1 σ1 a bB _=>p ρ1 H1 .non a bB (by unfold RV;rfl)
    |err x s1 M1=>rw[q]at p;exact fun ρ1 H1 σ1 d a bB _ r=>p ρ1 H1 d a bB r
    |bk s1 M1=>rw[q]at p;exact p.elim
    |ct s1 M1=>rw[q]at p;exact p.elim
    |bad=>rw[q]at p;exact p.elim
  have I:Inv (cxOf (L2.CX P w) P w K mg base N qual (defScope st) f cdv A outer s H E) [] (L2.start N vs) H s1:=inv_start S hr.hd e0 hlen rel z;refine wpAny_mono (ht.run [] s1 (L2.start N vs) H _ I hq) (fun fl s' hs=>?_) fun e s' hs=>hs;cases fl with
  |ret u=>
   obtain⟨v,σ',H',J,rr,q⟩:=hs;exact⟨v,H',J.os,J.bare,J.base,J.hok,rr,q⟩
  |next=>
   obtain⟨σ',H',J,q⟩:=hs;exact⟨V.non,H',J.os,J.bare,J.base,J.hok,rfl,q⟩
  |brk=>obtain⟨_,_,_,q⟩:=hs;exact False.elim q
  |cont=>obtain⟨_,_,_,q⟩:=hs;exact False.elim q
end
section
variable{X:Cx}{W:WX}{k n:Nat}{f:Addr}{m:Fn}{x:Str}{p pos:Pos}{e:Expr}{es:List Expr}{fa:FA}
end
section
variable{P:Program}{w:World}{K:PySem.W.Frag}{mg mb:Str→Option Value}{base:Heap}{k:Nat}
theorem YA{f:Addr}{fd:FuncData}{ps:List Str}{m:Fn}(F:nE P w K mg base k f fd ps (p4 ⟨P,w,K,bG.T⟩ 1 m))
  (h:∀ns:List Int,ns.length≤63→∃M,m [.sl ns] [] = .ok (.bl true) M):nE P w K mg base k f fd ps (uV K):=
 F.imp fun vs H Q E ⟨b,ns,e,sm,sc,hl,q⟩=>by
  subst e;obtain⟨M,hm⟩:=h ns hl;refine⟨rfl,fun _=>0,[],[.sl ns],⟨fun k o e=>by simp at e,fun j k hj=>by simp at hj,sm.1,sm.2⟩,aZ.cons (by unfold RV;exact⟨b,rfl,sc⟩) aZ.nil,?_⟩;rw[hm];intro ρ' H' v' _ _ r;unfold RV at r;subst r;exact q H'
structure QG(K:PySem.W.Frag)(H:Hp)(a:Addr):Prop where
 only:∀b u,H b=some u→∃o v,u = .frz o v
 at_:∀b u,H b=some u→b=a∨b=sysModules
 nok:∀b u,H b=some u→K.lookup b=none
theorem QG.none_of{H:Hp}{a:Addr}(h:QG K H a){s:Shared}{vs:List Value}(ha:s.heap.get? a=some { cls:=.type "list",data:=.seq vs.toArray }){b:Addr}{o:Obj}{es:Array DictEntry}{ep:Nat}(e:s.heap.get? b=some o)(d:o.data = .dict es ep)(nb:b≠sysModules):H b=none:=by
 cases q:H b with
 |none=>rfl
 |some u=>
  have z:=(h.at_ b u q).resolve_right nb;subst z;rw[ha]at e;cases e;exact absurd d (by intro d';cases d')
theorem CU{fa a:Addr}{fd:FuncData}{x:Str}{s:Shared}{vs:List Value}{ns:List Int}{H:Hp}(A:QG K H a)
  (KX:K.In s.heap) (hns:s.heap.Ns mainGlobals mg) (hb:s.heap.Ns builtinsNs mb) (hbb:∀x:Str,x≠"__name__"→mb x=bootBuiltins x) (hlim:s.heap.NoLimit) (hg:s.gens = #[])
  (ha:s.heap.get? a=some { cls:=.type "list",data:=.seq vs.toArray }) (hl:ns.length≤63) (hr:Room k callerA)
  (F:∀base:Heap,K.In base→base.Ns mainGlobals mg→nE P w K mg base k fa fd [x] (uV K)) (hbind:∀(s:Shared) (u:Value),BindsTo s fd ⟨[u],[]⟩ [(x,u)]) (hT:bG.T = [])
  (hok:HOk P w H s.heap) (sm:nX K H) (hS:nV K H a (ns.map V.int)):
  codeAny (model P w) callerA (.call (.ref fa) ⟨[.ref a],[]⟩) (fun r s'=>r = .ok (.ret (.bool true))∧OldK s.heap s'.heap∧s'.os=s.os∧AllBare s'.gens) s:=by
 have inB:∀{b:Addr} {o:Obj},s.heap.get? b=some o→H b=none→(hidT s.heap H).get? b=some o:=fun e n=>hidT_get e n;have EA:∀{b:Addr} {m:Str→Option Value},b≠sysModules→s.heap.Ns b m→(hidT s.heap H).Ns b m:=by
  intro b m nb h;obtain⟨o,es,ep,e,d,r⟩:=h;exact⟨o,es,ep,inB e (A.none_of ha e d nb),d,r⟩
 have kB:K.In (hidT s.heap H):=fun b o e=>by
  refine inB (KX b o e) ?_;cases q:H b with
  |none=>rfl
  |some u=>
   rw[A.nok b u q]at e;cases e
 obtain⟨mc,l1,l2⟩:=hlim;have hM:Mod K mg (hidT s.heap H):=⟨kB,EA (by decide) hns,⟨mb,EA (by decide) hb,hbb⟩,⟨mc,EA (by decide) l1,l2⟩⟩;have e0:Env0 P w K mg (hidT s.heap H) callerA [] s H:=⟨rfl,hM,fun b o e=>of_hidT e,Nat.le_of_eq (hidT_size _ _),trivial,fun b hb=>(by cases(show b∈([]:List Addr)from hb)),hok,.of_eq hg⟩;have run:=(F _ kB (EA (by decide) hns)).run callerA [] s H ⟨[.ref a],[]⟩ [.ref a] [.ref a] (fun v _=>v = .bl true) (fun _ _ _=>False) rfl hr e0 (hbind s (.ref a)) (.cons rfl .nil) ⟨a,ns,rfl,⟨sm,by rw[hT];exact fun p hp=>nomatch hp⟩,hS,hl,fun _=>rfl⟩;refine codeAny_mono run fun r s' h=>?_
 match r,h with
 |.error e,h=>
  obtain⟨_,_,_,_,_,_,_,_,_,_,_,_,bad⟩:=h;exact bad.elim
 |.ok .next,h=>exact h.elim
 |.ok .brk,h=>exact h.elim
 |.ok .cont,h=>exact h.elim
 |.ok (.ret u),h=>
  obtain⟨v,H',os,bare,un,hok',r',q⟩:=h;have q:v = .bl true:=q;subst q;have r':u=Value.bool true:=r';subst r';refine⟨rfl,OldK.of_keep fun b o e=>?_,os,bare⟩;cases q:H b with
  |none=>exact un.keep b o e q (fun z=>by cases(show b∈([]:List Addr)from z)) (by simp)
  |some u=>
   obtain⟨ob,xs,z⟩:=A.only b u q;subst z;obtain⟨g1,_⟩:=hok b _ q;obtain⟨g2,_⟩:=hok' b _ (un.frzs b ob _ q);rw[e]at g1;cases g1;exact g2
theorem XX{fa a:Addr}{fd:FuncData}{x:Str}{s:Shared}{vs:List Value}{ns:List Int}(hsm:∃o,s.heap.get? sysModules=some o)
  (KX:K.In s.heap) (hns:s.heap.Ns mainGlobals mg) (hb:s.heap.Ns builtinsNs mb) (hbb:∀x:Str,x≠"__name__"→mb x=bootBuiltins x) (hlim:s.heap.NoLimit) (hg:s.gens = #[])
  (ha:s.heap.get? a=some { cls:=.type "list",data:=.seq vs.toArray }) (hi:IntsAre vs ns) (hl:ns.length≤63) (hr:Room k callerA)
  (F:∀base:Heap,K.In base→base.Ns mainGlobals mg→nE P w K mg base k fa fd [x] (uV K)) (hbind:∀(s:Shared) (u:Value),BindsTo s fd ⟨[u],[]⟩ [(x,u)]) (hTb:bG.T = []):
  codeAny (model P w) callerA (.call (.ref fa) ⟨[.ref a],[]⟩) (fun r s'=>r = .ok (.ret (.bool true))∧OldK s.heap s'.heap∧s'.os=s.os∧AllBare s'.gens) s:=by
 have rv:=vals_ints hi;have lenV:=hi.length;have big:(63:Nat)≤sizeLine:=by decide
 obtain⟨T,hT⟩:∃T:HO,T = .frz { cls:=.type "list",data:=.seq vs.toArray } (.lst (ns.map V.int)):=⟨_,rfl⟩;obtain⟨o0,h0⟩:=hsm;obtain⟨S,hS⟩:∃S:HO,S = .frz o0 (.own sysModules):=⟨_,rfl⟩;have RH:∀H,ObjOk P w H s.heap a T:=fun H=>by
  subst hT;exact⟨ha,by rw[List.length_map];omega,vs,_,rv,ha⟩
 have p7:∀H,ObjOk P w H s.heap sysModules S:=fun H=>by
  subst hS;exact⟨h0,o0,h0⟩
 have V5:∀{H:Hp},H sysModules=some S→nX K H:=fun e=>.inl ⟨S,e,by subst hS;exact id,by subst hS;exact⟨(fun vs z=>by cases z),(fun vs z=>by cases z)⟩⟩;have smT:∀{H:Hp},H sysModules=some T→nX K H:=fun e=>.inl ⟨T,e,by subst hT;exact id,by subst hT;exact⟨(fun vs z=>by cases z),(fun vs z=>by cases z)⟩⟩;cases hk:K.lookup a with
 |some o=>
  have e:=KX a o hk;rw[ha]at e;cases e;have sc:∀H,nV K H a (ns.map V.int):=fun H=>.inr ⟨_,vs.toArray,_,hk,rfl,rfl,rfl,by rw[List.size_toArray,lenV];omega,by simpa using rv⟩;cases hm:K.lookup sysModules with
  |some o=>exact CU (H:=fun _=>none) ⟨fun b u z=>(by cases z),fun b u z=>(by cases z),fun b u z=>(by cases z)⟩ KX hns hb hbb hlim hg ha hl hr F hbind hTb (fun b u z=>(by cases z)) (.inr ⟨o,hm⟩) (sc _)
  |none=>
   have at1:∀{b:Addr} {u:HO},(if b=sysModules then some S else none)=some u→b=sysModules∧u=S:=fun{b u} z=>by
    by_cases c:b=sysModules
    ·rw[if_pos c]at z;cases z;exact⟨c,rfl⟩
    ·rw[if_neg c]at z;cases z
   refine CU (H:=fun b=>if b=sysModules then some S else none) ⟨fun b u z=>?_,fun b u z=>.inr (at1 z).1,fun b u z=>?_⟩ KX hns hb hbb hlim hg ha hl hr F hbind hTb (fun b u z=>?_) (V5 (if_pos rfl)) (sc _)
   ·obtain⟨_,rfl⟩:=at1 z;exact⟨_,_,hS⟩
   ·obtain⟨rfl,_⟩:=at1 z;exact hm
   ·obtain⟨rfl,rfl⟩:=at1 z;exact p7 _
 |none=>
  have V6:∀{H:Hp},H a=some T→nV K H a (ns.map V.int):=fun e=>.inl ⟨{ cls:=.type "list",data:=.seq vs.toArray },by rw[e,hT]⟩;have one:∀(_:nX K (fun b=>if b=a then some T else none)),codeAny (model P w) callerA (.call (.ref fa) ⟨[.ref a],[]⟩) (fun r s'=>r = .ok (.ret (.bool true))∧OldK s.heap s'.heap∧s'.os=s.os∧AllBare s'.gens) s:=fun sm=>by
   have at1:∀{b:Addr} {u:HO},(if b=a then some T else none)=some u→b=a∧u=T:=fun{b u} z=>by
    by_cases c:b=a
    ·rw[if_pos c]at z;cases z;exact⟨c,rfl⟩
    ·rw[if_neg c]at z;cases z
   refine CU (H:=fun b=>if b=a then some T else none) ⟨fun b u z=>?_,fun b u z=>.inl (at1 z).1,fun b u z=>?_⟩ KX hns hb hbb hlim hg ha hl hr F hbind hTb (fun b u z=>?_) sm (V6 (if_pos rfl))
   ·obtain⟨_,rfl⟩:=at1 z;exact⟨_,_,hT⟩
   ·obtain⟨rfl,_⟩:=at1 z;exact hk
   ·obtain⟨rfl,rfl⟩:=at1 z;exact RH _
  by_cases ca:sysModules=a
  ·exact one (smT (if_pos ca))
  ·cases hm:K.lookup sysModules with
   |some o=>exact one (.inr ⟨o,hm⟩)
   |none=>
    have at2:∀{b:Addr} {u:HO},(if b=a then some T else if b=sysModules then some S else none)=some u→(b=a∧u=T)∨(b=sysModules∧u=S):=fun{b u} z=>by
     by_cases c:b=a
     ·rw[if_pos c]at z;cases z;exact .inl ⟨c,rfl⟩
     ·rw[if_neg c]at z
      by_cases c2:b=sysModules
      ·rw[if_pos c2]at z;cases z;exact .inr ⟨c2,rfl⟩
      ·rw[if_neg c2]at z;cases z
    refine CU (H:=fun b=>if b=a then some T else if b=sysModules then some S else none) ⟨fun b u z=>?_,fun b u z=>(at2 z).imp (·.1) (·.1),fun b u z=>?_⟩ KX hns hb hbb hlim hg ha hl hr F hbind hTb (fun b u z=>?_) (V5 (by rw[if_neg ca,if_pos rfl])) (V6 (if_pos rfl))
    ·rcases at2 z with⟨_,rfl⟩|⟨_,rfl⟩
     ·exact⟨_,_,hT⟩
     ·exact⟨_,_,hS⟩
    ·rcases at2 z with⟨rfl,_⟩|⟨rfl,_⟩
     ·exact hk
     ·exact hm
    ·rcases at2 z with⟨rfl,rfl⟩|⟨rfl,rfl⟩
     ·exact RH _
     ·exact p7 _
end
theorem zAG{l:PySem.W.OpenLaw}{q:Program}{loose:List Str}{XP:(Str→Option Value)→Heap→Prop}{YP:World→Heap→Prop}{d:DefRec}{K:Params→PySem.W.Frag}{k:Nat}{x:Str}(hi:importsNone q=true)(hn:l.most=some 63)(hdf:d.params.defaults = [])(hr:Room k callerA)
  (hY:∀(w:World) (h:Heap),YP w h→(K w.params).In h)
  (F:∀(w:World) (mg:Str→Option Value) (fa:Addr) (h:Heap),(K w.params).In h→h.Ns mainGlobals mg→mg d.name=some (.ref fa)→
   ∃fd:FuncData,(∀(s:Shared) (u:Value),BindsTo s fd ⟨[u],[]⟩ [(x,u)])∧∀base:Heap,(K w.params).In base→base.Ns mainGlobals mg→nE l.prog w (K w.params) mg base k fa fd [x] (uV (K w.params))) (hT:bG.T = []:=by rfl):
  PySem.W.WalkO q loose XP YP l.row.toRowW d [] (fun f vs=>PySem.call f vs):=by
 refine Att.attach_call hn hdf fun w s₀ s₁ mg mb fa o pm cd doc a vs ns G Y ho hd hcd hmg hobj hints hlen hg=>?_;have KX:=hY w _ Y;obtain⟨fd,hb,hF⟩:=F w mg fa _ KX G.T.g hmg;have hsm:∃o,s₁.heap.get? sysModules=some o:=by
  obtain⟨mm,⟨o,es,ep,e,_⟩,_⟩:=(G.T.seer hi).mods;exact⟨o,e⟩
 exact XX hsm KX G.T.g G.T.b G.T.builtins G.T.nolimit hg hobj hints hlen hr hF hb hT
end WS
namespace WS
variable[bG]
open PySem PySem.Spec PyProof.Rows L2 LiI
section
end
section
variable{X:Cx}{e:Expr}{te:TE}{p apos cpos pos:Pos}
end
section
variable{G:Gr}{ρ:Nat→Addr}{M:Mem}{H:Hp}{n:Nat}
end
section
variable{X:Cx}{W:WX}{e:Expr}{f:FE}{p apos cpos pos:Pos}
end
section
variable{X:Cx}{W:WX}
end
end WS
namespace WS
variable[bG]
open PySem PySem.Spec PyProof.Rows L2
section
variable{X:Cx}{W:WX}
end
end WS
namespace WS
variable[bG]
open PySem PySem.Spec PyProof.Rows L2
open Classical
section
variable{X:Cx}{W:WX}{pins:List (Addr×Obj)}{σ:L2.St}{H:Hp}{s:Shared}{ρ:Nat→Addr}{M:Mem}
end
section
variable{X:Cx}{W:WX}
end
end WS
namespace WS
variable[bG]
open PySem PySem.Spec PyProof.Rows L2
section
variable{X:Cx}{W:WX}{elt tg iter:Expr}{ifs:List Expr}{scope:Scope}{own:List (Str×Nat)}{pos:Pos}{fi:FI}{put:eA}{ft:FT}{fe:FE}{s0:Shared}{H0:Hp}{scope0:Scope}{cl0:List (Str×Addr)}{C0:Addr}{fp0:List Addr}
end
end WS
namespace WS
variable[bG]
open PySem PySem.Spec PyProof.Rows L2
open Classical
section
open AutoSeq1 (wpAny_loadPart')
open MeetsSeq MeetsSeq2 MeetsSeq3 SeqRoads2 PySem.SeqAt
variable{prog:Program}{w:World}
end
section
variable{X:Cx}{W:WX}{pins:List (Addr×Obj)}{σ:L2.St}{H:Hp}{s:Shared}{ρ:Nat→Addr}{M:Mem}
end
section
variable{X:Cx}{W:WX}
end
section
variable{prog:Program}{w:World}{A:Around}{E:Value→Shared→Prop}{s:Shared}
end
section
variable{G:Gr}{ρ ρ1:Nat→Addr}{M M1:Mem}{H H1:Hp}{d:Addr}{u:HO}
end
section
variable{X:Cx}{W:WX}{pos:Pos}{e k v:Expr}{fe fk fv:FE}{te tk tv:TE}
end
section
variable{X:Cx}{W:WX}{pos:Pos}{k v:Expr}{fk fv:FE}{tk tv:TE}
end
abbrev Arr:=List (Sum Nat Int)
section
variable{X:Cx}{W:WX}{k n N:Nat}{f C:Addr}{m:Fn}{x nm:Str}{p pos apos kpos:Pos}{e o:Expr}{kws:List Keyword}{fa ga:FA}{fe fo:FE}{ks:List Str}{sp:Arr}
end
inductive Src where
 |me|df (j:Nat)|kw (i:Nat)
def vF{α:Type}(vs mz zs:List α):Src→Option α
 |.me=>vs[0]?
 |.df j=>mz[j]?
 |.kw i=>zs[i]?
def pA{α:Type}(sp:List Src)(vs mz zs:List α):List α:=sp.filterMap (vF vs mz zs)
theorem Vals.look:∀{vs:List V} {us:List Value},Vals vs us→∀i:Nat,(vs[i]? = none∧us[i]? = none)∨∃v u,vs[i]? = some v∧us[i]? = some u∧RelV v u
 |_,_,.nil,i=>.inl ⟨rfl,rfl⟩
 |_,_,.cons h t,0=>.inr ⟨_,_,rfl,rfl,h⟩
 |_,_,.cons h t,i+1=>Vals.look t i
theorem UJ{vs mz zs:List V}{us mv ws:List Value}(r1:Vals vs us)(r2:Vals mz mv)(r3:Vals zs ws):∀sp:List Src,Vals (pA sp vs mz zs) (pA sp us mv ws)
 |[]=>.nil
 |s :: sp=>by
  have ih:=UJ r1 r2 r3 sp;have h:(vF vs mz zs s=none∧vF us mv ws s=none)∨∃v u,vF vs mz zs s=some v∧vF us mv ws s=some u∧RelV v u:=by
   cases s with
   |me=>exact Vals.look r1 0
   |df j=>exact Vals.look r2 j
   |kw i=>exact Vals.look r3 i
  unfold pA at *
  rcases h with⟨e1,e2⟩|⟨v,u,e1,e2,r⟩
  ·rw[List.filterMap_cons_none e1,List.filterMap_cons_none e2];exact ih
  ·rw[List.filterMap_cons_some e1,List.filterMap_cons_some e2];exact .cons r ih
section
variable{K:PySem.W.Frag}{x qual:Str}{st:Stmt}{f:Addr}{fd:FuncData}{ps ks:List Str}
theorem UD(F:Fun K x qual st f fd)(g:List Src)(h:∀(kV doc pm:Value) (an:Option Addr) (cdv ct:Value) (us ws:List Value),us.length=1→ws.length=ks.length→bindArgs (PySem.W.fnOf x qual (defArgs st) (defBody st) (defScope st) .none kV doc pm an cdv ct) ⟨us,ks.zip ws⟩=pure (ps.zip (pA g us [] ws))):
  KBn K fd ps 1 ks (fun us ws=>pA g us [] ws) (fun vs zs=>pA g vs [] zs):=by
 obtain⟨oc,od,kV,doc,pm,an,cdv,ct,osl,rfl,lk,hcd⟩:=F.ex;exact⟨fun s us ws X l1 l2=>.of_eq (h kV doc pm an cdv ct us ws l1 l2),fun r1 r2=>UJ r1 .nil r2 g⟩
end
section
variable{X:Cx}{W:WX}{pos:Pos}{f:FE}
end
section
variable{X:Cx}{W:WX}{pos:Pos}{fe:FE}{e:Expr}
end
theorem lookup_mem{l:List (Addr×Bool)}{C:Addr}{b:Bool}(h:l.lookup C=some b):(C,b)∈l:=by
 induction l with
 |nil=>cases h
 |cons q r ih=>
  obtain⟨D,c⟩:=q;rw[List.lookup_cons]at h;by_cases z:C=D
  ·subst z
   rw[show(C == C)=true from beq_self_eq_true C]at h;simp only[Option.some.injEq]at h;subst h;exact List.mem_cons_self
  ·rw[show(C == D)=false from beq_false_of_ne z]at h
   exact List.mem_cons_of_mem _ (ih h)
section
variable{X:Cx}{W:WX}
theorem W2{s:Shared}{a C:Addr}{o:Obj}(e:s.heap.get? a=some o)(h:R4 C o):PySem.W.InstAt s.heap a o C none:=by
 obtain⟨oc,od,oda,osl⟩:=o;obtain⟨h1,h2,vs,h3⟩:=h;dsimp only at h1 h2 h3;subst h1 h2 h3;exact⟨e,rfl,rfl,True.intro⟩
end
section
variable{X:Cx}{W:WX}
end
section
variable{X:Cx}{W:WX}
end
end WS
namespace L2
open PySem PySem.Spec PyProof.Rows
section
variable{X:Cx}{e:Expr}{te:TE}
end
end L2
namespace WS
variable[bG]
open PySem PySem.Spec PyProof.Rows L2
section
variable{X:Cx}{W:WX}{e:Expr}{f:FE}{p pos:Pos}
end
section
variable{X:Cx}{kx vx tg iter:Expr}{ifs:List Expr}{scope:Scope}{own:List (Str×Nat)}{pos:Pos}{fi:FI}{put:eA}{ft:FT}{fk fv:FE}{W:WX}
end
section
variable{X:Cx}{W:WX}{k N:Nat}{f:Addr}{m:Fn}{x:Str}{p pos:Pos}{kws:List Keyword}{ga:FA}{ks:List Str}{sp:Arr}
end
section
variable{K:PySem.W.Frag}{x qual:Str}{st:Stmt}{f:Addr}{fd:FuncData}{ps ks:List Str}
end
end WS
namespace WS
variable[bG]
open PySem PySem.Spec PyProof.Rows L2
open Classical
section
variable{X:Cx}{W:WX}
end
section
variable{X:Cx}{W:WX}
end
end WS
namespace WS
variable[bG]
open PySem PySem.Spec PyProof.Rows L2
section
variable{X:Cx}{W:WX}
end
end WS
namespace WS
variable[bG]
open PySem PySem.Spec PyProof.Rows L2
open PySem.W (dataLt dataLe keyToks alike AllAlike Sortable SortsAt sortVals)
open Classical
section
variable{prog:Program}{w:World}{A:Around}{E:Value→Shared→Prop}{s:Shared}{r d:Addr}{Kt:Type}[DecidableEq Kt]{knd:PySem.KeyKind prog w Kt}{kvs:List (Kt×Value)}{ep:Nat}
end
section
variable{X:Cx}{W:WX}{e:Expr}{te:TE}{p apos cpos pos:Pos}
end
section
variable{X:Cx}{W:WX}
variable{e:Expr}{f:FE}{p apos cpos pos:Pos}
end
end WS
namespace WS
variable[bG]
open PySem PySem.Spec PyProof.Rows L2
open Classical
section
variable{X:Cx}{W:WX}{C:Addr}{y:Str}{pos tpos:Pos}{o value:Expr}{i:Nat}{n:Int}
end
end WS
namespace HT
open PySem PySem.Spec PyProof.Rows
section
variable{prog:Program}{w:World}{A:Around}{E:Value→Shared→Prop}{s:Shared}
end
end HT
namespace WS
variable[bG]
open PySem PySem.Spec PyProof.Rows L2
open Classical
section
variable{X:Cx}
end
section
variable{X:Cx}{W:WX}{e:Expr}{f:FE}{pos:Pos}
end
section
variable{X:Cx}{W:WX}
end
end WS
namespace WS
variable[bG]
open PySem PySem.Spec PyProof.Rows L2 LamX
open Classical
abbrev Kn:=(Nat→Addr)→Mem→Hp→Prop
section
variable{Φ:Kn}{X:Cx}{W:WX}{st:Stmt}{rest:List Stmt}{f g:FS}{pos:Pos}{e:Expr}{fe:FE}
end
section
variable{H:Hp}{P k:Addr}{q:Str}{ps:Array Value}{at_:Pos}
end
section
variable{X:Cx}{pins:List (Addr×Obj)}{σ:L2.St}{H:Hp}{s:Shared}
end
section
variable{X:Cx}{pins:List (Addr×Obj)}{σ:L2.St}{H:Hp}{s:Shared}
end
section
variable{X:Cx}
end
section
variable{P:Program}{w:World}{K:PySem.W.Frag}{mg:Str→Option Value}{base:Heap}
end
section
variable{P:Program}{w:World}{K:PySem.W.Frag}{mg mb:Str→Option Value}{base:Heap}{k:Nat}{f:Addr}
end
section
variable{P:Program}{w:World}{K:PySem.W.Frag}{mg mb:Str→Option Value}{base:Heap}{k:Nat}
end
end WS
namespace WS
variable[bG]
open PySem PySem.Spec PyProof.Rows L2
open Classical
section
variable{X:Cx}{W:WX}
end
end WS
namespace PySem.SeqAt
open AutoSeq1 (wpAny_loadPart')
open MeetsSeq
section
variable{A:Around}{s:Shared}
end
section
variable{A:Around}{s:Shared}
end
end PySem.SeqAt
namespace WS
variable[bG]
open PySem PySem.Spec PyProof.Rows L2
open Classical
section
variable{X:Cx}{W:WX}
end
end WS
namespace PySem
open Sem (wp)
namespace ZipS
section
variable{prog:Program}{w:World}{A:Around}{E:Value→Shared→Prop}{s:Shared}
end
section
open PyProof.Rows
variable{M:Model}{A:Around}{E:Value→Shared→Prop}{s:Shared}{env:Env}
end
end ZipS
end PySem
namespace WS
variable[bG]
open PySem PySem.Spec PyProof.Rows L2
open RZ
section
variable{X:Cx}{W:WX}{e e2:Expr}{fa:FA}{p pos tpos kpos kp2:Pos}{elts:List Expr}{kk:Nat}{j:Bool}
end
section
variable{G:Gr}{ρ:Nat→Addr}{M:Mem}{H:Hp}
end
section
variable{X:Cx}{W:WX}{e e2:Expr}{fa:FA}{p pos tpos kpos kp2:Pos}{elts:List Expr}{kk:Nat}
end
end WS
namespace WS
variable[bG]
open PySem PySem.Spec PyProof.Rows L2
open Classical
section
variable{X:Cx}{W:WX}{pins:List (Addr×Obj)}{σ:L2.St}{ρ:Nat→Addr}{M:Mem}{H:Hp}{s:Shared}
end
section
variable{X:Cx}{W:WX}
end
end WS
namespace PySem
open Sem (wp)
section
variable{prog:Program}{w:World}{A:Around}{E:Value→Shared→Prop}{s:Shared}{T:String}{r d:Addr}{n:Nat}{P:Nat→Value→Prop}{OK:Heap→Prop}
end
end PySem
namespace WS
variable[bG]
open PySem PySem.Spec PyProof.Rows L2
open Classical
section
variable{X:Cx}{W:WX}{te:TE}{t:TA}{e:Expr}{es:List Expr}{p:Pos}
end
section
variable{X:Cx}{W:WX}{c a b:Expr}{pos:Pos}{p q r:FT}{tA tB tC:TT}
end
end WS
namespace PySem
open Sem (wp)
namespace ZipT
section
variable{prog:Program}{w:World}{A:Around}{E:Value→Shared→Prop}{s:Shared}
end
section
variable{prog:Program}{w:World}{A:Around}{E:Value→Shared→Prop}{s:Shared}
end
end ZipT
end PySem
namespace WS
variable[bG]
open PySem PySem.Spec PyProof.Rows L2
open RZ
section
variable{X:Cx}{W:WX}{e e2:Expr}{fa:FA}{p pos tpos kpos kp2:Pos}{elts:List Expr}{kk:Nat}
end
section
variable{G:Gr}{ρ:Nat→Addr}{M:Mem}{H:Hp}
end
section
variable{X:Cx}{W:WX}{e e2:Expr}{fa:FA}{p pos tpos kpos kp2:Pos}{elts:List Expr}{kk:Nat}
end
end WS
namespace WS
variable[bG]
open PySem PySem.Spec PyProof.Rows L2
open Classical
section
variable{X:Cx}{W:WX}{pos:Pos}
end
end WS
namespace PySem
section
variable{M:Model}{A:Around}{R:GenEnd}{Y:Protocol}{n:Nat}{s₀:Shared}{c:Code}{fs:List Frame}{s:Shared}{env:Env}
 {K:Flow→Sem Fin} {J:Value→Sem Fin} {gd:Bool→Bool} {lv:List Value→List Value}
end
section
variable{prog:Program}{w:World}{A:Around}{R:GenEnd}{Y:Protocol}{n:Nat}{s₀:Shared}{fs:List Frame}{s:Shared}{env:Env}
end
end PySem
namespace L2
open PySem PySem.Spec PyProof.Rows GenW
section
variable{X:Cx}{st:Stmt}
end
end L2
namespace WS
variable[bG]
open PySem PySem.Spec PyProof.Rows L2
open Classical
inductive RG where
 |nx (acc:List EV) (σ:bA) (M:Mem)|bk (acc:List EV) (σ:bA) (M:Mem)|ct (acc:List EV) (σ:bA) (M:Mem)|err (x:Ex) (σ:bA) (M:Mem)|bad
abbrev FG:=List EV→bA→Mem→RG
section
variable{G:Gr}{W:WX}{ρ ρ':Nat→Addr}{M M':Mem}{H H':Hp}{σ:L2.St}{σe:bA}
end
section
variable{X:Cx}{W:WX}{st:Stmt}{rest:List Stmt}{f g:FG}{pos yp:Pos}{e c:Expr}{fe:FE}{p:FT}
end
abbrev FnL2:=List EV→Mem→Res (List EV)
section
variable{X:Cx}{W:WX}{k n:Nat}{f:Addr}{m:FnL2}{x nm:Str}{p p2 pos pos':Pos}{e:Expr}{es:List Expr}{fa:FA}{L:List Addr}
end
end WS
namespace L2
open PySem PySem.Spec PyProof.Rows
def uQ:V→Prop
 |.non=>True
 |.str y=>y.length≤1000∧∀c∈y.cps.toList,c<16 ^ 8
 |.int i=>i.natAbs.log2<1000
 |_=>False
def R0(H:Hp)(v:V):Prop:=(∃i:Int,v = .int i∧i.natAbs.log2<1000)∨∃(a:Addr) (vs:List V),v = .ref a∧H a=some (.tup vs)∧vs.length≤8∧∀x∈vs,uQ x
theorem XU{prog:Program}{w:World}{x:V}{u:Value}(r:RelV x u)(h:uQ x):∃t:Str,ReprIs prog w u t∧t.length≤20000:=by
 cases x with
 |non=>
  cases(show u=Value.none from r);exact⟨_,ReprIs.none,by decide +kernel⟩
 |str y=>
  obtain⟨t,rfl⟩:=r;obtain⟨h1,h2⟩:=h;have l:=StrLaws.reprText_len y h2;exact⟨_,ReprIs.str y t (by rw[sizeLine_eq];omega),by omega⟩
 |int i=>
  obtain⟨t,rfl⟩:=r;have h:i.natAbs.log2<1000:=h;have l:=int_text_length_le (k:=1000) (by decide) h;exact⟨_,ReprIs.int t (by omega),by rw[PySem.ofString_length];omega⟩
 |_=>exact h.elim
theorem S7{prog:Program}{w:World}:∀{vs:List V} {us:List Value},Vals vs us→(∀x∈vs,uQ x)→∃ts:List Str,ReprAll prog w us ts∧piled ts≤20010*vs.length
 |[],_,r,_=>by
  cases r;exact⟨[],.nil,by simp[piled]⟩
 |x :: vs,_,r,h=>by
  cases r with
  |cons r1 r2=>
   obtain⟨t,h1,h2⟩:=XU (prog:=prog) (w:=w) r1 (h x List.mem_cons_self);obtain⟨ts,h3,h4⟩:=S7 (prog:=prog) (w:=w) r2 fun y hy=>h y (List.mem_cons_of_mem _ hy);refine⟨t :: ts,.cons h1 h3,?_⟩;rw[piled_cons,List.length_cons];omega
section
variable{X:Cx}
def PL(te:TE):TE:=fun σ H Q=>te σ H fun x H1=>R0 H1 x∧∀m:Str,m.length≤200000→Q (.str m) H1
theorem UP{e:Expr}{te:TE}{pos:Pos}(hu:X.A.units+2<cLine)(he:PE X e te):PE X (.FormattedValue e (-1) none pos) (PL te):=by
 refine⟨fun pins s σ H Q I h=>?_⟩;refine wpAny_FormattedValue_plain (thn (he.run pins s σ H _ I h) fun v s1 hv=>?_);obtain⟨x,H1,I1,r1,hx,q⟩:=hv;rcases hx with⟨i,rfl,hz⟩|⟨a,vs,rfl,ht,hl,hvs⟩
 ·obtain⟨t,rfl⟩:=r1
  have l:=int_text_length_le (k:=1000) (by decide) hz;exact wpAny_formatField_int (by omega) ⟨.str (toString i),H1,I1.tok _,⟨_,rfl⟩,q _ (by rw[PySem.ofString_length];omega)⟩
 ·cases r1
  obtain⟨its,rv,⟨o,ho,hcl,n,hd⟩,_⟩:=I1.tuple (.of ht);obtain⟨ts,hT,hp⟩:=S7 (prog:=X.prog) (w:=X.w) rv hvs;have htx:=fmt_text ts;exact fmt_tuple (ts:=ts) hu ho hcl hd hT (by rw[sizeLine_eq];omega) fun m u tk hm=>⟨.str m,H1,I1.tok _,⟨u,rfl⟩,q m (by omega)⟩
theorem T_{W0:Str}{CW:Addr}{mc:Value}{e:Expr}{es:List Expr}{ta:TA}{p1 p2 pos:Pos}{pl:Sem Bool}(hg:Gl X W0)(hm:X.mg W0=some (.ref CW))(rd:PySem.W.readsIn X.K CW mc=true)(ga:PySem.W.specialIn X.K (.ref CW) "__getattribute__" = some (some (.builtin "type.__getattribute__")))
  (vV:PySem.W.findCls X.K (.ref CW) mc "__init__" = some (.val (.builtin "ValueError.__init__"))) (ha:PA X (e :: es) ta) (hdb:(W0 == ("__debug__" : Str))=false:=by decide)
  (hc:eval (.Call (.Attribute (.Name W0 p1) "__init__" p2) (e :: es) [] pos) X.env=(do
   let ov ← eval (.Name W0 p1) X.env
   standAt p2.atName
   let (f,first) ← holding [ov] (getMethod ov "__init__" pl)
   callWith pos f first (backTo pos (starEach (e :: es) X.env)) (backToKw pos (keywordEach [] X.env))):=by rfl)
  (he:starEach (e :: es) X.env=(false,eval e X.env) :: starEach es X.env:=by rfl) (hpl:(backTo pos (starEach es X.env)).any (·.1)=false:=by rfl):
  PE X (.Call (.Attribute (.Name W0 p1) "__init__" p2) (e :: es) [] pos) (tVeI X.K ta):=by
 refine⟨fun pins s σ H Q I h=>?_⟩;refine PySem.W.methodCall_KW (ld_glob I hg hm ?_ hdb) hc;refine PySem.W.method_cls I.kIn ga (PySem.W.cls_value I.kIn rd vV (by decide +kernel) ?_);show wpAny _ _ (callWith pos (Value.builtin "ValueError.__init__") [] (backTo pos (starEach (e :: es) X.env)) []) _ _ _;refine PyProof.Rows.callWith_method1 (thn (ha.run pos pins _ σ H _ (I.tok _) h) fun us s1 ⟨vs,H1,I1,r1,a,C,ws,ev,hl,T,ea,q⟩=>?_) he hpl;subst ev;cases r1 with
 | @cons _ u0 _ ur ra rw'=>
  obtain rfl:u0=Value.ref a:=ra;have hlen:ur.length≤sizeLine:=by
   rw[← Paired.length rw',sizeLine_eq];omega
  exact oinit_ok T I1 ea hlen fun s' J=>⟨.non,H1,J,rfl,q⟩
end
def n5(K:PySem.W.Frag)(C:Addr)(y:Str):Sp:=fun vs H Q _=>∃(a:Addr) (r:V),vs = [.ref a,r]∧OexC K C∧PySem.W.findIn K (.ref C) y=some none∧H a=some (exo a C none)∧R0 H r∧∀dx,H dx=none→dx≠a→Q .non (upd (upd H dx (exd dx [(y,r)])) a (exo a C (some dx)))
section
variable{K:PySem.W.Frag}{C:Addr}{y:Str}{vs:List V}{H:Hp}{Q:VK}{E:XK}{n1 n2 t u:Str}
theorem TN(h:n5 K C y vs H Q E):vs.length=([n1,n2]:List Str).length:=by
 obtain⟨a,r,rfl,_⟩:=h;rfl
theorem XC(ht:t.length≤1000)(h:n5 K C y vs H Q E):
  tSeq (tDrop (tVeI K (tCons (tVar 0) (tCons (fun σ H Q=>tJs [tC (.str t),PL (tVar 1)] Str.empty σ H fun out H1=>Q (.str out) H1) tNil)))) (tOst K y (tVar 0) (tVar 1)) { nx:=fun _ H'=>Q .non H',rt:=Q } (start [n1,n2] vs) H:=by
 obtain⟨a,r,rfl,T,hy,e,hx,q⟩:=h;have l0:Str.empty.length=0:=rfl;refine⟨.ref a,rfl,t,rfl,by rw[strLen_append,l0,sizeLine_eq];omega,r,rfl,hx,fun m hm=>⟨m,rfl,by rw[strLen_append,strLen_append,l0,sizeLine_eq];omega,a,C,[_],rfl,by simp,T,e,r,rfl,.ref a,rfl,a,C,rfl,T,hy,.inl ⟨e,q⟩⟩⟩
theorem W_(ht:t.length≤1000)(hu:u.length≤1000)(h:n5 K C y vs H Q E):
  tSeq (tDrop (tVeI K (tCons (tVar 0) (tCons (fun σ H Q=>tJs [tC (.str t),PL (tVar 1),tC (.str u)] Str.empty σ H fun out H1=>Q (.str out) H1) tNil)))) (tOst K y (tVar 0) (tVar 1)) { nx:=fun _ H'=>Q .non H',rt:=Q } (start [n1,n2] vs) H:=by
 obtain⟨a,r,rfl,T,hy,e,hx,q⟩:=h;have l0:Str.empty.length=0:=rfl;refine⟨.ref a,rfl,t,rfl,by rw[strLen_append,l0,sizeLine_eq];omega,r,rfl,hx,fun m hm=>⟨m,rfl,by rw[strLen_append,strLen_append,l0,sizeLine_eq];omega,u,rfl,by rw[strLen_append,strLen_append,strLen_append,l0,sizeLine_eq];omega,a,C,[_],rfl,by simp,T,e,r,rfl,.ref a,rfl,a,C,rfl,T,hy,.inl ⟨e,q⟩⟩⟩
end
end L2
namespace WS
variable[bG]
open PySem PySem.Spec PyProof.Rows L2
open Classical
def pR:EV→Bool
 |.non=>true
 |.str y=>decide (y.length≤1000)&&y.cps.toList.all fun c=>decide (c<16 ^ 8)
 |.int i=>decide (i.natAbs.log2<1000)
 |_=>false
def p0:EV→Bool
 |.int i=>decide (i.natAbs.log2<1000)
 |.tup xs=>decide (xs.length≤8)&&xs.all pR
 |_=>false
theorem X2{K:PySem.W.Frag}{ρ:Nat→Addr}{n:Nat}{H:Hp}{x:EV}{v:V}(r:RV K ρ n H x v)(h:pR x=true):uQ v:=by
 cases x with
 |non=>unfold RV at r;subst r;trivial
 |str y=>
  unfold RV at r;subst r;unfold pR at h;rw[Bool.and_eq_true,decide_eq_true_iff,List.all_eq_true]at h;exact⟨h.1,fun c hc=>of_decide_eq_true (h.2 c hc)⟩
 |int i=>
  unfold RV at r;subst r;unfold pR at h;rw[decide_eq_true_iff]at h;exact h
 |_=>cases h
theorem TJ{K:PySem.W.Frag}{ρ:Nat→Addr}{n:Nat}{H:Hp}:∀{xs:List EV} {vs:List V},aZ K ρ n H xs vs→xs.all pR=true→∀v∈vs,uQ v
 |[],_,r,_,v,hv=>by
  unfold aZ at r;subst r;cases hv
 |x :: xs,_,r,h,v,hv=>by
  unfold aZ at r;obtain⟨u,s,rfl,r1,r2⟩:=r;rw[List.all_cons,Bool.and_eq_true]at h;rcases List.mem_cons.mp hv with rfl|hv
  ·exact X2 r1 h.1
  ·exact TJ r2 h.2 v hv
theorem YU{K:PySem.W.Frag}{ρ:Nat→Addr}{n:Nat}{H:Hp}{x:EV}{v:V}(r:RV K ρ n H x v)(h:p0 x=true):R0 H v:=by
 cases x with
 |int i=>
  unfold RV at r;subst r;unfold p0 at h;rw[decide_eq_true_iff]at h;exact .inl ⟨i,rfl,h⟩
 |tup xs=>
  unfold RV at r;obtain⟨a,vs,rfl,e,rs⟩:=r;unfold p0 at h;rw[Bool.and_eq_true,decide_eq_true_iff]at h;exact .inr ⟨a,vs,rfl,e,by rw[rs.length];exact h.1,TJ rs h.2⟩
 |_=>cases h
section
variable{X:Cx}{W:WX}{C fI:Addr}{y x:Str}{k:Nat}{fd:FuncData}{ps:List Str}{e:Expr}{fe:FE}{p pos pos':Pos}
end
def D0(K:PySem.W.Frag)(C:Addr):Bool:=match K.lookup C with
 |some ⟨.type "type",_,.cls cd,sl⟩=>(match cd.mro,sl.toList with
  |.ref C' :: bm,[_,_,_,_,some (.builtin n),_]=>C' == C&&n == "ValueError.__new__" && !cd.hasDel&&cd.hasDict&&PySem.HandSPX.refsVE bm
  |_,_=>false)
 |_=>false
theorem UR{K:PySem.W.Frag}{C:Addr}(q:D0 K C=true):∃nm q N bs bm sn sub ab col dd k0 k1 k2 k3 k5,K.lookup C=some (excClassObj nm q C N bs bm true sn sub ab col dd k0 k1 k2 k3 k5 "ValueError.__new__")∧PySem.HandSPX.refsVE bm=true:=by
 unfold D0 at q;split at q
 ·rename_i dd cd sl ho
  split at q
  ·rename_i C' bm k0 k1 k2 k3 n k5 hm hs
   simp only[Bool.and_eq_true,beq_iff_eq,Bool.not_eq_true']at q;obtain⟨⟨⟨⟨rfl,rfl⟩,hdel⟩,hdict⟩,ht⟩:=q;obtain⟨nm,bs,mro,ns,qn,hd,sn,sub,ab,col,del⟩:=cd;dsimp only at hm hdel hdict;subst hm hdel hdict;have hsl:sl = #[k0,k1,k2,k3,some (.builtin "ValueError.__new__"),k5]:=by
    obtain⟨l⟩:=sl;simp only at hs;rw[hs]
   subst hsl;exact⟨nm,qn,ns,bs,bm,sn,sub,ab,col,dd,k0,k1,k2,k3,k5,ho,ht⟩
  ·cases q
 ·cases q
structure V3(P:Program)(w:World)(K:PySem.W.Frag)(mg:Str→Option Value)(base:Heap)(k:Nat)(f C:Addr)(y:Str):Prop where
 ex:∃fd ps,FnOk P w K mg base (L2.CX P w) k f fd ps (n5 K C y)∧Binds K fd ps []
structure vU(K:PySem.W.Frag)(C fI:Addr)(y:Str):Prop where
 ox:OexC K C
 ini:PySem.W.findIn K (.ref C) "__init__" = some (some (.ref fI))
 ty:PySem.W.typeIn K (.ref fI)=some (.type "function")
 no:PySem.W.findIn K (.ref C) y=some none
def cC(l:List (Addr×Bool)):EV→Mem→Res EV:=fun v M=>match v with
 |.exc C=>(match l.lookup C with
  |some b=>.ok (.bl b) M
  |none=>.bad)
 |.exf C _ _=>(match l.lookup C with
  |some b=>.ok (.bl b) M
  |none=>.bad)
 |_=>.bad
def tK(l:List (Addr×Bool)):Fn:=fun xs M=>match xs with
 |[x,_]=>cC l x M
 |_=>.bad
def Q5(H:Hp)(C a:Addr):Prop:=∃o,H a=some (.frz o (.own 0))∧(R4 C o∨∃d fs,Q4 C d o∧H d=some (.xd fs))
theorem TZ{X:Cx}{pins:List (Addr×Obj)}{σ:L2.St}{H:Hp}{s:Shared}{C a:Addr}(I:L2.Inv X pins σ H s)(h:Q5 H C a):∃o od,PySem.W.InstAt s.heap a o C od:=by
 obtain⟨o,e,h|⟨d,fs,⟨h1,h2,vs,h3⟩,hd⟩⟩:=h
 ·exact⟨o,none,W2 (I.hok a _ e).1 h⟩
 ·have hx:ObjOk X.prog X.w H s.heap d (.xd fs):=I.hok d _ hd
  obtain⟨mA,hns,hr⟩:=hx;obtain⟨od,ho,_⟩:=lookIn_ns hns;exact⟨o,some od,(I.hok a _ e).1,h1,by unfold PySem.W.notCls;rw[h3] <;> rfl,by rw[h2];exact ho⟩
def VR(P:Value→Prop)(l:List (Addr×Bool)):List V→Hp→VK→Prop:=fun xs H Q=>∃(c:V) (a:Addr) (C:Addr) (b:Bool),xs = [.ref a,c]∧(∀u,RelV c u→P u)∧Q5 H C a∧l.lookup C=some b∧Q (.bl b) H
theorem TX{K:PySem.W.Frag}{C:Addr}(k:ExcC K C):(PySem.W.clsIn K C).isSome=true:=by
 obtain⟨cd,hc,_⟩:=PySem.W.any_some k.hd;rw[hc];rfl
section
variable{X:Cx}{W:WX}
theorem TY{G:Gr}{ρ:Nat→Addr}{M:Mem}{H:Hp}{y:EV}{v:V}{l:List (Addr×Bool)}{b:EV}{M':Mem}(r:RV G.K ρ M.length H y v)(e:cC l y M = .ok b M'):M'=M∧∃C bb a,b = .bl bb∧l.lookup C=some bb∧v = .ref a∧Q5 H C a:=by
 unfold cC at e;cases y with
 |exc C=>
  dsimp only at e;cases q2:l.lookup C with
  |none=>rw[q2]at e;cases e
  |some bb=>
   rw[q2]at e;cases e;unfold RV at r;obtain⟨a,o,rfl,h1,h2⟩:=r;exact⟨rfl,C,bb,a,rfl,q2,rfl,o,h1,.inl h2⟩
 |exf C y x=>
  dsimp only at e;cases q2:l.lookup C with
  |none=>rw[q2]at e;cases e
  |some bb=>
   rw[q2]at e;cases e;unfold RV at r;obtain⟨a,o,d,u,rfl,h1,h2,h3,_⟩:=r;exact⟨rfl,C,bb,a,rfl,q2,rfl,o,h1,.inr ⟨d,_,h3,h2⟩⟩
 |_=>cases e
theorem S8{l:List (Addr×Bool)}{y:EV}{M:Mem}:cC l y M = .bad∨∃b,cC l y M = .ok (.bl b) M:=by
 unfold cC;cases y with
 |exc C=>
  dsimp only;cases l.lookup C with
  |none=>exact .inl rfl
  |some b=>exact .inr ⟨b,rfl⟩
 |exf C _ _=>
  dsimp only;cases l.lookup C with
  |none=>exact .inl rfl
  |some b=>exact .inr ⟨b,rfl⟩
 |_=>exact .inl rfl
theorem zDH{D:Addr}{l:List (Addr×Bool)}(hl:∀q∈l,ExcC X.K q.1∧PySem.W.kitOne X.K (.ref q.1) (.ref D)=some q.2):CallR X (.builtin "isinstance") (VR (fun u=>u = .ref D) l):=fun pins s σ H xs us Q I r h=>by
 obtain⟨c,a,C,b,rfl,hc,hA,hb,q⟩:=h;cases r with
 |cons r1 r2=>
  cases r2 with
  |cons r2 r3=>
   cases r3;have e2:=hc _ r2;subst e2;cases(show _=Value.ref a from r1);obtain⟨o,od,ia⟩:=TZ I hA;obtain⟨k1,k2⟩:=hl _ (lookup_mem hb);exact PySem.W.kia_one (PySem.W.kitx_exc (TX k1) k1.hg k1.hk k1.hs k1.ha k1.hn k1.ht k1.hm) I.kIn ia k2 (fun z=>nomatch z) fun tk=>⟨.bl b,H,I.tok tk,rfl,q⟩
theorem j9{D:Addr}{l:List (Addr×Bool)}{x:Str}{p p2 pos:Pos}{e:Expr}{fe:FE}(hl:∀q∈l,ExcC X.K q.1∧PySem.W.kitOne X.K (.ref q.1) (.ref D)=some q.2)(he:SE X W e fe)(hmx:X.mg x=some (.ref D))(hm:X.mg "isinstance" = none)(RR:Gl X x:=by rfl)(hg:Gl X "isinstance":=by rfl)
  (hs:starEach [e,.Name x p2] X.env=(false,eval e X.env) :: starEach [.Name x p2] X.env:=by rfl) (hs2:starEach [.Name x p2] X.env=(false,eval (.Name x p2) X.env) :: starEach [] X.env:=by rfl) (hpl:(backTo pos (starEach [.Name x p2] X.env)).any (·.1)=false:=by rfl)
  (hdx:(x == ("__debug__" : Str))=false:=by decide):SE X W (.Call (.Name "isinstance" p) [e,.Name x p2] [] pos) (e1 (cC l) fe):=by
 obtain⟨t,h1,h2⟩:=bC he (bC (sGR RR hmx hdx) bW hs2) hs;refine⟨_,pe_callB (zDH hl) hg hm (by decide +kernel) h1 (by decide) (by decide) hs hpl,fun ρ σe σ M H Q rs rp h=>?_⟩;refine h2 ρ σe σ M H _ rs rp (bI.bind (R:=fun K ρ n H=>aZ K ρ n H) (R':=fun K ρ n H=>RV K ρ n H) (Q:=Q) (g:=fun xs M=>tK l xs M) ?_ fun v M1 ρ1 H1 v1 ev a bB r k=>?_)
 ·have:(a8 fe (a8 (eC (.adr D)) bJ) σe M).bind (fun xs M=>tK l xs M)=e1 (cC l) fe σe M:=by
   unfold a8 e1;cases fe σe M <;> rfl
  rw[this];exact h
 ·unfold tK at k
  split at k
  ·rename_i y z
   rcases S8 (l:=l) (y:=y) (M:=M1)with q|⟨b,q⟩
   ·rw[q]at k;exact k.elim
   ·rw[q]at k
    unfold aZ aZ aZ at r;obtain⟨u1,s1,rfl,c1,u2,s2,rfl,c2,rfl⟩:=r;obtain⟨_,C,bb,a',e1,e2,rfl,hA⟩:=TY c1 q;cases e1;have ez:z = .adr D:=by
     unfold a8 at ev;cases qf:fe σe M with
     |bad=>rw[qf]at ev;cases ev
     |err _ _=>rw[qf]at ev;cases ev
     |ok v0 M0=>
      rw[qf]at ev;have ev:Res.ok [v0,.adr D] M0=Res.ok [y,z] M1:=ev;injection ev with e1 e2
      injection e1 with _ e3
      injection e3 with e4 _
      exact e4.symm
    subst ez;unfold RV at c2;subst c2;exact⟨.ref D,a',C,b,rfl,fun u ru=>ru,hA,e2,D9 k bB⟩
  ·exact k.elim
end
section
variable{X:Cx}{W:WX}
def o4(l:List Addr)(y:Str):EV→Mem→Res EV:=fun v M1=>match v with
 |.exf C z x=>if z=y∧C∈l then .ok x M1 else .bad
 |_=>.bad
theorem DT{l:List Addr}{y:Str}{e:Expr}{fe:FE}{pos:Pos}(hl:∀C∈l,XfC X.K C∧PySem.W.findIn X.K (.ref C) y=some none)(he:SE X W e fe)(hb:attributeBase e y X.env (eval e X.env)=eval e X.env:=by rfl):SE X W (.Attribute e y pos) (e1 (o4 l y) fe):=by
 obtain⟨t,h1,h2⟩:=he;refine⟨fun σ H Q=>t σ H fun x H1=>∃(a d C:Addr) (o:Obj) (u:V),x = .ref a∧H1 a=some (.frz o (.own 0))∧H1 d=some (.xd [(y,u)])∧Q4 C d o∧C∈l∧Q u H1,⟨fun pins s σ H Q I h=>?_⟩,fun ρ σe σ M H Q rs rp h=>?_⟩
 ·refine attr_of hb (thn (h1.run pins s σ H _ I h) fun w s1 hh=>?_)
  obtain⟨x,H1,I1,rx,a,d,C,o,u,ex,ha,hd,⟨z1,z2,vs,z3⟩,hC,q⟩:=hh;subst ex;obtain rfl:w=Value.ref a:=rx;obtain⟨T,hno⟩:=hl C hC;have hx:ObjOk X.prog X.w H1 s1.heap d (.xd [(y,u)]):=I1.hok d _ hd;obtain⟨mA,hns,hr⟩:=hx;obtain⟨od,ho,hlk⟩:=lookIn_ns hns;obtain⟨uv,hu,ru⟩:=RelO.some_of (v:=u) (o:=mA y) (by
   have:=hr y;simpa[List.lookup]using this)
  have J:PySem.W.InstAt s1.heap a o C (some od):=⟨(I1.hok a _ ha).1,z1,by unfold PySem.W.notCls;rw[z3] <;> rfl,by rw[z2];exact ho⟩;exact HandSPX.exc_get I1.kIn J T.ga T.gg T.exC (PySem.W.findObj_own T.hdC hno rfl (by rw[hlk,hu])) (handed_of ru) ⟨u,H1,I1.tok _,ru,q⟩
 ·refine h2 ρ σe σ M H _ rs rp (bI.bind h fun v M1 ρ1 H1 v1 _ a bB r k=>?_)
  unfold o4 at k;cases v with
  |exf C z x=>
   dsimp only at k;by_cases c:z=y∧C∈l
   ·rw[if_pos c]at k
    obtain⟨rfl,hC⟩:=c;unfold RV at r;obtain⟨a',o,d,u,rfl,e1,e2,e3,e4⟩:=r;exact⟨a',d,C,o,u,rfl,e1,e2,e3,hC,bI.ok0 (R:=fun K ρ n H=>RV K ρ n H) k bB e4⟩
   ·rw[if_neg c]at k;exact k.elim
  |_=>exact k.elim
end
section
variable{X:Cx}{W:WX}{o e:Expr}{fo fe:FE}{apos pos:Pos}
end
section
variable{X:Cx}{W:WX}
end
end WS
namespace L2
open PySem PySem.Spec PyProof.Rows
section
variable{X:Cx}{pos:Pos}
end
end L2
namespace WS
variable[bG]
open PySem PySem.Spec PyProof.Rows L2
open Classical
section
variable{X:Cx}{W:WX}{e:Expr}{fe:FE}{pos:Pos}
end
end WS
namespace PySem
open Sem (wp)
open AutoSeq1 (wpAny_loadPart')
end PySem
namespace L2
open PySem PySem.Spec PyProof.Rows
namespace zGx
section
variable{prog:Program}{w:World}{A:Around}{E:Value→Shared→Prop}{s:Shared}
end
end zGx
end L2
namespace L2
open PySem PySem.Spec PyProof.Rows
end L2
namespace WS
variable[bG]
open PySem PySem.Spec PyProof.Rows L2
open Classical
section
variable{G:Gr}{ρ:Nat→Addr}{M:Mem}{H:Hp}
end
section
variable{X:Cx}{W:WX}{e e2:Expr}{fa:FA}{p pos tpos:Pos}{elts:List Expr}{kk:Nat}
end
end WS
namespace L2
open PySem PySem.Spec PyProof.Rows
namespace zDK
section
variable{P:Program}{w:World}{A:Around}{E:Value→Shared→Prop}{s:Shared}{a:Addr}{l:List Str}
end
end zDK
end L2
namespace WS
variable[bG]
open PySem PySem.Spec PyProof.Rows L2
open Classical
section
variable{P:Program}{w:World}{A:Around}{E:Value→Shared→Prop}{s:Shared}
end
section
variable{P:Program}{w:World}{A:Around}{R:Result→Shared→Prop}{it:Addr}{fp wr:List Addr}{G:Array GenState→Array GenState→Prop}{n:Nat}{Pv:Nat→Value→Prop}{St:Nat→Shared→Prop}
end
section
variable{P:Program}{w:World}{A:Around}{E:Value→Shared→Prop}{s:Shared}
end
section
variable{P:Program}{w:World}{A:Around}{E:Value→Shared→Prop}{s:Shared}{a:Addr}{l:List Str}
end
section
variable{X:Cx}{W:WX}{a:Expr}{fa:FE}{p p2 q pos:Pos}
end
section
variable{X:Cx}{W:WX}
end
section
variable{X:Cx}{W:WX}
end
end WS
namespace WS
variable[bG]
open PySem PySem.Spec PyProof.Rows L2
section
variable{X:Cx}{W:WX}{e e':Expr}{f g:FE}{p p2 pos rpos:Pos}
end
end WS
namespace WS
variable[bG]
open PySem PySem.Spec PyProof.Rows L2
open Classical
section
variable{P:Program}{w:World}{A:Around}{E:Value→Shared→Prop}{s:Shared}
end
section
variable{X:Cx}{W:WX}{a:Expr}{fa:FE}{p p2 q pos:Pos}
end
section
variable{P:Program}{w:World}{A:Around}{E:Value→Shared→Prop}{s:Shared}{a:Addr}{l:List Str}
end
section
variable{X:Cx}{W:WX}
end
section
variable{P:Program}{w:World}{A:Around}{E:Value→Shared→Prop}{s:Shared}
end
section
variable{X:Cx}{W:WX}{a:Expr}{fa:FE}{p p2 q pos:Pos}
end
end WS
namespace PySem.SeqAt
open AutoSeq1 (wpAny_loadPart')
open MeetsSeq MeetsSeq2 MeetsSeq3 SeqRoads2
section
variable{prog:Program}{w:World}
variable{A:Around}{E:Value→Shared→Prop}{s:Shared}
end
end PySem.SeqAt
namespace WS
variable[bG]
open PySem PySem.Spec PyProof.Rows L2
open Classical
section
variable{X:Cx}{W:WX}{pins:List (Addr×Obj)}{σ:L2.St}{H:Hp}{s:Shared}{ρ:Nat→Addr}{M:Mem}
end
section
variable{X:Cx}{W:WX}
end
end WS
namespace PySem
open Sem (wp)
section
variable{X:Nat→Option GenState}{G' G:Array GenState}
end
end PySem
namespace L2
open PySem PySem.Spec PyProof.Rows GenW
end L2
namespace PySem
open Sem (wp)
section
variable{M:Model}{A:Around}{Φ:End→Shared→Prop}{c:Code}{fs:List Frame}{s:Shared}
end
section
variable{M:Model}{A:Around}{Φ:End→Shared→Prop}{c:Code}{fs:List Frame}{s:Shared}{env:Env}
 {K:Flow→Sem Fin} {J:Value→Sem Fin} {gd:Bool→Bool} {lv:List Value→List Value}
end
section
variable{prog:Program}{w:World}{A:Around}{Φ:End→Shared→Prop}{fs:List Frame}{s:Shared}{env:Env}
end
end PySem
namespace PySem
end PySem
namespace WS
variable[bG]
open PySem PySem.Spec PyProof.Rows L2 GenW
open Classical
inductive wB where
 |fin (M:Mem)|yld (x:EV) (M:Mem) (k:Mem→wB)|bad
structure wC where
 P:Program
 w:World
 K:PySem.W.Frag
 mg:Str→Option Value
 base:Heap
 N:List Str
 qual:Str
 sc:Scope
 f:Addr
 cd:Value
 A:Around
 outer:List Env
 n0:Nat
 s00:Shared
 a:Addr
 g:Nat
 go:Obj
structure WJ where
 s:Shared
 ρ:Nat→Addr
 M:Mem
 H:Hp
 cp:List (Addr×Obj)
 ld:List Nat
structure Kt where
 nx:bA→Mem→wB
 bk:bA→Mem→wB:=fun _ _=>.bad
 ct:bA→Mem→wB:=fun _ _=>.bad
section
variable{X:Cx}{pins:List (Addr×Obj)}{σ:L2.St}{H:Hp}{s s1:Shared}
end
section
variable{X:Cx}{pins:List (Addr×Obj)}{σ:L2.St}{H:Hp}{s:Shared}
end
section
variable{C:wC}{θ θ₂:WJ}{ip:List (Addr×Obj)}{sl:List (Nat×GenState)}{s s1:Shared}{σ σ1:L2.St}{σe σe1:bA}{ρ ρ1:Nat→Addr}{M M1:Mem}{H H1:Hp}
end
section
variable{C:wC}{st:Stmt}{ss:List Stmt}{pos yp:Pos}
end
section
variable{α:Type}{M:Model}{A:Around}{t:Sem α}{Q:α→Shared→Prop}{E:Value→Shared→Prop}{s s':Shared}
end
section
variable{C:wC}{pos:Pos}
end
section
variable{C:wC}{θ₂:WJ}
end
section
variable{X:Cx}{pins:List (Addr×Obj)}{σ:L2.St}{s s1:Shared}{ρ ρ1:Nat→Addr}{M M1:Mem}{H H1:Hp}
end
section
variable{X:Cx}{pins:List (Addr×Obj)}{σ:L2.St}{s:Shared}{ρ:Nat→Addr}{M M1:Mem}{H:Hp}
end
section
variable{C:wC}{pos:Pos}
end
section
variable{X:Cx}{pins:List (Addr×Obj)}{σ:L2.St}{s:Shared}{ρ ρ':Nat→Addr}{M M':Mem}{H H':Hp}
end
section
variable{X:Cx}{W:WX}
end
section
variable{X:Cx}{W:WX}
end
section
variable{X:Cx}{W:WX}{pos:Pos}
end
section
variable{X:Cx}{W:WX}{f:Addr}{k n:Nat}{m:List EV→Mem→wB}{x:Str}{e:Expr}{es:List Expr}{fa:FA}{p pos:Pos}
end
end WS
namespace WS
variable[bG]
open PySem PySem.Spec PyProof.Rows L2
open Classical
section
open AutoSeq1 (wpAny_loadPart')
open MeetsSeq MeetsSeq2 MeetsSeq3 SeqRoads2 PySem.SeqAt
variable{prog:Program}{w:World}
end
section
variable{X:Cx}{W:WX}{pins:List (Addr×Obj)}{σ:L2.St}{ρ:Nat→Addr}{M:Mem}{H:Hp}{s:Shared}
end
section
variable{X:Cx}{W:WX}
end
section
variable{X:Cx}{W:WX}{C:Addr}{y:Str}{pos tpos:Pos}{o value:Expr}{i:Nat}{fe:FE}
end
section
variable{X:Cx}{W:WX}
end
section
variable{X:Cx}{W:WX}
end
end WS
namespace PySem.SeqAt
open AutoSeq1 (wpAny_loadPart')
open MeetsSeq MeetsSeq2 MeetsSeq3 SeqRoads2
section
variable{prog:Program}{w:World}
variable{A:Around}{E:Value→Shared→Prop}{s:Shared}
end
end PySem.SeqAt
namespace WS
variable[bG]
open PySem PySem.Spec PyProof.Rows L2
open Classical
section
variable{X:Cx}{W:WX}{pins:List (Addr×Obj)}{σ:L2.St}{H:Hp}{s:Shared}{ρ:Nat→Addr}{M:Mem}
end
section
variable{X:Cx}{W:WX}
end
section
variable{X:Cx}
end
section
variable{X:Cx}{W:WX}{vx tg iter:Expr}{ifs:List Expr}{scope:Scope}{own:List (Str×Nat)}{pos p q:Pos}{fi:FI}{put:eA}{ft:FT}{fv:FE}
end
section
variable{X:Cx}{W:WX}{pins:List (Addr×Obj)}{σ:L2.St}{ρ:Nat→Addr}{M:Mem}{H:Hp}{s:Shared}
end
section
variable{X:Cx}{W:WX}
end
section
variable{X:Cx}{e:Expr}{te:TE}{p p2 pos pos2:Pos}
end
section
variable{X:Cx}{W:WX}{e:Expr}{f:FE}{p p2 pos pos2:Pos}
end
end WS
namespace L2
open PySem PySem.Spec PyProof.Rows
end L2
namespace WS
variable[bG]
open PySem PySem.Spec PyProof.Rows L2
open Classical
section
variable{X:Cx}{W:WX}{f g:FE}{pos:Pos}
end
section
variable{X:Cx}{W:WX}
end
section
variable{X:Cx}{W:WX}{pins:List (Addr×Obj)}{σ:L2.St}{ρ:Nat→Addr}{M:Mem}{H:Hp}{s:Shared}
end
end WS
namespace WS
open PySem PySem.Spec PyProof.Rows PySem.HandSPX
section
variable{prog:Program}{w:World}{M:Model}{A:Around}{E:Value→Shared→Prop}{R:Result→Shared→Prop}{hp:Heap}{gs:Array GenState}{dr:Drawn}{tk:Nat}{os:OsState}
variable{nm qn:Str}{C N:Addr}{bs bm bmB:List Value}{hdct:Bool}{sn:List Str}{sub:List Value}{ab:Bool}{col:Option Bool}{dd:Option Addr}{k0 k1 k2 k3 k5:Option Value}{B newId initId:String}{kv:List (Str×Value)}
theorem W8(fx:ExcBaseFacts B newId initId bmB)(same:∀Y:String,bm.contains (.type Y)=bmB.contains (.type Y)){Q:Unit→Shared→Prop}(at_:hp.get? C=some (excClassObj nm qn C N bs bm hdct sn sub ab col dd k0 k1 k2 k3 k5 newId))(q:Q () ⟨hp,gs,dr,tk,os⟩):
  wpAny M A (checkBuiltinCall newId ⟨[.ref C],kv⟩) Q E ⟨hp,gs,dr,tk,os⟩:=by
 have has:(Value.ref C :: bm).contains (.type B)=true:=by rw[List.contains_cons,same,fx.hasB,Bool.or_true]
 have star:=fx.noStar;simp only[checkBuiltinCall,fx.newKind,fx.newSplit,fx.newRow]
 repeat (first
  |refine wpAny_loadPart_at at_ ?_
  |(refine wpAny_isSubtype_exc at_ ?_;rw[has])
  |refine wpAny_staticBase_exc at_ ?_
  |refine wpAny_madeBy_exc at_ ?_
  |simp only[bne_self_eq_false,Bool.false_eq_true,if_false]
  |wp_step)
 exact q
theorem zEO(fx:ExcBaseFacts B newId initId bmB)(same:∀Y:String,bm.contains (.type Y)=bmB.contains (.type Y))(at_:hp.get? C=some (excClassObj nm qn C N bs bm hdct sn sub ab col dd k0 k1 k2 k3 k5 newId))
  (q:R (.ok (.ret (.ref (hp.objs.size+1)))) ⟨(hp.push (PySem.W.kdv_tup [])).push (excO C hp.objs.size),gs,dr,tk,os⟩):codeAny (model prog w) A (.builtin newId ⟨[.ref C],kv⟩) R ⟨hp,gs,dr,tk,os⟩:=by
 have ends:=fx.ends;have isB:(Value.ref C :: bm).contains (.type B)=true:=by rw[List.contains_cons,same,fx.hasB,Bool.or_true]
 have noA:(Value.ref C :: bm).contains (.type "AttributeError")=false:=by rw[List.contains_cons,same,fx.noAttr];rfl
 have noN:(Value.ref C :: bm).contains (.type "NameError")=false:=by rw[List.contains_cons,same,fx.noName];rfl
 refine PySem.codeAny_builtinAt fx.entry ?_;unfold Builtin.«BaseException.__new__»;refine PySem.wpAt_bind ?_;show PySem.wpAt _ _ _ (stack >>= _) _ _ _;refine PySem.wpAt_bind (PySem.wpAt_stack fun top under=>PySem.wpAt_of_wpAny ?_)
 wp_walk
 refine PySem.wpAt_of_wpAny ?_;rw[fx.owner]
 repeat (first
  |with_reducible refine wpAny_madeHere_exc fx.canon at_ ?_
  |with_reducible refine wpAny_loadPart_at at_ ?_
  |(with_reducible refine wpAny_isSubtype_exc at_ ?_;first|rw[isB]|rw[noA]|rw[noN])
  |wp_step)
 show R _ _;rw[Heap.size_push];exact q
theorem W7(fx:ExcBaseFacts B newId initId bmB)(same:∀Y:String,bm.contains (.type Y)=bmB.contains (.type Y)){fI:Addr}{Q:Fin→Shared→Prop}(at_:hp.get? C=some (excClassObj nm qn C N bs bm hdct sn sub ab col dd k0 k1 k2 k3 k5 newId))
  (li:PySem.W.Looks (model prog w) hp (typeLookup (.ref C) "__init__") (some (.ref fI))) (lb:∀self,PySem.W.Looks (model prog w) hp (bindSpecial (.ref fI) self) (.ref fI,[self]))
  (q:codeAny (model prog w) A (.call (.ref fI) ⟨[.ref (hp.objs.size+1)],kv⟩) (fun r s'=>match r with
   |.ok (.ret v)=>v = .none∧Q (.done (.ret (.ref (hp.objs.size+1)))) s'
   |.ok _=>False
   |.error e=>E e s') ⟨(hp.push (PySem.W.kdv_tup [])).push (excO C hp.objs.size),gs,dr,tk,os⟩):
  wpAny (model prog w) A (Builtin.«type.__call__» ⟨[.ref C],kv⟩) Q E ⟨hp,gs,dr,tk,os⟩:=by
 repeat (first
  |with_reducible refine wpAny_loadPart_at at_ ?_
  |with_reducible refine wpAny_madeBy_exc at_ ?_
  |wp_step)
 refine codeAny_call_builtin_code (Code.quiet_builtin _ fx.quiet) (W8 fx same at_ (zEO fx same at_ ?_));show wpAny _ _ _ _ _ _;have up:∀b o,hp.get? b=some o→((hp.push (PySem.W.kdv_tup [])).push (excO C hp.objs.size)).get? b=some o:=fun b o z=>Heap.get?_push_of_some _ (Heap.get?_push_of_some _ z);have at2:=up _ _ at_;have here:((hp.push (PySem.W.kdv_tup [])).push (excO C hp.objs.size)).get? (hp.objs.size+1)=some (excO C hp.objs.size):=by heap_get
 have own:(Value.ref C :: bm).contains (.ref C)=true:=by simp
 have li2:=li.keeps up;have lb2:=(lb (.ref (hp.objs.size+1))).keeps up;unfold isInstance
 repeat (first
  |with_reducible refine wpAny_loadPart_at here ?_
  |(with_reducible refine wpAny_isSubtype_exc at2 ?_;rw[own])
  |wp_step)
 show wpAny _ _ (typeLookup (.ref C) _) _ _ _;refine li2.at (wpAny_holding (wpAny_bind (lb2.at ?_)));refine wpAny_bind (wpAny_call (codeAny_mono q fun r s' z=>?_));rcases r with e|(v|_|_|_)
 ·exact z
 ·exact z.elim
 ·exact z.elim
 ·exact z.elim
 ·obtain⟨rfl,z⟩:=z
  first
   |exact wpAny_pure (wpAny_pure z)
   |(wp_walk;exact z)
theorem zCN(fx:ExcBaseFacts B newId initId bmB)(same:∀Y:String,bm.contains (.type Y)=bmB.contains (.type Y)){fI:Addr}(at_:hp.get? C=some (excClassObj nm qn C N bs bm hdct sn sub ab col dd k0 k1 k2 k3 k5 newId))
  (li:PySem.W.Looks (model prog w) hp (typeLookup (.ref C) "__init__") (some (.ref fI))) (lb:∀self,PySem.W.Looks (model prog w) hp (bindSpecial (.ref fI) self) (.ref fI,[self]))
  (q:codeAny (model prog w) (A.under (.builtin "type.__call__" ⟨[.ref C],kv⟩)) (.call (.ref fI) ⟨[.ref (hp.objs.size+1)],kv⟩) (PySem.W.InitBack (hp.objs.size+1) R) ⟨(hp.push (PySem.W.kdv_tup [])).push (excO C hp.objs.size),gs,dr,tk,os⟩):
  codeAny (model prog w) A (.call (.ref C) ⟨[],kv⟩) R ⟨hp,gs,dr,tk,os⟩:=by
 have f1:=tc_lookup;have f2:=tc_bind (.ref C);have ty:(⟨hp,gs,dr,tk,os⟩:Shared).TypeIs (.ref C) "type":=⟨_,at_,rfl⟩;have f3:=tc_sub;refine codeAny_of_tree ?_;show wpAny _ _ (callAny (.ref C) _) _ _ _
 repeat (any_goals (first
  |assumption
  |with_reducible refine wpAny_loadPart_at at_ ?_
  |wp_step))
 refine⟨rfl,codeAny_call_builtin_at (Code.quiet_builtin _ (by decide +kernel)) entry_typeCall ?_⟩;have chk:∀{Q:Unit→Shared→Prop} {E:Value→Shared→Prop} {M:Model} {A:Around},Q () ⟨hp,gs,dr,tk,os⟩→wpAny M A (checkBuiltinCall "type.__call__" ⟨[.ref C],kv⟩) Q E ⟨hp,gs,dr,tk,os⟩:=fun q=>by
  simp only[checkBuiltinCall,tc_kind,tc_split]
  repeat (any_goals (first
   |assumption
   |with_reducible refine wpAny_loadPart_at at_ ?_
   |with_reducible refine wpAny_onRaise ?_
   |with_reducible refine wpAny_map ?_
   |wp_step))
 refine chk (W7 fx same at_ li lb ?_);refine codeAny_mono q fun r s' z=>?_;rcases r with e|(v|_|_|_)
 all_goals exact z
end
end WS
namespace WS
open PySem PySem.Spec PyProof.Rows L2
section
variable{X:L2.Cx}{e:Expr}{pos p:Pos}
theorem OP{t:L2.St→Hp→XK→Prop}(he:PMk X e t):PE X e (fun σ H Q=>t σ H fun cls d H'=>∀(a:Addr) (oe:Obj) (vs:Array Value),H' a=none→Zc cls d oe→oe.data = .fields vs→Q (.ref a) (upd H' a (.frz oe (.own 0)))):=by
 refine⟨fun pins s σ H Q I h=>wpAny_mono (he pins s σ H _ I h) (fun u s1 hu=>?_) fun _ _ z=>z⟩;obtain⟨a,oe,vs,sI,H',cls,d,rfl,J,up,new,at_,hz,hd,-,no,so,bare,-,q⟩:=hu;have J2:=J.laidN (t':=s1.toks) (h':=s1.heap) (o:=.frz oe (.own 0)) up new no ⟨at_,oe,at_⟩;exact⟨.ref a,_,⟨J2.ok,so.trans J2.os,bare,J2.base,J2.loc,J2.cell,J2.free,J2.freeC,J2.pin,J2.hok,J2.len⟩,rfl,q a oe vs no hz hd⟩
theorem zA1{x y:Str}{C fI:Addr}{k:Nat}{fd:FuncData}{ps ks:List Str}{g:List Value→List Value→List Value}{gV:List V→List V→List V}{kws:List Keyword}{tz:TA}(T:OexC X.K C)(iC:PySem.W.findIn X.K (.ref C) "__init__" = some (some (.ref fI)))(tI:PySem.W.typeIn X.K (.ref fI)=some (.type "function"))
  (F1:FnOk X.prog X.w X.K X.mg X.base (L2.CX X.prog X.w) k fI fd ps (n5 X.K C y)) (hb:KBn X.K fd ps 1 ks g gV) (l1:ks.length=1) (gz:∀v z,gV [v] [z] = [v,z]) (hr:Room (k+1) X.A) (hg:Gl X x) (hm:X.mg x=some (.ref C)) (hk:PK X kws tz)
  (hall:(backToKw pos (keywordEach kws X.env)).all (·.1.isSome)=true:=by rfl) (hks:(backToKw pos (keywordEach kws X.env)).filterMap (·.1)=ks:=by rfl) (hdb:(x == ("__debug__" : Str))=false:=by decide)
  (hpl:((backTo pos (starEach [] X.env)).any (·.1)||(backToKw pos (keywordEach kws X.env)).any (·.1.isNone))=false:=by rfl):
  PMk X (.Call (.Name x p) [] kws pos) (tMkO C (n5 X.K C y) [] tz):=by
 intro pins s σ H Q I h;obtain⟨nm,qn,N,bs,bm,sn,sub,ab,col,dd,k0,k1,k2,k3,k5,at_,ve⟩:=T.cls;refine wpAny_Call_Name_kw (ld_glob I hg hm ?_ hdb);refine PySem.W.callWith_KW0 (h₀:=X.base) I.ok.mod.kin T.kC hall ?_ hpl;refine thn (hk.run pos pins s σ H _ I h) fun ws s1 ⟨zs,H1,I1,rz,hz,q1⟩=>⟨I1.kIn,?_⟩;rw[hks];obtain⟨hp,gs,dr,tk,os⟩:=s1;have big:hp.objs.size≤hp.objs.size+1:=Nat.le_succ _;have no:H1 (hp.objs.size+1)=none:=I1.hok.fresh big;have hq:=q1 (hp.objs.size+1) no;rw[List.append_nil]at hq;obtain⟨z,rfl⟩:∃z,zs = [z]:=by
  obtain⟨_,r,e,_⟩:=hq;injection e with _ e
  exact⟨r,e⟩
 have lw:ws.length=ks.length:=by rw[l1,← rz.length];rfl
 have up:∀b o,hp.get? b=some o→((hp.push (PySem.W.kdv_tup [])).push (PySem.HandSPX.excO C hp.objs.size)).get? b=some o:=fun b o w=>Heap.get?_push_of_some _ (Heap.get?_push_of_some _ w);have here:((hp.push (PySem.W.kdv_tup [])).push (PySem.HandSPX.excO C hp.objs.size)).get? (hp.objs.size+1)=some (PySem.HandSPX.excO C hp.objs.size):=by heap_get
 have I2:Inv X pins σ (upd H1 (hp.objs.size+1) (exo (hp.objs.size+1) C none)) ⟨(hp.push (PySem.W.kdv_tup [])).push (PySem.HandSPX.excO C hp.objs.size),gs,dr,tk,os⟩:=
  I1.laid (t':=tk) (a:=hp.objs.size+1) (o:=exo (hp.objs.size+1) C none) (h':=(hp.push (PySem.W.kdv_tup [])).push (PySem.HandSPX.excO C hp.objs.size)) up big (exo_ok here)
 have r2:Vals (gV [.ref (hp.objs.size+1)] [z]) (g [.ref (hp.objs.size+1)] ws):=hb.rel (.cons rfl .nil) rz;rw[gz]at r2;refine wpAny_call (zCN F.excBase_ValueError (fun Y=>PySem.HandSPX.refsVE_contains Y bm ve) (I1.kIn _ _ at_) (PySem.W.looks_findIn I1.kIn iC) (fun self=>PySem.W.bind_fn I1.kIn self tI)
  (codeAny_mono (F1.run _ X.stack _ _ ⟨[Value.ref (hp.objs.size+1)],ks.zip ws⟩ (g [Value.ref (hp.objs.size+1)] ws) _ _ (fun _ _ _=>False) (hr.make C [] (ks.zip ws)) (I2.env0.make C [] (ks.zip ws)) (hb.to _ [Value.ref (hp.objs.size+1)] ws I2.kIn rfl lw) r2 hq) fun r s' hq'=>?_))
 cases r with
 |error er=>exact(show False from by
   have hx:Passes (L2.CX X.prog X.w) X (fun _ _ _=>False):=fun pins σ H s e s' I c=>by
    obtain⟨a,B,H',cls,d,z1,fl,z2,ub,z3,z4,z5,z6⟩:=c;exact z6.elim
   exact absurd hq' (fun c=>by
    obtain⟨a,B,H',cls,d,z1,fl,z2,ub,z3,z4,z5,z6⟩:=c;exact z6.elim)).elim
 |ok fl=>
  cases fl with
  |ret u=>
   obtain⟨v,H2,os2,bare2,un2,hok2,rv,ev,d,fs,ea,ed,hd1,q2⟩:=hq';subst ev;obtain⟨h2,g2,d2,t2,os'⟩:=s';exact⟨rv,mk_end (raises_own T.exC T.tyC) I1 big up un2 hok2 os2 bare2 ea ed hd1 q2⟩
  |next=>exact hq'.elim
  |brk=>exact hq'.elim
  |cont=>exact hq'.elim
end
end WS
namespace WS
variable[bG]
open PySem PySem.Spec PyProof.Rows L2
open Classical
def iV(C:Addr)(f:FE):FE:=fun σ M=>(f σ M).bind fun _ M1=>.ok (.exc C) M1
def tQ(C:Addr)(y:Str):EV→Mem→Res EV:=fun v M1=>if p0 v=true then .ok (.exf C y v) M1 else .bad
def pY(C:Addr)(y:Str)(f:FE):FE:=fun σ M=>(f σ M).bind (tQ C y)
structure VI(P:Program)(w:World)(K:PySem.W.Frag)(mg:Str→Option Value)(base:Heap)(k:Nat)(f C:Addr)(y n:Str):Prop where
 ex:∃fd ps g gV,FnOk P w K mg base (L2.CX P w) k f fd ps (n5 K C y)∧KBn K fd ps 1 [n] g gV∧∀v z:V,gV [v] [z] = [v,z]
section
variable{X:L2.Cx}{W:WX}{C fI:Addr}{x y n:Str}{k:Nat}{e:Expr}{fe:FE}{p pos kpos:Pos}
theorem kT{bmB:List Value}{B newId initId:String}(F:ExcBaseFacts B newId initId bmB)(q:PySem.W.excIn X.K C bmB newId=true)(gC:X.mg x=some (.ref C))(kC:PySem.W.keepIn X.K (.ref C)=true)(r:Raises X (.ref C))(he:SE X W e fe)(hg:Gl X x:=by rfl)(hdb:(x == ("__debug__" : Str))=false:=by decide)
  (hs:starEach [e] X.env=(false,eval e X.env) :: starEach [] X.env:=by rfl) (hpl:(backTo pos (starEach [] X.env)).any (·.1)=false:=by rfl):SE X W (.Call (.Name x p) [e] [] pos) (iV C fe):=by
 obtain⟨t,h1,h2⟩:=bC he bW hs;refine⟨_,OP (pmk_ownA F q gC kC r hg h1 hdb hs hpl),fun ρ σe σ M H Q rs rp h=>?_⟩;refine h2 ρ σe σ M H _ rs rp (bI.bind (R:=fun K ρ n H=>aZ K ρ n H) (R':=fun K ρ n H=>RV K ρ n H) (Q:=Q) (g:=fun _ M=>.ok (.exc C) M) ?_ fun v M1 ρ1 H1 v1 ev a bB r k=>?_)
 ·have:(a8 fe bJ σe M).bind (fun _ M=>Res.ok (EV.exc C) M)=iV C fe σe M:=by
   unfold a8 bJ iV;cases fe σe M <;> rfl
  rw[this];exact h
 ·have l1:v.length=1:=by
   unfold a8 bJ at ev;cases qf:fe σe M with
   |bad=>rw[qf]at ev;cases ev
   |err _ _=>rw[qf]at ev;cases ev
   |ok v0 M0=>
    rw[qf]at ev;have ev:Res.ok [v0] M0=Res.ok v M1:=ev;injection ev with e1 _
    rw[← e1];rfl
  refine⟨by rw[r.length,l1];exact(by decide:1≤sizeLine),fun b oe vs no hz hd=>?_⟩;obtain⟨af,k8⟩:=vH bB no (.frz oe (.own 0));exact k ρ1 _ (.ref b) af k8 (by unfold RV;exact⟨b,oe,rfl,upd_same,hz.1,hz.2,vs,hd⟩)
theorem zAH{H:Hp}{a dx:Addr}{o o2:HO}(hne:dx≠a):(upd (upd H dx o) a o2) dx=some o:=by rw[upd_ne hne,upd_same]
theorem UV{ρ:Nat→Addr}{σ:L2.St}{M:Mem}{H:Hp}{Q:V→Hp→Prop}{v:EV}{v1:V}(T:vU X.K C fI y)(rp:RP (gr X) ρ M H)(r:RV (gr X).K ρ M.length H v v1)(k:bI (fun K ρ n H=>RV K ρ n H) (gr X) W σ ρ M H (tQ C y v M) Q):
  [v1].length≤1000∧∀a,H a=none→n5 X.K C y (.ref a :: ([v1] ++ [])) (upd H a (exo a C none))
   (fun u H2=>u = .non∧∃(d:Addr) (fs:List (Str×V)),H2 a=some (exo a C (some d))∧H2 d=some (exd d fs)∧H d=none∧∀(b:Addr) (oe:Obj) (vs:Array Value),(upd (del H2 a) d (.xd fs)) b=none→Zc (.ref C) (some d) oe→oe.data = .fields vs→Q (.ref b) (upd (upd (del H2 a) d (.xd fs)) b (.frz oe (.own 0)))) (fun _ _ _=>False):=by
 unfold tQ at k;by_cases c:p0 v=true
 ·rw[if_pos c]at k
  refine⟨by simp,fun a na=>⟨a,v1,rfl,T.ox,T.no,upd_same,?_,fun dx nd hne=>⟨rfl,dx,[(y,v1)],upd_same,zAH hne,?_,?_⟩⟩⟩
  ·rcases YU r c with⟨i,e1,e2⟩|⟨b,vs,e1,e2,e3⟩
   ·exact .inl ⟨i,e1,e2⟩
   ·exact .inr ⟨b,vs,e1,by rw[upd_ne (ne_of_none e2 na)];exact e2,e3⟩
  ·rw[upd_ne hne]at nd
   exact nd
  ·rw[upd_ne hne]at nd
   have eH:upd (del (upd (upd (upd H a (exo a C none)) dx (exd dx [(y,v1)])) a (exo a C (some dx))) a) dx (.xd [(y,v1)])=upd H dx (.xd [(y,v1)]):=by
    funext b
    by_cases hd:b=dx
    ·subst hd;rw[upd_same,upd_same]
    ·rw[upd_ne hd,upd_ne hd]
     by_cases ha:b=a
     ·subst ha;rw[del_same,na]
     ·rw[del_ne ha,upd_ne ha,upd_ne hd,upd_ne ha]
   rw[eH];intro b oe vs no hz hd;obtain⟨af,k8⟩:=vH rp nd (.xd [(y,v1)]);obtain⟨af2,lT⟩:=vH k8 no (.frz oe (.own 0));have hbd:dx≠b:=fun z=>by
    rw[← z,upd_same]at no;cases no
   have qE:=af.trans k8 af2;refine k ρ _ (.ref b) qE lT ?_;unfold RV;exact⟨b,oe,dx,v1,rfl,upd_same,by rw[upd_ne hbd,upd_same],⟨hz.1,hz.2,vs,hd⟩,r.carry (qE.carry rp)⟩
 ·rw[if_neg c]at k
  exact k.elim
theorem zAw:Passes (L2.CX X.prog X.w) X (fun _ _ _=>False):=fun pins σ H s e s' I c=>by
 obtain⟨a,B,H',cls,d,z1,fl,z2,ub,z3,z4,z5,z6⟩:=c;exact z6.elim
theorem sMkF(T:vU X.K C fI y)(F1:V3 X.prog X.w X.K X.mg X.base k fI C y)(hr:Room (k+1) X.A)(hm:X.mg x=some (.ref C))(he:SE X W e fe)(hg:Gl X x:=by rfl)(hdb:(x == ("__debug__" : Str))=false:=by decide)
  (he1:starEach [e] X.env=(false,eval e X.env) :: starEach [] X.env:=by rfl) (hpl:(backTo pos (starEach [] X.env)).any (·.1)=false:=by rfl):SE X W (.Call (.Name x p) [e] [] pos) (pY C y fe):=by
 obtain⟨t,h1,h2⟩:=he;obtain⟨fd,ps,F,b⟩:=F1;refine⟨_,OP (pmk_oex T.ox T.ini T.ty F hr b .nil zAw hg hm (pa_cons h1 pa_nil he1) hdb he1 hpl),fun ρ σe σ M H Q rs rp h=>?_⟩;exact h2 ρ σe σ M H _ rs rp (bI.bind (R:=fun K ρ n H=>RV K ρ n H) (R':=fun K ρ n H=>RV K ρ n H) (Q:=Q) (g:=tQ C y) h fun v M1 ρ1 H1 v1 _ a1 bB r k=>UV (W:=W) (σ:=σ) T bB r k)
theorem VQ(T:vU X.K C fI y)(F1:VI X.prog X.w X.K X.mg X.base k fI C y n)(hr:Room (k+1) X.A)(hm:X.mg x=some (.ref C))(he:SE X W e fe)(hg:Gl X x:=by rfl)(hdb:(x == ("__debug__" : Str))=false:=by decide)
  (hall:(backToKw pos (keywordEach [⟨some n,e,kpos⟩] X.env)).all (·.1.isSome)=true:=by rfl) (hks:(backToKw pos (keywordEach [⟨some n,e,kpos⟩] X.env)).filterMap (·.1) = [n]:=by rfl)
  (hpl:((backTo pos (starEach [] X.env)).any (·.1)||(backToKw pos (keywordEach [⟨some n,e,kpos⟩] X.env)).any (·.1.isNone))=false:=by rfl):SE X W (.Call (.Name x p) [] [⟨some n,e,kpos⟩] pos) (pY C y fe):=by
 obtain⟨t,h1,h2⟩:=he;obtain⟨fd,ps,g,gV,F,b,gz⟩:=F1;refine⟨_,OP (zA1 T.ox T.ini T.ty F b rfl gz hr hg hm (pk_cons h1 pk_nil) hall hks hdb hpl),fun ρ σe σ M H Q rs rp h=>?_⟩;exact h2 ρ σe σ M H _ rs rp (bI.bind (R:=fun K ρ n H=>RV K ρ n H) (R':=fun K ρ n H=>RV K ρ n H) (Q:=Q) (g:=tQ C y) h fun v M1 ρ1 H1 v1 _ a1 bB r k=>UV (W:=W) (σ:=σ) T bB r k)
end
section
variable{X:L2.Cx}{W:WX}
theorem YQ{T:String}{l:List (Addr×Bool)}(hl:∀q∈l,ExcC X.K q.1∧PySem.W.kitOne X.K (.ref q.1) (.type T)=some q.2):CallR X (.builtin "isinstance") (VR (fun u=>u = .type T) l):=fun pins s σ H xs us Q I r h=>by
 obtain⟨c,a,C,b,rfl,hc,hA,hb,q⟩:=h;cases r with
 |cons r1 r2=>
  cases r2 with
  |cons r2 r3=>
   cases r3;have e2:=hc _ r2;subst e2;cases(show _=Value.ref a from r1);obtain⟨o,od,ia⟩:=TZ I hA;obtain⟨k1,k2⟩:=hl _ (lookup_mem hb);exact PySem.W.kia_one (PySem.W.kitx_exc (TX k1) k1.hg k1.hk k1.hs k1.ha k1.hn k1.ht k1.hm) I.kIn ia k2 (fun z=>nomatch z) fun tk=>⟨.bl b,H,I.tok tk,rfl,q⟩
theorem YY{T:String}{l:List (Addr×Bool)}{x:Str}{p p2 pos:Pos}{e:Expr}{fe:FE}(hl:∀q∈l,ExcC X.K q.1∧PySem.W.kitOne X.K (.ref q.1) (.type T)=some q.2)(he:SE X W e fe)(hmx:X.mg x=none)(hvx:bootBuiltins x=some (.type T))(hm:X.mg "isinstance" = none)(RR:Gl X x:=by rfl)(hg:Gl X "isinstance":=by rfl)
  (hs:starEach [e,.Name x p2] X.env=(false,eval e X.env) :: starEach [.Name x p2] X.env:=by rfl) (hs2:starEach [.Name x p2] X.env=(false,eval (.Name x p2) X.env) :: starEach [] X.env:=by rfl) (hpl:(backTo pos (starEach [.Name x p2] X.env)).any (·.1)=false:=by rfl)
  (hnx:x≠"__name__":=by decide) (hdx:(x == ("__debug__" : Str))=false:=by decide):SE X W (.Call (.Name "isinstance" p) [e,.Name x p2] [] pos) (e1 (cC l) fe):=by
 obtain⟨t,h1,h2⟩:=bC he (bC (sTy RR hmx hvx hnx hdx) bW hs2) hs;refine⟨_,pe_callB (YQ hl) hg hm (by decide +kernel) h1 (by decide) (by decide) hs hpl,fun ρ σe σ M H Q rs rp h=>?_⟩;refine h2 ρ σe σ M H _ rs rp (bI.bind (R:=fun K ρ n H=>aZ K ρ n H) (R':=fun K ρ n H=>RV K ρ n H) (Q:=Q) (g:=fun xs M=>tK l xs M) ?_ fun v M1 ρ1 H1 v1 ev a bB r k=>?_)
 ·have:(a8 fe (a8 (eC (.ty T)) bJ) σe M).bind (fun xs M=>tK l xs M)=e1 (cC l) fe σe M:=by
   unfold a8 e1;cases fe σe M <;> rfl
  rw[this];exact h
 ·unfold tK at k
  split at k
  ·rename_i y z
   rcases S8 (l:=l) (y:=y) (M:=M1)with q|⟨b,q⟩
   ·rw[q]at k;exact k.elim
   ·rw[q]at k
    unfold aZ aZ aZ at r;obtain⟨u1,s1,rfl,c1,u2,s2,rfl,c2,rfl⟩:=r;obtain⟨_,C,bb,a',e1,e2,rfl,hA⟩:=TY c1 q;cases e1;have ez:z = .ty T:=by
     unfold a8 at ev;cases qf:fe σe M with
     |bad=>rw[qf]at ev;cases ev
     |err _ _=>rw[qf]at ev;cases ev
     |ok v0 M0=>
      rw[qf]at ev;have ev:Res.ok [v0,.ty T] M0=Res.ok [y,z] M1:=ev;injection ev with e1 e2
      injection e1 with _ e3
      injection e3 with e4 _
      exact e4.symm
    subst ez;unfold RV at c2;subst c2;exact⟨_,a',C,b,rfl,fun u ru=>by cases ru;rfl,hA,e2,D9 k bB⟩
  ·exact k.elim
end
structure pO(P:Program)(w:World)(K:PySem.W.Frag)(mg:Str→Option Value)(base:Heap)(k:Nat)(f C:Addr)(y n:Str):Prop where
 p:V3 P w K mg base k f C y
 k:VI P w K mg base k f C y n
theorem UY{P:Program}{w:World}{K:PySem.W.Frag}{mg:Str→Option Value}{base:Heap}{k:Nat}{f C:Addr}{y n:Str}{fd:FuncData}{ps:List Str}(F:FnOk P w K mg base (L2.CX P w) k f fd ps (n5 K C y))(b:Binds K fd ps [])(kb:KBn K fd ps 1 [n] (fun us ws=>pA [.me,.kw 0] us [] ws) (fun vs zs=>pA [.me,.kw 0] vs [] zs)):pO P w K mg base k f C y n:=
 ⟨⟨fd,ps,F,b⟩,⟨fd,ps,_,_,F,kb,fun v z=>rfl⟩⟩
end WS
namespace WS
open PySem PySem.Spec PyProof.Rows L2
open Classical
inductive XV where
 |non|bl (b:Bool)|int (i:Int)|str (x:Str)|tup (xs:List XV)|lst (xs:List XV)|bR (kvs:List (XV×XV))|ins (C:Addr) (fs:List (Str×XV))|adr (a:Addr)|obj (j:Nat) (C:Addr) (fs:List (Str×XV))|sl (xs:List Int)|exc (C:Addr)|exf (C:Addr) (y:Str) (t:XV)
section
variable(Z:Nat→Prop)(M:Mem)
mutual
def Dn:XV→EV→Prop
 |.non,v=>v = .non
 |.bl b,v=>v = .bl b
 |.int i,v=>v = .int i
 |.str i,v=>v = .str i
 |.adr i,v=>v = .adr i
 |.obj j C ts,v=>v = .ref j∧Z j∧∃xs,M[j]? = some (.ins C xs)∧lX ts xs
 |.sl i,v=>v = .sl i
 |.exc C,v=>v = .exc C
 |.exf C y t,v=>∃x,v = .exf C y x∧Dn t x
 |.tup ts,v=>∃xs,v = .tup xs∧a9 ts xs
 |.lst ts,v=>∃k,v = .ref k∧Z k∧∃xs,M[k]? = some (.lst xs)∧a9 ts xs
 |.bR ts,v=>∃k,v = .ref k∧Z k∧∃xs,(M[k]? = some (.bR xs)∨M[k]? = some (.cP xs))∧cJ ts xs
 |.ins C ts,v=>∃k,v = .ref k∧Z k∧∃xs,M[k]? = some (.ins C xs)∧lX ts xs
def a9:List XV→List EV→Prop
 |[],xs=>xs = []
 |t :: ts,xs=>∃x r,xs=x :: r∧Dn t x∧a9 ts r
def cJ:List (XV×XV)→List (EV×EV)→Prop
 |[],xs=>xs = []
 |t :: ts,xs=>∃y r,xs=y :: r∧mL t y∧cJ ts r
def mL:XV×XV→EV×EV→Prop
 |(a,b),y=>Dn a y.1∧Dn b y.2
def lX:List (Str×XV)→List (Str×EV)→Prop
 |[],xs=>xs = []
 |t :: ts,xs=>∃y r,xs=y :: r∧t_ t y∧lX ts r
def t_:Str×XV→Str×EV→Prop
 |(a,b),x=>x.1=a∧Dn b x.2
end
def bN(t:XV)(v:EV):Prop:=match t with
 |.lst ts=>∃k,v = .ref k∧∃xs,M[k]? = some (.lst xs)∧a9 Z M ts xs
 |.bR ts=>∃k,v = .ref k∧∃xs,(M[k]? = some (.bR xs)∨M[k]? = some (.cP xs))∧cJ Z M ts xs
 |.ins C ts=>∃k,v = .ref k∧∃xs,M[k]? = some (.ins C xs)∧lX Z M ts xs
 |t=>Dn Z M t v
def Nd(t:XV)(o:EO):Prop:=match t with
 |.lst ts=>∃xs,o = .lst xs∧a9 Z M ts xs
 |.bR ts=>∃xs,o = .bR xs∧cJ Z M ts xs
 |.ins C ts=>∃xs,o = .ins C xs∧lX Z M ts xs
 |_=>False
end
section
variable{Z Z' EE:Nat→Prop}{M M' M'':Mem}
theorem Dn.one:∀{t:XV} {v:EV},Dn Z M t v→bN Z M t v:=by
 intro t v h;cases t <;> first
  |exact h
  |(unfold Dn at h;obtain⟨k,e,_,h⟩:=h;exact⟨k,e,h⟩)
theorem Nd.one{t:XV}{o:EO}{k:Nat}(h:Nd Z M t o)(e:M[k]? = some o):bN Z M t (.ref k):=by
 cases t <;> first
  |exact h.elim
  |(obtain⟨xs,q,h⟩:=h;subst q;exact⟨k,rfl,xs,e,h⟩)
  |(obtain⟨xs,q,h⟩:=h;subst q;exact⟨k,rfl,xs,.inl e,h⟩)
theorem Nd.dn{t:XV}{o:EO}{k:Nat}(h:Nd Z M t o)(e:M[k]? = some o)(z:Z k):Dn Z M t (.ref k):=by
 cases t <;> first
  |exact h.elim
  |(obtain⟨xs,q,h⟩:=h;subst q;unfold Dn;exact⟨k,rfl,z,xs,e,h⟩)
  |(obtain⟨xs,q,h⟩:=h;subst q;unfold Dn;exact⟨k,rfl,z,xs,.inl e,h⟩)
def nY(o o':EO):Prop:=o'=o∨∃l,(o = .bR l∨o = .cP l)∧(o' = .bR l∨o' = .cP l)
def Kp(Z:Nat→Prop)(M M':Mem):Prop:=∀k o,Z k→M[k]? = some o→∃o',M'[k]? = some o'∧nY o o'
theorem nY.lst{xs:List EV}{o:EO}(h:nY (.lst xs) o):o = .lst xs:=by
 rcases h with h|⟨l,h|h,_⟩
 ·exact h
 ·cases h
 ·cases h
theorem nY.ins{C:Addr}{xs:List (Str×EV)}{o:EO}(h:nY (.ins C xs) o):o = .ins C xs:=by
 rcases h with h|⟨l,h|h,_⟩
 ·exact h
 ·cases h
 ·cases h
theorem nY.bR{xs:List (EV×EV)}{o:EO}(h:nY (.bR xs) o):o = .bR xs∨o = .cP xs:=by
 rcases h with h|⟨l,h|h,q⟩
 ·exact .inl h
 ·cases h;exact q
 ·cases h
theorem nY.cP{xs:List (EV×EV)}{o:EO}(h:nY (.cP xs) o):o = .bR xs∨o = .cP xs:=by
 rcases h with h|⟨l,h|h,q⟩
 ·exact .inr h
 ·cases h
 ·cases h;exact q
mutual
theorem Dn.mono(s:∀k,Z k→Z' k)(c:Kp Z M M'):∀{t:XV} {v:EV},Dn Z M t v→Dn Z' M' t v
 |.non,_,h=>by unfold Dn at *;exact h
 |.bl _,_,h=>by unfold Dn at *;exact h
 |.int _,_,h=>by unfold Dn at *;exact h
 |.str _,_,h=>by unfold Dn at *;exact h
 |.adr _,_,h=>by unfold Dn at *;exact h
 |.obj j C ts,_,h=>by
  unfold Dn at *
  obtain⟨e,z,xs,h1,h2⟩:=h;obtain⟨o,q1,q2⟩:=c j _ z h1;rw[q2.ins]at q1;exact⟨e,s j z,xs,q1,lX.mono s c h2⟩
 |.sl _,_,h=>by unfold Dn at *;exact h
 |.exc _,_,h=>by unfold Dn at *;exact h
 |.exf _ _ _,_,h=>by
  unfold Dn at *
  obtain⟨x,e,h⟩:=h;exact⟨x,e,Dn.mono s c h⟩
 |.tup ts,_,h=>by
  unfold Dn at *
  obtain⟨xs,e,h⟩:=h;exact⟨xs,e,a9.mono s c h⟩
 |.lst ts,_,h=>by
  unfold Dn at *
  obtain⟨k,e,z,xs,h1,h2⟩:=h;obtain⟨o,q1,q2⟩:=c k _ z h1;rw[q2.lst]at q1;exact⟨k,e,s k z,xs,q1,a9.mono s c h2⟩
 |.bR ts,_,h=>by
  unfold Dn at *
  obtain⟨k,e,z,xs,h1,h2⟩:=h;refine⟨k,e,s k z,xs,?_,cJ.mono s c h2⟩;rcases h1 with h1|h1
  ·obtain⟨o,q1,q2⟩:=c k _ z h1
   rcases q2.bR with q|q <;> rw[q]at q1
   ·exact .inl q1
   ·exact .inr q1
  ·obtain⟨o,q1,q2⟩:=c k _ z h1
   rcases q2.cP with q|q <;> rw[q]at q1
   ·exact .inl q1
   ·exact .inr q1
 |.ins C ts,_,h=>by
  unfold Dn at *
  obtain⟨k,e,z,xs,h1,h2⟩:=h;obtain⟨o,q1,q2⟩:=c k _ z h1;rw[q2.ins]at q1;exact⟨k,e,s k z,xs,q1,lX.mono s c h2⟩
theorem a9.mono(s:∀k,Z k→Z' k)(c:Kp Z M M'):∀{t:List XV} {v:List EV},a9 Z M t v→a9 Z' M' t v
 |[],_,h=>by unfold a9 at *;exact h
 |t :: ts,_,h=>by
  unfold a9 at *
  obtain⟨x,r,e,h1,h2⟩:=h;exact⟨x,r,e,Dn.mono s c h1,a9.mono s c h2⟩
theorem cJ.mono(s:∀k,Z k→Z' k)(c:Kp Z M M'):∀{t:List (XV×XV)} {v:List (EV×EV)},cJ Z M t v→cJ Z' M' t v
 |[],_,h=>by unfold cJ at *;exact h
 |t :: ts,_,h=>by
  unfold cJ at *
  obtain⟨x,r,e,h1,h2⟩:=h;exact⟨x,r,e,mL.mono s c h1,cJ.mono s c h2⟩
theorem mL.mono(s:∀k,Z k→Z' k)(c:Kp Z M M'):∀{t:XV×XV} {v:EV×EV},mL Z M t v→mL Z' M' t v
 |(a,b),_,h=>by
  unfold mL at *
  exact⟨Dn.mono s c h.1,Dn.mono s c h.2⟩
theorem lX.mono(s:∀k,Z k→Z' k)(c:Kp Z M M'):∀{t:List (Str×XV)} {v:List (Str×EV)},lX Z M t v→lX Z' M' t v
 |[],_,h=>by unfold lX at *;exact h
 |t :: ts,_,h=>by
  unfold lX at *
  obtain⟨x,r,e,h1,h2⟩:=h;exact⟨x,r,e,t_.mono s c h1,lX.mono s c h2⟩
theorem t_.mono(s:∀k,Z k→Z' k)(c:Kp Z M M'):∀{t:Str×XV} {v:Str×EV},t_ Z M t v→t_ Z' M' t v
 |(a,b),_,h=>by
  unfold t_ at *
  exact⟨h.1,Dn.mono s c h.2⟩
end
theorem Nd.mono(s:∀k,Z k→Z' k)(c:Kp Z M M'){t:XV}{o:EO}(h:Nd Z M t o):Nd Z' M' t o:=by
 cases t <;> first
  |exact h.elim
  |(obtain⟨xs,e,h⟩:=h;exact⟨xs,e,h.mono s c⟩)
theorem Kp.refl:Kp Z M M:=fun k o _ e=>⟨o,e,.inl rfl⟩
theorem bN.mono(s:∀k,Z k→Z' k)(c:Kp Z M M'){t:XV}{v:EV}(h:bN Z M t v)(own:∀k o,v = .ref k→M[k]? = some o→∃o',M'[k]? = some o'∧nY o o'):bN Z' M' t v:=by
 cases t with
 |lst ts=>
  obtain⟨k,e,xs,h1,h2⟩:=h;obtain⟨o,q1,q2⟩:=own k _ e h1;rw[q2.lst]at q1;exact⟨k,e,xs,q1,h2.mono s c⟩
 |bR ts=>
  obtain⟨k,e,xs,h1,h2⟩:=h;refine⟨k,e,xs,?_,h2.mono s c⟩;rcases h1 with h1|h1
  ·obtain⟨o,q1,q2⟩:=own k _ e h1
   rcases q2.bR with q|q <;> rw[q]at q1
   ·exact .inl q1
   ·exact .inr q1
  ·obtain⟨o,q1,q2⟩:=own k _ e h1
   rcases q2.cP with q|q <;> rw[q]at q1
   ·exact .inl q1
   ·exact .inr q1
 |ins C ts=>
  obtain⟨k,e,xs,h1,h2⟩:=h;obtain⟨o,q1,q2⟩:=own k _ e h1;rw[q2.ins]at q1;exact⟨k,e,xs,q1,h2.mono s c⟩
 |_=>exact Dn.mono s c h
theorem a9.len:∀{t:List XV} {v:List EV},a9 Z M t v→v.length=t.length
 |[],_,h=>by unfold a9 at h;subst h;rfl
 |t :: ts,_,h=>by
  unfold a9 at h;obtain⟨x,r,e,_,h2⟩:=h;rw[e,List.length_cons,List.length_cons,h2.len]
theorem cJ.len:∀{t:List (XV×XV)} {v:List (EV×EV)},cJ Z M t v→v.length=t.length
 |[],_,h=>by unfold cJ at h;subst h;rfl
 |t :: ts,_,h=>by
  unfold cJ at h;obtain⟨x,r,e,_,h2⟩:=h;rw[e,List.length_cons,List.length_cons,h2.len]
theorem a9.nil:a9 Z M [] []:=by unfold a9;rfl
theorem a9.cons{t:XV}{ts:List XV}{v:EV}{vs:List EV}(h:Dn Z M t v)(g:a9 Z M ts vs):a9 Z M (t :: ts) (v :: vs):=by unfold a9;exact⟨v,vs,rfl,h,g⟩
theorem a9.app:∀{t s:List XV} {v w:List EV},a9 Z M t v→a9 Z M s w→a9 Z M (t++s) (v++w)
 |[],s,v,w,h,g=>by unfold a9 at h;subst h;exact g
 |t :: ts,s,v,w,h,g=>by
  unfold a9 at h;obtain⟨x,r,e,h1,h2⟩:=h;subst e;exact .cons h1 (h2.app g)
theorem a9.get:∀{t:List XV} {v:List EV},a9 Z M t v→∀{i:Nat} {x:XV},t[i]? = some x→∃y,v[i]? = some y∧Dn Z M x y
 |[],_,h,i,x,e=>by cases e
 |t :: ts,_,h,i,x,e=>by
  unfold a9 at h;obtain⟨y,r,q,h1,h2⟩:=h;subst q;cases i with
  |zero=>cases e;exact⟨y,rfl,h1⟩
  |succ i=>exact h2.get (by simpa using e)
theorem a9.drop:∀{t:List XV} {v:List EV} (n:Nat),a9 Z M t v→a9 Z M (t.drop n) (v.drop n)
 |[],_,n,h=>by unfold a9 at h;subst h;simpa using a9.nil
 |t :: ts,_,n,h=>by
  have h0:=h;unfold a9 at h;obtain⟨y,r,q,h1,h2⟩:=h;subst q;cases n with
  |zero=>exact h0
  |succ n=>exact h2.drop n
theorem a9.take:∀{t:List XV} {v:List EV} (n:Nat),a9 Z M t v→a9 Z M (t.take n) (v.take n)
 |[],_,n,h=>by unfold a9 at h;subst h;simpa using a9.nil
 |t :: ts,_,n,h=>by
  unfold a9 at h;obtain⟨y,r,q,h1,h2⟩:=h;subst q;cases n with
  |zero=>exact a9.nil
  |succ n=>exact .cons h1 (h2.take n)
theorem a9.set:∀{t:List XV} {v:List EV} (n:Nat) {x:XV} {y:EV},a9 Z M t v→Dn Z M x y→a9 Z M (t.set n x) (v.set n y)
 |[],_,n,_,_,h,g=>by unfold a9 at h;subst h;simpa using a9.nil
 |t :: ts,_,n,_,_,h,g=>by
  unfold a9 at h;obtain⟨y,r,q,h1,h2⟩:=h;subst q;cases n with
  |zero=>exact .cons g h2
  |succ n=>exact .cons h1 (h2.set n g)
end
inductive Slot where
 |sh (t:XV)|bo (t:XV)|ow (t:XV)|mu (t:XV)
abbrev aY:=List (Option Slot)
def Slot.t:Slot→XV
 |.sh t=>t
 |.bo t=>t
 |.ow t=>t
 |.mu t=>t
def Slot.own:Slot→Bool
 |.ow _=>true
 |.mu _=>true
 |_=>false
def dW:Option (Option Slot)→Bool
 |some (some (.mu _))=>true
 |_=>false
inductive XR(α:Type)where
 |ok (a:α) (τ:aY)
 |err (C:Addr) (fs:Option (List (Str×XV))) (τ:aY)
 |bad
def XR.bind{α β:Type}:XR α→(α→aY→XR β)→XR β
 |.ok a τ,g=>g a τ
 |.err C fs τ,_=>.err C fs τ
 |.bad,_=>.bad
def u9(Z Wr:Nat→Prop)(M:Mem)(s:Slot)(v:EV):Prop:=match s with
 |.sh t=>Dn Z M t v
 |.bo t=>bN Z M t v∧∀k,v = .ref k→¬ Wr k∧k<M.length
 |.ow t=>∃k o,v = .ref k∧Wr k∧¬ Z k∧M[k]? = some o∧Nd Z M t o
 |.mu t=>∃k o,v = .ref k∧Wr k∧¬ Z k∧M[k]? = some o∧Nd Z M t o
structure En(Z Wr:Nat→Prop)(M:Mem)(σ:bA)(τ:aY):Prop where
 lt:∀k,Z k→k<M.length
 fr:∀k,M.length≤k→Wr k
 len:σ.length=τ.length
 on:∀(i:Nat) (s:Slot),τ[i]? = some (some s)→∃v,σ[i]? = some (some v)∧u9 Z Wr M s v
 dis:∀(i j:Nat) (s t:Slot) (k:Nat),i≠j→τ[i]? = some (some s)→τ[j]? = some (some t)→s.own=true→t.own=true→σ[i]? = some (some (.ref k))→σ[j]?≠some (some (.ref k))
structure cQ(Z Wr:Nat→Prop)(M:Mem)(Z':Nat→Prop)(M':Mem):Prop where
 len:M.length≤M'.length
 sub:∀k,Z k→Z' k
 new:∀k,Z' k→Z k∨Wr k
 keep:∀k,k<M.length→(Z k∨¬ Wr k)→M'[k]? = M[k]?
section
variable{Z Z' EE Wr:Nat→Prop}{M M' M'':Mem}{σ:bA}{τ τ':aY}
theorem cQ.refl:cQ Z Wr M Z M:=⟨Nat.le_refl _,fun _ h=>h,fun _ h=>.inl h,fun _ _ _=>rfl⟩
theorem cQ.trans(a:cQ Z Wr M Z' M')(b:cQ Z' Wr M' EE M''):cQ Z Wr M EE M'' where
 len:=Nat.le_trans a.len b.len
 sub:=fun k h=>b.sub k (a.sub k h)
 new:=fun k h=>(b.new k h).elim (a.new k) .inr
 keep:=fun k h q=>(b.keep k (Nat.lt_of_lt_of_le h a.len) (q.imp (a.sub k) id)).trans (a.keep k h q)
theorem cQ.kp(a:cQ Z Wr M Z' M'):Kp Z M M':=fun k o z e=>⟨o,(a.keep k (bK e).1 (.inl z)).trans e,.inl rfl⟩
theorem cQ.dn(a:cQ Z Wr M Z' M'){t:XV}{v:EV}(h:Dn Z M t v):Dn Z' M' t v:=h.mono a.sub a.kp
theorem cQ.v_(a:cQ Z Wr M Z' M'){t:List XV}{v:List EV}(h:a9 Z M t v):a9 Z' M' t v:=h.mono a.sub a.kp
theorem u9.one{s:Slot}{v:EV}(h:u9 Z Wr M s v):bN Z M s.t v:=by
 cases s with
 |sh t=>exact Dn.one h
 |bo t=>exact h.1
 |ow t=>obtain⟨k,o,e,_,_,e2,h⟩:=h;subst e;exact h.one e2
 |mu t=>obtain⟨k,o,e,_,_,e2,h⟩:=h;subst e;exact h.one e2
def nS(Z:Nat→Prop)(k:Nat):Nat→Prop:=fun j=>Z j∨j=k
theorem OT(o:EO):Kp Z M (M ++ [o]):=fun k p _ e=>⟨p,by rw[List.getElem?_append_left (bK e).1];exact e,.inl rfl⟩
theorem En.push(E:En Z Wr M σ τ)(o:EO)(hZ:∀k,Z k→Z' k)(hZ2:∀k,Z' k→Z k∨k=M.length):En Z' Wr (M ++ [o]) σ τ∧cQ Z Wr M Z' (M ++ [o]):=by
 have kp:Kp Z M (M ++ [o]):=OT o;have nz:∀k,k<M.length→¬ Z k→¬ Z' k:=fun k h1 h2 h3=>(hZ2 k h3).elim h2 (Nat.ne_of_lt h1);refine⟨⟨fun k h=>?_,fun k h=>E.fr k (by simp at h;omega),E.len,fun i s e=>?_,E.dis⟩,⟨by simp,hZ,fun k h=>(hZ2 k h).imp id fun e=>E.fr k (by omega),fun k h _=>List.getElem?_append_left h⟩⟩
 ·rw[List.length_append]
  rcases hZ2 k h with q|q
  ·have:=E.lt k q;simp;omega
  ·simp;omega
 ·obtain⟨v,e1,r⟩:=E.on i s e
  refine⟨v,e1,?_⟩;cases s with
  |sh t=>exact Dn.mono hZ kp r
  |bo t=>exact⟨bN.mono hZ kp r.1 (fun k p _ e=>⟨p,by rw[List.getElem?_append_left (bK e).1];exact e,.inl rfl⟩),fun k q=>⟨(r.2 k q).1,by rw[List.length_append];exact Nat.lt_add_right _ (r.2 k q).2⟩⟩
  |ow t=>
   obtain⟨k,p,q1,q2,q3,q4,q5⟩:=r;have hk:=(bK q4).1;exact⟨k,p,q1,q2,nz k hk q3,by rw[List.getElem?_append_left hk];exact q4,q5.mono hZ kp⟩
  |mu t=>
   obtain⟨k,p,q1,q2,q3,q4,q5⟩:=r;have hk:=(bK q4).1;exact⟨k,p,q1,q2,nz k hk q3,by rw[List.getElem?_append_left hk];exact q4,q5.mono hZ kp⟩
end
abbrev mC(α β:Type):=(Nat→Prop)→(Nat→Prop)→Mem→bA→aY→α→β→Prop
def Pin(τ τ':aY):Prop:=∀i:Nat,dW τ'[i]? = dW τ[i]?
theorem Pin.refl{τ:aY}:Pin τ τ:=fun _=>rfl
theorem Pin.trans{τ τ' τ'':aY}(a:Pin τ τ')(b:Pin τ' τ''):Pin τ τ'':=fun i=>(b i).trans (a i)
def R3(Z:Nat→Prop)(M:Mem):Option (List (Str×XV))→Option (List (Str×EV))→Prop
 |none,none=>True
 |some l,some l'=>lX Z M l l'
 |_,_=>False
def a_{α β:Type}(R:mC α β)(Z Wr:Nat→Prop)(M:Mem)(σ:bA)(τ:aY)(r:XR α)(res:Res β):Prop:=match r with
 |.ok t τ'=>∃v M' Z',res = .ok v M'∧cQ Z Wr M Z' M'∧En Z' Wr M' σ τ'∧Pin τ τ'∧R Z' Wr M' σ τ' t v
 |.err C fs τ'=>∃x M' Z',res = .err x M'∧cQ Z Wr M Z' M'∧En Z' Wr M' σ τ'∧Pin τ τ'∧x.cls=C∧R3 Z' M' fs x.fs
 |.bad=>True
section
variable{α β γ δ:Type}{R:mC α β}{R':mC γ δ}{Z Z1 Wr:Nat→Prop}{M M1:Mem}{σ:bA}{τ τ1:aY}
theorem a_.shift{r:XR γ}{res:Res δ}(h:a_ R' Z1 Wr M1 σ τ1 r res)(s:cQ Z Wr M Z1 M1)(p:Pin τ τ1):a_ R' Z Wr M σ τ r res:=by
 cases r with
 |ok t τ'=>obtain⟨v,M',Z',e,s',E',p',h⟩:=h;exact⟨v,M',Z',e,s.trans s',E',p.trans p',h⟩
 |err C fs τ'=>obtain⟨v,M',Z',e,s',E',p',h⟩:=h;exact⟨v,M',Z',e,s.trans s',E',p.trans p',h⟩
 |bad=>exact True.intro
theorem a_.bind{r:XR α}{res:Res β}{g:α→aY→XR γ}{k:β→Mem→Res δ}(h:a_ R Z Wr M σ τ r res)
  (c:∀t τ1 v M1 Z1,cQ Z Wr M Z1 M1→En Z1 Wr M1 σ τ1→R Z1 Wr M1 σ τ1 t v→a_ R' Z1 Wr M1 σ τ1 (g t τ1) (k v M1)):a_ R' Z Wr M σ τ (r.bind g) (res.bind k):=by
 cases r with
 |ok t τ1=>
  obtain⟨v,M1,Z1,e,s,E,p,h⟩:=h;subst e;exact(c t τ1 v M1 Z1 s E h).shift s p
 |err C fs τ'=>
  obtain⟨x,M',Z',e,h⟩:=h;subst e;exact⟨x,M',Z',rfl,h⟩
 |bad=>exact True.intro
theorem a_.ok{t:α}{v:β}(E:En Z Wr M σ τ)(h:R Z Wr M σ τ t v):a_ R Z Wr M σ τ (.ok t τ) (.ok v M):=⟨v,M,Z,rfl,.refl,E,.refl,h⟩
end
inductive BV where
 |val (t:XV)|var (i:Nat)
abbrev XE:=aY→XR XV
abbrev XT:=aY→XR Bool
abbrev XA:=aY→XR (List XV)
abbrev XB:=aY→XR BV
def RE:mC XV EV:=fun Z _ M _ _ t v=>Dn Z M t v
def RT:mC Bool Bool:=fun _ _ _ _ _ b c=>c=b
def RA:mC (List XV) (List EV):=fun Z _ M _ _ t v=>a9 Z M t v
def lV:mC BV EV:=fun Z _ M σ _ b v=>match b with
 |.val t=>Dn Z M t v
 |.var i=>σ[i]? = some (some v)
def RF:mC XV EV:=fun Z Wr M σ τ t v=>∃k o,v = .ref k∧¬ Z k∧Wr k∧M[k]? = some o∧Nd Z M t o∧∀(i:Nat) (s:Slot),τ[i]? = some (some s)→s.own=true→σ[i]?≠some (some (.ref k))
def QE(e:FE)(x:XE):Prop:=∀Z Wr M σ τ,En Z Wr M σ τ→a_ RE Z Wr M σ τ (x τ) (e σ M)
def QF(e:FE)(x:XE):Prop:=∀Z Wr M σ τ,En Z Wr M σ τ→a_ RF Z Wr M σ τ (x τ) (e σ M)
def QB(e:FE)(x:XB):Prop:=∀Z Wr M σ τ,En Z Wr M σ τ→a_ lV Z Wr M σ τ (x τ) (e σ M)
def QT(e:FT)(x:XT):Prop:=∀Z Wr M σ τ,En Z Wr M σ τ→a_ RT Z Wr M σ τ (x τ) (e σ M)
def QA(e:FA)(x:XA):Prop:=∀Z Wr M σ τ,En Z Wr M σ τ→a_ RA Z Wr M σ τ (x τ) (e σ M)
def resB(τ:aY):BV→Option XV
 |.val t=>some t
 |.var i=>match τ[i]? with
  |some (some s)=>some s.t
  |_=>none
section
variable{Z Z' Wr:Nat→Prop}{M M':Mem}{σ:bA}{τ τ':aY}
theorem nZ(E:En Z Wr M σ τ){b:BV}{v:EV}{t:XV}(h:lV Z Wr M σ τ b v)(e:resB τ b=some t):bN Z M t v:=by
 cases b with
 |val s=>cases e;exact Dn.one h
 |var i=>
  unfold resB at e;dsimp only at e;cases q:τ[i]? with
  |none=>rw[q]at e;cases e
  |some o=>
   cases o with
   |none=>rw[q]at e;cases e
   |some s=>
    rw[q]at e;cases e;obtain⟨w,e1,r⟩:=E.on i s q
    have:v=w:=by
     have h:σ[i]? = some (some v):=h;rw[h]at e1;cases e1;rfl
    subst this;exact r.one
theorem lV.step{b:BV}{v:EV}(h:lV Z Wr M σ τ b v)(s:cQ Z Wr M Z' M'){τ':aY}:lV Z' Wr M' σ τ' b v:=by
 cases b with
 |val t=>exact s.dn h
 |var i=>exact h
theorem En.freeze(E:En Z Wr M σ τ){i k:Nat}{t:XV}(e:τ[i]? = some (some (.ow t)))(e2:σ[i]? = some (some (.ref k))):En (nS Z k) Wr M σ (τ.set i (some (.sh t)))∧cQ Z Wr M (nS Z k) M∧Dn (nS Z k) M t (.ref k)∧Pin τ (τ.set i (some (.sh t))):=by
 obtain⟨v,e1,k',o,q1,q2,q3,q4,q5⟩:=E.on i _ e;rw[e2]at e1;cases e1;cases q1;have hs:∀j,Z j→nS Z k j:=fun j h=>.inl h;have dn:Dn (nS Z k) M t (.ref k):=(q5.mono hs .refl).dn q4 (.inr rfl);have hi:i<τ.length:=(bK e).1;refine⟨⟨fun j h=>?_,E.fr,by rw[List.length_set];exact E.len,fun j s ej=>?_,fun j j' s s' l n ej mJ hs1 hs2=>?_⟩,⟨Nat.le_refl _,hs,fun j h=>h.imp id fun z=>by rw[z];exact q2,fun _ _ _=>rfl⟩,dn,fun j=>?_⟩
 ·rcases h with h|h
  ·exact E.lt j h
  ·rw[h];exact(bK q4).1
 ·by_cases c:j=i
  ·subst c
   rw[List.getElem?_set_self hi]at ej;cases ej;exact⟨_,e2,dn⟩
  ·rw[List.getElem?_set_ne (Ne.symm c)]at ej
   obtain⟨w,e3,r⟩:=E.on j s ej;refine⟨w,e3,?_⟩;cases s with
   |sh u=>exact Dn.mono hs .refl r
   |bo u=>exact⟨bN.mono hs .refl r.1 (fun _ p _ e=>⟨p,e,.inl rfl⟩),r.2⟩
   |ow u=>
    obtain⟨l,p,r1,r2,r3,r4,r5⟩:=r;refine⟨l,p,r1,r2,?_,r4,r5.mono hs .refl⟩;rintro(h|h)
    ·exact r3 h
    ·subst h r1
     exact E.dis i j _ _ _ (Ne.symm c) e ej rfl rfl e2 e3
   |mu u=>
    obtain⟨l,p,r1,r2,r3,r4,r5⟩:=r;refine⟨l,p,r1,r2,?_,r4,r5.mono hs .refl⟩;rintro(h|h)
    ·exact r3 h
    ·subst h r1
     exact E.dis i j _ _ _ (Ne.symm c) e ej rfl rfl e2 e3
 ·have d:∀(m:Nat) (u:Slot),(τ.set i (some (.sh t)))[m]? = some (some u)→u.own=true→τ[m]? = some (some u):=fun m u em hu=>by
   by_cases c:m=i
   ·subst c
    rw[List.getElem?_set_self hi]at em;cases em;cases hu
   ·rw[List.getElem?_set_ne (Ne.symm c)]at em;exact em
  exact E.dis j j' s s' l n (d j s ej hs1) (d j' s' mJ hs2) hs1 hs2
 ·by_cases c:j=i
  ·subst c
   rw[List.getElem?_set_self hi,e];rfl
  ·rw[List.getElem?_set_ne (Ne.symm c)]
def xV(i:Nat):XE:=fun τ=>match τ[i]? with
 |some (some (.sh t))=>.ok t τ
 |some (some (.ow t))=>.ok t (τ.set i (some (.sh t)))
 |_=>.bad
theorem qV(i:Nat):QE (eV i) (xV i):=fun Z Wr M σ τ E=>by
 unfold xV;split
 ·rename_i t e
  obtain⟨v,e1,r⟩:=E.on i _ e
  have:eV i σ M = .ok v M:=by unfold eV;rw[e1]
  rw[this];exact a_.ok E r
 ·rename_i t e
  obtain⟨v,e1,k,o,q1,_⟩:=E.on i _ e;subst q1
  have:eV i σ M = .ok (.ref k) M:=by unfold eV;rw[e1]
  rw[this];obtain⟨E',s,d,p⟩:=E.freeze e e1;exact⟨_,M,_,rfl,s,E',p,d⟩
 ·exact True.intro
def xN(i:Nat):XB:=fun τ=>match τ[i]? with
 |some (some (.sh t))=>.ok (.val t) τ
 |some (some _)=>.ok (.var i) τ
 |_=>.bad
theorem qN(i:Nat):QB (eV i) (xN i):=fun Z Wr M σ τ E=>by
 unfold xN;split
 ·rename_i t e
  obtain⟨v,e1,r⟩:=E.on i _ e
  have:eV i σ M = .ok v M:=by unfold eV;rw[e1]
  rw[this];exact a_.ok E r
 ·rename_i s _ e
  obtain⟨v,e1,r⟩:=E.on i _ e
  have:eV i σ M = .ok v M:=by unfold eV;rw[e1]
  rw[this];exact a_.ok E (show lV Z Wr M σ τ (.var i) v from e1)
 ·exact True.intro
def xB(f:XE):XB:=fun τ=>(f τ).bind fun t τ1=>.ok (.val t) τ1
theorem qB{e:FE}{x:XE}(h:QE e x):QB e (xB x):=fun Z Wr M σ τ E=>by
 have:=a_.bind (R':=lV) (g:=fun t τ1=>.ok (.val t) τ1) (k:=fun v M1=>.ok v M1) (h Z Wr M σ τ E) fun t τ1 v M1 Z1 s E1 r=>a_.ok E1 (show lV Z1 Wr M1 σ τ1 (.val t) v from r);have q:(e σ M).bind (fun v M1=>.ok v M1)=e σ M:=by cases e σ M <;> rfl
 rw[q]at this;exact this
def xC(t:XV):XE:=fun τ=>.ok t τ
theorem qC{v:EV}{t:XV}(h:∀Z M,Dn Z M t v):QE (eC v) (xC t):=fun Z Wr M σ τ E=>a_.ok E (h Z M)
theorem bT(i:Int):QE (eC (.int i)) (xC (.int i)):=qC fun _ _=>by unfold Dn;rfl
theorem tO(i:Str):QE (eC (.str i)) (xC (.str i)):=qC fun _ _=>by unfold Dn;rfl
theorem WC(i:Bool):QE (eC (.bl i)) (xC (.bl i)):=qC fun _ _=>by unfold Dn;rfl
theorem qNon:QE (eC .non) (xC .non):=qC fun _ _=>by unfold Dn;rfl
theorem QF.e{e:FE}{x:XE}(h:QF e x):QE e x:=fun Z Wr M σ τ E=>by
 have h:=h Z Wr M σ τ E;revert h
 generalize x τ=r
 intro h;cases r with
 |ok t τ'=>
  obtain⟨v,M',Z',e1,s,E',p,k,o,q1,q2,q3,q4,q5,q6⟩:=h;subst q1;have hs:∀j,Z' j→nS Z' k j:=fun j h=>.inl h;refine⟨_,M',nS Z' k,e1,s.trans ⟨Nat.le_refl _,hs,fun j h=>h.imp id fun z=>by rw[z];exact q3,fun _ _ _=>rfl⟩,⟨fun j h=>?_,E'.fr,E'.len,fun j s' ej=>?_,E'.dis⟩,p,(q5.mono hs .refl).dn q4 (.inr rfl)⟩
  ·rcases h with h|h
   ·exact E'.lt j h
   ·rw[h];exact(bK q4).1
  ·obtain⟨w,e3,r⟩:=E'.on j s' ej
   refine⟨w,e3,?_⟩;cases s' with
   |sh u=>exact Dn.mono hs .refl r
   |bo u=>exact⟨bN.mono hs .refl r.1 (fun _ p _ e=>⟨p,e,.inl rfl⟩),r.2⟩
   |ow u=>
    obtain⟨l,p,r1,r2,r3,r4,r5⟩:=r;refine⟨l,p,r1,r2,?_,r4,r5.mono hs .refl⟩;rintro(h|h)
    ·exact r3 h
    ·subst h r1
     exact q6 j _ ej rfl e3
   |mu u=>
    obtain⟨l,p,r1,r2,r3,r4,r5⟩:=r;refine⟨l,p,r1,r2,?_,r4,r5.mono hs .refl⟩;rintro(h|h)
    ·exact r3 h
    ·subst h r1
     exact q6 j _ ej rfl e3
 |err C fs τ'=>exact h
 |bad=>exact True.intro
def t8(Z:Nat→Prop)(M:Mem)(res:Res EV)(r:XV):Prop:=∃o,res = .ok (.ref M.length) (M ++ [o])∧Nd Z M r o
def qI(Z:Nat→Prop)(M:Mem)(res:Res EV)(r:XV):Prop:=(∃u,res = .ok u M∧Dn Z M r u)∨t8 Z M res r
theorem t8.post{res:Res EV}{r:XV}(h:t8 Z M res r)(E:En Z Wr M σ τ):a_ RF Z Wr M σ τ (.ok r τ) res:=by
 obtain⟨o,e,n⟩:=h;obtain⟨E',s⟩:=E.push o (Z':=Z) (fun _ h=>h) (fun _ h=>.inl h);refine⟨_,_,_,e,s,E',.refl,M.length,o,rfl,fun z=>Nat.lt_irrefl _ (E.lt _ z),E.fr _ (Nat.le_refl _),by simp,n.mono (fun _ h=>h) (OT o),fun i s' e1 e2 e3=>?_⟩;obtain⟨v,e4,r⟩:=E.on i _ e1;rw[e3]at e4;cases e4;cases s' with
 |sh u=>cases e2
 |bo u=>cases e2
 |ow u=>obtain⟨l,p,r1,_,_,r4,_⟩:=r;cases r1;have:=(bK r4).1;omega
 |mu u=>obtain⟨l,p,r1,_,_,r4,_⟩:=r;cases r1;have:=(bK r4).1;omega
theorem qI.post{res:Res EV}{r:XV}(h:qI Z M res r)(E:En Z Wr M σ τ):a_ RE Z Wr M σ τ (.ok r τ) res:=by
 rcases h with⟨u,e,d⟩|⟨o,e,n⟩
 ·rw[e];exact a_.ok E d
 ·obtain⟨E',s⟩:=E.push o (Z':=nS Z M.length) (fun _ h=>.inl h) (fun _ h=>h)
  exact⟨_,_,_,e,s,E',.refl,(n.mono (fun _ h=>.inl h) (OT o)).dn (by simp) (.inr rfl)⟩
def qH(op:EV→Mem→Res EV)(o:XV→Option XV):Prop:=∀Z M t v r,bN Z M t v→o t=some r→qI Z M (op v M) r
def l6(op:EV→EV→Mem→Res EV)(o:XV→XV→Option XV):Prop:=∀Z M t s v w r,bN Z M t v→bN Z M s w→o t s=some r→qI Z M (op v w M) r
def D3(op:EV→Mem→Res EV)(o:XV→Option XV):Prop:=∀Z M t v r,bN Z M t v→o t=some r→t8 Z M (op v M) r
def Q3(op:EV→EV→Mem→Res EV)(o:XV→XV→Option XV):Prop:=∀Z M t s v w r,bN Z M t v→bN Z M s w→o t s=some r→t8 Z M (op v w M) r
def oK(r:Option XV)(τ:aY):XR XV:=match r with
 |some t=>.ok t τ
 |none=>.bad
def x1(o:XV→Option XV)(f:XB):XE:=fun τ=>(f τ).bind fun a τ1=>oK ((resB τ1 a).bind o) τ1
def x2(o:XV→XV→Option XV)(f g:XB):XE:=fun τ=>(f τ).bind fun a τ1=>(g τ1).bind fun b τ2=>oK ((resB τ2 a).bind fun t=>(resB τ2 b).bind fun s=>o t s) τ2
theorem q1{op:EV→Mem→Res EV}{o:XV→Option XV}{f:FE}{x:XB}(ho:qH op o)(h:QB f x):QE (e1 op f) (x1 o x):=fun Z Wr M σ τ E=>by
 refine a_.bind (h Z Wr M σ τ E) fun b τ1 v M1 Z1 s E1 r=>?_;cases q:resB τ1 b with
 |none=>exact True.intro
 |some t=>
  cases q2:o t with
  |none=>simp only[Option.bind_some,q2];exact True.intro
  |some u=>simp only[Option.bind_some,q2];exact(ho _ _ _ _ _ (nZ E1 r q) q2).post E1
theorem q1F{op:EV→Mem→Res EV}{o:XV→Option XV}{f:FE}{x:XB}(ho:D3 op o)(h:QB f x):QF (e1 op f) (x1 o x):=fun Z Wr M σ τ E=>by
 refine a_.bind (h Z Wr M σ τ E) fun b τ1 v M1 Z1 s E1 r=>?_;cases q:resB τ1 b with
 |none=>exact True.intro
 |some t=>
  cases q2:o t with
  |none=>simp only[Option.bind_some,q2];exact True.intro
  |some u=>simp only[Option.bind_some,q2];exact(ho _ _ _ _ _ (nZ E1 r q) q2).post E1
theorem Y1{op:EV→EV→Mem→Res EV}{o:XV→XV→Option XV}(ho:l6 op o)(E:En Z Wr M σ τ){a b:BV}{v w:EV}(ra:lV Z Wr M σ τ a v)(rb:lV Z Wr M σ τ b w):a_ RE Z Wr M σ τ (oK ((resB τ a).bind fun t=>(resB τ b).bind fun s=>o t s) τ) (op v w M):=by
 cases q:resB τ a with
 |none=>exact True.intro
 |some t=>
  cases q':resB τ b with
  |none=>exact True.intro
  |some s=>
   simp only[Option.bind_some];cases q2:o t s with
   |none=>exact True.intro
   |some u=>exact(ho _ _ _ _ _ _ _ (nZ E ra q) (nZ E rb q') q2).post E
theorem X4{op:EV→EV→Mem→Res EV}{o:XV→XV→Option XV}(ho:Q3 op o)(E:En Z Wr M σ τ){a b:BV}{v w:EV}(ra:lV Z Wr M σ τ a v)(rb:lV Z Wr M σ τ b w):a_ RF Z Wr M σ τ (oK ((resB τ a).bind fun t=>(resB τ b).bind fun s=>o t s) τ) (op v w M):=by
 cases q:resB τ a with
 |none=>exact True.intro
 |some t=>
  cases q':resB τ b with
  |none=>exact True.intro
  |some s=>
   simp only[Option.bind_some];cases q2:o t s with
   |none=>exact True.intro
   |some u=>exact(ho _ _ _ _ _ _ _ (nZ E ra q) (nZ E rb q') q2).post E
theorem q2{op:EV→EV→Mem→Res EV}{o:XV→XV→Option XV}{f g:FE}{x y:XB}(ho:l6 op o)(h:QB f x)(h2:QB g y):QE (e2 op f g) (x2 o x y):=fun Z Wr M σ τ E=>
 a_.bind (h Z Wr M σ τ E) fun a τ1 v M1 Z1 s E1 r=>a_.bind (h2 Z1 Wr M1 σ τ1 E1) fun b τ2 w M2 Z2 s2 E2 r2=>Y1 ho E2 (r.step s2) r2
theorem q2F{op:EV→EV→Mem→Res EV}{o:XV→XV→Option XV}{f g:FE}{x y:XB}(ho:Q3 op o)(h:QB f x)(h2:QB g y):QF (e2 op f g) (x2 o x y):=fun Z Wr M σ τ E=>
 a_.bind (h Z Wr M σ τ E) fun a τ1 v M1 Z1 s E1 r=>a_.bind (h2 Z1 Wr M1 σ τ1 E1) fun b τ2 w M2 Z2 s2 E2 r2=>X4 ho E2 (r.step s2) r2
def isTrue:XV→Option Bool
 |.bl b=>some b
 |_=>none
theorem XZ{t:XV}{b:Bool}(h:isTrue t=some b):t = .bl b:=by
 cases t <;> cases h;rfl
def xT(f:XE):XT:=fun τ=>(f τ).bind fun t τ1=>match isTrue t with
 |some b=>.ok b τ1
 |none=>.bad
theorem qT{f:FE}{x:XE}(h:QE f x):QT (mX f) (xT x):=fun Z Wr M σ τ E=>by
 refine a_.bind (h Z Wr M σ τ E) fun t τ1 v M1 Z1 s E1 r=>?_;cases q:isTrue t with
 |none=>exact True.intro
 |some c=>
  have:=XZ q;subst this;have r:Dn Z1 M1 (.bl c) v:=r;unfold Dn at r;subst r;exact a_.ok E1 rfl
def s_(f:XT):XT:=fun τ=>(f τ).bind fun b τ1=>.ok (!b) τ1
theorem VS{f:FT}{x:XT}(h:QT f x):QT (tNot f) (s_ x):=fun Z Wr M σ τ E=>a_.bind (h Z Wr M σ τ E) fun t τ1 v M1 Z1 s E1 r=>by cases r;exact a_.ok E1 rfl
def PH(f g:XT):XT:=fun τ=>(f τ).bind fun b τ1=>if b=true then g τ1 else .ok false τ1
def DO(f g:XT):XT:=fun τ=>(f τ).bind fun b τ1=>if b=true then .ok true τ1 else g τ1
theorem zDX{f g:FT}{x y:XT}(h:QT f x)(h2:QT g y):QT (tAnd f g) (PH x y):=fun Z Wr M σ τ E=>a_.bind (h Z Wr M σ τ E) fun t τ1 v M1 Z1 s E1 r=>by
 cases r;cases t with
 |true=>exact h2 _ _ _ _ _ E1
 |false=>exact a_.ok E1 rfl
theorem qTOr{f g:FT}{x y:XT}(h:QT f x)(h2:QT g y):QT (tOr f g) (DO x y):=fun Z Wr M σ τ E=>a_.bind (h Z Wr M σ τ E) fun t τ1 v M1 Z1 s E1 r=>by
 cases r;cases t with
 |true=>exact a_.ok E1 rfl
 |false=>exact h2 _ _ _ _ _ E1
def cE:XA:=fun τ=>.ok [] τ
def a0(f:XE)(g:XA):XA:=fun τ=>(f τ).bind fun t τ1=>(g τ1).bind fun ts τ2=>.ok (t :: ts) τ2
theorem iQ:QA bJ cE:=fun Z Wr M σ τ E=>a_.ok E a9.nil
theorem bE{f:FE}{g:FA}{x:XE}{y:XA}(h:QE f x)(h2:QA g y):QA (a8 f g) (a0 x y):=fun Z Wr M σ τ E=>
 a_.bind (h Z Wr M σ τ E) fun a τ1 v M1 Z1 s E1 r=>a_.bind (h2 Z1 Wr M1 σ τ1 E1) fun b τ2 w M2 Z2 s2 E2 r2=>a_.ok E2 (a9.cons (s2.dn r) r2)
def dP(g:XA):XE:=fun τ=>(g τ).bind fun ts τ1=>if ts.length≤sizeLine then .ok (.lst ts) τ1 else .bad
def o5(g:XA):XE:=fun τ=>(g τ).bind fun ts τ1=>if ts.length≤sizeLine then .ok (.tup ts) τ1 else .bad
theorem s7{ts:List XV}{vs:List EV}(h:a9 Z M ts vs)(c:ts.length≤sizeLine):t8 Z M (kP vs M) (.lst ts):=by
 unfold kP;rw[if_pos (by rw[h.len];exact c)];exact⟨_,rfl,vs,rfl,h⟩
theorem kX{g:FA}{y:XA}(h:QA g y):QF (kJ g) (dP y):=fun Z Wr M σ τ E=>by
 refine a_.bind (h Z Wr M σ τ E) fun t τ1 v M1 Z1 s E1 r=>?_;split
 ·rename_i c
  exact(s7 r c).post E1
 ·exact True.intro
theorem QN{g:FA}{y:XA}(h:QA g y):QE (vP g) (o5 y):=fun Z Wr M σ τ E=>by
 refine a_.bind (h Z Wr M σ τ E) fun t τ1 v M1 Z1 s E1 r=>?_;split
 ·rename_i c
  have r:a9 Z1 M1 t v:=r;unfold m4;rw[if_pos (by rw[r.len];exact c)];exact a_.ok E1 (by show Dn _ _ _ _;unfold Dn;exact⟨v,rfl,r⟩)
 ·exact True.intro
end
inductive kA where
 |nx (τ:aY)|rt (t:XV) (fr:Bool) (τ:aY)|bk (τ:aY)|ct (τ:aY)|err (C:Addr) (fs:Option (List (Str×XV))) (τ:aY)|bad
abbrev XS:=aY→kA
def kY(σ:bA)(τ:aY)(σ':bA)(τ':aY):Prop:=∀i:Nat,dW τ'[i]? = dW τ[i]?∧(dW τ[i]? = true→σ'[i]? = σ[i]?)
theorem kY.refl{σ:bA}{τ:aY}:kY σ τ σ τ:=fun _=>⟨rfl,fun _=>rfl⟩
theorem kY.trans{σ σ' σ'':bA}{τ τ' τ'':aY}(a:kY σ τ σ' τ')(b:kY σ' τ' σ'' τ''):kY σ τ σ'' τ'':=fun i=>⟨(b i).1.trans (a i).1,fun h=>((b i).2 ((a i).1.trans h)).trans ((a i).2 h)⟩
theorem Pin.s{σ:bA}{τ τ':aY}(a:Pin τ τ'):kY σ τ σ τ':=fun i=>⟨a i,fun _=>rfl⟩
def n_(Z Wr:Nat→Prop)(M:Mem)(σ:bA)(τ:aY)(r:kA)(res:RS):Prop:=match r with
 |.nx τ'=>∃σ' M' Z',res = .nx σ' M'∧cQ Z Wr M Z' M'∧En Z' Wr M' σ' τ'∧kY σ τ σ' τ'
 |.bk τ'=>∃σ' M' Z',res = .bk σ' M'∧cQ Z Wr M Z' M'∧En Z' Wr M' σ' τ'∧kY σ τ σ' τ'
 |.ct τ'=>∃σ' M' Z',res = .ct σ' M'∧cQ Z Wr M Z' M'∧En Z' Wr M' σ' τ'∧kY σ τ σ' τ'
 |.rt t fr τ'=>∃v σ' M' Z',res = .rt v M'∧cQ Z Wr M Z' M'∧En Z' Wr M' σ' τ'∧kY σ τ σ' τ'∧(fr=true→RF Z' Wr M' σ' τ' t v)∧(fr=false→Dn Z' M' t v)
 |.err C fs τ'=>∃x σ' M' Z',res = .err x σ' M'∧cQ Z Wr M Z' M'∧En Z' Wr M' σ' τ'∧kY σ τ σ' τ'∧x.cls=C∧R3 Z' M' fs x.fs
 |.bad=>True
def QS(s:FS)(x:XS):Prop:=∀Z Wr M σ τ,En Z Wr M σ τ→n_ Z Wr M σ τ (x τ) (s σ M)
def iI{α:Type}(r:XR α)(g:α→aY→kA):kA:=match r with
 |.ok a τ=>g a τ
 |.err C fs τ=>.err C fs τ
 |.bad=>.bad
section
variable{α β:Type}{R:mC α β}{Z Z' Z1 Wr:Nat→Prop}{M M' M1:Mem}{σ σ' σ1:bA}{τ τ' τ1:aY}
theorem n_.shift{r:kA}{res:RS}(h:n_ Z1 Wr M1 σ1 τ1 r res)(s:cQ Z Wr M Z1 M1)(p:kY σ τ σ1 τ1):n_ Z Wr M σ τ r res:=by
 cases r with
 |nx τ'=>obtain⟨v,M',Z',e,s',E',p'⟩:=h;exact⟨v,M',Z',e,s.trans s',E',p.trans p'⟩
 |bk τ'=>obtain⟨v,M',Z',e,s',E',p'⟩:=h;exact⟨v,M',Z',e,s.trans s',E',p.trans p'⟩
 |ct τ'=>obtain⟨v,M',Z',e,s',E',p'⟩:=h;exact⟨v,M',Z',e,s.trans s',E',p.trans p'⟩
 |rt t fr τ'=>obtain⟨v,s0,M',Z',e,s',E',p',h⟩:=h;exact⟨v,s0,M',Z',e,s.trans s',E',p.trans p',h⟩
 |err C fs τ'=>obtain⟨v,s0,M',Z',e,s',E',p',h⟩:=h;exact⟨v,s0,M',Z',e,s.trans s',E',p.trans p',h⟩
 |bad=>exact True.intro
theorem a_.j8{r:XR α}{res:Res β}{g:α→aY→kA}{k:β→Mem→RS}(h:a_ R Z Wr M σ τ r res)
  (c:∀t τ1 v M1 Z1,cQ Z Wr M Z1 M1→En Z1 Wr M1 σ τ1→R Z1 Wr M1 σ τ1 t v→n_ Z1 Wr M1 σ τ1 (g t τ1) (k v M1)):n_ Z Wr M σ τ (iI r g) (res.j8 σ k):=by
 cases r with
 |ok t τ1=>
  obtain⟨v,M1,Z1,e,s,E,p,h⟩:=h;subst e;exact(c t τ1 v M1 Z1 s E h).shift s p.s
 |err C fs τ'=>
  obtain⟨x,M',Z',e,s,E,p,h⟩:=h;subst e;exact⟨x,σ,M',Z',rfl,s,E,p.s,h⟩
 |bad=>exact True.intro
theorem n_.nx0(E:En Z Wr M σ τ):n_ Z Wr M σ τ (.nx τ) (.nx σ M):=⟨σ,M,Z,rfl,.refl,E,.refl⟩
def bO(f g:XS):XS:=fun τ=>match f τ with
 |.nx τ1=>g τ1
 |r=>r
theorem cV{f g:FS}{x y:XS}(h:QS f x)(h2:QS g y):QS (cH f g) (bO x y):=fun Z Wr M σ τ E=>by
 have h:=h Z Wr M σ τ E;unfold cH bO
 generalize x τ=r at h
 cases r with
 |nx τ1=>
  obtain⟨σ1,M1,Z1,e,s,E1,p⟩:=h;rw[e];exact(h2 _ _ _ _ _ E1).shift s p
 |bk τ1=>obtain⟨σ1,M1,Z1,e,h⟩:=h;rw[e];exact⟨σ1,M1,Z1,rfl,h⟩
 |ct τ1=>obtain⟨σ1,M1,Z1,e,h⟩:=h;rw[e];exact⟨σ1,M1,Z1,rfl,h⟩
 |rt t fr τ1=>obtain⟨v,σ1,M1,Z1,e,h⟩:=h;rw[e];exact⟨v,σ1,M1,Z1,rfl,h⟩
 |err C fs τ1=>obtain⟨v,σ1,M1,Z1,e,h⟩:=h;rw[e];exact⟨v,σ1,M1,Z1,rfl,h⟩
 |bad=>exact True.intro
def oC:XS:=fun τ=>.nx τ
theorem vK:QS pU oC:=fun Z Wr M σ τ E=>.nx0 E
def oB(f:XE):XS:=fun τ=>iI (f τ) fun t τ1=>.rt t false τ1
theorem DV{f:FE}{x:XE}(h:QE f x):QS (lB f) (oB x):=fun Z Wr M σ τ E=>a_.j8 (h Z Wr M σ τ E) fun t τ1 v M1 Z1 s E1 r=>⟨v,σ,M1,Z1,rfl,.refl,E1,.refl,fun e=>(by cases e),fun _=>r⟩
def DH(f:XE):XS:=fun τ=>iI (f τ) fun t τ1=>.rt t true τ1
theorem VU{f:FE}{x:XE}(h:QF f x):QS (lB f) (DH x):=fun Z Wr M σ τ E=>a_.j8 (h Z Wr M σ τ E) fun t τ1 v M1 Z1 s E1 r=>⟨v,σ,M1,Z1,rfl,.refl,E1,.refl,fun _=>r,fun e=>(by cases e)⟩
theorem En.drop(E:En Z Wr M σ τ)(hl:σ'.length=σ.length)(hl':τ'.length=τ.length)(h:∀(i:Nat) s,τ'[i]? = some (some s)→τ[i]? = some (some s)∧σ'[i]? = σ[i]?):En Z Wr M σ' τ' where
 lt:=E.lt
 fr:=E.fr
 len:=by rw[hl,hl',E.len]
 on:=fun i s e=>by
  obtain⟨e1,e2⟩:=h i s e;obtain⟨v,e3,r⟩:=E.on i s e1;exact⟨v,e2.trans e3,r⟩
 dis:=fun i j s t k n e1 e2 h1 h2 q1 q2=>by
  obtain⟨e1,f1⟩:=h i s e1;obtain⟨e2,f2⟩:=h j t e2;exact E.dis i j s t k n e1 e2 h1 h2 (f1.symm.trans q1) (f2.symm.trans q2)
def uS(i:Nat):XS:=fun τ=>match τ[i]? with
 |some (some (.sh t))=>.rt t false τ
 |some (some (.ow t))=>.rt t true (τ.set i none)
 |_=>.bad
theorem VT(i:Nat):QS (lB (eV i)) (uS i):=fun Z Wr M σ τ E=>by
 unfold uS;split
 ·rename_i t e
  obtain⟨v,e1,r⟩:=E.on i _ e
  have:lB (eV i) σ M = .rt v M:=by unfold lB eV;rw[e1];rfl
  rw[this];exact⟨v,σ,M,Z,rfl,.refl,E,.refl,fun e=>(by cases e),fun _=>r⟩
 ·rename_i t e
  obtain⟨v,e1,k,o,q1,q2,q3,q4,q5⟩:=E.on i _ e;subst q1
  have:lB (eV i) σ M = .rt (.ref k) M:=by unfold lB eV;rw[e1];rfl
  rw[this];have hi:i<τ.length:=(bK e).1;have ne:∀(j:Nat) s,(τ.set i none)[j]? = some (some s)→j≠i∧τ[j]? = some (some s):=fun j s ej=>by
   by_cases c:j=i
   ·subst c
    rw[List.getElem?_set_self hi]at ej;cases ej
   ·rw[List.getElem?_set_ne (Ne.symm c)]at ej;exact⟨c,ej⟩
  refine⟨_,σ,M,Z,rfl,.refl,E.drop rfl (by rw[List.length_set]) fun j s ej=>⟨(ne j s ej).2,rfl⟩,fun j=>⟨?_,fun _=>rfl⟩,fun _=>⟨k,o,rfl,q3,q2,q4,q5,fun j s ej hs e3=>?_⟩,fun e=>(by cases e)⟩
  ·by_cases c:j=i
   ·subst c
    rw[List.getElem?_set_self hi,e];rfl
   ·rw[List.getElem?_set_ne (Ne.symm c)]
  ·obtain⟨c,ej⟩:=ne j s ej
   exact E.dis i j _ _ _ (Ne.symm c) e ej rfl hs e1 e3
 ·exact True.intro
def oA(t:XT)(f g:XS):XS:=fun τ=>iI (t τ) fun b τ1=>if b=true then f τ1 else g τ1
theorem vJ{t:FT}{f g:FS}{z:XT}{x y:XS}(h:QT t z)(h1:QS f x)(h2:QS g y):QS (p5 t f g) (oA z x y):=fun Z Wr M σ τ E=>a_.j8 (h Z Wr M σ τ E) fun b τ1 v M1 Z1 s E1 r=>by
 cases r;cases b with
 |true=>exact h1 _ _ _ _ _ E1
 |false=>exact h2 _ _ _ _ _ E1
abbrev k7:=XV→aY→Option aY
def QP(put:eA)(x:k7):Prop:=∀Z Wr M σ τ t v τ',En Z Wr M σ τ→Dn Z M t v→x t τ=some τ'→∃l,put v M=some l∧En Z Wr M (d9 σ l) τ'∧kY σ τ (d9 σ l) τ'
def iL(i:Nat)(s:Slot)(τ:aY):Option aY:=if i<τ.length∧dW τ[i]? = false then some (τ.set i (some s))else none
theorem OS{i j:Nat}{s:Option Slot}(c:i<τ.length)(h:dW (some s)=dW τ[i]?):dW (τ.set i s)[j]? = dW τ[j]?:=by
 by_cases q:j=i
 ·subst q;rw[List.getElem?_set_self c];exact h
 ·rw[List.getElem?_set_ne (Ne.symm q)]
theorem En.VN(E:En Z Wr M σ τ){i:Nat}{t:XV}{v:EV}(d:Dn Z M t v)(e:iL i (.sh t) τ=some τ'):En Z Wr M (σ.set i (some v)) τ'∧kY σ τ (σ.set i (some v)) τ':=by
 unfold iL at e;split at e
 ·rename_i c
  cases e;refine⟨⟨E.lt,E.fr,by rw[List.length_set,List.length_set];exact E.len,fun j s ej=>?_,fun j j' s s' k n ej mJ h1 h2=>?_⟩,fun j=>⟨OS c.1 (by rw[c.2];rfl),fun h=>?_⟩⟩
  ·by_cases q:j=i
   ·subst q
    rw[List.getElem?_set_self c.1]at ej;cases ej;exact⟨v,List.getElem?_set_self (by rw[E.len];exact c.1),d⟩
   ·rw[List.getElem?_set_ne (Ne.symm q)]at ej
    rw[List.getElem?_set_ne (Ne.symm q)];exact E.on j s ej
  ·have ne:∀(m:Nat) u,(τ.set i (some (.sh t)))[m]? = some (some u)→u.own=true→m≠i∧τ[m]? = some (some u):=fun m u em hu=>by
    by_cases q:m=i
    ·subst q
     rw[List.getElem?_set_self c.1]at em;cases em;cases hu
    ·rw[List.getElem?_set_ne (Ne.symm q)]at em;exact⟨q,em⟩
   obtain⟨n1,ej⟩:=ne j s ej h1;obtain⟨n2,mJ⟩:=ne j' s' mJ h2;rw[List.getElem?_set_ne (Ne.symm n1),List.getElem?_set_ne (Ne.symm n2)];exact E.dis j j' s s' k n ej mJ h1 h2
  ·by_cases q:j=i
   ·subst q;rw[c.2]at h;cases h
   ·rw[List.getElem?_set_ne (Ne.symm q)]
 ·cases e
theorem En.zDS(E:En Z Wr M σ τ){i:Nat}{t:XV}{v:EV}(d:RF Z Wr M σ τ t v)(e:iL i (.ow t) τ=some τ'):En Z Wr M (σ.set i (some v)) τ'∧kY σ τ (σ.set i (some v)) τ':=by
 obtain⟨l,o,q1,q2,q3,q4,q5,q6⟩:=d;unfold iL at e;split at e
 ·rename_i c
  cases e;have ne:∀(m:Nat) u,(τ.set i (some (.ow t)))[m]? = some (some u)→(i=m∧u = .ow t)∨(m≠i∧τ[m]? = some (some u)):=fun m u em=>by
   by_cases q:m=i
   ·subst q
    rw[List.getElem?_set_self c.1]at em;cases em;exact .inl ⟨rfl,rfl⟩
   ·rw[List.getElem?_set_ne (Ne.symm q)]at em;exact .inr ⟨q,em⟩
  have si:(σ.set i (some v))[i]? = some (some v):=List.getElem?_set_self (by rw[E.len];exact c.1);refine⟨⟨E.lt,E.fr,by rw[List.length_set,List.length_set];exact E.len,fun j s ej=>?_,fun j j' s s' k n ej mJ h1 h2=>?_⟩,fun j=>⟨OS c.1 (by rw[c.2];rfl),fun h=>?_⟩⟩
  ·rcases ne j s ej with⟨rfl,rfl⟩|⟨q,ej⟩
   ·exact⟨v,si,l,o,q1,q3,q2,q4,q5⟩
   ·rw[List.getElem?_set_ne (Ne.symm q)]
    exact E.on j s ej
  ·rcases ne j s ej with⟨rfl,rfl⟩|⟨n1,ej⟩
   ·rcases ne j' s' mJ with⟨rfl,rfl⟩|⟨n2,mJ⟩
    ·exact(n rfl).elim
    ·rw[si,List.getElem?_set_ne (Ne.symm n2),q1]
     intro z;cases z;exact q6 j' s' mJ h2
   ·rcases ne j' s' mJ with⟨rfl,rfl⟩|⟨n2,mJ⟩
    ·rw[si,List.getElem?_set_ne (Ne.symm n1),q1]
     intro z w;cases w;exact q6 j s ej h1 z
    ·rw[List.getElem?_set_ne (Ne.symm n1),List.getElem?_set_ne (Ne.symm n2)]
     exact E.dis j j' s s' k n ej mJ h1 h2
  ·by_cases q:j=i
   ·subst q;rw[c.2]at h;cases h
   ·rw[List.getElem?_set_ne (Ne.symm q)]
 ·cases e
def bU(i:Nat):k7:=fun t τ=>iL i (.sh t) τ
theorem iG(i:Nat):QP (pN i) (bU i):=fun Z Wr M σ τ t v τ' E d e=>⟨_,rfl,E.VN d e⟩
def n7:List Nat→List XV→aY→Option aY
 |[],[],τ=>some τ
 |i :: is,t :: ts,τ=>(iL i (.sh t) τ).bind fun τ1=>n7 is ts τ1
 |_,_,_=>none
theorem T6:∀(is:List Nat) (ts:List XV) (vs:List EV) (σ:bA) (τ τ':aY),En Z Wr M σ τ→a9 Z M ts vs→n7 is ts τ=some τ'→∃l,vA is vs=some l∧En Z Wr M (d9 σ l) τ'∧kY σ τ (d9 σ l) τ'
 |[],[],vs,σ,τ,τ',E,d,e=>by
  unfold a9 at d;subst d;cases e;exact⟨[],rfl,E,.refl⟩
 |i :: is,t :: ts,vs,σ,τ,τ',E,d,e=>by
  unfold a9 at d;obtain⟨x,r,q,d1,d2⟩:=d;subst q;unfold n7 at e;cases q:iL i (.sh t) τ with
  |none=>rw[q]at e;cases e
  |some τ1=>
   rw[q]at e;obtain⟨E1,p1⟩:=E.VN d1 q;obtain⟨l,z,E2,p2⟩:=T6 is ts r _ τ1 τ' E1 d2 e;exact⟨(i,x) :: l,by unfold vA;rw[z];rfl,E2,p1.trans p2⟩
 |[],_ :: _,_,_,_,_,_,_,e=>by cases e
 |_ :: _,[],_,_,_,_,_,_,e=>by cases e
def u7:XV→Option (List XV)
 |.lst ts=>some ts
 |.tup ts=>some ts
 |_=>none
theorem uE{t:XV}{v:EV}{ts:List XV}(d:bN Z M t v)(e:u7 t=some ts):∃xs,l4 M v=some xs∧a9 Z M ts xs:=by
 cases t <;> cases e
 ·have d:Dn Z M (.tup ts) v:=d
  unfold Dn at d;obtain⟨xs,q,h⟩:=d;subst q;exact⟨xs,rfl,h⟩
 ·obtain⟨k,q,xs,h1,h2⟩:=d
  subst q;exact⟨xs,by show getL M (.ref k)=_;unfold getL;simp only[h1],h2⟩
def cM(p:k7)(f:XE):XS:=fun τ=>iI (f τ) fun t τ1=>match p t τ1 with
 |some τ2=>.nx τ2
 |none=>.bad
theorem iT{p:eA}{f:FE}{y:k7}{x:XE}(hp:QP p y)(h:QE f x):QS (dQ p f) (cM y x):=fun Z Wr M σ τ E=>by
 refine a_.j8 (h Z Wr M σ τ E) fun t τ1 v M1 Z1 s E1 r=>?_;cases q:y t τ1 with
 |none=>exact True.intro
 |some τ2=>
  obtain⟨l,e,E2,p⟩:=hp _ _ _ _ _ _ _ _ E1 r q;simp only[e];exact⟨_,_,_,rfl,.refl,E2,p⟩
def uT(i:Nat)(f:XE):XS:=fun τ=>iI (f τ) fun t τ1=>match iL i (.ow t) τ1 with
 |some τ2=>.nx τ2
 |none=>.bad
theorem zDY{i:Nat}{f:FE}{x:XE}(h:QF f x):QS (dQ (pN i) f) (uT i x):=fun Z Wr M σ τ E=>by
 refine a_.j8 (h Z Wr M σ τ E) fun t τ1 v M1 Z1 s E1 r=>?_;cases q:iL i (.ow t) τ1 with
 |none=>exact True.intro
 |some τ2=>
  obtain⟨E2,p⟩:=E1.zDS r q;exact⟨_,_,_,rfl,.refl,E2,p⟩
def vC(is:List Nat)(g:XA):XS:=fun τ=>iI (g τ) fun ts τ1=>match n7 is ts τ1 with
 |some τ2=>.nx τ2
 |none=>.bad
theorem qPar{is:List Nat}{g:FA}{y:XA}(h:QA g y):QS (QK is g) (vC is y):=fun Z Wr M σ τ E=>by
 refine a_.j8 (h Z Wr M σ τ E) fun t τ1 v M1 Z1 s E1 r=>?_;cases q:n7 is t τ1 with
 |none=>exact True.intro
 |some τ2=>
  obtain⟨l,e,E2,p⟩:=T6 is t v σ τ1 τ2 E1 r q;simp only[e];exact⟨_,_,_,rfl,.refl,E2,p⟩
def pG(Z Wr:Nat→Prop)(M:Mem):lA→Prop
 |none=>True
 |some (.one k o)=>M[k]? = some o∧(Z k∨¬ Wr k)
 |some (.two k o l u)=>(M[k]? = some o∧(Z k∨¬ Wr k))∧M[l]? = some u∧(Z l∨¬ Wr l)
def RI:mC (List XV) (List EV×lA):=fun Z Wr M σ τ ts v=>a9 Z M ts v.1∧pG Z Wr M v.2
abbrev XI:=aY→XR (List XV)
def QI(f:FI)(x:XI):Prop:=∀Z Wr M σ τ,En Z Wr M σ τ→a_ RI Z Wr M σ τ (x τ) (f σ M)
theorem pG.ok{gd:lA}(h:pG Z Wr M gd):mG gd M:=by
 match gd,h with
 |none,_=>exact True.intro
 |some (.one k o),h=>exact h.1
 |some (.two k o l u),h=>exact⟨h.1.1,h.2.1⟩
theorem pG.step{gd:lA}(h:pG Z Wr M gd)(s:cQ Z Wr M Z' M'):pG Z' Wr M' gd:=by
 match gd,h with
 |none,_=>exact True.intro
 |some (.one k o),h=>exact⟨(s.keep _ (bK h.1).1 h.2).trans h.1,h.2.imp (s.sub _) id⟩
 |some (.two k o l u),h=>exact⟨⟨(s.keep _ (bK h.1.1).1 h.1.2).trans h.1.1,h.1.2.imp (s.sub _) id⟩,(s.keep _ (bK h.2.1).1 h.2.2).trans h.2.1,h.2.2.imp (s.sub _) id⟩
theorem Dn.PP{t:XV}{k:Nat}(d:Dn Z M t (.ref k)):Z k:=by
 cases t <;> unfold Dn at d
 all_goals first
  |(cases d;done)
  |(obtain⟨xs,q,_⟩:=d;cases q;done)
  |(obtain⟨l,q,z,_⟩:=d;cases q;exact z)
  |(obtain⟨q,z,_⟩:=d;cases q;exact z)
def lI(i:Int)(n:Nat):List XV:=(List.range n).map fun(k:Nat)=>XV.int (i+(k:Int))
theorem a9.map{γ:Type}{f:γ→XV}{g:γ→EV}:∀{l:List γ},(∀x∈l,Dn Z M (f x) (g x))→a9 Z M (l.map f) (l.map g)
 |[],_=>a9.nil
 |x :: l,h=>.cons (h x List.mem_cons_self) (a9.map fun y hy=>h y (List.mem_cons_of_mem _ hy))
theorem zAz{i:Int}{n:Nat}:a9 Z M (lI i n) (p6 i n):=a9.map fun _ _=>by unfold Dn;rfl
def asInt:XV→Option Int
 |.int i=>some i
 |_=>none
theorem UI{t:XV}{i:Int}(h:asInt t=some i):t = .int i:=by
 cases t <;> cases h;rfl
def RD(v:EV)(M1:Mem):Res (List EV×lA):=match pZ [v]with
 |some j=>if mD j then .ok (p6 0 j.toNat,none) M1 else .bad
 |none=>.bad
theorem zAx{f:FE}:tZ (a8 f bJ) σ M=(f σ M).bind RD:=by
 unfold tZ a8 bJ;cases f σ M with
 |err x M2=>rfl
 |bad=>rfl
 |ok w M2=>
  simp only[Res.bind,RD]
  all_goals (
   cases q:pZ [w]with
   |none=>rfl
   |some p=>by_cases c:mD p <;> simp[c])
def tV(f:XE):XI:=fun τ=>(f τ).bind fun t τ1=>match asInt t with
 |some j=>if mD j then .ok (lI 0 j.toNat) τ1 else .bad
 |none=>.bad
theorem WB{f:FE}{x:XE}(h:QE f x):QI (tZ (a8 f bJ)) (tV x):=fun Z Wr M σ τ E=>by
 rw[zAx];refine a_.bind (h Z Wr M σ τ E) fun t τ1 v M1 Z1 s E1 r=>?_;cases q:asInt t with
 |none=>exact True.intro
 |some j=>
  have:=UI q;subst this;have r:Dn Z1 M1 (.int j) v:=r;unfold Dn at r;subst r;dsimp only[pZ,RD];split
  ·exact a_.ok E1 ⟨zAz,True.intro⟩
  ·exact True.intro
def nG(put:k7)(body:XS):List XV→XS
 |[],τ=>.nx τ
 |t :: r,τ=>match put t τ with
  |none=>.bad
  |some τ1=>match body τ1 with
   |.nx τ2=>nG put body r τ2
   |.ct τ2=>nG put body r τ2
   |.bk τ2=>.nx τ2
   |o=>o
theorem O0{put:eA}{body:FS}{xp:k7}{xb:XS}(hp:QP put xp)(hb:QS body xb){gd:lA}:∀(ts:List XV) (xs:List EV) (Z:Nat→Prop) (M:Mem) (σ:bA) (τ:aY),En Z Wr M σ τ→a9 Z M ts xs→pG Z Wr M gd→n_ Z Wr M σ τ (nG xp xb ts τ) (l3 gd put body xs σ M)
 |[],xs,Z,M,σ,τ,E,d,g=>by
  unfold a9 at d;subst d;unfold l3 nG;rw[if_pos g.ok];exact .nx0 E
 |t :: ts,xs,Z,M,σ,τ,E,d,g=>by
  unfold a9 at d;obtain⟨x,r,q,d1,d2⟩:=d;subst q;unfold l3 nG;rw[if_pos g.ok];cases q:xp t τ with
  |none=>exact True.intro
  |some τ1=>
   obtain⟨l,e,E1,p1⟩:=hp _ _ _ _ _ _ _ _ E d1 q;simp only[e];have h:=hb _ _ _ _ _ E1
   generalize xb τ1=rr at h
   cases rr with
   |nx τ2=>
    obtain⟨σ2,M2,Z2,e2,s2,E2,p2⟩:=h;simp only[e2];exact(O0 hp hb ts r Z2 M2 σ2 τ2 E2 (s2.v_ d2) (g.step s2)).shift s2 (p1.trans p2)
   |ct τ2=>
    obtain⟨σ2,M2,Z2,e2,s2,E2,p2⟩:=h;simp only[e2];exact(O0 hp hb ts r Z2 M2 σ2 τ2 E2 (s2.v_ d2) (g.step s2)).shift s2 (p1.trans p2)
   |bk τ2=>
    obtain⟨σ2,M2,Z2,e2,s2,E2,p2⟩:=h;simp only[e2];exact⟨σ2,M2,Z2,rfl,s2,E2,p1.trans p2⟩
   |rt t2 fr τ2=>
    obtain⟨v,σ2,M2,Z2,e2,s2,E2,p2,h⟩:=h;simp only[e2];exact⟨v,σ2,M2,Z2,rfl,s2,E2,p1.trans p2,h⟩
   |err C fs τ2=>
    obtain⟨v,σ2,M2,Z2,e2,s2,E2,p2,h⟩:=h;simp only[e2];exact⟨v,σ2,M2,Z2,rfl,s2,E2,p1.trans p2,h⟩
   |bad=>exact True.intro
def DQ(fi:XI)(put:k7)(body:XS):XS:=fun τ=>iI (fi τ) fun ts τ1=>nG put body ts τ1
theorem qFor{fi:FI}{put:eA}{body:FS}{xi:XI}{xp:k7}{xb:XS}(hi:QI fi xi)(hp:QP put xp)(hb:QS body xb):QS (DU fi put body) (DQ xi xp xb):=fun Z Wr M σ τ E=>
 a_.j8 (hi Z Wr M σ τ E) fun t τ1 v M1 Z1 s E1 r=>O0 hp hb t v.1 Z1 M1 σ τ1 E1 r.1 r.2
def lF{α:Type}:XR α→XR α
 |.err _ _ _=>.bad
 |r=>r
theorem a_.lF{r:XR α}{res:Res β}(h:a_ R Z Wr M σ τ r res):a_ R Z Wr M σ τ (WS.lF r) (nI res):=by
 cases r with
 |ok t τ1=>obtain⟨v,M1,Z1,e,h⟩:=h;subst e;exact⟨v,M1,Z1,rfl,h⟩
 |err C fs τ1=>exact True.intro
 |bad=>exact True.intro
def dL(τ:aY)(own:List Nat):aY:=match own with
 |[]=>τ
 |i :: r=>(dL τ r).set i none
theorem TF:∀(own:List Nat) (τ:aY),(dL τ own).length=τ.length
 |[],_=>rfl
 |i :: r,τ=>by unfold dL;rw[List.length_set,TF r]
theorem N4:∀(own:List Nat) (σ:bA),(kI σ own).length=σ.length
 |[],_=>rfl
 |i :: r,τ=>by unfold kI;rw[List.length_set,N4 r]
theorem N2:∀{own:List Nat} {τ:aY} {j:Nat},j∉own→(dL τ own)[j]? = τ[j]?
 |[],_,_,_=>rfl
 |i :: r,τ,j,h=>by
  rw[List.mem_cons,not_or]at h;unfold dL;rw[List.getElem?_set_ne (Ne.symm h.1),N2 h.2]
theorem N3:∀{own:List Nat} {τ:bA} {j:Nat},j∉own→(kI τ own)[j]? = τ[j]?
 |[],_,_,_=>rfl
 |i :: r,τ,j,h=>by
  rw[List.mem_cons,not_or]at h;unfold kI;rw[List.getElem?_set_ne (Ne.symm h.1),N3 h.2]
theorem N_:∀{own:List Nat} {τ:aY} {j:Nat} {s:Slot},j∈own→(dL τ own)[j]?≠some (some s)
 |i :: r,τ,j,s,h=>by
  unfold dL;by_cases c:j=i
  ·subst c
   rw[List.getElem?_set];split <;> intro z
   ·split at z <;> cases z
   ·exact absurd rfl (by assumption)
  ·rw[List.getElem?_set_ne (Ne.symm c)]
   exact N_ ((List.mem_cons.mp h).resolve_left c)
theorem TQ:∀{l:List (Nat×EV)} {σ:bA} {j:Nat},(∀p∈l,p.1≠j)→(d9 σ l)[j]? = σ[j]?
 |[],_,_,_=>rfl
 |p :: l,σ,j,h=>by
  unfold d9;rw[TQ fun q hq=>h q (List.mem_cons_of_mem _ hq),List.getElem?_set_ne (h p List.mem_cons_self)]
theorem TR:∀{l:List (Nat×EV)} {σ:bA},(d9 σ l).length=σ.length
 |[],_=>rfl
 |p :: l,σ=>by unfold d9;rw[TR,List.length_set]
theorem En.OZ{own:List Nat}(E:En Z Wr M σ1 τ1)(hl:σ.length=σ1.length)(h:∀j,j∉own→σ[j]? = σ1[j]?):En Z Wr M σ (dL τ1 own):=
 E.drop hl (TF _ _) fun i s e=>by
  by_cases c:i∈own
  ·exact absurd e (N_ c)
  ·rw[N2 c]at e;exact⟨e,h i c⟩
theorem s6{own:List Nat}(h:∀i∈own,dW τ[i]? = false):Pin τ (dL τ own):=fun i=>by
 by_cases c:i∈own
 ·rw[h i c]
  cases q:(dL τ own)[i]? with
  |none=>rfl
  |some o=>
   cases o with
   |none=>rfl
   |some s=>exact absurd q (N_ c)
 ·rw[N2 c]
def mF(t:XT)(e:XE):aY→XR (Option XV):=fun τ=>(lF (t τ)).bind fun b τ2=>if b=true then(lF (e τ2)).bind fun v τ3=>.ok (some v) τ3 else .ok none τ2
def RN(t:FT)(e:FE)(σ:bA)(M:Mem):Res (Option EV):=(nI (t σ M)).bind fun b M1=>if b=true then(nI (e σ M1)).bind fun v M2=>.ok (some v) M2 else .ok none M1
def RO1:mC (Option XV) (Option EV):=fun Z _ M _ _ t v=>match t,v with
 |some t,some v=>Dn Z M t v
 |none,none=>True
 |_,_=>False
theorem qEl{t:FT}{e:FE}{xt:XT}{xe:XE}(ht:QT t xt)(he:QE e xe)(E:En Z Wr M σ τ):a_ RO1 Z Wr M σ τ (mF xt xe τ) (RN t e σ M):=
 a_.bind (ht Z Wr M σ τ E).lF fun b τ1 v M1 Z1 s E1 r=>by
  cases r;cases b with
  |false=>exact a_.ok E1 True.intro
  |true=>exact a_.bind (he _ _ _ _ _ E1).lF fun b τ2 v M2 Z2 s E2 r=>a_.ok E2 r
def pB{α:Type}(acc:List α):Option α→List α
 |some v=>acc ++ [v]
 |none=>acc
theorem XW{gd:lA}{put:eA}{t:FT}{e:FE}{σ:bA}{x:EV}{r:List EV}{M:Mem}{acc:List EV}{l:List (Nat×EV)}(h:mG gd M)(hl:put x M=some l):lC gd put t e σ (x :: r) M acc=(RN t e (d9 σ l) M).bind fun o M2=>lC gd put t e σ r M2 (pB acc o):=by
 conv=>lhs;unfold lC
 rw[if_pos h];simp only[hl];unfold RN;cases nI (t (d9 σ l) M)with
 |err x M1=>rfl
 |bad=>rfl
 |ok b M1=>
  cases b with
  |false=>rfl
  |true=>
   show((nI (e (d9 σ l) M1)).bind fun v M2=>lC gd put t e σ r M2 (acc ++ [v]))=((nI (e (d9 σ l) M1)).bind fun v M2=>.ok (some v) M2).bind _;cases nI (e (d9 σ l) M1) <;> rfl
def lH(own:List Nat)(put:k7)(t:XT)(e:XE):List XV→aY→List XV→XR (List XV)
 |[],τ,acc=>.ok acc τ
 |x :: r,τ,acc=>match put x τ with
  |none=>.bad
  |some τ1=>match mF t e τ1 with
   |.ok o τ2=>lH own put t e r (dL τ2 own) (pB acc o)
   |_=>.bad
def m8(own:List Nat)(τ:aY):Prop:=∀i∈own,dW τ[i]? = false
theorem m8.pin{own:List Nat}(h:m8 own τ)(p:Pin τ τ'):m8 own τ':=fun i hi=>(p i).trans (h i hi)
theorem X7{t:XT}{e:XE}{C:Addr}{fs:Option (List (Str×XV))}:mF t e τ≠.err C fs τ':=by
 unfold mF;cases t τ with
 |err _ _ _=>exact fun z=>by cases z
 |bad=>exact fun z=>by cases z
 |ok b τ1=>
  cases b with
  |false=>exact fun z=>by cases z
  |true=>
   show(lF (e τ1)).bind _≠_;cases e τ1 <;> exact fun z=>by cases z
theorem VW{own:List Nat}{put:eA}{t:FT}{e:FE}{xp:k7}{xt:XT}{xe:XE}(hp:QP put xp)(ht:QT t xt)(he:QE e xe)(hin:u_ put own){gd:lA}:∀(ts:List XV) (xs:List EV) (acc:List XV) (acc':List EV) (Z:Nat→Prop) (M:Mem) (σ:bA) (τ:aY),En Z Wr M σ τ→m8 own τ→a9 Z M ts xs→a9 Z M acc acc'→pG Z Wr M gd→a_ RA Z Wr M σ τ (lH own xp xt xe ts τ acc) (lC gd put t e σ xs M acc')
 |[],xs,acc,acc',Z,M,σ,τ,E,nm,d,da,g=>by
  unfold a9 at d;subst d;unfold lC lH;rw[if_pos g.ok];exact a_.ok E da
 |x :: ts,xs,acc,acc',Z,M,σ,τ,E,nm,d,da,g=>by
  unfold a9 at d;obtain⟨v,r,q,d1,d2⟩:=d;subst q;unfold lH;cases q:xp x τ with
  |none=>exact True.intro
  |some τ1=>
   obtain⟨l,el,E1,p1⟩:=hp _ _ _ _ _ _ _ _ E d1 q;rw[XW g.ok el];have out:∀j,j∉own→σ[j]? = (d9 σ l)[j]?:=fun j hj=>(TQ fun p hq z=>hj (by rw[← z];exact hin _ _ _ el p hq)).symm;have p1':Pin τ τ1:=fun i=>(p1 i).1;have h:=qEl ht he E1;revert h;dsimp only;cases q2:mF xt xe τ1 with
   |err C fs τ2=>exact absurd q2 X7
   |bad=>exact fun _=>True.intro
   |ok o τ2=>
    rintro⟨v2,M2,Z2,e2,s2,E2,p2,h⟩;rw[e2];have v6:=(nm.pin p1').pin p2;have E3:En Z2 Wr M2 σ (dL τ2 own):=E2.OZ TR.symm out;have da2:a9 Z2 M2 (pB acc o) (pB acc' v2):=by
     cases o <;> cases v2
     ·exact s2.v_ da
     ·exact h.elim
     ·exact h.elim
     ·exact(s2.v_ da).app (.cons h .nil)
    exact(VW hp ht he hin ts r (pB acc o) (pB acc' v2) Z2 M2 σ _ E3 (v6.pin (s6 v6)) (s2.v_ d2) da2 (g.step s2)).shift s2 ((p1'.trans p2).trans (s6 v6))
def D5(own:List Nat)(fi:XI)(put:k7)(t:XT)(e:XE):XE:=fun τ=>(fi τ).bind fun ts τ1=>if ts.length≤sizeLine∧m8 own τ1 then(match lH own put t e ts (dL τ1 own) []with
 |.ok acc τ2=>if acc.length≤sizeLine then .ok (.lst acc) (dL τ2 own)else .bad
 |_=>.bad)else .bad
theorem TC{own:List Nat}{p:k7}{t:XT}{e:XE}{C:Addr}{fs:Option (List (Str×XV))}:∀{ts:List XV} {τ:aY} {acc:List XV},lH own p t e ts τ acc≠.err C fs τ'
 |[],_,_=>fun z=>by cases z
 |x :: ts,τ,acc=>by
  unfold lH;cases p x τ with
  |none=>exact fun z=>by cases z
  |some τ1=>
   dsimp only;cases mF t e τ1 with
   |ok o τ2=>exact TC
   |err _ _ _=>exact fun z=>by cases z
   |bad=>exact fun z=>by cases z
theorem qLc{own:List Nat}{fi:FI}{put:eA}{t:FT}{e:FE}{xi:XI}{xp:k7}{xt:XT}{xe:XE}(hi:QI fi xi)(hp:QP put xp)(ht:QT t xt)(he:QE e xe)(hin:u_ put own):QF (v9 own fi put t e) (D5 own xi xp xt xe):=fun Z Wr M σ τ E=>by
 refine a_.bind (hi Z Wr M σ τ E) fun ts τ1 v M1 Z1 s E1 r=>?_;split
 ·rename_i c
  have c1:v.1.length≤sizeLine:=by rw[r.1.len];exact c.1
  rw[if_pos c1];have E2:En Z1 Wr M1 (kI σ own) (dL τ1 own):=E1.OZ (N4 _ _) fun j hj=>N3 hj;have h:=VW hp ht he hin ts v.1 [] [] Z1 M1 (kI σ own) (dL τ1 own) E2 (c.2.pin (s6 c.2)) r.1 .nil r.2;revert h;cases q:lH own xp xt xe ts (dL τ1 own) []with
  |err C fs τ2=>exact absurd q TC
  |bad=>exact fun _=>True.intro
  |ok acc τ2=>
   rintro⟨v2,M2,Z2,e2,s2,E3,p2,h⟩;rw[e2];dsimp only;split
   ·rename_i c2
    have v6:=(c.2.pin (s6 c.2)).pin p2;have E4:En Z2 Wr M2 σ (dL τ2 own):=E3.OZ (N4 _ _).symm fun j hj=>(N3 hj).symm;exact((s7 h c2).post E4).shift s2 (((s6 c.2).trans p2).trans (s6 v6))
   ·exact True.intro
 ·exact True.intro
end
inductive Md where
 |sh|bo|mu
inductive qF where
 |ok (t:XV) (fr:Bool) (outs:List XV)|err (C:Addr) (fs:Option (List (Str×XV))) (outs:List XV)|bad
abbrev dX:=List XV→qF
section
variable(Z:Nat→Prop)(M:Mem)
def pD:List Md→List XV→List EV→Prop
 |[],ts,vs=>ts = []∧vs = []
 |m :: ms,ts,vs=>∃t ts' v vs',ts=t :: ts'∧vs=v :: vs'∧(match m with
   |.sh=>Dn Z M t v
   |.bo=>bN Z M t v∧∀k,v = .ref k→k<M.length
   |.mu=>∃k o,v = .ref k∧¬ Z k∧M[k]? = some o∧Nd Z M t o)∧pD ms ts' vs'
def m7:List Md→List EV→List XV→Prop
 |[],_,outs=>outs = []
 |.mu :: ms,vs,outs=>∃k o t r vs',vs = .ref k :: vs'∧outs=t :: r∧M[k]? = some o∧Nd Z M t o∧m7 ms vs' r
 |_ :: ms,vs,outs=>m7 ms vs.tail outs
end
def pV:EV→Option Nat
 |.ref k=>some k
 |_=>none
def cB:List Md→List EV→List Nat
 |.mu :: ms,v :: vs=>(match pV v with|some k=>k :: cB ms vs|none=>cB ms vs)
 |_ :: ms,_ :: vs=>cB ms vs
 |_,_=>[]
def nN:List Md→List EV→List Nat
 |.bo :: ms,v :: vs=>(match pV v with|some k=>k :: nN ms vs|none=>nN ms vs)
 |_ :: ms,_ :: vs=>nN ms vs
 |_,_=>[]
structure D4(Z:Nat→Prop)(M:Mem)(Z':Nat→Prop)(M':Mem)(S:List Nat):Prop where
 len:M.length≤M'.length
 sub:∀k,Z k→Z' k
 new:∀k,Z' k→Z k∨M.length≤k
 lt:∀k,Z' k→k<M'.length
 keep:∀k,k<M.length→k∉S→M'[k]? = M[k]?
def nC(ms:List Md)(m:Fn)(p:dX):Prop:=∀(Z:Nat→Prop) (M:Mem) (vs:List EV) (ts:List XV),(∀k,Z k→k<M.length)→pD Z M ms ts vs→(cB ms vs).Nodup→(∀k∈nN ms vs,k∉cB ms vs)→match p ts with
 |.ok t fr outs=>∃v M' Z',m vs M = .ok v M'∧D4 Z M Z' M' (cB ms vs)∧m7 Z' M' ms vs outs∧(fr=true→∃k o,v = .ref k∧M.length≤k∧¬ Z' k∧M'[k]? = some o∧Nd Z' M' t o)∧(fr=false→Dn Z' M' t v)
 |.err C fs outs=>∃x M' Z',m vs M = .err x M'∧D4 Z M Z' M' (cB ms vs)∧m7 Z' M' ms vs outs∧x.cls=C∧R3 Z' M' fs x.fs
 |.bad=>True
def OY(m:Md)(t:XV):Slot:=match m with
 |.sh=>.sh t
 |.bo=>.bo t
 |.mu=>.mu t
def slotsOf:List Md→List XV→aY
 |m :: ms,t :: ts=>some (OY m t) :: slotsOf ms ts
 |_,_=>[]
def dU:List Md→aY→List XV
 |.mu :: ms,s :: τ=>(match s with|some s=>s.t :: dU ms τ|none=>dU ms τ)
 |_ :: ms,_ :: τ=>dU ms τ
 |_,_=>[]
def nU(N:Nat)(ms:List Md)(body:XS):dX:=fun ts=>match body (slotsOf ms ts++List.replicate (N-ts.length) none)with
 |.rt t fr τ=>.ok t fr (dU ms τ)
 |.nx τ=>.ok .non false (dU ms τ)
 |.err C fs τ=>.err C fs (dU ms τ)
 |_=>.bad
section
variable{Z Z' Wr:Nat→Prop}{M M':Mem}
theorem pD.lens:∀{ms:List Md} {ts:List XV} {vs:List EV},pD Z M ms ts vs→ts.length=ms.length∧vs.length=ms.length
 |[],_,_,h=>by obtain⟨e1,e2⟩:=h;subst e1 e2;exact⟨rfl,rfl⟩
 |m :: ms,_,_,h=>by
  obtain⟨t,ts',v,vs',e1,e2,_,h⟩:=h;subst e1 e2;obtain⟨a,b⟩:=h.lens;exact⟨by rw[List.length_cons,List.length_cons,a],by rw[List.length_cons,List.length_cons,b]⟩
theorem NI:∀{ms:List Md} {ts:List XV},ts.length=ms.length→(slotsOf ms ts).length=ms.length
 |[],ts,h=>by cases ts <;> rfl
 |m :: ms,[],h=>by cases h
 |m :: ms,t :: ts,h=>by
  unfold slotsOf;rw[List.length_cons,List.length_cons,NI (by simpa using h)]
theorem slots_get:∀{ms:List Md} {ts:List XV} {vs:List EV} {i:Nat} {s:Option Slot},pD Z M ms ts vs→(slotsOf ms ts)[i]? = some s→∃m t v,ms[i]? = some m∧s=some (OY m t)∧vs[i]? = some v∧(match m with
   |.sh=>Dn Z M t v
   |.bo=>bN Z M t v∧∀k,v = .ref k→k<M.length
   |.mu=>∃k o,v = .ref k∧¬ Z k∧M[k]? = some o∧Nd Z M t o)
 |[],_,_,i,s,h,e=>by obtain⟨e1,e2⟩:=h;subst e1 e2;cases e
 |m :: ms,_,_,i,s,h,e=>by
  obtain⟨t,ts',v,vs',e1,e2,c,h⟩:=h;subst e1 e2;unfold slotsOf at e;cases i with
  |zero=>cases e;exact⟨m,t,v,rfl,rfl,rfl,c⟩
  |succ i=>
   obtain⟨m',t',v',a,b⟩:=slots_get h (i:=i) (s:=s) (by simpa using e);exact⟨m',t',v',by simpa using a,b⟩
theorem CV:∀{ms:List Md} {vs:List EV} {i k:Nat},ms[i]? = some .mu→vs[i]? = some (.ref k)→k∈cB ms vs
 |[],_,i,k,e,_=>by cases e
 |m :: ms,[],i,k,_,e=>by cases e
 |m :: ms,v :: vs,0,k,e1,e2=>by cases e1;cases e2;exact List.mem_cons_self
 |m :: ms,v :: vs,i+1,k,e1,e2=>by
  have h:=CV (ms:=ms) (vs:=vs) (i:=i) (k:=k) (by simpa using e1) (by simpa using e2);unfold cB;split
  ·rename_i h1 h2
   cases h1;cases h2;split
   ·exact List.mem_cons_of_mem _ h
   ·exact h
  ·rename_i h1 h2
   cases h1;cases h2;exact h
  ·rename_i h1
   exact(h1 _ _ _ _ rfl rfl).elim
theorem T1:∀{ms:List Md} {vs:List EV} {i k:Nat},ms[i]? = some .bo→vs[i]? = some (.ref k)→k∈nN ms vs
 |[],_,i,k,e,_=>by cases e
 |m :: ms,[],i,k,_,e=>by cases e
 |m :: ms,v :: vs,0,k,e1,e2=>by cases e1;cases e2;exact List.mem_cons_self
 |m :: ms,v :: vs,i+1,k,e1,e2=>by
  have h:=T1 (ms:=ms) (vs:=vs) (i:=i) (k:=k) (by simpa using e1) (by simpa using e2);unfold nN;split
  ·rename_i h1 h2
   cases h1;cases h2;split
   ·exact List.mem_cons_of_mem _ h
   ·exact h
  ·rename_i h1 h2
   cases h1;cases h2;exact h
  ·rename_i h1
   exact(h1 _ _ _ _ rfl rfl).elim
theorem TV:∀{ms:List Md} {vs:List EV} {i j k:Nat},(cB ms vs).Nodup→ms[i]? = some .mu→ms[j]? = some .mu→vs[i]? = some (.ref k)→vs[j]? = some (.ref k)→i=j
 |[],_,i,_,k,_,e,_,_,_=>by cases e
 |m :: ms,[],i,_,k,_,_,_,e,_=>by cases e
 |m :: ms,v :: vs,0,0,k,_,e1,e2,f1,f2=>rfl
 |m :: ms,v :: vs,0,j+1,k,nd,e1,e2,f1,f2=>by
  cases e1;cases f1;have h:=CV (ms:=ms) (vs:=vs) (i:=j) (k:=k) (by simpa using e2) (by simpa using f2);have nd:(k :: cB ms vs).Nodup:=nd;rw[List.nodup_cons]at nd;exact(nd.1 h).elim
 |m :: ms,v :: vs,i+1,0,k,nd,e1,e2,f1,f2=>by
  cases e2;cases f2;have h:=CV (ms:=ms) (vs:=vs) (i:=i) (k:=k) (by simpa using e1) (by simpa using f1);have nd:(k :: cB ms vs).Nodup:=nd;rw[List.nodup_cons]at nd;exact(nd.1 h).elim
 |m :: ms,v :: vs,i+1,j+1,k,nd,e1,e2,f1,f2=>by
  have nd':(cB ms vs).Nodup:=by
   cases m with
   |mu=>
    unfold cB at nd;cases q:pV v with
    |none=>rw[q]at nd;exact nd
    |some l=>rw[q]at nd;exact(List.nodup_cons.mp nd).2
   |sh=>exact nd
   |bo=>exact nd
  rw[TV nd' (i:=i) (j:=j) (k:=k) (by simpa using e1) (by simpa using e2) (by simpa using f1) (by simpa using f2)]
theorem pK:∀{ms:List Md} {vs:List EV} {k:Nat},k∈cB ms vs→∃i:Nat,ms[i]? = some .mu∧vs[i]? = some (.ref k)
 |[],vs,k,h=>by cases vs <;> cases h
 |m :: ms,[],k,h=>by cases m <;> cases h
 |m :: ms,v :: vs,k,h=>by
  have lift:(∃i:Nat,ms[i]? = some .mu∧vs[i]? = some (.ref k))→∃i:Nat,(m :: ms)[i]? = some .mu∧(v :: vs)[i]? = some (.ref k):=fun⟨i,a,b⟩=>⟨i+1,by simpa using a,by simpa using b⟩;cases m with
  |mu=>
   unfold cB at h;cases q:pV v with
   |none=>rw[q]at h;exact lift (pK h)
   |some l=>
    rw[q]at h;rcases List.mem_cons.mp h with e|h
    ·subst e
     refine⟨0,rfl,?_⟩;cases v <;> cases q;rfl
    ·exact lift (pK h)
  |sh=>exact lift (pK h)
  |bo=>exact lift (pK h)
theorem W5:∀{ms:List Md},dU ms [] = []
 |[]=>rfl
 |.mu :: _=>rfl
 |.sh :: _=>rfl
 |.bo :: _=>rfl
theorem OQ:∀{ms:List Md} {vs:List EV} {τ:aY},(∀(i:Nat),ms[i]? = some .mu→∃k o s,vs[i]? = some (.ref k)∧τ[i]? = some (some s)∧M[k]? = some o∧Nd Z M s.t o)→m7 Z M ms vs (dU ms τ)
 |[],vs,τ,h=>by unfold m7 dU;rfl
 |m :: ms,vs,[],h=>by
  have ih:m7 Z M ms vs.tail (dU ms []):=OQ (fun i e=>by
   obtain⟨k,o,s',a,b,c⟩:=h (i+1) (by simpa using e);cases b)
  rw[W5]at ih⊢;cases m with
  |sh=>exact ih
  |bo=>exact ih
  |mu=>obtain⟨k,o,s',a,b,c,d⟩:=h 0 rfl;cases b
 |m :: ms,vs,s :: τ,h=>by
  have ih:m7 Z M ms vs.tail (dU ms τ):=OQ (fun i e=>by
   obtain⟨k,o,s',a,b,c⟩:=h (i+1) (by simpa using e);refine⟨k,o,s',?_,by simpa using b,c⟩;cases vs with
   |nil=>cases a
   |cons v vs=>simpa using a)
  cases m with
  |sh=>exact ih
  |bo=>exact ih
  |mu=>
   obtain⟨k,o,s',a,b,c,d⟩:=h 0 rfl;cases b;cases vs with
   |nil=>cases a
   |cons v vs=>
    cases a;exact⟨k,o,_,_,vs,rfl,rfl,c,d,ih⟩
theorem En.start{ms:List Md}{ts:List XV}{vs:List EV}{N:Nat}(hZ:∀k,Z k→k<M.length)(h:pD Z M ms ts vs)(nd:(cB ms vs).Nodup)(hb:∀k∈nN ms vs,k∉cB ms vs):En Z (fun k=>M.length≤k∨k∈cB ms vs) M (vs.map some++List.replicate (N-vs.length) none) (slotsOf ms ts++List.replicate (N-ts.length) none):=by
 obtain⟨l1,l2⟩:=h.lens;have ls:=NI l1;have g:∀(i:Nat) (s:Slot),(slotsOf ms ts++List.replicate (N-ts.length) none)[i]? = some (some s)→(slotsOf ms ts)[i]? = some (some s)∧∀v,vs[i]? = some v→(vs.map some++List.replicate (N-vs.length) none)[i]? = some (some v):=fun i s e=>by
  by_cases c:i<(slotsOf ms ts).length
  ·rw[List.getElem?_append_left c]at e
   refine⟨e,fun v ev=>?_⟩;rw[List.getElem?_append_left (by rw[List.length_map];exact(bK ev).1),List.getElem?_map,ev];rfl
  ·rw[List.getElem?_append_right (Nat.le_of_not_lt c),List.getElem?_replicate]at e
   split at e <;> cases e
 refine⟨hZ,fun k h=>.inl h,by simp only[List.length_append,List.length_map,List.length_replicate];omega,fun i s e=>?_,fun i j s t k n e1 e2 h1 h2 f1 f2=>?_⟩
 ·obtain⟨e1,gv⟩:=g i s e
  obtain⟨m,t,v,a,b,c,d⟩:=slots_get h e1;cases b;refine⟨v,gv v c,?_⟩;cases m with
  |sh=>exact d
  |bo=>
   refine⟨d.1,fun k e=>⟨?_,d.2 k e⟩⟩;subst e;rintro(q|q)
   ·have:=d.2 k rfl;omega
   ·exact hb k (T1 a c) q
  |mu=>
   obtain⟨k,o,q1,q2,q3,q4⟩:=d;subst q1;exact⟨k,o,rfl,.inr (CV a c),q2,q3,q4⟩
 ·obtain⟨e1,gv⟩:=g i s e1
  obtain⟨e2,gw⟩:=g j t e2;obtain⟨m,t1,v,a1,b1,c1,d1⟩:=slots_get h e1;obtain⟨m',t2,v',a2,b2,c2,d2⟩:=slots_get h e2;cases b1;cases b2;have q1:=gv v c1;rw[f1]at q1;cases q1;have q2:=gw v' c2;rw[f2]at q2;cases q2;cases m <;> cases h1;cases m' <;> cases h2;exact n (TV nd a1 a2 c1 c2)
theorem O4{ms:List Md}{ts:List XV}{vs:List EV}{N:Nat}{σ':bA}{τ':aY}(hZ:∀k,Z k→k<M.length)(h:pD Z M ms ts vs)(s:cQ Z (fun k=>M.length≤k∨k∈cB ms vs) M Z' M')(E:En Z' (fun k=>M.length≤k∨k∈cB ms vs) M' σ' τ')(p:kY (vs.map some++List.replicate (N-vs.length) none) (slotsOf ms ts++List.replicate (N-ts.length) none) σ' τ'):
  D4 Z M Z' M' (cB ms vs)∧m7 Z' M' ms vs (dU ms τ')∧(∀k∈cB ms vs,¬ Z' k∧∃(i:Nat) (s:Slot),τ'[i]? = some (some s)∧s.own=true∧σ'[i]? = some (some (.ref k))):=by
 obtain⟨l1,l2⟩:=h.lens;have ls:=NI l1;have tM:∀(i:Nat),ms[i]? = some .mu→∃k o s,vs[i]? = some (.ref k)∧τ'[i]? = some (some s)∧s.own=true∧σ'[i]? = some (some (.ref k))∧¬ Z' k∧M'[k]? = some o∧Nd Z' M' s.t o:=fun i e=>by
  have hi:i<ms.length:=(bK e).1;obtain⟨x,hx⟩:∃x,(slotsOf ms ts)[i]? = some x:=⟨_,List.getElem?_eq_getElem (by rw[ls];exact hi)⟩;obtain⟨m,t,v,a,b,c,d⟩:=slots_get h hx;rw[e]at a;cases a;obtain⟨k,o,q1,_⟩:=d;subst q1 b;have e1:(slotsOf ms ts++List.replicate (N-ts.length) none)[i]? = some (some (OY .mu t)):=by rw[List.getElem?_append_left (by rw[ls];exact hi)];exact hx
  have e2:(vs.map some++List.replicate (N-vs.length) none)[i]? = some (some (EV.ref k)):=by rw[List.getElem?_append_left (by rw[List.length_map];omega),List.getElem?_map,c];rfl
  obtain⟨p1,p2⟩:=p i;have m0:dW (slotsOf ms ts++List.replicate (N-ts.length) none)[i]? = true:=by rw[e1];rfl
  rw[m0]at p1;have p3:=(p2 m0).trans e2;cases q:τ'[i]? with
  |none=>rw[q]at p1;cases p1
  |some x=>
   cases x with
   |none=>rw[q]at p1;cases p1
   |some s=>
    rw[q]at p1;cases s with
    |mu u=>
     obtain⟨w,f1,k',o',g1,g2,g3,g4,g5⟩:=E.on i _ q;rw[p3]at f1;cases f1;cases g1;exact⟨k,o',.mu u,c,rfl,rfl,p3,g3,g4,g5⟩
    |sh u=>cases p1
    |bo u=>cases p1
    |ow u=>cases p1
 have bad:∀k∈cB ms vs,¬ Z' k∧∃(i:Nat) (s:Slot),τ'[i]? = some (some s)∧s.own=true∧σ'[i]? = some (some (.ref k)):=fun k hk=>by
  obtain⟨i,e1,e2⟩:=pK hk;obtain⟨k',o,s,a1,a2,a3,a4,a5,_⟩:=tM i e1;rw[e2]at a1;cases a1;exact⟨a5,i,s,a2,a3,a4⟩
 refine⟨⟨s.len,s.sub,fun k h=>?_,E.lt,fun k h1 h2=>s.keep k h1 (.inr ?_)⟩,OQ fun i e=>?_,bad⟩
 ·rcases s.new k h with q|q|q
  ·exact .inl q
  ·exact .inr q
  ·exact((bad k q).1 h).elim
 ·rintro(q|q)
  ·omega
  ·exact h2 q
 ·obtain⟨k',o,s,a1,a2,a3,a4,a5,a6,a7⟩:=tM i e
  exact⟨k',o,s,a1,a2,a6,a7⟩
theorem uM{ms:List Md}{N:Nat}{b:FS}{x:XS}(h:QS b x):nC ms (fnOf N b) (nU N ms x):=fun Z M vs ts hZ ha nd hb=>by
 have E:=En.start (N:=N) hZ ha nd hb;have h:=h _ _ _ _ _ E;unfold nU fnOf
 generalize x (slotsOf ms ts++List.replicate (N-ts.length) none)=r at h
 cases r with
 |bk τ'=>exact True.intro
 |ct τ'=>exact True.intro
 |bad=>exact True.intro
 |nx τ'=>
  obtain⟨σ',M',Z',e,s,E',p⟩:=h;obtain⟨f,o,bad⟩:=O4 hZ ha s E' p;rw[e];exact⟨_,M',Z',rfl,f,o,fun e=>(by cases e),fun _=>by unfold Dn;rfl⟩
 |rt t fr τ'=>
  obtain⟨v,σ',M',Z',e,s,E',p,h1,h2⟩:=h;obtain⟨f,o,bad⟩:=O4 hZ ha s E' p;rw[e];refine⟨_,M',Z',rfl,f,o,fun e=>?_,h2⟩;obtain⟨k,ob,q1,q2,q3,q4,q5,q6⟩:=h1 e;refine⟨k,ob,q1,?_,q2,q4,q5⟩;rcases q3 with q|q
  ·exact q
  ·obtain⟨_,i,s',a1,a2,a3⟩:=bad k q
   exact(q6 i s' a1 a2 a3).elim
 |err C fs τ'=>
  obtain⟨x,σ',M',Z',e,s,E',p,h1,h2⟩:=h;obtain⟨f,o,bad⟩:=O4 hZ ha s E' p;rw[e];exact⟨_,M',Z',rfl,f,o,h1,h2⟩
def varO:BV→Option Nat
 |.val _=>none
 |.var i=>some i
def k_(τ:aY)(i:Nat):Option XV:=match τ[i]? with
 |some (some s)=>if s.own=true then some s.t else none
 |_=>none
theorem C2{τ:aY}{i:Nat}{t:XV}(h:k_ τ i=some t):∃s,τ[i]? = some (some s)∧s.own=true∧s.t=t:=by
 unfold k_ at h;split at h
 ·rename_i s e
  split at h
  ·rename_i c;cases h;exact⟨s,e,c,rfl⟩
  ·cases h
 ·cases h
def mR(τ:aY):Md→BV→Option XV
 |.sh,.val t=>some t
 |.sh,.var _=>none
 |.bo,b=>resB τ b
 |.mu,.val _=>none
 |.mu,.var i=>k_ τ i
def getArgs(τ:aY):List Md→List BV→Option (List XV)
 |[],[]=>some []
 |m :: ms,b :: bs=>match mR τ m b,getArgs τ ms bs with
  |some t,some ts=>some (t :: ts)
  |_,_=>none
 |_,_=>none
def Slot.put(t:XV):Slot→Slot
 |.ow _=>.ow t
 |.mu _=>.mu t
 |s=>s
def iF(τ:aY)(i:Nat)(t:XV):aY:=match τ[i]? with
 |some (some s)=>τ.set i (some (s.put t))
 |_=>τ
def bH(τ:aY):List Md→List BV→List XV→aY
 |.mu :: ms,.var i :: bs,t :: outs=>bH (iF τ i t) ms bs outs
 |.mu :: ms,_ :: bs,outs=>bH τ ms bs outs
 |_ :: ms,_ :: bs,outs=>bH τ ms bs outs
 |_,_,_=>τ
def d_(Z Wr:Nat→Prop)(M:Mem)(σ:bA)(τ:aY):List BV→List EV→Prop
 |[],vs=>vs = []
 |b :: bs,vs=>∃v r,vs=v :: r∧lV Z Wr M σ τ b v∧d_ Z Wr M σ τ bs r
def l9:List Md→List BV→List Nat
 |.mu :: ms,.var i :: bs=>i :: l9 ms bs
 |_ :: ms,_ :: bs=>l9 ms bs
 |_,_=>[]
section
variable{σ:bA}{τ:aY}
theorem OA{i j:Nat}{t:XV}{s':Slot}(h:(iF τ i t)[j]? = some (some s')):(j≠i∧τ[j]? = some (some s'))∨(j=i∧∃s,τ[i]? = some (some s)∧s'=s.put t):=by
 unfold iF at h;split at h
 ·rename_i s e
  have hi:i<τ.length:=(bK e).1;by_cases c:j=i
  ·subst c
   rw[List.getElem?_set_self hi]at h;cases h;exact .inr ⟨rfl,s,e,rfl⟩
  ·rw[List.getElem?_set_ne (Ne.symm c)]at h
   exact .inl ⟨c,h⟩
 ·rename_i e
  by_cases c:j=i
  ·subst c
   exact(e _ h).elim
  ·exact .inl ⟨c,h⟩
theorem T2{i:Nat}{t:XV}:(iF τ i t).length=τ.length:=by
 unfold iF;split
 ·rw[List.length_set]
 ·rfl
theorem UK{i j:Nat}{t:XV}:dW (iF τ i t)[j]? = dW τ[j]?:=by
 unfold iF;split
 ·rename_i s e
  exact OS (bK e).1 (by rw[e];cases s <;> rfl)
 ·rfl
theorem sQ:∀{ms:List Md} {bs:List BV} {outs:List XV} {τ:aY},(bH τ ms bs outs).length=τ.length
 |[],_,_,τ=>by unfold bH;rfl
 |.mu :: ms,.var i :: bs,t :: outs,τ=>by unfold bH;rw[sQ,T2]
 |.mu :: ms,.var i :: bs,[],τ=>by unfold bH;exact sQ
 |.mu :: ms,.val t :: bs,outs,τ=>by unfold bH;exact sQ
 |.sh :: ms,b :: bs,outs,τ=>by unfold bH;exact sQ
 |.bo :: ms,b :: bs,outs,τ=>by unfold bH;exact sQ
 |.mu :: ms,[],_,τ=>by unfold bH;rfl
 |.sh :: ms,[],_,τ=>by unfold bH;rfl
 |.bo :: ms,[],_,τ=>by unfold bH;rfl
theorem sU:∀{ms:List Md} {bs:List BV} {outs:List XV} {τ:aY} {j:Nat},dW (bH τ ms bs outs)[j]? = dW τ[j]?
 |[],_,_,τ,j=>by unfold bH;rfl
 |.mu :: ms,.var i :: bs,t :: outs,τ,j=>by unfold bH;rw[sU,UK]
 |.mu :: ms,.var i :: bs,[],τ,j=>by unfold bH;exact sU
 |.mu :: ms,.val t :: bs,outs,τ,j=>by unfold bH;exact sU
 |.sh :: ms,b :: bs,outs,τ,j=>by unfold bH;exact sU
 |.bo :: ms,b :: bs,outs,τ,j=>by unfold bH;exact sU
 |.mu :: ms,[],_,τ,j=>by unfold bH;rfl
 |.sh :: ms,[],_,τ,j=>by unfold bH;rfl
 |.bo :: ms,[],_,τ,j=>by unfold bH;rfl
theorem d_.step(s:cQ Z Wr M Z' M'){τ':aY}:∀{bs:List BV} {vs:List EV},d_ Z Wr M σ τ bs vs→d_ Z' Wr M' σ τ' bs vs
 |[],_,h=>h
 |b :: bs,_,⟨v,r,e,h1,h2⟩=>⟨v,r,e,h1.step s,d_.step s h2⟩
theorem bN.zAX{t:XV}{k:Nat}(d:bN Z M t (.ref k)):k<M.length∨Z k:=by
 cases t with
 |lst ts=>obtain⟨l,q,xs,h,_⟩:=d;cases q;exact .inl (bK h).1
 |bR ts=>obtain⟨l,q,xs,h,_⟩:=d;cases q;exact .inl (by rcases h with h|h <;> exact(bK h).1)
 |ins C ts=>obtain⟨l,q,xs,h,_⟩:=d;cases q;exact .inl (bK h).1
 |_=>exact .inr (Dn.PP d)
theorem OW(E:En Z Wr M σ τ):∀{ms:List Md} {bs:List BV} {vs:List EV} {ts:List XV},d_ Z Wr M σ τ bs vs→getArgs τ ms bs=some ts→pD Z M ms ts vs
 |[],[],vs,ts,h,e=>by unfold d_ at h;subst h;cases e;exact⟨rfl,rfl⟩
 |[],b :: bs,vs,ts,h,e=>by unfold getArgs at e;cases e
 |m :: ms,[],vs,ts,h,e=>by unfold getArgs at e;cases e
 |m :: ms,b :: bs,vs,ts,h,e=>by
  unfold d_ at h;obtain⟨v,r,q,h1,h2⟩:=h;subst q;unfold getArgs at e;cases q1:mR τ m b with
  |none=>rw[q1]at e;cases e
  |some t=>
   cases q2:getArgs τ ms bs with
   |none=>rw[q1,q2]at e;cases e
   |some ts'=>
    rw[q1,q2]at e;cases e;refine⟨t,ts',v,r,rfl,rfl,?_,OW E h2 q2⟩;cases m with
    |sh=>
     cases b with
     |val t'=>cases q1;exact h1
     |var i=>cases q1
    |bo=>
     have d:=nZ E h1 q1;refine⟨d,fun k e=>?_⟩;subst e;exact d.zAX.elim id (E.lt k)
    |mu=>
     cases b with
     |val t'=>cases q1
     |var i=>
      obtain⟨s,e,ho,et⟩:=C2 q1;subst et;obtain⟨w,e1,rr⟩:=E.on i s e;have h1:σ[i]? = some (some v):=h1;rw[h1]at e1;cases e1;cases s with
      |ow t=>obtain⟨k,o,a1,a2,a3,a4,a5⟩:=rr;exact⟨k,o,a1,a3,a4,a5⟩
      |mu t=>obtain⟨k,o,a1,a2,a3,a4,a5⟩:=rr;exact⟨k,o,a1,a3,a4,a5⟩
      |sh t=>cases ho
      |bo t=>cases ho
theorem UU(E:En Z Wr M σ τ):∀{ms:List Md} {bs:List BV} {vs:List EV} {ts:List XV} {k:Nat},d_ Z Wr M σ τ bs vs→getArgs τ ms bs=some ts→k∈cB ms vs→∃i s,i∈l9 ms bs∧τ[i]? = some (some s)∧s.own=true∧σ[i]? = some (some (.ref k))
 |[],[],vs,ts,k,h,e,hk=>by unfold d_ at h;subst h;cases hk
 |[],b :: bs,vs,ts,k,h,e,hk=>by unfold getArgs at e;cases e
 |m :: ms,[],vs,ts,k,h,e,hk=>by unfold getArgs at e;cases e
 |m :: ms,b :: bs,vs,ts,k,h,e,hk=>by
  unfold d_ at h;obtain⟨v,r,q,h1,h2⟩:=h;subst q;unfold getArgs at e;cases q1:mR τ m b with
  |none=>rw[q1]at e;cases e
  |some t=>
   cases q2:getArgs τ ms bs with
   |none=>rw[q1,q2]at e;cases e
   |some ts'=>
    have ih:k∈cB ms r→∃i s,i∈l9 ms bs∧τ[i]? = some (some s)∧s.own=true∧σ[i]? = some (some (.ref k)):=UU E h2 q2;cases m with
    |sh=>exact ih hk
    |bo=>exact ih hk
    |mu=>
     cases b with
     |val t'=>cases q1
     |var i=>
      obtain⟨s,es,ho,et⟩:=C2 q1;have h1:σ[i]? = some (some v):=h1;unfold cB at hk;cases qv:pV v with
      |none=>
       rw[qv]at hk;obtain⟨j,s',a,b⟩:=ih hk;exact⟨j,s',List.mem_cons_of_mem _ a,b⟩
      |some l=>
       rw[qv]at hk;rcases List.mem_cons.mp hk with e|hk
       ·subst e
        refine⟨i,s,List.mem_cons_self,es,ho,?_⟩;cases v <;> cases qv;exact h1
       ·obtain⟨j,s',a,b⟩:=ih hk
        exact⟨j,s',List.mem_cons_of_mem _ a,b⟩
def kR(bs:List BV):List Nat:=bs.filterMap varO
theorem d_.vars:∀{bs:List BV} {vs:List EV} {j:Nat} {v:EV},d_ Z Wr M σ τ bs vs→vs[j]? = some v→∃b,bs[j]? = some b∧lV Z Wr M σ τ b v
 |[],vs,j,v,h,e=>by unfold d_ at h;subst h;cases e
 |b :: bs,vs,j,v,h,e=>by
  unfold d_ at h;obtain⟨w,r,q,h1,h2⟩:=h;subst q;cases j with
  |zero=>cases e;exact⟨b,rfl,h1⟩
  |succ j=>obtain⟨b',a,c⟩:=d_.vars h2 (j:=j) (by simpa using e);exact⟨b',by simpa using a,c⟩
theorem uA:∀{ms:List Md} {bs:List BV} {ts:List XV} {j:Nat} {m:Md},getArgs τ ms bs=some ts→ms[j]? = some m→∃b t,bs[j]? = some b∧mR τ m b=some t
 |[],_,_,j,m,_,e=>by cases e
 |m :: ms,[],ts,j,m',e,_=>by unfold getArgs at e;cases e
 |m :: ms,b :: bs,ts,j,m',e,ej=>by
  unfold getArgs at e;cases q1:mR τ m b with
  |none=>rw[q1]at e;cases e
  |some t=>
   cases q2:getArgs τ ms bs with
   |none=>rw[q1,q2]at e;cases e
   |some ts'=>
    cases j with
    |zero=>cases ej;exact⟨b,t,rfl,q1⟩
    |succ j=>obtain⟨b',t',a,c⟩:=uA q2 (j:=j) (by simpa using ej);exact⟨b',t',by simpa using a,c⟩
theorem NP:∀{bs:List BV} {i j x:Nat},(kR bs).Nodup→bs[i]? = some (.var x)→bs[j]? = some (.var x)→i=j
 |[],i,j,x,_,e,_=>by cases e
 |b :: bs,0,0,x,_,_,_=>rfl
 |b :: bs,i+1,j+1,x,nd,e1,e2=>by
  have nd':(kR bs).Nodup:=by
   unfold kR at nd⊢;rw[List.filterMap_cons]at nd;split at nd
   ·exact nd
   ·exact(List.nodup_cons.mp nd).2
  rw[NP nd' (i:=i) (j:=j) (x:=x) (by simpa using e1) (by simpa using e2)]
 |b :: bs,0,j+1,x,nd,e1,e2=>by
  cases e1;have e2:bs[j]? = some (.var x):=by simpa using e2
  have:x∈kR bs:=List.mem_filterMap.mpr ⟨_,List.mem_of_getElem? e2,rfl⟩;exact((List.nodup_cons.mp (show(x :: kR bs).Nodup from nd)).1 this).elim
 |b :: bs,i+1,0,x,nd,e1,e2=>by
  cases e2;have e1:bs[i]? = some (.var x):=by simpa using e1
  have:x∈kR bs:=List.mem_filterMap.mpr ⟨_,List.mem_of_getElem? e1,rfl⟩;exact((List.nodup_cons.mp (show(x :: kR bs).Nodup from nd)).1 this).elim
theorem UC:∀{ms:List Md} {vs:List EV},(∀(i j k:Nat),ms[i]? = some .mu→ms[j]? = some .mu→vs[i]? = some (.ref k)→vs[j]? = some (.ref k)→i=j)→(cB ms vs).Nodup
 |[],vs,_=>by unfold cB;exact List.nodup_nil
 |m :: ms,[],_=>by cases m <;> exact List.nodup_nil
 |m :: ms,v :: vs,h=>by
  have ih:(cB ms vs).Nodup:=UC fun i j k a b c d=>by
   have:=h (i+1) (j+1) k (by simpa using a) (by simpa using b) (by simpa using c) (by simpa using d);omega
  cases m with
  |sh=>exact ih
  |bo=>exact ih
  |mu=>
   unfold cB;cases q:pV v with
   |none=>exact ih
   |some l=>
    rw[List.nodup_cons];refine⟨fun z=>?_,ih⟩;obtain⟨j,a,b⟩:=pK z;have ev:v = .ref l:=by cases v <;> cases q;rfl
    have:=h 0 (j+1) l rfl (by simpa using a) (by rw[ev];rfl) (by simpa using b);omega
theorem uD:∀{ms:List Md} {vs:List EV} {k:Nat},k∈nN ms vs→∃i:Nat,ms[i]? = some .bo∧vs[i]? = some (.ref k)
 |[],vs,k,h=>by cases vs <;> cases h
 |m :: ms,[],k,h=>by cases m <;> cases h
 |m :: ms,v :: vs,k,h=>by
  have lift:(∃i:Nat,ms[i]? = some .bo∧vs[i]? = some (.ref k))→∃i:Nat,(m :: ms)[i]? = some .bo∧(v :: vs)[i]? = some (.ref k):=fun⟨i,a,b⟩=>⟨i+1,by simpa using a,by simpa using b⟩;cases m with
  |bo=>
   unfold nN at h;cases q:pV v with
   |none=>rw[q]at h;exact lift (uD h)
   |some l=>
    rw[q]at h;rcases List.mem_cons.mp h with e|h
    ·subst e
     refine⟨0,rfl,?_⟩;cases v <;> cases q;rfl
    ·exact lift (uD h)
  |sh=>exact lift (uD h)
  |mu=>exact lift (uD h)
theorem U6(E:En Z Wr M σ τ){ms:List Md}{bs:List BV}{vs:List EV}{ts:List XV}(h:d_ Z Wr M σ τ bs vs)(e:getArgs τ ms bs=some ts)(nd:(kR bs).Nodup):(cB ms vs).Nodup∧∀k∈nN ms vs,k∉cB ms vs:=by
 have tM:∀(j k:Nat),ms[j]? = some .mu→vs[j]? = some (.ref k)→∃i s,bs[j]? = some (.var i)∧τ[i]? = some (some s)∧s.own=true∧σ[i]? = some (some (.ref k)):=fun j k a b=>by
  obtain⟨b1,t,c,d⟩:=uA e a;obtain⟨b2,c2,d2⟩:=h.vars b;rw[c]at c2;cases c2;cases b1 with
  |val t'=>cases d
  |var i=>
   obtain⟨s,es,ho,et⟩:=C2 d;exact⟨i,s,c,es,ho,d2⟩
 refine⟨UC fun i j k a b c d=>?_,fun k hk hm=>?_⟩
 ·obtain⟨x,s,a1,a2,a3,a4⟩:=tM i k a c
  obtain⟨y,s',b1,b2,b3,b4⟩:=tM j k b d;by_cases q:x=y
  ·subst q;exact NP nd a1 b1
  ·exact(E.dis x y _ _ _ q a2 b2 a3 b3 a4 b4).elim
 ·obtain⟨i,a,b⟩:=uD hk
  obtain⟨j,c,d⟩:=pK hm;obtain⟨y,s',b1,b2,b3,b4⟩:=tM j k c d;obtain⟨bb,t,c1,d1⟩:=uA e a;obtain⟨bb2,c2,d2⟩:=h.vars b;rw[c1]at c2;cases c2;obtain⟨w,f1,rr⟩:=E.on y _ b2;rw[b4]at f1;cases f1;have nz:Wr k∧¬ Z k:=by
   cases s' with
   |ow t=>obtain⟨l,o,q1,q2,q3,_⟩:=rr;cases q1;exact⟨q2,q3⟩
   |mu t=>obtain⟨l,o,q1,q2,q3,_⟩:=rr;cases q1;exact⟨q2,q3⟩
   |sh t=>cases b3
   |bo t=>cases b3
  cases bb with
  |val t'=>exact nz.2 (Dn.PP d2)
  |var x=>
   by_cases q:x=y
   ·subst q
    have:=NP nd c1 b1;subst this;rw[a]at c;cases c
   ·have d1:resB τ (.var x)=some t:=d1
    unfold resB at d1;dsimp only at d1;split at d1
    ·rename_i s es
     obtain⟨w,g1,rr⟩:=E.on x s es;have d2:σ[x]? = some (some (.ref k)):=d2;rw[d2]at g1;cases g1;cases s with
     |ow t=>exact E.dis x y _ _ _ q es b2 rfl b3 d2 b4
     |mu t=>exact E.dis x y _ _ _ q es b2 rfl b3 d2 b4
     |sh t=>exact nz.2 (Dn.PP rr)
     |bo t=>exact(rr.2 k rfl).1 nz.1
    ·cases d1
theorem sR:∀{ms:List Md} {bs:List BV} {vs:List EV} {outs:List XV} {τ:aY},(∀j:Nat,ms[j]? = some .mu→∃i,bs[j]? = some (.var i))→(∀(j k:Nat),ms[j]? = some .mu→vs[j]? = some (.ref k)→∀i,bs[j]? = some (.var i)→σ[i]? = some (some (.ref k)))→m7 Z M ms vs outs→∀{i:Nat} {s':Slot},(bH τ ms bs outs)[i]? = some (some s')→
  (τ[i]? = some (some s')∧i∉l9 ms bs)∨∃s,τ[i]? = some (some s)∧(s.own=true→s'.own=true∧∃k o,σ[i]? = some (some (.ref k))∧M[k]? = some o∧Nd Z M s'.t o)∧(s.own=false→s'=s)
 |[],bs,vs,outs,τ,_,_,_,i,s',e=>.inl ⟨by unfold bH at e;exact e,by unfold l9;simp⟩
 |m :: ms,[],vs,outs,τ,_,_,_,i,s',e=>.inl ⟨by cases m <;> exact e,by cases m <;> simp[l9]⟩
 |.sh :: ms,b :: bs,vs,outs,τ,hm,hb,ho,i,s',e=>by
  have:=sR (ms:=ms) (bs:=bs) (vs:=vs.tail) (outs:=outs) (τ:=τ) (fun j a=>by simpa using hm (j+1) (by simpa using a)) (fun j k a c x d=>hb (j+1) k (by simpa using a) (by cases vs <;> simpa using c) x (by simpa using d)) ho (i:=i) (s':=s') (by unfold bH at e;exact e);simpa[l9]using this
 |.bo :: ms,b :: bs,vs,outs,τ,hm,hb,ho,i,s',e=>by
  have:=sR (ms:=ms) (bs:=bs) (vs:=vs.tail) (outs:=outs) (τ:=τ) (fun j a=>by simpa using hm (j+1) (by simpa using a)) (fun j k a c x d=>hb (j+1) k (by simpa using a) (by cases vs <;> simpa using c) x (by simpa using d)) ho (i:=i) (s':=s') (by unfold bH at e;exact e);simpa[l9]using this
 |.mu :: ms,.val t :: bs,vs,outs,τ,hm,hb,ho,i,s',e=>by
  obtain⟨x,h⟩:=hm 0 rfl;cases h
 |.mu :: ms,.var x :: bs,vs,outs,τ,hm,hb,ho,i,s',e=>by
  obtain⟨k,o,t,r,vs',e1,e2,h1,h2,h3⟩:=ho;subst e1 e2;have hx:=hb 0 k rfl rfl x rfl;unfold bH at e;have ih:=sR (ms:=ms) (bs:=bs) (vs:=vs') (outs:=r) (τ:=iF τ x t) (fun j a=>by simpa using hm (j+1) (by simpa using a)) (fun j k a c x d=>hb (j+1) k (by simpa using a) (by simpa using c) x (by simpa using d)) h3 (i:=i) (s':=s') e;have first:∀s1,(iF τ x t)[i]? = some (some s1)→(i≠x∧τ[i]? = some (some s1))∨∃s,τ[i]? = some (some s)∧(s.own=true→s1.own=true∧∃k o,σ[i]? = some (some (.ref k))∧M[k]? = some o∧Nd Z M s1.t o)∧(s.own=false→s1=s):=fun s1 e1=>by
   rcases OA e1 with q|⟨rfl,s,a,b⟩
   ·exact .inl q
   ·refine .inr ⟨s,a,fun hs=>?_,fun hs=>?_⟩
    ·subst b
     cases s with
     |ow _=>exact⟨rfl,k,o,hx,h1,h2⟩
     |mu _=>exact⟨rfl,k,o,hx,h1,h2⟩
     |sh _=>cases hs
     |bo _=>cases hs
    ·subst b
     cases s with
     |ow _=>cases hs
     |mu _=>cases hs
     |sh _=>rfl
     |bo _=>rfl
  rcases ih with⟨a,b⟩|⟨s1,a,b,c⟩
  ·rcases first _ a with⟨q1,q2⟩|q
   ·exact .inl ⟨q2,by unfold l9;simp[q1,b]⟩
   ·exact .inr q
  ·rcases first _ a with⟨q1,q2⟩|⟨s0,q1,q2,q3⟩
   ·exact .inr ⟨s1,q2,b,c⟩
   ·refine .inr ⟨s0,q1,fun hs=>b (q2 hs).1,fun hs=>?_⟩
    have:=q3 hs;subst this;exact c hs
theorem En.called(E:En Z Wr M σ τ){ms:List Md}{bs:List BV}{vs:List EV}{ts outs:List XV}(h:d_ Z Wr M σ τ bs vs)(e:getArgs τ ms bs=some ts)(nd:(kR bs).Nodup)(f:D4 Z M Z' M' (cB ms vs))(o:m7 Z' M' ms vs outs):En Z' Wr M' σ (bH τ ms bs outs)∧cQ Z Wr M Z' M'∧Pin τ (bH τ ms bs outs):=by
 have own:∀k∈cB ms vs,Wr k∧¬ Z k∧k<M.length∧∃(i:Nat) (s:Slot),i∈l9 ms bs∧τ[i]? = some (some s)∧s.own=true∧σ[i]? = some (some (.ref k)):=fun k hk=>by
  obtain⟨i,s,a1,a2,a3,a4⟩:=UU E h e hk;obtain⟨w,f1,rr⟩:=E.on i s a2;rw[a4]at f1;cases f1;cases s with
  |ow t=>obtain⟨l,p,q1,q2,q3,q4,_⟩:=rr;cases q1;exact⟨q2,q3,(bK q4).1,i,_,a1,a2,a3,a4⟩
  |mu t=>obtain⟨l,p,q1,q2,q3,q4,_⟩:=rr;cases q1;exact⟨q2,q3,(bK q4).1,i,_,a1,a2,a3,a4⟩
  |sh t=>cases a3
  |bo t=>cases a3
 have kp:Kp Z M M':=fun k p z q=>⟨p,(f.keep k (bK q).1 (fun z2=>(own k z2).2.1 z)).trans q,.inl rfl⟩;have hm:∀j:Nat,ms[j]? = some .mu→∃i,bs[j]? = some (.var i):=fun j a=>by
  obtain⟨b,t,c,d⟩:=uA e a;cases b with
  |val t'=>cases d
  |var i=>exact⟨i,c⟩
 have hb:∀(j k:Nat),ms[j]? = some .mu→vs[j]? = some (.ref k)→∀i,bs[j]? = some (.var i)→σ[i]? = some (some (.ref k)):=fun j k a c i d=>by
  obtain⟨b,d1,d2⟩:=h.vars c;rw[d]at d1;cases d1;exact d2
 have old:∀(i:Nat) (s:Slot) v,τ[i]? = some (some s)→(s.own=true→i∉l9 ms bs)→σ[i]? = some (some v)→u9 Z Wr M s v→u9 Z' Wr M' s v:=fun i s v a1 a2 a3 r=>by
  have nin:∀k,s.own=true→v = .ref k→k∉cB ms vs:=fun k hs ev hk=>by
   subst ev;obtain⟨_,_,_,j,s',b1,b2,b3,b4⟩:=own k hk;by_cases q:i=j
   ·subst q;exact a2 hs b1
   ·exact E.dis i j _ _ _ q a1 b2 hs b3 a3 b4
  cases s with
  |sh t=>exact Dn.mono f.sub kp r
  |bo t=>
   refine⟨bN.mono f.sub kp r.1 (fun k p ev q=>⟨p,(f.keep k (bK q).1 fun z=>(r.2 k ev).1 (own k z).1).trans q,.inl rfl⟩),fun k ev=>⟨(r.2 k ev).1,Nat.lt_of_lt_of_le (r.2 k ev).2 f.len⟩⟩
  |ow t=>
   obtain⟨k,p,q1,q2,q3,q4,q5⟩:=r;have hk:=(bK q4).1;exact⟨k,p,q1,q2,fun z=>(f.new k z).elim q3 (by omega),(f.keep k hk (nin k rfl q1)).trans q4,q5.mono f.sub kp⟩
  |mu t=>
   obtain⟨k,p,q1,q2,q3,q4,q5⟩:=r;have hk:=(bK q4).1;exact⟨k,p,q1,q2,fun z=>(f.new k z).elim q3 (by omega),(f.keep k hk (nin k rfl q1)).trans q4,q5.mono f.sub kp⟩
 have UQ:∀(i:Nat) (s':Slot),(bH τ ms bs outs)[i]? = some (some s')→s'.own=true→∃s,τ[i]? = some (some s)∧s.own=true:=fun i s' e1 hs=>by
  rcases sR hm hb o e1 with⟨a,b⟩|⟨s,a,b,c⟩
  ·exact⟨s',a,hs⟩
  ·refine⟨s,a,?_⟩
   cases q:s.own with
   |true=>rfl
   |false=>rw[c q,q]at hs;cases hs
 refine⟨⟨f.lt,fun k hk=>E.fr k (Nat.le_trans f.len hk),by rw[sQ];exact E.len,fun i s' e1=>?_,fun i j s t k n e1 e2 h1 h2=>?_⟩,⟨f.len,f.sub,fun k z=>(f.new k z).imp id (E.fr k),fun k hk q=>f.keep k hk fun z=>?_⟩,fun i=>sU⟩
 ·rcases sR hm hb o e1 with⟨a,b⟩|⟨s,a,b,c⟩
  ·obtain⟨v,q1,q2⟩:=E.on i s' a
   exact⟨v,q1,old i s' v a (fun _=>b) q1 q2⟩
  ·cases q:s.own with
   |true=>
    obtain⟨hs,k,p,r1,r2,r3⟩:=b q;obtain⟨w,f1,rr⟩:=E.on i s a;rw[r1]at f1;cases f1;have ww:Wr k∧¬ Z k∧k<M.length:=by
     cases s with
     |ow t=>obtain⟨l,p,q1,q2,q3,q4,_⟩:=rr;cases q1;exact⟨q2,q3,(bK q4).1⟩
     |mu t=>obtain⟨l,p,q1,q2,q3,q4,_⟩:=rr;cases q1;exact⟨q2,q3,(bK q4).1⟩
     |sh t=>cases q
     |bo t=>cases q
    have nz:¬ Z' k:=fun z=>(f.new k z).elim ww.2.1 (by omega);refine⟨_,r1,?_⟩;cases s' with
    |ow t=>exact⟨k,p,rfl,ww.1,nz,r2,r3⟩
    |mu t=>exact⟨k,p,rfl,ww.1,nz,r2,r3⟩
    |sh t=>cases hs
    |bo t=>cases hs
   |false=>
    have:=c q;subst this;obtain⟨v,q1,q2⟩:=E.on i s' a;exact⟨v,q1,old i s' v a (fun z=>by rw[q]at z;cases z) q1 q2⟩
 ·obtain⟨s1,a1,b1⟩:=UQ i s e1 h1
  obtain⟨s2,a2,b2⟩:=UQ j t e2 h2;exact E.dis i j _ _ k n a1 a2 b1 b2
 ·obtain⟨a,b,_⟩:=own k z
  exact q.elim b (fun q=>q a)
def pQ(τ:aY)(ms:List Md)(bs:List BV)(p:dX):XR XV:=match getArgs τ ms bs with
 |none=>.bad
 |some ts=>if(kR bs).Nodup then(match p ts with
  |.ok t _ outs=>.ok t (bH τ ms bs outs)
  |.err C fs outs=>.err C fs (bH τ ms bs outs)
  |.bad=>.bad)else .bad
def oY(τ:aY)(ms:List Md)(bs:List BV)(p:dX):XR XV:=match getArgs τ ms bs with
 |none=>.bad
 |some ts=>if(kR bs).Nodup then(match p ts with
  |.ok t true outs=>.ok t (bH τ ms bs outs)
  |.ok _ false _=>.bad
  |.err C fs outs=>.err C fs (bH τ ms bs outs)
  |.bad=>.bad)else .bad
theorem TD(E:En Z Wr M σ τ){ms:List Md}{bs:List BV}{vs:List EV}{m:Fn}{p:dX}(h:d_ Z Wr M σ τ bs vs)(hf:nC ms m p):a_ RF Z Wr M σ τ (oY τ ms bs p) (m vs M):=by
 unfold oY;cases e:getArgs τ ms bs with
 |none=>exact True.intro
 |some ts=>
  dsimp only;split
  ·rename_i nd
   obtain⟨a1,a2⟩:=U6 E h e nd;have hf:=hf Z M vs ts E.lt (OW E h e) a1 a2;revert hf;cases p ts with
   |bad=>exact fun _=>True.intro
   |err C fs outs=>
    rintro⟨x,M',Z',e1,f,o,r⟩;obtain⟨E',s,pi⟩:=E.called h e nd f o;exact⟨x,M',Z',e1,s,E',pi,r⟩
   |ok t fr outs=>
    rintro⟨v,M',Z',e1,f,o,r1,r2⟩;obtain⟨E',s,pi⟩:=E.called h e nd f o;cases fr with
    |false=>exact True.intro
    |true=>
     obtain⟨k,ob,q1,q2,q3,q4,q5⟩:=r1 rfl;refine⟨v,M',Z',e1,s,E',pi,k,ob,q1,q3,E.fr k q2,q4,q5,fun i s' e2 hs e3=>?_⟩;have old:∃s0,τ[i]? = some (some s0)∧s0.own=true:=by
      have hm:∀j:Nat,ms[j]? = some .mu→∃i,bs[j]? = some (.var i):=fun j a=>by
       obtain⟨b,t,c,d⟩:=uA e a;cases b with
       |val t'=>cases d
       |var i=>exact⟨i,c⟩
      have hb:∀(j k:Nat),ms[j]? = some .mu→vs[j]? = some (.ref k)→∀i,bs[j]? = some (.var i)→σ[i]? = some (some (.ref k)):=fun j k a c i d=>by
       obtain⟨b,d1,d2⟩:=h.vars c;rw[d]at d1;cases d1;exact d2
      rcases sR hm hb o e2 with⟨a,b⟩|⟨s,a,b,c⟩
      ·exact⟨s',a,hs⟩
      ·refine⟨s,a,?_⟩
       cases q:s.own with
       |true=>rfl
       |false=>rw[c q,q]at hs;cases hs
     obtain⟨s0,a,b⟩:=old;obtain⟨w,f1,rr⟩:=E.on i s0 a;rw[e3]at f1;cases f1;cases s0 with
     |ow t=>obtain⟨l,p,q1,_,_,q4,_⟩:=rr;cases q1;have:=(bK q4).1;omega
     |mu t=>obtain⟨l,p,q1,_,_,q4,_⟩:=rr;cases q1;have:=(bK q4).1;omega
     |sh t=>cases b
     |bo t=>cases b
  ·exact True.intro
theorem a_.fz{r:XR XV}{res:Res EV}(h:a_ RF Z Wr M σ τ r res):a_ RE Z Wr M σ τ r res:=by
 cases r with
 |ok t τ'=>
  obtain⟨v,M',Z',e1,s,E',p,h⟩:=h;have q:QF (fun _ _=>res) (fun τ0=>if τ0=τ' then XR.ok t τ' else .bad)→True:=fun _=>True.intro;obtain⟨k,o,q1,q2,q3,q4,q5,q6⟩:=h;subst q1;have hs:∀j,Z' j→nS Z' k j:=fun j h=>.inl h;refine⟨_,M',nS Z' k,e1,s.trans ⟨Nat.le_refl _,hs,fun j h=>h.imp id fun z=>by rw[z];exact q3,fun _ _ _=>rfl⟩,⟨fun j h=>?_,E'.fr,E'.len,fun j s' ej=>?_,E'.dis⟩,p,(q5.mono hs .refl).dn q4 (.inr rfl)⟩
  ·rcases h with h|h
   ·exact E'.lt j h
   ·rw[h];exact(bK q4).1
  ·obtain⟨w,e3,r⟩:=E'.on j s' ej
   refine⟨w,e3,?_⟩;cases s' with
   |sh u=>exact Dn.mono hs .refl r
   |bo u=>exact⟨bN.mono hs .refl r.1 (fun _ p _ e=>⟨p,e,.inl rfl⟩),r.2⟩
   |ow u=>
    obtain⟨l,p,r1,r2,r3,r4,r5⟩:=r;refine⟨l,p,r1,r2,?_,r4,r5.mono hs .refl⟩;rintro(h|h)
    ·exact r3 h
    ·subst h r1
     exact q6 j _ ej rfl e3
   |mu u=>
    obtain⟨l,p,r1,r2,r3,r4,r5⟩:=r;refine⟨l,p,r1,r2,?_,r4,r5.mono hs .refl⟩;rintro(h|h)
    ·exact r3 h
    ·subst h r1
     exact q6 j _ ej rfl e3
 |err C fs τ'=>exact h
 |bad=>exact True.intro
theorem XG(E:En Z Wr M σ τ){ms:List Md}{bs:List BV}{vs:List EV}{m:Fn}{p:dX}(h:d_ Z Wr M σ τ bs vs)(hf:nC ms m p):a_ RE Z Wr M σ τ (pQ τ ms bs p) (m vs M):=by
 have hF:=TD E h hf;unfold pQ;unfold oY at hF;cases e:getArgs τ ms bs with
 |none=>exact True.intro
 |some ts=>
  rw[e]at hF;dsimp only at hF⊢;split
  ·rename_i nd
   rw[if_pos nd]at hF;cases q:p ts with
   |bad=>exact True.intro
   |err C fs outs=>rw[q]at hF;exact hF
   |ok t fr outs=>
    rw[q]at hF;cases fr with
    |true=>exact a_.fz hF
    |false=>
     obtain⟨a1,a2⟩:=U6 E h e nd;have hf:=hf Z M vs ts E.lt (OW E h e) a1 a2;rw[q]at hf;obtain⟨v,M',Z',e1,f,o,r1,r2⟩:=hf;obtain⟨E',s,pi⟩:=E.called h e nd f o;exact⟨v,M',Z',e1,s,E',pi,r2 rfl⟩
  ·exact True.intro
abbrev XM:=aY→XR (List BV)
def QM(e:FA)(x:XM):Prop:=∀Z Wr M σ τ,En Z Wr M σ τ→a_ (fun Z Wr M σ τ bs vs=>d_ Z Wr M σ τ bs vs) Z Wr M σ τ (x τ) (e σ M)
def lY:XM:=fun τ=>.ok [] τ
def kN(f:XB)(g:XM):XM:=fun τ=>(f τ).bind fun b τ1=>(g τ1).bind fun bs τ2=>.ok (b :: bs) τ2
theorem tG:QM bJ lY:=fun Z Wr M σ τ E=>a_.ok E (by unfold d_;rfl)
theorem n4{f:FE}{g:FA}{x:XB}{y:XM}(h:QB f x)(h2:QM g y):QM (a8 f g) (kN x y):=fun Z Wr M σ τ E=>
 a_.bind (h Z Wr M σ τ E) fun a τ1 v M1 Z1 s E1 r=>a_.bind (h2 Z1 Wr M1 σ τ1 E1) fun b τ2 w M2 Z2 s2 E2 r2=>a_.ok E2 ⟨v,w,rfl,r.step s2,r2⟩
def mS(ms:List Md)(p:dX)(g:XM):XE:=fun τ=>(g τ).bind fun bs τ1=>pQ τ1 ms bs p
def C9(ms:List Md)(p:dX)(g:XM):XE:=fun τ=>(g τ).bind fun bs τ1=>oY τ1 ms bs p
theorem d_.len:∀{bs:List BV} {vs:List EV},d_ Z Wr M σ τ bs vs→vs.length=bs.length
 |[],_,h=>by unfold d_ at h;subst h;rfl
 |b :: bs,_,⟨v,r,e,_,h⟩=>by subst e;rw[List.length_cons,List.length_cons,h.len]
theorem NJ:∀{ms:List Md} {bs:List BV} {ts:List XV},getArgs τ ms bs=some ts→bs.length=ms.length
 |[],[],_,_=>rfl
 |[],_ :: _,_,h=>by cases h
 |_ :: _,[],_,h=>by unfold getArgs at h;cases h
 |m :: ms,b :: bs,ts,h=>by
  unfold getArgs at h;cases q1:mR τ m b with
  |none=>rw[q1]at h;cases h
  |some t=>
   cases q2:getArgs τ ms bs with
   |none=>rw[q1,q2]at h;cases h
   |some ts'=>rw[List.length_cons,List.length_cons,NJ q2]
theorem uW{ms:List Md}{m:Fn}{p:dX}{g:FA}{y:XM}{n:Nat}(hf:nC ms m p)(h:QM g y)(hn:ms.length=n):QE (nM n m g) (mS ms p y):=fun Z Wr M σ τ E=>by
 refine a_.bind (h Z Wr M σ τ E) fun bs τ1 vs M1 Z1 s E1 r=>?_;cases e:getArgs τ1 ms bs with
 |none=>unfold pQ;rw[e];exact True.intro
 |some ts=>
  rw[if_pos (by rw[r.len,NJ e,hn])];exact XG E1 r hf
theorem zA0{ms:List Md}{m:Fn}{p:dX}{g:FA}{y:XM}{n:Nat}(hf:nC ms m p)(h:QM g y)(hn:ms.length=n):QF (nM n m g) (C9 ms p y):=fun Z Wr M σ τ E=>by
 refine a_.bind (h Z Wr M σ τ E) fun bs τ1 vs M1 Z1 s E1 r=>?_;cases e:getArgs τ1 ms bs with
 |none=>unfold oY;rw[e];exact True.intro
 |some ts=>
  rw[if_pos (by rw[r.len,NJ e,hn])];exact TD E1 r hf
end
end
end WS
namespace WS
open PySem PySem.Spec PyProof.Rows L2
open PySem.W (dataLt dataLe keyToks alike AllAlike Sortable SortsAt sortVals)
open Classical
section
variable{Z Z' Wr:Nat→Prop}{M M':Mem}{v w:EV}
@[simp] theorem O8:Dn Z M .non v↔v = .non:=by unfold Dn;rfl
@[simp] theorem P9{b:Bool}:Dn Z M (.bl b) v↔v = .bl b:=by unfold Dn;rfl
@[simp] theorem uO{b:Int}:Dn Z M (.int b) v↔v = .int b:=by unfold Dn;rfl
@[simp] theorem O7{b:Str}:Dn Z M (.str b) v↔v = .str b:=by unfold Dn;rfl
@[simp] theorem zDE{b:Addr}:Dn Z M (.adr b) v↔v = .adr b:=by unfold Dn;rfl
@[simp] theorem zDD{b:Addr}:Dn Z M (.exc b) v↔v = .exc b:=by unfold Dn;rfl
@[simp] theorem zDC{C:Addr}{y:Str}{t:XV}:Dn Z M (.exf C y t) v↔∃x,v = .exf C y x∧Dn Z M t x:=by rw[Dn]
@[simp] theorem zGt{b:List Int}:Dn Z M (.sl b) v↔v = .sl b:=by unfold Dn;rfl
theorem uN{ts:List XV}:Dn Z M (.tup ts) v↔∃xs,v = .tup xs∧a9 Z M ts xs:=by rw[Dn]
@[simp] theorem zAA:bN Z M .non v↔v = .non:=(O8 (Z:=Z) (M:=M))
@[simp] theorem zDF{b:Bool}:bN Z M (.bl b) v↔v = .bl b:=(P9 (Z:=Z) (M:=M))
@[simp] theorem oQ{b:Int}:bN Z M (.int b) v↔v = .int b:=(uO (Z:=Z) (M:=M))
@[simp] theorem s8{b:Str}:bN Z M (.str b) v↔v = .str b:=(O7 (Z:=Z) (M:=M))
@[simp] theorem zH3{b:Addr}:bN Z M (.adr b) v↔v = .adr b:=(zDE (Z:=Z) (M:=M))
@[simp] theorem zAB{b:Addr}:bN Z M (.exc b) v↔v = .exc b:=(zDD (Z:=Z) (M:=M))
@[simp] theorem U1{C:Addr}{y:Str}{t:XV}:bN Z M (.exf C y t) v↔∃x,v = .exf C y x∧Dn Z M t x:=(zDC (Z:=Z) (M:=M))
@[simp] theorem O9{b:List Int}:bN Z M (.sl b) v↔v = .sl b:=(zGt (Z:=Z) (M:=M))
theorem C7{ts:List XV}:bN Z M (.tup ts) v↔∃xs,v = .tup xs∧a9 Z M ts xs:=(uN (Z:=Z) (M:=M))
theorem kL{u:EV}{r:XV}{res:Res EV}(e:res = .ok u M)(d:Dn Z M r u):qI Z M res r:=.inl ⟨u,e,d⟩
def oII(g:Int→Int→XV):XV→XV→Option XV
 |.int i,.int j=>some (g i j)
 |_,_=>none
def o8(C:Int→Int→Prop)(g:Int→Int→XV):XV→XV→Option XV
 |.int i,.int j=>if C i j then some (g i j)else none
 |_,_=>none
theorem Y6{C:Int→Int→Prop}{g:Int→Int→XV}{t s r:XV}(h:o8 C g t s=some r):∃i j,t = .int i∧s = .int j∧C i j∧r=g i j:=by
 cases t <;> cases s <;> first|(cases h;done)|skip
 rename_i i j;unfold o8 at h;dsimp only at h;split at h
 ·cases h;exact⟨i,j,rfl,rfl,by assumption,rfl⟩
 ·cases h
theorem DD{C:Int→Int→Prop}{g:Int→Int→XV}{g':Int→Int→EV}(hg:∀Z M i j,Dn Z M (g i j) (g' i j)):l6 (opI C g') (o8 C g):=fun Z M t s v w r a b c=>by
 obtain⟨i,j,rfl,rfl,hc,rfl⟩:=Y6 c;rw[oQ]at a b;subst a b;refine kL (u:=g' i j) ?_ (hg _ _ _ _);unfold opI pT;simp[hc]
def mZ:=o8 CMul fun i j=>.int (i*j)
def P6:=o8 CDiv fun i j=>.int (i / j)
def oMod:=o8 (fun(_ j:Int)=>0<j) fun i j=>.int (i % j)
def vN:=o8 CPow fun i j=>.int (i ^ j.toNat)
theorem oE:l6 mV mZ:=DD fun _ _ _ _=>by simp
theorem zD1:l6 O2 P6:=DD fun _ _ _ _=>by simp
theorem tP:l6 oW oMod:=DD fun _ _ _ _=>by simp
theorem pPow:l6 DJ vN:=DD fun _ _ _ _=>by simp
def cI:XV→XV→Option XV
 |.int i,.int j=>some (.int (i+j))
 |.str i,.str j=>if i.length+j.length≤sizeLine then some (.str (i++j))else none
 |.lst i,.lst j=>if(i++j).length≤sizeLine then some (.lst (i++j))else none
 |.tup i,.tup j=>if(i++j).length≤sizeLine then some (.tup (i++j))else none
 |_,_=>none
def uY:XV→XV→Option XV
 |.lst i,.lst j=>if(i++j).length≤sizeLine then some (.lst (i++j))else none
 |_,_=>none
theorem Y5{k l:Nat}{xs ys:List EV}(h:M[k]? = some (.lst xs))(h2:M[l]? = some (.lst ys)):cU (.ref k) (.ref l) M=kP (xs++ys) M:=by
 unfold cU kQ;have e1:tS (.ref k) (.ref l) M=kP (xs++ys) M:=by
  unfold tS mP;simp only[h,h2]
 have e2:tR (.ref k) (.ref l) M = .bad:=rfl;have e3:opI0 (fun i j=>.int (i+j)) (.ref k) (.ref l) M = .bad:=rfl;have e4:vR (.ref k) (.ref l) M = .bad:=rfl;simp only[e1,e2,e3,e4];cases kP (xs++ys) M <;> rfl
theorem VY:Q3 cU uY:=fun Z M t s v w r a b c=>by
 cases t <;> cases s <;> first|(cases c;done)|skip
 unfold uY at c;dsimp only at c;split at c
 ·rename_i hz
  cases c;obtain⟨k,rfl,xs,h1,h2⟩:=a;obtain⟨l,rfl,ys,h3,h4⟩:=b;rw[Y5 h1 h3];exact s7 (h2.app h4) hz
 ·cases c
theorem iU:l6 cU cI:=fun Z M t s v w r a b c=>by
 cases t <;> cases s <;> first|(cases c;done)|skip
 ·cases c
  rw[oQ]at a b;subst a b;exact kL rfl (by simp)
 ·unfold cI at c
  dsimp only at c;split at c
  ·rename_i i j hz
   cases c;rw[s8]at a b;subst a b;refine kL (u:=.str (i++j)) ?_ (by simp);unfold cU kQ;have e3:∀x y:Str,opI0 (fun i j=>.int (i+j)) (.str x) (.str y) M = .bad:=fun _ _=>rfl;simp only[e3];unfold tR pS;simp[hz]
  ·cases c
 ·unfold cI at c
  dsimp only at c;split at c
  ·rename_i hz
   cases c;rw[C7]at a b;obtain⟨xs,rfl,h1⟩:=a;obtain⟨ys,rfl,h2⟩:=b;refine kL (u:=.tup (xs++ys)) ?_ (uN.mpr ⟨_,rfl,h1.app h2⟩);unfold cU kQ;have e2:tS (.tup xs) (.tup ys) M = .bad:=rfl;have e3:opI0 (fun i j=>.int (i+j)) (.tup xs) (.tup ys) M = .bad:=rfl;have e4:tR (.tup xs) (.tup ys) M = .bad:=rfl;simp only[e2,e3,e4];unfold vR qA m4;simp only[];rw[if_pos (by rw[(h1.app h2).len];exact hz)]
  ·cases c
 ·exact .inr (VY Z M _ _ v w r a b c)
def oNeg:XV→Option XV
 |.int i=>some (.int (-i))
 |_=>none
def QR(g:Int→Int→Bool)(k:Str→Str→Bool):XV→XV→Option XV
 |.int i,.int j=>some (.bl (g i j))
 |.str i,.str j=>some (.bl (k i j))
 |_,_=>none
theorem pCmp(g:Int→Int→Bool)(k:Str→Str→Bool):l6 (kQ (opI0 fun i j=>.bl (g i j)) (vL fun i j=>.bl (k i j))) (QR g k):=fun Z M t s v w r a b c=>by
 cases t <;> cases s <;> first|(cases c;done)|skip
 ·cases c
  rw[oQ]at a b;subst a b;exact kL rfl (by simp)
 ·cases c
  rw[s8]at a b;subst a b;exact kL rfl (by simp)
def oLt:=QR (fun i j=>decide (i<j)) (fun i j=>decide (i.cps.toList<j.cps.toList))
def RJ:=QR (fun i j=>decide (j≤i)) (fun i j=>!decide (i.cps.toList<j.cps.toList))
theorem WD:l6 EC oLt:=pCmp _ _
theorem pGe:l6 RW RJ:=pCmp _ _
end
mutual
def cO:XV→Nat→Option PyData
 |.non,_=>some .none
 |.bl b,_=>some (.bool b)
 |.int i,_=>some (.int i)
 |.str i,_=>some (.str i)
 |.tup xs,n=>match n with
  |0=>none
  |n+1=>(lZ xs n).map .tuple
 |.lst xs,n=>match n with
  |0=>none
  |n+1=>(lZ xs n).map .list
 |_,_=>none
def lZ:List XV→Nat→Option (List PyData)
 |[],_=>some []
 |v :: r,n=>match cO v n,lZ r n with
  |some d,some ds=>some (d :: ds)
  |_,_=>none
end
abbrev oG(t:XV):Option PyData:=cO t 60
section
variable{Z Z' Wr:Nat→Prop}{M M':Mem}{v w:EV}
mutual
theorem OX:∀{t:XV} {v:EV} {n:Nat} {d:PyData},bN Z M t v→cO t n=some d→toD n M v=some d
 |.non,v,n,d,h,e=>by rw[zAA]at h;subst h;cases n <;> (unfold cO at e;cases e;unfold toD;rfl)
 |.bl _,v,n,d,h,e=>by rw[zDF]at h;subst h;cases n <;> (unfold cO at e;cases e;unfold toD;rfl)
 |.int _,v,n,d,h,e=>by rw[oQ]at h;subst h;cases n <;> (unfold cO at e;cases e;unfold toD;rfl)
 |.str _,v,n,d,h,e=>by rw[s8]at h;subst h;cases n <;> (unfold cO at e;cases e;unfold toD;rfl)
 |.tup ts,v,0,d,h,e=>by unfold cO at e;cases e
 |.tup ts,v,n+1,d,h,e=>by
  obtain⟨xs,rfl,h'⟩:=C7.mp h;unfold cO at e;dsimp only at e;cases q:lZ ts n with
  |none=>rw[q]at e;cases e
  |some ds=>
   rw[q]at e;cases e;unfold toD;rw[OO h' q];rfl
 |.lst ts,v,0,d,h,e=>by unfold cO at e;cases e
 |.lst ts,v,n+1,d,h,e=>by
  obtain⟨k,rfl,xs,h1,h'⟩:=h;unfold cO at e;dsimp only at e;cases q:lZ ts n with
  |none=>rw[q]at e;cases e
  |some ds=>
   rw[q]at e;cases e;unfold toD;simp only[h1];rw[OO h' q];rfl
 |.bR _,v,n,d,h,e=>by unfold cO at e;cases e
 |.ins _ _,v,n,d,h,e=>by unfold cO at e;cases e
 |.adr _,v,n,d,h,e=>by unfold cO at e;cases e
 |.obj _ _ _,v,n,d,h,e=>by unfold cO at e;cases e
 |.exc _,v,n,d,h,e=>by unfold cO at e;cases e
 |.exf _ _ _,v,n,d,h,e=>by unfold cO at e;cases e
 |.sl _,v,n,d,h,e=>by unfold cO at e;cases e
theorem OO:∀{t:List XV} {v:List EV} {n:Nat} {d:List PyData},a9 Z M t v→lZ t n=some d→l_ n M v=some d
 |[],v,n,d,h,e=>by
  unfold a9 at h;subst h;unfold lZ at e;cases e;unfold l_;rfl
 |t :: ts,v,n,d,h,e=>by
  unfold a9 at h;obtain⟨x,r,rfl,h1,h2⟩:=h;unfold lZ at e;cases q:cO t n with
  |none=>rw[q]at e;cases e
  |some d1=>
   cases q2:lZ ts n with
   |none=>rw[q,q2]at e;cases e
   |some ds=>
    rw[q,q2]at e;cases e;unfold l_;rw[OX h1.one q,OO h2 q2]
end
def kO(neg:Bool)(t s:XV):Option XV:=match oG t,oG s with
 |some d,some e=>if SeqAt.shaped d=true∧SeqAt.shaped e=true then some (.bl (if neg=true then !PyData.eqv d e else PyData.eqv d e))else none
 |_,_=>none
theorem DZ(neg:Bool):l6 (nR neg) (kO neg):=fun Z M t s v w r a b c=>by
 unfold kO at c;cases q:oG t with
 |none=>rw[q]at c;cases c
 |some d=>
  cases q2:oG s with
  |none=>rw[q,q2]at c;cases c
  |some e=>
   rw[q,q2]at c;dsimp only at c;split at c
   ·rename_i hs
    cases c;refine kL (u:=.bl _) ?_ (by simp;rfl);unfold nR;have e1:pF M v=some d:=OX a q;have e2:pF M w=some e:=OX b q2;rw[e1,e2];simp[hs]
   ·cases c
mutual
def lJ:XV→Bool
 |.non=>true
 |.bl _=>true
 |.int _=>true
 |.str _=>true
 |.tup xs=>nQ xs
 |_=>false
def nQ:List XV→Bool
 |[]=>true
 |x :: xs=>lJ x&&nQ xs
end
mutual
def b_:XV→EV
 |.bl b=>.bl b
 |.int b=>.int b
 |.str b=>.str b
 |.tup xs=>.tup (nL xs)
 |_=>.non
def nL:List XV→List EV
 |[]=>[]
 |x :: xs=>b_ x :: nL xs
end
mutual
theorem pP:∀{t:XV} {v:EV},lJ t=true→Dn Z M t v→v=b_ t
 |.non,v,_,d=>by rw[O8]at d;rw[d];rfl
 |.bl _,v,_,d=>by rw[P9]at d;rw[d];rfl
 |.int _,v,_,d=>by rw[uO]at d;rw[d];rfl
 |.str _,v,_,d=>by rw[O7]at d;rw[d];rfl
 |.tup ts,v,h,d=>by
  obtain⟨xs,rfl,d'⟩:=uN.mp d;unfold lJ at h;unfold b_;rw[VC h d']
 |.lst _,v,h,d=>by cases h
 |.bR _,v,h,d=>by cases h
 |.ins _ _,v,h,d=>by cases h
 |.adr _,v,h,d=>by cases h
 |.obj _ _ _,v,h,d=>by cases h
 |.exc _,v,h,d=>by cases h
 |.exf _ _ _,v,h,d=>by cases h
 |.sl _,v,h,d=>by cases h
theorem VC:∀{t:List XV} {v:List EV},nQ t=true→a9 Z M t v→v=nL t
 |[],v,_,d=>by unfold a9 at d;rw[d];rfl
 |t :: ts,v,h,d=>by
  unfold a9 at d;obtain⟨x,r,rfl,d1,d2⟩:=d;unfold nQ at h;rw[Bool.and_eq_true]at h;unfold nL;rw[pP h.1 d1,VC h.2 d2]
end
mutual
theorem V0:∀{t:XV},lJ t=true→Dn Z M t (b_ t)
 |.non,_=>by simp[b_]
 |.bl _,_=>by simp[b_]
 |.int _,_=>by simp[b_]
 |.str _,_=>by simp[b_]
 |.tup ts,h=>by unfold lJ at h;unfold b_;exact uN.mpr ⟨_,rfl,U0 h⟩
 |.lst _,h=>by cases h
 |.bR _,h=>by cases h
 |.ins _ _,h=>by cases h
 |.adr _,h=>by cases h
 |.obj _ _ _,h=>by cases h
 |.exc _,h=>by cases h
 |.exf _ _ _,h=>by cases h
 |.sl _,h=>by cases h
theorem U0:∀{t:List XV},nQ t=true→a9 Z M t (nL t)
 |[],_=>a9.nil
 |t :: ts,h=>by
  unfold nQ at h;rw[Bool.and_eq_true]at h;unfold nL;exact .cons (V0 h.1) (U0 h.2)
end
mutual
theorem O5:∀{t s:XV},lJ t=true→lJ s=true→b_ t=b_ s→t=s
 |.non,s,h,g,e=>by cases s <;> first|rfl|(cases g;done)|(unfold b_ at e;cases e)
 |.bl _,s,h,g,e=>by cases s <;> first|(cases g;done)|(unfold b_ at e;cases e;done)|(unfold b_ at e;cases e;rfl)
 |.int _,s,h,g,e=>by cases s <;> first|(cases g;done)|(unfold b_ at e;cases e;done)|(unfold b_ at e;cases e;rfl)
 |.str _,s,h,g,e=>by cases s <;> first|(cases g;done)|(unfold b_ at e;cases e;done)|(unfold b_ at e;cases e;rfl)
 |.tup ts,s,h,g,e=>by
  cases s <;> first|(cases g;done)|(unfold b_ at e;cases e;done)|skip
  rename_i ss;unfold b_ at e;injection e with e
  unfold lJ at h g;rw[UZ h g e]
 |.lst _,_,h,_,_=>by cases h
 |.bR _,_,h,_,_=>by cases h
 |.ins _ _,_,h,_,_=>by cases h
 |.adr _,_,h,_,_=>by cases h
 |.obj _ _ _,_,h,_,_=>by cases h
 |.exc _,_,h,_,_=>by cases h
 |.exf _ _ _,_,h,_,_=>by cases h
 |.sl _,_,h,_,_=>by cases h
theorem UZ:∀{t s:List XV},nQ t=true→nQ s=true→nL t=nL s→t=s
 |[],[],_,_,_=>rfl
 |[],_ :: _,_,_,e=>by cases e
 |_ :: _,[],_,_,e=>by cases e
 |t :: ts,s :: ss,h,g,e=>by
  unfold nQ at h g;rw[Bool.and_eq_true]at h g;unfold nL at e;injection e with e1 e2
  rw[O5 h.1 g.1 e1,UZ h.2 g.2 e2]
end
def OU:XV→Bool
 |.non=>true
 |.int _=>true
 |.str _=>true
 |_=>false
def C6:XV→Bool
 |.tup xs=>nQ xs&&mQ (.tup (nL xs))
 |_=>false
def uK(kvs:List (XV×XV)):Bool:=kvs.all fun p=>OU p.1
def uI(kvs:List (XV×XV)):Bool:=kvs.all fun p=>C6 p.1
theorem C5{t:XV}(h:OU t=true):lJ t=true∧oS (b_ t)=true:=by cases t <;> first|(cases h;done)|exact⟨rfl,rfl⟩
theorem C4{t:XV}(h:C6 t=true):lJ t=true∧mQ (b_ t)=true:=by
 cases t <;> first|(cases h;done)|skip
 unfold C6 at h;rw[Bool.and_eq_true]at h;exact⟨by unfold lJ;exact h.1,by unfold b_;exact h.2⟩
def uL(kvs:List (XV×XV)):Prop:=∀p∈kvs,lJ p.1=true
theorem X_{kvs:List (XV×XV)}(h:uK kvs=true):uL kvs:=fun p hp=>(C5 (List.all_eq_true.mp h p hp)).1
theorem X8{kvs:List (XV×XV)}(h:uI kvs=true):uL kvs:=fun p hp=>(C4 (List.all_eq_true.mp h p hp)).1
theorem OG:∀{kvs:List (XV×XV)} {ps:List (EV×EV)},cJ Z M kvs ps→uK kvs=true→nK ps=true
 |[],_,d,_=>by unfold cJ at d;subst d;rfl
 |(a,b) :: kvs,_,d,h=>by
  unfold cJ at d;obtain⟨y,r,rfl,d1,d2⟩:=d;unfold mL at d1;unfold uK at h;rw[List.all_cons,Bool.and_eq_true]at h;obtain⟨q1,q2⟩:=C5 h.1;unfold nK;rw[List.all_cons,pP q1 d1.1,q2];exact OG d2 h.2
theorem OF:∀{kvs:List (XV×XV)} {ps:List (EV×EV)},cJ Z M kvs ps→uI kvs=true→nJ ps=true
 |[],_,d,_=>by unfold cJ at d;subst d;rfl
 |(a,b) :: kvs,_,d,h=>by
  unfold cJ at d;obtain⟨y,r,rfl,d1,d2⟩:=d;unfold mL at d1;unfold uI at h;rw[List.all_cons,Bool.and_eq_true]at h;obtain⟨q1,q2⟩:=C4 h.1;unfold nJ;rw[List.all_cons,pP q1 d1.1,q2];exact OF d2 h.2
def u5(kvs:List (XV×XV))(k:XV):Option XV:=match kvs with
 |[]=>none
 |p :: r=>if p.1=k then some p.2 else u5 r k
def tL(kvs:List (XV×XV))(k v:XV):List (XV×XV):=match kvs with
 |[]=>[(k,v)]
 |p :: r=>if p.1=k then(p.1,v) :: r else p :: tL r k v
theorem U4{k:XV}(hk:lJ k=true):∀{kvs:List (XV×XV)} {ps:List (EV×EV)},cJ Z M kvs ps→uL kvs→(u5 kvs k=none→lR ps (b_ k)=none)∧∀u,u5 kvs k=some u→∃x,lR ps (b_ k)=some x∧Dn Z M u x
 |[],_,d,_=>by unfold cJ at d;subst d;exact⟨fun _=>rfl,fun u e=>(by cases e)⟩
 |(a,b) :: kvs,_,d,h=>by
  unfold cJ at d;obtain⟨y,r,rfl,d1,d2⟩:=d;unfold mL at d1;have ha:=h (a,b) List.mem_cons_self;have ey:y.1=b_ a:=pP ha d1.1;have ih:=U4 hk d2 (fun p hp=>h p (List.mem_cons_of_mem _ hp));unfold u5 lR;by_cases c:a=k
  ·subst c
   rw[if_pos rfl,if_pos ey];exact⟨fun e=>(by cases e),fun u e=>(by cases e;exact⟨_,rfl,d1.2⟩)⟩
  ·have c':¬ y.1=b_ k:=fun z=>c (O5 ha hk (ey.symm.trans z))
   rw[if_neg c,if_neg c'];exact ih
theorem U3{k u:XV}{x:EV}(hk:lJ k=true)(du:Dn Z M u x):∀{kvs:List (XV×XV)} {ps:List (EV×EV)},cJ Z M kvs ps→uL kvs→cJ Z M (tL kvs k u) (lE ps (b_ k) x)
 |[],_,d,_=>by
  unfold cJ at d;subst d;unfold tL lE cJ;exact⟨_,_,rfl,by unfold mL;exact⟨V0 hk,du⟩,by unfold cJ;rfl⟩
 |(a,b) :: kvs,_,d,h=>by
  unfold cJ at d;obtain⟨y,r,rfl,d1,d2⟩:=d;have d1':=d1;unfold mL at d1;have ha:=h (a,b) List.mem_cons_self;have ey:y.1=b_ a:=pP ha d1.1;have ih:=U3 hk du d2 (fun p hp=>h p (List.mem_cons_of_mem _ hp));unfold tL lE;by_cases c:a=k
  ·subst c
   rw[if_pos rfl,if_pos ey];unfold cJ;exact⟨_,_,rfl,by unfold mL;exact⟨d1.1,du⟩,d2⟩
  ·have c':¬ y.1=b_ k:=fun z=>c (O5 ha hk (ey.symm.trans z))
   rw[if_neg c,if_neg c'];unfold cJ;exact⟨_,_,rfl,d1',ih⟩
def o3(kvs:List (XV×XV))(k:XV):Prop:=(OU k=true∧uK kvs=true)∨(C6 k=true∧uI kvs=true)
theorem o3.rf{kvs:List (XV×XV)}{k:XV}(h:o3 kvs k):lJ k=true∧uL kvs:=by
 rcases h with⟨a,b⟩|⟨a,b⟩
 ·exact⟨(C5 a).1,X_ b⟩
 ·exact⟨(C4 a).1,X8 b⟩
theorem o3.dn{kvs:List (XV×XV)}{ps:List (EV×EV)}{k:XV}(h:o3 kvs k)(d:cJ Z M kvs ps):C_ ps (b_ k):=by
 rcases h with⟨a,b⟩|⟨a,b⟩
 ·exact .inl ⟨(C5 a).2,OG d b⟩
 ·exact .inr ⟨(C4 a).2,OF d b⟩
def uP(kvs:List (XV×XV))(k:XV):Option (Option XV):=if o3 kvs k then some (u5 kvs k)else none
theorem UF{kvs:List (XV×XV)}(d:bN Z M (.bR kvs) v):∃p,n9 M v=some p∧cJ Z M kvs p.2:=by
 obtain⟨k,rfl,xs,h1,h2⟩:=d;rcases h1 with h1|h1
 ·exact⟨(k,xs),by unfold n9;simp only[h1],h2⟩
 ·exact⟨(k,xs),by unfold n9;simp only[h1],h2⟩
theorem YO{kvs:List (XV×XV)}{k:XV}{x:EV}(d:bN Z M (.bR kvs) v)(dk:bN Z M k x):(uP kvs k=some none→oX v x M=some none)∧∀u,uP kvs k=some (some u)→∃y,oX v x M=some (some y)∧Dn Z M u y:=by
 obtain⟨p,e1,h2⟩:=UF d;unfold uP;by_cases c:o3 kvs k
 ·rw[if_pos c]
  obtain⟨r1,r2⟩:=c.rf;have dk':Dn Z M k x:=by cases k <;> first|exact dk|(cases r1)
  have ex:=pP r1 dk';subst ex;have e2:oX v (b_ k) M=some (lR p.2 (b_ k)):=by
   unfold oX;rw[e1];dsimp only;rw[if_pos (show oS (b_ k)=true∧nK p.2=true∨mQ (b_ k)=true∧nJ p.2=true from c.dn h2)]
  rw[e2];obtain⟨g1,g2⟩:=U4 r1 h2 r2;exact⟨fun e=>(by rw[g1 (by injection e)]),fun u e=>(by
   obtain⟨y,a,b⟩:=g2 u (by injection e);exact⟨y,by rw[a],b⟩)⟩
 ·rw[if_neg c]
  exact⟨fun e=>(by cases e),fun u e=>(by cases e)⟩
def DA(ts:List XV)(y:XV):Option XV:=match y with
 |.int i=>(iW ts.length i).bind fun j=>ts[j]?
 |_=>none
def dM(x y:XV):Option XV:=match x with
 |.bR kvs=>(uP kvs y).bind id
 |.str z=>(match y with
  |.int i=>if z.length≤sizeLine then(L2.atI z.cps.toList i).map fun c=>.str ⟨#[c]⟩else none
  |_=>none)
 |.lst ts=>DA ts y
 |.tup ts=>DA ts y
 |_=>none
theorem zAu{x:XV}{ts:List XV}{i:Int}{j:Nat}{u:XV}(a:bN Z M x v)(q:u7 x=some ts)(q2:iW ts.length i=some j)(q3:ts[j]? = some u):qI Z M (j_ v (.int i) M) u:=by
 obtain⟨xs,h1,h2⟩:=uE a q;obtain⟨y,h3,h4⟩:=h2.get q3;refine kL (u:=y) ?_ h4;unfold j_ kQ oT;dsimp only;rw[h1];dsimp only;rw[h2.len,q2];dsimp only;rw[h3]
theorem UE{x s r:XV}{ts:List XV}(a:bN Z M x v)(b:bN Z M s w)(q:u7 x=some ts)(c:DA ts s=some r):qI Z M (j_ v w M) r:=by
 cases s <;> first|(cases c;done)|skip
 rename_i i;rw[oQ]at b;subst b;unfold DA at c;dsimp only at c;cases q2:iW ts.length i with
 |none=>rw[q2]at c;cases c
 |some j=>
  rw[q2,Option.bind_some]at c;exact zAu a q q2 c
theorem lP:l6 j_ dM:=fun Z M t s v w r a b c=>by
 cases t with
 |lst ts=>exact UE a b rfl c
 |tup ts=>exact UE a b rfl c
 |str z=>
  cases s <;> first|(cases c;done)|skip
  rename_i i;rw[oQ]at b;subst b;unfold dM at c;dsimp only at c;split at c
  ·rename_i hz
   cases q:L2.atI z.cps.toList i with
   |none=>rw[q]at c;cases c
   |some ch=>
    rw[q]at c;cases c;rw[s8]at a;subst a;refine kL (u:=.str ⟨#[ch]⟩) ?_ (by simp);unfold j_ kQ oT
    have:l4 M (.str z)=none:=rfl;dsimp only;rw[this];dsimp only;rw[if_pos hz,q]
  ·cases c
 |bR kvs=>
  unfold dM at c;dsimp only at c;cases q:uP kvs s with
  |none=>rw[q]at c;cases c
  |some o=>
   cases o with
   |none=>rw[q]at c;cases c
   |some u=>
    rw[q]at c;cases c;obtain⟨y,g,d⟩:=(YO a b (k:=s)).2 _ q;refine kL (u:=y) ?_ d;have e1:oT v w M = .bad:=by
     obtain⟨k,rfl,xs,h1,h2⟩:=a;unfold oT;cases w <;> first|rfl|skip
     have:l4 M (.ref k)=none:=by
      show getL M (.ref k)=none;unfold getL;rcases h1 with h1|h1 <;> simp only[h1]
     dsimp only;rw[this]
    unfold j_ kQ;rw[e1];unfold getD;dsimp only;rw[g]
 |_=>cases c
end
section
variable{Z Z' Wr:Nat→Prop}{M M':Mem}{v w:EV}{σ:bA}{τ τ':aY}
theorem WI{F:EV→Mem→Res EV}{f:FE}:eB (f1 F) (a8 f bJ)=e1 F f:=by
 funext σ M
 unfold eB e1 a8 bJ;cases f σ M <;> rfl
theorem WA{F:EV→Mem→Res EV}{o:XV→Option XV}{f:FE}{x:XB}(ho:qH F o)(h:QB f x):QE (eB (f1 F) (a8 f bJ)) (x1 o x):=WI▸q1 ho h
theorem qb1F{F:EV→Mem→Res EV}{o:XV→Option XV}{f:FE}{x:XB}(ho:D3 F o)(h:QB f x):QF (eB (f1 F) (a8 f bJ)) (x1 o x):=WI▸q1F ho h
def oZ(A B:EV→Mem→Res EV):EV→Mem→Res EV:=fun x M=>match A x M with
 |.bad=>B x M
 |r=>r
theorem zAF{A B:EV→Mem→Res EV}:oH (f1 A) (f1 B)=f1 (oZ A B):=by
 funext xs M
 unfold oH f1 oZ;cases xs with
 |nil=>rfl
 |cons x r=>cases r <;> rfl
def lQ:XV→Option XV
 |.str z=>if z.length≤sizeLine then some (.int z.length)else none
 |.lst ts=>some (.int ts.length)
 |.tup ts=>some (.int ts.length)
 |.sl ts=>some (.int ts.length)
 |.bR ts=>if uK ts=true∨uI ts=true then some (.int ts.length)else none
 |_=>none
theorem pLen:qH (oZ lenV m5) lQ:=fun Z M t v r a c=>by
 cases t with
 |str z=>
  unfold lQ at c;dsimp only at c;split at c
  ·rename_i hz
   cases c;rw[s8]at a;subst a;refine kL (u:=.int z.length) ?_ (by simp);unfold oZ lenV;dsimp only;rw[if_pos hz]
  ·cases c
 |lst ts=>
  cases c;obtain⟨xs,h1,h2⟩:=uE a rfl;obtain⟨k,rfl,_⟩:=a;refine kL (u:=.int xs.length) ?_ (by simp[h2.len]);unfold oZ lenV;dsimp only;rw[h1]
 |tup ts=>
  cases c;obtain⟨xs,h1,h2⟩:=uE a rfl;obtain⟨xs',rfl,_⟩:=C7.mp a;refine kL (u:=.int xs.length) ?_ (by simp[h2.len]);unfold oZ lenV;dsimp only;rw[h1]
 |sl ts=>
  cases c;rw[O9]at a;subst a;refine kL (u:=.int ts.length) ?_ (by simp);unfold oZ lenV
  have:l4 M (.sl ts)=some (ts.map .int):=rfl;dsimp only;rw[this];dsimp only;rw[List.length_map]
 |bR ts=>
  unfold lQ at c;dsimp only at c;split at c
  ·rename_i hk
   cases c;obtain⟨p,e1,h2⟩:=UF a;obtain⟨k,rfl,xs,h1,_⟩:=a;refine kL (u:=.int p.2.length) ?_ (by simp[h2.len]);have e2:lenV (.ref k) M = .bad:=by
    unfold lenV
    have:l4 M (.ref k)=none:=by
     show getL M (.ref k)=none;unfold getL;rcases h1 with h1|h1 <;> simp only[h1]
    dsimp only;rw[this]
   unfold oZ;rw[e2];unfold m5;dsimp only;rw[e1];dsimp only;rw[if_pos (hk.imp (OG h2) (OF h2))]
  ·cases c
 |_=>cases c
def DF:XV→Option (List XV)
 |.lst ts=>some ts
 |.tup ts=>some ts
 |.sl ts=>some (ts.map .int)
 |_=>none
theorem YM{t:XV}{v:EV}{ts:List XV}(d:bN Z M t v)(e:DF t=some ts):∃xs,l4 M v=some xs∧a9 Z M ts xs:=by
 cases t with
 |lst ts=>exact uE d e
 |tup ts=>exact uE d e
 |sl l=>
  cases e;rw[O9]at d;subst d;exact⟨_,rfl,a9.map fun _ _=>by simp⟩
 |_=>cases e
def DK(t:XV):Option XV:=(DF t).bind fun ts=>if ts.length≤sizeLine then some (.lst ts)else none
theorem zD0:D3 u3 DK:=fun Z M t v r a c=>by
 unfold DK at c;cases q:DF t with
 |none=>rw[q]at c;cases c
 |some ts=>
  rw[q,Option.bind_some]at c;split at c
  ·rename_i hz
   cases c;obtain⟨xs,h1,h2⟩:=YM a q;unfold u3;rw[h1];exact s7 h2 hz
  ·cases c
def zEQ:List XV→Option (List Int)
 |[]=>some []
 |.int i :: r=>(zEQ r).map (i :: ·)
 |_ :: _=>none
theorem zAy{ts:List XV}(d:bN Z M (.lst ts) v):∃xs,getL M v=some xs∧a9 Z M ts xs:=by
 obtain⟨k,rfl,xs,h1,h2⟩:=d;exact⟨xs,by unfold getL;simp only[h1],h2⟩
def oAbs:XV→Option XV
 |.int i=>some (.int (if i<0 then -i else i))
 |_=>none
def vM:XV→Option XV
 |.int i=>if i.natAbs.log2<1920 then some (.str (toString i))else none
 |_=>none
theorem pStr:qH vD vM:=fun Z M t v r a c=>by
 cases t <;> first|(cases c;done)|skip
 rename_i i;unfold vM at c;dsimp only at c;split at c
 ·rename_i h
  cases c;rw[oQ]at a;subst a;refine kL (u:=.str (toString i)) ?_ (by simp);unfold vD;dsimp only;rw[if_pos h]
 ·cases c
theorem OV{ts:List XV}{xs:List EV}{lo hi:Option Int}(d:a9 Z M ts xs):a9 Z M ((ts.drop (HT.sIx ts.length 0 lo)).take (HT.sIx ts.length ts.length hi-HT.sIx ts.length 0 lo)) (cutE xs lo hi):=by
 unfold cutE;rw[d.len];exact(d.drop _).take _
def lS(ts:List XV)(lo hi:Option Int):List XV:=(ts.drop (HT.sIx ts.length 0 lo)).take (HT.sIx ts.length ts.length hi-HT.sIx ts.length 0 lo)
def pW(lo hi:Option Int):XV→Option XV
 |.tup ts=>if(lS ts lo hi).length≤sizeLine then some (.tup (lS ts lo hi))else none
 |.str z=>if z.length≤sizeLine then some (.str (L2.cutS z lo hi))else none
 |.lst ts=>if(lS ts lo hi).length≤sizeLine then some (.lst (lS ts lo hi))else none
 |.sl ts=>if(lS (ts.map .int) lo hi).length≤sizeLine then some (.lst (lS (ts.map .int) lo hi))else none
 |_=>none
def P4(lo hi:Option Int):XV→Option XV
 |.lst ts=>if(lS ts lo hi).length≤sizeLine then some (.lst (lS ts lo hi))else none
 |.sl ts=>if(lS (ts.map .int) lo hi).length≤sizeLine then some (.lst (lS (ts.map .int) lo hi))else none
 |_=>none
theorem VX(lo hi:Option Int):D3 (fun v M=>o6 v lo hi M) (P4 lo hi):=fun Z M t v r a c=>by
 cases t with
 |lst ts=>
  unfold P4 at c;dsimp only at c;split at c
  ·rename_i hz
   cases c;obtain⟨xs,h1,h2⟩:=zAy a;obtain⟨k,rfl,_⟩:=a;unfold o6;dsimp only;rw[h1];exact s7 (OV h2) hz
  ·cases c
 |sl ts=>
  unfold P4 at c;dsimp only at c;split at c
  ·rename_i hz
   cases c;rw[O9]at a;subst a;unfold o6
   have:getL M (.sl ts)=some (ts.map .int):=rfl;dsimp only;rw[this];exact s7 (OV (a9.map fun _ _=>by simp)) hz
  ·cases c
 |_=>cases c
theorem pSlc(lo hi:Option Int):qH (fun v M=>o6 v lo hi M) (pW lo hi):=fun Z M t v r a c=>by
 cases t with
 |lst ts=>exact .inr (VX lo hi Z M _ v r a c)
 |sl ts=>exact .inr (VX lo hi Z M _ v r a c)
 |tup ts=>
  unfold pW at c;dsimp only at c;split at c
  ·rename_i hz
   cases c;obtain⟨xs,rfl,h⟩:=C7.mp a;have h2:a9 Z M (lS ts lo hi) (cutE xs lo hi):=OV h;refine kL (u:=.tup (cutE xs lo hi)) ?_ (uN.mpr ⟨_,rfl,h2⟩);unfold o6 m4;dsimp only;rw[if_pos (by rw[h2.len];exact hz)]
  ·cases c
 |str z=>
  unfold pW at c;dsimp only at c;split at c
  ·rename_i hz
   cases c;rw[s8]at a;subst a;refine kL (u:=.str (L2.cutS z lo hi)) ?_ (by simp);unfold o6;dsimp only;rw[if_pos hz]
  ·cases c
 |_=>cases c
abbrev XO:=aY→XR (Option Int)
def QO(e:bA→Mem→Res (Option Int))(x:XO):Prop:=∀Z Wr M σ τ,En Z Wr M σ τ→a_ (fun _ _ _ _ _ a b=>b=a) Z Wr M σ τ (x τ) (e σ M)
def C8:XO:=fun τ=>.ok none τ
theorem zAZ:QO P5 C8:=fun Z Wr M σ τ E=>a_.ok E rfl
def uF(f:XE):XO:=fun τ=>(f τ).bind fun t τ1=>match asInt t with
 |some i=>.ok (some i) τ1
 |none=>.bad
theorem zAY{f:FE}{x:XE}(h:QE f x):QO (P3 f) (uF x):=fun Z Wr M σ τ E=>by
 refine a_.bind (h Z Wr M σ τ E) fun t τ1 v M1 Z1 s E1 r=>?_;cases q:asInt t with
 |none=>exact True.intro
 |some i=>
  have:=UI q;subst this;have r:Dn Z1 M1 (.int i) v:=r;rw[uO]at r;subst r;exact a_.ok E1 rfl
def DP(o:Option Int→Option Int→XV→Option XV)(f:XB)(l u:XO):XE:=fun τ=>(f τ).bind fun b τ1=>(l τ1).bind fun lo τ2=>(u τ2).bind fun hi τ3=>oK ((resB τ3 b).bind (o lo hi)) τ3
theorem qSlc{f:FE}{l u:bA→Mem→Res (Option Int)}{x:XB}{y z:XO}(h:QB f x)(h1:QO l y)(h2:QO u z):QE (QW f l u) (DP pW x y z):=fun Z Wr M σ τ E=>by
 refine a_.bind (h Z Wr M σ τ E) fun b τ1 v M1 Z1 s E1 r=>a_.bind (h1 Z1 Wr M1 σ τ1 E1) fun lo τ2 w M2 Z2 s2 E2 r2=>a_.bind (h2 Z2 Wr M2 σ τ2 E2) fun hi τ3 w3 M3 Z3 s3 E3 r3=>?_;cases r2;cases r3;have r:=(r.step s2 (τ':=τ2)).step s3 (τ':=τ3);cases q:resB τ3 b with
 |none=>exact True.intro
 |some t=>
  rw[Option.bind_some];cases q2:pW lo hi t with
  |none=>exact True.intro
  |some u=>exact(pSlc lo hi _ _ _ _ _ (nZ E3 r q) q2).post E3
end
section
variable{Z Z' Wr:Nat→Prop}{M M':Mem}{v w:EV}{σ:bA}{τ τ':aY}
theorem zCO{k:Nat}{o:EO}(h:¬ Z k):Kp Z M (M.set k o):=fun j p z e=>⟨p,by rw[List.getElem?_set_ne (fun q=>h (by rw[q];exact z))];exact e,.inl rfl⟩
theorem En.cell(E:En Z Wr M σ τ){i k:Nat}{s:Slot}{t':XV}{o':EO}(e:τ[i]? = some (some s))(hs:s.own=true)(e2:σ[i]? = some (some (.ref k)))(n:Nd Z M t' o'):En Z Wr (M.set k o') σ (iF τ i t')∧cQ Z Wr M Z (M.set k o')∧Pin τ (iF τ i t'):=by
 obtain⟨v,e1,rr⟩:=E.on i s e;rw[e2]at e1;cases e1;have ww:Wr k∧¬ Z k∧k<M.length:=by
  cases s with
  |ow t=>obtain⟨l,p,q1,q2,q3,q4,_⟩:=rr;cases q1;exact⟨q2,q3,(bK q4).1⟩
  |mu t=>obtain⟨l,p,q1,q2,q3,q4,_⟩:=rr;cases q1;exact⟨q2,q3,(bK q4).1⟩
  |sh t=>cases hs
  |bo t=>cases hs
 have kp:Kp Z M (M.set k o'):=zCO ww.2.1;have mz:∀j,Z j→Z j:=fun _ h=>h;refine⟨⟨fun j h=>by rw[List.length_set];exact E.lt j h,fun j h=>E.fr j (by rw[List.length_set]at h;exact h),by rw[T2];exact E.len,fun j s' ej=>?_,fun j j' s1 s2 l n' e1 e2' h1 h2=>?_⟩,⟨by rw[List.length_set];exact Nat.le_refl _,mz,fun _ h=>.inl h,fun j hj q=>List.getElem?_set_ne fun z=>?_⟩,fun j=>UK⟩
 ·rcases OA ej with⟨c,ej⟩|⟨rfl,s0,a,b⟩
  ·obtain⟨w,f1,r⟩:=E.on j s' ej
   refine⟨w,f1,?_⟩;have nk:∀l,s'.own=true→w = .ref l→l≠k:=fun l ho ew z=>by subst ew z;exact E.dis i j _ _ _ (Ne.symm c) e ej hs ho e2 f1
   cases s' with
   |sh t=>exact Dn.mono mz kp r
   |bo t=>exact⟨bN.mono mz kp r.1 (fun l p el q=>⟨p,by rw[List.getElem?_set_ne (fun z=>(r.2 l el).1 (by rw[← z];exact ww.1))];exact q,.inl rfl⟩),fun l el=>⟨(r.2 l el).1,by rw[List.length_set];exact(r.2 l el).2⟩⟩
   |ow t=>
    obtain⟨l,p,q1,q2,q3,q4,q5⟩:=r;exact⟨l,p,q1,q2,q3,by rw[List.getElem?_set_ne (Ne.symm (nk l rfl q1))];exact q4,q5.mono mz kp⟩
   |mu t=>
    obtain⟨l,p,q1,q2,q3,q4,q5⟩:=r;exact⟨l,p,q1,q2,q3,by rw[List.getElem?_set_ne (Ne.symm (nk l rfl q1))];exact q4,q5.mono mz kp⟩
  ·rw[a]at e
   cases e;refine⟨_,e2,?_⟩;subst b;cases s with
   |ow t=>exact⟨k,o',rfl,ww.1,ww.2.1,List.getElem?_set_self ww.2.2,n.mono mz kp⟩
   |mu t=>exact⟨k,o',rfl,ww.1,ww.2.1,List.getElem?_set_self ww.2.2,n.mono mz kp⟩
   |sh t=>cases hs
   |bo t=>cases hs
 ·have d:∀(m:Nat) (u:Slot),(iF τ i t')[m]? = some (some u)→u.own=true→∃u',τ[m]? = some (some u')∧u'.own=true:=fun m u em hu=>by
   rcases OA em with⟨c,em⟩|⟨rfl,s0,a,b⟩
   ·exact⟨u,em,hu⟩
   ·rw[e]at a
    cases a;exact⟨s,e,hs⟩
  obtain⟨u1,a1,b1⟩:=d j s1 e1 h1;obtain⟨u2,a2,b2⟩:=d j' s2 e2' h2;exact E.dis j j' u1 u2 l n' a1 a2 b1 b2
 ·subst z
  exact q.elim ww.2.1 (fun q=>q ww.1)
theorem U_(E:En Z Wr M σ τ){i:Nat}{t:XV}(h:k_ τ i=some t):∃s k o,τ[i]? = some (some s)∧s.own=true∧σ[i]? = some (some (.ref k))∧M[k]? = some o∧Nd Z M t o:=by
 obtain⟨s,a,b,c⟩:=C2 h;subst c;obtain⟨v,e1,rr⟩:=E.on i s a;cases s with
 |ow t=>obtain⟨l,p,q1,q2,q3,q4,q5⟩:=rr;subst q1;exact⟨_,l,p,a,b,e1,q4,q5⟩
 |mu t=>obtain⟨l,p,q1,q2,q3,q4,q5⟩:=rr;subst q1;exact⟨_,l,p,a,b,e1,q4,q5⟩
 |sh t=>cases b
 |bo t=>cases b
abbrev MX:=List XV→List XV→Option (List XV×XV)
def V4(i:Nat)(o:MX)(g:XA):XE:=fun τ=>match k_ τ i with
 |some (.lst _)=>(g τ).bind fun args τ1=>match k_ τ1 i with
  |some (.lst ts)=>(match o ts args with
   |some (ts',r)=>.ok r (iF τ1 i (.lst ts'))
   |none=>.bad)
  |_=>.bad
 |_=>.bad
def oPopAt:MX:=fun ts args=>match args with
 |[.int i]=>if -(2 ^ 63)≤i∧i<2 ^ 63 then(match seqIndex? i ts.length with
  |some k=>(match ts[k]? with
   |some v=>some (ts.eraseIdx k,v)
   |none=>none)
  |none=>none)else none
 |_=>none
def oD(t i u:XV):Option XV:=match t with
 |.lst ts=>(match i with
  |.int i=>(iW ts.length i).map fun j=>.lst (ts.set j u)
  |_=>none)
 |.bR kvs=>if o3 kvs i∧kvs.length<sizeLine then some (.bR (tL kvs i u))else none
 |_=>none
theorem Y2{t i u t':XV}{k:Nat}{o:EO}{wi wu:EV}(h:M[k]? = some o)(n:Nd Z M t o)(di:bN Z M i wi)(du:Dn Z M u wu)(c:oD t i u=some t'):∃o',o7 (.ref k) wi wu M=some (M.set k o')∧Nd Z M t' o':=by
 cases t with
 |lst ts=>
  obtain⟨xs,rfl,n⟩:=n;cases i <;> first|(cases c;done)|skip
  rename_i i;rw[oQ]at di;subst di;unfold oD at c;dsimp only at c;cases q:iW ts.length i with
  |none=>rw[q]at c;cases c
  |some j=>
   rw[q]at c;cases c;refine⟨.lst (xs.set j wu),?_,_,rfl,n.set j du⟩;unfold o7 vQ tH mP;simp only[h,n.len,q]
 |bR kvs=>
  obtain⟨xs,rfl,n⟩:=n;unfold oD at c;dsimp only at c;split at c
  ·rename_i hc
   cases c;obtain⟨r1,r2⟩:=hc.1.rf;have dk':Dn Z M i wi:=by cases i <;> first|exact di|(cases r1)
   have ex:=pP r1 dk';subst ex;refine⟨.bR (lE xs (b_ i) wu),?_,_,rfl,U3 r1 du n r2⟩;unfold o7 vQ
   have:tH (.ref k) (b_ i) wu M=none:=by
    unfold tH mP;simp only[h]
   rw[this];unfold uX;simp only[h];rw[if_pos ⟨hc.1.dn n,by rw[n.len];exact hc.2⟩]
  ·cases c
 |_=>cases c
def vB(i:Nat)(f:XE)(gi:XB):XS:=fun τ=>iI (f τ) fun u τ1=>match k_ τ1 i with
 |none=>.bad
 |some _=>iI (gi τ1) fun b τ2=>match k_ τ2 i,resB τ2 b with
  |some t,some ti=>(match oD t ti u with
   |some t'=>.nx (iF τ2 i t')
   |none=>.bad)
  |_,_=>.bad
theorem zDB{i k:Nat}(e:σ[i]? = some (some (.ref k))):eV i σ M = .ok (.ref k) M:=by unfold eV;rw[e]
theorem QQ{i:Nat}{f gi:FE}{x:XE}{y:XB}(h:QE f x)(h2:QB gi y):QS (vI o7 f (eV i) gi) (vB i x y):=fun Z Wr M σ τ E=>by
 refine a_.j8 (h Z Wr M σ τ E) fun u τ1 wu M1 Z1 s E1 r=>?_;cases q0:k_ τ1 i with
 |none=>exact True.intro
 |some t0=>
  obtain⟨sl,k,ob,b1,b2,b3,b4,b5⟩:=U_ E1 q0;rw[zDB b3];simp only[Res.j8];refine a_.j8 (h2 Z1 Wr M1 σ τ1 E1) fun b τ2 wi M2 Z2 s2 E2 r2=>?_;split
  ·rename_i t ti q1 q2
   obtain⟨sl,k',ob,c1,c2,c3,c4,c5⟩:=U_ E2 q1;rw[b3]at c3;cases c3;split
   ·rename_i t' q3
    obtain⟨o',e3,n3⟩:=Y2 c4 c5 (nZ E2 r2 q2) (s2.dn r) q3;rw[e3];obtain⟨E3,s3,p3⟩:=E2.cell c1 c2 b3 n3;exact⟨σ,_,Z2,rfl,s3,E3,p3.s⟩
   ·exact True.intro
  ·exact True.intro
end
section
variable{Z Z' Wr:Nat→Prop}{M M':Mem}{v w:EV}{σ:bA}{τ τ':aY}
def xElD(t:XT)(fk fv:XE):aY→XR (Option (XV×XV)):=fun τ=>(lF (t τ)).bind fun b τ2=>if b=true then(lF (fk τ2)).bind fun k τ3=>(lF (fv τ3)).bind fun v τ4=>.ok (some (k,v)) τ4 else .ok none τ2
def zGv(acc:List (XV×XV))(o:Option (XV×XV)):Option (List (XV×XV)):=match o with
 |some p=>if acc.length<sizeLine∧o3 acc p.1 then some (tL acc p.1 p.2)else none
 |none=>some acc
def zDL(own:List Nat)(put:k7)(t:XT)(fk fv:XE):List XV→aY→List (XV×XV)→XR (List (XV×XV))
 |[],τ,acc=>.ok acc τ
 |x :: r,τ,acc=>match put x τ with
  |none=>.bad
  |some τ1=>match xElD t fk fv τ1 with
   |.ok o τ2=>(match zGv acc o with
    |some vS=>zDL own put t fk fv r (dL τ2 own) vS
    |none=>.bad)
   |_=>.bad
def tN(own:List Nat)(put:k7)(t:XT)(e:XE)(ts:List XV):XE:=fun τ1=>if ts.length≤sizeLine∧m8 own τ1 then(match lH own put t e ts (dL τ1 own) []with
 |.ok acc τ2=>if acc.length≤sizeLine then .ok (.lst acc) (dL τ2 own)else .bad
 |_=>.bad)else .bad
def RH:qF→Option XV
 |.ok k _ _=>some k
 |_=>none
end
end WS
namespace WS
open PySem PySem.Spec PyProof.Rows L2
open Classical
def uR:XT:=fun τ=>.ok true τ
theorem zDW:QT tYes uR:=fun Z Wr M σ τ E=>a_.ok E rfl
theorem DX{f:FE}{x:XB}(h:QB f x):QE (eB (oH (f1 lenV) (f1 m5)) (a8 f bJ)) (x1 lQ x):=by
 rw[zAF];exact WA pLen h
theorem X5{m:Fn}{p:dX}{ns:List Int}{fr:Bool}{outs:List XV}(h:nC [.sh] m p)(e:p [.sl ns] = .ok (.bl true) fr outs):∃M,m [.sl ns] [] = .ok (.bl true) M:=by
 have h:=h (fun _=>False) [] [.sl ns] [.sl ns] (fun _ h=>h.elim) ⟨_,[],_,[],rfl,rfl,(by show Dn _ _ _ _;simp),rfl,rfl⟩ List.nodup_nil (fun _ h=>by cases h);rw[e]at h;obtain⟨v,M',Z',e1,_,_,h1,h2⟩:=h;refine⟨M',?_⟩;cases fr with
 |true=>
  obtain⟨k,o,_,_,_,_,n⟩:=h1 rfl;exact n.elim
 |false=>
  have:=h2 rfl;rw[P9]at this;rw[e1,this]
section
variable{Z Z' Wr:Nat→Prop}{M M':Mem}{v w:EV}{σ:bA}{τ τ':aY}
end
variable{Z Z' Z1 Wr Wr':Nat→Prop}{M M' M1:Mem}{σ σ':bA}{τ τ' τ1:aY}
abbrev XP:=aY→XR (List (Bool×XV))
variable{Z Z' Z1 Wr Wr':Nat→Prop}{M M' M1:Mem}{σ σ':bA}{τ τ' τ1:aY}
section
variable{Z:Nat→Prop}{M:Mem}
end
section
variable{Z:Nat→Prop}{M:Mem}{v:EV}
end
section
variable{Z:Nat→Prop}{M:Mem}
end
section
variable{Z Wr:Nat→Prop}{M:Mem}{σ:bA}{τ:aY}
end
section
variable{Z Z' Wr:Nat→Prop}{M M':Mem}{σ:bA}{τ:aY}
end
section
variable{Z Z' Wr:Nat→Prop}{M M':Mem}{σ:bA}{τ:aY}
end
section
variable{Z Z' Wr:Nat→Prop}{M M':Mem}{σ:bA}{τ τ':aY}
end
section
variable{Z Z' Wr:Nat→Prop}{M M':Mem}{σ:bA}{τ τ':aY}
def augT(i:Nat)(a:Int)(t:XV)(τ1:aY):kA:=match t with
 |.int b=>(match iL i (.sh (.int (a+b))) τ1 with
  |some τ2=>.nx τ2
  |none=>.bad)
 |_=>.bad
def xAug(i:Nat)(f:XE):XS:=fun τ=>match τ[i]? with
 |some (some (.sh (.int a)))=>iI (f τ) (augT i a)
 |_=>.bad
@[simp] theorem zHP{i:Nat}{f:XE}{a:Int}(h:τ[i]? = some (some (.sh (.int a)))):xAug i f τ=iI (f τ) (augT i a):=by unfold xAug;rw[h]
end
section
variable(ks kb kl:Nat)(o:EO)
variable{ks o}
variable(ks o)
variable(sys start:EV)
variable{ks kb kl o sys start}
end
section
variable{Z Z' Wr:Nat→Prop}{M M':Mem}{σ:bA}{τ τ':aY}
end
section
variable{Z:Nat→Prop}{M:Mem}
end
end WS
namespace WS
open PySem PySem.Spec PyProof.Rows L2
section
variable{Z Z' Wr:Nat→Prop}{M M':Mem}{σ:bA}{τ τ':aY}
end
end WS
namespace WS
open PySem PySem.Spec PyProof.Rows L2
open PySem.W (dataLt dataLe keyToks alike AllAlike Sortable SortsAt sortVals)
open Classical
end WS
namespace WS
open PySem PySem.Spec PyProof.Rows L2
open Classical
section
variable{Z0 Z Z':Nat→Prop}{M0 M M':Mem}{ks k:Nat}
end
section
variable(C:Addr)(mseq WG m3:Fn)(xs xn x3:dX)
end
section
variable{C:Addr}{m3:Fn}{x3:dX}{Z0:Nat→Prop}{M0:Mem}{ks kst kr:Nat}{fs:List (Str×EV)}{v2 v3 v4 vk:EV}{known:XV}{XS:List EV}
end
section
variable{C:Addr}{mseq WG m3:Fn}{xs xn x3:dX}
end
section
variable{Z Z':Nat→Prop}{M M':Mem}
end
section
variable{C:Addr}{mseq WG m3:Fn}{xs xn x3:dX}
end
section
variable{Z Wr:Nat→Prop}{M:Mem}{σ:bA}{τ:aY}
end
section
variable{Z Z' Wr:Nat→Prop}{M M':Mem}{σ:bA}{τ:aY}
end
section
variable{Z Wr:Nat→Prop}{M:Mem}{σ:bA}{τ:aY}
end
section
variable{Z:Nat→Prop}{M:Mem}
end
end WS
namespace WS
variable[bG]
open PySem PySem.Spec PyProof.Rows L2
open Classical
end WS
namespace WS
variable[bG]
open PySem PySem.Spec PyProof.Rows L2
section
variable{Z Wr:Nat→Prop}{M:Mem}
end
end WS
namespace WS
variable[bG]
open PySem PySem.Spec PyProof.Rows L2
open Classical
section
variable{α β:Type}{R:mC α β}{Z Z' Z1 Wr:Nat→Prop}{M M' M1:Mem}{σ σ' σ1:bA}{τ τ' τ1:aY}
end
def oU:XV→Bool
 |.non=>true
 |.str y=>decide (y.length≤1000)&&y.cps.toList.all fun c=>decide (c<16 ^ 8)
 |.int i=>decide (i.natAbs.log2<1000)
 |_=>false
def m_:XV→Bool
 |.int i=>decide (i.natAbs.log2<1000)
 |.tup xs=>decide (xs.length≤8)&&xs.all oU
 |_=>false
section
variable{Z Z' Wr:Nat→Prop}{M M':Mem}
theorem YT{t:XV}{v:EV}(d:Dn Z M t v)(h:oU t=true):pR v=true:=by
 cases t with
 |non=>rw[O8]at d;subst d;rfl
 |str y=>rw[O7]at d;subst d;exact h
 |int i=>rw[uO]at d;subst d;exact h
 |_=>cases h
theorem T5:∀{ts:List XV} {vs:List EV},a9 Z M ts vs→ts.all oU=true→vs.all pR=true
 |[],_,d,_=>by unfold a9 at d;subst d;rfl
 |t :: ts,_,d,h=>by
  unfold a9 at d;obtain⟨x,r,rfl,d1,d2⟩:=d;rw[List.all_cons,Bool.and_eq_true]at h⊢;exact⟨YT d1 h.1,T5 d2 h.2⟩
theorem zAK{t:XV}{v:EV}(d:Dn Z M t v)(h:m_ t=true):p0 v=true:=by
 cases t with
 |int i=>rw[uO]at d;subst d;exact h
 |tup ts=>
  unfold Dn at d;obtain⟨xs,rfl,d2⟩:=d;unfold m_ at h;unfold p0;rw[Bool.and_eq_true,decide_eq_true_iff]at h⊢;exact⟨by rw[d2.len];exact h.1,T5 d2 h.2⟩
 |_=>cases h
end
def bD(l:List (Addr×Bool))(t:XV):Option XV:=match t with
 |.exc C=>(l.lookup C).map .bl
 |.exf C _ _=>(l.lookup C).map .bl
 |_=>none
theorem zAv{Z:Nat→Prop}{M:Mem}{l:List (Addr×Bool)}{t r:XV}{v:EV}(d:bN Z M t v)(c:bD l t=some r):∃b,r = .bl b∧cC l v M = .ok (.bl b) M:=by
 cases t with
 |exc C=>
  rw[zAB]at d;subst d;unfold bD at c;dsimp only at c;cases q:l.lookup C with
  |none=>rw[q]at c;cases c
  |some b=>
   rw[q]at c;cases c;exact⟨b,rfl,by unfold cC;dsimp only;rw[q]⟩
 |exf C y t=>
  rw[U1]at d;obtain⟨x,rfl,_⟩:=d;unfold bD at c;dsimp only at c;cases q:l.lookup C with
  |none=>rw[q]at c;cases c
  |some b=>
   rw[q]at c;cases c;exact⟨b,rfl,by unfold cC;dsimp only;rw[q]⟩
 |_=>cases c
theorem iR(l:List (Addr×Bool)):qH (cC l) (bD l):=fun Z M t v r a c=>by
 obtain⟨b,rfl,e⟩:=zAv a c;exact kL (u:=.bl b) e (by simp)
def mY(l:List Addr)(y:Str)(t:XV):Option XV:=match t with
 |.exf C z x=>if z=y∧C∈l then some x else none
 |_=>none
theorem DY(l:List Addr)(y:Str):qH (o4 l y) (mY l y):=fun Z M t v r a c=>by
 cases t with
 |exf C z t=>
  rw[U1]at a;obtain⟨x,rfl,d⟩:=a;unfold mY at c;dsimp only at c;by_cases q:z=y∧C∈l
  ·rw[if_pos q]at c
   cases c;exact kL (u:=x) (by unfold o4;dsimp only;rw[if_pos q]) d
  ·rw[if_neg q]at c
   cases c
 |_=>cases c
section
variable{Z:Nat→Prop}{M:Mem}
end
section
variable{Z Z' EE Wr:Nat→Prop}{M M' M'':Mem}{σ:bA}{τ:aY}
end
section
variable{fr:Bool}{k:Kt}{Zw Z Z' Z1:Nat→Prop}{Mw M M' M1:Mem}{σ:bA}{τ τ1:aY}
end
section
variable{fr:Bool}{Z Z' Z1 Wr:Nat→Prop}{M M' M1:Mem}{σ:bA}{τ τ1:aY}
end
section
variable{Z Z' Z1 Wr:Nat→Prop}{M M' M1:Mem}{σ:bA}{τ τ' τ1:aY}{v:EV}
end
section
variable{Z Z':Nat→Prop}{M M':Mem}
end
structure WK where
 tl:XV
 hd:XV
 most:XV
 pr:Int
instance:Inhabited WK:=⟨⟨.non,.non,.non,0⟩⟩
instance:Inhabited XV:=⟨.non⟩
section
variable{Z:Nat→Prop}{M:Mem}{l:WK}{x:Int}
end
section
variable{Z:Nat→Prop}{M:Mem}
end
end WS
namespace WS
open PySem PySem.Spec PyProof.Rows L2
open Classical
section
variable{Z Z' Wr:Nat→Prop}{M M':Mem}{σ:bA}{τ:aY}
end
section
variable{Z Z' Wr:Nat→Prop}{M M':Mem}{σ:bA}{τ:aY}
end
end WS
namespace WS
variable[bG]
open PySem PySem.Spec PyProof.Rows L2
open Classical
end WS
namespace WS
open PySem PySem.Spec PyProof.Rows L2
open Classical
section
variable{Z:Nat→Prop}{M:Mem}{v:EV}
end
section
variable{Z Z' Z1 Wr:Nat→Prop}{M M' M1:Mem}{σ σ':bA}{τ τ':aY}
end
section
variable{Z:Nat→Prop}{M:Mem}
end
section
variable{Z Z' Wr:Nat→Prop}{M M':Mem}{σ:bA}{τ:aY}
end
end WS
namespace WS
variable[bG]
open PySem PySem.Spec PyProof.Rows L2
open Classical
def bY(C:Addr)(f:XE):XE:=fun τ=>(f τ).bind fun _ τ1=>.ok (.exc C) τ1
theorem kW{C:Addr}{f:FE}{x:XE}(h:QE f x):QE (iV C f) (bY C x):=fun Z Wr M σ τ E=>a_.bind (h Z Wr M σ τ E) fun t τ1 v M1 Z1 s E1 r=>⟨.exc C,M1,Z1,rfl,.refl,E1,.refl,by
 show Dn Z1 M1 (.exc C) (.exc C);simp⟩
def nP(C:Addr)(y:Str)(f:XE):XE:=fun τ=>(f τ).bind fun t τ1=>if m_ t=true then .ok (.exf C y t) τ1 else .bad
theorem DW{C:Addr}{y:Str}{f:FE}{x:XE}(h:QE f x):QE (pY C y f) (nP C y x):=fun Z Wr M σ τ E=>a_.bind (h Z Wr M σ τ E) fun t τ1 v M1 Z1 s E1 r=>by
 unfold tQ;by_cases c:m_ t=true
 ·rw[if_pos c,if_pos (zAK r c)]
  refine⟨.exf C y v,M1,Z1,rfl,.refl,E1,.refl,?_⟩;show Dn Z1 M1 (.exf C y t) (.exf C y v);unfold Dn;exact⟨v,rfl,r⟩
 ·rw[if_neg c]
  exact True.intro
@[simp] theorem zHK{C:Addr}{f:XE}{τ:aY}:bY C f τ=(f τ).bind fun _ τ1=>.ok (.exc C) τ1:=(rfl)
@[simp] theorem zHL{C:Addr}{y:Str}{f:XE}{τ:aY}:nP C y f τ=(f τ).bind fun t τ1=>if m_ t=true then .ok (.exf C y t) τ1 else .bad:=(rfl)
end WS
namespace WS
open PySem PySem.Spec PyProof.Rows L2
open Classical
section
variable{α β:Type}{τ τ1:aY}{t s:XV}{i:Nat}
@[simp] theorem XR.zAD{a:α}{g:α→aY→XR β}:(XR.ok a τ).bind g=g a τ:=(rfl)
@[simp] theorem XR.zHA{C:Addr}{fs:Option (List (Str×XV))}{g:α→aY→XR β}:(XR.err C fs τ:XR α).bind g = .err C fs τ:=(rfl)
@[simp] theorem zG6{a:α}{g:α→aY→kA}:iI (XR.ok a τ) g=g a τ:=(rfl)
@[simp] theorem zGP{C:Addr}{fs:Option (List (Str×XV))}{g:α→aY→kA}:iI (XR.err C fs τ:XR α) g = .err C fs τ:=(rfl)
@[simp] theorem noE_ok{a:α}:lF (XR.ok a τ) = .ok a τ:=(rfl)
def kA.seq(r:kA)(g:XS):kA:=match r with
 |.nx τ1=>g τ1
 |r=>r
@[simp] theorem mO{g:XS}:(kA.nx τ).seq g=g τ:=(rfl)
@[simp] theorem seq_rt{g:XS}{fr:Bool}:(kA.rt t fr τ).seq g = .rt t fr τ:=(rfl)
@[simp] theorem seq_bk{g:XS}:(kA.bk τ).seq g = .bk τ:=(rfl)
@[simp] theorem seq_ct{g:XS}:(kA.ct τ).seq g = .ct τ:=(rfl)
@[simp] theorem zHW{g:XS}{C:Addr}{fs:Option (List (Str×XV))}:(kA.err C fs τ).seq g = .err C fs τ:=(rfl)
@[simp] theorem mN{f g:XS}:bO f g τ=(f τ).seq g:=(rfl)
@[simp] theorem zHJ:oC τ = .nx τ:=(rfl)
@[simp] theorem zHG{f:XE}:oB f τ=iI (f τ) fun t τ1=>.rt t false τ1:=(rfl)
@[simp] theorem zHb{f:XE}:DH f τ=iI (f τ) fun t τ1=>.rt t true τ1:=(rfl)
def QL(i:Nat)(τ:aY):Option (Option Slot)→kA
 |some (some (.sh t))=>.rt t false τ
 |some (some (.ow t))=>.rt t true (τ.set i none)
 |_=>.bad
@[simp] theorem zHa:uS i τ=QL i τ τ[i]?:=(rfl)
@[simp] theorem zHX:QL i τ (some (some (.sh t))) = .rt t false τ:=(rfl)
@[simp] theorem zHY:QL i τ (some (some (.ow t))) = .rt t true (τ.set i none):=(rfl)
@[simp] theorem zHF{c:XT}{f g:XS}:oA c f g τ=iI (c τ) fun b τ1=>if b=true then f τ1 else g τ1:=(rfl)
def D_:Option aY→kA
 |some τ=>.nx τ
 |none=>.bad
@[simp] theorem zHo:D_ (some τ) = .nx τ:=(rfl)
@[simp] theorem zHH{p:k7}{f:XE}:cM p f τ=iI (f τ) fun t τ1=>D_ (p t τ1):=by
 unfold cM;rfl
@[simp] theorem zHc{f:XE}:uT i f τ=iI (f τ) fun t τ1=>D_ (iL i (.ow t) τ1):=by
 unfold uT;rfl
@[simp] theorem zHI{is:List Nat}{g:XA}:vC is g τ=iI (g τ) fun ts τ1=>D_ (n7 is ts τ1):=by
 unfold vC;rfl
@[simp] theorem xpN_ap:bU i t τ=iL i (.sh t) τ:=(rfl)
@[simp] theorem zG5{ts:List XV}:u7 (.lst ts)=some ts:=(rfl)
@[simp] theorem zG4{ts:List XV}:u7 (.tup ts)=some ts:=(rfl)
@[simp] theorem zGT:n7 [] [] τ=some τ:=(rfl)
@[simp] theorem zGK{is:List Nat}{ts:List XV}:n7 (i :: is) (t :: ts) τ=(iL i (.sh t) τ).bind fun τ1=>n7 is ts τ1:=(rfl)
theorem uG{s':Slot}{s0:Option Slot}(h:dW (some s0)=false):iL 0 s' (s0 :: τ)=some (some s' :: τ):=by
 unfold iL;rw[if_pos ⟨by simp,by simpa using h⟩];rfl
@[simp] theorem setN_s{s':Slot}{s0:Option Slot}:iL (i+1) s' (s0 :: τ)=(iL i s' τ).map (s0 :: ·):=by
 unfold iL;by_cases c:i<τ.length∧dW τ[i]? = false
 ·rw[if_pos c,if_pos (by simpa using c)];rfl
 ·rw[if_neg c,if_neg (by simpa using c)];rfl
@[simp] theorem zHt:dW (some none)=false:=(rfl)
@[simp] theorem muO_sh:dW (some (some (.sh t)))=false:=(rfl)
@[simp] theorem muO_bo:dW (some (some (.bo t)))=false:=(rfl)
@[simp] theorem muO_ow:dW (some (some (.ow t)))=false:=(rfl)
@[simp] theorem muO_mu:dW (some (some (.mu t)))=true:=(rfl)
@[simp] theorem zHU{s':Slot}:iL 0 s' (none :: τ)=some (some s' :: τ):=uG rfl
@[simp] theorem zHS{s':Slot}:iL 0 s' (some (.sh t) :: τ)=some (some s' :: τ):=uG rfl
@[simp] theorem zHV{s':Slot}:iL 0 s' (some (.bo t) :: τ)=some (some s' :: τ):=uG rfl
@[simp] theorem zHT{s':Slot}:iL 0 s' (some (.ow t) :: τ)=some (some s' :: τ):=uG rfl
def RB(i:Nat)(τ:aY):Option (Option Slot)→XR XV
 |some (some (.sh t))=>.ok t τ
 |some (some (.ow t))=>.ok t (τ.set i (some (.sh t)))
 |_=>.bad
@[simp] theorem xV_ap:xV i τ=RB i τ τ[i]?:=(rfl)
@[simp] theorem rdV_sh:RB i τ (some (some (.sh t))) = .ok t τ:=(rfl)
@[simp] theorem rdV_ow:RB i τ (some (some (.ow t))) = .ok t (τ.set i (some (.sh t))):=(rfl)
def tX(i:Nat)(τ:aY):Option (Option Slot)→XR BV
 |some (some (.sh t))=>.ok (.val t) τ
 |some (some _)=>.ok (.var i) τ
 |_=>.bad
@[simp] theorem xN_ap:xN i τ=tX i τ τ[i]?:=by
 unfold xN tX;cases τ[i]? with
 |none=>rfl
 |some o=>cases o with
  |none=>rfl
  |some s=>cases s <;> rfl
@[simp] theorem rdN_sh:tX i τ (some (some (.sh t))) = .ok (.val t) τ:=(rfl)
@[simp] theorem rdN_bo:tX i τ (some (some (.bo t))) = .ok (.var i) τ:=(rfl)
@[simp] theorem rdN_ow:tX i τ (some (some (.ow t))) = .ok (.var i) τ:=(rfl)
@[simp] theorem rdN_mu:tX i τ (some (some (.mu t))) = .ok (.var i) τ:=(rfl)
@[simp] theorem xB_ap{f:XE}:xB f τ=(f τ).bind fun t τ1=>.ok (.val t) τ1:=(rfl)
@[simp] theorem xC_ap:xC t τ = .ok t τ:=(rfl)
@[simp] theorem zHl:resB τ (.val t)=some t:=(rfl)
def tW:Option (Option Slot)→Option XV
 |some (some s)=>some s.t
 |_=>none
@[simp] theorem zHk:resB τ (.var i)=tW τ[i]?:=by
 unfold resB tW;dsimp only
 all_goals (
  cases τ[i]? with
  |none=>rfl
  |some o=>cases o <;> rfl)
@[simp] theorem slT_sh:tW (some (some (.sh t)))=some t:=(rfl)
@[simp] theorem slT_bo:tW (some (some (.bo t)))=some t:=(rfl)
@[simp] theorem slT_ow:tW (some (some (.ow t)))=some t:=(rfl)
@[simp] theorem slT_mu:tW (some (some (.mu t)))=some t:=(rfl)
@[simp] theorem zHp:oK (some t) τ = .ok t τ:=(rfl)
@[simp] theorem x1_ap{o:XV→Option XV}{f:XB}:x1 o f τ=(f τ).bind fun a τ1=>oK ((resB τ1 a).bind o) τ1:=(rfl)
@[simp] theorem x2_ap{o:XV→XV→Option XV}{f g:XB}:x2 o f g τ=(f τ).bind fun a τ1=>(g τ1).bind fun b τ2=>oK ((resB τ2 a).bind fun t=>(resB τ2 b).bind fun s=>o t s) τ2:=(rfl)
@[simp] theorem zGY{b:Bool}:isTrue (.bl b)=some b:=(rfl)
def ofT(τ:aY):Option Bool→XR Bool
 |some b=>.ok b τ
 |none=>.bad
@[simp] theorem zHn{b:Bool}:ofT τ (some b) = .ok b τ:=(rfl)
@[simp] theorem xT_ap{f:XE}:xT f τ=(f τ).bind fun t τ1=>ofT τ1 (isTrue t):=by
 unfold xT;rfl
@[simp] theorem zG8{f:XT}:s_ f τ=(f τ).bind fun b τ1=>.ok (!b) τ1:=(rfl)
@[simp] theorem zG9{f g:XT}:PH f g τ=(f τ).bind fun b τ1=>if b=true then g τ1 else .ok false τ1:=(rfl)
@[simp] theorem zHC{f g:XT}:DO f g τ=(f τ).bind fun b τ1=>if b=true then .ok true τ1 else g τ1:=(rfl)
@[simp] theorem zG7:uR τ = .ok true τ:=(rfl)
@[simp] theorem zHf:cE τ = .ok [] τ:=(rfl)
@[simp] theorem zGS{f:XE}{g:XA}:a0 f g τ=(f τ).bind fun t τ1=>(g τ1).bind fun ts τ2=>.ok (t :: ts) τ2:=(rfl)
@[simp] theorem zHd:lY τ = .ok [] τ:=(rfl)
@[simp] theorem zGQ{f:XB}{g:XM}:kN f g τ=(f τ).bind fun t τ1=>(g τ1).bind fun ts τ2=>.ok (t :: ts) τ2:=(rfl)
theorem sz{n:Nat}(h:n≤1000):n≤sizeLine:=Nat.le_trans h (by decide)
def mI(τ:aY)(ts:List XV):XR XV:=if ts.length≤sizeLine then .ok (.lst ts) τ else .bad
def p8(τ:aY)(ts:List XV):XR XV:=if ts.length≤sizeLine then .ok (.tup ts) τ else .bad
@[simp] theorem zHM{g:XA}:dP g τ=(g τ).bind fun ts τ1=>mI τ1 ts:=(rfl)
@[simp] theorem zHB{g:XA}:o5 g τ=(g τ).bind fun ts τ1=>p8 τ1 ts:=(rfl)
theorem nH{ts:List XV}(h:ts.length≤1000):mI τ ts = .ok (.lst ts) τ:=if_pos (sz h)
@[simp] theorem zH0:mI τ [] = .ok (.lst []) τ:=nH (by decide)
@[simp] theorem mkT_0:p8 τ [] = .ok (.tup []) τ:=if_pos (sz (by decide))
@[simp] theorem mkT_1{a:XV}:p8 τ [a] = .ok (.tup [a]) τ:=if_pos (sz (by simp))
@[simp] theorem mkT_2{a b:XV}:p8 τ [a,b] = .ok (.tup [a,b]) τ:=if_pos (sz (by simp))
@[simp] theorem zEM{a b c:XV}:p8 τ [a,b,c] = .ok (.tup [a,b,c]) τ:=if_pos (sz (by simp))
@[simp] theorem mkT_4{a b c d:XV}:p8 τ [a,b,c,d] = .ok (.tup [a,b,c,d]) τ:=if_pos (sz (by simp))
@[simp] theorem mkL_1{a:XV}:mI τ [a] = .ok (.lst [a]) τ:=nH (by simp)
@[simp] theorem mkL_2{a b:XV}:mI τ [a,b] = .ok (.lst [a,b]) τ:=nH (by simp)
@[simp] theorem mkL_3{a b c:XV}:mI τ [a,b,c] = .ok (.lst [a,b,c]) τ:=nH (by simp)
@[simp] theorem mkL_4{a b c d:XV}:mI τ [a,b,c,d] = .ok (.lst [a,b,c,d]) τ:=nH (by simp)
@[simp] theorem mkL_6{a b c d e f:XV}:mI τ [a,b,c,d,e,f] = .ok (.lst [a,b,c,d,e,f]) τ:=nH (by simp)
def D2(ms:List Md):kA→qF
 |.rt t fr τ=>.ok t fr (dU ms τ)
 |.nx τ=>.ok .non false (dU ms τ)
 |.err C fs τ=>.err C fs (dU ms τ)
 |_=>.bad
theorem iD{N:Nat}{ms:List Md}{b:XS}{ts:List XV}:nU N ms b ts=D2 ms (b (slotsOf ms ts++List.replicate (N-ts.length) none)):=by
 unfold nU;cases b (slotsOf ms ts++List.replicate (N-ts.length) none) <;> rfl
@[simp] theorem zH1{ms:List Md}{fr:Bool}:D2 ms (.rt t fr τ) = .ok t fr (dU ms τ):=(rfl)
@[simp] theorem zH2{ms:List Md}:D2 ms (.nx τ) = .ok .non false (dU ms τ):=(rfl)
@[simp] theorem zHw{ms:List Md}{C:Addr}{fs:Option (List (Str×XV))}:D2 ms (.err C fs τ) = .err C fs (dU ms τ):=(rfl)
@[simp] theorem zGz{ts:List XV}:slotsOf [] ts = []:=by cases ts <;> rfl
@[simp] theorem zGH{ms:List Md}{ts:List XV}:slotsOf (.sh :: ms) (t :: ts)=some (.sh t) :: slotsOf ms ts:=(rfl)
@[simp] theorem zGJ{ms:List Md}{ts:List XV}:slotsOf (.bo :: ms) (t :: ts)=some (.bo t) :: slotsOf ms ts:=(rfl)
@[simp] theorem zGI{ms:List Md}{ts:List XV}:slotsOf (.mu :: ms) (t :: ts)=some (.mu t) :: slotsOf ms ts:=(rfl)
@[simp] theorem zHm:dU [] τ = []:=by unfold dU;rfl
@[simp] theorem zGV{ms:List Md}{s:Option Slot}:dU (.sh :: ms) (s :: τ)=dU ms τ:=(rfl)
@[simp] theorem zGX{ms:List Md}{s:Option Slot}:dU (.bo :: ms) (s :: τ)=dU ms τ:=(rfl)
@[simp] theorem zGW{ms:List Md}{s:Slot}:dU (.mu :: ms) (some s :: τ)=s.t :: dU ms τ:=(rfl)
@[simp] theorem t_sh:(Slot.sh t).t=t:=(rfl)
@[simp] theorem t_bo:(Slot.bo t).t=t:=(rfl)
@[simp] theorem t_ow:(Slot.ow t).t=t:=(rfl)
@[simp] theorem t_mu:(Slot.mu t).t=t:=(rfl)
@[simp] theorem zGD:getArgs τ [] [] = some []:=(rfl)
@[simp] theorem zGy{m:Md}{b:BV}{ms:List Md}{bs:List BV}:getArgs τ (m :: ms) (b :: bs)=(mR τ m b).bind fun t=>(getArgs τ ms bs).map (t :: ·):=by
 conv=>lhs;unfold getArgs
 cases mR τ m b with
 |none=>rfl
 |some t=>cases getArgs τ ms bs <;> rfl
@[simp] theorem zGZ:mR τ .sh (.val t)=some t:=(rfl)
@[simp] theorem zG1{b:BV}:mR τ .bo b=resB τ b:=(rfl)
def v7:Option (Option Slot)→Option XV
 |some (some s)=>if s.own=true then some s.t else none
 |_=>none
@[simp] theorem X9:k_ τ i=v7 τ[i]?:=by
 unfold k_ v7;rfl
@[simp] theorem zG0:mR τ .mu (.var i)=v7 τ[i]?:=X9
@[simp] theorem muS_ow:v7 (some (some (.ow t)))=some t:=(rfl)
@[simp] theorem muS_mu:v7 (some (some (.mu t)))=some t:=(rfl)
@[simp] theorem zGG:kR [] = []:=(rfl)
@[simp] theorem zGF{bs:List BV}:kR (.val t :: bs)=kR bs:=(rfl)
@[simp] theorem zGE{bs:List BV}:kR (.var i :: bs)=i :: kR bs:=(rfl)
@[simp] theorem zGU{bs:List BV}{outs:List XV}:bH τ [] bs outs=τ:=by unfold bH;rfl
@[simp] theorem zGA{ms:List Md}{b:BV}{bs:List BV}{outs:List XV}:bH τ (.sh :: ms) (b :: bs) outs=bH τ ms bs outs:=by conv=>lhs;unfold bH
@[simp] theorem zGC{ms:List Md}{b:BV}{bs:List BV}{outs:List XV}:bH τ (.bo :: ms) (b :: bs) outs=bH τ ms bs outs:=by conv=>lhs;unfold bH
@[simp] theorem zGB{ms:List Md}{bs:List BV}{outs:List XV}:bH τ (.mu :: ms) (.var i :: bs) (t :: outs)=bH (iF τ i t) ms bs outs:=by conv=>lhs;unfold bH
@[simp] theorem zHQ{s0:XV}{r:aY}:iF (some (.ow s0) :: r) 0 t=some (.ow t) :: r:=(rfl)
@[simp] theorem zHg{s0:XV}{r:aY}:iF (some (.mu s0) :: r) 0 t=some (.mu t) :: r:=(rfl)
@[simp] theorem updS_s{s0:Option Slot}{r:aY}:iF (s0 :: r) (i+1) t=s0 :: iF r i t:=by
 unfold iF;rw[List.getElem?_cons_succ];cases r[i]? with
 |none=>rfl
 |some o=>cases o <;> rfl
def P_(τ:aY)(ms:List Md)(bs:List BV):qF→XR XV
 |.ok t _ outs=>.ok t (bH τ ms bs outs)
 |.err C fs outs=>.err C fs (bH τ ms bs outs)
 |.bad=>.bad
def PB(τ:aY)(ms:List Md)(bs:List BV):qF→XR XV
 |.ok t true outs=>.ok t (bH τ ms bs outs)
 |.ok _ false _=>.bad
 |.err C fs outs=>.err C fs (bH τ ms bs outs)
 |.bad=>.bad
@[simp] theorem zHy{ms:List Md}{bs:List BV}{fr:Bool}{outs:List XV}:P_ τ ms bs (.ok t fr outs) = .ok t (bH τ ms bs outs):=(rfl)
@[simp] theorem zG2{ms:List Md}{bs:List BV}{C:Addr}{fs:Option (List (Str×XV))}{outs:List XV}:P_ τ ms bs (.err C fs outs) = .err C fs (bH τ ms bs outs):=(rfl)
@[simp] theorem zG3{ms:List Md}{bs:List BV}{outs:List XV}:PB τ ms bs (.ok t true outs) = .ok t (bH τ ms bs outs):=(rfl)
@[simp] theorem zGL{ms:List Md}{bs:List BV}{C:Addr}{fs:Option (List (Str×XV))}{outs:List XV}:PB τ ms bs (.err C fs outs) = .err C fs (bH τ ms bs outs):=(rfl)
def u6(τ:aY)(ms:List Md)(bs:List BV)(k:qF→XR XV)(p:dX):Option (List XV)→XR XV
 |none=>.bad
 |some ts=>if(kR bs).Nodup then k (p ts)else .bad
@[simp] theorem zGM{ms:List Md}{bs:List BV}{k:qF→XR XV}{p:dX}{ts:List XV}:u6 τ ms bs k p (some ts)=if(kR bs).Nodup then k (p ts)else .bad:=(rfl)
@[simp] theorem zHx{ms:List Md}{bs:List BV}{p:dX}:pQ τ ms bs p=u6 τ ms bs (P_ τ ms bs) p (getArgs τ ms bs):=by
 unfold pQ u6;cases getArgs τ ms bs with
 |none=>rfl
 |some ts=>
  dsimp only
  congr 1
@[simp] theorem zHz{ms:List Md}{bs:List BV}{p:dX}:oY τ ms bs p=u6 τ ms bs (PB τ ms bs) p (getArgs τ ms bs):=by
 unfold oY u6;cases getArgs τ ms bs with
 |none=>rfl
 |some ts=>
  dsimp only
  congr 1
@[simp] theorem zHe{ms:List Md}{p:dX}{g:XM}:mS ms p g τ=(g τ).bind fun bs τ1=>pQ τ1 ms bs p:=(rfl)
@[simp] theorem zGR{ms:List Md}{p:dX}{g:XM}:C9 ms p g τ=(g τ).bind fun bs τ1=>oY τ1 ms bs p:=(rfl)
section
variable{i j:Int}{x y:Str}
@[simp] theorem oAdd_i:cI (.int i) (.int j)=some (.int (i+j)):=(rfl)
@[simp] theorem oNeg_i:oNeg (.int i)=some (.int (-i)):=(rfl)
@[simp] theorem oMul_i:mZ (.int i) (.int j)=if CMul i j then some (.int (i*j))else none:=(rfl)
@[simp] theorem zHZ:P6 (.int i) (.int j)=if CDiv i j then some (.int (i / j))else none:=(rfl)
@[simp] theorem oMod_i:oMod (.int i) (.int j)=if 0<j then some (.int (i % j))else none:=by unfold oMod o8;dsimp only;by_cases h:0<j <;> simp[h]
@[simp] theorem oPow_i:vN (.int i) (.int j)=if CPow i j then some (.int (i ^ j.toNat))else none:=(rfl)
@[simp] theorem oLt_i:oLt (.int i) (.int j)=some (.bl (decide (i<j))):=(rfl)
@[simp] theorem oGe_i:RJ (.int i) (.int j)=some (.bl (decide (j≤i))):=(rfl)
@[simp] theorem zHr{ts:List XV}:lQ (.lst ts)=some (.int ts.length):=(rfl)
@[simp] theorem zHq{ts:List XV}:lQ (.tup ts)=some (.int ts.length):=(rfl)
@[simp] theorem zH4:asInt (.int i)=some i:=(rfl)
@[simp] theorem UA{ts:List XV}:dM (.lst ts) (.int i)=(iW ts.length i).bind fun j=>ts[j]?:=(rfl)
@[simp] theorem zHs{ts:List XV}:dM (.tup ts) (.int i)=(iW ts.length i).bind fun j=>ts[j]?:=(rfl)
theorem oR{n k:Nat}(h:k<n):iW n (k:Int)=some k:=by
 unfold iW L2.ixN;rw[if_pos (by omega),if_pos (by omega)];simp
end
end
end WS
namespace WS
open PySem PySem.Spec PyProof.Rows L2
def top(i:Nat):Stmt:=PySem.Challenge.pw_windowsteps_k01_errors.main.body.getD i (.Pass ⟨0,0,0,0⟩)
structure Ad where
 lN:Addr
 lM:Addr
 k9:Addr
 l8:Addr
 l7:Addr
 lL:Addr
 mW:Addr
 cG:Addr
 aE:Addr
 aC:Addr
 aG:Addr
 aH:Addr
 aF:Addr
 aI:Addr
 aK:Addr
 aL:Addr
 aJ:Addr
 aP:Addr
 aM:Addr
 aO:Addr
 aN:Addr
 aQ:Addr
 aU:Addr
 aR:Addr
 aS:Addr
 aW:Addr
 aV:Addr
 aX:Addr
structure Txt(K:PySem.W.Frag)(mg:Str→Option Value)(a:Ad):Prop where
 lN:mg "_law_pen" = some (.ref a.lN)
 lM:mg "_law_next" = some (.ref a.lM)
 k9:mg "_law_draw" = some (.ref a.k9)
 lL:mg "_law_kinds" = some (.ref a.lL)
 mW:mg "law" = some (.ref a.mW)
 CL:mg "WindowError" = some (.ref a.cG)
 CN:mg "ParseError" = some (.ref a.aE)
 CM:mg "NotAdmitted" = some (.ref a.aC)
 MG:mg "InvalidSystem" = some (.ref a.aG)
 NA:mg "UnknownRule" = some (.ref a.aH)
 L7:mg "UnknownSetting" = some (.ref a.aF)
 L8:mg "InvalidNumbers" = some (.ref a.aI)
 MJ:mg "Contradiction" = some (.ref a.aK)
 ND:mg "InvalidStep" = some (.ref a.aL)
 MH:mg "InvalidPrices" = some (.ref a.aJ)
 NH:mg "NoSolution" = some (.ref a.aP)
 L_:mg "InvalidAmounts" = some (.ref a.aM)
 M5:mg "NotASolution" = some (.ref a.aO)
 MZ:mg "PlanFinished" = some (.ref a.aN)
 MF:mg "NothingToUndo" = some (.ref a.aQ)
 NE:mg "InvalidName" = some (.ref a.aU)
 MI:mg "DuplicateName" = some (.ref a.aR)
 NB:mg "UnknownName" = some (.ref a.aS)
 NC:mg "UnknownMark" = some (.ref a.aW)
 L9:mg "InvalidCommand" = some (.ref a.aV)
 NG:mg "InvalidLine" = some (.ref a.aX)
 q9:PySem.W.excIn K a.aK [.type "ValueError",.type "Exception",.type "BaseException",.type "object"] "ValueError.__new__" = true
 rJ:PySem.W.keepIn K (.ref a.aK)=true
 dB:PySem.W.subIn K (.ref a.aK) (.type "BaseException")=some true
 rD:PySem.W.typeIn K (.ref a.aK)=some (.type "type")
 q8:PySem.W.excIn K a.aR [.type "ValueError",.type "Exception",.type "BaseException",.type "object"] "ValueError.__new__" = true
 rH:PySem.W.keepIn K (.ref a.aR)=true
 dA:PySem.W.subIn K (.ref a.aR) (.type "BaseException")=some true
 rC:PySem.W.typeIn K (.ref a.aR)=some (.type "type")
 qM:PySem.W.excIn K a.aM [.type "ValueError",.type "Exception",.type "BaseException",.type "object"] "ValueError.__new__" = true
 qX:PySem.W.keepIn K (.ref a.aM)=true
 c7:PySem.W.subIn K (.ref a.aM) (.type "BaseException")=some true
 qR:PySem.W.typeIn K (.ref a.aM)=some (.type "type")
 qL:PySem.W.excIn K a.aV [.type "ValueError",.type "Exception",.type "BaseException",.type "object"] "ValueError.__new__" = true
 qW:PySem.W.keepIn K (.ref a.aV)=true
 c6:PySem.W.subIn K (.ref a.aV) (.type "BaseException")=some true
 qQ:PySem.W.typeIn K (.ref a.aV)=some (.type "type")
 rW:PySem.W.excIn K a.aX [.type "ValueError",.type "Exception",.type "BaseException",.type "object"] "ValueError.__new__" = true
 sK:PySem.W.keepIn K (.ref a.aX)=true
 dJ:PySem.W.subIn K (.ref a.aX) (.type "BaseException")=some true
 sC:PySem.W.typeIn K (.ref a.aX)=some (.type "type")
 rV:PySem.W.excIn K a.aU [.type "ValueError",.type "Exception",.type "BaseException",.type "object"] "ValueError.__new__" = true
 sJ:PySem.W.keepIn K (.ref a.aU)=true
 dI:PySem.W.subIn K (.ref a.aU) (.type "BaseException")=some true
 sA:PySem.W.typeIn K (.ref a.aU)=some (.type "type")
 qK:PySem.W.excIn K a.aI [.type "ValueError",.type "Exception",.type "BaseException",.type "object"] "ValueError.__new__" = true
 qU:PySem.W.keepIn K (.ref a.aI)=true
 cZ:PySem.W.subIn K (.ref a.aI) (.type "BaseException")=some true
 qP:PySem.W.typeIn K (.ref a.aI)=some (.type "type")
 q7:PySem.W.excIn K a.aJ [.type "ValueError",.type "Exception",.type "BaseException",.type "object"] "ValueError.__new__" = true
 rG:PySem.W.keepIn K (.ref a.aJ)=true
 c_:PySem.W.subIn K (.ref a.aJ) (.type "BaseException")=some true
 rB:PySem.W.typeIn K (.ref a.aJ)=some (.type "type")
 rT:PySem.W.excIn K a.aL [.type "ValueError",.type "Exception",.type "BaseException",.type "object"] "ValueError.__new__" = true
 sH:PySem.W.keepIn K (.ref a.aL)=true
 dH:PySem.W.subIn K (.ref a.aL) (.type "BaseException")=some true
 r_:PySem.W.typeIn K (.ref a.aL)=some (.type "type")
 qZ:PySem.W.excIn K a.aG [.type "ValueError",.type "Exception",.type "BaseException",.type "object"] "ValueError.__new__" = true
 rF:PySem.W.keepIn K (.ref a.aG)=true
 c9:PySem.W.subIn K (.ref a.aG) (.type "BaseException")=some true
 rA:PySem.W.typeIn K (.ref a.aG)=some (.type "type")
 sL:PySem.W.excIn K a.aP [.type "ValueError",.type "Exception",.type "BaseException",.type "object"] "ValueError.__new__" = true
 sO:PySem.W.keepIn K (.ref a.aP)=true
 dK:PySem.W.subIn K (.ref a.aP) (.type "BaseException")=some true
 sM:PySem.W.typeIn K (.ref a.aP)=some (.type "type")
 rL:PySem.W.excIn K a.aO [.type "ValueError",.type "Exception",.type "BaseException",.type "object"] "ValueError.__new__" = true
 rP:PySem.W.keepIn K (.ref a.aO)=true
 dD:PySem.W.subIn K (.ref a.aO) (.type "BaseException")=some true
 rN:PySem.W.typeIn K (.ref a.aO)=some (.type "type")
 qY:PySem.W.excIn K a.aQ [.type "ValueError",.type "Exception",.type "BaseException",.type "object"] "ValueError.__new__" = true
 rE:PySem.W.keepIn K (.ref a.aQ)=true
 c8:PySem.W.subIn K (.ref a.aQ) (.type "BaseException")=some true
 q_:PySem.W.typeIn K (.ref a.aQ)=some (.type "type")
 rK:PySem.W.excIn K a.aN [.type "ValueError",.type "Exception",.type "BaseException",.type "object"] "ValueError.__new__" = true
 rO:PySem.W.keepIn K (.ref a.aN)=true
 dC:PySem.W.subIn K (.ref a.aN) (.type "BaseException")=some true
 rM:PySem.W.typeIn K (.ref a.aN)=some (.type "type")
 rS:PySem.W.excIn K a.aW [.type "ValueError",.type "Exception",.type "BaseException",.type "object"] "ValueError.__new__" = true
 sF:PySem.W.keepIn K (.ref a.aW)=true
 dG:PySem.W.subIn K (.ref a.aW) (.type "BaseException")=some true
 rZ:PySem.W.typeIn K (.ref a.aW)=some (.type "type")
 rR:PySem.W.excIn K a.aS [.type "ValueError",.type "Exception",.type "BaseException",.type "object"] "ValueError.__new__" = true
 sE:PySem.W.keepIn K (.ref a.aS)=true
 dF:PySem.W.subIn K (.ref a.aS) (.type "BaseException")=some true
 rY:PySem.W.typeIn K (.ref a.aS)=some (.type "type")
 rQ:PySem.W.excIn K a.aH [.type "ValueError",.type "Exception",.type "BaseException",.type "object"] "ValueError.__new__" = true
 sD:PySem.W.keepIn K (.ref a.aH)=true
 dE:PySem.W.subIn K (.ref a.aH) (.type "BaseException")=some true
 rX:PySem.W.typeIn K (.ref a.aH)=some (.type "type")
 qJ:PySem.W.excIn K a.aF [.type "ValueError",.type "Exception",.type "BaseException",.type "object"] "ValueError.__new__" = true
 qS:PySem.W.keepIn K (.ref a.aF)=true
 cY:PySem.W.subIn K (.ref a.aF) (.type "BaseException")=some true
 qO:PySem.W.typeIn K (.ref a.aF)=some (.type "type")
 SK:∀q∈[(a.aE,false),(a.aC,false),(a.aG,false),(a.aH,false),(a.aF,false),(a.aI,false),(a.aK,true),(a.aL,false),(a.aJ,false),(a.aP,false),(a.aM,false),(a.aO,false),(a.aN,false),(a.aQ,false),(a.aU,false),(a.aR,false),(a.aS,false),(a.aW,false),(a.aV,false),(a.aX,false)],ExcC K q.1∧PySem.W.kitOne K (.ref q.1) (.ref a.aK)=some q.2
 SJ:∀q∈[(a.aE,false),(a.aC,false),(a.aG,false),(a.aH,false),(a.aF,false),(a.aI,false),(a.aK,false),(a.aL,false),(a.aJ,false),(a.aP,false),(a.aM,false),(a.aO,false),(a.aN,false),(a.aQ,false),(a.aU,false),(a.aR,true),(a.aS,false),(a.aW,false),(a.aV,false),(a.aX,false)],ExcC K q.1∧PySem.W.kitOne K (.ref q.1) (.ref a.aR)=some q.2
 R9:∀q∈[(a.aE,false),(a.aC,false),(a.aG,false),(a.aH,false),(a.aF,false),(a.aI,false),(a.aK,false),(a.aL,false),(a.aJ,false),(a.aP,false),(a.aM,true),(a.aO,false),(a.aN,false),(a.aQ,false),(a.aU,false),(a.aR,false),(a.aS,false),(a.aW,false),(a.aV,false),(a.aX,false)],ExcC K q.1∧PySem.W.kitOne K (.ref q.1) (.ref a.aM)=some q.2
 R8:∀q∈[(a.aE,false),(a.aC,false),(a.aG,false),(a.aH,false),(a.aF,false),(a.aI,false),(a.aK,false),(a.aL,false),(a.aJ,false),(a.aP,false),(a.aM,false),(a.aO,false),(a.aN,false),(a.aQ,false),(a.aU,false),(a.aR,false),(a.aS,false),(a.aW,false),(a.aV,true),(a.aX,false)],ExcC K q.1∧PySem.W.kitOne K (.ref q.1) (.ref a.aV)=some q.2
 SZ:∀q∈[(a.aE,false),(a.aC,false),(a.aG,false),(a.aH,false),(a.aF,false),(a.aI,false),(a.aK,false),(a.aL,false),(a.aJ,false),(a.aP,false),(a.aM,false),(a.aO,false),(a.aN,false),(a.aQ,false),(a.aU,false),(a.aR,false),(a.aS,false),(a.aW,false),(a.aV,false),(a.aX,true)],ExcC K q.1∧PySem.W.kitOne K (.ref q.1) (.ref a.aX)=some q.2
 SY:∀q∈[(a.aE,false),(a.aC,false),(a.aG,false),(a.aH,false),(a.aF,false),(a.aI,false),(a.aK,false),(a.aL,false),(a.aJ,false),(a.aP,false),(a.aM,false),(a.aO,false),(a.aN,false),(a.aQ,false),(a.aU,true),(a.aR,false),(a.aS,false),(a.aW,false),(a.aV,false),(a.aX,false)],ExcC K q.1∧PySem.W.kitOne K (.ref q.1) (.ref a.aU)=some q.2
 R7:∀q∈[(a.aE,false),(a.aC,false),(a.aG,false),(a.aH,false),(a.aF,false),(a.aI,true),(a.aK,false),(a.aL,false),(a.aJ,false),(a.aP,false),(a.aM,false),(a.aO,false),(a.aN,false),(a.aQ,false),(a.aU,false),(a.aR,false),(a.aS,false),(a.aW,false),(a.aV,false),(a.aX,false)],ExcC K q.1∧PySem.W.kitOne K (.ref q.1) (.ref a.aI)=some q.2
 SH:∀q∈[(a.aE,false),(a.aC,false),(a.aG,false),(a.aH,false),(a.aF,false),(a.aI,false),(a.aK,false),(a.aL,false),(a.aJ,true),(a.aP,false),(a.aM,false),(a.aO,false),(a.aN,false),(a.aQ,false),(a.aU,false),(a.aR,false),(a.aS,false),(a.aW,false),(a.aV,false),(a.aX,false)],ExcC K q.1∧PySem.W.kitOne K (.ref q.1) (.ref a.aJ)=some q.2
 SX:∀q∈[(a.aE,false),(a.aC,false),(a.aG,false),(a.aH,false),(a.aF,false),(a.aI,false),(a.aK,false),(a.aL,true),(a.aJ,false),(a.aP,false),(a.aM,false),(a.aO,false),(a.aN,false),(a.aQ,false),(a.aU,false),(a.aR,false),(a.aS,false),(a.aW,false),(a.aV,false),(a.aX,false)],ExcC K q.1∧PySem.W.kitOne K (.ref q.1) (.ref a.aL)=some q.2
 SF:∀q∈[(a.aE,false),(a.aC,false),(a.aG,true),(a.aH,false),(a.aF,false),(a.aI,false),(a.aK,false),(a.aL,false),(a.aJ,false),(a.aP,false),(a.aM,false),(a.aO,false),(a.aN,false),(a.aQ,false),(a.aU,false),(a.aR,false),(a.aS,false),(a.aW,false),(a.aV,false),(a.aX,false)],ExcC K q.1∧PySem.W.kitOne K (.ref q.1) (.ref a.aG)=some q.2
 S3:∀q∈[(a.aE,false),(a.aC,false),(a.aG,false),(a.aH,false),(a.aF,false),(a.aI,false),(a.aK,false),(a.aL,false),(a.aJ,false),(a.aP,true),(a.aM,false),(a.aO,false),(a.aN,false),(a.aQ,false),(a.aU,false),(a.aR,false),(a.aS,false),(a.aW,false),(a.aV,false),(a.aX,false)],ExcC K q.1∧PySem.W.kitOne K (.ref q.1) (.ref a.aP)=some q.2
 SM:∀q∈[(a.aE,false),(a.aC,false),(a.aG,false),(a.aH,false),(a.aF,false),(a.aI,false),(a.aK,false),(a.aL,false),(a.aJ,false),(a.aP,false),(a.aM,false),(a.aO,true),(a.aN,false),(a.aQ,false),(a.aU,false),(a.aR,false),(a.aS,false),(a.aW,false),(a.aV,false),(a.aX,false)],ExcC K q.1∧PySem.W.kitOne K (.ref q.1) (.ref a.aO)=some q.2
 SV:∀q∈[(a.aE,false),(a.aC,true),(a.aG,false),(a.aH,false),(a.aF,false),(a.aI,false),(a.aK,false),(a.aL,false),(a.aJ,false),(a.aP,false),(a.aM,false),(a.aO,false),(a.aN,false),(a.aQ,false),(a.aU,false),(a.aR,false),(a.aS,false),(a.aW,false),(a.aV,false),(a.aX,false)],ExcC K q.1∧PySem.W.kitOne K (.ref q.1) (.ref a.aC)=some q.2
 SC:∀q∈[(a.aE,false),(a.aC,false),(a.aG,false),(a.aH,false),(a.aF,false),(a.aI,false),(a.aK,false),(a.aL,false),(a.aJ,false),(a.aP,false),(a.aM,false),(a.aO,false),(a.aN,false),(a.aQ,true),(a.aU,false),(a.aR,false),(a.aS,false),(a.aW,false),(a.aV,false),(a.aX,false)],ExcC K q.1∧PySem.W.kitOne K (.ref q.1) (.ref a.aQ)=some q.2
 S2:∀q∈[(a.aE,true),(a.aC,false),(a.aG,false),(a.aH,false),(a.aF,false),(a.aI,false),(a.aK,false),(a.aL,false),(a.aJ,false),(a.aP,false),(a.aM,false),(a.aO,false),(a.aN,false),(a.aQ,false),(a.aU,false),(a.aR,false),(a.aS,false),(a.aW,false),(a.aV,false),(a.aX,false)],ExcC K q.1∧PySem.W.kitOne K (.ref q.1) (.ref a.aE)=some q.2
 SL:∀q∈[(a.aE,false),(a.aC,false),(a.aG,false),(a.aH,false),(a.aF,false),(a.aI,false),(a.aK,false),(a.aL,false),(a.aJ,false),(a.aP,false),(a.aM,false),(a.aO,false),(a.aN,true),(a.aQ,false),(a.aU,false),(a.aR,false),(a.aS,false),(a.aW,false),(a.aV,false),(a.aX,false)],ExcC K q.1∧PySem.W.kitOne K (.ref q.1) (.ref a.aN)=some q.2
 SU:∀q∈[(a.aE,false),(a.aC,false),(a.aG,false),(a.aH,false),(a.aF,false),(a.aI,false),(a.aK,false),(a.aL,false),(a.aJ,false),(a.aP,false),(a.aM,false),(a.aO,false),(a.aN,false),(a.aQ,false),(a.aU,false),(a.aR,false),(a.aS,false),(a.aW,true),(a.aV,false),(a.aX,false)],ExcC K q.1∧PySem.W.kitOne K (.ref q.1) (.ref a.aW)=some q.2
 SR:∀q∈[(a.aE,false),(a.aC,false),(a.aG,false),(a.aH,false),(a.aF,false),(a.aI,false),(a.aK,false),(a.aL,false),(a.aJ,false),(a.aP,false),(a.aM,false),(a.aO,false),(a.aN,false),(a.aQ,false),(a.aU,false),(a.aR,false),(a.aS,true),(a.aW,false),(a.aV,false),(a.aX,false)],ExcC K q.1∧PySem.W.kitOne K (.ref q.1) (.ref a.aS)=some q.2
 SQ:∀q∈[(a.aE,false),(a.aC,false),(a.aG,false),(a.aH,true),(a.aF,false),(a.aI,false),(a.aK,false),(a.aL,false),(a.aJ,false),(a.aP,false),(a.aM,false),(a.aO,false),(a.aN,false),(a.aQ,false),(a.aU,false),(a.aR,false),(a.aS,false),(a.aW,false),(a.aV,false),(a.aX,false)],ExcC K q.1∧PySem.W.kitOne K (.ref q.1) (.ref a.aH)=some q.2
 R6:∀q∈[(a.aE,false),(a.aC,false),(a.aG,false),(a.aH,false),(a.aF,true),(a.aI,false),(a.aK,false),(a.aL,false),(a.aJ,false),(a.aP,false),(a.aM,false),(a.aO,false),(a.aN,false),(a.aQ,false),(a.aU,false),(a.aR,false),(a.aS,false),(a.aW,false),(a.aV,false),(a.aX,false)],ExcC K q.1∧PySem.W.kitOne K (.ref q.1) (.ref a.aF)=some q.2
 S1:∀q∈[(a.aE,true),(a.aC,true),(a.aG,true),(a.aH,true),(a.aF,true),(a.aI,true),(a.aK,true),(a.aL,true),(a.aJ,true),(a.aP,true),(a.aM,true),(a.aO,true),(a.aN,true),(a.aQ,true),(a.aU,true),(a.aR,true),(a.aS,true),(a.aW,true),(a.aV,true),(a.aX,true)],ExcC K q.1∧PySem.W.kitOne K (.ref q.1) (.type "ValueError")=some q.2
 SN:∀q∈[(a.aE,true),(a.aC,true),(a.aG,true),(a.aH,true),(a.aF,true),(a.aI,true),(a.aK,true),(a.aL,true),(a.aJ,true),(a.aP,true),(a.aM,true),(a.aO,true),(a.aN,true),(a.aQ,true),(a.aU,true),(a.aR,true),(a.aS,true),(a.aW,true),(a.aV,true),(a.aX,true)],ExcC K q.1∧PySem.W.kitOne K (.ref q.1) (.ref a.cG)=some q.2
 MS:vU K a.aC a.l7 "rule"
 M8:vU K a.aE a.l8 "line"
 pH:PySem.W.readsIn K a.cG (.type "type")=true
 pJ:PySem.W.specialIn K (.ref a.cG) "__getattribute__" = some (some (.builtin "type.__getattribute__"))
 pI:PySem.W.findCls K (.ref a.cG) (.type "type") "__init__" = some (.val (.builtin "ValueError.__init__"))
 ON:∀C∈[a.aE],XfC K C∧PySem.W.findIn K (.ref C) "line" = some none
 OM:∀C∈[a.aC],XfC K C∧PySem.W.findIn K (.ref C) "rule" = some none
 sP:mg "ValueError" = none
 dO:mg "isinstance" = none
 n8:mg "len" = none
 s9:mg "list" = none
 pL:mg "range" = none
 tJ:mg "str" = none
 own:∀C∈[],ClsI K C
section
variable{P:Program}{w:World}{K:PySem.W.Frag}{mg:Str→Option Value}{base:Heap}{a:Ad}
abbrev CT:Stmt:=top 23
abbrev N7:List Str:=["_law_script"]
theorem S9:FnScope N7 ["_law_script"] (defScope CT):=⟨rfl,rfl,rfl,by decide +kernel,rfl,by decide +kernel,by decide +kernel⟩
def N5(a:Ad):FS:=(lB (kJ (a8 (eB (f1 u3) (a8 (QW (eV 0) P5 (P3 (eC (.int 60)))) bJ)) (a8 (eC (.int 0)) (a8 (eC (.int 0)) bJ)))))
def sZ(a:Ad):Fn:=fnOf 1 (N5 a)
theorem W6{fd:FuncData}(F:Fun K "_law_pen" "_law_pen" CT a.lN fd)(T:Txt K mg a):lW P w K mg base 1 a.lN 1 (sZ a):=
 fn_ok (k:=0) (N:=N7) (ps:=["_law_script"]) (body:=N5 a) F S9 (fun _ _ _ _ _ _ us hl=>match us,hl with|[_],_=>rfl) fun cdv A outer s H E hr=>by
  have tk:=takes_of (X:=cxOf (L2.CX P w) P w K mg base N7 "_law_pen" (defScope CT) a.lN cdv A outer s H E) (E:=E) rfl rfl rfl rfl;have hu:=hr.units;have hu2:=uH hr;have nd:=(S9).nd;exact(mT (oV (kU (bC (V7 zAW (bC (sSlc (sV 0) zAP (zAO sI)) bW) T.s9 rfl) (bC sI (bC sI bW))))))
abbrev CP:Stmt:=top 24
abbrev NX:List Str:=["_law_pen_here","_law_index","_law_cell","_law_some","_law_more","_law_top"]
theorem S5:FnScope NX ["_law_pen_here"] (defScope CP):=⟨rfl,rfl,rfl,by decide +kernel,rfl,by decide +kernel,by decide +kernel⟩
def NS(a:Ad):FS:=(cH (dQ (pN 1) (e2 j_ (eV 0) (eC (.int 1))))
 (cH (vI o7 (e2 cU (eV 1) (eC (.int 1))) (eV 0) (eC (.int 1)))
 (cH (dQ (pN 2) (e2 cU (e2 mV (eV 1) (eC (.int 1061))) (eC (.int 37))))
 (cH (p5 (mX (e2 (nR true) (e2 j_ (eV 0) (eC (.int 0))) (kJ bJ))) (dQ (pN 2) (e2 j_ (e2 j_ (eV 0) (eC (.int 0))) (e2 oW (eV 1) (eB (oH (f1 lenV) (f1 m5)) (a8 (e2 j_ (eV 0) (eC (.int 0))) bJ))))) pU)
 (cH (p5 (tAnd (mX (e2 EC (eV 1) (eB (oH (f1 lenV) (f1 m5)) (a8 (e2 j_ (eV 0) (eC (.int 0))) bJ)))) (mX (e2 RW (eV 2) (e2 DJ (eC (.int 10)) (eC (.int 18)))))) (lB (eV 2)) pU)
 (cH (dQ (pN 3) (e2 oW (e2 cU (e2 cU (e2 oW (eV 2) (eC (.int 2147483587))) (e2 mV (eV 1) (eC (.int 50069)))) (eC (.int 61))) (eC (.int 2147483587))))
 (cH (dQ (pN 4) (e2 oW (e2 cU (e2 cU (e2 mV (eV 3) (eV 3)) (e2 mV (eV 1) (eC (.int 40013)))) (eC (.int 43))) (eC (.int 2147483563))))
 (cH (dQ (pN 5) (e2 oW (e2 cU (e2 cU (e2 mV (eV 4) (eV 4)) (eV 3)) (e2 mV (e2 mV (eV 1) (eV 1)) (eC (.int 19)))) (eC (.int 2147483549))))
 (lB (e2 cU (e2 mV (e2 cU (e2 mV (eV 5) (eC (.int 2147483587))) (eV 4)) (eC (.int 2147483563))) (eV 3)))))))))))
def sW(a:Ad):Fn:=fnOf 6 (NS a)
theorem WY{fd:FuncData}(F:Fun K "_law_next" "_law_next" CP a.lM fd)(T:Txt K mg a):lW P w K mg base 1 a.lM 1 (sW a):=
 fn_ok (k:=0) (N:=NX) (ps:=["_law_pen_here"]) (body:=NS a) F S5 (fun _ _ _ _ _ _ us hl=>match us,hl with|[_],_=>rfl) fun cdv A outer s H E hr=>by
  have tk:=takes_of (X:=cxOf (L2.CX P w) P w K mg base NX "_law_next" (defScope CP) a.lM cdv A outer s H E) (E:=E) rfl rfl rfl rfl;have hu:=hr.units;have hu2:=uH hr;have nd:=(S5).nd;exact(cS (iJ (i:=1) nd (lO hu (sV 0) sI))
 (cS (PM (spV hu) (bQ iK (sV 1) sI) (sV 0) sI)
 (cS (iJ (i:=2) nd (bQ iK (bQ n6 (sV 1) sI) sI))
 (cS (vE (tCmp (VO hr) (lO hu (sV 0) sI) (kU bW) (nomark _)) (mT (iJ (i:=2) nd (lO hu (lO hu (sV 0) sI) (bQ tD (sV 1) (D6 (DI.alt DB) (bC (lO hu (sV 0) sI) bW) T.n8 rfl))))) uU)
 (cS (vE (zDM (tCmp scLt (sV 1) (D6 (DI.alt DB) (bC (lO hu (sV 0) sI) bW) T.n8 rfl) (nomark _)) (zDN (tCmp scGe (sV 2) (bQ VL sI sI) (nomark _)))).st (mT (oV (sV 2))) uU)
 (cS (iJ (i:=3) nd (bQ tD (bQ iK (bQ iK (bQ tD (sV 2) sI) (bQ n6 (sV 1) sI)) sI) sI))
 (cS (iJ (i:=4) nd (bQ tD (bQ iK (bQ iK (bQ n6 (sV 3) (sV 3)) (bQ n6 (sV 1) sI)) sI) sI))
 (cS (iJ (i:=5) nd (bQ tD (bQ iK (bQ iK (bQ n6 (sV 4) (sV 4)) (sV 3)) (bQ n6 (bQ n6 (sV 1) (sV 1)) sI)) sI))
 (mT (oV (bQ iK (bQ n6 (bQ iK (bQ n6 (sV 5) sI) (sV 4)) sI) (sV 3))))))))))))
abbrev CQ:Stmt:=top 25
abbrev NY:List Str:=["_law_pen_here","_law_under","_law_digit"]
theorem S6:FnScope NY ["_law_pen_here","_law_under"] (defScope CQ):=⟨rfl,rfl,rfl,by decide +kernel,rfl,by decide +kernel,by decide +kernel⟩
def NU(a:Ad):FS:=(cH (p5 (mX (e2 EC (e2 j_ (eV 0) (eC (.int 2))) (eV 1))) (vI o7 (nM 1 (sW a) (a8 (eV 0) bJ)) (eV 0) (eC (.int 2))) pU)
 (cH (dQ (pN 2) (e2 oW (e2 j_ (eV 0) (eC (.int 2))) (eV 1)))
 (cH (vI o7 (e2 O2 (e2 j_ (eV 0) (eC (.int 2))) (eV 1)) (eV 0) (eC (.int 2)))
 (lB (eV 2)))))
def oO(a:Ad):Fn:=fnOf 3 (NU a)
theorem WZ{fd:FuncData}(F:Fun K "_law_draw" "_law_draw" CQ a.k9 fd)(T:Txt K mg a)(NZ:lW P w K mg base 1 a.lM 1 (sW a)):lW P w K mg base 2 a.k9 2 (oO a):=
 fn_ok (k:=1) (N:=NY) (ps:=["_law_pen_here","_law_under"]) (body:=NU a) F S6 (fun _ _ _ _ _ _ us hl=>match us,hl with|[_,_],_=>rfl) fun cdv A outer s H E hr=>by
  have tk:=takes_of (X:=cxOf (L2.CX P w) P w K mg base NY "_law_draw" (defScope CQ) a.k9 cdv A outer s H E) (E:=E) rfl rfl rfl rfl;have hu:=hr.units;have hu2:=uH hr;have nd:=(S6).nd;exact(cS (vE (tCmp scLt (lO hu (sV 0) sI) (sV 1) (nomark _)) (mT (PM (spV hu) (tF NZ (hr.mono (by decide)) tk T.lM (bC (sV 0) bW)) (sV 0) sI)) uU)
 (cS (iJ (i:=2) nd (bQ tD (lO hu (sV 0) sI) (sV 1)))
 (cS (PM (spV hu) (bQ zAQ (lO hu (sV 0) sI) (sV 1)) (sV 0) sI)
 (mT (oV (sV 2))))))
abbrev LY:Stmt:=inClass (top 2) 0
abbrev WU:List Str:=["self","line"]
theorem WP:FnScope WU ["self","line"] (defScope LY):=⟨rfl,rfl,rfl,by decide +kernel,rfl,by decide +kernel,by decide +kernel⟩
theorem WQ{fd:FuncData}(F:Fun K "__init__" "ParseError.__init__" LY a.l8 fd)(T:Txt K mg a):pO P w K mg base 1 a.l8 a.aE "line" "line":=
 UY (F.okX WP (fun vs H Q E h=>TN h) (fun cdv A outer s H vs Q E hr h=>⟨_,pss_cons (ps_expr (T_ (W0:="WindowError") (by rfl) T.CL T.pH T.pJ T.pI (pa_cons (pv 0) (pa_cons (pe_joined (.cons pe_str (.cons (UP (Nat.lt_of_le_of_lt (Nat.add_le_add_left (show 2≤64 by decide) _) hr.units) (pv 1)) .nil))) pa_nil)))) (pss_one (ps_ost (pv 0) (pv 1))),XC (by decide) h⟩)) (F.binds fun _ _ _ _ _ _ us hl=>match us,hl with|[_,_],_=>rfl) (UD (ps:=["self","line"]) (ks:=["line"]) F [.me,.kw 0] (fun kV doc pm an cdv ct us ws h1 h2=>match us,ws,h1,h2 with|[_],[_],_,_=>rfl))
abbrev LQ:Stmt:=inClass (top 3) 0
abbrev WT:List Str:=["self","rule"]
theorem WM:FnScope WT ["self","rule"] (defScope LQ):=⟨rfl,rfl,rfl,by decide +kernel,rfl,by decide +kernel,by decide +kernel⟩
theorem WN{fd:FuncData}(F:Fun K "__init__" "NotAdmitted.__init__" LQ a.l7 fd)(T:Txt K mg a):pO P w K mg base 1 a.l7 a.aC "rule" "rule":=
 UY (F.okX WM (fun vs H Q E h=>TN h) (fun cdv A outer s H vs Q E hr h=>⟨_,pss_cons (ps_expr (T_ (W0:="WindowError") (by rfl) T.CL T.pH T.pJ T.pI (pa_cons (pv 0) (pa_cons (pe_joined (.cons pe_str (.cons (UP (Nat.lt_of_le_of_lt (Nat.add_le_add_left (show 2≤64 by decide) _) hr.units) (pv 1)) (.cons pe_str .nil)))) pa_nil)))) (pss_one (ps_ost (pv 0) (pv 1))),W_ (by decide) (by decide) h⟩)) (F.binds fun _ _ _ _ _ _ us hl=>match us,hl with|[_,_],_=>rfl) (UD (ps:=["self","rule"]) (ks:=["rule"]) F [.me,.kw 0] (fun kV doc pm an cdv ct us ws h1 h2=>match us,ws,h1,h2 with|[_],[_],_,_=>rfl))
abbrev CO:Stmt:=top 26
abbrev NM:List Str:=["_law_error","_law_found"]
theorem S4:FnScope NM ["_law_error"] (defScope CO):=⟨rfl,rfl,rfl,by decide +kernel,rfl,by decide +kernel,by decide +kernel⟩
def NK(a:Ad):FS:=(cH (dQ (pN 1) (kJ (a8 (e1 (cC [(a.aE,true),(a.aC,false),(a.aG,false),(a.aH,false),(a.aF,false),(a.aI,false),(a.aK,false),(a.aL,false),(a.aJ,false),(a.aP,false),(a.aM,false),(a.aO,false),(a.aN,false),(a.aQ,false),(a.aU,false),(a.aR,false),(a.aS,false),(a.aW,false),(a.aV,false),(a.aX,false)]) (eV 0)) (a8 (e1 (cC [(a.aE,false),(a.aC,true),(a.aG,false),(a.aH,false),(a.aF,false),(a.aI,false),(a.aK,false),(a.aL,false),(a.aJ,false),(a.aP,false),(a.aM,false),(a.aO,false),(a.aN,false),(a.aQ,false),(a.aU,false),(a.aR,false),(a.aS,false),(a.aW,false),(a.aV,false),(a.aX,false)]) (eV 0)) (a8 (e1 (cC [(a.aE,false),(a.aC,false),(a.aG,true),(a.aH,false),(a.aF,false),(a.aI,false),(a.aK,false),(a.aL,false),(a.aJ,false),(a.aP,false),(a.aM,false),(a.aO,false),(a.aN,false),(a.aQ,false),(a.aU,false),(a.aR,false),(a.aS,false),(a.aW,false),(a.aV,false),(a.aX,false)]) (eV 0)) bJ)))))
 (cH (dQ (pN 1) (e2 cU (eV 1) (kJ (a8 (e1 (cC [(a.aE,false),(a.aC,false),(a.aG,false),(a.aH,true),(a.aF,false),(a.aI,false),(a.aK,false),(a.aL,false),(a.aJ,false),(a.aP,false),(a.aM,false),(a.aO,false),(a.aN,false),(a.aQ,false),(a.aU,false),(a.aR,false),(a.aS,false),(a.aW,false),(a.aV,false),(a.aX,false)]) (eV 0)) (a8 (e1 (cC [(a.aE,false),(a.aC,false),(a.aG,false),(a.aH,false),(a.aF,true),(a.aI,false),(a.aK,false),(a.aL,false),(a.aJ,false),(a.aP,false),(a.aM,false),(a.aO,false),(a.aN,false),(a.aQ,false),(a.aU,false),(a.aR,false),(a.aS,false),(a.aW,false),(a.aV,false),(a.aX,false)]) (eV 0)) bJ)))))
 (cH (dQ (pN 1) (e2 cU (eV 1) (kJ (a8 (e1 (cC [(a.aE,false),(a.aC,false),(a.aG,false),(a.aH,false),(a.aF,false),(a.aI,true),(a.aK,false),(a.aL,false),(a.aJ,false),(a.aP,false),(a.aM,false),(a.aO,false),(a.aN,false),(a.aQ,false),(a.aU,false),(a.aR,false),(a.aS,false),(a.aW,false),(a.aV,false),(a.aX,false)]) (eV 0)) (a8 (e1 (cC [(a.aE,false),(a.aC,false),(a.aG,false),(a.aH,false),(a.aF,false),(a.aI,false),(a.aK,true),(a.aL,false),(a.aJ,false),(a.aP,false),(a.aM,false),(a.aO,false),(a.aN,false),(a.aQ,false),(a.aU,false),(a.aR,false),(a.aS,false),(a.aW,false),(a.aV,false),(a.aX,false)]) (eV 0)) bJ)))))
 (cH (dQ (pN 1) (e2 cU (eV 1) (kJ (a8 (e1 (cC [(a.aE,false),(a.aC,false),(a.aG,false),(a.aH,false),(a.aF,false),(a.aI,false),(a.aK,false),(a.aL,true),(a.aJ,false),(a.aP,false),(a.aM,false),(a.aO,false),(a.aN,false),(a.aQ,false),(a.aU,false),(a.aR,false),(a.aS,false),(a.aW,false),(a.aV,false),(a.aX,false)]) (eV 0)) (a8 (e1 (cC [(a.aE,false),(a.aC,false),(a.aG,false),(a.aH,false),(a.aF,false),(a.aI,false),(a.aK,false),(a.aL,false),(a.aJ,true),(a.aP,false),(a.aM,false),(a.aO,false),(a.aN,false),(a.aQ,false),(a.aU,false),(a.aR,false),(a.aS,false),(a.aW,false),(a.aV,false),(a.aX,false)]) (eV 0)) (a8 (e1 (cC [(a.aE,false),(a.aC,false),(a.aG,false),(a.aH,false),(a.aF,false),(a.aI,false),(a.aK,false),(a.aL,false),(a.aJ,false),(a.aP,true),(a.aM,false),(a.aO,false),(a.aN,false),(a.aQ,false),(a.aU,false),(a.aR,false),(a.aS,false),(a.aW,false),(a.aV,false),(a.aX,false)]) (eV 0)) bJ))))))
 (cH (dQ (pN 1) (e2 cU (eV 1) (kJ (a8 (e1 (cC [(a.aE,false),(a.aC,false),(a.aG,false),(a.aH,false),(a.aF,false),(a.aI,false),(a.aK,false),(a.aL,false),(a.aJ,false),(a.aP,false),(a.aM,true),(a.aO,false),(a.aN,false),(a.aQ,false),(a.aU,false),(a.aR,false),(a.aS,false),(a.aW,false),(a.aV,false),(a.aX,false)]) (eV 0)) (a8 (e1 (cC [(a.aE,false),(a.aC,false),(a.aG,false),(a.aH,false),(a.aF,false),(a.aI,false),(a.aK,false),(a.aL,false),(a.aJ,false),(a.aP,false),(a.aM,false),(a.aO,true),(a.aN,false),(a.aQ,false),(a.aU,false),(a.aR,false),(a.aS,false),(a.aW,false),(a.aV,false),(a.aX,false)]) (eV 0)) bJ)))))
 (cH (dQ (pN 1) (e2 cU (eV 1) (kJ (a8 (e1 (cC [(a.aE,false),(a.aC,false),(a.aG,false),(a.aH,false),(a.aF,false),(a.aI,false),(a.aK,false),(a.aL,false),(a.aJ,false),(a.aP,false),(a.aM,false),(a.aO,false),(a.aN,true),(a.aQ,false),(a.aU,false),(a.aR,false),(a.aS,false),(a.aW,false),(a.aV,false),(a.aX,false)]) (eV 0)) (a8 (e1 (cC [(a.aE,false),(a.aC,false),(a.aG,false),(a.aH,false),(a.aF,false),(a.aI,false),(a.aK,false),(a.aL,false),(a.aJ,false),(a.aP,false),(a.aM,false),(a.aO,false),(a.aN,false),(a.aQ,true),(a.aU,false),(a.aR,false),(a.aS,false),(a.aW,false),(a.aV,false),(a.aX,false)]) (eV 0)) bJ)))))
 (cH (dQ (pN 1) (e2 cU (eV 1) (kJ (a8 (e1 (cC [(a.aE,false),(a.aC,false),(a.aG,false),(a.aH,false),(a.aF,false),(a.aI,false),(a.aK,false),(a.aL,false),(a.aJ,false),(a.aP,false),(a.aM,false),(a.aO,false),(a.aN,false),(a.aQ,false),(a.aU,true),(a.aR,false),(a.aS,false),(a.aW,false),(a.aV,false),(a.aX,false)]) (eV 0)) (a8 (e1 (cC [(a.aE,false),(a.aC,false),(a.aG,false),(a.aH,false),(a.aF,false),(a.aI,false),(a.aK,false),(a.aL,false),(a.aJ,false),(a.aP,false),(a.aM,false),(a.aO,false),(a.aN,false),(a.aQ,false),(a.aU,false),(a.aR,true),(a.aS,false),(a.aW,false),(a.aV,false),(a.aX,false)]) (eV 0)) bJ)))))
 (cH (dQ (pN 1) (e2 cU (eV 1) (kJ (a8 (e1 (cC [(a.aE,false),(a.aC,false),(a.aG,false),(a.aH,false),(a.aF,false),(a.aI,false),(a.aK,false),(a.aL,false),(a.aJ,false),(a.aP,false),(a.aM,false),(a.aO,false),(a.aN,false),(a.aQ,false),(a.aU,false),(a.aR,false),(a.aS,true),(a.aW,false),(a.aV,false),(a.aX,false)]) (eV 0)) (a8 (e1 (cC [(a.aE,false),(a.aC,false),(a.aG,false),(a.aH,false),(a.aF,false),(a.aI,false),(a.aK,false),(a.aL,false),(a.aJ,false),(a.aP,false),(a.aM,false),(a.aO,false),(a.aN,false),(a.aQ,false),(a.aU,false),(a.aR,false),(a.aS,false),(a.aW,true),(a.aV,false),(a.aX,false)]) (eV 0)) bJ)))))
 (lB (e2 cU (eV 1) (kJ (a8 (e1 (cC [(a.aE,false),(a.aC,false),(a.aG,false),(a.aH,false),(a.aF,false),(a.aI,false),(a.aK,false),(a.aL,false),(a.aJ,false),(a.aP,false),(a.aM,false),(a.aO,false),(a.aN,false),(a.aQ,false),(a.aU,false),(a.aR,false),(a.aS,false),(a.aW,false),(a.aV,true),(a.aX,false)]) (eV 0)) (a8 (e1 (cC [(a.aE,false),(a.aC,false),(a.aG,false),(a.aH,false),(a.aF,false),(a.aI,false),(a.aK,false),(a.aL,false),(a.aJ,false),(a.aP,false),(a.aM,false),(a.aO,false),(a.aN,false),(a.aQ,false),(a.aU,false),(a.aR,false),(a.aS,false),(a.aW,false),(a.aV,false),(a.aX,true)]) (eV 0)) bJ)))))))))))))
def sT(a:Ad):Fn:=fnOf 2 (NK a)
theorem WV{fd:FuncData}(F:Fun K "_law_kinds" "_law_kinds" CO a.lL fd)(T:Txt K mg a):lW P w K mg base 1 a.lL 1 (sT a):=
 fn_ok (k:=0) (N:=NM) (ps:=["_law_error"]) (body:=NK a) F S4 (fun _ _ _ _ _ _ us hl=>match us,hl with|[_],_=>rfl) fun cdv A outer s H E hr=>by
  have tk:=takes_of (X:=cxOf (L2.CX P w) P w K mg base NM "_law_kinds" (defScope CO) a.lL cdv A outer s H E) (E:=E) rfl rfl rfl rfl;have hu:=hr.units;have hu2:=uH hr;have nd:=(S4).nd;exact(cS (iJ (i:=1) nd (kU (bC (j9 T.S2 (sV 0) T.CN T.dO) (bC (j9 T.SV (sV 0) T.CM T.dO) (bC (j9 T.SF (sV 0) T.MG T.dO) bW)))))
 (cS (iJ (i:=1) nd (bQ iK (sV 1) (kU (bC (j9 T.SQ (sV 0) T.NA T.dO) (bC (j9 T.R6 (sV 0) T.L7 T.dO) bW)))))
 (cS (iJ (i:=1) nd (bQ iK (sV 1) (kU (bC (j9 T.R7 (sV 0) T.L8 T.dO) (bC (j9 T.SK (sV 0) T.MJ T.dO) bW)))))
 (cS (iJ (i:=1) nd (bQ iK (sV 1) (kU (bC (j9 T.SX (sV 0) T.ND T.dO) (bC (j9 T.SH (sV 0) T.MH T.dO) (bC (j9 T.S3 (sV 0) T.NH T.dO) bW))))))
 (cS (iJ (i:=1) nd (bQ iK (sV 1) (kU (bC (j9 T.R9 (sV 0) T.L_ T.dO) (bC (j9 T.SM (sV 0) T.M5 T.dO) bW)))))
 (cS (iJ (i:=1) nd (bQ iK (sV 1) (kU (bC (j9 T.SL (sV 0) T.MZ T.dO) (bC (j9 T.SC (sV 0) T.MF T.dO) bW)))))
 (cS (iJ (i:=1) nd (bQ iK (sV 1) (kU (bC (j9 T.SY (sV 0) T.NE T.dO) (bC (j9 T.SJ (sV 0) T.MI T.dO) bW)))))
 (cS (iJ (i:=1) nd (bQ iK (sV 1) (kU (bC (j9 T.SR (sV 0) T.NB T.dO) (bC (j9 T.SU (sV 0) T.NC T.dO) bW)))))
 (mT (oV (bQ iK (sV 1) (kU (bC (j9 T.R8 (sV 0) T.L9 T.dO) (bC (j9 T.SZ (sV 0) T.NG T.dO) bW))))))))))))))
abbrev mU:Stmt:=top 27
abbrev DN:List Str:=["_law_script","_law_pen_here","_law_index","_law_note","_law_ask","_law_errors","_law_k","_law_j","_law_held"]
theorem U7:FnScope DN ["_law_script"] (defScope mU):=⟨rfl,rfl,rfl,by decide +kernel,rfl,by decide +kernel,by decide +kernel⟩
def QD(a:Ad):FS:=(cH (dQ (pN 1) (nM 1 (sZ a) (a8 (eV 0) bJ)))
 (cH (QK [2,3] (a8 (nM 2 (oO a) (a8 (eV 1) (a8 (e2 DJ (eC (.int 10)) (eC (.int 6))) bJ))) (a8 (e2 cU (eC (.str ("note " : Str))) (eB (f1 vD) (a8 (nM 2 (oO a) (a8 (eV 1) (a8 (eC (.int 1000)) bJ))) bJ))) bJ)))
 (cH (dQ (pN 4) (vP (a8 (eC (.str ("a" : Str))) (a8 (eC .non) (a8 (nM 2 (oO a) (a8 (eV 1) (a8 (eC (.int 99)) bJ))) bJ)))))
 (cH (dQ (pN 5) (kJ (a8 (pY a.aE ("line" : Str) (eV 2)) (a8 (pY a.aC ("rule" : Str) (eV 4)) (a8 (iV a.aG (eV 3)) (a8 (iV a.aH (eV 3)) (a8 (iV a.aF (eV 3)) bJ)))))))
 (cH (dQ (pN 5) (e2 cU (eV 5) (kJ (a8 (iV a.aI (eV 3)) (a8 (iV a.aK (eV 3)) (a8 (iV a.aL (eV 3)) (a8 (iV a.aJ (eV 3)) bJ)))))))
 (cH (dQ (pN 5) (e2 cU (eV 5) (kJ (a8 (iV a.aP (eV 3)) (a8 (iV a.aM (eV 3)) (a8 (iV a.aO (eV 3)) (a8 (iV a.aN (eV 3)) bJ)))))))
 (cH (dQ (pN 5) (e2 cU (eV 5) (kJ (a8 (iV a.aQ (eV 3)) (a8 (iV a.aU (eV 3)) (a8 (iV a.aR (eV 3)) (a8 (iV a.aS (eV 3)) bJ)))))))
 (cH (dQ (pN 5) (e2 cU (eV 5) (kJ (a8 (iV a.aW (eV 3)) (a8 (iV a.aV (eV 3)) (a8 (iV a.aX (eV 3)) bJ))))))
 (cH (DU (tZ (a8 (eB (oH (f1 lenV) (f1 m5)) (a8 (eV 5) bJ)) bJ)) (pN 6) (cH (p5 (tOr (tNot (mX (e1 (cC [(a.aE,true),(a.aC,true),(a.aG,true),(a.aH,true),(a.aF,true),(a.aI,true),(a.aK,true),(a.aL,true),(a.aJ,true),(a.aP,true),(a.aM,true),(a.aO,true),(a.aN,true),(a.aQ,true),(a.aU,true),(a.aR,true),(a.aS,true),(a.aW,true),(a.aV,true),(a.aX,true)]) (e2 j_ (eV 5) (eV 6))))) (tNot (mX (e1 (cC [(a.aE,true),(a.aC,true),(a.aG,true),(a.aH,true),(a.aF,true),(a.aI,true),(a.aK,true),(a.aL,true),(a.aJ,true),(a.aP,true),(a.aM,true),(a.aO,true),(a.aN,true),(a.aQ,true),(a.aU,true),(a.aR,true),(a.aS,true),(a.aW,true),(a.aV,true),(a.aX,true)]) (e2 j_ (eV 5) (eV 6)))))) (lB (eC (.bl false))) pU)
 (p5 (mX (e2 (nR true) (nM 1 (sT a) (a8 (e2 j_ (eV 5) (eV 6)) bJ)) (v9 [7] (tZ (a8 (eB (oH (f1 lenV) (f1 m5)) (a8 (eV 5) bJ)) bJ)) (pN 7) tYes (e2 (nR false) (eV 7) (eV 6))))) (lB (eC (.bl false))) pU)))
 (cH (dQ (pN 8) (kJ (a8 (e1 (o4 [a.aE] ("line" : Str)) (e2 j_ (eV 5) (eC (.int 0)))) (a8 (e1 (o4 [a.aC] ("rule" : Str)) (e2 j_ (eV 5) (eC (.int 1)))) (a8 (e1 (o4 [a.aE] ("line" : Str)) (pY a.aE ("line" : Str) (eC (.int 5)))) (a8 (e1 (o4 [a.aC] ("rule" : Str)) (pY a.aC ("rule" : Str) (vP (a8 (eC (.str ("b" : Str))) (a8 (eC (.str ("a" : Str))) (a8 (eC (.int 0)) bJ)))))) bJ))))))
 (lB (e2 (nR false) (eV 8) (kJ (a8 (eV 2) (a8 (eV 4) (a8 (eC (.int 5)) (a8 (vP (a8 (eC (.str ("b" : Str))) (a8 (eC (.str ("a" : Str))) (a8 (eC (.int 0)) bJ)))) bJ)))))))))))))))))
def uZ(a:Ad):Fn:=fnOf 9 (QD a)
set_option maxHeartbeats 2000000 in
theorem zA4{fd:FuncData}(F:Fun K "law" "law" mU a.mW fd)(T:Txt K mg a)(N8:lW P w K mg base 1 a.lN 1 (sZ a))(uC:lW P w K mg base 2 a.k9 2 (oO a))(CI:pO P w K mg base 1 a.l8 a.aE "line" "line")(CH:pO P w K mg base 1 a.l7 a.aC "rule" "rule")(NN:lW P w K mg base 1 a.lL 1 (sT a)):nE P w K mg base 3 a.mW fd ["_law_script"] (p4 ⟨P,w,K,bG.T⟩ 1 (uZ a)):=
 zDz (k:=2) (N:=DN) (ps:=["_law_script"]) (body:=QD a) F U7 fun cdv A outer s H E hgd hr=>by
  have tk:=takes_of (X:=cxOf (L2.CX P w) P w K mg base DN "law" (defScope mU) a.mW cdv A outer s H E) (E:=E) rfl rfl rfl rfl;have hu:=hr.units;have hu2:=uH hr;have nd:=(U7).nd;exact(cS (iJ (i:=1) nd (tF N8 (hr.mono (by decide)) tk T.lN (bC (sV 0) bW)))
 (cS (zDP (i:=2) (j:=3) rfl nd (bC (tF uC (hr.mono (by decide)) tk T.k9 (bC (sV 1) (bC (bQ VL sI sI) bW))) (bC (bQ iK sS (V7 zDU (bC (tF uC (hr.mono (by decide)) tk T.k9 (bC (sV 1) (bC sI bW))) bW) T.tJ rfl)) bW)))
 (cS (iJ (i:=4) nd (QJ (bC sS (bC sN (bC (tF uC (hr.mono (by decide)) tk T.k9 (bC (sV 1) (bC sI bW))) bW)))))
 (cS (iJ (i:=5) nd (kU (bC (sMkF T.M8 CI.p (hr.mono (by decide)) T.CN (sV 2)) (bC (sMkF T.MS CH.p (hr.mono (by decide)) T.CM (sV 4)) (bC (kT PySem.F.excBase_ValueError T.qZ T.MG T.rF (raises_own T.c9 T.rA) (sV 3)) (bC (kT PySem.F.excBase_ValueError T.rQ T.NA T.sD (raises_own T.dE T.rX) (sV 3)) (bC (kT PySem.F.excBase_ValueError T.qJ T.L7 T.qS (raises_own T.cY T.qO) (sV 3)) bW)))))))
 (cS (iJ (i:=5) nd (bQ iK (sV 5) (kU (bC (kT PySem.F.excBase_ValueError T.qK T.L8 T.qU (raises_own T.cZ T.qP) (sV 3)) (bC (kT PySem.F.excBase_ValueError T.q9 T.MJ T.rJ (raises_own T.dB T.rD) (sV 3)) (bC (kT PySem.F.excBase_ValueError T.rT T.ND T.sH (raises_own T.dH T.r_) (sV 3)) (bC (kT PySem.F.excBase_ValueError T.q7 T.MH T.rG (raises_own T.c_ T.rB) (sV 3)) bW)))))))
 (cS (iJ (i:=5) nd (bQ iK (sV 5) (kU (bC (kT PySem.F.excBase_ValueError T.sL T.NH T.sO (raises_own T.dK T.sM) (sV 3)) (bC (kT PySem.F.excBase_ValueError T.qM T.L_ T.qX (raises_own T.c7 T.qR) (sV 3)) (bC (kT PySem.F.excBase_ValueError T.rL T.M5 T.rP (raises_own T.dD T.rN) (sV 3)) (bC (kT PySem.F.excBase_ValueError T.rK T.MZ T.rO (raises_own T.dC T.rM) (sV 3)) bW)))))))
 (cS (iJ (i:=5) nd (bQ iK (sV 5) (kU (bC (kT PySem.F.excBase_ValueError T.qY T.MF T.rE (raises_own T.c8 T.q_) (sV 3)) (bC (kT PySem.F.excBase_ValueError T.rV T.NE T.sJ (raises_own T.dI T.sA) (sV 3)) (bC (kT PySem.F.excBase_ValueError T.q8 T.MI T.rH (raises_own T.dA T.rC) (sV 3)) (bC (kT PySem.F.excBase_ValueError T.rR T.NB T.sE (raises_own T.dF T.rY) (sV 3)) bW)))))))
 (cS (iJ (i:=5) nd (bQ iK (sV 5) (kU (bC (kT PySem.F.excBase_ValueError T.rS T.NC T.sF (raises_own T.dG T.rZ) (sV 3)) (bC (kT PySem.F.excBase_ValueError T.qL T.L9 T.qW (raises_own T.c6 T.qQ) (sV 3)) (bC (kT PySem.F.excBase_ValueError T.rW T.NG T.sK (raises_own T.dJ T.sC) (sV 3)) bW))))))
 (cS (zDQ (passes_of rfl) rfl (siR1 (by rfl) T.pL (bC (D6 (DI.alt DB) (bC (sV 5) bW) T.n8 rfl) bW)) (gN (i:=6) nd) (cS (vE (tOrC (VJ (tVal (YY T.S1 (lO hu (sV 5) (sV 6)) T.sP rfl T.dO))) (tOr1 (VJ (tVal (j9 T.SN (lO hu (sV 5) (sV 6)) T.CL T.dO))))).st (mT (oV sB)) uU)
 (mT (vE (tCmp (VO hr) (tF NN (hr.mono (by decide)) tk T.lL (bC (lO hu (sV 5) (sV 6)) bW)) (sLc (own:=[("_law_j",7)]) rfl nd (siR1 (by rfl) T.pL (bC (D6 (DI.alt DB) (bC (sV 5) bW) T.n8 rfl) bW)) (blkOk_by (N:=DN) (sc:=defScope mU) (by decide +kernel)) (fun _ _ _ _ _=>(gN (i:=7) nd)) (fun _ _ _ _ _=>zAM) (fun _ _ _ _ _=>(sCmp (VP hr) (sV 7) (sV 6) (nomark _))) (T9 (by decide))) (nomark _)) (mT (oV sB)) uU))))
 (cS (iJ (i:=8) nd (kU (bC (DT T.ON (lO hu (sV 5) sI)) (bC (DT T.OM (lO hu (sV 5) sI)) (bC (DT T.ON (VQ T.M8 CI.k (hr.mono (by decide)) T.CN sI)) (bC (DT T.OM (VQ T.MS CH.k (hr.mono (by decide)) T.CM (QJ (bC sS (bC sS (bC sI bW)))))) bW))))))
 (mT (oV (sCmp (VP hr) (sV 8) (kU (bC (sV 2) (bC (sV 4) (bC sI (bC (QJ (bC sS (bC sS (bC sI bW)))) bW))))) (nomark _))))))))))))))
end
def sX(a:Ad):dX:=nU 1 [.sh] (DH (dP (a0 (x1 DK (xB (DP pW (xN 0) C8 (uF (xC (.int 60)))))) (a0 (xC (.int 0)) (a0 (xC (.int 0)) cE)))))
theorem XY(a:Ad):nC [.sh] (sZ a) (sX a):=by
 unfold sZ sX N5;exact uM (VU (kX (bE ((qb1F zD0 (qB (qSlc (qN 0) zAZ (zAY (bT _)))))).e (bE (bT _) (bE (bT _) iQ)))))
def uB(a:Ad):dX:=nU 6 [.mu] (bO (cM (bU 1) (x2 dM (xN 0) (xB (xC (.int 1)))))
 (bO (vB 0 (x2 cI (xN 1) (xB (xC (.int 1)))) (xB (xC (.int 1))))
 (bO (cM (bU 2) (x2 cI (xB (x2 mZ (xN 1) (xB (xC (.int 1061))))) (xB (xC (.int 37)))))
 (bO (oA (xT (x2 (kO true) (xB (x2 dM (xN 0) (xB (xC (.int 0))))) (xB (dP cE)))) (cM (bU 2) (x2 dM (xB (x2 dM (xN 0) (xB (xC (.int 0))))) (xB (x2 oMod (xN 1) (xB (x1 lQ (xB (x2 dM (xN 0) (xB (xC (.int 0))))))))))) oC)
 (bO (oA (PH (xT (x2 oLt (xN 1) (xB (x1 lQ (xB (x2 dM (xN 0) (xB (xC (.int 0))))))))) (xT (x2 RJ (xN 2) (xB (x2 vN (xB (xC (.int 10))) (xB (xC (.int 18)))))))) (uS 2) oC)
 (bO (cM (bU 3) (x2 oMod (xB (x2 cI (xB (x2 cI (xB (x2 oMod (xN 2) (xB (xC (.int 2147483587))))) (xB (x2 mZ (xN 1) (xB (xC (.int 50069))))))) (xB (xC (.int 61))))) (xB (xC (.int 2147483587)))))
 (bO (cM (bU 4) (x2 oMod (xB (x2 cI (xB (x2 cI (xB (x2 mZ (xN 3) (xN 3))) (xB (x2 mZ (xN 1) (xB (xC (.int 40013))))))) (xB (xC (.int 43))))) (xB (xC (.int 2147483563)))))
 (bO (cM (bU 5) (x2 oMod (xB (x2 cI (xB (x2 cI (xB (x2 mZ (xN 4) (xN 4))) (xN 3))) (xB (x2 mZ (xB (x2 mZ (xN 1) (xN 1))) (xB (xC (.int 19))))))) (xB (xC (.int 2147483549)))))
 (oB (x2 cI (xB (x2 mZ (xB (x2 cI (xB (x2 mZ (xN 5) (xB (xC (.int 2147483587))))) (xN 4))) (xB (xC (.int 2147483563))))) (xN 3)))))))))))
theorem W9(a:Ad):nC [.mu] (sW a) (uB a):=by
 unfold sW uB NS;exact uM (cV (iT (iG 1) (q2 lP (qN 0) (qB (bT _))))
 (cV (QQ (q2 iU (qN 1) (qB (bT _))) (qB (bT _)))
 (cV (iT (iG 2) (q2 iU (qB (q2 oE (qN 1) (qB (bT _)))) (qB (bT _))))
 (cV (vJ (qT (q2 (DZ true) (qB (q2 lP (qN 0) (qB (bT _)))) (qB ((kX iQ)).e))) (iT (iG 2) (q2 lP (qB (q2 lP (qN 0) (qB (bT _)))) (qB (q2 tP (qN 1) (qB (DX (qB (q2 lP (qN 0) (qB (bT _)))))))))) vK)
 (cV (vJ (zDX (qT (q2 WD (qN 1) (qB (DX (qB (q2 lP (qN 0) (qB (bT _)))))))) (qT (q2 pGe (qN 2) (qB (q2 pPow (qB (bT _)) (qB (bT _))))))) (VT 2) vK)
 (cV (iT (iG 3) (q2 tP (qB (q2 iU (qB (q2 iU (qB (q2 tP (qN 2) (qB (bT _)))) (qB (q2 oE (qN 1) (qB (bT _)))))) (qB (bT _)))) (qB (bT _))))
 (cV (iT (iG 4) (q2 tP (qB (q2 iU (qB (q2 iU (qB (q2 oE (qN 3) (qN 3))) (qB (q2 oE (qN 1) (qB (bT _)))))) (qB (bT _)))) (qB (bT _))))
 (cV (iT (iG 5) (q2 tP (qB (q2 iU (qB (q2 iU (qB (q2 oE (qN 4) (qN 4))) (qN 3))) (qB (q2 oE (qB (q2 oE (qN 1) (qN 1))) (qB (bT _)))))) (qB (bT _))))
 (DV (q2 iU (qB (q2 oE (qB (q2 iU (qB (q2 oE (qN 5) (qB (bT _)))) (qN 4))) (qB (bT _)))) (qN 3)))))))))))
def nF(a:Ad):dX:=nU 3 [.mu,.sh] (bO (oA (xT (x2 oLt (xB (x2 dM (xN 0) (xB (xC (.int 2))))) (xN 1))) (vB 0 (mS [.mu] (uB a) (kN (xN 0) lY)) (xB (xC (.int 2)))) oC)
 (bO (cM (bU 2) (x2 oMod (xB (x2 dM (xN 0) (xB (xC (.int 2))))) (xN 1)))
 (bO (vB 0 (x2 P6 (xB (x2 dM (xN 0) (xB (xC (.int 2))))) (xN 1)) (xB (xC (.int 2))))
 (uS 2))))
theorem NQ(a:Ad):nC [.mu,.sh] (oO a) (nF a):=by
 unfold oO nF NU;exact uM (cV (vJ (qT (q2 WD (qB (q2 lP (qN 0) (qB (bT _)))) (qN 1))) (QQ (uW (W9 a) (n4 (qN 0) tG) rfl) (qB (bT _))) vK)
 (cV (iT (iG 2) (q2 tP (qB (q2 lP (qN 0) (qB (bT _)))) (qN 1)))
 (cV (QQ (q2 zD1 (qB (q2 lP (qN 0) (qB (bT _)))) (qN 1)) (qB (bT _)))
 (VT 2))))
def bL(a:Ad):dX:=nU 2 [.sh] (bO (cM (bU 1) (dP (a0 (x1 (bD [(a.aE,true),(a.aC,false),(a.aG,false),(a.aH,false),(a.aF,false),(a.aI,false),(a.aK,false),(a.aL,false),(a.aJ,false),(a.aP,false),(a.aM,false),(a.aO,false),(a.aN,false),(a.aQ,false),(a.aU,false),(a.aR,false),(a.aS,false),(a.aW,false),(a.aV,false),(a.aX,false)]) (xN 0)) (a0 (x1 (bD [(a.aE,false),(a.aC,true),(a.aG,false),(a.aH,false),(a.aF,false),(a.aI,false),(a.aK,false),(a.aL,false),(a.aJ,false),(a.aP,false),(a.aM,false),(a.aO,false),(a.aN,false),(a.aQ,false),(a.aU,false),(a.aR,false),(a.aS,false),(a.aW,false),(a.aV,false),(a.aX,false)]) (xN 0)) (a0 (x1 (bD [(a.aE,false),(a.aC,false),(a.aG,true),(a.aH,false),(a.aF,false),(a.aI,false),(a.aK,false),(a.aL,false),(a.aJ,false),(a.aP,false),(a.aM,false),(a.aO,false),(a.aN,false),(a.aQ,false),(a.aU,false),(a.aR,false),(a.aS,false),(a.aW,false),(a.aV,false),(a.aX,false)]) (xN 0)) cE)))))
 (bO (cM (bU 1) (x2 cI (xN 1) (xB (dP (a0 (x1 (bD [(a.aE,false),(a.aC,false),(a.aG,false),(a.aH,true),(a.aF,false),(a.aI,false),(a.aK,false),(a.aL,false),(a.aJ,false),(a.aP,false),(a.aM,false),(a.aO,false),(a.aN,false),(a.aQ,false),(a.aU,false),(a.aR,false),(a.aS,false),(a.aW,false),(a.aV,false),(a.aX,false)]) (xN 0)) (a0 (x1 (bD [(a.aE,false),(a.aC,false),(a.aG,false),(a.aH,false),(a.aF,true),(a.aI,false),(a.aK,false),(a.aL,false),(a.aJ,false),(a.aP,false),(a.aM,false),(a.aO,false),(a.aN,false),(a.aQ,false),(a.aU,false),(a.aR,false),(a.aS,false),(a.aW,false),(a.aV,false),(a.aX,false)]) (xN 0)) cE))))))
 (bO (cM (bU 1) (x2 cI (xN 1) (xB (dP (a0 (x1 (bD [(a.aE,false),(a.aC,false),(a.aG,false),(a.aH,false),(a.aF,false),(a.aI,true),(a.aK,false),(a.aL,false),(a.aJ,false),(a.aP,false),(a.aM,false),(a.aO,false),(a.aN,false),(a.aQ,false),(a.aU,false),(a.aR,false),(a.aS,false),(a.aW,false),(a.aV,false),(a.aX,false)]) (xN 0)) (a0 (x1 (bD [(a.aE,false),(a.aC,false),(a.aG,false),(a.aH,false),(a.aF,false),(a.aI,false),(a.aK,true),(a.aL,false),(a.aJ,false),(a.aP,false),(a.aM,false),(a.aO,false),(a.aN,false),(a.aQ,false),(a.aU,false),(a.aR,false),(a.aS,false),(a.aW,false),(a.aV,false),(a.aX,false)]) (xN 0)) cE))))))
 (bO (cM (bU 1) (x2 cI (xN 1) (xB (dP (a0 (x1 (bD [(a.aE,false),(a.aC,false),(a.aG,false),(a.aH,false),(a.aF,false),(a.aI,false),(a.aK,false),(a.aL,true),(a.aJ,false),(a.aP,false),(a.aM,false),(a.aO,false),(a.aN,false),(a.aQ,false),(a.aU,false),(a.aR,false),(a.aS,false),(a.aW,false),(a.aV,false),(a.aX,false)]) (xN 0)) (a0 (x1 (bD [(a.aE,false),(a.aC,false),(a.aG,false),(a.aH,false),(a.aF,false),(a.aI,false),(a.aK,false),(a.aL,false),(a.aJ,true),(a.aP,false),(a.aM,false),(a.aO,false),(a.aN,false),(a.aQ,false),(a.aU,false),(a.aR,false),(a.aS,false),(a.aW,false),(a.aV,false),(a.aX,false)]) (xN 0)) (a0 (x1 (bD [(a.aE,false),(a.aC,false),(a.aG,false),(a.aH,false),(a.aF,false),(a.aI,false),(a.aK,false),(a.aL,false),(a.aJ,false),(a.aP,true),(a.aM,false),(a.aO,false),(a.aN,false),(a.aQ,false),(a.aU,false),(a.aR,false),(a.aS,false),(a.aW,false),(a.aV,false),(a.aX,false)]) (xN 0)) cE)))))))
 (bO (cM (bU 1) (x2 cI (xN 1) (xB (dP (a0 (x1 (bD [(a.aE,false),(a.aC,false),(a.aG,false),(a.aH,false),(a.aF,false),(a.aI,false),(a.aK,false),(a.aL,false),(a.aJ,false),(a.aP,false),(a.aM,true),(a.aO,false),(a.aN,false),(a.aQ,false),(a.aU,false),(a.aR,false),(a.aS,false),(a.aW,false),(a.aV,false),(a.aX,false)]) (xN 0)) (a0 (x1 (bD [(a.aE,false),(a.aC,false),(a.aG,false),(a.aH,false),(a.aF,false),(a.aI,false),(a.aK,false),(a.aL,false),(a.aJ,false),(a.aP,false),(a.aM,false),(a.aO,true),(a.aN,false),(a.aQ,false),(a.aU,false),(a.aR,false),(a.aS,false),(a.aW,false),(a.aV,false),(a.aX,false)]) (xN 0)) cE))))))
 (bO (cM (bU 1) (x2 cI (xN 1) (xB (dP (a0 (x1 (bD [(a.aE,false),(a.aC,false),(a.aG,false),(a.aH,false),(a.aF,false),(a.aI,false),(a.aK,false),(a.aL,false),(a.aJ,false),(a.aP,false),(a.aM,false),(a.aO,false),(a.aN,true),(a.aQ,false),(a.aU,false),(a.aR,false),(a.aS,false),(a.aW,false),(a.aV,false),(a.aX,false)]) (xN 0)) (a0 (x1 (bD [(a.aE,false),(a.aC,false),(a.aG,false),(a.aH,false),(a.aF,false),(a.aI,false),(a.aK,false),(a.aL,false),(a.aJ,false),(a.aP,false),(a.aM,false),(a.aO,false),(a.aN,false),(a.aQ,true),(a.aU,false),(a.aR,false),(a.aS,false),(a.aW,false),(a.aV,false),(a.aX,false)]) (xN 0)) cE))))))
 (bO (cM (bU 1) (x2 cI (xN 1) (xB (dP (a0 (x1 (bD [(a.aE,false),(a.aC,false),(a.aG,false),(a.aH,false),(a.aF,false),(a.aI,false),(a.aK,false),(a.aL,false),(a.aJ,false),(a.aP,false),(a.aM,false),(a.aO,false),(a.aN,false),(a.aQ,false),(a.aU,true),(a.aR,false),(a.aS,false),(a.aW,false),(a.aV,false),(a.aX,false)]) (xN 0)) (a0 (x1 (bD [(a.aE,false),(a.aC,false),(a.aG,false),(a.aH,false),(a.aF,false),(a.aI,false),(a.aK,false),(a.aL,false),(a.aJ,false),(a.aP,false),(a.aM,false),(a.aO,false),(a.aN,false),(a.aQ,false),(a.aU,false),(a.aR,true),(a.aS,false),(a.aW,false),(a.aV,false),(a.aX,false)]) (xN 0)) cE))))))
 (bO (cM (bU 1) (x2 cI (xN 1) (xB (dP (a0 (x1 (bD [(a.aE,false),(a.aC,false),(a.aG,false),(a.aH,false),(a.aF,false),(a.aI,false),(a.aK,false),(a.aL,false),(a.aJ,false),(a.aP,false),(a.aM,false),(a.aO,false),(a.aN,false),(a.aQ,false),(a.aU,false),(a.aR,false),(a.aS,true),(a.aW,false),(a.aV,false),(a.aX,false)]) (xN 0)) (a0 (x1 (bD [(a.aE,false),(a.aC,false),(a.aG,false),(a.aH,false),(a.aF,false),(a.aI,false),(a.aK,false),(a.aL,false),(a.aJ,false),(a.aP,false),(a.aM,false),(a.aO,false),(a.aN,false),(a.aQ,false),(a.aU,false),(a.aR,false),(a.aS,false),(a.aW,true),(a.aV,false),(a.aX,false)]) (xN 0)) cE))))))
 (DH (x2 uY (xN 1) (xB (dP (a0 (x1 (bD [(a.aE,false),(a.aC,false),(a.aG,false),(a.aH,false),(a.aF,false),(a.aI,false),(a.aK,false),(a.aL,false),(a.aJ,false),(a.aP,false),(a.aM,false),(a.aO,false),(a.aN,false),(a.aQ,false),(a.aU,false),(a.aR,false),(a.aS,false),(a.aW,false),(a.aV,true),(a.aX,false)]) (xN 0)) (a0 (x1 (bD [(a.aE,false),(a.aC,false),(a.aG,false),(a.aH,false),(a.aF,false),(a.aI,false),(a.aK,false),(a.aL,false),(a.aJ,false),(a.aP,false),(a.aM,false),(a.aO,false),(a.aN,false),(a.aQ,false),(a.aU,false),(a.aR,false),(a.aS,false),(a.aW,false),(a.aV,false),(a.aX,true)]) (xN 0)) cE))))))))))))))
theorem W1(a:Ad):nC [.sh] (sT a) (bL a):=by
 unfold sT bL NK;exact uM (cV (iT (iG 1) ((kX (bE (q1 (iR _) (qN 0)) (bE (q1 (iR _) (qN 0)) (bE (q1 (iR _) (qN 0)) iQ))))).e)
 (cV (iT (iG 1) (q2 iU (qN 1) (qB ((kX (bE (q1 (iR _) (qN 0)) (bE (q1 (iR _) (qN 0)) iQ)))).e)))
 (cV (iT (iG 1) (q2 iU (qN 1) (qB ((kX (bE (q1 (iR _) (qN 0)) (bE (q1 (iR _) (qN 0)) iQ)))).e)))
 (cV (iT (iG 1) (q2 iU (qN 1) (qB ((kX (bE (q1 (iR _) (qN 0)) (bE (q1 (iR _) (qN 0)) (bE (q1 (iR _) (qN 0)) iQ))))).e)))
 (cV (iT (iG 1) (q2 iU (qN 1) (qB ((kX (bE (q1 (iR _) (qN 0)) (bE (q1 (iR _) (qN 0)) iQ)))).e)))
 (cV (iT (iG 1) (q2 iU (qN 1) (qB ((kX (bE (q1 (iR _) (qN 0)) (bE (q1 (iR _) (qN 0)) iQ)))).e)))
 (cV (iT (iG 1) (q2 iU (qN 1) (qB ((kX (bE (q1 (iR _) (qN 0)) (bE (q1 (iR _) (qN 0)) iQ)))).e)))
 (cV (iT (iG 1) (q2 iU (qN 1) (qB ((kX (bE (q1 (iR _) (qN 0)) (bE (q1 (iR _) (qN 0)) iQ)))).e)))
 (VU (q2F VY (qN 1) (qB ((kX (bE (q1 (iR _) (qN 0)) (bE (q1 (iR _) (qN 0)) iQ)))).e)))))))))))
def DG(a:Ad):dX:=nU 9 [.sh] (bO (uT 1 (C9 [.sh] (sX a) (kN (xB (xV 0)) lY)))
 (bO (vC [2,3] (a0 (mS [.mu,.sh] (nF a) (kN (xN 1) (kN (xB (x2 vN (xB (xC (.int 10))) (xB (xC (.int 6))))) lY))) (a0 (x2 cI (xB (xC (.str ("note " : Str)))) (xB (x1 vM (xB (mS [.mu,.sh] (nF a) (kN (xN 1) (kN (xB (xC (.int 1000))) lY))))))) cE)))
 (bO (cM (bU 4) (o5 (a0 (xC (.str ("a" : Str))) (a0 (xC .non) (a0 (mS [.mu,.sh] (nF a) (kN (xN 1) (kN (xB (xC (.int 99))) lY))) cE)))))
 (bO (cM (bU 5) (dP (a0 (nP a.aE ("line" : Str) (xV 2)) (a0 (nP a.aC ("rule" : Str) (xV 4)) (a0 (bY a.aG (xV 3)) (a0 (bY a.aH (xV 3)) (a0 (bY a.aF (xV 3)) cE)))))))
 (bO (cM (bU 5) (x2 cI (xN 5) (xB (dP (a0 (bY a.aI (xV 3)) (a0 (bY a.aK (xV 3)) (a0 (bY a.aL (xV 3)) (a0 (bY a.aJ (xV 3)) cE))))))))
 (bO (cM (bU 5) (x2 cI (xN 5) (xB (dP (a0 (bY a.aP (xV 3)) (a0 (bY a.aM (xV 3)) (a0 (bY a.aO (xV 3)) (a0 (bY a.aN (xV 3)) cE))))))))
 (bO (cM (bU 5) (x2 cI (xN 5) (xB (dP (a0 (bY a.aQ (xV 3)) (a0 (bY a.aU (xV 3)) (a0 (bY a.aR (xV 3)) (a0 (bY a.aS (xV 3)) cE))))))))
 (bO (cM (bU 5) (x2 cI (xN 5) (xB (dP (a0 (bY a.aW (xV 3)) (a0 (bY a.aV (xV 3)) (a0 (bY a.aX (xV 3)) cE)))))))
 (bO (DQ (tV (x1 lQ (xN 5))) (bU 6) (bO (oA (DO (s_ (xT (x1 (bD [(a.aE,true),(a.aC,true),(a.aG,true),(a.aH,true),(a.aF,true),(a.aI,true),(a.aK,true),(a.aL,true),(a.aJ,true),(a.aP,true),(a.aM,true),(a.aO,true),(a.aN,true),(a.aQ,true),(a.aU,true),(a.aR,true),(a.aS,true),(a.aW,true),(a.aV,true),(a.aX,true)]) (xB (x2 dM (xN 5) (xN 6)))))) (s_ (xT (x1 (bD [(a.aE,true),(a.aC,true),(a.aG,true),(a.aH,true),(a.aF,true),(a.aI,true),(a.aK,true),(a.aL,true),(a.aJ,true),(a.aP,true),(a.aM,true),(a.aO,true),(a.aN,true),(a.aQ,true),(a.aU,true),(a.aR,true),(a.aS,true),(a.aW,true),(a.aV,true),(a.aX,true)]) (xB (x2 dM (xN 5) (xN 6))))))) (oB (xC (.bl false))) oC)
 (oA (xT (x2 (kO true) (xB (mS [.sh] (bL a) (kN (xB (x2 dM (xN 5) (xN 6))) lY))) (xB (D5 [7] (tV (x1 lQ (xN 5))) (bU 7) uR (x2 (kO false) (xN 7) (xN 6)))))) (oB (xC (.bl false))) oC)))
 (bO (cM (bU 8) (dP (a0 (x1 (mY [a.aE] ("line" : Str)) (xB (x2 dM (xN 5) (xB (xC (.int 0)))))) (a0 (x1 (mY [a.aC] ("rule" : Str)) (xB (x2 dM (xN 5) (xB (xC (.int 1)))))) (a0 (x1 (mY [a.aE] ("line" : Str)) (xB (nP a.aE ("line" : Str) (xC (.int 5))))) (a0 (x1 (mY [a.aC] ("rule" : Str)) (xB (nP a.aC ("rule" : Str) (o5 (a0 (xC (.str ("b" : Str))) (a0 (xC (.str ("a" : Str))) (a0 (xC (.int 0)) cE))))))) cE))))))
 (oB (x2 (kO false) (xN 8) (xB (dP (a0 (xV 2) (a0 (xV 4) (a0 (xC (.int 5)) (a0 (o5 (a0 (xC (.str ("b" : Str))) (a0 (xC (.str ("a" : Str))) (a0 (xC (.int 0)) cE)))) cE))))))))))))))))))
theorem u4(a:Ad):nC [.sh] (uZ a) (DG a):=by
 unfold uZ DG QD;exact uM (cV (zDY (zA0 (XY a) (n4 (qB (qV 0)) tG) rfl))
 (cV (qPar (bE (uW (NQ a) (n4 (qN 1) (n4 (qB (q2 pPow (qB (bT _)) (qB (bT _)))) tG)) rfl) (bE (q2 iU (qB (tO _)) (qB (WA pStr (qB (uW (NQ a) (n4 (qN 1) (n4 (qB (bT _)) tG)) rfl))))) iQ)))
 (cV (iT (iG 4) (QN (bE (tO _) (bE qNon (bE (uW (NQ a) (n4 (qN 1) (n4 (qB (bT _)) tG)) rfl) iQ)))))
 (cV (iT (iG 5) ((kX (bE (DW (qV 2)) (bE (DW (qV 4)) (bE (kW (qV 3)) (bE (kW (qV 3)) (bE (kW (qV 3)) iQ))))))).e)
 (cV (iT (iG 5) (q2 iU (qN 5) (qB ((kX (bE (kW (qV 3)) (bE (kW (qV 3)) (bE (kW (qV 3)) (bE (kW (qV 3)) iQ)))))).e)))
 (cV (iT (iG 5) (q2 iU (qN 5) (qB ((kX (bE (kW (qV 3)) (bE (kW (qV 3)) (bE (kW (qV 3)) (bE (kW (qV 3)) iQ)))))).e)))
 (cV (iT (iG 5) (q2 iU (qN 5) (qB ((kX (bE (kW (qV 3)) (bE (kW (qV 3)) (bE (kW (qV 3)) (bE (kW (qV 3)) iQ)))))).e)))
 (cV (iT (iG 5) (q2 iU (qN 5) (qB ((kX (bE (kW (qV 3)) (bE (kW (qV 3)) (bE (kW (qV 3)) iQ))))).e)))
 (cV (qFor (WB (DX (qN 5))) (iG 6) (cV (vJ (qTOr (VS (qT (q1 (iR _) (qB (q2 lP (qN 5) (qN 6)))))) (VS (qT (q1 (iR _) (qB (q2 lP (qN 5) (qN 6))))))) (DV (WC _)) vK)
 (vJ (qT (q2 (DZ true) (qB (uW (W1 a) (n4 (qB (q2 lP (qN 5) (qN 6))) tG) rfl)) (qB ((qLc (WB (DX (qN 5))) (iG 7) zDW (q2 (DZ false) (qN 7) (qN 6)) (T9 (by decide)))).e))) (DV (WC _)) vK)))
 (cV (iT (iG 8) ((kX (bE (q1 (DY _ _) (qB (q2 lP (qN 5) (qB (bT _))))) (bE (q1 (DY _ _) (qB (q2 lP (qN 5) (qB (bT _))))) (bE (q1 (DY _ _) (qB (DW (bT _)))) (bE (q1 (DY _ _) (qB (DW (QN (bE (tO _) (bE (tO _) (bE (bT _) iQ))))))) iQ)))))).e)
 (DV (q2 (DZ false) (qN 8) (qB ((kX (bE (qV 2) (bE (qV 4) (bE (bT _) (bE (QN (bE (tO _) (bE (tO _) (bE (bT _) iQ)))) iQ)))))).e)))))))))))))
end WS
namespace WS
open PySem PySem.Spec PyProof.Rows L2
open Classical
theorem VF{i j:Int}(h : -18446744073709551616<i)(h2:i<18446744073709551616):CMul i j:=.inl ⟨h,h2⟩
theorem zDG{i j:Int}(h : -18446744073709551616<j)(h2:j<18446744073709551616):CMul i j:=.inr ⟨h,h2⟩
theorem RQ{n:Nat}:iW (n+1) 0=some 0:=oR (k:=0) (by omega)
theorem WH{n:Nat}:iW (n+2) 1=some 1:=oR (k:=1) (by omega)
theorem ix2{n:Nat}:iW (n+3) 2=some 2:=oR (k:=2) (by omega)
@[simp] theorem ix0':iW 1 0=some 0:=RQ
@[simp] theorem ix02:iW 2 0=some 0:=RQ
@[simp] theorem ix12:iW 2 1=some 1:=WH
@[simp] theorem ix03:iW 3 0=some 0:=RQ
@[simp] theorem ix13:iW 3 1=some 1:=WH
@[simp] theorem ix23:iW 3 2=some 2:=ix2
theorem TL{α:Type}{f:α→XV}{g:α→PyData}{n:Nat}:∀{l:List α},(∀x∈l,cO (f x) n=some (g x))→lZ (l.map f) n=some (l.map g)
 |[],_=>rfl
 |x :: l,h=>by
  rw[List.map_cons,List.map_cons];unfold lZ;rw[h x List.mem_cons_self,TL fun y hy=>h y (List.mem_cons_of_mem _ hy)]
@[simp] theorem OC{i:Int}{n:Nat}:cO (.int i) n=some (.int i):=by unfold cO;rfl
@[simp] theorem zHh{i:Str}{n:Nat}:cO (.str i) n=some (.str i):=by unfold cO;rfl
@[simp] theorem zHi{n:Nat}:cO .non n=some .none:=by unfold cO;rfl
@[simp] theorem zHR{i:Bool}{n:Nat}:cO (.bl i) n=some (.bool i):=by unfold cO;rfl
theorem X3{ts:List XV}{ds:List PyData}{n:Nat}(h:lZ ts n=some ds):cO (.lst ts) (n+1)=some (.list ds):=by unfold cO;dsimp only;rw[h];rfl
theorem OR{neg:Bool}{t s:XV}{d e:PyData}(h1:oG t=some d)(h2:oG s=some e)(h3:SeqAt.shaped d=true)(h4:SeqAt.shaped e=true):kO neg t s=some (.bl (if neg=true then !PyData.eqv d e else PyData.eqv d e)):=by
 unfold kO;rw[h1,h2];dsimp only;rw[if_pos ⟨h3,h4⟩]
theorem X6{neg:Bool}{i j:Int}:kO neg (.int i) (.int j)=some (.bl (neg ^^ decide (i=j))):=by
 rw[OR (d:=.int i) (e:=.int j) OC OC rfl rfl];by_cases h:i=j <;> cases neg <;> simp[PyData.eqv,h]
theorem UG{l:List Int}:oG (.lst (l.map .int))=some (.list (l.map .int)):=X3 (TL fun _ _=>OC)
theorem shaped_ints(l:List Int):SeqAt.shaped (.list (l.map .int))=true:=by
 have h1:∀l:List Int,PyData.canLayAll0 (l.map .int)=true:=by
  intro l
  induction l with
  |nil=>rfl
  |cons i l ih=>simp[PyData.canLayAll0,PyData.canLay0,ih]
 have h2:∀l:List Int,PyData.depthAll (l.map .int)=0:=PySem.W.depth_ints;unfold SeqAt.shaped;simp[PyData.canLay0,PyData.depth,h1,h2]
theorem YN(l:List Int):PyData.eqv (.list (l.map PyData.int)) (.list (([]:List Int).map PyData.int))=l.isEmpty:=by cases l <;> simp[PyData.eqv,PyData.eqvAll]
def tU(t:XV)(n:Int):Prop:=∃(i v:Int) (cells:List Int),t = .lst [.lst (cells.map .int),.int i,.int v]∧cells.length≤60∧0≤i∧i≤n∧0≤v
@[simp] theorem zHD{i:Nat}{f:XE}{gi:XB}{τ:aY}:vB i f gi τ=iI (f τ) fun u τ1=>(match k_ τ1 i with
 |none=>.bad
 |some _=>iI (gi τ1) fun b τ2=>match k_ τ2 i,resB τ2 b with
  |some t,some ti=>(match oD t ti u with
   |some t'=>.nx (iF τ2 i t')
   |none=>.bad)
  |_,_=>.bad):=(rfl)
theorem T7{ts:List XV}{k:Nat}{u:XV}(h:k<ts.length):oD (.lst ts) (.int (k:Int)) u=some (.lst (ts.set k u)):=by
 unfold oD;dsimp only;rw[oR h];rfl
theorem DC{t t1 u:XV}{ts:List XV}:oD (.lst (t :: t1 :: ts)) (.int 1) u=some (.lst (t :: u :: ts)):=T7 (k:=1) (by simp)
theorem U8{t t1 t2 u:XV}{ts:List XV}:oD (.lst (t :: t1 :: t2 :: ts)) (.int 2) u=some (.lst (t :: t1 :: u :: ts)):=T7 (k:=2) (by simp)
theorem t7{i j:Int}(h : -18446744073709551616<j∧j<18446744073709551616):CMul i j:=.inr h
theorem QZ(a b:Int):CMul (a % 2147483587) b:=by
 have:=Int.emod_nonneg a (b:=2147483587) (by decide)
 have:=Int.emod_lt_of_pos a (b:=2147483587) (by decide);exact VF (by omega) (by omega)
theorem QY(a b:Int):CMul (a % 2147483563) b:=by
 have:=Int.emod_nonneg a (b:=2147483563) (by decide)
 have:=Int.emod_lt_of_pos a (b:=2147483563) (by decide);exact VF (by omega) (by omega)
def o9(z i:Int):Int:=(z % 2147483587+i*50069+61) % 2147483587
def pX(z i:Int):Int:=(o9 z i*o9 z i+i*40013+43) % 2147483563
def vO(z i:Int):Int:=(pX z i*pX z i+o9 z i+i*i*19) % 2147483549
def mix(z i:Int):Int:=(vO z i*2147483587+pX z i)*2147483563+o9 z i
theorem P7(z i:Int):0≤mix z i:=by
 have h1:0≤o9 z i:=Int.emod_nonneg _ (by decide);have h2:0≤pX z i:=Int.emod_nonneg _ (by decide);have h3:0≤vO z i:=Int.emod_nonneg _ (by decide);unfold mix;omega
theorem zA7(a:Ad){p:XV}{n:Int}(h:tU p n)(hn:n<1000000000):∃z p',uB a [p] = .ok (.int z) false [p']∧0≤z∧tU p' (n+1):=by
 obtain⟨i,v,cells,rfl,h2,h3,h4,h5⟩:=h;have c4:CMul i i:=zDG (by omega) (by omega);have ED:CPow 10 18:=⟨by decide,by decide,by decide⟩;have k1:∀a:Int,CMul a 1061:=fun a=>t7 (by decide);have k2:∀a:Int,CMul a 50069:=fun a=>t7 (by decide);have k3:∀a:Int,CMul a 40013:=fun a=>t7 (by decide);have k4:∀a:Int,CMul a 19:=fun a=>t7 (by decide);have k5:∀a:Int,CMul a 2147483587:=fun a=>t7 (by decide);have k6:∀a:Int,CMul a 2147483563:=fun a=>t7 (by decide);have fin:tU (.lst [.lst (cells.map .int),.int (i+1),.int v]) (n+1):=⟨i+1,v,cells,rfl,h2,by omega,by omega,h5⟩;have e0:kO true (.lst (cells.map .int)) (.lst [])=some (.bl (!cells.isEmpty)):=by
  have:=OR (neg:=true) UG (UG (l:=[])) (shaped_ints cells) (shaped_ints []);rw[YN]at this;exact this
 unfold uB;rw[iD];by_cases c0:cells = []
 ·subst c0
  refine⟨mix (i*1061+37) i,_,?_,P7 _ _,fin⟩;have ni:¬ i<0:=by omega
  have e0:kO true (.lst []) (.lst [])=some (.bl false):=e0;simp[DC,e0,k1,k2,k3,k4,k5,k6,c4,ED,QZ,QY,ni,mix,o9,pX,vO]
 ·have lp:0<cells.length:=List.length_pos_iff.mpr c0
  have e1:0≤i % (cells.length:Int):=Int.emod_nonneg _ (by omega);have e2:i % (cells.length:Int)<cells.length:=Int.emod_lt_of_pos _ (by omega);obtain⟨k,hk⟩:=Int.eq_ofNat_of_zero_le e1;rw[hk]at e2;have hk2:k<cells.length:=by omega
  have ne:cells.isEmpty=false:=by cases cells with
   |nil=>exact(c0 rfl).elim
   |cons _ _=>rfl
  have lpi:(0:Int)<cells.length:=by omega
  by_cases c1:i<(cells.length:Int)
  ·by_cases c2:(1000000000000000000:Int)≤cells[k]
   ·refine⟨cells[k],_,?_,by omega,fin⟩
    simp[DC,e0,ne,k1,lp,hk,oR hk2,hk2,c1,ED,c2]
   ·refine⟨mix cells[k] i,_,?_,P7 _ _,fin⟩
    simp[DC,e0,ne,k1,lp,hk,oR hk2,hk2,c1,ED,c2,k2,k3,k4,k5,k6,c4,QZ,QY,mix,o9,pX,vO]
  ·refine⟨mix cells[k] i,_,?_,P7 _ _,fin⟩
   simp[DC,e0,ne,k1,lp,hk,oR hk2,hk2,c1,ED,k2,k3,k4,k5,k6,c4,QZ,QY,mix,o9,pX,vO]
section
variable{α β:Type}{τ τ0 τ1:aY}{own vs1:List Nat}{put put1:k7}{t t1:XT}{e fk fv:XE}
@[simp] theorem xEl_ap:mF t e τ=(lF (t τ)).bind fun b τ2=>if b=true then(lF (e τ2)).bind fun v τ3=>.ok (some v) τ3 else .ok none τ2:=(rfl)
@[simp] theorem zHO:xElD t fk fv τ=(lF (t τ)).bind fun b τ2=>if b=true then(lF (fk τ2)).bind fun k τ3=>(lF (fv τ3)).bind fun v τ4=>.ok (some (k,v)) τ4 else .ok none τ2:=(rfl)
@[simp] theorem xLc_ap{fi:XI}:D5 own fi put t e τ=(fi τ).bind fun ts τ1=>tN own put t e ts τ1:=(rfl)
@[simp] theorem YS:dL τ [] = τ:=(rfl)
@[simp] theorem YR{i:Nat}{r:List Nat}:dL τ (i :: r)=(dL τ r).set i none:=(rfl)
@[simp] theorem NoMu_0:m8 [] τ:=fun _ h=>by cases h
@[simp] theorem NoMu_c{i:Nat}{r:List Nat}:m8 (i :: r) τ↔dW τ[i]? = false∧m8 r τ:=by
 unfold m8;simp
theorem zHv{ts:List XV}{acc:List XV}(I:Nat→aY→List XV→Prop)(h0:I 0 τ acc)
  (step:∀i x τ acc,ts[i]? = some x→I i τ acc→∃τ1 τ2 o,put x τ=some τ1∧mF t e τ1 = .ok o τ2∧I (i+1) (dL τ2 own) (pB acc o)):∃τ' acc',lH own put t e ts τ acc = .ok acc' τ'∧I ts.length τ' acc':=by
 have go:∀(ys:List XV) (i:Nat) (τ:aY) (acc:List XV),ts.drop i=ys→i≤ts.length→I i τ acc→∃τ' acc',lH own put t e ys τ acc = .ok acc' τ'∧I ts.length τ' acc':=by
  intro ys
  induction ys with
  |nil=>
   intro i τ acc e1 hi h
   have:i=ts.length:=by
    have:=congrArg List.length e1;rw[List.length_drop]at this;simp at this;omega
   subst this;exact⟨τ,acc,rfl,h⟩
  |cons x ys ih=>
   intro i τ acc e1 hi h;have hi':i<ts.length:=by
    have:=congrArg List.length e1;rw[List.length_drop,List.length_cons]at this;omega
   rw[List.drop_eq_getElem_cons hi']at e1;injection e1 with e1 e2
   have ex:ts[i]? = some x:=by rw[List.getElem?_eq_getElem hi',e1]
   obtain⟨τ1,τ2,o,h1,h2,h3⟩:=step i x τ acc ex h;unfold lH;rw[h1];dsimp only;rw[h2];exact ih (i+1) _ _ e2 hi' h3
 exact go ts 0 τ acc rfl (Nat.zero_le _) h0
theorem UX{f:α→XV}(g:α→Option XV):∀{l:List α} {acc:List XV},(∀x∈l,∃τ1 τ2,put (f x) τ=some τ1∧mF t e τ1 = .ok (g x) τ2∧dL τ2 own=τ)→lH own put t e (l.map f) τ acc = .ok (acc++l.filterMap g) τ
 |[],acc,_=>by simp[lH]
 |x :: l,acc,h=>by
  obtain⟨τ1,τ2,h1,h2,h3⟩:=h x List.mem_cons_self;rw[List.map_cons];unfold lH;rw[h1];dsimp only;rw[h2];dsimp only;rw[h3,UX g fun y hy=>h y (List.mem_cons_of_mem _ hy)];cases q:g x with
  |none=>rw[List.filterMap_cons_none q];rfl
  |some v=>rw[List.filterMap_cons_some q];simp[pB]
theorem zCK{f:α→XV}(g:α→Option XV){l:List α}(hl:l.length≤1000)(nm:m8 own τ)(hw:dL τ own=τ)(h:∀x∈l,∃τ1 τ2,put (f x) τ=some τ1∧mF t e τ1 = .ok (g x) τ2∧dL τ2 own=τ):tN own put t e (l.map f) τ = .ok (.lst (l.filterMap g)) τ:=by
 unfold tN;rw[if_pos ⟨by rw[List.length_map];exact sz hl,nm⟩,hw,UX g h];dsimp only;rw[List.nil_append,if_pos (sz (Nat.le_trans (List.length_filterMap_le _ _) hl)),hw]
theorem zCL{i:Nat}{f:α→XV}(g:α→Option XV){l:List α}(hl:l.length≤1000)(h0:τ[i]? = some none)(h:∀x∈l,mF t e (τ.set i (some (.sh (f x)))) = .ok (g x) (τ.set i (some (.sh (f x))))):tN [i] (bU i) t e (l.map f) τ = .ok (.lst (l.filterMap g)) τ:=by
 have hi:i<τ.length:=(bK h0).1;have back:∀s,(τ.set i s).set i none=τ:=fun s=>by
  rw[List.set_set];apply List.ext_getElem?;intro j;by_cases c:j=i
  ·subst c;rw[List.getElem?_set_self hi,h0]
  ·rw[List.getElem?_set_ne (Ne.symm c)]
 refine zCK g hl ?_ ?_ fun x hx=>⟨τ.set i (some (.sh (f x))),τ.set i (some (.sh (f x))),?_,h x hx,by rw[YR,YS];exact back _⟩
 ·simp[h0]
 ·have:=back none
  rw[List.set_set]at this;simpa using this
 ·unfold bU iL
  rw[if_pos ⟨hi,by rw[h0];rfl⟩]
theorem zAj{i:Nat}{f:α→XV}(g:α→XV){l:List α}(hl:l.length≤1000)(h0:τ[i]? = some none)(h:∀x∈l,mF t e (τ.set i (some (.sh (f x)))) = .ok (some (g x)) (τ.set i (some (.sh (f x))))):tN [i] (bU i) t e (l.map f) τ = .ok (.lst (l.map g)) τ:=by
 rw[zCL (fun x=>some (g x)) hl h0 h]
 congr 2
 rw[List.filterMap_eq_map']
def R1(P:aY→Prop):kA→Prop
 |.nx τ=>P τ
 |.ct τ=>P τ
 |_=>False
@[simp] theorem NxI_nx{P:aY→Prop}:R1 P (.nx τ)=P τ:=(rfl)
@[simp] theorem NxI_ct{P:aY→Prop}:R1 P (.ct τ)=P τ:=(rfl)
theorem XD{body:XS}{ts:List XV}(I:Nat→aY→Prop)(h0:I 0 τ)(step:∀i x τ,ts[i]? = some x→I i τ→∃τ1,put x τ=some τ1∧R1 (I (i+1)) (body τ1)):∃τ',nG put body ts τ = .nx τ'∧I ts.length τ':=by
 have go:∀(ys:List XV) (i:Nat) (τ:aY),ts.drop i=ys→i≤ts.length→I i τ→∃τ',nG put body ys τ = .nx τ'∧I ts.length τ':=by
  intro ys
  induction ys with
  |nil=>
   intro i τ e1 hi h
   have:i=ts.length:=by
    have:=congrArg List.length e1;rw[List.length_drop]at this;simp at this;omega
   subst this;exact⟨τ,rfl,h⟩
  |cons x ys ih=>
   intro i τ e1 hi h;have hi':i<ts.length:=by
    have:=congrArg List.length e1;rw[List.length_drop,List.length_cons]at this;omega
   rw[List.drop_eq_getElem_cons hi']at e1;injection e1 with e1 e2
   have ex:ts[i]? = some x:=by rw[List.getElem?_eq_getElem hi',e1]
   obtain⟨τ1,h1,h2⟩:=step i x τ ex h;unfold nG;rw[h1];dsimp only;cases q:body τ1 with
   |nx τ2=>rw[q]at h2;exact ih (i+1) _ e2 hi' h2
   |ct τ2=>rw[q]at h2;exact ih (i+1) _ e2 hi' h2
   |bk τ2=>rw[q]at h2;exact h2.elim
   |rt t fr τ2=>rw[q]at h2;exact h2.elim
   |err C fs τ2=>rw[q]at h2;exact h2.elim
   |bad=>rw[q]at h2;exact h2.elim
 exact go ts 0 τ rfl (Nat.zero_le _) h0
@[simp] theorem zHN{fi:XI}{body:XS}:DQ fi put body τ=iI (fi τ) fun ts τ1=>nG put body ts τ1:=(rfl)
def vZ(τ:aY):Option Int→XR (List XV)
 |some j=>if mD j then .ok (lI 0 j.toNat) τ else .bad
 |none=>.bad
@[simp] theorem xR1_ap{f:XE}:tV f τ=(f τ).bind fun t τ1=>vZ τ1 (asInt t):=by
 exact(rfl)
theorem in62{n:Nat}(h:n<1000000):mD (n:Int):=⟨by omega,by omega⟩
theorem UO{n:Nat}(h:n<1000000):vZ τ (some (n:Int)) = .ok (lI 0 n) τ:=by
 unfold vZ;dsimp only;rw[if_pos (in62 h)];rfl
theorem YZ{i:Int}{n:Nat}:(lI i n).length=n:=by unfold lI;simp
theorem UN{n:Nat}:lI 0 n=(List.range n).map fun(k:Nat)=>XV.int k:=by unfold lI;simp
theorem Y0{n i:Nat}(h:i<n):(lI 0 n)[i]? = some (.int i):=by
 rw[UN,List.getElem?_map,List.getElem?_range h];rfl
def RM(i:Nat)(o:MX)(args:List XV)(τ1:aY):Option XV→XR XV
 |some (.lst ts)=>(match o ts args with
   |some (ts',r)=>.ok r (iF τ1 i (.lst ts'))
   |none=>.bad)
 |_=>.bad
def RK:Option XV→XR XV→XR XV
 |some (.lst _),r=>r
 |_,_=>.bad
@[simp] theorem xMt_ap{i:Nat}{o:MX}{g:XA}:V4 i o g τ=RK (k_ τ i) ((g τ).bind fun args τ1=>RM i o args τ1 (k_ τ1 i)):=by
 unfold V4 RK;cases k_ τ i with
 |none=>rfl
 |some t=>cases t <;> rfl
@[simp] theorem mtS_l{ts:List XV}{r:XR XV}:RK (some (.lst ts)) r=r:=(rfl)
def RL(i:Nat)(τ1:aY):Option (List XV×XV)→XR XV
 |some p=>.ok p.2 (iF τ1 i (.lst p.1))
 |none=>.bad
@[simp] theorem mtK_l{i:Nat}{o:MX}{args ts:List XV}:RM i o args τ (some (.lst ts))=RL i τ (o ts args):=by
 unfold RM RL;dsimp only;cases o ts args <;> rfl
@[simp] theorem zHu{i:Nat}{p:List XV×XV}:RL i τ (some p) = .ok p.2 (iF τ i (.lst p.1)):=(rfl)
end
theorem O6(a:Ad){p:XV}{n u:Int}(h:tU p n)(hn:n<1000000000)(hu:0<u)(hu2:u<1073741824):∃(d:Nat) (p':XV),nF a [p,.int u] = .ok (.int d) false [p']∧(d:Int)<u∧tU p' (n+1):=by
 have h0:=h;obtain⟨i,v,cells,rfl,h2,h3,h4,h5⟩:=h;have cd:∀a,CDiv a u:=fun a=>⟨hu,hu2⟩;unfold nF;rw[iD];by_cases c:v<u
 ·obtain⟨z,p',e1,z0,pn⟩:=zA7 a h0 hn
  obtain⟨i',v',cells',rfl,g2,g3,g4,g5⟩:=pn;obtain⟨d,hd⟩:=Int.eq_ofNat_of_zero_le (Int.emod_nonneg z (Int.ne_of_gt hu))
  have:=Int.emod_lt_of_pos z hu;refine⟨d,_,?_,by omega,i',z / u,cells',rfl,g2,g3,g4,Int.ediv_nonneg z0 (by omega)⟩;simp[c,e1,U8,hu,cd,hd]
 ·obtain⟨d,hd⟩:=Int.eq_ofNat_of_zero_le (Int.emod_nonneg v (Int.ne_of_gt hu))
  have:=Int.emod_lt_of_pos v hu;refine⟨d,_,?_,by omega,i,v / u,cells,rfl,h2,h3,by omega,Int.ediv_nonneg h5 (by omega)⟩;simp[c,U8,hu,cd,hd]
theorem X1{ts:List XV}{k:Nat}:lS ts none (some (k:Int))=ts.take k:=by
 unfold lS;rw[HT.sIx_none,HT.sIx_nat,List.drop_zero,Nat.sub_zero,Nat.min_def];split
 ·rfl
 ·rw[List.take_of_length_le (Nat.le_refl _),List.take_of_length_le (by omega)]
theorem zDZ(a:Ad)(ns:List Int):∃p,sX a [.sl ns] = .ok p true []∧tU p 0:=by
 refine⟨.lst [.lst ((ns.take 60).map .int),.int 0,.int 0],?_,0,0,ns.take 60,rfl,by simp;omega,by omega,by omega,by omega⟩;unfold sX;rw[iD];have e:lS (ns.map XV.int) none (some 60)=(ns.map .int).take 60:=by
  rw[show(60:Int)=((60:Nat):Int)from rfl,X1]
 have l:min 60 ns.length≤sizeLine:=sz (by omega);simp[DP,C8,uF,pW,DK,DF,e,l]
abbrev Ask:=Option Str×Option Str×Int
end WS
namespace WS
open PySem PySem.Spec PyProof.Rows L2
open PySem.W (dataLt dataLe keyToks alike AllAlike Sortable SortsAt sortVals)
open Classical
section
variable{α:Type}{k:α→PyData}
end
def zGu(ks:List Ask)(x:Ask):List Ask:=if x∈ks then ks else ks ++ [x]
def dd(l:List Ask):List Ask:=l.foldl zGu []
section
variable{own:List Addr}{C:Addr}
end
@[simp] theorem kB1:kitB "int" "int" = some true:=by decide
@[simp] theorem kB2:kitB "int" "bool" = some false:=by decide
@[simp] theorem kB3:kitB "str" "str" = some true:=by decide
@[simp] theorem kB4:kitB "tuple" "tuple" = some true:=by decide
@[simp] theorem kB5:kitB "list" "list" = some true:=by decide
@[simp] theorem kB6:kitB "NoneType" "str" = some false:=by decide
@[simp] theorem kB7:kitB "dict" "dict" = some true:=by decide
@[simp] theorem zHE{o:Option Int→Option Int→XV→Option XV}{f:XB}{l u:XO}{τ:aY}:DP o f l u τ=(f τ).bind fun b τ1=>(l τ1).bind fun lo τ2=>(u τ2).bind fun hi τ3=>oK ((resB τ3 b).bind (o lo hi)) τ3:=(rfl)
@[simp] theorem zGO{τ:aY}:C8 τ = .ok none τ:=(rfl)
def Q6(τ:aY):Option Int→XR (Option Int)
 |some i=>.ok (some i) τ
 |none=>.bad
@[simp] theorem zHj{τ:aY}{i:Int}:Q6 τ (some i) = .ok (some i) τ:=(rfl)
@[simp] theorem zGN{f:XE}{τ:aY}:uF f τ=(f τ).bind fun t τ1=>Q6 τ1 (asInt t):=by
 unfold uF;cases f τ with
 |ok a τ1=>simp only[XR.zAD];unfold Q6;cases asInt a <;> rfl
 |err _ _ _=>rfl
 |bad=>rfl
theorem d7{A B:List XV}(h:A.length+B.length≤1000):cI (.lst A) (.lst B)=some (.lst (A++B)):=by
 unfold cI;dsimp only;rw[if_pos (by rw[List.length_append];exact sz h)]
theorem kF{A B:List XV}(h:A.length+B.length≤1000):uY (.lst A) (.lst B)=some (.lst (A++B)):=by
 unfold uY;dsimp only;rw[if_pos (by rw[List.length_append];exact sz h)]
end WS
namespace WS
open PySem PySem.Spec PyProof.Rows L2
open Classical
structure iM(a:Ad):Prop where
 zEL:a.aE≠a.aC
 zEK:a.aE≠a.aG
 zEJ:a.aE≠a.aH
 zEI:a.aE≠a.aF
 zEH:a.aE≠a.aI
 zEG:a.aE≠a.aK
 zEF:a.aE≠a.aL
 zEE:a.aE≠a.aJ
 zED:a.aE≠a.aP
 zCJ:a.aE≠a.aM
 zCI:a.aE≠a.aO
 zCH:a.aE≠a.aN
 zCG:a.aE≠a.aQ
 zCF:a.aE≠a.aU
 zCE:a.aE≠a.aR
 zCD:a.aE≠a.aS
 zCC:a.aE≠a.aW
 zCB:a.aE≠a.aV
 zCA:a.aE≠a.aX
 zEC:a.aC≠a.aG
 zEB:a.aC≠a.aH
 zEA:a.aC≠a.aF
 zEz:a.aC≠a.aI
 zEy:a.aC≠a.aK
 zEx:a.aC≠a.aL
 zEw:a.aC≠a.aJ
 zEv:a.aC≠a.aP
 zCz:a.aC≠a.aM
 zCy:a.aC≠a.aO
 zCx:a.aC≠a.aN
 zCw:a.aC≠a.aQ
 zCv:a.aC≠a.aU
 zCu:a.aC≠a.aR
 zCt:a.aC≠a.aS
 zCs:a.aC≠a.aW
 zCr:a.aC≠a.aV
 zCq:a.aC≠a.aX
 zEu:a.aG≠a.aH
 zEt:a.aG≠a.aF
 zEs:a.aG≠a.aI
 zEr:a.aG≠a.aK
 zEq:a.aG≠a.aL
 zEp:a.aG≠a.aJ
 zEo:a.aG≠a.aP
 zCp:a.aG≠a.aM
 zCo:a.aG≠a.aO
 zCn:a.aG≠a.aN
 zCm:a.aG≠a.aQ
 zCl:a.aG≠a.aU
 zCk:a.aG≠a.aR
 zCj:a.aG≠a.aS
 zCi:a.aG≠a.aW
 zCh:a.aG≠a.aV
 zCg:a.aG≠a.aX
 zEn:a.aH≠a.aF
 zEm:a.aH≠a.aI
 zEl:a.aH≠a.aK
 zEk:a.aH≠a.aL
 zEj:a.aH≠a.aJ
 zEi:a.aH≠a.aP
 zCf:a.aH≠a.aM
 zCe:a.aH≠a.aO
 zCd:a.aH≠a.aN
 zCc:a.aH≠a.aQ
 zCb:a.aH≠a.aU
 zCa:a.aH≠a.aR
 zB9:a.aH≠a.aS
 zB8:a.aH≠a.aW
 zB7:a.aH≠a.aV
 zB6:a.aH≠a.aX
 zEh:a.aF≠a.aI
 zEg:a.aF≠a.aK
 zEf:a.aF≠a.aL
 zEe:a.aF≠a.aJ
 zEd:a.aF≠a.aP
 zB5:a.aF≠a.aM
 zB4:a.aF≠a.aO
 zB3:a.aF≠a.aN
 zB2:a.aF≠a.aQ
 zB1:a.aF≠a.aU
 zB0:a.aF≠a.aR
 zBZ:a.aF≠a.aS
 zBY:a.aF≠a.aW
 zBX:a.aF≠a.aV
 zBW:a.aF≠a.aX
 zEc:a.aI≠a.aK
 zEb:a.aI≠a.aL
 zEa:a.aI≠a.aJ
 zD9:a.aI≠a.aP
 zBV:a.aI≠a.aM
 zBU:a.aI≠a.aO
 zBT:a.aI≠a.aN
 zBS:a.aI≠a.aQ
 zBR:a.aI≠a.aU
 zBQ:a.aI≠a.aR
 zBP:a.aI≠a.aS
 zBO:a.aI≠a.aW
 zBN:a.aI≠a.aV
 zBM:a.aI≠a.aX
 zD8:a.aK≠a.aL
 zD7:a.aK≠a.aJ
 zD6:a.aK≠a.aP
 zBL:a.aK≠a.aM
 zBK:a.aK≠a.aO
 zBJ:a.aK≠a.aN
 zBI:a.aK≠a.aQ
 zBH:a.aK≠a.aU
 zBG:a.aK≠a.aR
 zBF:a.aK≠a.aS
 zBE:a.aK≠a.aW
 zBD:a.aK≠a.aV
 zBC:a.aK≠a.aX
 zD5:a.aL≠a.aJ
 zD4:a.aL≠a.aP
 zBB:a.aL≠a.aM
 zBA:a.aL≠a.aO
 zBz:a.aL≠a.aN
 zBy:a.aL≠a.aQ
 zBx:a.aL≠a.aU
 zBw:a.aL≠a.aR
 zBv:a.aL≠a.aS
 zBu:a.aL≠a.aW
 zBt:a.aL≠a.aV
 zBs:a.aL≠a.aX
 zD3:a.aJ≠a.aP
 zBr:a.aJ≠a.aM
 zBq:a.aJ≠a.aO
 zBp:a.aJ≠a.aN
 zBo:a.aJ≠a.aQ
 zBn:a.aJ≠a.aU
 zBm:a.aJ≠a.aR
 zBl:a.aJ≠a.aS
 zBk:a.aJ≠a.aW
 zBj:a.aJ≠a.aV
 zBi:a.aJ≠a.aX
 zBh:a.aP≠a.aM
 zBg:a.aP≠a.aO
 zBf:a.aP≠a.aN
 zBe:a.aP≠a.aQ
 zBd:a.aP≠a.aU
 zBc:a.aP≠a.aR
 zBb:a.aP≠a.aS
 zBa:a.aP≠a.aW
 zA9:a.aP≠a.aV
 zA8:a.aP≠a.aX
 zAi:a.aM≠a.aO
 zAh:a.aM≠a.aN
 zAg:a.aM≠a.aQ
 zAf:a.aM≠a.aU
 zAe:a.aM≠a.aR
 zAd:a.aM≠a.aS
 zAc:a.aM≠a.aW
 zAb:a.aM≠a.aV
 zAa:a.aM≠a.aX
 Z_:a.aO≠a.aN
 Z9:a.aO≠a.aQ
 Z8:a.aO≠a.aU
 Z7:a.aO≠a.aR
 Z6:a.aO≠a.aS
 Z5:a.aO≠a.aW
 Z4:a.aO≠a.aV
 ZZ:a.aO≠a.aX
 ZY:a.aN≠a.aQ
 ZX:a.aN≠a.aU
 ZW:a.aN≠a.aR
 ZV:a.aN≠a.aS
 ZU:a.aN≠a.aW
 ZT:a.aN≠a.aV
 ZS:a.aN≠a.aX
 ZR:a.aQ≠a.aU
 ZQ:a.aQ≠a.aR
 ZP:a.aQ≠a.aS
 ZO:a.aQ≠a.aW
 ZN:a.aQ≠a.aV
 ZM:a.aQ≠a.aX
 ZL:a.aU≠a.aR
 ZK:a.aU≠a.aS
 ZJ:a.aU≠a.aW
 ZI:a.aU≠a.aV
 ZH:a.aU≠a.aX
 ZG:a.aR≠a.aS
 ZF:a.aR≠a.aW
 ZE:a.aR≠a.aV
 ZD:a.aR≠a.aX
 ZC:a.aS≠a.aW
 ZA:a.aS≠a.aV
 Y_:a.aS≠a.aX
 Y9:a.aW≠a.aV
 Y8:a.aW≠a.aX
 Y7:a.aV≠a.aX
def bM(i:Nat):XV:=.lst ((List.range 20).map fun j=>.bl (decide (j=i)))
def dV(a:Ad):List (Addr×Bool):=[(a.aE,true),(a.aC,true),(a.aG,true),(a.aH,true),(a.aF,true),(a.aI,true),(a.aK,true),(a.aL,true),(a.aJ,true),(a.aP,true),(a.aM,true),(a.aO,true),(a.aN,true),(a.aQ,true),(a.aU,true),(a.aR,true),(a.aS,true),(a.aW,true),(a.aV,true),(a.aX,true)]
def o_(a:Ad)(n:Int)(k:XV):List XV:=[.exf a.aE "line" (.int n),.exf a.aC "rule" k,.exc a.aG,.exc a.aH,.exc a.aF,.exc a.aI,.exc a.aK,.exc a.aL,.exc a.aJ,.exc a.aP,.exc a.aM,.exc a.aO,.exc a.aN,.exc a.aQ,.exc a.aU,.exc a.aR,.exc a.aS,.exc a.aW,.exc a.aV,.exc a.aX]
theorem j6{neg:Bool}{t:XV}{d:PyData}(h:oG t=some d)(sh:SeqAt.shaped d=true)(pl:d.plain=true):kO neg t t=some (.bl (!neg)):=by
 rw[OR h h sh sh,SeqAt.eqv_refl_plain _ pl];cases neg <;> rfl
theorem lookup_all{C:Addr}:∀{l:List (Addr×Bool)},(∀q∈l,q.2=true)→C∈l.map (·.1)→l.lookup C=some true
 |[],_,h=>by cases h
 |q :: l,ht,h=>by
  obtain⟨x,b⟩:=q;rw[List.lookup_cons];by_cases c:C == x
  ·rw[c]
   have:=ht (x,b) List.mem_cons_self;dsimp only at this⊢;rw[this]
  ·have c2:(C == x)=false:=by simpa using c
   rw[c2];refine lookup_all (fun q hq=>ht q (List.mem_cons_of_mem _ hq)) ?_;rcases List.mem_cons.mp h with z|z
   ·exact absurd (by rw[z];exact beq_self_eq_true _) c
   ·exact z
section
variable{a:Ad}
theorem O3{ts:List XV}{i:Nat}{x:XV}(h:ts[i]? = some x):dM (.lst ts) (.int (i:Int))=some x:=by
 rw[UA,oR (bK h).1];exact h
theorem kD:∀q∈dV a,q.2=true:=by unfold dV;simp
theorem kG(τ:aY)(u v:XV):mI τ [u,v] = .ok (.lst [u,v]) τ:=nH (by simp)
theorem d8(τ:aY)(u v w:XV):mI τ [u,v,w] = .ok (.lst [u,v,w]) τ:=nH (by simp)
theorem pM(τ:aY)(u v w z:XV):mI τ [u,v,w,z] = .ok (.lst [u,v,w,z]) τ:=nH (by simp)
theorem uJ(τ:aY)(u v w z y:XV):mI τ [u,v,w,z,y] = .ok (.lst [u,v,w,z,y]) τ:=nH (by simp)
theorem zAt(d:iM a){n:Int}:bL a [.exf a.aE "line" (.int n)] = .ok (bM 0) true []:=by
 have e:bM 0 = .lst [.bl true,.bl false,.bl false,.bl false,.bl false,.bl false,.bl false,.bl false,.bl false,.bl false,.bl false,.bl false,.bl false,.bl false,.bl false,.bl false,.bl false,.bl false,.bl false,.bl false]:=rfl;rw[e];unfold bL;rw[iD];simp[bD,List.lookup_cons,d7,kF,kG,d8]
theorem zAs(d:iM a){k:XV}:bL a [.exf a.aC "rule" k] = .ok (bM 1) true []:=by
 have b0:(a.aC == a.aE)=false:=beq_false_of_ne d.zEL.symm;have e:bM 1 = .lst [.bl false,.bl true,.bl false,.bl false,.bl false,.bl false,.bl false,.bl false,.bl false,.bl false,.bl false,.bl false,.bl false,.bl false,.bl false,.bl false,.bl false,.bl false,.bl false,.bl false]:=rfl;rw[e];unfold bL;rw[iD];simp[bD,List.lookup_cons,d7,kF,kG,d8,b0]
theorem zAr(d:iM a):bL a [.exc a.aG] = .ok (bM 2) true []:=by
 have b0:(a.aG == a.aE)=false:=beq_false_of_ne d.zEK.symm;have b1:(a.aG == a.aC)=false:=beq_false_of_ne d.zEC.symm;have e:bM 2 = .lst [.bl false,.bl false,.bl true,.bl false,.bl false,.bl false,.bl false,.bl false,.bl false,.bl false,.bl false,.bl false,.bl false,.bl false,.bl false,.bl false,.bl false,.bl false,.bl false,.bl false]:=rfl;rw[e];unfold bL;rw[iD];simp[bD,List.lookup_cons,d7,kF,kG,d8,b0,b1]
theorem zAq(d:iM a):bL a [.exc a.aH] = .ok (bM 3) true []:=by
 have b0:(a.aH == a.aE)=false:=beq_false_of_ne d.zEJ.symm;have b1:(a.aH == a.aC)=false:=beq_false_of_ne d.zEB.symm;have b2:(a.aH == a.aG)=false:=beq_false_of_ne d.zEu.symm;have e:bM 3 = .lst [.bl false,.bl false,.bl false,.bl true,.bl false,.bl false,.bl false,.bl false,.bl false,.bl false,.bl false,.bl false,.bl false,.bl false,.bl false,.bl false,.bl false,.bl false,.bl false,.bl false]:=rfl;rw[e];unfold bL;rw[iD];simp[bD,List.lookup_cons,d7,kF,kG,d8,b0,b1,b2]
theorem zAp(d:iM a):bL a [.exc a.aF] = .ok (bM 4) true []:=by
 have b0:(a.aF == a.aE)=false:=beq_false_of_ne d.zEI.symm;have b1:(a.aF == a.aC)=false:=beq_false_of_ne d.zEA.symm;have b2:(a.aF == a.aG)=false:=beq_false_of_ne d.zEt.symm;have b3:(a.aF == a.aH)=false:=beq_false_of_ne d.zEn.symm;have e:bM 4 = .lst [.bl false,.bl false,.bl false,.bl false,.bl true,.bl false,.bl false,.bl false,.bl false,.bl false,.bl false,.bl false,.bl false,.bl false,.bl false,.bl false,.bl false,.bl false,.bl false,.bl false]:=rfl;rw[e];unfold bL;rw[iD];simp[bD,List.lookup_cons,d7,kF,kG,d8,b0,b1,b2,b3]
theorem zAo(d:iM a):bL a [.exc a.aI] = .ok (bM 5) true []:=by
 have b0:(a.aI == a.aE)=false:=beq_false_of_ne d.zEH.symm;have b1:(a.aI == a.aC)=false:=beq_false_of_ne d.zEz.symm;have b2:(a.aI == a.aG)=false:=beq_false_of_ne d.zEs.symm;have b3:(a.aI == a.aH)=false:=beq_false_of_ne d.zEm.symm;have b4:(a.aI == a.aF)=false:=beq_false_of_ne d.zEh.symm;have e:bM 5 = .lst [.bl false,.bl false,.bl false,.bl false,.bl false,.bl true,.bl false,.bl false,.bl false,.bl false,.bl false,.bl false,.bl false,.bl false,.bl false,.bl false,.bl false,.bl false,.bl false,.bl false]:=rfl;rw[e];unfold bL;rw[iD];simp[bD,List.lookup_cons,d7,kF,kG,d8,b0,b1,b2,b3,b4]
theorem zAn(d:iM a):bL a [.exc a.aK] = .ok (bM 6) true []:=by
 have b0:(a.aK == a.aE)=false:=beq_false_of_ne d.zEG.symm;have b1:(a.aK == a.aC)=false:=beq_false_of_ne d.zEy.symm;have b2:(a.aK == a.aG)=false:=beq_false_of_ne d.zEr.symm;have b3:(a.aK == a.aH)=false:=beq_false_of_ne d.zEl.symm;have b4:(a.aK == a.aF)=false:=beq_false_of_ne d.zEg.symm;have b5:(a.aK == a.aI)=false:=beq_false_of_ne d.zEc.symm;have e:bM 6 = .lst [.bl false,.bl false,.bl false,.bl false,.bl false,.bl false,.bl true,.bl false,.bl false,.bl false,.bl false,.bl false,.bl false,.bl false,.bl false,.bl false,.bl false,.bl false,.bl false,.bl false]:=rfl;rw[e];unfold bL;rw[iD];simp[bD,List.lookup_cons,d7,kF,kG,d8,b0,b1,b2,b3,b4,b5]
theorem zAm(d:iM a):bL a [.exc a.aL] = .ok (bM 7) true []:=by
 have b0:(a.aL == a.aE)=false:=beq_false_of_ne d.zEF.symm;have b1:(a.aL == a.aC)=false:=beq_false_of_ne d.zEx.symm;have b2:(a.aL == a.aG)=false:=beq_false_of_ne d.zEq.symm;have b3:(a.aL == a.aH)=false:=beq_false_of_ne d.zEk.symm;have b4:(a.aL == a.aF)=false:=beq_false_of_ne d.zEf.symm;have b5:(a.aL == a.aI)=false:=beq_false_of_ne d.zEb.symm;have b6:(a.aL == a.aK)=false:=beq_false_of_ne d.zD8.symm;have e:bM 7 = .lst [.bl false,.bl false,.bl false,.bl false,.bl false,.bl false,.bl false,.bl true,.bl false,.bl false,.bl false,.bl false,.bl false,.bl false,.bl false,.bl false,.bl false,.bl false,.bl false,.bl false]:=rfl;rw[e];unfold bL;rw[iD];simp[bD,List.lookup_cons,d7,kF,kG,d8,b0,b1,b2,b3,b4,b5,b6]
theorem zAl(d:iM a):bL a [.exc a.aJ] = .ok (bM 8) true []:=by
 have b0:(a.aJ == a.aE)=false:=beq_false_of_ne d.zEE.symm;have b1:(a.aJ == a.aC)=false:=beq_false_of_ne d.zEw.symm;have b2:(a.aJ == a.aG)=false:=beq_false_of_ne d.zEp.symm;have b3:(a.aJ == a.aH)=false:=beq_false_of_ne d.zEj.symm;have b4:(a.aJ == a.aF)=false:=beq_false_of_ne d.zEe.symm;have b5:(a.aJ == a.aI)=false:=beq_false_of_ne d.zEa.symm;have b6:(a.aJ == a.aK)=false:=beq_false_of_ne d.zD7.symm;have b7:(a.aJ == a.aL)=false:=beq_false_of_ne d.zD5.symm;have e:bM 8 = .lst [.bl false,.bl false,.bl false,.bl false,.bl false,.bl false,.bl false,.bl false,.bl true,.bl false,.bl false,.bl false,.bl false,.bl false,.bl false,.bl false,.bl false,.bl false,.bl false,.bl false]:=rfl;rw[e];unfold bL;rw[iD];simp[bD,List.lookup_cons,d7,kF,kG,d8,b0,b1,b2,b3,b4,b5,b6,b7]
theorem zAk(d:iM a):bL a [.exc a.aP] = .ok (bM 9) true []:=by
 have b0:(a.aP == a.aE)=false:=beq_false_of_ne d.zED.symm;have b1:(a.aP == a.aC)=false:=beq_false_of_ne d.zEv.symm;have b2:(a.aP == a.aG)=false:=beq_false_of_ne d.zEo.symm;have b3:(a.aP == a.aH)=false:=beq_false_of_ne d.zEi.symm;have b4:(a.aP == a.aF)=false:=beq_false_of_ne d.zEd.symm;have b5:(a.aP == a.aI)=false:=beq_false_of_ne d.zD9.symm;have b6:(a.aP == a.aK)=false:=beq_false_of_ne d.zD6.symm;have b7:(a.aP == a.aL)=false:=beq_false_of_ne d.zD4.symm;have b8:(a.aP == a.aJ)=false:=beq_false_of_ne d.zD3.symm;have e:bM 9 = .lst [.bl false,.bl false,.bl false,.bl false,.bl false,.bl false,.bl false,.bl false,.bl false,.bl true,.bl false,.bl false,.bl false,.bl false,.bl false,.bl false,.bl false,.bl false,.bl false,.bl false]:=rfl;rw[e];unfold bL;rw[iD];simp[bD,List.lookup_cons,d7,kF,kG,d8,b0,b1,b2,b3,b4,b5,b6,b7,b8]
theorem YK(d:iM a):bL a [.exc a.aM] = .ok (bM 10) true []:=by
 have b0:(a.aM == a.aE)=false:=beq_false_of_ne d.zCJ.symm;have b1:(a.aM == a.aC)=false:=beq_false_of_ne d.zCz.symm;have b2:(a.aM == a.aG)=false:=beq_false_of_ne d.zCp.symm;have b3:(a.aM == a.aH)=false:=beq_false_of_ne d.zCf.symm;have b4:(a.aM == a.aF)=false:=beq_false_of_ne d.zB5.symm;have b5:(a.aM == a.aI)=false:=beq_false_of_ne d.zBV.symm;have b6:(a.aM == a.aK)=false:=beq_false_of_ne d.zBL.symm;have b7:(a.aM == a.aL)=false:=beq_false_of_ne d.zBB.symm;have b8:(a.aM == a.aJ)=false:=beq_false_of_ne d.zBr.symm;have b9:(a.aM == a.aP)=false:=beq_false_of_ne d.zBh.symm;have e:bM 10 = .lst [.bl false,.bl false,.bl false,.bl false,.bl false,.bl false,.bl false,.bl false,.bl false,.bl false,.bl true,.bl false,.bl false,.bl false,.bl false,.bl false,.bl false,.bl false,.bl false,.bl false]:=rfl;rw[e];unfold bL;rw[iD];simp[bD,List.lookup_cons,d7,kF,kG,d8,b0,b1,b2,b3,b4,b5,b6,b7,b8,b9]
theorem YJ(d:iM a):bL a [.exc a.aO] = .ok (bM 11) true []:=by
 have b0:(a.aO == a.aE)=false:=beq_false_of_ne d.zCI.symm;have b1:(a.aO == a.aC)=false:=beq_false_of_ne d.zCy.symm;have b2:(a.aO == a.aG)=false:=beq_false_of_ne d.zCo.symm;have b3:(a.aO == a.aH)=false:=beq_false_of_ne d.zCe.symm;have b4:(a.aO == a.aF)=false:=beq_false_of_ne d.zB4.symm;have b5:(a.aO == a.aI)=false:=beq_false_of_ne d.zBU.symm;have b6:(a.aO == a.aK)=false:=beq_false_of_ne d.zBK.symm;have b7:(a.aO == a.aL)=false:=beq_false_of_ne d.zBA.symm;have b8:(a.aO == a.aJ)=false:=beq_false_of_ne d.zBq.symm;have b9:(a.aO == a.aP)=false:=beq_false_of_ne d.zBg.symm;have b10:(a.aO == a.aM)=false:=beq_false_of_ne d.zAi.symm;have e:bM 11 = .lst [.bl false,.bl false,.bl false,.bl false,.bl false,.bl false,.bl false,.bl false,.bl false,.bl false,.bl false,.bl true,.bl false,.bl false,.bl false,.bl false,.bl false,.bl false,.bl false,.bl false]:=rfl;rw[e];unfold bL;rw[iD];simp[bD,List.lookup_cons,d7,kF,kG,d8,b0,b1,b2,b3,b4,b5,b6,b7,b8,b9,b10]
theorem YI(d:iM a):bL a [.exc a.aN] = .ok (bM 12) true []:=by
 have b0:(a.aN == a.aE)=false:=beq_false_of_ne d.zCH.symm;have b1:(a.aN == a.aC)=false:=beq_false_of_ne d.zCx.symm;have b2:(a.aN == a.aG)=false:=beq_false_of_ne d.zCn.symm;have b3:(a.aN == a.aH)=false:=beq_false_of_ne d.zCd.symm;have b4:(a.aN == a.aF)=false:=beq_false_of_ne d.zB3.symm;have b5:(a.aN == a.aI)=false:=beq_false_of_ne d.zBT.symm;have b6:(a.aN == a.aK)=false:=beq_false_of_ne d.zBJ.symm;have b7:(a.aN == a.aL)=false:=beq_false_of_ne d.zBz.symm;have b8:(a.aN == a.aJ)=false:=beq_false_of_ne d.zBp.symm;have b9:(a.aN == a.aP)=false:=beq_false_of_ne d.zBf.symm;have b10:(a.aN == a.aM)=false:=beq_false_of_ne d.zAh.symm;have lK:(a.aN == a.aO)=false:=beq_false_of_ne d.Z_.symm;have e:bM 12 = .lst [.bl false,.bl false,.bl false,.bl false,.bl false,.bl false,.bl false,.bl false,.bl false,.bl false,.bl false,.bl false,.bl true,.bl false,.bl false,.bl false,.bl false,.bl false,.bl false,.bl false]:=rfl;rw[e];unfold bL;rw[iD];simp[bD,List.lookup_cons,d7,kF,kG,d8,b0,b1,b2,b3,b4,b5,b6,b7,b8,b9,b10,lK]
theorem YH(d:iM a):bL a [.exc a.aQ] = .ok (bM 13) true []:=by
 have b0:(a.aQ == a.aE)=false:=beq_false_of_ne d.zCG.symm;have b1:(a.aQ == a.aC)=false:=beq_false_of_ne d.zCw.symm;have b2:(a.aQ == a.aG)=false:=beq_false_of_ne d.zCm.symm;have b3:(a.aQ == a.aH)=false:=beq_false_of_ne d.zCc.symm;have b4:(a.aQ == a.aF)=false:=beq_false_of_ne d.zB2.symm;have b5:(a.aQ == a.aI)=false:=beq_false_of_ne d.zBS.symm;have b6:(a.aQ == a.aK)=false:=beq_false_of_ne d.zBI.symm;have b7:(a.aQ == a.aL)=false:=beq_false_of_ne d.zBy.symm;have b8:(a.aQ == a.aJ)=false:=beq_false_of_ne d.zBo.symm;have b9:(a.aQ == a.aP)=false:=beq_false_of_ne d.zBe.symm;have b10:(a.aQ == a.aM)=false:=beq_false_of_ne d.zAg.symm;have lK:(a.aQ == a.aO)=false:=beq_false_of_ne d.Z9.symm;have l5:(a.aQ == a.aN)=false:=beq_false_of_ne d.ZY.symm;have e:bM 13 = .lst [.bl false,.bl false,.bl false,.bl false,.bl false,.bl false,.bl false,.bl false,.bl false,.bl false,.bl false,.bl false,.bl false,.bl true,.bl false,.bl false,.bl false,.bl false,.bl false,.bl false]:=rfl;rw[e];unfold bL;rw[iD];simp[bD,List.lookup_cons,d7,kF,kG,d8,b0,b1,b2,b3,b4,b5,b6,b7,b8,b9,b10,lK,l5]
theorem YG(d:iM a):bL a [.exc a.aU] = .ok (bM 14) true []:=by
 have b0:(a.aU == a.aE)=false:=beq_false_of_ne d.zCF.symm;have b1:(a.aU == a.aC)=false:=beq_false_of_ne d.zCv.symm;have b2:(a.aU == a.aG)=false:=beq_false_of_ne d.zCl.symm;have b3:(a.aU == a.aH)=false:=beq_false_of_ne d.zCb.symm;have b4:(a.aU == a.aF)=false:=beq_false_of_ne d.zB1.symm;have b5:(a.aU == a.aI)=false:=beq_false_of_ne d.zBR.symm;have b6:(a.aU == a.aK)=false:=beq_false_of_ne d.zBH.symm;have b7:(a.aU == a.aL)=false:=beq_false_of_ne d.zBx.symm;have b8:(a.aU == a.aJ)=false:=beq_false_of_ne d.zBn.symm;have b9:(a.aU == a.aP)=false:=beq_false_of_ne d.zBd.symm;have b10:(a.aU == a.aM)=false:=beq_false_of_ne d.zAf.symm;have lK:(a.aU == a.aO)=false:=beq_false_of_ne d.Z8.symm;have l5:(a.aU == a.aN)=false:=beq_false_of_ne d.ZX.symm;have nA:(a.aU == a.aQ)=false:=beq_false_of_ne d.ZR.symm;have e:bM 14 = .lst [.bl false,.bl false,.bl false,.bl false,.bl false,.bl false,.bl false,.bl false,.bl false,.bl false,.bl false,.bl false,.bl false,.bl false,.bl true,.bl false,.bl false,.bl false,.bl false,.bl false]:=rfl;rw[e];unfold bL;rw[iD];simp[bD,List.lookup_cons,d7,kF,kG,d8,b0,b1,b2,b3,b4,b5,b6,b7,b8,b9,b10,lK,l5,nA]
theorem YF(d:iM a):bL a [.exc a.aR] = .ok (bM 15) true []:=by
 have b0:(a.aR == a.aE)=false:=beq_false_of_ne d.zCE.symm;have b1:(a.aR == a.aC)=false:=beq_false_of_ne d.zCu.symm;have b2:(a.aR == a.aG)=false:=beq_false_of_ne d.zCk.symm;have b3:(a.aR == a.aH)=false:=beq_false_of_ne d.zCa.symm;have b4:(a.aR == a.aF)=false:=beq_false_of_ne d.zB0.symm;have b5:(a.aR == a.aI)=false:=beq_false_of_ne d.zBQ.symm;have b6:(a.aR == a.aK)=false:=beq_false_of_ne d.zBG.symm;have b7:(a.aR == a.aL)=false:=beq_false_of_ne d.zBw.symm;have b8:(a.aR == a.aJ)=false:=beq_false_of_ne d.zBm.symm;have b9:(a.aR == a.aP)=false:=beq_false_of_ne d.zBc.symm;have b10:(a.aR == a.aM)=false:=beq_false_of_ne d.zAe.symm;have lK:(a.aR == a.aO)=false:=beq_false_of_ne d.Z7.symm;have l5:(a.aR == a.aN)=false:=beq_false_of_ne d.ZW.symm;have nA:(a.aR == a.aQ)=false:=beq_false_of_ne d.ZQ.symm;have oL:(a.aR == a.aU)=false:=beq_false_of_ne d.ZL.symm;have e:bM 15 = .lst [.bl false,.bl false,.bl false,.bl false,.bl false,.bl false,.bl false,.bl false,.bl false,.bl false,.bl false,.bl false,.bl false,.bl false,.bl false,.bl true,.bl false,.bl false,.bl false,.bl false]:=rfl;rw[e];unfold bL;rw[iD];simp[bD,List.lookup_cons,d7,kF,kG,d8,b0,b1,b2,b3,b4,b5,b6,b7,b8,b9,b10,lK,l5,nA,oL]
theorem YE(d:iM a):bL a [.exc a.aS] = .ok (bM 16) true []:=by
 have b0:(a.aS == a.aE)=false:=beq_false_of_ne d.zCD.symm;have b1:(a.aS == a.aC)=false:=beq_false_of_ne d.zCt.symm;have b2:(a.aS == a.aG)=false:=beq_false_of_ne d.zCj.symm;have b3:(a.aS == a.aH)=false:=beq_false_of_ne d.zB9.symm;have b4:(a.aS == a.aF)=false:=beq_false_of_ne d.zBZ.symm;have b5:(a.aS == a.aI)=false:=beq_false_of_ne d.zBP.symm;have b6:(a.aS == a.aK)=false:=beq_false_of_ne d.zBF.symm;have b7:(a.aS == a.aL)=false:=beq_false_of_ne d.zBv.symm;have b8:(a.aS == a.aJ)=false:=beq_false_of_ne d.zBl.symm;have b9:(a.aS == a.aP)=false:=beq_false_of_ne d.zBb.symm;have b10:(a.aS == a.aM)=false:=beq_false_of_ne d.zAd.symm;have lK:(a.aS == a.aO)=false:=beq_false_of_ne d.Z6.symm;have l5:(a.aS == a.aN)=false:=beq_false_of_ne d.ZV.symm;have nA:(a.aS == a.aQ)=false:=beq_false_of_ne d.ZP.symm;have oL:(a.aS == a.aU)=false:=beq_false_of_ne d.ZK.symm;have p_:(a.aS == a.aR)=false:=beq_false_of_ne d.ZG.symm;have e:bM 16 = .lst [.bl false,.bl false,.bl false,.bl false,.bl false,.bl false,.bl false,.bl false,.bl false,.bl false,.bl false,.bl false,.bl false,.bl false,.bl false,.bl false,.bl true,.bl false,.bl false,.bl false]:=rfl;rw[e];unfold bL;rw[iD];simp[bD,List.lookup_cons,d7,kF,kG,d8,b0,b1,b2,b3,b4,b5,b6,b7,b8,b9,b10,lK,l5,nA,oL,p_]
theorem YD(d:iM a):bL a [.exc a.aW] = .ok (bM 17) true []:=by
 have b0:(a.aW == a.aE)=false:=beq_false_of_ne d.zCC.symm;have b1:(a.aW == a.aC)=false:=beq_false_of_ne d.zCs.symm;have b2:(a.aW == a.aG)=false:=beq_false_of_ne d.zCi.symm;have b3:(a.aW == a.aH)=false:=beq_false_of_ne d.zB8.symm;have b4:(a.aW == a.aF)=false:=beq_false_of_ne d.zBY.symm;have b5:(a.aW == a.aI)=false:=beq_false_of_ne d.zBO.symm;have b6:(a.aW == a.aK)=false:=beq_false_of_ne d.zBE.symm;have b7:(a.aW == a.aL)=false:=beq_false_of_ne d.zBu.symm;have b8:(a.aW == a.aJ)=false:=beq_false_of_ne d.zBk.symm;have b9:(a.aW == a.aP)=false:=beq_false_of_ne d.zBa.symm;have b10:(a.aW == a.aM)=false:=beq_false_of_ne d.zAc.symm;have lK:(a.aW == a.aO)=false:=beq_false_of_ne d.Z5.symm;have l5:(a.aW == a.aN)=false:=beq_false_of_ne d.ZU.symm;have nA:(a.aW == a.aQ)=false:=beq_false_of_ne d.ZO.symm;have oL:(a.aW == a.aU)=false:=beq_false_of_ne d.ZJ.symm;have p_:(a.aW == a.aR)=false:=beq_false_of_ne d.ZF.symm;have wA:(a.aW == a.aS)=false:=beq_false_of_ne d.ZC.symm;have e:bM 17 = .lst [.bl false,.bl false,.bl false,.bl false,.bl false,.bl false,.bl false,.bl false,.bl false,.bl false,.bl false,.bl false,.bl false,.bl false,.bl false,.bl false,.bl false,.bl true,.bl false,.bl false]:=rfl;rw[e];unfold bL;rw[iD];simp[bD,List.lookup_cons,d7,kF,kG,d8,b0,b1,b2,b3,b4,b5,b6,b7,b8,b9,b10,lK,l5,nA,oL,p_,wA]
theorem YC(d:iM a):bL a [.exc a.aV] = .ok (bM 18) true []:=by
 have b0:(a.aV == a.aE)=false:=beq_false_of_ne d.zCB.symm;have b1:(a.aV == a.aC)=false:=beq_false_of_ne d.zCr.symm;have b2:(a.aV == a.aG)=false:=beq_false_of_ne d.zCh.symm;have b3:(a.aV == a.aH)=false:=beq_false_of_ne d.zB7.symm;have b4:(a.aV == a.aF)=false:=beq_false_of_ne d.zBX.symm;have b5:(a.aV == a.aI)=false:=beq_false_of_ne d.zBN.symm;have b6:(a.aV == a.aK)=false:=beq_false_of_ne d.zBD.symm;have b7:(a.aV == a.aL)=false:=beq_false_of_ne d.zBt.symm;have b8:(a.aV == a.aJ)=false:=beq_false_of_ne d.zBj.symm;have b9:(a.aV == a.aP)=false:=beq_false_of_ne d.zA9.symm;have b10:(a.aV == a.aM)=false:=beq_false_of_ne d.zAb.symm;have lK:(a.aV == a.aO)=false:=beq_false_of_ne d.Z4.symm;have l5:(a.aV == a.aN)=false:=beq_false_of_ne d.ZT.symm;have nA:(a.aV == a.aQ)=false:=beq_false_of_ne d.ZN.symm;have oL:(a.aV == a.aU)=false:=beq_false_of_ne d.ZI.symm;have p_:(a.aV == a.aR)=false:=beq_false_of_ne d.ZE.symm;have wA:(a.aV == a.aS)=false:=beq_false_of_ne d.ZA.symm;have RY:(a.aV == a.aW)=false:=beq_false_of_ne d.Y9.symm;have e:bM 18 = .lst [.bl false,.bl false,.bl false,.bl false,.bl false,.bl false,.bl false,.bl false,.bl false,.bl false,.bl false,.bl false,.bl false,.bl false,.bl false,.bl false,.bl false,.bl false,.bl true,.bl false]:=rfl;rw[e];unfold bL;rw[iD];simp[bD,List.lookup_cons,d7,kF,kG,d8,b0,b1,b2,b3,b4,b5,b6,b7,b8,b9,b10,lK,l5,nA,oL,p_,wA,RY]
theorem YB(d:iM a):bL a [.exc a.aX] = .ok (bM 19) true []:=by
 have b0:(a.aX == a.aE)=false:=beq_false_of_ne d.zCA.symm;have b1:(a.aX == a.aC)=false:=beq_false_of_ne d.zCq.symm;have b2:(a.aX == a.aG)=false:=beq_false_of_ne d.zCg.symm;have b3:(a.aX == a.aH)=false:=beq_false_of_ne d.zB6.symm;have b4:(a.aX == a.aF)=false:=beq_false_of_ne d.zBW.symm;have b5:(a.aX == a.aI)=false:=beq_false_of_ne d.zBM.symm;have b6:(a.aX == a.aK)=false:=beq_false_of_ne d.zBC.symm;have b7:(a.aX == a.aL)=false:=beq_false_of_ne d.zBs.symm;have b8:(a.aX == a.aJ)=false:=beq_false_of_ne d.zBi.symm;have b9:(a.aX == a.aP)=false:=beq_false_of_ne d.zA8.symm;have b10:(a.aX == a.aM)=false:=beq_false_of_ne d.zAa.symm;have lK:(a.aX == a.aO)=false:=beq_false_of_ne d.ZZ.symm;have l5:(a.aX == a.aN)=false:=beq_false_of_ne d.ZS.symm;have nA:(a.aX == a.aQ)=false:=beq_false_of_ne d.ZM.symm;have oL:(a.aX == a.aU)=false:=beq_false_of_ne d.ZH.symm;have p_:(a.aX == a.aR)=false:=beq_false_of_ne d.ZD.symm;have wA:(a.aX == a.aS)=false:=beq_false_of_ne d.Y_.symm;have RY:(a.aX == a.aW)=false:=beq_false_of_ne d.Y8.symm;have b18:(a.aX == a.aV)=false:=beq_false_of_ne d.Y7.symm;have e:bM 19 = .lst [.bl false,.bl false,.bl false,.bl false,.bl false,.bl false,.bl false,.bl false,.bl false,.bl false,.bl false,.bl false,.bl false,.bl false,.bl false,.bl false,.bl false,.bl false,.bl false,.bl true]:=rfl;rw[e];unfold bL;rw[iD];simp[bD,List.lookup_cons,d7,kF,kG,d8,b0,b1,b2,b3,b4,b5,b6,b7,b8,b9,b10,lK,l5,nA,oL,p_,wA,RY,b18]
theorem zDJ(d:iM a){n:Int}{k:XV}{i:Nat}(hi:i<20):∃e,(o_ a n k)[i]? = some e∧bD (dV a) e=some (.bl true)∧bL a [e] = .ok (bM i) true []∧kO true (bM i) (bM i)=some (.bl false):=by
 match i,hi with
 |0,_=>exact⟨_,rfl,(by unfold bD;dsimp only;rw[lookup_all kD (by unfold dV;simp)];rfl),zAt d,j6 (d:=.list ((List.range 20).map fun j=>.bool (decide (j=0)))) rfl (by decide +kernel) rfl⟩
 |1,_=>exact⟨_,rfl,(by unfold bD;dsimp only;rw[lookup_all kD (by unfold dV;simp)];rfl),zAs d,j6 (d:=.list ((List.range 20).map fun j=>.bool (decide (j=1)))) rfl (by decide +kernel) rfl⟩
 |2,_=>exact⟨_,rfl,(by unfold bD;dsimp only;rw[lookup_all kD (by unfold dV;simp)];rfl),zAr d,j6 (d:=.list ((List.range 20).map fun j=>.bool (decide (j=2)))) rfl (by decide +kernel) rfl⟩
 |3,_=>exact⟨_,rfl,(by unfold bD;dsimp only;rw[lookup_all kD (by unfold dV;simp)];rfl),zAq d,j6 (d:=.list ((List.range 20).map fun j=>.bool (decide (j=3)))) rfl (by decide +kernel) rfl⟩
 |4,_=>exact⟨_,rfl,(by unfold bD;dsimp only;rw[lookup_all kD (by unfold dV;simp)];rfl),zAp d,j6 (d:=.list ((List.range 20).map fun j=>.bool (decide (j=4)))) rfl (by decide +kernel) rfl⟩
 |5,_=>exact⟨_,rfl,(by unfold bD;dsimp only;rw[lookup_all kD (by unfold dV;simp)];rfl),zAo d,j6 (d:=.list ((List.range 20).map fun j=>.bool (decide (j=5)))) rfl (by decide +kernel) rfl⟩
 |6,_=>exact⟨_,rfl,(by unfold bD;dsimp only;rw[lookup_all kD (by unfold dV;simp)];rfl),zAn d,j6 (d:=.list ((List.range 20).map fun j=>.bool (decide (j=6)))) rfl (by decide +kernel) rfl⟩
 |7,_=>exact⟨_,rfl,(by unfold bD;dsimp only;rw[lookup_all kD (by unfold dV;simp)];rfl),zAm d,j6 (d:=.list ((List.range 20).map fun j=>.bool (decide (j=7)))) rfl (by decide +kernel) rfl⟩
 |8,_=>exact⟨_,rfl,(by unfold bD;dsimp only;rw[lookup_all kD (by unfold dV;simp)];rfl),zAl d,j6 (d:=.list ((List.range 20).map fun j=>.bool (decide (j=8)))) rfl (by decide +kernel) rfl⟩
 |9,_=>exact⟨_,rfl,(by unfold bD;dsimp only;rw[lookup_all kD (by unfold dV;simp)];rfl),zAk d,j6 (d:=.list ((List.range 20).map fun j=>.bool (decide (j=9)))) rfl (by decide +kernel) rfl⟩
 |10,_=>exact⟨_,rfl,(by unfold bD;dsimp only;rw[lookup_all kD (by unfold dV;simp)];rfl),YK d,j6 (d:=.list ((List.range 20).map fun j=>.bool (decide (j=10)))) rfl (by decide +kernel) rfl⟩
 |11,_=>exact⟨_,rfl,(by unfold bD;dsimp only;rw[lookup_all kD (by unfold dV;simp)];rfl),YJ d,j6 (d:=.list ((List.range 20).map fun j=>.bool (decide (j=11)))) rfl (by decide +kernel) rfl⟩
 |12,_=>exact⟨_,rfl,(by unfold bD;dsimp only;rw[lookup_all kD (by unfold dV;simp)];rfl),YI d,j6 (d:=.list ((List.range 20).map fun j=>.bool (decide (j=12)))) rfl (by decide +kernel) rfl⟩
 |13,_=>exact⟨_,rfl,(by unfold bD;dsimp only;rw[lookup_all kD (by unfold dV;simp)];rfl),YH d,j6 (d:=.list ((List.range 20).map fun j=>.bool (decide (j=13)))) rfl (by decide +kernel) rfl⟩
 |14,_=>exact⟨_,rfl,(by unfold bD;dsimp only;rw[lookup_all kD (by unfold dV;simp)];rfl),YG d,j6 (d:=.list ((List.range 20).map fun j=>.bool (decide (j=14)))) rfl (by decide +kernel) rfl⟩
 |15,_=>exact⟨_,rfl,(by unfold bD;dsimp only;rw[lookup_all kD (by unfold dV;simp)];rfl),YF d,j6 (d:=.list ((List.range 20).map fun j=>.bool (decide (j=15)))) rfl (by decide +kernel) rfl⟩
 |16,_=>exact⟨_,rfl,(by unfold bD;dsimp only;rw[lookup_all kD (by unfold dV;simp)];rfl),YE d,j6 (d:=.list ((List.range 20).map fun j=>.bool (decide (j=16)))) rfl (by decide +kernel) rfl⟩
 |17,_=>exact⟨_,rfl,(by unfold bD;dsimp only;rw[lookup_all kD (by unfold dV;simp)];rfl),YD d,j6 (d:=.list ((List.range 20).map fun j=>.bool (decide (j=17)))) rfl (by decide +kernel) rfl⟩
 |18,_=>exact⟨_,rfl,(by unfold bD;dsimp only;rw[lookup_all kD (by unfold dV;simp)];rfl),YC d,j6 (d:=.list ((List.range 20).map fun j=>.bool (decide (j=18)))) rfl (by decide +kernel) rfl⟩
 |19,_=>exact⟨_,rfl,(by unfold bD;dsimp only;rw[lookup_all kD (by unfold dV;simp)];rfl),YB d,j6 (d:=.list ((List.range 20).map fun j=>.bool (decide (j=19)))) rfl (by decide +kernel) rfl⟩
 |i+20,h=>exact absurd h (by omega)
def QV(a:Ad):XS:=(oA (DO (s_ (xT (x1 (bD (dV a)) (xB (x2 dM (xN 5) (xN 6)))))) (s_ (xT (x1 (bD (dV a)) (xB (x2 dM (xN 5) (xN 6))))))) (oB (xC (.bl false))) oC)
def QU(a:Ad):XS:=(oA (xT (x2 (kO true) (xB (mS [.sh] (bL a) (kN (xB (x2 dM (xN 5) (xN 6))) lY))) (xB (D5 [7] (tV (x1 lQ (xN 5))) (bU 7) uR (x2 (kO false) (xN 7) (xN 6)))))) (oB (xC (.bl false))) oC)
def D1(a:Ad):XS:=bO (QV a) (QU a)
def P2(a:Ad):XS:=(uT 1 (C9 [.sh] (sX a) (kN (xB (xV 0)) lY)))
def P1(a:Ad):XS:=(vC [2,3] (a0 (mS [.mu,.sh] (nF a) (kN (xN 1) (kN (xB (x2 vN (xB (xC (.int 10))) (xB (xC (.int 6))))) lY))) (a0 (x2 cI (xB (xC (.str ("note " : Str)))) (xB (x1 vM (xB (mS [.mu,.sh] (nF a) (kN (xN 1) (kN (xB (xC (.int 1000))) lY))))))) cE)))
def P0(a:Ad):XS:=(cM (bU 4) (o5 (a0 (xC (.str ("a" : Str))) (a0 (xC .non) (a0 (mS [.mu,.sh] (nF a) (kN (xN 1) (kN (xB (xC (.int 99))) lY))) cE)))))
def PZ(a:Ad):XS:=(cM (bU 5) (dP (a0 (nP a.aE ("line" : Str) (xV 2)) (a0 (nP a.aC ("rule" : Str) (xV 4)) (a0 (bY a.aG (xV 3)) (a0 (bY a.aH (xV 3)) (a0 (bY a.aF (xV 3)) cE)))))))
def PY(a:Ad):XS:=(cM (bU 5) (x2 cI (xN 5) (xB (dP (a0 (bY a.aI (xV 3)) (a0 (bY a.aK (xV 3)) (a0 (bY a.aL (xV 3)) (a0 (bY a.aJ (xV 3)) cE))))))))
def PX(a:Ad):XS:=(cM (bU 5) (x2 cI (xN 5) (xB (dP (a0 (bY a.aP (xV 3)) (a0 (bY a.aM (xV 3)) (a0 (bY a.aO (xV 3)) (a0 (bY a.aN (xV 3)) cE))))))))
def PV(a:Ad):XS:=(cM (bU 5) (x2 cI (xN 5) (xB (dP (a0 (bY a.aQ (xV 3)) (a0 (bY a.aU (xV 3)) (a0 (bY a.aR (xV 3)) (a0 (bY a.aS (xV 3)) cE))))))))
def PU(a:Ad):XS:=(cM (bU 5) (x2 cI (xN 5) (xB (dP (a0 (bY a.aW (xV 3)) (a0 (bY a.aV (xV 3)) (a0 (bY a.aX (xV 3)) cE)))))))
def PR(a:Ad):XS:=(DQ (tV (x1 lQ (xN 5))) (bU 6) (D1 a))
def PQ(a:Ad):XS:=(cM (bU 8) (dP (a0 (x1 (mY [a.aE] ("line" : Str)) (xB (x2 dM (xN 5) (xB (xC (.int 0)))))) (a0 (x1 (mY [a.aC] ("rule" : Str)) (xB (x2 dM (xN 5) (xB (xC (.int 1)))))) (a0 (x1 (mY [a.aE] ("line" : Str)) (xB (nP a.aE ("line" : Str) (xC (.int 5))))) (a0 (x1 (mY [a.aC] ("rule" : Str)) (xB (nP a.aC ("rule" : Str) (o5 (a0 (xC (.str ("b" : Str))) (a0 (xC (.str ("a" : Str))) (a0 (xC (.int 0)) cE))))))) cE))))))
def O1(a:Ad):XS:=(oB (x2 (kO false) (xN 8) (xB (dP (a0 (xV 2) (a0 (xV 4) (a0 (xC (.int 5)) (a0 (o5 (a0 (xC (.str ("b" : Str))) (a0 (xC (.str ("a" : Str))) (a0 (xC (.int 0)) cE)))) cE))))))))
theorem zCM(a:Ad):DG a=nU 9 [.sh] (bO (P2 a) (bO (P1 a) (bO (P0 a) (bO (PZ a) (bO (PY a) (bO (PX a) (bO (PV a) (bO (PU a) (bO (PR a) (bO (PQ a) (O1 a))))))))))):=rfl
def lD(s0:Option Slot)(p:XV)(x2 x3 x4 L:XV)(x6:Option Slot):aY:=[s0,some (.ow p),some (.sh x2),some (.sh x3),some (.sh x4),some (.sh L),x6,none,none]
theorem YV(d:iM a){s0:Option Slot}{p x2 x3 x4 k:XV}{n:Int}{i:Nat}(hi:i<20):D1 a (lD s0 p x2 x3 x4 (.lst (o_ a n k)) (some (.sh (.int i)))) = .nx (lD s0 p x2 x3 x4 (.lst (o_ a n k)) (some (.sh (.int i)))):=by
 obtain⟨e,h1,h2,h3,h4⟩:=zDJ d (n:=n) (k:=k) hi;have it:dM (.lst (o_ a n k)) (.int (i:Int))=some e:=O3 h1;have ol:lQ (.lst (o_ a n k))=some (.int (20:Int)):=rfl;have r1:∀τ:aY,vZ τ (some (20:Int)) = .ok (lI 0 20) τ:=fun τ=>UO (n:=20) (by omega);obtain⟨L,hL⟩:=m9 (XV.lst (o_ a n k));rw[← hL]at it ol⊢;have lc:tN [7] (bU 7) uR (WS.x2 (kO false) (xN 7) (xN 6)) (lI 0 20) (lD s0 p x2 x3 x4 L (some (.sh (.int i)))) = .ok (bM i) (lD s0 p x2 x3 x4 L (some (.sh (.int i)))):=by
  rw[UN];refine zAj (fun j=>.bl (decide (j=i))) (by simp) rfl fun j hj=>?_;have e1:kO false (.int (j:Int)) (.int (i:Int))=some (.bl (decide (j=i))):=by
   have c:decide ((j:Int)=(i:Int))=decide (j=i):=decide_eq_decide.mpr Int.ofNat_inj;rw[X6,c,Bool.false_xor]
  unfold lD;simp[e1]
 have g1:QV a (lD s0 p x2 x3 x4 L (some (.sh (.int i)))) = .nx (lD s0 p x2 x3 x4 L (some (.sh (.int i)))):=by
  obtain⟨T,hT⟩:=m9 (dV a);rw[← hT]at h2;unfold QV;rw[← hT];unfold lD;simp[it,h2]
 have g2:QU a (lD s0 p x2 x3 x4 L (some (.sh (.int i)))) = .nx (lD s0 p x2 x3 x4 L (some (.sh (.int i)))):=by
  obtain⟨K,hK⟩:=m9 (bM i);rw[← hK]at h3 h4 lc;obtain⟨R,hR⟩:=m9 (lI 0 20);simp only[← hR]at r1;rw[← hR]at lc;unfold QU;unfold lD at lc⊢;simp[it,h3,ol,r1,lc,h4]
 unfold D1;rw[mN,g1,mO,g2]
end
theorem zDO{d:Nat}(h:d<1000):∃s:Str,vM (.int (d:Int))=some (.str s)∧s.length≤1001:=by
 have l:(d:Int).natAbs.log2<1000:=Nat.lt_of_le_of_lt (Nat.log2_le_self _) (by simpa using h);refine⟨_,if_pos (by omega),?_⟩;rw[PySem.ofString_length];exact int_text_length_le (a:=(d:Int)) (k:=1000) (by decide) l
theorem zAJ:oU (.str ("a" : Str))=true:=by decide +kernel
theorem zAL:m_ (.int 5)=true:=by decide +kernel
theorem zAI:m_ (.tup [.str ("b" : Str),.str ("a" : Str),.int 0])=true:=by decide +kernel
theorem zDV:PyData.strOk ("a" : Str)=true:=by decide +kernel
theorem zDT:PyData.strOk ("b" : Str)=true:=by decide +kernel
theorem zEN(a:Ad)(d:iM a)(ns:List Int):∃outs,DG a [.sl ns] = .ok (.bl true) false outs:=by
 obtain⟨p,e0,pn⟩:=zDZ a ns;obtain⟨n1,p1,e1,hn1,pn1⟩:=O6 a (u:=1000000) pn (by omega) (by omega) (by omega);obtain⟨n2,p2,e2,hn2,pn2⟩:=O6 a (u:=1000) pn1 (by omega) (by omega) (by omega);obtain⟨n3,p3,e3,hn3,pn3⟩:=O6 a (u:=99) pn2 (by omega) (by omega) (by omega);obtain⟨s,es,ls⟩:=zDO (d:=n2) (by omega);have ad:cI (.str ("note " : Str)) (.str s)=some (.str (("note " : Str)++s)):=if_pos (Nat.le_trans (show("note " : Str).length+s.length≤1000000 by have:("note " : Str).length=5:=rfl;omega) (by decide));have t1:m_ (.int (n1:Int))=true:=by
  unfold m_;rw[decide_eq_true_iff];have h:n1<1000000:=by omega
  have:=Nat.log2_lt (n:=n1) (k:=20);by_cases z:n1=0
  ·subst z;decide
  ·have:=(Nat.log2_lt z (k:=20)).mpr (Nat.lt_trans h (by decide))
   show n1.log2<1000;omega
 have t3:m_ (.tup [.str ("a" : Str),.non,.int (n3:Int)])=true:=by
  have:oU (.int (n3:Int))=true:=by
   unfold oU;rw[decide_eq_true_iff];have h:n3<1000:=by omega
   exact Nat.lt_of_le_of_lt (Nat.log2_le_self _) (by simpa using h)
  have ta:oU (.str ("a" : Str))=true:=zAJ;have tn:oU .non=true:=rfl;unfold m_;rw[Bool.and_eq_true,decide_eq_true_iff];exact⟨by simp,by simp only[List.all_cons,List.all_nil,ta,tn,this,Bool.and_true]⟩
 have t5:=zAL;have t0:=zAI;have mt3:∀(τ:aY) (u v w:XV),p8 τ [u,v,w] = .ok (.tup [u,v,w]) τ:=fun τ u v w=>zEM;have pw:CPow 10 6:=⟨by decide,by decide,by decide⟩;obtain⟨NT,hNT⟩:=m9 (XV.str (("note " : Str)++s));obtain⟨K,hK⟩:=m9 (XV.tup [.str ("a" : Str),.non,.int (n3:Int)]);rw[← hNT]at ad;rw[← hK]at t3;obtain⟨S0,hS0⟩:=m9 (XV.sl ns);rw[← hS0]at e0;rw[← hS0,zCM,iD];have hs0:slotsOf [.sh] [S0]++List.replicate (9 - [S0].length) none = [some (.sh S0),none,none,none,none,none,none,none,none]:=by simp
 rw[hs0];have g0:P2 a [some (.sh S0),none,none,none,none,none,none,none,none] = .nx [some (.sh S0),some (.ow p),none,none,none,none,none,none,none]:=by unfold P2;simp[e0]
 have g1:P1 a [some (.sh S0),some (.ow p),none,none,none,none,none,none,none] = .nx [some (.sh S0),some (.ow p2),some (.sh (.int n1)),some (.sh NT),none,none,none,none,none]:=by unfold P1;simp[e1,e2,pw,es,ad]
 have g2:P0 a [some (.sh S0),some (.ow p2),some (.sh (.int n1)),some (.sh NT),none,none,none,none,none] = .nx [some (.sh S0),some (.ow p3),some (.sh (.int n1)),some (.sh NT),some (.sh K),none,none,none,none]:=by unfold P0;simp[e3,hK]
 have g3:PZ a [some (.sh S0),some (.ow p3),some (.sh (.int n1)),some (.sh NT),some (.sh K),none,none,none,none] = .nx [some (.sh S0),some (.ow p3),some (.sh (.int n1)),some (.sh NT),some (.sh K),some (.sh (.lst [.exf a.aE "line" (.int (n1:Int)),.exf a.aC "rule" K,.exc a.aG,.exc a.aH,.exc a.aF])),none,none,none]:=by unfold PZ;simp[t1,t3,d8,pM,uJ,d7]
 have g4:PY a [some (.sh S0),some (.ow p3),some (.sh (.int n1)),some (.sh NT),some (.sh K),some (.sh (.lst [.exf a.aE "line" (.int (n1:Int)),.exf a.aC "rule" K,.exc a.aG,.exc a.aH,.exc a.aF])),none,none,none] = .nx [some (.sh S0),some (.ow p3),some (.sh (.int n1)),some (.sh NT),some (.sh K),some (.sh (.lst [.exf a.aE "line" (.int (n1:Int)),.exf a.aC "rule" K,.exc a.aG,.exc a.aH,.exc a.aF,.exc a.aI,.exc a.aK,.exc a.aL,.exc a.aJ])),none,none,none]:=by unfold PY;simp[t1,t3,d8,pM,uJ,d7]
 have g5:PX a [some (.sh S0),some (.ow p3),some (.sh (.int n1)),some (.sh NT),some (.sh K),some (.sh (.lst [.exf a.aE "line" (.int (n1:Int)),.exf a.aC "rule" K,.exc a.aG,.exc a.aH,.exc a.aF,.exc a.aI,.exc a.aK,.exc a.aL,.exc a.aJ])),none,none,none] = .nx [some (.sh S0),some (.ow p3),some (.sh (.int n1)),some (.sh NT),some (.sh K),some (.sh (.lst [.exf a.aE "line" (.int (n1:Int)),.exf a.aC "rule" K,.exc a.aG,.exc a.aH,.exc a.aF,.exc a.aI,.exc a.aK,.exc a.aL,.exc a.aJ,.exc a.aP,.exc a.aM,.exc a.aO,.exc a.aN])),none,none,none]:=by unfold PX;simp[t1,t3,d8,pM,uJ,d7]
 have g6:PV a [some (.sh S0),some (.ow p3),some (.sh (.int n1)),some (.sh NT),some (.sh K),some (.sh (.lst [.exf a.aE "line" (.int (n1:Int)),.exf a.aC "rule" K,.exc a.aG,.exc a.aH,.exc a.aF,.exc a.aI,.exc a.aK,.exc a.aL,.exc a.aJ,.exc a.aP,.exc a.aM,.exc a.aO,.exc a.aN])),none,none,none] = .nx [some (.sh S0),some (.ow p3),some (.sh (.int n1)),some (.sh NT),some (.sh K),some (.sh (.lst [.exf a.aE "line" (.int (n1:Int)),.exf a.aC "rule" K,.exc a.aG,.exc a.aH,.exc a.aF,.exc a.aI,.exc a.aK,.exc a.aL,.exc a.aJ,.exc a.aP,.exc a.aM,.exc a.aO,.exc a.aN,.exc a.aQ,.exc a.aU,.exc a.aR,.exc a.aS])),none,none,none]:=by unfold PV;simp[t1,t3,d8,pM,uJ,d7]
 have g7:PU a [some (.sh S0),some (.ow p3),some (.sh (.int n1)),some (.sh NT),some (.sh K),some (.sh (.lst [.exf a.aE "line" (.int (n1:Int)),.exf a.aC "rule" K,.exc a.aG,.exc a.aH,.exc a.aF,.exc a.aI,.exc a.aK,.exc a.aL,.exc a.aJ,.exc a.aP,.exc a.aM,.exc a.aO,.exc a.aN,.exc a.aQ,.exc a.aU,.exc a.aR,.exc a.aS])),none,none,none] = .nx [some (.sh S0),some (.ow p3),some (.sh (.int n1)),some (.sh NT),some (.sh K),some (.sh (.lst [.exf a.aE "line" (.int (n1:Int)),.exf a.aC "rule" K,.exc a.aG,.exc a.aH,.exc a.aF,.exc a.aI,.exc a.aK,.exc a.aL,.exc a.aJ,.exc a.aP,.exc a.aM,.exc a.aO,.exc a.aN,.exc a.aQ,.exc a.aU,.exc a.aR,.exc a.aS,.exc a.aW,.exc a.aV,.exc a.aX])),none,none,none]:=by unfold PU;simp[t1,t3,d8,pM,uJ,d7]
 have eL:XV.lst (o_ a (n1:Int) K)=(.lst [.exf a.aE "line" (.int (n1:Int)),.exf a.aC "rule" K,.exc a.aG,.exc a.aH,.exc a.aF,.exc a.aI,.exc a.aK,.exc a.aL,.exc a.aJ,.exc a.aP,.exc a.aM,.exc a.aO,.exc a.aN,.exc a.aQ,.exc a.aU,.exc a.aR,.exc a.aS,.exc a.aW,.exc a.aV,.exc a.aX]):=rfl;obtain⟨LT,v8⟩:=m9 (XV.lst (o_ a (n1:Int) K));obtain⟨B,hB⟩:=m9 (D1 a);obtain⟨τ',go,y6,rfl,m6⟩:=XD (put:=bU 6) (body:=B) (ts:=lI 0 20) (τ:=lD (some (.sh S0)) p3 (.int n1) NT K LT none) (fun i τ=>∃y6:Option Slot,τ=lD (some (.sh S0)) p3 (.int n1) NT K LT y6∧dW (some y6)=false) ⟨none,rfl,rfl⟩ (by
  rintro i x τ hx ⟨y6,rfl,m6⟩;have hi:i<20:=by
   have:=(bK hx).1
   rwa [YZ]at this
  rw[Y0 hi]at hx;cases hx;have e:=YV d (s0:=some (.sh S0)) (p:=p3) (x2:=.int n1) (x3:=NT) (x4:=K) (k:=K) (n:=(n1:Int)) hi;rw[← v8,← hB]at e;refine⟨lD (some (.sh S0)) p3 (.int n1) NT K LT (some (.sh (.int i))),by unfold lD;simp[uG m6],?_⟩;rw[e];exact⟨some (.sh (.int i)),rfl,rfl⟩)
 have ol:lQ LT=some (.int (20:Int)):=by rw[v8];rfl
 have r1:∀τ:aY,vZ τ (some (20:Int)) = .ok (lI 0 20) τ:=fun τ=>UO (n:=20) (by omega);have i0:dM LT (.int 0)=some (.exf a.aE "line" (.int (n1:Int))):=by rw[v8];exact O3 (i:=0) rfl
 have i1:dM LT (.int 1)=some (.exf a.aC "rule" K):=by rw[v8];exact O3 (i:=1) rfl
 obtain⟨FL,hFL⟩:=m9 (XV.lst [.int (n1:Int),K,.int 5,.tup [.str ("b" : Str),.str ("a" : Str),.int 0]]);have g8:PR a [some (.sh S0),some (.ow p3),some (.sh (.int n1)),some (.sh NT),some (.sh K),some (.sh LT),none,none,none] = .nx [some (.sh S0),some (.ow p3),some (.sh (.int n1)),some (.sh NT),some (.sh K),some (.sh LT),y6,none,none]:=by
  obtain⟨R,hR⟩:=m9 (lI 0 20);rw[← hR]at go;simp only[← hR]at r1;unfold PR;rw[← hB];unfold lD at go;simp[ol,r1,go]
 have g9:PQ a [some (.sh S0),some (.ow p3),some (.sh (.int n1)),some (.sh NT),some (.sh K),some (.sh LT),y6,none,none] = .nx [some (.sh S0),some (.ow p3),some (.sh (.int n1)),some (.sh NT),some (.sh K),some (.sh LT),y6,none,some (.sh FL)]:=by
  unfold PQ;simp[i0,i1,mY,t5,t0,pM,← hFL,-UA]
 have eqF:kO false FL FL=some (.bl true):=by
  rw[hFL,hK];exact j6 (d:=.list [.int n1,.tuple [.str ("a" : Str),.none,.int n3],.int 5,.tuple [.str ("b" : Str),.str ("a" : Str),.int 0]]) (by simp[oG,cO,lZ]) (by unfold SeqAt.shaped;simp[PyData.canLay0,PyData.canLayAll0,PyData.depth,PyData.depthAll,zDV,zDT]) rfl
 have g10:O1 a [some (.sh S0),some (.ow p3),some (.sh (.int n1)),some (.sh NT),some (.sh K),some (.sh LT),y6,none,some (.sh FL)] = .rt (.bl true) false [some (.sh S0),some (.ow p3),some (.sh (.int n1)),some (.sh NT),some (.sh K),some (.sh LT),y6,none,some (.sh FL)]:=by
  unfold O1;simp[pM,← hK,← hFL,eqF]
 rw[mN,g0,mO,mN,g1,mO,mN,g2,mO,mN,g3,mO,mN,g4,mO,mN,g5,mO,mN,g6,mO,mN,g7,mO,← eL,← v8,mN,g8,mO,mN,g9,mO,g10];exact⟨_,rfl⟩
theorem plain(a:Ad)(h0_1:a.aE≠a.aC)(h0_2:a.aE≠a.aG)(h0_3:a.aE≠a.aH)(h0_4:a.aE≠a.aF)(h0_5:a.aE≠a.aI)(h0_6:a.aE≠a.aK)(h0_7:a.aE≠a.aL)(h0_8:a.aE≠a.aJ)(h0_9:a.aE≠a.aP)(zGs:a.aE≠a.aM)(zGr:a.aE≠a.aO)(zGq:a.aE≠a.aN)(zGp:a.aE≠a.aQ)(zGo:a.aE≠a.aU)(zGn:a.aE≠a.aR)(zGm:a.aE≠a.aS)(zGl:a.aE≠a.aW)(zGk:a.aE≠a.aV)(zGj:a.aE≠a.aX)(h1_2:a.aC≠a.aG)(h1_3:a.aC≠a.aH)(h1_4:a.aC≠a.aF)(h1_5:a.aC≠a.aI)(h1_6:a.aC≠a.aK)(h1_7:a.aC≠a.aL)(h1_8:a.aC≠a.aJ)(h1_9:a.aC≠a.aP)(zGi:a.aC≠a.aM)(zGh:a.aC≠a.aO)(zGg:a.aC≠a.aN)(zGf:a.aC≠a.aQ)(zGe:a.aC≠a.aU)(zGd:a.aC≠a.aR)(zGc:a.aC≠a.aS)(zGb:a.aC≠a.aW)(zGa:a.aC≠a.aV)(zF9:a.aC≠a.aX)(h2_3:a.aG≠a.aH)(h2_4:a.aG≠a.aF)(h2_5:a.aG≠a.aI)(h2_6:a.aG≠a.aK)(h2_7:a.aG≠a.aL)(h2_8:a.aG≠a.aJ)(h2_9:a.aG≠a.aP)(zF8:a.aG≠a.aM)(zF7:a.aG≠a.aO)(zF6:a.aG≠a.aN)(zF5:a.aG≠a.aQ)(zF4:a.aG≠a.aU)(zF3:a.aG≠a.aR)(zF2:a.aG≠a.aS)(zF1:a.aG≠a.aW)(zF0:a.aG≠a.aV)(zFZ:a.aG≠a.aX)(h3_4:a.aH≠a.aF)(h3_5:a.aH≠a.aI)(h3_6:a.aH≠a.aK)(h3_7:a.aH≠a.aL)(h3_8:a.aH≠a.aJ)(h3_9:a.aH≠a.aP)(zFY:a.aH≠a.aM)(zFX:a.aH≠a.aO)(zFW:a.aH≠a.aN)(zFV:a.aH≠a.aQ)(zFU:a.aH≠a.aU)(zFT:a.aH≠a.aR)(zFS:a.aH≠a.aS)(zFR:a.aH≠a.aW)(zFQ:a.aH≠a.aV)(zFP:a.aH≠a.aX)(h4_5:a.aF≠a.aI)(h4_6:a.aF≠a.aK)(h4_7:a.aF≠a.aL)(h4_8:a.aF≠a.aJ)(h4_9:a.aF≠a.aP)(zFO:a.aF≠a.aM)(zFN:a.aF≠a.aO)(zFM:a.aF≠a.aN)(zFL:a.aF≠a.aQ)(zFK:a.aF≠a.aU)(zFJ:a.aF≠a.aR)(zFI:a.aF≠a.aS)(zFH:a.aF≠a.aW)(zFG:a.aF≠a.aV)(zFF:a.aF≠a.aX)(h5_6:a.aI≠a.aK)(h5_7:a.aI≠a.aL)(h5_8:a.aI≠a.aJ)(h5_9:a.aI≠a.aP)(zFE:a.aI≠a.aM)(zFD:a.aI≠a.aO)(zFC:a.aI≠a.aN)(zFB:a.aI≠a.aQ)(zFA:a.aI≠a.aU)(zFz:a.aI≠a.aR)(zFy:a.aI≠a.aS)(zFx:a.aI≠a.aW)(zFw:a.aI≠a.aV)(zFv:a.aI≠a.aX)(h6_7:a.aK≠a.aL)(h6_8:a.aK≠a.aJ)(h6_9:a.aK≠a.aP)(zFu:a.aK≠a.aM)(zFt:a.aK≠a.aO)(zFs:a.aK≠a.aN)(zFr:a.aK≠a.aQ)(zFq:a.aK≠a.aU)(zFp:a.aK≠a.aR)(zFo:a.aK≠a.aS)(zFn:a.aK≠a.aW)(zFm:a.aK≠a.aV)(zFl:a.aK≠a.aX)(h7_8:a.aL≠a.aJ)(h7_9:a.aL≠a.aP)(zFk:a.aL≠a.aM)(zFj:a.aL≠a.aO)(zFi:a.aL≠a.aN)(zFh:a.aL≠a.aQ)(zFg:a.aL≠a.aU)(zFf:a.aL≠a.aR)(zFe:a.aL≠a.aS)(zFd:a.aL≠a.aW)(zFc:a.aL≠a.aV)(zFb:a.aL≠a.aX)(h8_9:a.aJ≠a.aP)(zFa:a.aJ≠a.aM)(zE9:a.aJ≠a.aO)(zE8:a.aJ≠a.aN)(zE7:a.aJ≠a.aQ)(zE6:a.aJ≠a.aU)(zE5:a.aJ≠a.aR)(zE4:a.aJ≠a.aS)(zE3:a.aJ≠a.aW)(zE2:a.aJ≠a.aV)(zE1:a.aJ≠a.aX)(zE0:a.aP≠a.aM)(zEZ:a.aP≠a.aO)(zEY:a.aP≠a.aN)(zEX:a.aP≠a.aQ)(zEW:a.aP≠a.aU)(zEV:a.aP≠a.aR)(zEU:a.aP≠a.aS)(zET:a.aP≠a.aW)(zES:a.aP≠a.aV)(zER:a.aP≠a.aX)(zDy:a.aM≠a.aO)(zDx:a.aM≠a.aN)(zDw:a.aM≠a.aQ)(zDv:a.aM≠a.aU)(zDu:a.aM≠a.aR)(zDt:a.aM≠a.aS)(zDs:a.aM≠a.aW)(zDr:a.aM≠a.aV)(zDq:a.aM≠a.aX)(zDp:a.aO≠a.aN)(zDo:a.aO≠a.aQ)(zDn:a.aO≠a.aU)(zDm:a.aO≠a.aR)(zDl:a.aO≠a.aS)(zDk:a.aO≠a.aW)(zDj:a.aO≠a.aV)(zDi:a.aO≠a.aX)(zDh:a.aN≠a.aQ)(zDg:a.aN≠a.aU)(zDf:a.aN≠a.aR)(zDe:a.aN≠a.aS)(zDd:a.aN≠a.aW)(zDc:a.aN≠a.aV)(zDb:a.aN≠a.aX)(zDa:a.aQ≠a.aU)(zC9:a.aQ≠a.aR)(zC8:a.aQ≠a.aS)(zC7:a.aQ≠a.aW)(zC6:a.aQ≠a.aV)(zC5:a.aQ≠a.aX)(zC4:a.aU≠a.aR)(zC3:a.aU≠a.aS)(zC2:a.aU≠a.aW)(zC1:a.aU≠a.aV)(zC0:a.aU≠a.aX)(zCZ:a.aR≠a.aS)(zCY:a.aR≠a.aW)(zCX:a.aR≠a.aV)(zCW:a.aR≠a.aX)(zCV:a.aS≠a.aW)(zCU:a.aS≠a.aV)(zCT:a.aS≠a.aX)(zCS:a.aW≠a.aV)(zCR:a.aW≠a.aX)(zCQ:a.aV≠a.aX)(ns:List Int)(h:ns.length≤63):∃M,uZ a [.sl ns] [] = .ok (.bl true) M:=by
 obtain⟨outs,e⟩:=zEN a ⟨h0_1,h0_2,h0_3,h0_4,h0_5,h0_6,h0_7,h0_8,h0_9,zGs,zGr,zGq,zGp,zGo,zGn,zGm,zGl,zGk,zGj,h1_2,h1_3,h1_4,h1_5,h1_6,h1_7,h1_8,h1_9,zGi,zGh,zGg,zGf,zGe,zGd,zGc,zGb,zGa,zF9,h2_3,h2_4,h2_5,h2_6,h2_7,h2_8,h2_9,zF8,zF7,zF6,zF5,zF4,zF3,zF2,zF1,zF0,zFZ,h3_4,h3_5,h3_6,h3_7,h3_8,h3_9,zFY,zFX,zFW,zFV,zFU,zFT,zFS,zFR,zFQ,zFP,h4_5,h4_6,h4_7,h4_8,h4_9,zFO,zFN,zFM,zFL,zFK,zFJ,zFI,zFH,zFG,zFF,h5_6,h5_7,h5_8,h5_9,zFE,zFD,zFC,zFB,zFA,zFz,zFy,zFx,zFw,zFv,h6_7,h6_8,h6_9,zFu,zFt,zFs,zFr,zFq,zFp,zFo,zFn,zFm,zFl,h7_8,h7_9,zFk,zFj,zFi,zFh,zFg,zFf,zFe,zFd,zFc,zFb,h8_9,zFa,zE9,zE8,zE7,zE6,zE5,zE4,zE3,zE2,zE1,zE0,zEZ,zEY,zEX,zEW,zEV,zEU,zET,zES,zER,zDy,zDx,zDw,zDv,zDu,zDt,zDs,zDr,zDq,zDp,zDo,zDn,zDm,zDl,zDk,zDj,zDi,zDh,zDg,zDf,zDe,zDd,zDc,zDb,zDa,zC9,zC8,zC7,zC6,zC5,zC4,zC3,zC2,zC1,zC0,zCZ,zCY,zCX,zCW,zCV,zCU,zCT,zCS,zCR,zCQ⟩ ns;exact X5 (u4 a) e
end WS
namespace WS
open PySem PySem.Spec PyProof.Rows L2
theorem one_no{K:PySem.W.Frag}{C D:Addr}(h1:PySem.W.isClsIn K D=true)(h2:PySem.W.typeIn K (.ref D)=some (.type "type"))(hs:PySem.W.subIn K (.ref C) (.ref C)=some true)(h3:PySem.W.subIn K (.ref C) (.ref D)=some false):PySem.W.kitOne K (.ref C) (.ref D)=some false:=by
 refine VA h1 h2 h3 ?_;refine beq_false_of_ne fun e=>?_;cases e;rw[hs]at h3;cases h3
theorem kE{K:PySem.W.Frag}{C D:Addr}(h1:PySem.W.isClsIn K D=true)(h2:PySem.W.typeIn K (.ref D)=some (.type "type"))(h3:PySem.W.subIn K (.ref C) (.ref D)=some true):PySem.W.kitOne K (.ref C) (.ref D)=some true:=by
 by_cases e:C=D
 ·subst e;exact j7
 ·exact VA h1 h2 h3 (beq_false_of_ne fun z=>e (by cases z;rfl))
theorem zH5{K:PySem.W.Frag}{t c:Value}{r:List Value}(h:PySem.W.kitOne K t c=some true):PySem.W.kitAny K t (c :: r)=some true:=by rw[PySem.W.kitAny.eq_2,h]
theorem all_mk{l:PySem.W.OpenLaw}{w:World}{K:PySem.W.Frag}{h:Heap}{mg:Str→Option Value}{fa cG aE aC aG aH aF aI aK aL aJ aP aM aO aN aQ aU aR aS aW aV aX lN lM k9 l8 l7 lL mW:Addr}(XK:K.In h)(G:h.Ns mainGlobals mg)(hfa:mg "law" = some (.ref fa))
  {XF W3 W4 WR WO WW:FuncData} {zA6:Value} {zA5 VH:Option Addr} {zAV:Array (Option Value)} {VB VD U9 O_ VE:Value}
  (MK:PySem.W.nsIn K mainGlobals "WindowError" = some (some (.ref cG)))
  (M6:PySem.W.nsIn K mainGlobals "ParseError" = some (some (.ref aE)))
  (MO:PySem.W.nsIn K mainGlobals "NotAdmitted" = some (some (.ref aC)))
  (L0:PySem.W.nsIn K mainGlobals "InvalidSystem" = some (some (.ref aG)))
  (ML:PySem.W.nsIn K mainGlobals "UnknownRule" = some (some (.ref aH)))
  (LR:PySem.W.nsIn K mainGlobals "UnknownSetting" = some (some (.ref aF)))
  (LS:PySem.W.nsIn K mainGlobals "InvalidNumbers" = some (some (.ref aI)))
  (L4:PySem.W.nsIn K mainGlobals "Contradiction" = some (some (.ref aK)))
  (MP:PySem.W.nsIn K mainGlobals "InvalidStep" = some (some (.ref aL)))
  (L1:PySem.W.nsIn K mainGlobals "InvalidPrices" = some (some (.ref aJ)))
  (M7:PySem.W.nsIn K mainGlobals "NoSolution" = some (some (.ref aP)))
  (LV:PySem.W.nsIn K mainGlobals "InvalidAmounts" = some (some (.ref aM)))
  (MB:PySem.W.nsIn K mainGlobals "NotASolution" = some (some (.ref aO)))
  (MA:PySem.W.nsIn K mainGlobals "PlanFinished" = some (some (.ref aN)))
  (LZ:PySem.W.nsIn K mainGlobals "NothingToUndo" = some (some (.ref aQ)))
  (MQ:PySem.W.nsIn K mainGlobals "InvalidName" = some (some (.ref aU)))
  (L3:PySem.W.nsIn K mainGlobals "DuplicateName" = some (some (.ref aR)))
  (MM:PySem.W.nsIn K mainGlobals "UnknownName" = some (some (.ref aS)))
  (MN:PySem.W.nsIn K mainGlobals "UnknownMark" = some (some (.ref aW)))
  (LU:PySem.W.nsIn K mainGlobals "InvalidCommand" = some (some (.ref aV)))
  (MR:PySem.W.nsIn K mainGlobals "InvalidLine" = some (some (.ref aX)))
  (q9:PySem.W.excIn K aK [.type "ValueError",.type "Exception",.type "BaseException",.type "object"] "ValueError.__new__" = true)
  (rJ:PySem.W.keepIn K (.ref aK)=true)
  (rD:PySem.W.typeIn K (.ref aK)=some (.type "type"))
  (dB:PySem.W.subIn K (.ref aK) (.type "BaseException")=some true)
  (q8:PySem.W.excIn K aR [.type "ValueError",.type "Exception",.type "BaseException",.type "object"] "ValueError.__new__" = true)
  (rH:PySem.W.keepIn K (.ref aR)=true)
  (rC:PySem.W.typeIn K (.ref aR)=some (.type "type"))
  (dA:PySem.W.subIn K (.ref aR) (.type "BaseException")=some true)
  (qM:PySem.W.excIn K aM [.type "ValueError",.type "Exception",.type "BaseException",.type "object"] "ValueError.__new__" = true)
  (qX:PySem.W.keepIn K (.ref aM)=true)
  (qR:PySem.W.typeIn K (.ref aM)=some (.type "type"))
  (c7:PySem.W.subIn K (.ref aM) (.type "BaseException")=some true)
  (qL:PySem.W.excIn K aV [.type "ValueError",.type "Exception",.type "BaseException",.type "object"] "ValueError.__new__" = true)
  (qW:PySem.W.keepIn K (.ref aV)=true)
  (qQ:PySem.W.typeIn K (.ref aV)=some (.type "type"))
  (c6:PySem.W.subIn K (.ref aV) (.type "BaseException")=some true)
  (rW:PySem.W.excIn K aX [.type "ValueError",.type "Exception",.type "BaseException",.type "object"] "ValueError.__new__" = true)
  (sK:PySem.W.keepIn K (.ref aX)=true)
  (sC:PySem.W.typeIn K (.ref aX)=some (.type "type"))
  (dJ:PySem.W.subIn K (.ref aX) (.type "BaseException")=some true)
  (rV:PySem.W.excIn K aU [.type "ValueError",.type "Exception",.type "BaseException",.type "object"] "ValueError.__new__" = true)
  (sJ:PySem.W.keepIn K (.ref aU)=true)
  (sA:PySem.W.typeIn K (.ref aU)=some (.type "type"))
  (dI:PySem.W.subIn K (.ref aU) (.type "BaseException")=some true)
  (qK:PySem.W.excIn K aI [.type "ValueError",.type "Exception",.type "BaseException",.type "object"] "ValueError.__new__" = true)
  (qU:PySem.W.keepIn K (.ref aI)=true)
  (qP:PySem.W.typeIn K (.ref aI)=some (.type "type"))
  (cZ:PySem.W.subIn K (.ref aI) (.type "BaseException")=some true)
  (q7:PySem.W.excIn K aJ [.type "ValueError",.type "Exception",.type "BaseException",.type "object"] "ValueError.__new__" = true)
  (rG:PySem.W.keepIn K (.ref aJ)=true)
  (rB:PySem.W.typeIn K (.ref aJ)=some (.type "type"))
  (c_:PySem.W.subIn K (.ref aJ) (.type "BaseException")=some true)
  (rT:PySem.W.excIn K aL [.type "ValueError",.type "Exception",.type "BaseException",.type "object"] "ValueError.__new__" = true)
  (sH:PySem.W.keepIn K (.ref aL)=true)
  (r_:PySem.W.typeIn K (.ref aL)=some (.type "type"))
  (dH:PySem.W.subIn K (.ref aL) (.type "BaseException")=some true)
  (qZ:PySem.W.excIn K aG [.type "ValueError",.type "Exception",.type "BaseException",.type "object"] "ValueError.__new__" = true)
  (rF:PySem.W.keepIn K (.ref aG)=true)
  (rA:PySem.W.typeIn K (.ref aG)=some (.type "type"))
  (c9:PySem.W.subIn K (.ref aG) (.type "BaseException")=some true)
  (sL:PySem.W.excIn K aP [.type "ValueError",.type "Exception",.type "BaseException",.type "object"] "ValueError.__new__" = true)
  (sO:PySem.W.keepIn K (.ref aP)=true)
  (sM:PySem.W.typeIn K (.ref aP)=some (.type "type"))
  (dK:PySem.W.subIn K (.ref aP) (.type "BaseException")=some true)
  (rL:PySem.W.excIn K aO [.type "ValueError",.type "Exception",.type "BaseException",.type "object"] "ValueError.__new__" = true)
  (rP:PySem.W.keepIn K (.ref aO)=true)
  (rN:PySem.W.typeIn K (.ref aO)=some (.type "type"))
  (dD:PySem.W.subIn K (.ref aO) (.type "BaseException")=some true)
  (qY:PySem.W.excIn K aQ [.type "ValueError",.type "Exception",.type "BaseException",.type "object"] "ValueError.__new__" = true)
  (rE:PySem.W.keepIn K (.ref aQ)=true)
  (q_:PySem.W.typeIn K (.ref aQ)=some (.type "type"))
  (c8:PySem.W.subIn K (.ref aQ) (.type "BaseException")=some true)
  (rK:PySem.W.excIn K aN [.type "ValueError",.type "Exception",.type "BaseException",.type "object"] "ValueError.__new__" = true)
  (rO:PySem.W.keepIn K (.ref aN)=true)
  (rM:PySem.W.typeIn K (.ref aN)=some (.type "type"))
  (dC:PySem.W.subIn K (.ref aN) (.type "BaseException")=some true)
  (rS:PySem.W.excIn K aW [.type "ValueError",.type "Exception",.type "BaseException",.type "object"] "ValueError.__new__" = true)
  (sF:PySem.W.keepIn K (.ref aW)=true)
  (rZ:PySem.W.typeIn K (.ref aW)=some (.type "type"))
  (dG:PySem.W.subIn K (.ref aW) (.type "BaseException")=some true)
  (rR:PySem.W.excIn K aS [.type "ValueError",.type "Exception",.type "BaseException",.type "object"] "ValueError.__new__" = true)
  (sE:PySem.W.keepIn K (.ref aS)=true)
  (rY:PySem.W.typeIn K (.ref aS)=some (.type "type"))
  (dF:PySem.W.subIn K (.ref aS) (.type "BaseException")=some true)
  (rQ:PySem.W.excIn K aH [.type "ValueError",.type "Exception",.type "BaseException",.type "object"] "ValueError.__new__" = true)
  (sD:PySem.W.keepIn K (.ref aH)=true)
  (rX:PySem.W.typeIn K (.ref aH)=some (.type "type"))
  (dE:PySem.W.subIn K (.ref aH) (.type "BaseException")=some true)
  (qJ:PySem.W.excIn K aF [.type "ValueError",.type "Exception",.type "BaseException",.type "object"] "ValueError.__new__" = true)
  (qS:PySem.W.keepIn K (.ref aF)=true)
  (qO:PySem.W.typeIn K (.ref aF)=some (.type "type"))
  (cY:PySem.W.subIn K (.ref aF) (.type "BaseException")=some true)
  (MC:D0 K aC=true)
  (ME:PySem.W.findIn K (.ref aC) "__setattr__" = some (some (.builtin "object.__setattr__")))
  (MY:PySem.W.keepIn K (.ref aC)=true)
  (MT:PySem.W.typeIn K (.ref aC)=some (.type "type"))
  (dS:PySem.W.subIn K (.ref aC) (.type "BaseException")=some true)
  (MD:PySem.W.typeIn K (.ref l7)=some (.type "function"))
  (CJ:PySem.W.findIn K (.ref aC) "rule" = some none)
  (MU:D0 K aE=true)
  (MW:PySem.W.findIn K (.ref aE) "__setattr__" = some (some (.builtin "object.__setattr__")))
  (M_:PySem.W.keepIn K (.ref aE)=true)
  (M9:PySem.W.typeIn K (.ref aE)=some (.type "type"))
  (dT:PySem.W.subIn K (.ref aE) (.type "BaseException")=some true)
  (MV:PySem.W.typeIn K (.ref l8)=some (.type "function"))
  (CK:PySem.W.findIn K (.ref aE) "line" = some none)
  (pH:PySem.W.readsIn K cG (.type "type")=true)
  (pJ:PySem.W.specialIn K (.ref cG) "__getattribute__" = some (some (.builtin "type.__getattribute__")))
  (pI:PySem.W.findCls K (.ref cG) (.type "type") "__init__" = some (.val (.builtin "ValueError.__init__")))
  (d5:PySem.W.findIn K (.ref aE) "__getattribute__" = some (some (.builtin "BaseException.__getattribute__")))
  (d4:PySem.W.findIn K (.ref aE) "__getattr__" = some none)
  (d6:PySem.W.hasDictIn K aE=true)
  (iA:PySem.W.findIn K (.ref aE) "__class__" = some (some (.builtin "object.__class__")))
  (hX:PySem.W.mroIn K aE (.type "object")=some true)
  (d0:PySem.W.findIn K (.ref aC) "__getattribute__" = some (some (.builtin "BaseException.__getattribute__")))
  (dZ:PySem.W.findIn K (.ref aC) "__getattr__" = some none)
  (d3:PySem.W.hasDictIn K aC=true)
  (hQ:PySem.W.findIn K (.ref aC) "__class__" = some (some (.builtin "object.__class__")))
  (gE:PySem.W.mroIn K aC (.type "object")=some true)
  (fG:PySem.W.findIn K (.ref aG) "__getattribute__" = some (some (.builtin "BaseException.__getattribute__")))
  (fB:PySem.W.findIn K (.ref aG) "__getattr__" = some none)
  (fM:PySem.W.hasDictIn K aG=true)
  (fR:PySem.W.findIn K (.ref aG) "__class__" = some (some (.builtin "object.__class__")))
  (e7:PySem.W.mroIn K aG (.type "object")=some true)
  (gQ:PySem.W.findIn K (.ref aH) "__getattribute__" = some (some (.builtin "BaseException.__getattribute__")))
  (gI:PySem.W.findIn K (.ref aH) "__getattr__" = some none)
  (gX:PySem.W.hasDictIn K aH=true)
  (hI:PySem.W.findIn K (.ref aH) "__class__" = some (some (.builtin "object.__class__")))
  (gA:PySem.W.mroIn K aH (.type "object")=some true)
  (eO:PySem.W.findIn K (.ref aF) "__getattribute__" = some (some (.builtin "BaseException.__getattribute__")))
  (eJ:PySem.W.findIn K (.ref aF) "__getattr__" = some none)
  (eS:PySem.W.hasDictIn K aF=true)
  (eX:PySem.W.findIn K (.ref aF) "__class__" = some (some (.builtin "object.__class__")))
  (eE:PySem.W.mroIn K aF (.type "object")=some true)
  (eP:PySem.W.findIn K (.ref aI) "__getattribute__" = some (some (.builtin "BaseException.__getattribute__")))
  (eK:PySem.W.findIn K (.ref aI) "__getattr__" = some none)
  (eT:PySem.W.hasDictIn K aI=true)
  (eY:PySem.W.findIn K (.ref aI) "__class__" = some (some (.builtin "object.__class__")))
  (eF:PySem.W.mroIn K aI (.type "object")=some true)
  (fK:PySem.W.findIn K (.ref aK) "__getattribute__" = some (some (.builtin "BaseException.__getattribute__")))
  (fE:PySem.W.findIn K (.ref aK) "__getattr__" = some none)
  (fP:PySem.W.hasDictIn K aK=true)
  (fU:PySem.W.findIn K (.ref aK) "__class__" = some (some (.builtin "object.__class__")))
  (e_:PySem.W.mroIn K aK (.type "object")=some true)
  (gT:PySem.W.findIn K (.ref aL) "__getattribute__" = some (some (.builtin "BaseException.__getattribute__")))
  (gL:PySem.W.findIn K (.ref aL) "__getattr__" = some none)
  (g_:PySem.W.hasDictIn K aL=true)
  (hU:PySem.W.findIn K (.ref aL) "__class__" = some (some (.builtin "object.__class__")))
  (gF:PySem.W.mroIn K aL (.type "object")=some true)
  (fH:PySem.W.findIn K (.ref aJ) "__getattribute__" = some (some (.builtin "BaseException.__getattribute__")))
  (fC:PySem.W.findIn K (.ref aJ) "__getattr__" = some none)
  (fN:PySem.W.hasDictIn K aJ=true)
  (fS:PySem.W.findIn K (.ref aJ) "__class__" = some (some (.builtin "object.__class__")))
  (e8:PySem.W.mroIn K aJ (.type "object")=some true)
  (h9:PySem.W.findIn K (.ref aP) "__getattribute__" = some (some (.builtin "BaseException.__getattribute__")))
  (h8:PySem.W.findIn K (.ref aP) "__getattr__" = some none)
  (h_:PySem.W.hasDictIn K aP=true)
  (iB:PySem.W.findIn K (.ref aP) "__class__" = some (some (.builtin "object.__class__")))
  (h7:PySem.W.mroIn K aP (.type "object")=some true)
  (eR:PySem.W.findIn K (.ref aM) "__getattribute__" = some (some (.builtin "BaseException.__getattribute__")))
  (eN:PySem.W.findIn K (.ref aM) "__getattr__" = some none)
  (eW:PySem.W.hasDictIn K aM=true)
  (e5:PySem.W.findIn K (.ref aM) "__class__" = some (some (.builtin "object.__class__")))
  (eI:PySem.W.mroIn K aM (.type "object")=some true)
  (f5:PySem.W.findIn K (.ref aO) "__getattribute__" = some (some (.builtin "BaseException.__getattribute__")))
  (fY:PySem.W.findIn K (.ref aO) "__getattr__" = some none)
  (f7:PySem.W.hasDictIn K aO=true)
  (f_:PySem.W.findIn K (.ref aO) "__class__" = some (some (.builtin "object.__class__")))
  (fW:PySem.W.mroIn K aO (.type "object")=some true)
  (fZ:PySem.W.findIn K (.ref aN) "__getattribute__" = some (some (.builtin "BaseException.__getattribute__")))
  (fX:PySem.W.findIn K (.ref aN) "__getattr__" = some none)
  (f6:PySem.W.hasDictIn K aN=true)
  (f9:PySem.W.findIn K (.ref aN) "__class__" = some (some (.builtin "object.__class__")))
  (fV:PySem.W.mroIn K aN (.type "object")=some true)
  (fF:PySem.W.findIn K (.ref aQ) "__getattribute__" = some (some (.builtin "BaseException.__getattribute__")))
  (fA:PySem.W.findIn K (.ref aQ) "__getattr__" = some none)
  (fL:PySem.W.hasDictIn K aQ=true)
  (fQ:PySem.W.findIn K (.ref aQ) "__class__" = some (some (.builtin "object.__class__")))
  (e6:PySem.W.mroIn K aQ (.type "object")=some true)
  (gU:PySem.W.findIn K (.ref aU) "__getattribute__" = some (some (.builtin "BaseException.__getattribute__")))
  (gM:PySem.W.findIn K (.ref aU) "__getattr__" = some none)
  (hE:PySem.W.hasDictIn K aU=true)
  (hV:PySem.W.findIn K (.ref aU) "__class__" = some (some (.builtin "object.__class__")))
  (gG:PySem.W.mroIn K aU (.type "object")=some true)
  (fJ:PySem.W.findIn K (.ref aR) "__getattribute__" = some (some (.builtin "BaseException.__getattribute__")))
  (fD:PySem.W.findIn K (.ref aR) "__getattr__" = some none)
  (fO:PySem.W.hasDictIn K aR=true)
  (fT:PySem.W.findIn K (.ref aR) "__class__" = some (some (.builtin "object.__class__")))
  (e9:PySem.W.mroIn K aR (.type "object")=some true)
  (gR:PySem.W.findIn K (.ref aS) "__getattribute__" = some (some (.builtin "BaseException.__getattribute__")))
  (gJ:PySem.W.findIn K (.ref aS) "__getattr__" = some none)
  (gY:PySem.W.hasDictIn K aS=true)
  (hJ:PySem.W.findIn K (.ref aS) "__class__" = some (some (.builtin "object.__class__")))
  (gB:PySem.W.mroIn K aS (.type "object")=some true)
  (gS:PySem.W.findIn K (.ref aW) "__getattribute__" = some (some (.builtin "BaseException.__getattribute__")))
  (gK:PySem.W.findIn K (.ref aW) "__getattr__" = some none)
  (gZ:PySem.W.hasDictIn K aW=true)
  (hO:PySem.W.findIn K (.ref aW) "__class__" = some (some (.builtin "object.__class__")))
  (gD:PySem.W.mroIn K aW (.type "object")=some true)
  (eQ:PySem.W.findIn K (.ref aV) "__getattribute__" = some (some (.builtin "BaseException.__getattribute__")))
  (eM:PySem.W.findIn K (.ref aV) "__getattr__" = some none)
  (eU:PySem.W.hasDictIn K aV=true)
  (eZ:PySem.W.findIn K (.ref aV) "__class__" = some (some (.builtin "object.__class__")))
  (eG:PySem.W.mroIn K aV (.type "object")=some true)
  (gW:PySem.W.findIn K (.ref aX) "__getattribute__" = some (some (.builtin "BaseException.__getattribute__")))
  (gO:PySem.W.findIn K (.ref aX) "__getattr__" = some none)
  (hG:PySem.W.hasDictIn K aX=true)
  (hW:PySem.W.findIn K (.ref aX) "__class__" = some (some (.builtin "object.__class__")))
  (gH:PySem.W.mroIn K aX (.type "object")=some true)
  (jI:PySem.W.isClsIn K aK=true)
  (jD:PySem.W.typeIn K (.ref aK)=some (.type "type"))
  (bS:PySem.W.subIn K (.ref aE) (.ref aE)=some true)
  (AX:PySem.W.subIn K (.ref aE) (.ref aK)=some false)
  (bV:PySem.W.subIn K (.ref aC) (.ref aC)=some true)
  (zN:PySem.W.subIn K (.ref aC) (.ref aK)=some false)
  (bX:PySem.W.subIn K (.ref aG) (.ref aG)=some true)
  (xK:PySem.W.subIn K (.ref aG) (.ref aK)=some false)
  (bZ:PySem.W.subIn K (.ref aH) (.ref aH)=some true)
  (zA:PySem.W.subIn K (.ref aH) (.ref aK)=some false)
  (cA:PySem.W.subIn K (.ref aF) (.ref aF)=some true)
  (wN:PySem.W.subIn K (.ref aF) (.ref aK)=some false)
  (cD:PySem.W.subIn K (.ref aI) (.ref aI)=some true)
  (w5:PySem.W.subIn K (.ref aI) (.ref aK)=some false)
  (cK:PySem.W.subIn K (.ref aL) (.ref aL)=some true)
  (IA:PySem.W.subIn K (.ref aL) (.ref aK)=some false)
  (cL:PySem.W.subIn K (.ref aJ) (.ref aJ)=some true)
  (FV:PySem.W.subIn K (.ref aJ) (.ref aK)=some false)
  (cN:PySem.W.subIn K (.ref aP) (.ref aP)=some true)
  (JN:PySem.W.subIn K (.ref aP) (.ref aK)=some false)
  (cR:PySem.W.subIn K (.ref aM) (.ref aM)=some true)
  (E9:PySem.W.subIn K (.ref aM) (.ref aK)=some false)
  (cW:PySem.W.subIn K (.ref aO) (.ref aO)=some true)
  (GM:PySem.W.subIn K (.ref aO) (.ref aK)=some false)
  (cX:PySem.W.subIn K (.ref aN) (.ref aN)=some true)
  (GF:PySem.W.subIn K (.ref aN) (.ref aK)=some false)
  (dN:PySem.W.subIn K (.ref aQ) (.ref aQ)=some true)
  (FO:PySem.W.subIn K (.ref aQ) (.ref aK)=some false)
  (dR:PySem.W.subIn K (.ref aU) (.ref aU)=some true)
  (IJ:PySem.W.subIn K (.ref aU) (.ref aK)=some false)
  (dY:PySem.W.subIn K (.ref aR) (.ref aR)=some true)
  (F2:PySem.W.subIn K (.ref aR) (.ref aK)=some false)
  (eD:PySem.W.subIn K (.ref aS) (.ref aS)=some true)
  (HP:PySem.W.subIn K (.ref aS) (.ref aK)=some false)
  (iH:PySem.W.subIn K (.ref aW) (.ref aW)=some true)
  (HV:PySem.W.subIn K (.ref aW) (.ref aK)=some false)
  (iN:PySem.W.subIn K (.ref aV) (.ref aV)=some true)
  (E6:PySem.W.subIn K (.ref aV) (.ref aK)=some false)
  (iY:PySem.W.subIn K (.ref aX) (.ref aX)=some true)
  (IO:PySem.W.subIn K (.ref aX) (.ref aK)=some false)
  (jH:PySem.W.isClsIn K aR=true)
  (jC:PySem.W.typeIn K (.ref aR)=some (.type "type"))
  (AW:PySem.W.subIn K (.ref aE) (.ref aR)=some false)
  (zM:PySem.W.subIn K (.ref aC) (.ref aR)=some false)
  (xJ:PySem.W.subIn K (.ref aG) (.ref aR)=some false)
  (y_:PySem.W.subIn K (.ref aH) (.ref aR)=some false)
  (wM:PySem.W.subIn K (.ref aF) (.ref aR)=some false)
  (w0:PySem.W.subIn K (.ref aI) (.ref aR)=some false)
  (cF:PySem.W.subIn K (.ref aK) (.ref aK)=some true)
  (xW:PySem.W.subIn K (.ref aK) (.ref aR)=some false)
  (zZ:PySem.W.subIn K (.ref aL) (.ref aR)=some false)
  (xM:PySem.W.subIn K (.ref aJ) (.ref aR)=some false)
  (A5:PySem.W.subIn K (.ref aP) (.ref aR)=some false)
  (w7:PySem.W.subIn K (.ref aM) (.ref aR)=some false)
  (yJ:PySem.W.subIn K (.ref aO) (.ref aR)=some false)
  (yD:PySem.W.subIn K (.ref aN) (.ref aR)=some false)
  (xF:PySem.W.subIn K (.ref aQ) (.ref aR)=some false)
  (AD:PySem.W.subIn K (.ref aU) (.ref aR)=some false)
  (HN:PySem.W.subIn K (.ref aS) (.ref aR)=some false)
  (HU:PySem.W.subIn K (.ref aW) (.ref aR)=some false)
  (E5:PySem.W.subIn K (.ref aV) (.ref aR)=some false)
  (IN:PySem.W.subIn K (.ref aX) (.ref aR)=some false)
  (i9:PySem.W.isClsIn K aM=true)
  (i5:PySem.W.typeIn K (.ref aM)=some (.type "type"))
  (zE:PySem.W.subIn K (.ref aE) (.ref aM)=some false)
  (yH:PySem.W.subIn K (.ref aC) (.ref aM)=some false)
  (wV:PySem.W.subIn K (.ref aG) (.ref aM)=some false)
  (x_:PySem.W.subIn K (.ref aH) (.ref aM)=some false)
  (wG:PySem.W.subIn K (.ref aF) (.ref aM)=some false)
  (wI:PySem.W.subIn K (.ref aI) (.ref aM)=some false)
  (w_:PySem.W.subIn K (.ref aK) (.ref aM)=some false)
  (yN:PySem.W.subIn K (.ref aL) (.ref aM)=some false)
  (wX:PySem.W.subIn K (.ref aJ) (.ref aM)=some false)
  (zQ:PySem.W.subIn K (.ref aP) (.ref aM)=some false)
  (FR:PySem.W.subIn K (.ref aO) (.ref aM)=some false)
  (FK:PySem.W.subIn K (.ref aN) (.ref aM)=some false)
  (ER:PySem.W.subIn K (.ref aQ) (.ref aM)=some false)
  (GW:PySem.W.subIn K (.ref aU) (.ref aM)=some false)
  (FC:PySem.W.subIn K (.ref aR) (.ref aM)=some false)
  (F9:PySem.W.subIn K (.ref aS) (.ref aM)=some false)
  (GB:PySem.W.subIn K (.ref aW) (.ref aM)=some false)
  (EJ:PySem.W.subIn K (.ref aV) (.ref aM)=some false)
  (G1:PySem.W.subIn K (.ref aX) (.ref aM)=some false)
  (i8:PySem.W.isClsIn K aV=true)
  (i4:PySem.W.typeIn K (.ref aV)=some (.type "type"))
  (zD:PySem.W.subIn K (.ref aE) (.ref aV)=some false)
  (yG:PySem.W.subIn K (.ref aC) (.ref aV)=some false)
  (wU:PySem.W.subIn K (.ref aG) (.ref aV)=some false)
  (x9:PySem.W.subIn K (.ref aH) (.ref aV)=some false)
  (wF:PySem.W.subIn K (.ref aF) (.ref aV)=some false)
  (wH:PySem.W.subIn K (.ref aI) (.ref aV)=some false)
  (w9:PySem.W.subIn K (.ref aK) (.ref aV)=some false)
  (yM:PySem.W.subIn K (.ref aL) (.ref aV)=some false)
  (wW:PySem.W.subIn K (.ref aJ) (.ref aV)=some false)
  (zP:PySem.W.subIn K (.ref aP) (.ref aV)=some false)
  (wJ:PySem.W.subIn K (.ref aM) (.ref aV)=some false)
  (xG:PySem.W.subIn K (.ref aO) (.ref aV)=some false)
  (xE:PySem.W.subIn K (.ref aN) (.ref aV)=some false)
  (wO:PySem.W.subIn K (.ref aQ) (.ref aV)=some false)
  (yV:PySem.W.subIn K (.ref aU) (.ref aV)=some false)
  (w8:PySem.W.subIn K (.ref aR) (.ref aV)=some false)
  (yA:PySem.W.subIn K (.ref aS) (.ref aV)=some false)
  (yB:PySem.W.subIn K (.ref aW) (.ref aV)=some false)
  (G0:PySem.W.subIn K (.ref aX) (.ref aV)=some false)
  (j0:PySem.W.isClsIn K aX=true)
  (jT:PySem.W.typeIn K (.ref aX)=some (.type "type"))
  (B9:PySem.W.subIn K (.ref aE) (.ref aX)=some false)
  (BP:PySem.W.subIn K (.ref aC) (.ref aX)=some false)
  (zW:PySem.W.subIn K (.ref aG) (.ref aX)=some false)
  (BE:PySem.W.subIn K (.ref aH) (.ref aX)=some false)
  (x5:PySem.W.subIn K (.ref aF) (.ref aX)=some false)
  (yU:PySem.W.subIn K (.ref aI) (.ref aX)=some false)
  (AL:PySem.W.subIn K (.ref aK) (.ref aX)=some false)
  (BX:PySem.W.subIn K (.ref aL) (.ref aX)=some false)
  (AB:PySem.W.subIn K (.ref aJ) (.ref aX)=some false)
  (CD:PySem.W.subIn K (.ref aP) (.ref aX)=some false)
  (y0:PySem.W.subIn K (.ref aM) (.ref aX)=some false)
  (A3:PySem.W.subIn K (.ref aO) (.ref aX)=some false)
  (AS:PySem.W.subIn K (.ref aN) (.ref aX)=some false)
  (zI:PySem.W.subIn K (.ref aQ) (.ref aX)=some false)
  (B0:PySem.W.subIn K (.ref aU) (.ref aX)=some false)
  (AG:PySem.W.subIn K (.ref aR) (.ref aX)=some false)
  (BG:PySem.W.subIn K (.ref aS) (.ref aX)=some false)
  (BH:PySem.W.subIn K (.ref aW) (.ref aX)=some false)
  (yW:PySem.W.subIn K (.ref aV) (.ref aX)=some false)
  (jZ:PySem.W.isClsIn K aU=true)
  (jS:PySem.W.typeIn K (.ref aU)=some (.type "type"))
  (B7:PySem.W.subIn K (.ref aE) (.ref aU)=some false)
  (BO:PySem.W.subIn K (.ref aC) (.ref aU)=some false)
  (zV:PySem.W.subIn K (.ref aG) (.ref aU)=some false)
  (BD:PySem.W.subIn K (.ref aH) (.ref aU)=some false)
  (x0:PySem.W.subIn K (.ref aF) (.ref aU)=some false)
  (yT:PySem.W.subIn K (.ref aI) (.ref aU)=some false)
  (AK:PySem.W.subIn K (.ref aK) (.ref aU)=some false)
  (BW:PySem.W.subIn K (.ref aL) (.ref aU)=some false)
  (AA:PySem.W.subIn K (.ref aJ) (.ref aU)=some false)
  (CC:PySem.W.subIn K (.ref aP) (.ref aU)=some false)
  (yZ:PySem.W.subIn K (.ref aM) (.ref aU)=some false)
  (A2:PySem.W.subIn K (.ref aO) (.ref aU)=some false)
  (AR:PySem.W.subIn K (.ref aN) (.ref aU)=some false)
  (zH:PySem.W.subIn K (.ref aQ) (.ref aU)=some false)
  (IX:PySem.W.subIn K (.ref aR) (.ref aU)=some false)
  (J6:PySem.W.subIn K (.ref aS) (.ref aU)=some false)
  (KB:PySem.W.subIn K (.ref aW) (.ref aU)=some false)
  (G8:PySem.W.subIn K (.ref aV) (.ref aU)=some false)
  (KZ:PySem.W.subIn K (.ref aX) (.ref aU)=some false)
  (i7:PySem.W.isClsIn K aI=true)
  (i3:PySem.W.typeIn K (.ref aI)=some (.type "type"))
  (zC:PySem.W.subIn K (.ref aE) (.ref aI)=some false)
  (yF:PySem.W.subIn K (.ref aC) (.ref aI)=some false)
  (wR:PySem.W.subIn K (.ref aG) (.ref aI)=some false)
  (x8:PySem.W.subIn K (.ref aH) (.ref aI)=some false)
  (wD:PySem.W.subIn K (.ref aF) (.ref aI)=some false)
  (FF:PySem.W.subIn K (.ref aK) (.ref aI)=some false)
  (GO:PySem.W.subIn K (.ref aL) (.ref aI)=some false)
  (ET:PySem.W.subIn K (.ref aJ) (.ref aI)=some false)
  (H7:PySem.W.subIn K (.ref aP) (.ref aI)=some false)
  (EL:PySem.W.subIn K (.ref aM) (.ref aI)=some false)
  (FQ:PySem.W.subIn K (.ref aO) (.ref aI)=some false)
  (FJ:PySem.W.subIn K (.ref aN) (.ref aI)=some false)
  (EQ:PySem.W.subIn K (.ref aQ) (.ref aI)=some false)
  (GV:PySem.W.subIn K (.ref aU) (.ref aI)=some false)
  (FB:PySem.W.subIn K (.ref aR) (.ref aI)=some false)
  (F8:PySem.W.subIn K (.ref aS) (.ref aI)=some false)
  (GA:PySem.W.subIn K (.ref aW) (.ref aI)=some false)
  (EI:PySem.W.subIn K (.ref aV) (.ref aI)=some false)
  (GZ:PySem.W.subIn K (.ref aX) (.ref aI)=some false)
  (jG:PySem.W.isClsIn K aJ=true)
  (jB:PySem.W.typeIn K (.ref aJ)=some (.type "type"))
  (AV:PySem.W.subIn K (.ref aE) (.ref aJ)=some false)
  (zL:PySem.W.subIn K (.ref aC) (.ref aJ)=some false)
  (xI:PySem.W.subIn K (.ref aG) (.ref aJ)=some false)
  (y9:PySem.W.subIn K (.ref aH) (.ref aJ)=some false)
  (wL:PySem.W.subIn K (.ref aF) (.ref aJ)=some false)
  (wZ:PySem.W.subIn K (.ref aI) (.ref aJ)=some false)
  (xU:PySem.W.subIn K (.ref aK) (.ref aJ)=some false)
  (zY:PySem.W.subIn K (.ref aL) (.ref aJ)=some false)
  (JM:PySem.W.subIn K (.ref aP) (.ref aJ)=some false)
  (E8:PySem.W.subIn K (.ref aM) (.ref aJ)=some false)
  (GL:PySem.W.subIn K (.ref aO) (.ref aJ)=some false)
  (GE:PySem.W.subIn K (.ref aN) (.ref aJ)=some false)
  (FN:PySem.W.subIn K (.ref aQ) (.ref aJ)=some false)
  (II:PySem.W.subIn K (.ref aU) (.ref aJ)=some false)
  (F0:PySem.W.subIn K (.ref aR) (.ref aJ)=some false)
  (HM:PySem.W.subIn K (.ref aS) (.ref aJ)=some false)
  (HS:PySem.W.subIn K (.ref aW) (.ref aJ)=some false)
  (EZ:PySem.W.subIn K (.ref aV) (.ref aJ)=some false)
  (IM:PySem.W.subIn K (.ref aX) (.ref aJ)=some false)
  (jY:PySem.W.isClsIn K aL=true)
  (jR:PySem.W.typeIn K (.ref aL)=some (.type "type"))
  (B6:PySem.W.subIn K (.ref aE) (.ref aL)=some false)
  (BN:PySem.W.subIn K (.ref aC) (.ref aL)=some false)
  (zU:PySem.W.subIn K (.ref aG) (.ref aL)=some false)
  (BC:PySem.W.subIn K (.ref aH) (.ref aL)=some false)
  (xZ:PySem.W.subIn K (.ref aF) (.ref aL)=some false)
  (yS:PySem.W.subIn K (.ref aI) (.ref aL)=some false)
  (AJ:PySem.W.subIn K (.ref aK) (.ref aL)=some false)
  (IE:PySem.W.subIn K (.ref aJ) (.ref aL)=some false)
  (LG:PySem.W.subIn K (.ref aP) (.ref aL)=some false)
  (HB:PySem.W.subIn K (.ref aM) (.ref aL)=some false)
  (JK:PySem.W.subIn K (.ref aO) (.ref aL)=some false)
  (JE:PySem.W.subIn K (.ref aN) (.ref aL)=some false)
  (H5:PySem.W.subIn K (.ref aQ) (.ref aL)=some false)
  (KP:PySem.W.subIn K (.ref aU) (.ref aL)=some false)
  (IW:PySem.W.subIn K (.ref aR) (.ref aL)=some false)
  (J5:PySem.W.subIn K (.ref aS) (.ref aL)=some false)
  (KA:PySem.W.subIn K (.ref aW) (.ref aL)=some false)
  (G7:PySem.W.subIn K (.ref aV) (.ref aL)=some false)
  (KY:PySem.W.subIn K (.ref aX) (.ref aL)=some false)
  (jF:PySem.W.isClsIn K aG=true)
  (jA:PySem.W.typeIn K (.ref aG)=some (.type "type"))
  (AU:PySem.W.subIn K (.ref aE) (.ref aG)=some false)
  (zK:PySem.W.subIn K (.ref aC) (.ref aG)=some false)
  (HJ:PySem.W.subIn K (.ref aH) (.ref aG)=some false)
  (EM:PySem.W.subIn K (.ref aF) (.ref aG)=some false)
  (EU:PySem.W.subIn K (.ref aI) (.ref aG)=some false)
  (F3:PySem.W.subIn K (.ref aK) (.ref aG)=some false)
  (H_:PySem.W.subIn K (.ref aL) (.ref aG)=some false)
  (FU:PySem.W.subIn K (.ref aJ) (.ref aG)=some false)
  (JL:PySem.W.subIn K (.ref aP) (.ref aG)=some false)
  (E7:PySem.W.subIn K (.ref aM) (.ref aG)=some false)
  (GJ:PySem.W.subIn K (.ref aO) (.ref aG)=some false)
  (GD:PySem.W.subIn K (.ref aN) (.ref aG)=some false)
  (FM:PySem.W.subIn K (.ref aQ) (.ref aG)=some false)
  (IH:PySem.W.subIn K (.ref aU) (.ref aG)=some false)
  (FZ:PySem.W.subIn K (.ref aR) (.ref aG)=some false)
  (HL:PySem.W.subIn K (.ref aS) (.ref aG)=some false)
  (HR:PySem.W.subIn K (.ref aW) (.ref aG)=some false)
  (EY:PySem.W.subIn K (.ref aV) (.ref aG)=some false)
  (IL:PySem.W.subIn K (.ref aX) (.ref aG)=some false)
  (j5:PySem.W.isClsIn K aP=true)
  (j3:PySem.W.typeIn K (.ref aP)=some (.type "type"))
  (CG:PySem.W.subIn K (.ref aE) (.ref aP)=some false)
  (B_:PySem.W.subIn K (.ref aC) (.ref aP)=some false)
  (A6:PySem.W.subIn K (.ref aG) (.ref aP)=some false)
  (B1:PySem.W.subIn K (.ref aH) (.ref aP)=some false)
  (y7:PySem.W.subIn K (.ref aF) (.ref aP)=some false)
  (AC:PySem.W.subIn K (.ref aI) (.ref aP)=some false)
  (A_:PySem.W.subIn K (.ref aK) (.ref aP)=some false)
  (CF:PySem.W.subIn K (.ref aL) (.ref aP)=some false)
  (A9:PySem.W.subIn K (.ref aJ) (.ref aP)=some false)
  (IS:PySem.W.subIn K (.ref aM) (.ref aP)=some false)
  (KH:PySem.W.subIn K (.ref aO) (.ref aP)=some false)
  (KD:PySem.W.subIn K (.ref aN) (.ref aP)=some false)
  (JG:PySem.W.subIn K (.ref aQ) (.ref aP)=some false)
  (LK:PySem.W.subIn K (.ref aU) (.ref aP)=some false)
  (JV:PySem.W.subIn K (.ref aR) (.ref aP)=some false)
  (K9:PySem.W.subIn K (.ref aS) (.ref aP)=some false)
  (LA:PySem.W.subIn K (.ref aW) (.ref aP)=some false)
  (IQ:PySem.W.subIn K (.ref aV) (.ref aP)=some false)
  (LM:PySem.W.subIn K (.ref aX) (.ref aP)=some false)
  (jM:PySem.W.isClsIn K aO=true)
  (jK:PySem.W.typeIn K (.ref aO)=some (.type "type"))
  (BJ:PySem.W.subIn K (.ref aE) (.ref aO)=some false)
  (AZ:PySem.W.subIn K (.ref aC) (.ref aO)=some false)
  (yL:PySem.W.subIn K (.ref aG) (.ref aO)=some false)
  (AN:PySem.W.subIn K (.ref aH) (.ref aO)=some false)
  (xD:PySem.W.subIn K (.ref aF) (.ref aO)=some false)
  (xP:PySem.W.subIn K (.ref aI) (.ref aO)=some false)
  (y5:PySem.W.subIn K (.ref aK) (.ref aO)=some false)
  (A8:PySem.W.subIn K (.ref aL) (.ref aO)=some false)
  (yP:PySem.W.subIn K (.ref aJ) (.ref aO)=some false)
  (BR:PySem.W.subIn K (.ref aP) (.ref aO)=some false)
  (xR:PySem.W.subIn K (.ref aM) (.ref aO)=some false)
  (HW:PySem.W.subIn K (.ref aN) (.ref aO)=some false)
  (GH:PySem.W.subIn K (.ref aQ) (.ref aO)=some false)
  (JR:PySem.W.subIn K (.ref aU) (.ref aO)=some false)
  (HD:PySem.W.subIn K (.ref aR) (.ref aO)=some false)
  (I9:PySem.W.subIn K (.ref aS) (.ref aO)=some false)
  (JA:PySem.W.subIn K (.ref aW) (.ref aO)=some false)
  (FX:PySem.W.subIn K (.ref aV) (.ref aO)=some false)
  (JT:PySem.W.subIn K (.ref aX) (.ref aO)=some false)
  (jX:PySem.W.isClsIn K aC=true)
  (jQ:PySem.W.typeIn K (.ref aC)=some (.type "type"))
  (B5:PySem.W.subIn K (.ref aE) (.ref aC)=some false)
  (H9:PySem.W.subIn K (.ref aG) (.ref aC)=some false)
  (J0:PySem.W.subIn K (.ref aH) (.ref aC)=some false)
  (F6:PySem.W.subIn K (.ref aF) (.ref aC)=some false)
  (GT:PySem.W.subIn K (.ref aI) (.ref aC)=some false)
  (I0:PySem.W.subIn K (.ref aK) (.ref aC)=some false)
  (KL:PySem.W.subIn K (.ref aL) (.ref aC)=some false)
  (ID:PySem.W.subIn K (.ref aJ) (.ref aC)=some false)
  (LF:PySem.W.subIn K (.ref aP) (.ref aC)=some false)
  (HA:PySem.W.subIn K (.ref aM) (.ref aC)=some false)
  (JJ:PySem.W.subIn K (.ref aO) (.ref aC)=some false)
  (JD:PySem.W.subIn K (.ref aN) (.ref aC)=some false)
  (HZ:PySem.W.subIn K (.ref aQ) (.ref aC)=some false)
  (KO:PySem.W.subIn K (.ref aU) (.ref aC)=some false)
  (IV:PySem.W.subIn K (.ref aR) (.ref aC)=some false)
  (J4:PySem.W.subIn K (.ref aS) (.ref aC)=some false)
  (J_:PySem.W.subIn K (.ref aW) (.ref aC)=some false)
  (G6:PySem.W.subIn K (.ref aV) (.ref aC)=some false)
  (KW:PySem.W.subIn K (.ref aX) (.ref aC)=some false)
  (jE:PySem.W.isClsIn K aQ=true)
  (i_:PySem.W.typeIn K (.ref aQ)=some (.type "type"))
  (AT:PySem.W.subIn K (.ref aE) (.ref aQ)=some false)
  (zJ:PySem.W.subIn K (.ref aC) (.ref aQ)=some false)
  (xH:PySem.W.subIn K (.ref aG) (.ref aQ)=some false)
  (y8:PySem.W.subIn K (.ref aH) (.ref aQ)=some false)
  (wK:PySem.W.subIn K (.ref aF) (.ref aQ)=some false)
  (wY:PySem.W.subIn K (.ref aI) (.ref aQ)=some false)
  (xS:PySem.W.subIn K (.ref aK) (.ref aQ)=some false)
  (zX:PySem.W.subIn K (.ref aL) (.ref aQ)=some false)
  (xL:PySem.W.subIn K (.ref aJ) (.ref aQ)=some false)
  (A4:PySem.W.subIn K (.ref aP) (.ref aQ)=some false)
  (w6:PySem.W.subIn K (.ref aM) (.ref aQ)=some false)
  (yI:PySem.W.subIn K (.ref aO) (.ref aQ)=some false)
  (yC:PySem.W.subIn K (.ref aN) (.ref aQ)=some false)
  (IG:PySem.W.subIn K (.ref aU) (.ref aQ)=some false)
  (FY:PySem.W.subIn K (.ref aR) (.ref aQ)=some false)
  (HK:PySem.W.subIn K (.ref aS) (.ref aQ)=some false)
  (HQ:PySem.W.subIn K (.ref aW) (.ref aQ)=some false)
  (EW:PySem.W.subIn K (.ref aV) (.ref aQ)=some false)
  (IK:PySem.W.subIn K (.ref aX) (.ref aQ)=some false)
  (j4:PySem.W.isClsIn K aE=true)
  (j1:PySem.W.typeIn K (.ref aE)=some (.type "type"))
  (LC:PySem.W.subIn K (.ref aC) (.ref aE)=some false)
  (JO:PySem.W.subIn K (.ref aG) (.ref aE)=some false)
  (K7:PySem.W.subIn K (.ref aH) (.ref aE)=some false)
  (HI:PySem.W.subIn K (.ref aF) (.ref aE)=some false)
  (IF:PySem.W.subIn K (.ref aI) (.ref aE)=some false)
  (JW:PySem.W.subIn K (.ref aK) (.ref aE)=some false)
  (LH:PySem.W.subIn K (.ref aL) (.ref aE)=some false)
  (JP:PySem.W.subIn K (.ref aJ) (.ref aE)=some false)
  (LP:PySem.W.subIn K (.ref aP) (.ref aE)=some false)
  (IR:PySem.W.subIn K (.ref aM) (.ref aE)=some false)
  (KG:PySem.W.subIn K (.ref aO) (.ref aE)=some false)
  (KC:PySem.W.subIn K (.ref aN) (.ref aE)=some false)
  (JF:PySem.W.subIn K (.ref aQ) (.ref aE)=some false)
  (LJ:PySem.W.subIn K (.ref aU) (.ref aE)=some false)
  (JU:PySem.W.subIn K (.ref aR) (.ref aE)=some false)
  (K8:PySem.W.subIn K (.ref aS) (.ref aE)=some false)
  (K_:PySem.W.subIn K (.ref aW) (.ref aE)=some false)
  (IP:PySem.W.subIn K (.ref aV) (.ref aE)=some false)
  (LL:PySem.W.subIn K (.ref aX) (.ref aE)=some false)
  (jL:PySem.W.isClsIn K aN=true)
  (jJ:PySem.W.typeIn K (.ref aN)=some (.type "type"))
  (BI:PySem.W.subIn K (.ref aE) (.ref aN)=some false)
  (AY:PySem.W.subIn K (.ref aC) (.ref aN)=some false)
  (yK:PySem.W.subIn K (.ref aG) (.ref aN)=some false)
  (AM:PySem.W.subIn K (.ref aH) (.ref aN)=some false)
  (xA:PySem.W.subIn K (.ref aF) (.ref aN)=some false)
  (xO:PySem.W.subIn K (.ref aI) (.ref aN)=some false)
  (y4:PySem.W.subIn K (.ref aK) (.ref aN)=some false)
  (A7:PySem.W.subIn K (.ref aL) (.ref aN)=some false)
  (yO:PySem.W.subIn K (.ref aJ) (.ref aN)=some false)
  (BQ:PySem.W.subIn K (.ref aP) (.ref aN)=some false)
  (xQ:PySem.W.subIn K (.ref aM) (.ref aN)=some false)
  (zO:PySem.W.subIn K (.ref aO) (.ref aN)=some false)
  (GG:PySem.W.subIn K (.ref aQ) (.ref aN)=some false)
  (JQ:PySem.W.subIn K (.ref aU) (.ref aN)=some false)
  (HC:PySem.W.subIn K (.ref aR) (.ref aN)=some false)
  (I8:PySem.W.subIn K (.ref aS) (.ref aN)=some false)
  (I_:PySem.W.subIn K (.ref aW) (.ref aN)=some false)
  (FW:PySem.W.subIn K (.ref aV) (.ref aN)=some false)
  (JS:PySem.W.subIn K (.ref aX) (.ref aN)=some false)
  (jW:PySem.W.isClsIn K aW=true)
  (jP:PySem.W.typeIn K (.ref aW)=some (.type "type"))
  (B4:PySem.W.subIn K (.ref aE) (.ref aW)=some false)
  (BM:PySem.W.subIn K (.ref aC) (.ref aW)=some false)
  (zT:PySem.W.subIn K (.ref aG) (.ref aW)=some false)
  (BB:PySem.W.subIn K (.ref aH) (.ref aW)=some false)
  (xY:PySem.W.subIn K (.ref aF) (.ref aW)=some false)
  (yR:PySem.W.subIn K (.ref aI) (.ref aW)=some false)
  (AI:PySem.W.subIn K (.ref aK) (.ref aW)=some false)
  (BU:PySem.W.subIn K (.ref aL) (.ref aW)=some false)
  (z_:PySem.W.subIn K (.ref aJ) (.ref aW)=some false)
  (CB:PySem.W.subIn K (.ref aP) (.ref aW)=some false)
  (yY:PySem.W.subIn K (.ref aM) (.ref aW)=some false)
  (A1:PySem.W.subIn K (.ref aO) (.ref aW)=some false)
  (AQ:PySem.W.subIn K (.ref aN) (.ref aW)=some false)
  (zG:PySem.W.subIn K (.ref aQ) (.ref aW)=some false)
  (BZ:PySem.W.subIn K (.ref aU) (.ref aW)=some false)
  (AF:PySem.W.subIn K (.ref aR) (.ref aW)=some false)
  (BF:PySem.W.subIn K (.ref aS) (.ref aW)=some false)
  (G5:PySem.W.subIn K (.ref aV) (.ref aW)=some false)
  (KU:PySem.W.subIn K (.ref aX) (.ref aW)=some false)
  (jV:PySem.W.isClsIn K aS=true)
  (jO:PySem.W.typeIn K (.ref aS)=some (.type "type"))
  (B3:PySem.W.subIn K (.ref aE) (.ref aS)=some false)
  (BL:PySem.W.subIn K (.ref aC) (.ref aS)=some false)
  (zS:PySem.W.subIn K (.ref aG) (.ref aS)=some false)
  (BA:PySem.W.subIn K (.ref aH) (.ref aS)=some false)
  (xX:PySem.W.subIn K (.ref aF) (.ref aS)=some false)
  (yQ:PySem.W.subIn K (.ref aI) (.ref aS)=some false)
  (AH:PySem.W.subIn K (.ref aK) (.ref aS)=some false)
  (BS:PySem.W.subIn K (.ref aL) (.ref aS)=some false)
  (z9:PySem.W.subIn K (.ref aJ) (.ref aS)=some false)
  (CA:PySem.W.subIn K (.ref aP) (.ref aS)=some false)
  (yX:PySem.W.subIn K (.ref aM) (.ref aS)=some false)
  (A0:PySem.W.subIn K (.ref aO) (.ref aS)=some false)
  (AO:PySem.W.subIn K (.ref aN) (.ref aS)=some false)
  (zF:PySem.W.subIn K (.ref aQ) (.ref aS)=some false)
  (BY:PySem.W.subIn K (.ref aU) (.ref aS)=some false)
  (AE:PySem.W.subIn K (.ref aR) (.ref aS)=some false)
  (J9:PySem.W.subIn K (.ref aW) (.ref aS)=some false)
  (G4:PySem.W.subIn K (.ref aV) (.ref aS)=some false)
  (KS:PySem.W.subIn K (.ref aX) (.ref aS)=some false)
  (jU:PySem.W.isClsIn K aH=true)
  (jN:PySem.W.typeIn K (.ref aH)=some (.type "type"))
  (B2:PySem.W.subIn K (.ref aE) (.ref aH)=some false)
  (BK:PySem.W.subIn K (.ref aC) (.ref aH)=some false)
  (zR:PySem.W.subIn K (.ref aG) (.ref aH)=some false)
  (F5:PySem.W.subIn K (.ref aF) (.ref aH)=some false)
  (GQ:PySem.W.subIn K (.ref aI) (.ref aH)=some false)
  (IZ:PySem.W.subIn K (.ref aK) (.ref aH)=some false)
  (KJ:PySem.W.subIn K (.ref aL) (.ref aH)=some false)
  (IC:PySem.W.subIn K (.ref aJ) (.ref aH)=some false)
  (LE:PySem.W.subIn K (.ref aP) (.ref aH)=some false)
  (G_:PySem.W.subIn K (.ref aM) (.ref aH)=some false)
  (JI:PySem.W.subIn K (.ref aO) (.ref aH)=some false)
  (JC:PySem.W.subIn K (.ref aN) (.ref aH)=some false)
  (HY:PySem.W.subIn K (.ref aQ) (.ref aH)=some false)
  (KN:PySem.W.subIn K (.ref aU) (.ref aH)=some false)
  (IU:PySem.W.subIn K (.ref aR) (.ref aH)=some false)
  (J3:PySem.W.subIn K (.ref aS) (.ref aH)=some false)
  (J8:PySem.W.subIn K (.ref aW) (.ref aH)=some false)
  (G3:PySem.W.subIn K (.ref aV) (.ref aH)=some false)
  (KR:PySem.W.subIn K (.ref aX) (.ref aH)=some false)
  (i6:PySem.W.isClsIn K aF=true)
  (iZ:PySem.W.typeIn K (.ref aF)=some (.type "type"))
  (zB:PySem.W.subIn K (.ref aE) (.ref aF)=some false)
  (yE:PySem.W.subIn K (.ref aC) (.ref aF)=some false)
  (wQ:PySem.W.subIn K (.ref aG) (.ref aF)=some false)
  (x7:PySem.W.subIn K (.ref aH) (.ref aF)=some false)
  (EG:PySem.W.subIn K (.ref aI) (.ref aF)=some false)
  (FD:PySem.W.subIn K (.ref aK) (.ref aF)=some false)
  (GN:PySem.W.subIn K (.ref aL) (.ref aF)=some false)
  (ES:PySem.W.subIn K (.ref aJ) (.ref aF)=some false)
  (H6:PySem.W.subIn K (.ref aP) (.ref aF)=some false)
  (EK:PySem.W.subIn K (.ref aM) (.ref aF)=some false)
  (FP:PySem.W.subIn K (.ref aO) (.ref aF)=some false)
  (FH:PySem.W.subIn K (.ref aN) (.ref aF)=some false)
  (EN:PySem.W.subIn K (.ref aQ) (.ref aF)=some false)
  (GU:PySem.W.subIn K (.ref aU) (.ref aF)=some false)
  (E_:PySem.W.subIn K (.ref aR) (.ref aF)=some false)
  (F7:PySem.W.subIn K (.ref aS) (.ref aF)=some false)
  (F_:PySem.W.subIn K (.ref aW) (.ref aF)=some false)
  (EH:PySem.W.subIn K (.ref aV) (.ref aF)=some false)
  (GX:PySem.W.subIn K (.ref aX) (.ref aF)=some false)
  (LN:PySem.W.subIn K (.ref aE) (.type "ValueError")=some true)
  (K3:PySem.W.subIn K (.ref aC) (.type "ValueError")=some true)
  (I4:PySem.W.subIn K (.ref aG) (.type "ValueError")=some true)
  (K0:PySem.W.subIn K (.ref aH) (.type "ValueError")=some true)
  (HE:PySem.W.subIn K (.ref aF) (.type "ValueError")=some true)
  (HF:PySem.W.subIn K (.ref aI) (.type "ValueError")=some true)
  (I7:PySem.W.subIn K (.ref aK) (.type "ValueError")=some true)
  (K4:PySem.W.subIn K (.ref aL) (.type "ValueError")=some true)
  (I5:PySem.W.subIn K (.ref aJ) (.type "ValueError")=some true)
  (LO:PySem.W.subIn K (.ref aP) (.type "ValueError")=some true)
  (HH:PySem.W.subIn K (.ref aM) (.type "ValueError")=some true)
  (JY:PySem.W.subIn K (.ref aO) (.type "ValueError")=some true)
  (JX:PySem.W.subIn K (.ref aN) (.type "ValueError")=some true)
  (I3:PySem.W.subIn K (.ref aQ) (.type "ValueError")=some true)
  (K5:PySem.W.subIn K (.ref aU) (.type "ValueError")=some true)
  (I6:PySem.W.subIn K (.ref aR) (.type "ValueError")=some true)
  (K1:PySem.W.subIn K (.ref aS) (.type "ValueError")=some true)
  (K2:PySem.W.subIn K (.ref aW) (.type "ValueError")=some true)
  (HG:PySem.W.subIn K (.ref aV) (.type "ValueError")=some true)
  (K6:PySem.W.subIn K (.ref aX) (.type "ValueError")=some true)
  (iP:PySem.W.isClsIn K cG=true)
  (iO:PySem.W.typeIn K (.ref cG)=some (.type "type"))
  (LB:PySem.W.subIn K (.ref aE) (.ref cG)=some true)
  (KF:PySem.W.subIn K (.ref aC) (.ref cG)=some true)
  (H8:PySem.W.subIn K (.ref aG) (.ref cG)=some true)
  (JZ:PySem.W.subIn K (.ref aH) (.ref cG)=some true)
  (F4:PySem.W.subIn K (.ref aF) (.ref cG)=some true)
  (GP:PySem.W.subIn K (.ref aI) (.ref cG)=some true)
  (IY:PySem.W.subIn K (.ref aK) (.ref cG)=some true)
  (KI:PySem.W.subIn K (.ref aL) (.ref cG)=some true)
  (IB:PySem.W.subIn K (.ref aJ) (.ref cG)=some true)
  (LD:PySem.W.subIn K (.ref aP) (.ref cG)=some true)
  (G9:PySem.W.subIn K (.ref aM) (.ref cG)=some true)
  (JH:PySem.W.subIn K (.ref aO) (.ref cG)=some true)
  (JB:PySem.W.subIn K (.ref aN) (.ref cG)=some true)
  (HX:PySem.W.subIn K (.ref aQ) (.ref cG)=some true)
  (KM:PySem.W.subIn K (.ref aU) (.ref cG)=some true)
  (IT:PySem.W.subIn K (.ref aR) (.ref cG)=some true)
  (J1:PySem.W.subIn K (.ref aS) (.ref cG)=some true)
  (J7:PySem.W.subIn K (.ref aW) (.ref cG)=some true)
  (G2:PySem.W.subIn K (.ref aV) (.ref cG)=some true)
  (KQ:PySem.W.subIn K (.ref aX) (.ref cG)=some true)
  (N6:PySem.W.nsIn K mainGlobals "_law_pen" = some (some (.ref lN)))
  (N9:Fun K "_law_pen" "_law_pen" CT lN XF)
  (NV:PySem.W.nsIn K mainGlobals "_law_next" = some (some (.ref lM)))
  (N0:Fun K "_law_next" "_law_next" CP lM W3)
  (NW:PySem.W.nsIn K mainGlobals "_law_draw" = some (some (.ref k9)))
  (N1:Fun K "_law_draw" "_law_draw" CQ k9 W4)
  (L5:PySem.W.findIn K (.ref aE) "__init__" = some (some (.ref l8)))
  (R_:PySem.W.isFn K (.ref l8)=true)
  (L6:Fun K "__init__" "ParseError.__init__" LY l8 WR)
  (LW:PySem.W.findIn K (.ref aC) "__init__" = some (some (.ref l7)))
  (R5:PySem.W.isFn K (.ref l7)=true)
  (LX:Fun K "__init__" "NotAdmitted.__init__" LQ l7 WO)
  (NL:PySem.W.nsIn K mainGlobals "_law_kinds" = some (some (.ref lL)))
  (NO:Fun K "_law_kinds" "_law_kinds" CO lL WW)
  (DM:PySem.W.nsIn K mainGlobals "law" = some (some (.ref mW)))
  (P8:K.lookup mW=some ⟨zA6,zA5,.func (PySem.W.fnOf "law" "law" (defArgs mU) (defBody mU) (defScope mU) .none VB VD U9 VH O_ VE),zAV⟩)
  (QC:PySem.W.codeIn K O_ "law" = true)
  (u4:PySem.W.keepIn K (.ref mW)=true)
  (sP:PySem.W.nsIn K mainGlobals "ValueError" = some none)
  (dO:PySem.W.nsIn K mainGlobals "isinstance" = some none)
  (n8:PySem.W.nsIn K mainGlobals "len" = some none)
  (s9:PySem.W.nsIn K mainGlobals "list" = some none)
  (pL:PySem.W.nsIn K mainGlobals "range" = some none)
  (tJ:PySem.W.nsIn K mainGlobals "str" = some none)
  (aB:PySem.W.specialIn K (.builtin "object.__class__") "__get__" = some (some (.builtin "getset_descriptor.__get__")))
  (aA:PySem.W.takesIn K (.builtin "object.__class__")=some true)
  (plain:∀(a:Ad) (_:a.aE≠a.aC) (_:a.aE≠a.aG) (_:a.aE≠a.aH) (_:a.aE≠a.aF) (_:a.aE≠a.aI) (_:a.aE≠a.aK) (_:a.aE≠a.aL) (_:a.aE≠a.aJ) (_:a.aE≠a.aP) (_:a.aE≠a.aM) (_:a.aE≠a.aO) (_:a.aE≠a.aN) (_:a.aE≠a.aQ) (_:a.aE≠a.aU) (_:a.aE≠a.aR) (_:a.aE≠a.aS) (_:a.aE≠a.aW) (_:a.aE≠a.aV) (_:a.aE≠a.aX) (_:a.aC≠a.aG) (_:a.aC≠a.aH) (_:a.aC≠a.aF) (_:a.aC≠a.aI) (_:a.aC≠a.aK) (_:a.aC≠a.aL) (_:a.aC≠a.aJ) (_:a.aC≠a.aP) (_:a.aC≠a.aM) (_:a.aC≠a.aO) (_:a.aC≠a.aN) (_:a.aC≠a.aQ) (_:a.aC≠a.aU) (_:a.aC≠a.aR) (_:a.aC≠a.aS) (_:a.aC≠a.aW) (_:a.aC≠a.aV) (_:a.aC≠a.aX) (_:a.aG≠a.aH) (_:a.aG≠a.aF) (_:a.aG≠a.aI) (_:a.aG≠a.aK) (_:a.aG≠a.aL) (_:a.aG≠a.aJ) (_:a.aG≠a.aP) (_:a.aG≠a.aM) (_:a.aG≠a.aO) (_:a.aG≠a.aN) (_:a.aG≠a.aQ) (_:a.aG≠a.aU) (_:a.aG≠a.aR) (_:a.aG≠a.aS) (_:a.aG≠a.aW) (_:a.aG≠a.aV) (_:a.aG≠a.aX) (_:a.aH≠a.aF) (_:a.aH≠a.aI) (_:a.aH≠a.aK) (_:a.aH≠a.aL) (_:a.aH≠a.aJ) (_:a.aH≠a.aP) (_:a.aH≠a.aM) (_:a.aH≠a.aO) (_:a.aH≠a.aN) (_:a.aH≠a.aQ) (_:a.aH≠a.aU) (_:a.aH≠a.aR) (_:a.aH≠a.aS) (_:a.aH≠a.aW) (_:a.aH≠a.aV) (_:a.aH≠a.aX) (_:a.aF≠a.aI) (_:a.aF≠a.aK) (_:a.aF≠a.aL) (_:a.aF≠a.aJ) (_:a.aF≠a.aP) (_:a.aF≠a.aM) (_:a.aF≠a.aO) (_:a.aF≠a.aN) (_:a.aF≠a.aQ) (_:a.aF≠a.aU) (_:a.aF≠a.aR) (_:a.aF≠a.aS) (_:a.aF≠a.aW) (_:a.aF≠a.aV) (_:a.aF≠a.aX) (_:a.aI≠a.aK) (_:a.aI≠a.aL) (_:a.aI≠a.aJ) (_:a.aI≠a.aP) (_:a.aI≠a.aM) (_:a.aI≠a.aO) (_:a.aI≠a.aN) (_:a.aI≠a.aQ) (_:a.aI≠a.aU) (_:a.aI≠a.aR) (_:a.aI≠a.aS) (_:a.aI≠a.aW) (_:a.aI≠a.aV) (_:a.aI≠a.aX) (_:a.aK≠a.aL) (_:a.aK≠a.aJ) (_:a.aK≠a.aP) (_:a.aK≠a.aM) (_:a.aK≠a.aO) (_:a.aK≠a.aN) (_:a.aK≠a.aQ) (_:a.aK≠a.aU) (_:a.aK≠a.aR) (_:a.aK≠a.aS) (_:a.aK≠a.aW) (_:a.aK≠a.aV) (_:a.aK≠a.aX) (_:a.aL≠a.aJ) (_:a.aL≠a.aP) (_:a.aL≠a.aM) (_:a.aL≠a.aO) (_:a.aL≠a.aN) (_:a.aL≠a.aQ) (_:a.aL≠a.aU) (_:a.aL≠a.aR) (_:a.aL≠a.aS) (_:a.aL≠a.aW) (_:a.aL≠a.aV) (_:a.aL≠a.aX) (_:a.aJ≠a.aP) (_:a.aJ≠a.aM) (_:a.aJ≠a.aO) (_:a.aJ≠a.aN) (_:a.aJ≠a.aQ) (_:a.aJ≠a.aU) (_:a.aJ≠a.aR) (_:a.aJ≠a.aS) (_:a.aJ≠a.aW) (_:a.aJ≠a.aV) (_:a.aJ≠a.aX) (_:a.aP≠a.aM) (_:a.aP≠a.aO) (_:a.aP≠a.aN) (_:a.aP≠a.aQ) (_:a.aP≠a.aU) (_:a.aP≠a.aR) (_:a.aP≠a.aS) (_:a.aP≠a.aW) (_:a.aP≠a.aV) (_:a.aP≠a.aX) (_:a.aM≠a.aO) (_:a.aM≠a.aN) (_:a.aM≠a.aQ) (_:a.aM≠a.aU) (_:a.aM≠a.aR) (_:a.aM≠a.aS) (_:a.aM≠a.aW) (_:a.aM≠a.aV) (_:a.aM≠a.aX) (_:a.aO≠a.aN) (_:a.aO≠a.aQ) (_:a.aO≠a.aU) (_:a.aO≠a.aR) (_:a.aO≠a.aS) (_:a.aO≠a.aW) (_:a.aO≠a.aV) (_:a.aO≠a.aX) (_:a.aN≠a.aQ) (_:a.aN≠a.aU) (_:a.aN≠a.aR) (_:a.aN≠a.aS) (_:a.aN≠a.aW) (_:a.aN≠a.aV) (_:a.aN≠a.aX) (_:a.aQ≠a.aU) (_:a.aQ≠a.aR) (_:a.aQ≠a.aS) (_:a.aQ≠a.aW) (_:a.aQ≠a.aV) (_:a.aQ≠a.aX) (_:a.aU≠a.aR) (_:a.aU≠a.aS) (_:a.aU≠a.aW) (_:a.aU≠a.aV) (_:a.aU≠a.aX) (_:a.aR≠a.aS) (_:a.aR≠a.aW) (_:a.aR≠a.aV) (_:a.aR≠a.aX) (_:a.aS≠a.aW) (_:a.aS≠a.aV) (_:a.aS≠a.aX) (_:a.aW≠a.aV) (_:a.aW≠a.aX) (_:a.aV≠a.aX) (ns:List Int),ns.length≤63→∃M,uZ a [.sl ns] [] = .ok (.bl true) M):
  ∃fd:FuncData,(∀(s:Shared) (v:Value),BindsTo s fd ⟨[v],[]⟩ [("_law_script",v)])∧∀base:Heap,K.In base→base.Ns mainGlobals mg→nE l.prog w K mg base 3 fa fd ["_law_script"] (uV K):=by
 have e:=hfa.symm.trans (PySem.W.mg_of XK G DM);cases e
 let a:Ad:={ lN:=lN,lM:=lM,k9:=k9,l8:=l8,l7:=l7,lL:=lL,mW:=fa,cG:=cG,aE:=aE,aC:=aC,aG:=aG,aH:=aH,aF:=aF,aI:=aI,aK:=aK,aL:=aL,aJ:=aJ,aP:=aP,aM:=aM,aO:=aO,aN:=aN,aQ:=aQ,aU:=aU,aR:=aR,aS:=aS,aW:=aW,aV:=aV,aX:=aX }
 have T:Txt K mg a:={ lN:=PySem.W.mg_of XK G N6,lM:=PySem.W.mg_of XK G NV,k9:=PySem.W.mg_of XK G NW,lL:=PySem.W.mg_of XK G NL,mW:=PySem.W.mg_of XK G DM,CL:=PySem.W.mg_of XK G MK,CN:=PySem.W.mg_of XK G M6,CM:=PySem.W.mg_of XK G MO,MG:=PySem.W.mg_of XK G L0,NA:=PySem.W.mg_of XK G ML,L7:=PySem.W.mg_of XK G LR,L8:=PySem.W.mg_of XK G LS,MJ:=PySem.W.mg_of XK G L4,ND:=PySem.W.mg_of XK G MP,MH:=PySem.W.mg_of XK G L1,NH:=PySem.W.mg_of XK G M7,L_:=PySem.W.mg_of XK G LV,M5:=PySem.W.mg_of XK G MB,MZ:=PySem.W.mg_of XK G MA,MF:=PySem.W.mg_of XK G LZ,NE:=PySem.W.mg_of XK G MQ,MI:=PySem.W.mg_of XK G L3,NB:=PySem.W.mg_of XK G MM,NC:=PySem.W.mg_of XK G MN,L9:=PySem.W.mg_of XK G LU,NG:=PySem.W.mg_of XK G MR,q9:=q9,rJ:=rJ,dB:=dB,rD:=rD,q8:=q8,rH:=rH,dA:=dA,rC:=rC,qM:=qM,qX:=qX,c7:=c7,qR:=qR,qL:=qL,qW:=qW,c6:=c6,qQ:=qQ,rW:=rW,sK:=sK,dJ:=dJ,sC:=sC,rV:=rV,sJ:=sJ,dI:=dI,sA:=sA,qK:=qK,qU:=qU,cZ:=cZ,qP:=qP,q7:=q7,rG:=rG,c_:=c_,rB:=rB,rT:=rT,sH:=sH,dH:=dH,r_:=r_,qZ:=qZ,rF:=rF,c9:=c9,rA:=rA,sL:=sL,sO:=sO,dK:=dK,sM:=sM,rL:=rL,rP:=rP,dD:=dD,rN:=rN,qY:=qY,rE:=rE,c8:=c8,q_:=q_,rK:=rK,rO:=rO,dC:=dC,rM:=rM,rS:=rS,sF:=sF,dG:=dG,rZ:=rZ,rR:=rR,sE:=sE,dF:=dF,rY:=rY,rQ:=rQ,sD:=sD,dE:=dE,rX:=rX,qJ:=qJ,qS:=qS,cY:=cY,qO:=qO,SK:=fun q h=>(by simp only[List.mem_cons,List.not_mem_nil,or_false]at h;rcases h with rfl|rfl|rfl|rfl|rfl|rfl|rfl|rfl|rfl|rfl|rfl|rfl|rfl|rfl|rfl|rfl|rfl|rfl|rfl|rfl;exact⟨⟨d5,d4,dT,d6,iA,aB,aA,hX⟩,(one_no jI jD bS AX)⟩;exact⟨⟨d0,dZ,dS,d3,hQ,aB,aA,gE⟩,(one_no jI jD bV zN)⟩;exact⟨⟨fG,fB,c9,fM,fR,aB,aA,e7⟩,(one_no jI jD bX xK)⟩;exact⟨⟨gQ,gI,dE,gX,hI,aB,aA,gA⟩,(one_no jI jD bZ zA)⟩;exact⟨⟨eO,eJ,cY,eS,eX,aB,aA,eE⟩,(one_no jI jD cA wN)⟩;exact⟨⟨eP,eK,cZ,eT,eY,aB,aA,eF⟩,(one_no jI jD cD w5)⟩;exact⟨⟨fK,fE,dB,fP,fU,aB,aA,e_⟩,j7⟩;exact⟨⟨gT,gL,dH,g_,hU,aB,aA,gF⟩,(one_no jI jD cK IA)⟩;exact⟨⟨fH,fC,c_,fN,fS,aB,aA,e8⟩,(one_no jI jD cL FV)⟩;exact⟨⟨h9,h8,dK,h_,iB,aB,aA,h7⟩,(one_no jI jD cN JN)⟩;exact⟨⟨eR,eN,c7,eW,e5,aB,aA,eI⟩,(one_no jI jD cR E9)⟩;exact⟨⟨f5,fY,dD,f7,f_,aB,aA,fW⟩,(one_no jI jD cW GM)⟩;exact⟨⟨fZ,fX,dC,f6,f9,aB,aA,fV⟩,(one_no jI jD cX GF)⟩;exact⟨⟨fF,fA,c8,fL,fQ,aB,aA,e6⟩,(one_no jI jD dN FO)⟩;exact⟨⟨gU,gM,dI,hE,hV,aB,aA,gG⟩,(one_no jI jD dR IJ)⟩;exact⟨⟨fJ,fD,dA,fO,fT,aB,aA,e9⟩,(one_no jI jD dY F2)⟩;exact⟨⟨gR,gJ,dF,gY,hJ,aB,aA,gB⟩,(one_no jI jD eD HP)⟩;exact⟨⟨gS,gK,dG,gZ,hO,aB,aA,gD⟩,(one_no jI jD iH HV)⟩;exact⟨⟨eQ,eM,c6,eU,eZ,aB,aA,eG⟩,(one_no jI jD iN E6)⟩;exact⟨⟨gW,gO,dJ,hG,hW,aB,aA,gH⟩,(one_no jI jD iY IO)⟩),SJ:=fun q h=>(by simp only[List.mem_cons,List.not_mem_nil,or_false]at h;rcases h with rfl|rfl|rfl|rfl|rfl|rfl|rfl|rfl|rfl|rfl|rfl|rfl|rfl|rfl|rfl|rfl|rfl|rfl|rfl|rfl;exact⟨⟨d5,d4,dT,d6,iA,aB,aA,hX⟩,(one_no jH jC bS AW)⟩;exact⟨⟨d0,dZ,dS,d3,hQ,aB,aA,gE⟩,(one_no jH jC bV zM)⟩;exact⟨⟨fG,fB,c9,fM,fR,aB,aA,e7⟩,(one_no jH jC bX xJ)⟩;exact⟨⟨gQ,gI,dE,gX,hI,aB,aA,gA⟩,(one_no jH jC bZ y_)⟩;exact⟨⟨eO,eJ,cY,eS,eX,aB,aA,eE⟩,(one_no jH jC cA wM)⟩;exact⟨⟨eP,eK,cZ,eT,eY,aB,aA,eF⟩,(one_no jH jC cD w0)⟩;exact⟨⟨fK,fE,dB,fP,fU,aB,aA,e_⟩,(one_no jH jC cF xW)⟩;exact⟨⟨gT,gL,dH,g_,hU,aB,aA,gF⟩,(one_no jH jC cK zZ)⟩;exact⟨⟨fH,fC,c_,fN,fS,aB,aA,e8⟩,(one_no jH jC cL xM)⟩;exact⟨⟨h9,h8,dK,h_,iB,aB,aA,h7⟩,(one_no jH jC cN A5)⟩;exact⟨⟨eR,eN,c7,eW,e5,aB,aA,eI⟩,(one_no jH jC cR w7)⟩;exact⟨⟨f5,fY,dD,f7,f_,aB,aA,fW⟩,(one_no jH jC cW yJ)⟩;exact⟨⟨fZ,fX,dC,f6,f9,aB,aA,fV⟩,(one_no jH jC cX yD)⟩;exact⟨⟨fF,fA,c8,fL,fQ,aB,aA,e6⟩,(one_no jH jC dN xF)⟩;exact⟨⟨gU,gM,dI,hE,hV,aB,aA,gG⟩,(one_no jH jC dR AD)⟩;exact⟨⟨fJ,fD,dA,fO,fT,aB,aA,e9⟩,j7⟩;exact⟨⟨gR,gJ,dF,gY,hJ,aB,aA,gB⟩,(one_no jH jC eD HN)⟩;exact⟨⟨gS,gK,dG,gZ,hO,aB,aA,gD⟩,(one_no jH jC iH HU)⟩;exact⟨⟨eQ,eM,c6,eU,eZ,aB,aA,eG⟩,(one_no jH jC iN E5)⟩;exact⟨⟨gW,gO,dJ,hG,hW,aB,aA,gH⟩,(one_no jH jC iY IN)⟩),R9:=fun q h=>(by simp only[List.mem_cons,List.not_mem_nil,or_false]at h;rcases h with rfl|rfl|rfl|rfl|rfl|rfl|rfl|rfl|rfl|rfl|rfl|rfl|rfl|rfl|rfl|rfl|rfl|rfl|rfl|rfl;exact⟨⟨d5,d4,dT,d6,iA,aB,aA,hX⟩,(one_no i9 i5 bS zE)⟩;exact⟨⟨d0,dZ,dS,d3,hQ,aB,aA,gE⟩,(one_no i9 i5 bV yH)⟩;exact⟨⟨fG,fB,c9,fM,fR,aB,aA,e7⟩,(one_no i9 i5 bX wV)⟩;exact⟨⟨gQ,gI,dE,gX,hI,aB,aA,gA⟩,(one_no i9 i5 bZ x_)⟩;exact⟨⟨eO,eJ,cY,eS,eX,aB,aA,eE⟩,(one_no i9 i5 cA wG)⟩;exact⟨⟨eP,eK,cZ,eT,eY,aB,aA,eF⟩,(one_no i9 i5 cD wI)⟩;exact⟨⟨fK,fE,dB,fP,fU,aB,aA,e_⟩,(one_no i9 i5 cF w_)⟩;exact⟨⟨gT,gL,dH,g_,hU,aB,aA,gF⟩,(one_no i9 i5 cK yN)⟩;exact⟨⟨fH,fC,c_,fN,fS,aB,aA,e8⟩,(one_no i9 i5 cL wX)⟩;exact⟨⟨h9,h8,dK,h_,iB,aB,aA,h7⟩,(one_no i9 i5 cN zQ)⟩;exact⟨⟨eR,eN,c7,eW,e5,aB,aA,eI⟩,j7⟩;exact⟨⟨f5,fY,dD,f7,f_,aB,aA,fW⟩,(one_no i9 i5 cW FR)⟩;exact⟨⟨fZ,fX,dC,f6,f9,aB,aA,fV⟩,(one_no i9 i5 cX FK)⟩;exact⟨⟨fF,fA,c8,fL,fQ,aB,aA,e6⟩,(one_no i9 i5 dN ER)⟩;exact⟨⟨gU,gM,dI,hE,hV,aB,aA,gG⟩,(one_no i9 i5 dR GW)⟩;exact⟨⟨fJ,fD,dA,fO,fT,aB,aA,e9⟩,(one_no i9 i5 dY FC)⟩;exact⟨⟨gR,gJ,dF,gY,hJ,aB,aA,gB⟩,(one_no i9 i5 eD F9)⟩;exact⟨⟨gS,gK,dG,gZ,hO,aB,aA,gD⟩,(one_no i9 i5 iH GB)⟩;exact⟨⟨eQ,eM,c6,eU,eZ,aB,aA,eG⟩,(one_no i9 i5 iN EJ)⟩;exact⟨⟨gW,gO,dJ,hG,hW,aB,aA,gH⟩,(one_no i9 i5 iY G1)⟩),R8:=fun q h=>(by simp only[List.mem_cons,List.not_mem_nil,or_false]at h;rcases h with rfl|rfl|rfl|rfl|rfl|rfl|rfl|rfl|rfl|rfl|rfl|rfl|rfl|rfl|rfl|rfl|rfl|rfl|rfl|rfl;exact⟨⟨d5,d4,dT,d6,iA,aB,aA,hX⟩,(one_no i8 i4 bS zD)⟩;exact⟨⟨d0,dZ,dS,d3,hQ,aB,aA,gE⟩,(one_no i8 i4 bV yG)⟩;exact⟨⟨fG,fB,c9,fM,fR,aB,aA,e7⟩,(one_no i8 i4 bX wU)⟩;exact⟨⟨gQ,gI,dE,gX,hI,aB,aA,gA⟩,(one_no i8 i4 bZ x9)⟩;exact⟨⟨eO,eJ,cY,eS,eX,aB,aA,eE⟩,(one_no i8 i4 cA wF)⟩;exact⟨⟨eP,eK,cZ,eT,eY,aB,aA,eF⟩,(one_no i8 i4 cD wH)⟩;exact⟨⟨fK,fE,dB,fP,fU,aB,aA,e_⟩,(one_no i8 i4 cF w9)⟩;exact⟨⟨gT,gL,dH,g_,hU,aB,aA,gF⟩,(one_no i8 i4 cK yM)⟩;exact⟨⟨fH,fC,c_,fN,fS,aB,aA,e8⟩,(one_no i8 i4 cL wW)⟩;exact⟨⟨h9,h8,dK,h_,iB,aB,aA,h7⟩,(one_no i8 i4 cN zP)⟩;exact⟨⟨eR,eN,c7,eW,e5,aB,aA,eI⟩,(one_no i8 i4 cR wJ)⟩;exact⟨⟨f5,fY,dD,f7,f_,aB,aA,fW⟩,(one_no i8 i4 cW xG)⟩;exact⟨⟨fZ,fX,dC,f6,f9,aB,aA,fV⟩,(one_no i8 i4 cX xE)⟩;exact⟨⟨fF,fA,c8,fL,fQ,aB,aA,e6⟩,(one_no i8 i4 dN wO)⟩;exact⟨⟨gU,gM,dI,hE,hV,aB,aA,gG⟩,(one_no i8 i4 dR yV)⟩;exact⟨⟨fJ,fD,dA,fO,fT,aB,aA,e9⟩,(one_no i8 i4 dY w8)⟩;exact⟨⟨gR,gJ,dF,gY,hJ,aB,aA,gB⟩,(one_no i8 i4 eD yA)⟩;exact⟨⟨gS,gK,dG,gZ,hO,aB,aA,gD⟩,(one_no i8 i4 iH yB)⟩;exact⟨⟨eQ,eM,c6,eU,eZ,aB,aA,eG⟩,j7⟩;exact⟨⟨gW,gO,dJ,hG,hW,aB,aA,gH⟩,(one_no i8 i4 iY G0)⟩),SZ:=fun q h=>(by simp only[List.mem_cons,List.not_mem_nil,or_false]at h;rcases h with rfl|rfl|rfl|rfl|rfl|rfl|rfl|rfl|rfl|rfl|rfl|rfl|rfl|rfl|rfl|rfl|rfl|rfl|rfl|rfl;exact⟨⟨d5,d4,dT,d6,iA,aB,aA,hX⟩,(one_no j0 jT bS B9)⟩;exact⟨⟨d0,dZ,dS,d3,hQ,aB,aA,gE⟩,(one_no j0 jT bV BP)⟩;exact⟨⟨fG,fB,c9,fM,fR,aB,aA,e7⟩,(one_no j0 jT bX zW)⟩;exact⟨⟨gQ,gI,dE,gX,hI,aB,aA,gA⟩,(one_no j0 jT bZ BE)⟩;exact⟨⟨eO,eJ,cY,eS,eX,aB,aA,eE⟩,(one_no j0 jT cA x5)⟩;exact⟨⟨eP,eK,cZ,eT,eY,aB,aA,eF⟩,(one_no j0 jT cD yU)⟩;exact⟨⟨fK,fE,dB,fP,fU,aB,aA,e_⟩,(one_no j0 jT cF AL)⟩;exact⟨⟨gT,gL,dH,g_,hU,aB,aA,gF⟩,(one_no j0 jT cK BX)⟩;exact⟨⟨fH,fC,c_,fN,fS,aB,aA,e8⟩,(one_no j0 jT cL AB)⟩;exact⟨⟨h9,h8,dK,h_,iB,aB,aA,h7⟩,(one_no j0 jT cN CD)⟩;exact⟨⟨eR,eN,c7,eW,e5,aB,aA,eI⟩,(one_no j0 jT cR y0)⟩;exact⟨⟨f5,fY,dD,f7,f_,aB,aA,fW⟩,(one_no j0 jT cW A3)⟩;exact⟨⟨fZ,fX,dC,f6,f9,aB,aA,fV⟩,(one_no j0 jT cX AS)⟩;exact⟨⟨fF,fA,c8,fL,fQ,aB,aA,e6⟩,(one_no j0 jT dN zI)⟩;exact⟨⟨gU,gM,dI,hE,hV,aB,aA,gG⟩,(one_no j0 jT dR B0)⟩;exact⟨⟨fJ,fD,dA,fO,fT,aB,aA,e9⟩,(one_no j0 jT dY AG)⟩;exact⟨⟨gR,gJ,dF,gY,hJ,aB,aA,gB⟩,(one_no j0 jT eD BG)⟩;exact⟨⟨gS,gK,dG,gZ,hO,aB,aA,gD⟩,(one_no j0 jT iH BH)⟩;exact⟨⟨eQ,eM,c6,eU,eZ,aB,aA,eG⟩,(one_no j0 jT iN yW)⟩;exact⟨⟨gW,gO,dJ,hG,hW,aB,aA,gH⟩,j7⟩),SY:=fun q h=>(by simp only[List.mem_cons,List.not_mem_nil,or_false]at h;rcases h with rfl|rfl|rfl|rfl|rfl|rfl|rfl|rfl|rfl|rfl|rfl|rfl|rfl|rfl|rfl|rfl|rfl|rfl|rfl|rfl;exact⟨⟨d5,d4,dT,d6,iA,aB,aA,hX⟩,(one_no jZ jS bS B7)⟩;exact⟨⟨d0,dZ,dS,d3,hQ,aB,aA,gE⟩,(one_no jZ jS bV BO)⟩;exact⟨⟨fG,fB,c9,fM,fR,aB,aA,e7⟩,(one_no jZ jS bX zV)⟩;exact⟨⟨gQ,gI,dE,gX,hI,aB,aA,gA⟩,(one_no jZ jS bZ BD)⟩;exact⟨⟨eO,eJ,cY,eS,eX,aB,aA,eE⟩,(one_no jZ jS cA x0)⟩;exact⟨⟨eP,eK,cZ,eT,eY,aB,aA,eF⟩,(one_no jZ jS cD yT)⟩;exact⟨⟨fK,fE,dB,fP,fU,aB,aA,e_⟩,(one_no jZ jS cF AK)⟩;exact⟨⟨gT,gL,dH,g_,hU,aB,aA,gF⟩,(one_no jZ jS cK BW)⟩;exact⟨⟨fH,fC,c_,fN,fS,aB,aA,e8⟩,(one_no jZ jS cL AA)⟩;exact⟨⟨h9,h8,dK,h_,iB,aB,aA,h7⟩,(one_no jZ jS cN CC)⟩;exact⟨⟨eR,eN,c7,eW,e5,aB,aA,eI⟩,(one_no jZ jS cR yZ)⟩;exact⟨⟨f5,fY,dD,f7,f_,aB,aA,fW⟩,(one_no jZ jS cW A2)⟩;exact⟨⟨fZ,fX,dC,f6,f9,aB,aA,fV⟩,(one_no jZ jS cX AR)⟩;exact⟨⟨fF,fA,c8,fL,fQ,aB,aA,e6⟩,(one_no jZ jS dN zH)⟩;exact⟨⟨gU,gM,dI,hE,hV,aB,aA,gG⟩,j7⟩;exact⟨⟨fJ,fD,dA,fO,fT,aB,aA,e9⟩,(one_no jZ jS dY IX)⟩;exact⟨⟨gR,gJ,dF,gY,hJ,aB,aA,gB⟩,(one_no jZ jS eD J6)⟩;exact⟨⟨gS,gK,dG,gZ,hO,aB,aA,gD⟩,(one_no jZ jS iH KB)⟩;exact⟨⟨eQ,eM,c6,eU,eZ,aB,aA,eG⟩,(one_no jZ jS iN G8)⟩;exact⟨⟨gW,gO,dJ,hG,hW,aB,aA,gH⟩,(one_no jZ jS iY KZ)⟩),R7:=fun q h=>(by simp only[List.mem_cons,List.not_mem_nil,or_false]at h;rcases h with rfl|rfl|rfl|rfl|rfl|rfl|rfl|rfl|rfl|rfl|rfl|rfl|rfl|rfl|rfl|rfl|rfl|rfl|rfl|rfl;exact⟨⟨d5,d4,dT,d6,iA,aB,aA,hX⟩,(one_no i7 i3 bS zC)⟩;exact⟨⟨d0,dZ,dS,d3,hQ,aB,aA,gE⟩,(one_no i7 i3 bV yF)⟩;exact⟨⟨fG,fB,c9,fM,fR,aB,aA,e7⟩,(one_no i7 i3 bX wR)⟩;exact⟨⟨gQ,gI,dE,gX,hI,aB,aA,gA⟩,(one_no i7 i3 bZ x8)⟩;exact⟨⟨eO,eJ,cY,eS,eX,aB,aA,eE⟩,(one_no i7 i3 cA wD)⟩;exact⟨⟨eP,eK,cZ,eT,eY,aB,aA,eF⟩,j7⟩;exact⟨⟨fK,fE,dB,fP,fU,aB,aA,e_⟩,(one_no i7 i3 cF FF)⟩;exact⟨⟨gT,gL,dH,g_,hU,aB,aA,gF⟩,(one_no i7 i3 cK GO)⟩;exact⟨⟨fH,fC,c_,fN,fS,aB,aA,e8⟩,(one_no i7 i3 cL ET)⟩;exact⟨⟨h9,h8,dK,h_,iB,aB,aA,h7⟩,(one_no i7 i3 cN H7)⟩;exact⟨⟨eR,eN,c7,eW,e5,aB,aA,eI⟩,(one_no i7 i3 cR EL)⟩;exact⟨⟨f5,fY,dD,f7,f_,aB,aA,fW⟩,(one_no i7 i3 cW FQ)⟩;exact⟨⟨fZ,fX,dC,f6,f9,aB,aA,fV⟩,(one_no i7 i3 cX FJ)⟩;exact⟨⟨fF,fA,c8,fL,fQ,aB,aA,e6⟩,(one_no i7 i3 dN EQ)⟩;exact⟨⟨gU,gM,dI,hE,hV,aB,aA,gG⟩,(one_no i7 i3 dR GV)⟩;exact⟨⟨fJ,fD,dA,fO,fT,aB,aA,e9⟩,(one_no i7 i3 dY FB)⟩;exact⟨⟨gR,gJ,dF,gY,hJ,aB,aA,gB⟩,(one_no i7 i3 eD F8)⟩;exact⟨⟨gS,gK,dG,gZ,hO,aB,aA,gD⟩,(one_no i7 i3 iH GA)⟩;exact⟨⟨eQ,eM,c6,eU,eZ,aB,aA,eG⟩,(one_no i7 i3 iN EI)⟩;exact⟨⟨gW,gO,dJ,hG,hW,aB,aA,gH⟩,(one_no i7 i3 iY GZ)⟩),SH:=fun q h=>(by simp only[List.mem_cons,List.not_mem_nil,or_false]at h;rcases h with rfl|rfl|rfl|rfl|rfl|rfl|rfl|rfl|rfl|rfl|rfl|rfl|rfl|rfl|rfl|rfl|rfl|rfl|rfl|rfl;exact⟨⟨d5,d4,dT,d6,iA,aB,aA,hX⟩,(one_no jG jB bS AV)⟩;exact⟨⟨d0,dZ,dS,d3,hQ,aB,aA,gE⟩,(one_no jG jB bV zL)⟩;exact⟨⟨fG,fB,c9,fM,fR,aB,aA,e7⟩,(one_no jG jB bX xI)⟩;exact⟨⟨gQ,gI,dE,gX,hI,aB,aA,gA⟩,(one_no jG jB bZ y9)⟩;exact⟨⟨eO,eJ,cY,eS,eX,aB,aA,eE⟩,(one_no jG jB cA wL)⟩;exact⟨⟨eP,eK,cZ,eT,eY,aB,aA,eF⟩,(one_no jG jB cD wZ)⟩;exact⟨⟨fK,fE,dB,fP,fU,aB,aA,e_⟩,(one_no jG jB cF xU)⟩;exact⟨⟨gT,gL,dH,g_,hU,aB,aA,gF⟩,(one_no jG jB cK zY)⟩;exact⟨⟨fH,fC,c_,fN,fS,aB,aA,e8⟩,j7⟩;exact⟨⟨h9,h8,dK,h_,iB,aB,aA,h7⟩,(one_no jG jB cN JM)⟩;exact⟨⟨eR,eN,c7,eW,e5,aB,aA,eI⟩,(one_no jG jB cR E8)⟩;exact⟨⟨f5,fY,dD,f7,f_,aB,aA,fW⟩,(one_no jG jB cW GL)⟩;exact⟨⟨fZ,fX,dC,f6,f9,aB,aA,fV⟩,(one_no jG jB cX GE)⟩;exact⟨⟨fF,fA,c8,fL,fQ,aB,aA,e6⟩,(one_no jG jB dN FN)⟩;exact⟨⟨gU,gM,dI,hE,hV,aB,aA,gG⟩,(one_no jG jB dR II)⟩;exact⟨⟨fJ,fD,dA,fO,fT,aB,aA,e9⟩,(one_no jG jB dY F0)⟩;exact⟨⟨gR,gJ,dF,gY,hJ,aB,aA,gB⟩,(one_no jG jB eD HM)⟩;exact⟨⟨gS,gK,dG,gZ,hO,aB,aA,gD⟩,(one_no jG jB iH HS)⟩;exact⟨⟨eQ,eM,c6,eU,eZ,aB,aA,eG⟩,(one_no jG jB iN EZ)⟩;exact⟨⟨gW,gO,dJ,hG,hW,aB,aA,gH⟩,(one_no jG jB iY IM)⟩),SX:=fun q h=>(by simp only[List.mem_cons,List.not_mem_nil,or_false]at h;rcases h with rfl|rfl|rfl|rfl|rfl|rfl|rfl|rfl|rfl|rfl|rfl|rfl|rfl|rfl|rfl|rfl|rfl|rfl|rfl|rfl;exact⟨⟨d5,d4,dT,d6,iA,aB,aA,hX⟩,(one_no jY jR bS B6)⟩;exact⟨⟨d0,dZ,dS,d3,hQ,aB,aA,gE⟩,(one_no jY jR bV BN)⟩;exact⟨⟨fG,fB,c9,fM,fR,aB,aA,e7⟩,(one_no jY jR bX zU)⟩;exact⟨⟨gQ,gI,dE,gX,hI,aB,aA,gA⟩,(one_no jY jR bZ BC)⟩;exact⟨⟨eO,eJ,cY,eS,eX,aB,aA,eE⟩,(one_no jY jR cA xZ)⟩;exact⟨⟨eP,eK,cZ,eT,eY,aB,aA,eF⟩,(one_no jY jR cD yS)⟩;exact⟨⟨fK,fE,dB,fP,fU,aB,aA,e_⟩,(one_no jY jR cF AJ)⟩;exact⟨⟨gT,gL,dH,g_,hU,aB,aA,gF⟩,j7⟩;exact⟨⟨fH,fC,c_,fN,fS,aB,aA,e8⟩,(one_no jY jR cL IE)⟩;exact⟨⟨h9,h8,dK,h_,iB,aB,aA,h7⟩,(one_no jY jR cN LG)⟩;exact⟨⟨eR,eN,c7,eW,e5,aB,aA,eI⟩,(one_no jY jR cR HB)⟩;exact⟨⟨f5,fY,dD,f7,f_,aB,aA,fW⟩,(one_no jY jR cW JK)⟩;exact⟨⟨fZ,fX,dC,f6,f9,aB,aA,fV⟩,(one_no jY jR cX JE)⟩;exact⟨⟨fF,fA,c8,fL,fQ,aB,aA,e6⟩,(one_no jY jR dN H5)⟩;exact⟨⟨gU,gM,dI,hE,hV,aB,aA,gG⟩,(one_no jY jR dR KP)⟩;exact⟨⟨fJ,fD,dA,fO,fT,aB,aA,e9⟩,(one_no jY jR dY IW)⟩;exact⟨⟨gR,gJ,dF,gY,hJ,aB,aA,gB⟩,(one_no jY jR eD J5)⟩;exact⟨⟨gS,gK,dG,gZ,hO,aB,aA,gD⟩,(one_no jY jR iH KA)⟩;exact⟨⟨eQ,eM,c6,eU,eZ,aB,aA,eG⟩,(one_no jY jR iN G7)⟩;exact⟨⟨gW,gO,dJ,hG,hW,aB,aA,gH⟩,(one_no jY jR iY KY)⟩),SF:=fun q h=>(by simp only[List.mem_cons,List.not_mem_nil,or_false]at h;rcases h with rfl|rfl|rfl|rfl|rfl|rfl|rfl|rfl|rfl|rfl|rfl|rfl|rfl|rfl|rfl|rfl|rfl|rfl|rfl|rfl;exact⟨⟨d5,d4,dT,d6,iA,aB,aA,hX⟩,(one_no jF jA bS AU)⟩;exact⟨⟨d0,dZ,dS,d3,hQ,aB,aA,gE⟩,(one_no jF jA bV zK)⟩;exact⟨⟨fG,fB,c9,fM,fR,aB,aA,e7⟩,j7⟩;exact⟨⟨gQ,gI,dE,gX,hI,aB,aA,gA⟩,(one_no jF jA bZ HJ)⟩;exact⟨⟨eO,eJ,cY,eS,eX,aB,aA,eE⟩,(one_no jF jA cA EM)⟩;exact⟨⟨eP,eK,cZ,eT,eY,aB,aA,eF⟩,(one_no jF jA cD EU)⟩;exact⟨⟨fK,fE,dB,fP,fU,aB,aA,e_⟩,(one_no jF jA cF F3)⟩;exact⟨⟨gT,gL,dH,g_,hU,aB,aA,gF⟩,(one_no jF jA cK H_)⟩;exact⟨⟨fH,fC,c_,fN,fS,aB,aA,e8⟩,(one_no jF jA cL FU)⟩;exact⟨⟨h9,h8,dK,h_,iB,aB,aA,h7⟩,(one_no jF jA cN JL)⟩;exact⟨⟨eR,eN,c7,eW,e5,aB,aA,eI⟩,(one_no jF jA cR E7)⟩;exact⟨⟨f5,fY,dD,f7,f_,aB,aA,fW⟩,(one_no jF jA cW GJ)⟩;exact⟨⟨fZ,fX,dC,f6,f9,aB,aA,fV⟩,(one_no jF jA cX GD)⟩;exact⟨⟨fF,fA,c8,fL,fQ,aB,aA,e6⟩,(one_no jF jA dN FM)⟩;exact⟨⟨gU,gM,dI,hE,hV,aB,aA,gG⟩,(one_no jF jA dR IH)⟩;exact⟨⟨fJ,fD,dA,fO,fT,aB,aA,e9⟩,(one_no jF jA dY FZ)⟩;exact⟨⟨gR,gJ,dF,gY,hJ,aB,aA,gB⟩,(one_no jF jA eD HL)⟩;exact⟨⟨gS,gK,dG,gZ,hO,aB,aA,gD⟩,(one_no jF jA iH HR)⟩;exact⟨⟨eQ,eM,c6,eU,eZ,aB,aA,eG⟩,(one_no jF jA iN EY)⟩;exact⟨⟨gW,gO,dJ,hG,hW,aB,aA,gH⟩,(one_no jF jA iY IL)⟩),S3:=fun q h=>(by simp only[List.mem_cons,List.not_mem_nil,or_false]at h;rcases h with rfl|rfl|rfl|rfl|rfl|rfl|rfl|rfl|rfl|rfl|rfl|rfl|rfl|rfl|rfl|rfl|rfl|rfl|rfl|rfl;exact⟨⟨d5,d4,dT,d6,iA,aB,aA,hX⟩,(one_no j5 j3 bS CG)⟩;exact⟨⟨d0,dZ,dS,d3,hQ,aB,aA,gE⟩,(one_no j5 j3 bV B_)⟩;exact⟨⟨fG,fB,c9,fM,fR,aB,aA,e7⟩,(one_no j5 j3 bX A6)⟩;exact⟨⟨gQ,gI,dE,gX,hI,aB,aA,gA⟩,(one_no j5 j3 bZ B1)⟩;exact⟨⟨eO,eJ,cY,eS,eX,aB,aA,eE⟩,(one_no j5 j3 cA y7)⟩;exact⟨⟨eP,eK,cZ,eT,eY,aB,aA,eF⟩,(one_no j5 j3 cD AC)⟩;exact⟨⟨fK,fE,dB,fP,fU,aB,aA,e_⟩,(one_no j5 j3 cF A_)⟩;exact⟨⟨gT,gL,dH,g_,hU,aB,aA,gF⟩,(one_no j5 j3 cK CF)⟩;exact⟨⟨fH,fC,c_,fN,fS,aB,aA,e8⟩,(one_no j5 j3 cL A9)⟩;exact⟨⟨h9,h8,dK,h_,iB,aB,aA,h7⟩,j7⟩;exact⟨⟨eR,eN,c7,eW,e5,aB,aA,eI⟩,(one_no j5 j3 cR IS)⟩;exact⟨⟨f5,fY,dD,f7,f_,aB,aA,fW⟩,(one_no j5 j3 cW KH)⟩;exact⟨⟨fZ,fX,dC,f6,f9,aB,aA,fV⟩,(one_no j5 j3 cX KD)⟩;exact⟨⟨fF,fA,c8,fL,fQ,aB,aA,e6⟩,(one_no j5 j3 dN JG)⟩;exact⟨⟨gU,gM,dI,hE,hV,aB,aA,gG⟩,(one_no j5 j3 dR LK)⟩;exact⟨⟨fJ,fD,dA,fO,fT,aB,aA,e9⟩,(one_no j5 j3 dY JV)⟩;exact⟨⟨gR,gJ,dF,gY,hJ,aB,aA,gB⟩,(one_no j5 j3 eD K9)⟩;exact⟨⟨gS,gK,dG,gZ,hO,aB,aA,gD⟩,(one_no j5 j3 iH LA)⟩;exact⟨⟨eQ,eM,c6,eU,eZ,aB,aA,eG⟩,(one_no j5 j3 iN IQ)⟩;exact⟨⟨gW,gO,dJ,hG,hW,aB,aA,gH⟩,(one_no j5 j3 iY LM)⟩),SM:=fun q h=>(by simp only[List.mem_cons,List.not_mem_nil,or_false]at h;rcases h with rfl|rfl|rfl|rfl|rfl|rfl|rfl|rfl|rfl|rfl|rfl|rfl|rfl|rfl|rfl|rfl|rfl|rfl|rfl|rfl;exact⟨⟨d5,d4,dT,d6,iA,aB,aA,hX⟩,(one_no jM jK bS BJ)⟩;exact⟨⟨d0,dZ,dS,d3,hQ,aB,aA,gE⟩,(one_no jM jK bV AZ)⟩;exact⟨⟨fG,fB,c9,fM,fR,aB,aA,e7⟩,(one_no jM jK bX yL)⟩;exact⟨⟨gQ,gI,dE,gX,hI,aB,aA,gA⟩,(one_no jM jK bZ AN)⟩;exact⟨⟨eO,eJ,cY,eS,eX,aB,aA,eE⟩,(one_no jM jK cA xD)⟩;exact⟨⟨eP,eK,cZ,eT,eY,aB,aA,eF⟩,(one_no jM jK cD xP)⟩;exact⟨⟨fK,fE,dB,fP,fU,aB,aA,e_⟩,(one_no jM jK cF y5)⟩;exact⟨⟨gT,gL,dH,g_,hU,aB,aA,gF⟩,(one_no jM jK cK A8)⟩;exact⟨⟨fH,fC,c_,fN,fS,aB,aA,e8⟩,(one_no jM jK cL yP)⟩;exact⟨⟨h9,h8,dK,h_,iB,aB,aA,h7⟩,(one_no jM jK cN BR)⟩;exact⟨⟨eR,eN,c7,eW,e5,aB,aA,eI⟩,(one_no jM jK cR xR)⟩;exact⟨⟨f5,fY,dD,f7,f_,aB,aA,fW⟩,j7⟩;exact⟨⟨fZ,fX,dC,f6,f9,aB,aA,fV⟩,(one_no jM jK cX HW)⟩;exact⟨⟨fF,fA,c8,fL,fQ,aB,aA,e6⟩,(one_no jM jK dN GH)⟩;exact⟨⟨gU,gM,dI,hE,hV,aB,aA,gG⟩,(one_no jM jK dR JR)⟩;exact⟨⟨fJ,fD,dA,fO,fT,aB,aA,e9⟩,(one_no jM jK dY HD)⟩;exact⟨⟨gR,gJ,dF,gY,hJ,aB,aA,gB⟩,(one_no jM jK eD I9)⟩;exact⟨⟨gS,gK,dG,gZ,hO,aB,aA,gD⟩,(one_no jM jK iH JA)⟩;exact⟨⟨eQ,eM,c6,eU,eZ,aB,aA,eG⟩,(one_no jM jK iN FX)⟩;exact⟨⟨gW,gO,dJ,hG,hW,aB,aA,gH⟩,(one_no jM jK iY JT)⟩),SV:=fun q h=>(by simp only[List.mem_cons,List.not_mem_nil,or_false]at h;rcases h with rfl|rfl|rfl|rfl|rfl|rfl|rfl|rfl|rfl|rfl|rfl|rfl|rfl|rfl|rfl|rfl|rfl|rfl|rfl|rfl;exact⟨⟨d5,d4,dT,d6,iA,aB,aA,hX⟩,(one_no jX jQ bS B5)⟩;exact⟨⟨d0,dZ,dS,d3,hQ,aB,aA,gE⟩,j7⟩;exact⟨⟨fG,fB,c9,fM,fR,aB,aA,e7⟩,(one_no jX jQ bX H9)⟩;exact⟨⟨gQ,gI,dE,gX,hI,aB,aA,gA⟩,(one_no jX jQ bZ J0)⟩;exact⟨⟨eO,eJ,cY,eS,eX,aB,aA,eE⟩,(one_no jX jQ cA F6)⟩;exact⟨⟨eP,eK,cZ,eT,eY,aB,aA,eF⟩,(one_no jX jQ cD GT)⟩;exact⟨⟨fK,fE,dB,fP,fU,aB,aA,e_⟩,(one_no jX jQ cF I0)⟩;exact⟨⟨gT,gL,dH,g_,hU,aB,aA,gF⟩,(one_no jX jQ cK KL)⟩;exact⟨⟨fH,fC,c_,fN,fS,aB,aA,e8⟩,(one_no jX jQ cL ID)⟩;exact⟨⟨h9,h8,dK,h_,iB,aB,aA,h7⟩,(one_no jX jQ cN LF)⟩;exact⟨⟨eR,eN,c7,eW,e5,aB,aA,eI⟩,(one_no jX jQ cR HA)⟩;exact⟨⟨f5,fY,dD,f7,f_,aB,aA,fW⟩,(one_no jX jQ cW JJ)⟩;exact⟨⟨fZ,fX,dC,f6,f9,aB,aA,fV⟩,(one_no jX jQ cX JD)⟩;exact⟨⟨fF,fA,c8,fL,fQ,aB,aA,e6⟩,(one_no jX jQ dN HZ)⟩;exact⟨⟨gU,gM,dI,hE,hV,aB,aA,gG⟩,(one_no jX jQ dR KO)⟩;exact⟨⟨fJ,fD,dA,fO,fT,aB,aA,e9⟩,(one_no jX jQ dY IV)⟩;exact⟨⟨gR,gJ,dF,gY,hJ,aB,aA,gB⟩,(one_no jX jQ eD J4)⟩;exact⟨⟨gS,gK,dG,gZ,hO,aB,aA,gD⟩,(one_no jX jQ iH J_)⟩;exact⟨⟨eQ,eM,c6,eU,eZ,aB,aA,eG⟩,(one_no jX jQ iN G6)⟩;exact⟨⟨gW,gO,dJ,hG,hW,aB,aA,gH⟩,(one_no jX jQ iY KW)⟩),SC:=fun q h=>(by simp only[List.mem_cons,List.not_mem_nil,or_false]at h;rcases h with rfl|rfl|rfl|rfl|rfl|rfl|rfl|rfl|rfl|rfl|rfl|rfl|rfl|rfl|rfl|rfl|rfl|rfl|rfl|rfl;exact⟨⟨d5,d4,dT,d6,iA,aB,aA,hX⟩,(one_no jE i_ bS AT)⟩;exact⟨⟨d0,dZ,dS,d3,hQ,aB,aA,gE⟩,(one_no jE i_ bV zJ)⟩;exact⟨⟨fG,fB,c9,fM,fR,aB,aA,e7⟩,(one_no jE i_ bX xH)⟩;exact⟨⟨gQ,gI,dE,gX,hI,aB,aA,gA⟩,(one_no jE i_ bZ y8)⟩;exact⟨⟨eO,eJ,cY,eS,eX,aB,aA,eE⟩,(one_no jE i_ cA wK)⟩;exact⟨⟨eP,eK,cZ,eT,eY,aB,aA,eF⟩,(one_no jE i_ cD wY)⟩;exact⟨⟨fK,fE,dB,fP,fU,aB,aA,e_⟩,(one_no jE i_ cF xS)⟩;exact⟨⟨gT,gL,dH,g_,hU,aB,aA,gF⟩,(one_no jE i_ cK zX)⟩;exact⟨⟨fH,fC,c_,fN,fS,aB,aA,e8⟩,(one_no jE i_ cL xL)⟩;exact⟨⟨h9,h8,dK,h_,iB,aB,aA,h7⟩,(one_no jE i_ cN A4)⟩;exact⟨⟨eR,eN,c7,eW,e5,aB,aA,eI⟩,(one_no jE i_ cR w6)⟩;exact⟨⟨f5,fY,dD,f7,f_,aB,aA,fW⟩,(one_no jE i_ cW yI)⟩;exact⟨⟨fZ,fX,dC,f6,f9,aB,aA,fV⟩,(one_no jE i_ cX yC)⟩;exact⟨⟨fF,fA,c8,fL,fQ,aB,aA,e6⟩,j7⟩;exact⟨⟨gU,gM,dI,hE,hV,aB,aA,gG⟩,(one_no jE i_ dR IG)⟩;exact⟨⟨fJ,fD,dA,fO,fT,aB,aA,e9⟩,(one_no jE i_ dY FY)⟩;exact⟨⟨gR,gJ,dF,gY,hJ,aB,aA,gB⟩,(one_no jE i_ eD HK)⟩;exact⟨⟨gS,gK,dG,gZ,hO,aB,aA,gD⟩,(one_no jE i_ iH HQ)⟩;exact⟨⟨eQ,eM,c6,eU,eZ,aB,aA,eG⟩,(one_no jE i_ iN EW)⟩;exact⟨⟨gW,gO,dJ,hG,hW,aB,aA,gH⟩,(one_no jE i_ iY IK)⟩),S2:=fun q h=>(by simp only[List.mem_cons,List.not_mem_nil,or_false]at h;rcases h with rfl|rfl|rfl|rfl|rfl|rfl|rfl|rfl|rfl|rfl|rfl|rfl|rfl|rfl|rfl|rfl|rfl|rfl|rfl|rfl;exact⟨⟨d5,d4,dT,d6,iA,aB,aA,hX⟩,j7⟩;exact⟨⟨d0,dZ,dS,d3,hQ,aB,aA,gE⟩,(one_no j4 j1 bV LC)⟩;exact⟨⟨fG,fB,c9,fM,fR,aB,aA,e7⟩,(one_no j4 j1 bX JO)⟩;exact⟨⟨gQ,gI,dE,gX,hI,aB,aA,gA⟩,(one_no j4 j1 bZ K7)⟩;exact⟨⟨eO,eJ,cY,eS,eX,aB,aA,eE⟩,(one_no j4 j1 cA HI)⟩;exact⟨⟨eP,eK,cZ,eT,eY,aB,aA,eF⟩,(one_no j4 j1 cD IF)⟩;exact⟨⟨fK,fE,dB,fP,fU,aB,aA,e_⟩,(one_no j4 j1 cF JW)⟩;exact⟨⟨gT,gL,dH,g_,hU,aB,aA,gF⟩,(one_no j4 j1 cK LH)⟩;exact⟨⟨fH,fC,c_,fN,fS,aB,aA,e8⟩,(one_no j4 j1 cL JP)⟩;exact⟨⟨h9,h8,dK,h_,iB,aB,aA,h7⟩,(one_no j4 j1 cN LP)⟩;exact⟨⟨eR,eN,c7,eW,e5,aB,aA,eI⟩,(one_no j4 j1 cR IR)⟩;exact⟨⟨f5,fY,dD,f7,f_,aB,aA,fW⟩,(one_no j4 j1 cW KG)⟩;exact⟨⟨fZ,fX,dC,f6,f9,aB,aA,fV⟩,(one_no j4 j1 cX KC)⟩;exact⟨⟨fF,fA,c8,fL,fQ,aB,aA,e6⟩,(one_no j4 j1 dN JF)⟩;exact⟨⟨gU,gM,dI,hE,hV,aB,aA,gG⟩,(one_no j4 j1 dR LJ)⟩;exact⟨⟨fJ,fD,dA,fO,fT,aB,aA,e9⟩,(one_no j4 j1 dY JU)⟩;exact⟨⟨gR,gJ,dF,gY,hJ,aB,aA,gB⟩,(one_no j4 j1 eD K8)⟩;exact⟨⟨gS,gK,dG,gZ,hO,aB,aA,gD⟩,(one_no j4 j1 iH K_)⟩;exact⟨⟨eQ,eM,c6,eU,eZ,aB,aA,eG⟩,(one_no j4 j1 iN IP)⟩;exact⟨⟨gW,gO,dJ,hG,hW,aB,aA,gH⟩,(one_no j4 j1 iY LL)⟩),SL:=fun q h=>(by simp only[List.mem_cons,List.not_mem_nil,or_false]at h;rcases h with rfl|rfl|rfl|rfl|rfl|rfl|rfl|rfl|rfl|rfl|rfl|rfl|rfl|rfl|rfl|rfl|rfl|rfl|rfl|rfl;exact⟨⟨d5,d4,dT,d6,iA,aB,aA,hX⟩,(one_no jL jJ bS BI)⟩;exact⟨⟨d0,dZ,dS,d3,hQ,aB,aA,gE⟩,(one_no jL jJ bV AY)⟩;exact⟨⟨fG,fB,c9,fM,fR,aB,aA,e7⟩,(one_no jL jJ bX yK)⟩;exact⟨⟨gQ,gI,dE,gX,hI,aB,aA,gA⟩,(one_no jL jJ bZ AM)⟩;exact⟨⟨eO,eJ,cY,eS,eX,aB,aA,eE⟩,(one_no jL jJ cA xA)⟩;exact⟨⟨eP,eK,cZ,eT,eY,aB,aA,eF⟩,(one_no jL jJ cD xO)⟩;exact⟨⟨fK,fE,dB,fP,fU,aB,aA,e_⟩,(one_no jL jJ cF y4)⟩;exact⟨⟨gT,gL,dH,g_,hU,aB,aA,gF⟩,(one_no jL jJ cK A7)⟩;exact⟨⟨fH,fC,c_,fN,fS,aB,aA,e8⟩,(one_no jL jJ cL yO)⟩;exact⟨⟨h9,h8,dK,h_,iB,aB,aA,h7⟩,(one_no jL jJ cN BQ)⟩;exact⟨⟨eR,eN,c7,eW,e5,aB,aA,eI⟩,(one_no jL jJ cR xQ)⟩;exact⟨⟨f5,fY,dD,f7,f_,aB,aA,fW⟩,(one_no jL jJ cW zO)⟩;exact⟨⟨fZ,fX,dC,f6,f9,aB,aA,fV⟩,j7⟩;exact⟨⟨fF,fA,c8,fL,fQ,aB,aA,e6⟩,(one_no jL jJ dN GG)⟩;exact⟨⟨gU,gM,dI,hE,hV,aB,aA,gG⟩,(one_no jL jJ dR JQ)⟩;exact⟨⟨fJ,fD,dA,fO,fT,aB,aA,e9⟩,(one_no jL jJ dY HC)⟩;exact⟨⟨gR,gJ,dF,gY,hJ,aB,aA,gB⟩,(one_no jL jJ eD I8)⟩;exact⟨⟨gS,gK,dG,gZ,hO,aB,aA,gD⟩,(one_no jL jJ iH I_)⟩;exact⟨⟨eQ,eM,c6,eU,eZ,aB,aA,eG⟩,(one_no jL jJ iN FW)⟩;exact⟨⟨gW,gO,dJ,hG,hW,aB,aA,gH⟩,(one_no jL jJ iY JS)⟩),SU:=fun q h=>(by simp only[List.mem_cons,List.not_mem_nil,or_false]at h;rcases h with rfl|rfl|rfl|rfl|rfl|rfl|rfl|rfl|rfl|rfl|rfl|rfl|rfl|rfl|rfl|rfl|rfl|rfl|rfl|rfl;exact⟨⟨d5,d4,dT,d6,iA,aB,aA,hX⟩,(one_no jW jP bS B4)⟩;exact⟨⟨d0,dZ,dS,d3,hQ,aB,aA,gE⟩,(one_no jW jP bV BM)⟩;exact⟨⟨fG,fB,c9,fM,fR,aB,aA,e7⟩,(one_no jW jP bX zT)⟩;exact⟨⟨gQ,gI,dE,gX,hI,aB,aA,gA⟩,(one_no jW jP bZ BB)⟩;exact⟨⟨eO,eJ,cY,eS,eX,aB,aA,eE⟩,(one_no jW jP cA xY)⟩;exact⟨⟨eP,eK,cZ,eT,eY,aB,aA,eF⟩,(one_no jW jP cD yR)⟩;exact⟨⟨fK,fE,dB,fP,fU,aB,aA,e_⟩,(one_no jW jP cF AI)⟩;exact⟨⟨gT,gL,dH,g_,hU,aB,aA,gF⟩,(one_no jW jP cK BU)⟩;exact⟨⟨fH,fC,c_,fN,fS,aB,aA,e8⟩,(one_no jW jP cL z_)⟩;exact⟨⟨h9,h8,dK,h_,iB,aB,aA,h7⟩,(one_no jW jP cN CB)⟩;exact⟨⟨eR,eN,c7,eW,e5,aB,aA,eI⟩,(one_no jW jP cR yY)⟩;exact⟨⟨f5,fY,dD,f7,f_,aB,aA,fW⟩,(one_no jW jP cW A1)⟩;exact⟨⟨fZ,fX,dC,f6,f9,aB,aA,fV⟩,(one_no jW jP cX AQ)⟩;exact⟨⟨fF,fA,c8,fL,fQ,aB,aA,e6⟩,(one_no jW jP dN zG)⟩;exact⟨⟨gU,gM,dI,hE,hV,aB,aA,gG⟩,(one_no jW jP dR BZ)⟩;exact⟨⟨fJ,fD,dA,fO,fT,aB,aA,e9⟩,(one_no jW jP dY AF)⟩;exact⟨⟨gR,gJ,dF,gY,hJ,aB,aA,gB⟩,(one_no jW jP eD BF)⟩;exact⟨⟨gS,gK,dG,gZ,hO,aB,aA,gD⟩,j7⟩;exact⟨⟨eQ,eM,c6,eU,eZ,aB,aA,eG⟩,(one_no jW jP iN G5)⟩;exact⟨⟨gW,gO,dJ,hG,hW,aB,aA,gH⟩,(one_no jW jP iY KU)⟩),SR:=fun q h=>(by simp only[List.mem_cons,List.not_mem_nil,or_false]at h;rcases h with rfl|rfl|rfl|rfl|rfl|rfl|rfl|rfl|rfl|rfl|rfl|rfl|rfl|rfl|rfl|rfl|rfl|rfl|rfl|rfl;exact⟨⟨d5,d4,dT,d6,iA,aB,aA,hX⟩,(one_no jV jO bS B3)⟩;exact⟨⟨d0,dZ,dS,d3,hQ,aB,aA,gE⟩,(one_no jV jO bV BL)⟩;exact⟨⟨fG,fB,c9,fM,fR,aB,aA,e7⟩,(one_no jV jO bX zS)⟩;exact⟨⟨gQ,gI,dE,gX,hI,aB,aA,gA⟩,(one_no jV jO bZ BA)⟩;exact⟨⟨eO,eJ,cY,eS,eX,aB,aA,eE⟩,(one_no jV jO cA xX)⟩;exact⟨⟨eP,eK,cZ,eT,eY,aB,aA,eF⟩,(one_no jV jO cD yQ)⟩;exact⟨⟨fK,fE,dB,fP,fU,aB,aA,e_⟩,(one_no jV jO cF AH)⟩;exact⟨⟨gT,gL,dH,g_,hU,aB,aA,gF⟩,(one_no jV jO cK BS)⟩;exact⟨⟨fH,fC,c_,fN,fS,aB,aA,e8⟩,(one_no jV jO cL z9)⟩;exact⟨⟨h9,h8,dK,h_,iB,aB,aA,h7⟩,(one_no jV jO cN CA)⟩;exact⟨⟨eR,eN,c7,eW,e5,aB,aA,eI⟩,(one_no jV jO cR yX)⟩;exact⟨⟨f5,fY,dD,f7,f_,aB,aA,fW⟩,(one_no jV jO cW A0)⟩;exact⟨⟨fZ,fX,dC,f6,f9,aB,aA,fV⟩,(one_no jV jO cX AO)⟩;exact⟨⟨fF,fA,c8,fL,fQ,aB,aA,e6⟩,(one_no jV jO dN zF)⟩;exact⟨⟨gU,gM,dI,hE,hV,aB,aA,gG⟩,(one_no jV jO dR BY)⟩;exact⟨⟨fJ,fD,dA,fO,fT,aB,aA,e9⟩,(one_no jV jO dY AE)⟩;exact⟨⟨gR,gJ,dF,gY,hJ,aB,aA,gB⟩,j7⟩;exact⟨⟨gS,gK,dG,gZ,hO,aB,aA,gD⟩,(one_no jV jO iH J9)⟩;exact⟨⟨eQ,eM,c6,eU,eZ,aB,aA,eG⟩,(one_no jV jO iN G4)⟩;exact⟨⟨gW,gO,dJ,hG,hW,aB,aA,gH⟩,(one_no jV jO iY KS)⟩),SQ:=fun q h=>(by simp only[List.mem_cons,List.not_mem_nil,or_false]at h;rcases h with rfl|rfl|rfl|rfl|rfl|rfl|rfl|rfl|rfl|rfl|rfl|rfl|rfl|rfl|rfl|rfl|rfl|rfl|rfl|rfl;exact⟨⟨d5,d4,dT,d6,iA,aB,aA,hX⟩,(one_no jU jN bS B2)⟩;exact⟨⟨d0,dZ,dS,d3,hQ,aB,aA,gE⟩,(one_no jU jN bV BK)⟩;exact⟨⟨fG,fB,c9,fM,fR,aB,aA,e7⟩,(one_no jU jN bX zR)⟩;exact⟨⟨gQ,gI,dE,gX,hI,aB,aA,gA⟩,j7⟩;exact⟨⟨eO,eJ,cY,eS,eX,aB,aA,eE⟩,(one_no jU jN cA F5)⟩;exact⟨⟨eP,eK,cZ,eT,eY,aB,aA,eF⟩,(one_no jU jN cD GQ)⟩;exact⟨⟨fK,fE,dB,fP,fU,aB,aA,e_⟩,(one_no jU jN cF IZ)⟩;exact⟨⟨gT,gL,dH,g_,hU,aB,aA,gF⟩,(one_no jU jN cK KJ)⟩;exact⟨⟨fH,fC,c_,fN,fS,aB,aA,e8⟩,(one_no jU jN cL IC)⟩;exact⟨⟨h9,h8,dK,h_,iB,aB,aA,h7⟩,(one_no jU jN cN LE)⟩;exact⟨⟨eR,eN,c7,eW,e5,aB,aA,eI⟩,(one_no jU jN cR G_)⟩;exact⟨⟨f5,fY,dD,f7,f_,aB,aA,fW⟩,(one_no jU jN cW JI)⟩;exact⟨⟨fZ,fX,dC,f6,f9,aB,aA,fV⟩,(one_no jU jN cX JC)⟩;exact⟨⟨fF,fA,c8,fL,fQ,aB,aA,e6⟩,(one_no jU jN dN HY)⟩;exact⟨⟨gU,gM,dI,hE,hV,aB,aA,gG⟩,(one_no jU jN dR KN)⟩;exact⟨⟨fJ,fD,dA,fO,fT,aB,aA,e9⟩,(one_no jU jN dY IU)⟩;exact⟨⟨gR,gJ,dF,gY,hJ,aB,aA,gB⟩,(one_no jU jN eD J3)⟩;exact⟨⟨gS,gK,dG,gZ,hO,aB,aA,gD⟩,(one_no jU jN iH J8)⟩;exact⟨⟨eQ,eM,c6,eU,eZ,aB,aA,eG⟩,(one_no jU jN iN G3)⟩;exact⟨⟨gW,gO,dJ,hG,hW,aB,aA,gH⟩,(one_no jU jN iY KR)⟩),R6:=fun q h=>(by simp only[List.mem_cons,List.not_mem_nil,or_false]at h;rcases h with rfl|rfl|rfl|rfl|rfl|rfl|rfl|rfl|rfl|rfl|rfl|rfl|rfl|rfl|rfl|rfl|rfl|rfl|rfl|rfl;exact⟨⟨d5,d4,dT,d6,iA,aB,aA,hX⟩,(one_no i6 iZ bS zB)⟩;exact⟨⟨d0,dZ,dS,d3,hQ,aB,aA,gE⟩,(one_no i6 iZ bV yE)⟩;exact⟨⟨fG,fB,c9,fM,fR,aB,aA,e7⟩,(one_no i6 iZ bX wQ)⟩;exact⟨⟨gQ,gI,dE,gX,hI,aB,aA,gA⟩,(one_no i6 iZ bZ x7)⟩;exact⟨⟨eO,eJ,cY,eS,eX,aB,aA,eE⟩,j7⟩;exact⟨⟨eP,eK,cZ,eT,eY,aB,aA,eF⟩,(one_no i6 iZ cD EG)⟩;exact⟨⟨fK,fE,dB,fP,fU,aB,aA,e_⟩,(one_no i6 iZ cF FD)⟩;exact⟨⟨gT,gL,dH,g_,hU,aB,aA,gF⟩,(one_no i6 iZ cK GN)⟩;exact⟨⟨fH,fC,c_,fN,fS,aB,aA,e8⟩,(one_no i6 iZ cL ES)⟩;exact⟨⟨h9,h8,dK,h_,iB,aB,aA,h7⟩,(one_no i6 iZ cN H6)⟩;exact⟨⟨eR,eN,c7,eW,e5,aB,aA,eI⟩,(one_no i6 iZ cR EK)⟩;exact⟨⟨f5,fY,dD,f7,f_,aB,aA,fW⟩,(one_no i6 iZ cW FP)⟩;exact⟨⟨fZ,fX,dC,f6,f9,aB,aA,fV⟩,(one_no i6 iZ cX FH)⟩;exact⟨⟨fF,fA,c8,fL,fQ,aB,aA,e6⟩,(one_no i6 iZ dN EN)⟩;exact⟨⟨gU,gM,dI,hE,hV,aB,aA,gG⟩,(one_no i6 iZ dR GU)⟩;exact⟨⟨fJ,fD,dA,fO,fT,aB,aA,e9⟩,(one_no i6 iZ dY E_)⟩;exact⟨⟨gR,gJ,dF,gY,hJ,aB,aA,gB⟩,(one_no i6 iZ eD F7)⟩;exact⟨⟨gS,gK,dG,gZ,hO,aB,aA,gD⟩,(one_no i6 iZ iH F_)⟩;exact⟨⟨eQ,eM,c6,eU,eZ,aB,aA,eG⟩,(one_no i6 iZ iN EH)⟩;exact⟨⟨gW,gO,dJ,hG,hW,aB,aA,gH⟩,(one_no i6 iZ iY GX)⟩),S1:=fun q h=>(by simp only[List.mem_cons,List.not_mem_nil,or_false]at h;rcases h with rfl|rfl|rfl|rfl|rfl|rfl|rfl|rfl|rfl|rfl|rfl|rfl|rfl|rfl|rfl|rfl|rfl|rfl|rfl|rfl;exact⟨⟨d5,d4,dT,d6,iA,aB,aA,hX⟩,(kH (by rfl) LN)⟩;exact⟨⟨d0,dZ,dS,d3,hQ,aB,aA,gE⟩,(kH (by rfl) K3)⟩;exact⟨⟨fG,fB,c9,fM,fR,aB,aA,e7⟩,(kH (by rfl) I4)⟩;exact⟨⟨gQ,gI,dE,gX,hI,aB,aA,gA⟩,(kH (by rfl) K0)⟩;exact⟨⟨eO,eJ,cY,eS,eX,aB,aA,eE⟩,(kH (by rfl) HE)⟩;exact⟨⟨eP,eK,cZ,eT,eY,aB,aA,eF⟩,(kH (by rfl) HF)⟩;exact⟨⟨fK,fE,dB,fP,fU,aB,aA,e_⟩,(kH (by rfl) I7)⟩;exact⟨⟨gT,gL,dH,g_,hU,aB,aA,gF⟩,(kH (by rfl) K4)⟩;exact⟨⟨fH,fC,c_,fN,fS,aB,aA,e8⟩,(kH (by rfl) I5)⟩;exact⟨⟨h9,h8,dK,h_,iB,aB,aA,h7⟩,(kH (by rfl) LO)⟩;exact⟨⟨eR,eN,c7,eW,e5,aB,aA,eI⟩,(kH (by rfl) HH)⟩;exact⟨⟨f5,fY,dD,f7,f_,aB,aA,fW⟩,(kH (by rfl) JY)⟩;exact⟨⟨fZ,fX,dC,f6,f9,aB,aA,fV⟩,(kH (by rfl) JX)⟩;exact⟨⟨fF,fA,c8,fL,fQ,aB,aA,e6⟩,(kH (by rfl) I3)⟩;exact⟨⟨gU,gM,dI,hE,hV,aB,aA,gG⟩,(kH (by rfl) K5)⟩;exact⟨⟨fJ,fD,dA,fO,fT,aB,aA,e9⟩,(kH (by rfl) I6)⟩;exact⟨⟨gR,gJ,dF,gY,hJ,aB,aA,gB⟩,(kH (by rfl) K1)⟩;exact⟨⟨gS,gK,dG,gZ,hO,aB,aA,gD⟩,(kH (by rfl) K2)⟩;exact⟨⟨eQ,eM,c6,eU,eZ,aB,aA,eG⟩,(kH (by rfl) HG)⟩;exact⟨⟨gW,gO,dJ,hG,hW,aB,aA,gH⟩,(kH (by rfl) K6)⟩),SN:=fun q h=>(by simp only[List.mem_cons,List.not_mem_nil,or_false]at h;rcases h with rfl|rfl|rfl|rfl|rfl|rfl|rfl|rfl|rfl|rfl|rfl|rfl|rfl|rfl|rfl|rfl|rfl|rfl|rfl|rfl;exact⟨⟨d5,d4,dT,d6,iA,aB,aA,hX⟩,(kE iP iO LB)⟩;exact⟨⟨d0,dZ,dS,d3,hQ,aB,aA,gE⟩,(kE iP iO KF)⟩;exact⟨⟨fG,fB,c9,fM,fR,aB,aA,e7⟩,(kE iP iO H8)⟩;exact⟨⟨gQ,gI,dE,gX,hI,aB,aA,gA⟩,(kE iP iO JZ)⟩;exact⟨⟨eO,eJ,cY,eS,eX,aB,aA,eE⟩,(kE iP iO F4)⟩;exact⟨⟨eP,eK,cZ,eT,eY,aB,aA,eF⟩,(kE iP iO GP)⟩;exact⟨⟨fK,fE,dB,fP,fU,aB,aA,e_⟩,(kE iP iO IY)⟩;exact⟨⟨gT,gL,dH,g_,hU,aB,aA,gF⟩,(kE iP iO KI)⟩;exact⟨⟨fH,fC,c_,fN,fS,aB,aA,e8⟩,(kE iP iO IB)⟩;exact⟨⟨h9,h8,dK,h_,iB,aB,aA,h7⟩,(kE iP iO LD)⟩;exact⟨⟨eR,eN,c7,eW,e5,aB,aA,eI⟩,(kE iP iO G9)⟩;exact⟨⟨f5,fY,dD,f7,f_,aB,aA,fW⟩,(kE iP iO JH)⟩;exact⟨⟨fZ,fX,dC,f6,f9,aB,aA,fV⟩,(kE iP iO JB)⟩;exact⟨⟨fF,fA,c8,fL,fQ,aB,aA,e6⟩,(kE iP iO HX)⟩;exact⟨⟨gU,gM,dI,hE,hV,aB,aA,gG⟩,(kE iP iO KM)⟩;exact⟨⟨fJ,fD,dA,fO,fT,aB,aA,e9⟩,(kE iP iO IT)⟩;exact⟨⟨gR,gJ,dF,gY,hJ,aB,aA,gB⟩,(kE iP iO J1)⟩;exact⟨⟨gS,gK,dG,gZ,hO,aB,aA,gD⟩,(kE iP iO J7)⟩;exact⟨⟨eQ,eM,c6,eU,eZ,aB,aA,eG⟩,(kE iP iO G2)⟩;exact⟨⟨gW,gO,dJ,hG,hW,aB,aA,gH⟩,(kE iP iO KQ)⟩),MS:=⟨⟨UR MC,ME,dS,MT,MY⟩,LW,MD,CJ⟩,M8:=⟨⟨UR MU,MW,dT,M9,M_⟩,L5,MV,CK⟩,pH:=pH,pJ:=pJ,pI:=pI,ON:=fun C h=>(by rw[List.mem_singleton]at h;subst h;exact⟨⟨d5,d4,dT,d6⟩,CK⟩),OM:=fun C h=>(by rw[List.mem_singleton]at h;subst h;exact⟨⟨d0,dZ,dS,d3⟩,CJ⟩),sP:=PySem.W.mg_none_of XK G sP,dO:=PySem.W.mg_none_of XK G dO,n8:=PySem.W.mg_none_of XK G n8,s9:=PySem.W.mg_none_of XK G s9,pL:=PySem.W.mg_none_of XK G pL,tJ:=PySem.W.mg_none_of XK G tJ,own:=fun C h=>(nomatch h) };refine⟨PySem.W.fnOf "law" "law" (defArgs mU) (defBody mU) (defScope mU) .none VB VD U9 VH O_ VE,fun s v=>.of_eq rfl,fun base _ _=>YA ?_ (plain a (fun z=>by have z:aE=aC:=z;have h:=B5;rw[← z,bS]at h;cases h) (fun z=>by have z:aE=aG:=z;have h:=AU;rw[← z,bS]at h;cases h) (fun z=>by have z:aE=aH:=z;have h:=B2;rw[← z,bS]at h;cases h) (fun z=>by have z:aE=aF:=z;have h:=zB;rw[← z,bS]at h;cases h) (fun z=>by have z:aE=aI:=z;have h:=zC;rw[← z,bS]at h;cases h) (fun z=>by have z:aE=aK:=z;have h:=AX;rw[← z,bS]at h;cases h) (fun z=>by have z:aE=aL:=z;have h:=B6;rw[← z,bS]at h;cases h) (fun z=>by have z:aE=aJ:=z;have h:=AV;rw[← z,bS]at h;cases h) (fun z=>by have z:aE=aP:=z;have h:=CG;rw[← z,bS]at h;cases h) (fun z=>by have z:aE=aM:=z;have h:=zE;rw[← z,bS]at h;cases h) (fun z=>by have z:aE=aO:=z;have h:=BJ;rw[← z,bS]at h;cases h) (fun z=>by have z:aE=aN:=z;have h:=BI;rw[← z,bS]at h;cases h) (fun z=>by have z:aE=aQ:=z;have h:=AT;rw[← z,bS]at h;cases h) (fun z=>by have z:aE=aU:=z;have h:=B7;rw[← z,bS]at h;cases h) (fun z=>by have z:aE=aR:=z;have h:=AW;rw[← z,bS]at h;cases h) (fun z=>by have z:aE=aS:=z;have h:=B3;rw[← z,bS]at h;cases h) (fun z=>by have z:aE=aW:=z;have h:=B4;rw[← z,bS]at h;cases h) (fun z=>by have z:aE=aV:=z;have h:=zD;rw[← z,bS]at h;cases h) (fun z=>by have z:aE=aX:=z;have h:=B9;rw[← z,bS]at h;cases h) (fun z=>by have z:aC=aG:=z;have h:=zK;rw[← z,bV]at h;cases h) (fun z=>by have z:aC=aH:=z;have h:=BK;rw[← z,bV]at h;cases h) (fun z=>by have z:aC=aF:=z;have h:=yE;rw[← z,bV]at h;cases h) (fun z=>by have z:aC=aI:=z;have h:=yF;rw[← z,bV]at h;cases h) (fun z=>by have z:aC=aK:=z;have h:=zN;rw[← z,bV]at h;cases h) (fun z=>by have z:aC=aL:=z;have h:=BN;rw[← z,bV]at h;cases h) (fun z=>by have z:aC=aJ:=z;have h:=zL;rw[← z,bV]at h;cases h) (fun z=>by have z:aC=aP:=z;have h:=B_;rw[← z,bV]at h;cases h) (fun z=>by have z:aC=aM:=z;have h:=yH;rw[← z,bV]at h;cases h) (fun z=>by have z:aC=aO:=z;have h:=AZ;rw[← z,bV]at h;cases h) (fun z=>by have z:aC=aN:=z;have h:=AY;rw[← z,bV]at h;cases h) (fun z=>by have z:aC=aQ:=z;have h:=zJ;rw[← z,bV]at h;cases h) (fun z=>by have z:aC=aU:=z;have h:=BO;rw[← z,bV]at h;cases h) (fun z=>by have z:aC=aR:=z;have h:=zM;rw[← z,bV]at h;cases h) (fun z=>by have z:aC=aS:=z;have h:=BL;rw[← z,bV]at h;cases h) (fun z=>by have z:aC=aW:=z;have h:=BM;rw[← z,bV]at h;cases h) (fun z=>by have z:aC=aV:=z;have h:=yG;rw[← z,bV]at h;cases h) (fun z=>by have z:aC=aX:=z;have h:=BP;rw[← z,bV]at h;cases h) (fun z=>by have z:aG=aH:=z;have h:=zR;rw[← z,bX]at h;cases h) (fun z=>by have z:aG=aF:=z;have h:=wQ;rw[← z,bX]at h;cases h) (fun z=>by have z:aG=aI:=z;have h:=wR;rw[← z,bX]at h;cases h) (fun z=>by have z:aG=aK:=z;have h:=xK;rw[← z,bX]at h;cases h) (fun z=>by have z:aG=aL:=z;have h:=zU;rw[← z,bX]at h;cases h) (fun z=>by have z:aG=aJ:=z;have h:=xI;rw[← z,bX]at h;cases h) (fun z=>by have z:aG=aP:=z;have h:=A6;rw[← z,bX]at h;cases h) (fun z=>by have z:aG=aM:=z;have h:=wV;rw[← z,bX]at h;cases h) (fun z=>by have z:aG=aO:=z;have h:=yL;rw[← z,bX]at h;cases h) (fun z=>by have z:aG=aN:=z;have h:=yK;rw[← z,bX]at h;cases h) (fun z=>by have z:aG=aQ:=z;have h:=xH;rw[← z,bX]at h;cases h) (fun z=>by have z:aG=aU:=z;have h:=zV;rw[← z,bX]at h;cases h) (fun z=>by have z:aG=aR:=z;have h:=xJ;rw[← z,bX]at h;cases h) (fun z=>by have z:aG=aS:=z;have h:=zS;rw[← z,bX]at h;cases h) (fun z=>by have z:aG=aW:=z;have h:=zT;rw[← z,bX]at h;cases h) (fun z=>by have z:aG=aV:=z;have h:=wU;rw[← z,bX]at h;cases h) (fun z=>by have z:aG=aX:=z;have h:=zW;rw[← z,bX]at h;cases h) (fun z=>by have z:aH=aF:=z;have h:=x7;rw[← z,bZ]at h;cases h) (fun z=>by have z:aH=aI:=z;have h:=x8;rw[← z,bZ]at h;cases h) (fun z=>by have z:aH=aK:=z;have h:=zA;rw[← z,bZ]at h;cases h) (fun z=>by have z:aH=aL:=z;have h:=BC;rw[← z,bZ]at h;cases h) (fun z=>by have z:aH=aJ:=z;have h:=y9;rw[← z,bZ]at h;cases h) (fun z=>by have z:aH=aP:=z;have h:=B1;rw[← z,bZ]at h;cases h) (fun z=>by have z:aH=aM:=z;have h:=x_;rw[← z,bZ]at h;cases h) (fun z=>by have z:aH=aO:=z;have h:=AN;rw[← z,bZ]at h;cases h) (fun z=>by have z:aH=aN:=z;have h:=AM;rw[← z,bZ]at h;cases h) (fun z=>by have z:aH=aQ:=z;have h:=y8;rw[← z,bZ]at h;cases h) (fun z=>by have z:aH=aU:=z;have h:=BD;rw[← z,bZ]at h;cases h) (fun z=>by have z:aH=aR:=z;have h:=y_;rw[← z,bZ]at h;cases h) (fun z=>by have z:aH=aS:=z;have h:=BA;rw[← z,bZ]at h;cases h) (fun z=>by have z:aH=aW:=z;have h:=BB;rw[← z,bZ]at h;cases h) (fun z=>by have z:aH=aV:=z;have h:=x9;rw[← z,bZ]at h;cases h) (fun z=>by have z:aH=aX:=z;have h:=BE;rw[← z,bZ]at h;cases h) (fun z=>by have z:aF=aI:=z;have h:=wD;rw[← z,cA]at h;cases h) (fun z=>by have z:aF=aK:=z;have h:=wN;rw[← z,cA]at h;cases h) (fun z=>by have z:aF=aL:=z;have h:=xZ;rw[← z,cA]at h;cases h) (fun z=>by have z:aF=aJ:=z;have h:=wL;rw[← z,cA]at h;cases h) (fun z=>by have z:aF=aP:=z;have h:=y7;rw[← z,cA]at h;cases h) (fun z=>by have z:aF=aM:=z;have h:=wG;rw[← z,cA]at h;cases h) (fun z=>by have z:aF=aO:=z;have h:=xD;rw[← z,cA]at h;cases h) (fun z=>by have z:aF=aN:=z;have h:=xA;rw[← z,cA]at h;cases h) (fun z=>by have z:aF=aQ:=z;have h:=wK;rw[← z,cA]at h;cases h) (fun z=>by have z:aF=aU:=z;have h:=x0;rw[← z,cA]at h;cases h) (fun z=>by have z:aF=aR:=z;have h:=wM;rw[← z,cA]at h;cases h) (fun z=>by have z:aF=aS:=z;have h:=xX;rw[← z,cA]at h;cases h) (fun z=>by have z:aF=aW:=z;have h:=xY;rw[← z,cA]at h;cases h) (fun z=>by have z:aF=aV:=z;have h:=wF;rw[← z,cA]at h;cases h) (fun z=>by have z:aF=aX:=z;have h:=x5;rw[← z,cA]at h;cases h) (fun z=>by have z:aI=aK:=z;have h:=w5;rw[← z,cD]at h;cases h) (fun z=>by have z:aI=aL:=z;have h:=yS;rw[← z,cD]at h;cases h) (fun z=>by have z:aI=aJ:=z;have h:=wZ;rw[← z,cD]at h;cases h) (fun z=>by have z:aI=aP:=z;have h:=AC;rw[← z,cD]at h;cases h) (fun z=>by have z:aI=aM:=z;have h:=wI;rw[← z,cD]at h;cases h) (fun z=>by have z:aI=aO:=z;have h:=xP;rw[← z,cD]at h;cases h) (fun z=>by have z:aI=aN:=z;have h:=xO;rw[← z,cD]at h;cases h) (fun z=>by have z:aI=aQ:=z;have h:=wY;rw[← z,cD]at h;cases h) (fun z=>by have z:aI=aU:=z;have h:=yT;rw[← z,cD]at h;cases h) (fun z=>by have z:aI=aR:=z;have h:=w0;rw[← z,cD]at h;cases h) (fun z=>by have z:aI=aS:=z;have h:=yQ;rw[← z,cD]at h;cases h) (fun z=>by have z:aI=aW:=z;have h:=yR;rw[← z,cD]at h;cases h) (fun z=>by have z:aI=aV:=z;have h:=wH;rw[← z,cD]at h;cases h) (fun z=>by have z:aI=aX:=z;have h:=yU;rw[← z,cD]at h;cases h) (fun z=>by have z:aK=aL:=z;have h:=AJ;rw[← z,cF]at h;cases h) (fun z=>by have z:aK=aJ:=z;have h:=xU;rw[← z,cF]at h;cases h) (fun z=>by have z:aK=aP:=z;have h:=A_;rw[← z,cF]at h;cases h) (fun z=>by have z:aK=aM:=z;have h:=w_;rw[← z,cF]at h;cases h) (fun z=>by have z:aK=aO:=z;have h:=y5;rw[← z,cF]at h;cases h) (fun z=>by have z:aK=aN:=z;have h:=y4;rw[← z,cF]at h;cases h) (fun z=>by have z:aK=aQ:=z;have h:=xS;rw[← z,cF]at h;cases h) (fun z=>by have z:aK=aU:=z;have h:=AK;rw[← z,cF]at h;cases h) (fun z=>by have z:aK=aR:=z;have h:=xW;rw[← z,cF]at h;cases h) (fun z=>by have z:aK=aS:=z;have h:=AH;rw[← z,cF]at h;cases h) (fun z=>by have z:aK=aW:=z;have h:=AI;rw[← z,cF]at h;cases h) (fun z=>by have z:aK=aV:=z;have h:=w9;rw[← z,cF]at h;cases h) (fun z=>by have z:aK=aX:=z;have h:=AL;rw[← z,cF]at h;cases h) (fun z=>by have z:aL=aJ:=z;have h:=zY;rw[← z,cK]at h;cases h) (fun z=>by have z:aL=aP:=z;have h:=CF;rw[← z,cK]at h;cases h) (fun z=>by have z:aL=aM:=z;have h:=yN;rw[← z,cK]at h;cases h) (fun z=>by have z:aL=aO:=z;have h:=A8;rw[← z,cK]at h;cases h) (fun z=>by have z:aL=aN:=z;have h:=A7;rw[← z,cK]at h;cases h) (fun z=>by have z:aL=aQ:=z;have h:=zX;rw[← z,cK]at h;cases h) (fun z=>by have z:aL=aU:=z;have h:=BW;rw[← z,cK]at h;cases h) (fun z=>by have z:aL=aR:=z;have h:=zZ;rw[← z,cK]at h;cases h) (fun z=>by have z:aL=aS:=z;have h:=BS;rw[← z,cK]at h;cases h) (fun z=>by have z:aL=aW:=z;have h:=BU;rw[← z,cK]at h;cases h) (fun z=>by have z:aL=aV:=z;have h:=yM;rw[← z,cK]at h;cases h) (fun z=>by have z:aL=aX:=z;have h:=BX;rw[← z,cK]at h;cases h) (fun z=>by have z:aJ=aP:=z;have h:=A9;rw[← z,cL]at h;cases h) (fun z=>by have z:aJ=aM:=z;have h:=wX;rw[← z,cL]at h;cases h) (fun z=>by have z:aJ=aO:=z;have h:=yP;rw[← z,cL]at h;cases h) (fun z=>by have z:aJ=aN:=z;have h:=yO;rw[← z,cL]at h;cases h) (fun z=>by have z:aJ=aQ:=z;have h:=xL;rw[← z,cL]at h;cases h) (fun z=>by have z:aJ=aU:=z;have h:=AA;rw[← z,cL]at h;cases h) (fun z=>by have z:aJ=aR:=z;have h:=xM;rw[← z,cL]at h;cases h) (fun z=>by have z:aJ=aS:=z;have h:=z9;rw[← z,cL]at h;cases h) (fun z=>by have z:aJ=aW:=z;have h:=z_;rw[← z,cL]at h;cases h) (fun z=>by have z:aJ=aV:=z;have h:=wW;rw[← z,cL]at h;cases h) (fun z=>by have z:aJ=aX:=z;have h:=AB;rw[← z,cL]at h;cases h) (fun z=>by have z:aP=aM:=z;have h:=zQ;rw[← z,cN]at h;cases h) (fun z=>by have z:aP=aO:=z;have h:=BR;rw[← z,cN]at h;cases h) (fun z=>by have z:aP=aN:=z;have h:=BQ;rw[← z,cN]at h;cases h) (fun z=>by have z:aP=aQ:=z;have h:=A4;rw[← z,cN]at h;cases h) (fun z=>by have z:aP=aU:=z;have h:=CC;rw[← z,cN]at h;cases h) (fun z=>by have z:aP=aR:=z;have h:=A5;rw[← z,cN]at h;cases h) (fun z=>by have z:aP=aS:=z;have h:=CA;rw[← z,cN]at h;cases h) (fun z=>by have z:aP=aW:=z;have h:=CB;rw[← z,cN]at h;cases h) (fun z=>by have z:aP=aV:=z;have h:=zP;rw[← z,cN]at h;cases h) (fun z=>by have z:aP=aX:=z;have h:=CD;rw[← z,cN]at h;cases h) (fun z=>by have z:aM=aO:=z;have h:=xR;rw[← z,cR]at h;cases h) (fun z=>by have z:aM=aN:=z;have h:=xQ;rw[← z,cR]at h;cases h) (fun z=>by have z:aM=aQ:=z;have h:=w6;rw[← z,cR]at h;cases h) (fun z=>by have z:aM=aU:=z;have h:=yZ;rw[← z,cR]at h;cases h) (fun z=>by have z:aM=aR:=z;have h:=w7;rw[← z,cR]at h;cases h) (fun z=>by have z:aM=aS:=z;have h:=yX;rw[← z,cR]at h;cases h) (fun z=>by have z:aM=aW:=z;have h:=yY;rw[← z,cR]at h;cases h) (fun z=>by have z:aM=aV:=z;have h:=wJ;rw[← z,cR]at h;cases h) (fun z=>by have z:aM=aX:=z;have h:=y0;rw[← z,cR]at h;cases h) (fun z=>by have z:aO=aN:=z;have h:=zO;rw[← z,cW]at h;cases h) (fun z=>by have z:aO=aQ:=z;have h:=yI;rw[← z,cW]at h;cases h) (fun z=>by have z:aO=aU:=z;have h:=A2;rw[← z,cW]at h;cases h) (fun z=>by have z:aO=aR:=z;have h:=yJ;rw[← z,cW]at h;cases h) (fun z=>by have z:aO=aS:=z;have h:=A0;rw[← z,cW]at h;cases h) (fun z=>by have z:aO=aW:=z;have h:=A1;rw[← z,cW]at h;cases h) (fun z=>by have z:aO=aV:=z;have h:=xG;rw[← z,cW]at h;cases h) (fun z=>by have z:aO=aX:=z;have h:=A3;rw[← z,cW]at h;cases h) (fun z=>by have z:aN=aQ:=z;have h:=yC;rw[← z,cX]at h;cases h) (fun z=>by have z:aN=aU:=z;have h:=AR;rw[← z,cX]at h;cases h) (fun z=>by have z:aN=aR:=z;have h:=yD;rw[← z,cX]at h;cases h) (fun z=>by have z:aN=aS:=z;have h:=AO;rw[← z,cX]at h;cases h) (fun z=>by have z:aN=aW:=z;have h:=AQ;rw[← z,cX]at h;cases h) (fun z=>by have z:aN=aV:=z;have h:=xE;rw[← z,cX]at h;cases h) (fun z=>by have z:aN=aX:=z;have h:=AS;rw[← z,cX]at h;cases h) (fun z=>by have z:aQ=aU:=z;have h:=zH;rw[← z,dN]at h;cases h) (fun z=>by have z:aQ=aR:=z;have h:=xF;rw[← z,dN]at h;cases h) (fun z=>by have z:aQ=aS:=z;have h:=zF;rw[← z,dN]at h;cases h) (fun z=>by have z:aQ=aW:=z;have h:=zG;rw[← z,dN]at h;cases h) (fun z=>by have z:aQ=aV:=z;have h:=wO;rw[← z,dN]at h;cases h) (fun z=>by have z:aQ=aX:=z;have h:=zI;rw[← z,dN]at h;cases h) (fun z=>by have z:aU=aR:=z;have h:=AD;rw[← z,dR]at h;cases h) (fun z=>by have z:aU=aS:=z;have h:=BY;rw[← z,dR]at h;cases h) (fun z=>by have z:aU=aW:=z;have h:=BZ;rw[← z,dR]at h;cases h) (fun z=>by have z:aU=aV:=z;have h:=yV;rw[← z,dR]at h;cases h) (fun z=>by have z:aU=aX:=z;have h:=B0;rw[← z,dR]at h;cases h) (fun z=>by have z:aR=aS:=z;have h:=AE;rw[← z,dY]at h;cases h) (fun z=>by have z:aR=aW:=z;have h:=AF;rw[← z,dY]at h;cases h) (fun z=>by have z:aR=aV:=z;have h:=w8;rw[← z,dY]at h;cases h) (fun z=>by have z:aR=aX:=z;have h:=AG;rw[← z,dY]at h;cases h) (fun z=>by have z:aS=aW:=z;have h:=BF;rw[← z,eD]at h;cases h) (fun z=>by have z:aS=aV:=z;have h:=yA;rw[← z,eD]at h;cases h) (fun z=>by have z:aS=aX:=z;have h:=BG;rw[← z,eD]at h;cases h) (fun z=>by have z:aW=aV:=z;have h:=yB;rw[← z,iH]at h;cases h) (fun z=>by have z:aW=aX:=z;have h:=BH;rw[← z,iH]at h;cases h) (fun z=>by have z:aV=aX:=z;have h:=yW;rw[← z,iN]at h;cases h))⟩;have N8:lW l.prog w K mg base 1 a.lN 1 (sZ a):=W6 N9 T;have NZ:lW l.prog w K mg base 1 a.lM 1 (sW a):=WY N0 T;have uC:lW l.prog w K mg base 2 a.k9 2 (oO a):=WZ N1 T NZ;have CI:pO l.prog w K mg base 1 a.l8 a.aE "line" "line":=WQ L6 T;have CH:pO l.prog w K mg base 1 a.l7 a.aC "rule" "rule":=WN LX T;have NN:lW l.prog w K mg base 1 a.lL 1 (sT a):=WV NO T;exact zA4 (a:=a) (fun_mk (st:=mU) P8 QC u4) T N8 uC CI CH NN
end WS
def PySem.W.Fast.tw5256669077306991742:=0
def PySem.W.Fast.tw6117993044241994875:=0
def PySem.W.Fast.tw10059134536252653251:=0
def PySem.W.Fast.tw4509880530841856078:=0
def PySem.W.Fast.tw13870394176896444090:=0
def PySem.W.Fast.tw16264575443005852102:=0
def PySem.W.Fast.tw3107152696363627974:=0
def PySem.W.Fast.tw8459847476738461023:=0
def PySem.W.Fast.tw13826775417427602324:=0
def PySem.W.Fast.tw14163479707197685194:=0
def PySem.W.Fast.tw1228192368473042104:=0
def PySem.W.Fast.tw2114407165151278662:=0
def PySem.W.Fast.tw549575382514724638:=0
def PySem.W.Fast.tw16305372853557835496:=0
def PySem.W.Fast.tw14819286040273751819:=0
def PySem.W.Fast.tw15833292035286989328:=0
def PySem.W.Fast.tw16864382747616989682:=0
def PySem.W.Fast.tw5027479572193872219:=0
def PySem.W.Fast.tw4477277203952775252:=0
def PySem.W.Fast.tw13409727256100475539:=0
def PySem.W.Fast.tw15230634758309458598:=0
def PySem.W.Fast.tw8374918361406274771:=0
def PySem.W.Fast.tw14865647075290378681:=0
def PySem.W.Fast.tw6642216201745739591:=0
def PySem.W.Fast.tw11656428284437216241:=0
def PySem.W.Fast.tw10444351634255012796:=0
def PySem.W.Fast.tw16236600835200351662:=0
open PySem PySem.W PyProof.Rows
set_option maxRecDepth 100000 in
set_option maxHeartbeats 0 in
theorem PySem.Challenge.cw_windowsteps_k01_errors_holds : PySem.Challenge.rw_windowsteps_k01_errors.Holds := by
 w_on;o_law;k_head;(case hw=>w_witness2)
 k_fill
 refine WS.zAG (l:=PySem.Challenge.rw_windowsteps_k01_errors) (k:=3) (x:="_law_script") (by decide +kernel) rfl rfl ⟨rfl,by decide,by decide⟩ (fun w h Y=>PySem.W.kIn_of Y) ?F
 case F=>
  intro w mg fa h KX G hmg;refine' WS.all_mk KX G hmg ?MK ?M6 ?MO ?L0 ?ML ?LR ?LS ?L4 ?MP ?L1 ?M7 ?LV ?MB ?MA ?LZ ?MQ ?L3 ?MM ?MN ?LU ?MR ?q9 ?rJ ?rD ?dB ?q8 ?rH ?rC ?dA ?qM ?qX ?qR ?c7 ?qL ?qW ?qQ ?c6 ?rW ?sK ?sC ?dJ ?rV ?sJ ?sA ?dI ?qK ?qU ?qP ?cZ ?q7 ?rG ?rB ?c_ ?rT ?sH ?r_ ?dH ?qZ ?rF ?rA ?c9 ?sL ?sO ?sM ?dK ?rL ?rP ?rN ?dD ?qY ?rE ?q_ ?c8 ?rK ?rO ?rM ?dC ?rS ?sF ?rZ ?dG ?rR ?sE ?rY ?dF ?rQ ?sD ?rX ?dE ?qJ ?qS ?qO ?cY ?MC ?ME ?MY ?MT ?dS ?MD ?CJ ?MU ?MW ?M_ ?M9 ?dT ?MV ?CK ?pH ?pJ ?pI ?d5 ?d4 ?d6 ?iA ?hX ?d0 ?dZ ?d3 ?hQ ?gE ?fG ?fB ?fM ?fR ?e7 ?gQ ?gI ?gX ?hI ?gA ?eO ?eJ ?eS ?eX ?eE ?eP ?eK ?eT ?eY ?eF ?fK ?fE ?fP ?fU ?e_ ?gT ?gL ?g_ ?hU ?gF ?fH ?fC ?fN ?fS ?e8 ?h9 ?h8 ?h_ ?iB ?h7 ?eR ?eN ?eW ?e5 ?eI ?f5 ?fY ?f7 ?f_ ?fW ?fZ ?fX ?f6 ?f9 ?fV ?fF ?fA ?fL ?fQ ?e6 ?gU ?gM ?hE ?hV ?gG ?fJ ?fD ?fO ?fT ?e9 ?gR ?gJ ?gY ?hJ ?gB ?gS ?gK ?gZ ?hO ?gD ?eQ ?eM ?eU ?eZ ?eG ?gW ?gO ?hG ?hW ?gH ?jI ?jD ?bS ?AX ?bV ?zN ?bX ?xK ?bZ ?zA ?cA ?wN ?cD ?w5 ?cK ?IA ?cL ?FV ?cN ?JN ?cR ?E9 ?cW ?GM ?cX ?GF ?dN ?FO ?dR ?IJ ?dY ?F2 ?eD ?HP ?iH ?HV ?iN ?E6 ?iY ?IO ?jH ?jC ?AW ?zM ?xJ ?y_ ?wM ?w0 ?cF ?xW ?zZ ?xM ?A5 ?w7 ?yJ ?yD ?xF ?AD ?HN ?HU ?E5 ?IN ?i9 ?i5 ?zE ?yH ?wV ?x_ ?wG ?wI ?w_ ?yN ?wX ?zQ ?FR ?FK ?ER ?GW ?FC ?F9 ?GB ?EJ ?G1 ?i8 ?i4 ?zD ?yG ?wU ?x9 ?wF ?wH ?w9 ?yM ?wW ?zP ?wJ ?xG ?xE ?wO ?yV ?w8 ?yA ?yB ?G0 ?j0 ?jT ?B9 ?BP ?zW ?BE ?x5 ?yU ?AL ?BX ?AB ?CD ?y0 ?A3 ?AS ?zI ?B0 ?AG ?BG ?BH ?yW ?jZ ?jS ?B7 ?BO ?zV ?BD ?x0 ?yT ?AK ?BW ?AA ?CC ?yZ ?A2 ?AR ?zH ?IX ?J6 ?KB ?G8 ?KZ ?i7 ?i3 ?zC ?yF ?wR ?x8 ?wD ?FF ?GO ?ET ?H7 ?EL ?FQ ?FJ ?EQ ?GV ?FB ?F8 ?GA ?EI ?GZ ?jG ?jB ?AV ?zL ?xI ?y9 ?wL ?wZ ?xU ?zY ?JM ?E8 ?GL ?GE ?FN ?II ?F0 ?HM ?HS ?EZ ?IM ?jY ?jR ?B6 ?BN ?zU ?BC ?xZ ?yS ?AJ ?IE ?LG ?HB ?JK ?JE ?H5 ?KP ?IW ?J5 ?KA ?G7 ?KY ?jF ?jA ?AU ?zK ?HJ ?EM ?EU ?F3 ?H_ ?FU ?JL ?E7 ?GJ ?GD ?FM ?IH ?FZ ?HL ?HR ?EY ?IL ?j5 ?j3 ?CG ?B_ ?A6 ?B1 ?y7 ?AC ?A_ ?CF ?A9 ?IS ?KH ?KD ?JG ?LK ?JV ?K9 ?LA ?IQ ?LM ?jM ?jK ?BJ ?AZ ?yL ?AN ?xD ?xP ?y5 ?A8 ?yP ?BR ?xR ?HW ?GH ?JR ?HD ?I9 ?JA ?FX ?JT ?jX ?jQ ?B5 ?H9 ?J0 ?F6 ?GT ?I0 ?KL ?ID ?LF ?HA ?JJ ?JD ?HZ ?KO ?IV ?J4 ?J_ ?G6 ?KW ?jE ?i_ ?AT ?zJ ?xH ?y8 ?wK ?wY ?xS ?zX ?xL ?A4 ?w6 ?yI ?yC ?IG ?FY ?HK ?HQ ?EW ?IK ?j4 ?j1 ?LC ?JO ?K7 ?HI ?IF ?JW ?LH ?JP ?LP ?IR ?KG ?KC ?JF ?LJ ?JU ?K8 ?K_ ?IP ?LL ?jL ?jJ ?BI ?AY ?yK ?AM ?xA ?xO ?y4 ?A7 ?yO ?BQ ?xQ ?zO ?GG ?JQ ?HC ?I8 ?I_ ?FW ?JS ?jW ?jP ?B4 ?BM ?zT ?BB ?xY ?yR ?AI ?BU ?z_ ?CB ?yY ?A1 ?AQ ?zG ?BZ ?AF ?BF ?G5 ?KU ?jV ?jO ?B3 ?BL ?zS ?BA ?xX ?yQ ?AH ?BS ?z9 ?CA ?yX ?A0 ?AO ?zF ?BY ?AE ?J9 ?G4 ?KS ?jU ?jN ?B2 ?BK ?zR ?F5 ?GQ ?IZ ?KJ ?IC ?LE ?G_ ?JI ?JC ?HY ?KN ?IU ?J3 ?J8 ?G3 ?KR ?i6 ?iZ ?zB ?yE ?wQ ?x7 ?EG ?FD ?GN ?ES ?H6 ?EK ?FP ?FH ?EN ?GU ?E_ ?F7 ?F_ ?EH ?GX ?LN ?K3 ?I4 ?K0 ?HE ?HF ?I7 ?K4 ?I5 ?LO ?HH ?JY ?JX ?I3 ?K5 ?I6 ?K1 ?K2 ?HG ?K6 ?iP ?iO ?LB ?KF ?H8 ?JZ ?F4 ?GP ?IY ?KI ?IB ?LD ?G9 ?JH ?JB ?HX ?KM ?IT ?J1 ?J7 ?G2 ?KQ ?N6 ?N9 ?NV ?N0 ?NW ?N1 ?L5 ?R_ ?L6 ?LW ?R5 ?LX ?NL ?NO ?DM ?P8 ?QC ?u4 ?sP ?dO ?n8 ?s9 ?pL ?tJ ?aB ?aA WS.plain
  (case MK|M6|MO|L0|ML|LR|LS|L4|MP|L1|M7|LV|MB|MA|LZ|MQ|L3|MM|MN|LU|MR|rJ|rD|dB|rH|rC|dA|qX|qR|c7|qW|qQ|c6|sK|sC|dJ|sJ|sA|dI|qU|qP|cZ|rG|rB|c_|sH|r_|dH|rF|rA|c9|sO|sM|dK|rP|rN|dD|rE|q_|c8|rO|rM|dC|sF|rZ|dG|sE|rY|dF|sD|rX|dE|qS|qO|cY|ME|MY|MT|dS|CJ|MW|M_|M9|dT|CK|pH|pJ|pI|d5|d4|d6|iA|hX|d0|dZ|d3|hQ|gE|fG|fB|fM|fR|e7|gQ|gI|gX|hI|gA|eO|eJ|eS|eX|eE|eP|eK|eT|eY|eF|fK|fE|fP|fU|e_|gT|gL|g_|hU|gF|fH|fC|fN|fS|e8|h9|h8|h_|iB|h7|eR|eN|eW|e5|eI|f5|fY|f7|f_|fW|fZ|fX|f6|f9|fV|fF|fA|fL|fQ|e6|gU|gM|hE|hV|gG|fJ|fD|fO|fT|e9|gR|gJ|gY|hJ|gB|gS|gK|gZ|hO|gD|eQ|eM|eU|eZ|eG|gW|gO|hG|hW|gH|jI|jD|bS|AX|bV|zN|bX|xK|bZ|zA|cA|wN|cD|w5|cK|IA|cL|FV|cN|JN|cR|E9|cW|GM|cX|GF|dN|FO|dR|IJ|dY|F2|eD|HP|iH|HV|iN|E6|iY|IO|jH|jC|AW|zM|xJ|y_|wM|w0|cF|xW|zZ|xM|A5|w7|yJ|yD|xF|AD|HN|HU|E5|IN|i9|i5|zE|yH|wV|x_|wG|wI|w_|yN|wX|zQ|FR|FK|ER|GW|FC|F9|GB|EJ|G1|i8|i4|zD|yG|wU|x9|wF|wH|w9|yM|wW|zP|wJ|xG|xE|wO|yV|w8|yA|yB|G0|j0|jT|B9|BP|zW|BE|x5|yU|AL|BX|AB|CD|y0|A3|AS|zI|B0|AG|BG|BH|yW|jZ|jS|B7|BO|zV|BD|x0|yT|AK|BW|AA|CC|yZ|A2|AR|zH|IX|J6|KB|G8|KZ|i7|i3|zC|yF|wR|x8|wD|FF|GO|ET|H7|EL|FQ|FJ|EQ|GV|FB|F8|GA|EI|GZ|jG|jB|AV|zL|xI|y9|wL|wZ|xU|zY|JM|E8|GL|GE|FN|II|F0|HM|HS|EZ|IM|jY|jR|B6|BN|zU|BC|xZ|yS|AJ|IE|LG|HB|JK|JE|H5|KP|IW|J5|KA|G7|KY|jF|jA|AU|zK|HJ|EM|EU|F3|H_|FU|JL|E7|GJ|GD|FM|IH|FZ|HL|HR|EY|IL|j5|j3|CG|B_|A6|B1|y7|AC|A_|CF|A9|IS|KH|KD|JG|LK|JV|K9|LA|IQ|LM|jM|jK|BJ|AZ|yL|AN|xD|xP|y5|A8|yP|BR|xR|HW|GH|JR|HD|I9|JA|FX|JT|jX|jQ|B5|H9|J0|F6|GT|I0|KL|ID|LF|HA|JJ|JD|HZ|KO|IV|J4|J_|G6|KW|jE|i_|AT|zJ|xH|y8|wK|wY|xS|zX|xL|A4|w6|yI|yC|IG|FY|HK|HQ|EW|IK|j4|j1|LC|JO|K7|HI|IF|JW|LH|JP|LP|IR|KG|KC|JF|LJ|JU|K8|K_|IP|LL|jL|jJ|BI|AY|yK|AM|xA|xO|y4|A7|yO|BQ|xQ|zO|GG|JQ|HC|I8|I_|FW|JS|jW|jP|B4|BM|zT|BB|xY|yR|AI|BU|z_|CB|yY|A1|AQ|zG|BZ|AF|BF|G5|KU|jV|jO|B3|BL|zS|BA|xX|yQ|AH|BS|z9|CA|yX|A0|AO|zF|BY|AE|J9|G4|KS|jU|jN|B2|BK|zR|F5|GQ|IZ|KJ|IC|LE|G_|JI|JC|HY|KN|IU|J3|J8|G3|KR|i6|iZ|zB|yE|wQ|x7|EG|FD|GN|ES|H6|EK|FP|FH|EN|GU|E_|F7|F_|EH|GX|LN|K3|I4|K0|HE|HF|I7|K4|I5|LO|HH|JY|JX|I3|K5|I6|K1|K2|HG|K6|iP|iO|LB|KF|H8|JZ|F4|GP|IY|KI|IB|LD|G9|JH|JB|HX|KM|IT|J1|J7|G2|KQ|N6|NV|NW|L5|R_|LW|R5|NL|DM|P8|QC|u4|sP|dO|n8|s9|pL|tJ|aB|aA|MD|MV=>k_is)
  (case N9|N0|N1|L6|LX|NO=>(refine' L2.fun_mk ?a ?b ?c;(case a=>k_is);(case b=>k_is);(case c=>k_is)))
  (case q9=>k_exc)
  (case q8=>k_exc)
  (case qM=>k_exc)
  (case qL=>k_exc)
  (case rW=>k_exc)
  (case rV=>k_exc)
  (case qK=>k_exc)
  (case q7=>k_exc)
  (case rT=>k_exc)
  (case qZ=>k_exc)
  (case sL=>k_exc)
  (case rL=>k_exc)
  (case qY=>k_exc)
  (case rK=>k_exc)
  (case rS=>k_exc)
  (case rR=>k_exc)
  (case rQ=>k_exc)
  (case qJ=>k_exc)
  (case MC=>kernel_rfl)
  (case MU=>kernel_rfl)
