import PyProof.Rows.All
import PyProof.ExcBaseAll.Exception
import PyProof.ExcClass3
import PyProof.ExcInit
import PyProof.InstStoreFacts
import PyProof.Rows.ZipGen
import PyProof.Rows.Catch
import PyProof.Rows.MinMaxN
import PyProof.Rows.SumAny
import KE.BitLaws
import KE.KDictSum
import KE.KDictOf
import KE.KEqDict
import KE.KxSplit
import Wide.FinOn
import OpenK.AllK
import Wide.All
import Lean
import PySem.Challenge.RW_no0490_01
set_option Elab.async false
set_option maxRecDepth 1000000
set_option autoImplicit false
set_option maxHeartbeats 4000000
set_option linter.all false
set_option genSizeOf false
set_option genInjectivity false
set_option backward.match.sparseCases false
set_option genCtorIdx false
set_option bootstrap.genMatcherCode false
set_option tactic.hygienic false
namespace Mine
open PySem PySem.W PySem.Calls PyProof.Rows PySem.Spec
section
inductive qv{cZ:Type}(p0 p1:cZ->Prop):Prop
 |mk (x0:cZ) (h0:p0 x0) (h1:p1 x0)
inductive aaf{cZ:Type}(p0 p1 p2:cZ->Prop):Prop
 |mk (x0:cZ) (h0:p0 x0) (h1:p1 x0) (h2:p2 x0)
inductive aag{cZ d7:Type}(p0 p1:cZ->d7->Prop):Prop
 |mk (x0:cZ) (x1:d7) (h0:p0 x0 x1) (h1:p1 x0 x1)
inductive aah{cZ d7:Type}(p0 p1 p2:cZ->d7->Prop):Prop
 |mk (x0:cZ) (x1:d7) (h0:p0 x0 x1) (h1:p1 x0 x1) (h2:p2 x0 x1)
inductive aai{cZ d7:Type}(p0 p1 p2 p3:cZ->d7->Prop):Prop
 |mk (x0:cZ) (x1:d7) (h0:p0 x0 x1) (h1:p1 x0 x1) (h2:p2 x0 x1) (h3:p3 x0 x1)
inductive aaj{cZ d7 gC:Type}(p0 p1:cZ->d7->gC->Prop):Prop
 |mk (x0:cZ) (x1:d7) (x2:gC) (h0:p0 x0 x1 x2) (h1:p1 x0 x1 x2)
inductive aak{cZ d7 gC:Type}(p0 p1 p2 p3 p4:cZ->d7->gC->Prop):Prop
 |mk (x0:cZ) (x1:d7) (x2:gC) (h0:p0 x0 x1 x2) (h1:p1 x0 x1 x2) (h2:p2 x0 x1 x2) (h3:p3 x0 x1 x2) (h4:p4 x0 x1 x2)
inductive aal{cZ d7 gC kY:Type}(p0 p1 p2 p3:cZ->d7->gC->kY->Prop):Prop
 |mk (x0:cZ) (x1:d7) (x2:gC) (x3:kY) (h0:p0 x0 x1 x2 x3) (h1:p1 x0 x1 x2 x3) (h2:p2 x0 x1 x2 x3) (h3:p3 x0 x1 x2 x3)
inductive aam{cZ d7 gC kY oZ:Type}(p0 p1:cZ->d7->gC->kY->oZ->Prop):Prop
 |mk (x0:cZ) (x1:d7) (x2:gC) (x3:kY) (x4:oZ) (h0:p0 x0 x1 x2 x3 x4) (h1:p1 x0 x1 x2 x3 x4)
inductive aan{cZ d7 gC kY oZ:Type}(p0 p1 p2 p3:cZ->d7->gC->kY->oZ->Prop):Prop
 |mk (x0:cZ) (x1:d7) (x2:gC) (x3:kY) (x4:oZ) (h0:p0 x0 x1 x2 x3 x4) (h1:p1 x0 x1 x2 x3 x4) (h2:p2 x0 x1 x2 x3 x4) (h3:p3 x0 x1 x2 x3 x4)
inductive aao{cZ d7 gC kY oZ Kc Kd Kf:Type}(p0 p1 p2 p3 p4 p5:cZ->d7->gC->kY->oZ->Kc->Kd->Kf->Prop):Prop
 |mk (x0:cZ) (x1:d7) (x2:gC) (x3:kY) (x4:oZ) (x5:Kc) (x6:Kd) (x7:Kf) (h0:p0 x0 x1 x2 x3 x4 x5 x6 x7) (h1:p1 x0 x1 x2 x3 x4 x5 x6 x7) (h2:p2 x0 x1 x2 x3 x4 x5 x6 x7) (h3:p3 x0 x1 x2 x3 x4 x5 x6 x7) (h4:p4 x0 x1 x2 x3 x4 x5 x6 x7) (h5:p5 x0 x1 x2 x3 x4 x5 x6 x7)
set_option genSizeOf true
set_option genInjectivity true
inductive AV where
 |none|bool(b:Bool)|int(i:Int)|str(s:List Nat)|ref(a:Nat)|ty(s:String)|bi(s:String)|other
noncomputable def AV.ctorIdx(x:AV):Nat:=@AV.casesOn (λZaa=>Nat) x 0 (λZaa=>1) (λZaa=>2) (λZaa=>3) (λZaa=>4) (λZaa=>5) (λZaa=>6) 7
noncomputable def er:Value->AV
 |.none=>.none|.bool b=>.bool b|.int i _=>.int i|.str s _=>.str s.cps.toList
 |.ref a=>.ref a|.type n=>.ty n|.builtin b=>.bi b|_=>.other
noncomputable def qJ(v:Value):AV->Prop
 |.int i=>∃t,v=.int i t
 |.str s=>∃t,v=.str ⟨s.toArray⟩ t
 |.bool b=>v=.bool b
 |.none=>v=.none
 |.ref a=>v=.ref a
 |.ty a=>v=.type a
 |.bi a=>v=.builtin a
 |.other=>True
theorem rQ(v:Value):qJ v (er v):=by induction v<;>first|exact rfl|exact ⟨_,rfl⟩|exact trivial
section
variable{v:Value}
theorem Q3{i:Int}(h:er v=.int i):∃t,v=.int i t:=(h▸rQ v:qJ v (.int i))
theorem AJ{s:List Nat}(h:er v=.str s):∃t,v=.str ⟨s.toArray⟩ t:=(h▸rQ v:qJ v (.str s))
theorem FO{b:Bool}(h:er v=.bool b):v=.bool b:=(h▸rQ v:qJ v (.bool b))
theorem Ai(h:er v=.none):v=.none:=(h▸rQ v:qJ v .none)
theorem kC{a:Nat}(h:er v=.ref a):v=.ref a:=(h▸rQ v:qJ v (.ref a))
theorem Bl{a:String}(h:er v=.ty a):v=.type a:=(h▸rQ v:qJ v (.ty a))
section
variable{P:Value->Prop}
@[elab_as_elim] theorem eI {i:Int} (h:er v=.int i) (k:∀t,P (.int i t)):P v:=let ⟨t,e⟩:=Q3 h;e▸k t
@[elab_as_elim] theorem eS {s:List Nat} (h:er v=.str s) (k:∀t,P (.str ⟨s.toArray⟩ t)):P v:=let ⟨t,e⟩:=AJ h;e▸k t
@[elab_as_elim] theorem eB {b:Bool} (h:er v=.bool b) (k:P (.bool b)):P v:=FO h▸k
@[elab_as_elim] theorem eN (h:er v=.none) (k:P .none):P v:=Ai h▸k
@[elab_as_elim] theorem eR {a:Nat} (h:er v=.ref a) (k:P (.ref a)):P v:=kC h▸k
end
end
set_option genCtorIdx true in
inductive LK where
 |fz|mu|dJ
inductive AO where
 |list(k:LK)(xs:List AV)
 |aj(xs:List AV)
 |bz(fz:Bool)(kvs:List (Int×AV))
 |bX(fz:Bool)(kvs:List (List Nat×AV))
 |inst(fz:Bool)(c:Nat)(fs:List (List Nat×AV))
 |bU(lo hi:Int)
 |items(d:Nat)
 |BJ(a b:Nat)
 |exc(C:Nat)(dd:Bool)
noncomputable def AO.ctorIdx(x:AO):Nat:=@AO.casesOn (λZaa=>Nat) x (λZaa Zaa=>0) (λZaa=>1) (λZaa Zaa=>2) (λZaa Zaa=>3) (λZaa Zaa Zaa=>4) (λZaa Zaa=>5) (λZaa=>6) (λZaa Zaa=>7) (λZaa Zaa=>8)
noncomputable def AO.mut:AO->Bool
 |.list .mu _=>true
 |.list .dJ _=>true
 |.bz fz _|.bX fz _|.inst fz _ _=>!fz
 |.exc _ _=>true
 |_=>false
noncomputable def AO.eF:AO->Bool
 |.inst _ _ _=>true
 |_=>false
noncomputable abbrev AH:=Nat->Option AO
noncomputable def AH.ai(H:AH)(a:Nat)(o:AO):AH:=λb=>if b=a then some o else H b
inductive OV{α:Type}(k:α->Prop)(o:Option α):Prop
 |mk (v:α) (e:o=some v) (h:k v)
noncomputable def nb(v:AV)(q:Prop):Prop:=match v with
 |.bi _=>False
 |_=>q
noncomputable def iI(k:Int->Prop):AV->Prop
 |.int i=>k i
 |_=>False
theorem cR(H:AH)(a:Nat)(o:AO):H.ai a o a=some o:=if_pos rfl
theorem dj(H:AH)(a:Nat)(o:AO){b:Nat}(h:b≠a):H.ai a o b=H b:=if_neg h
theorem fT{H:AH}{a c:Nat}{o oc:AO}{P:Nat->AO->Prop}(e:H.ai a o c=some oc)(h1:P a o)(h2:c≠a->H c=some oc->P c oc):P c oc:=by
 by_cases q:c=a
 ·subst q;exact Option.some.inj ((cR ..).symm.trans e)▸h1
 ·exact h2 q ((dj H a o q).symm.trans e)
theorem nz{α:Type}{o:Option α}{x:α}{g:Prop}(h:o=none)(e:o=some x):g:=by cases h.symm.trans e
theorem oE{α:Type}{x a:α}{l:List α}{g:Prop}(h:x∈a::l)(h1:x=a->g)(h2:x∈l->g):g:=(List.mem_cons.mp h).elim h1 h2
theorem ff{b:Bool}{g:Prop}(h:b=false)(e:b=true):g:=by cases h.symm.trans e
section
variable(prog:Program)(w:World)
noncomputable def cY(D:Addr->Addr)(h:Heap)(a:Addr):AO->Prop
 |.list k xs=>qv (λ(cv:List Value)=>(h.IsList a cv.toArray/\(k=.mu->h.PlainList a cv.toArray))) (λ(cv:List Value)=>cv.map er=xs)
 |.aj xs=>qv (λ(cv:List Value)=>IsTup h a cv.toArray) (λ(cv:List Value)=>cv.map er=xs)
 |.bz _ kvs=>∃ck:List (Int×Value),h.DictOf (intKind prog w) a ck/\ck.map (λp=>(p.1,er p.2))=kvs
 |.bX _ kvs=>∃ck:List (Str×Value),h.DictOf (strKind prog w) a ck/\ck.map (λp=>(p.1.cps.toList,er p.2))=kvs
 |.inst _ C fs=>h.get? a=some (instObj C (D a))/\∃ck:List (Str×Value),h.DictOf (strKind prog w) (D a) ck/\ck.map (λp=>(p.1.cps.toList,er p.2))=fs
 |.bU lo hi=>∃t u v,IsRange h a lo hi 1 t u v
 |.items d=>h.IsItemsView a d
 |.BJ _ _=>False
 |.exc C k=>∃(dd:Option Addr) (vs:Array Value) (sl:Array (Option Value)) (t0:Addr),h.get? a=some ⟨.ref C,dd,.fields vs,sl⟩/\vs[0]?=some (.ref t0)/\vs[1]?=some .none/\(k=false->dd=none)
structure Lv(b:Heap)(L:Addr)(h:Heap)(a:Addr):Prop where
 nb:b.get? a=none
 nl:a≠L
 lv:(h.get? a).isSome=true
structure Di(H:AH)(D:Addr->Addr)(own:List Addr)(a:Addr):Prop where
 own:D a∈own
 no:H (D a)=none
 inj:∀a' o',H a'=some o'->o'.eF=true->D a'=D a->a'=a
structure HR(b0 b:Heap)(L:Addr)(H:AH)(D:Addr->Addr)(own:List Addr)(h:Heap):Prop where
 live:∀a∈own,Lv b L h a
 cont:∀a o,H a=some o->cY prog w D h a o
 fE:∀a o,H a=some o->o.mut=true->a∈own
 src:∀a o,H a=some o->a∈own\/(b0.get? a).isSome=true
 fX:H sysModules=none
 dW:∀a o,H a=some o->o.eF=true->Di H D own a
end
section
variable{prog:Program}{w:World}{D D':Addr->Addr}{h h' b0 b:Heap}{a L:Addr}{o:AO}{H:AH}{own:List Addr}
theorem cY.at(x:cY prog w D h a o)(e:∀ob,h.get? a=some ob->h'.get? a=some ob)(ei:o.eF=true->∀ob,h.get? (D a)=some ob->h'.get? (D a)=some ob):
 cY prog w D h' a o:=by
 induction o with
 |list fz xs=>obtain ⟨cv,⟨hl,hp⟩,hm⟩:=x;exact ⟨cv,⟨hl.at e,λq=>(hp q).at e⟩,hm⟩
 |aj xs=>obtain ⟨cv,⟨ob,ho,r⟩,hm⟩:=x;exact ⟨cv,⟨ob,e _ ho,r⟩,hm⟩
 |bz fz kvs=>obtain ⟨ck,hl,hm⟩:=x;exact ⟨ck,hl.at e,hm⟩
 |bX fz kvs=>obtain ⟨ck,hl,hm⟩:=x;exact ⟨ck,hl.at e,hm⟩
 |inst fz C fs=>obtain ⟨h1,ck,hl,hm⟩:=x;exact ⟨e _ h1,ck,hl.at (ei rfl),hm⟩
 |bU lo hi=>obtain ⟨t,u,v,hr⟩:=x;exact ⟨t,u,v,e _ hr⟩
 |items d=>obtain ⟨ob,ho,r⟩:=x;exact ⟨ob,e _ ho,r⟩
 |BJ c d=>exact x
 |exc C k=>obtain ⟨dd,vs,sl,a0,h1,h2⟩:=x;exact ⟨dd,vs,sl,a0,e _ h1,h2⟩
theorem cY.alive(x:cY prog w D h a o):∃ob,h.get? a=some ob:=by
 induction o with
 |list fz xs=>obtain ⟨cv,⟨⟨ob,ho,_⟩,_⟩,hm⟩:=x;exact ⟨ob,ho⟩
 |aj xs=>obtain ⟨cv,⟨ob,ho,_⟩,hm⟩:=x;exact ⟨ob,ho⟩
 |bz fz kvs=>obtain ⟨ck,⟨ob,_,_,ho,_⟩,hm⟩:=x;exact ⟨ob,ho⟩
 |bX fz kvs=>obtain ⟨ck,⟨ob,_,_,ho,_⟩,hm⟩:=x;exact ⟨ob,ho⟩
 |inst fz C fs=>exact ⟨_,x.1⟩
 |bU lo hi=>obtain ⟨t,u,v,hr⟩:=x;exact ⟨_,hr⟩
 |items d=>obtain ⟨ob,ho,r⟩:=x;exact ⟨ob,ho⟩
 |BJ c d=>exact x.elim
 |exc C k=>obtain ⟨dd,vs,sl,a0,h1,h2⟩:=x;exact ⟨_,h1⟩
theorem cY.ZO(x:cY prog w D h a o)(e:o.eF=true->D' a=D a):cY prog w D' h a o:=by
 induction o<;>first|exact x|skip
 have e':=e rfl
 unfold cY at x ⊢
 rw [e'];exact x
namespace HR
theorem alive(x:HR prog w b0 b L H D own h)(e:H a=some o):∃ob,h.get? a=some ob:=(x.cont a o e).alive
theorem fresh(x:HR prog w b0 b L H D own h)(e:h.get? a=none):H a=none:=by
 cases q:H a with
 |none=>rfl
 |some o=>obtain ⟨ob,ho⟩:=x.alive q;rw [e] at ho;cases ho
theorem qe(x:HR prog w b0 b L H D own h)(e:h.get? a=none):a∉own:=λm=>by
 have:=(x.live a m).lv;rw [e] at this;cases this
theorem keeps(x:HR prog w b0 b L H D own h)(k:∀b o,h.get? b=some o->h'.get? b=some o):HR prog w b0 b L H D own h' where
 live a m:=by
  obtain ⟨h1,h2,h3⟩:=x.live a m
  obtain ⟨ob,ho⟩:=Option.isSome_iff_exists.mp h3
  exact ⟨h1,h2,by rw [k _ _ ho];rfl⟩
 cont a o e:=(x.cont a o e).at (λZaa q=>k _ _ q) λZaa Zaa q=>k _ _ q
 fE:=x.fE
 src:=x.src
 fX:=x.fX
 dW:=x.dW
theorem lP(x:HR prog w b0 b L H D own h)(k:∀c ob,(c∈own\/(b0.get? c).isSome=true)->h.get? c=some ob->h'.get? c=some ob):HR prog w b0 b L H D own h' where
 live a m:=by
  obtain ⟨h1,h2,h3⟩:=x.live a m
  obtain ⟨ob,ho⟩:=Option.isSome_iff_exists.mp h3
  exact ⟨h1,h2,by rw [k _ _ (.inl m) ho];rfl⟩
 cont a o e:=(x.cont a o e).at (λZaa q=>k _ _ (x.src a o e) q) λhi Zaa q=>k _ _ (.inl (x.dW a o e hi).1) q
 fE:=x.fE
 src:=x.src
 fX:=x.fX
 dW:=x.dW
theorem other{c:Addr}(x:HR prog w b0 b L H D own h)(hs:Heap.ExtBut c h h')(hc:H c=none)(ho:c∉own):HR prog w b0 b L H D own h' where
 live a m:=by
  obtain ⟨h1,h2,h3⟩:=x.live a m
  obtain ⟨ob,hb⟩:=Option.isSome_iff_exists.mp h3
  exact ⟨h1,h2,by rw [hs a ob (λq=>ho (q▸m)) hb];rfl⟩
 cont a o e:=(x.cont a o e).at (λZaa q=>hs _ _ (λz=>by rw [z,hc] at e;cases e) q)
  λhi Zaa q=>hs _ _ (λz=>ho (z▸(x.dW a o e hi).1)) q
 fE:=x.fE
 src:=x.src
 fX:=x.fX
 dW:=x.dW
theorem bL{o':AO}(x:HR prog w b0 b L H D own h)(hs:∀c ob,c≠a->(c∈own\/(b0.get? c).isSome=true)->h.get? c=some ob->h'.get? c=some ob)(e:H a=some o)(ho:a∈own)(yv:o'.eF=false)
 (hc:cY prog w D h' a o'):HR prog w b0 b L (H.ai a o') D own h' where
 live c m:=by
  obtain ⟨h1,h2,h3⟩:=x.live c m
  refine ⟨h1,h2,?_⟩
  by_cases q:c=a
  ·obtain ⟨ob,hb⟩:=hc.alive;rw [q,hb];rfl
  ·obtain ⟨ob,hb⟩:=Option.isSome_iff_exists.mp h3
   rw [hs c ob q (.inl m) hb];rfl
 cont c oc ec:=fT ec hc λq ec=>(x.cont c oc ec).at (λZaa z=>hs c _ q (x.src c oc ec) z) λbJ Zaa z=>hs _ _ (λy=>nz ((congrArg H y).symm.trans (x.dW c oc ec bJ).no) e) (.inl (x.dW c oc ec bJ).1) z
 fE c oc ec hm:=fT (P:=λc oc=>oc.mut=true->c∈own) ec (λZaa=>ho) (λq ec=>x.fE c oc ec) hm
 src c oc ec:=fT (P:=λc Zaa=>c∈own\/(b0.get? c).isSome=true) ec (.inl ho) λq ec=>x.src c oc ec
 fX:=(dj H a o' λq=>nz ((congrArg H q).symm.trans x.fX) e).trans x.fX
 dW c oc ec bJ:=fT (P:=λc oc=>oc.eF=true->Di _ D _ c) ec (ff yv) (λq ec bJ=>by
  obtain ⟨d1,d2,d3⟩:=x.dW c oc ec bJ
  exact ⟨d1,(dj H a _ λy=>nz ((congrArg H y).symm.trans d2) e).trans d2,λc' jo iH j3 e3=>fT (P:=λc' jo=>jo.eF=true->D c'=D c->c'=c) iH (ff yv) (λq' iH=>d3 c' jo iH) j3 e3⟩) bJ
theorem BK{fz jq:Bool}{C C':Nat}{fs qK:List (List Nat×AV)}(x:HR prog w b0 b L H D own h)(hs:∀c ob,c≠D a->(c∈own\/(b0.get? c).isSome=true)->h.get? c=some ob->h'.get? c=some ob)(e:H a=some (.inst fz C fs))(ho:a∈own)
 (hc:cY prog w D h' a (.inst jq C' qK)):HR prog w b0 b L (H.ai a (.inst jq C' qK)) D own h' where
 live c m:=by
  obtain ⟨h1,h2,h3⟩:=x.live c m
  refine ⟨h1,h2,?_⟩
  by_cases q:c=D a
  ·obtain ⟨_,ck,⟨ob,_,_,hb,_⟩,_⟩:=hc;rw [q,hb];rfl
  ·obtain ⟨ob,hb⟩:=Option.isSome_iff_exists.mp h3
   rw [hs c ob q (.inl m) hb];rfl
 cont c oc ec:=fT ec hc λq ec=>by
  obtain ⟨_,dn,di⟩:=x.dW a _ e rfl
  exact (x.cont c oc ec).at (λZaa z=>hs c _ (λy=>nz ((congrArg H y).trans dn) ec) (x.src c oc ec) z) λbJ Zaa z=>hs _ _ (λy=>q (di c oc ec bJ y)) (.inl (x.dW c oc ec bJ).1) z
 fE c oc ec hm:=fT (P:=λc oc=>oc.mut=true->c∈own) ec (λZaa=>ho) (λq ec=>x.fE c oc ec) hm
 src c oc ec:=fT (P:=λc Zaa=>c∈own\/(b0.get? c).isSome=true) ec (.inl ho) λq ec=>x.src c oc ec
 fX:=(dj H a _ λq=>nz ((congrArg H q).symm.trans x.fX) e).trans x.fX
 dW c oc ec bJ:=by
  have up:∀c oc,H.ai a (.inst jq C' qK) c=some oc->oc.eF=true->∃oo,H c=some oo/\oo.eF=true:=λc oc ec=>fT (P:=λc oc=>oc.eF=true->∃oo,H c=some oo/\oo.eF=true) ec (λZaa=>⟨_,e,rfl⟩) λq ec hi=>⟨_,ec,hi⟩
  obtain ⟨oo,eo,io⟩:=up c oc ec bJ
  obtain ⟨d1,d2,d3⟩:=x.dW c oo eo io
  refine ⟨d1,(dj H a _ λy=>nz ((congrArg H y).symm.trans d2) e).trans d2,λc' jo iH j3 e3=>?_⟩
  obtain ⟨ZP,ZQ,ZR⟩:=up c' jo iH j3
  exact d3 c' ZP ZQ ZR e3
theorem add(x:HR prog w b0 b L H D own h)(hH:H a=none)(ho:a∉own)(hb:b.get? a=none)(hL:a≠L)(jr:a≠sysModules)(hi:o.eF=false)(hc:cY prog w D h a o):
 HR prog w b0 b L (H.ai a o) D (a::own) h where
 live c m:=by
  cases m with
  |head=>obtain ⟨ob,ho⟩:=hc.alive;exact ⟨hb,hL,by rw [ho];rfl⟩
  |tail _ m=>exact x.live c m
 cont c oc ec:=fT ec hc λq ec=>x.cont c oc ec
 fE c oc ec hm:=fT (P:=λc oc=>oc.mut=true->c∈a::own) ec (λZaa=>.head _) (λq ec hm=>.tail _ (x.fE c oc ec hm)) hm
 src c oc ec:=fT (P:=λc Zaa=>c∈a::own\/(b0.get? c).isSome=true) ec (.inl (.head _)) λq ec=>(x.src c oc ec).imp (.tail _) id
 fX:=(dj H a _ (Ne.symm jr)).trans x.fX
 dW c oc ec bJ:=fT (P:=λc oc=>oc.eF=true->Di _ D _ c) ec (ff hi) (λq ec bJ=>by
  obtain ⟨d1,d2,d3⟩:=x.dW c oc ec bJ
  exact ⟨.tail _ d1,(dj H a _ λy=>ho (y▸d1)).trans d2,λc' jo iH j3 e3=>fT (P:=λc' jo=>jo.eF=true->D c'=D c->c'=c) iH (ff hi) (λq' iH=>d3 c' jo iH) j3 e3⟩) bJ
theorem new(x:HR prog w b0 b L H D own h)(k:∀b o,h.get? b=some o->h'.get? b=some o)(hn:h.get? a=none)(hb:b.get? a=none)(hL:a≠L)(jr:a≠sysModules)(hi:o.eF=false)(hc:cY prog w D h' a o):
 HR prog w b0 b L (H.ai a o) D (a::own) h':=(x.keeps k).add (x.fresh hn) (x.qe hn) hb hL jr hi hc
end HR
end
end
structure Gx where
 prog:Program
 w:World
 K:Frag
 p:Program
 loose:List Str
 mean:ExcName->Option Value
 mg:Str->Option Value
 mb:Str->Option Value
 b0:Heap
 g:Array GenState
 d:Drawn
 os:OsState
noncomputable abbrev Gx.sh(G:Gx)(h:Heap)(tk:Nat):Shared:=⟨h,G.g,G.d,tk,G.os⟩
noncomputable abbrev Gx.M(G:Gx):Model:=model G.prog G.w
structure Fx where
 A:Around
 outer:List Env
 dR:Env
 env:Env
 nm:Nat->Option Str
 wr:Bool
 Lf:Addr
 kp:List (Addr×Obj):=[]
structure aX(G:Gx)(fx:Fx)(n:Nat)(b:Heap):Prop where
 cJ:G.K.In b
 eG:Top G.p G.loose G.mean G.mg G.mb b
 dB:G.b0.StaysIn b
 frames:b.FunFrames G.b0 fx.outer
 stack:fx.A.frames=some (fx.dR::fx.outer)
 eW:fx.A.handled=none
 depth:fx.A.depth+n<recursionLimit
 units:fx.A.units+16*n+16<cLine
 gf:fx.dR.frame=some fx.Lf
 sj:fx.dR.scope.kind=.function
 jN:fx.env.scope.kind=.function
 mT:fx.env.frame=some fx.Lf
 sG:fx.env.globals=mainGlobals
 uF:fx.env.builtins=builtinsNs
 lS:G.b0.get? fx.Lf=none
 cM:∀x c,fx.env.cells.lookup x=some c->G.b0.get? c=none
 here:fx.env.locals=fx.Lf\/qv (λo=>b.get? fx.Lf=some o) (λo=>∀vs,o.data≠.fields vs)
theorem aX.keeps{G:Gx}{fx:Fx}{n:Nat}{b b':Heap}(x:aX G fx n b)(k:b.StaysIn b'):aX G fx n b':=
 {x with
  cJ:=x.cJ.keeps k
  eG:=x.eG.keeps k
  dB:=λa o e=>k a o (x.dB a o e)
  frames:=x.frames.of_keeps λa o e Zaa=>⟨o,k a o e,rfl⟩
  here:=x.here.imp id λ⟨o,e,q⟩=>⟨o,k _ o e,q⟩}
inductive qs(env:Env)(mC:Str->Option Value)(h:Heap)(x:Str)(cv:Value):Prop
 |var (k:env.kindOf x=some .local) (e:mC x=some cv)
 |cell (k:env.kindOf x=some .cell\/env.kindOf x=some .free) (c:Addr) (ob:Obj) (e4:env.cells.lookup x=some c) (e5:h.get? c=some ob) (e6:ob.data=.cell (some cv))
inductive Cj(nm:Nat->Option Str)(env:Env)(mC:Str->Option Value)(h:Heap)(i:Nat)(v:AV):Prop
 |mk (x:Str) (cv:Value) (e1:nm i=some x) (e2:er cv=v) (e3:qs env mC h x cv)
theorem qs.up{env:Env}{mC:Str->Option Value}{h h':Heap}{x:Str}{cv:Value}(l:qs env mC h x cv)(k:∀c ob,env.cells.lookup x=some c->h.get? c=some ob->h'.get? c=some ob):qs env mC h' x cv:=by
 induction l with
 |var a b=>exact .var a b
 |cell a c ob d e f=>exact .cell a c ob d (k _ _ d e) f
inductive lK(env:Env)(wr:Bool)(b h:Heap)(H:AH)(own:List Addr)(c:Addr):Prop
 |mk (d1:wr=true->b.get? c=none) (d2:c≠env.locals) (d3:c∉own) (d4:H c=none) (v:Option Value) (ob:Obj) (e5:h.get? c=some ob) (e6:ob.data=.cell v)
section
variable{env:Env}{wr:Bool}{b h h':Heap}{H H':AH}{own eX:List Addr}{c:Addr}
theorem lK.nl(x:lK env wr b h H own c):c≠env.locals:=by induction x with|mk _ a=>exact a
theorem lK.no(x:lK env wr b h H own c):c∉own:=by induction x with|mk _ _ a=>exact a
theorem lK.lv(x:lK env wr b h H own c)(e:h.get? c=none):False:=by induction x with|mk _ _ _ _ _ _ a=>exact nz e a
theorem lK.up(x:lK env wr b h H own c)(k:∀ob,h.get? c=some ob->h'.get? c=some ob)(q:∀ob,c∉own->H c=none->h.get? c=some ob->c∉eX/\H' c=none):lK env wr b h' H' eX c:=by
 induction x with|mk d1 d2 d3 d4 v ob e5 e6=>exact ⟨d1,d2,(q ob d3 d4 e5).1,(q ob d3 d4 e5).2,v,ob,k ob e5,e6⟩
end
structure O9(env:Env)(wr:Bool)(b h:Heap)(H:AH)(own:List Addr):Prop where
 ok:∀x c,env.cells.lookup x=some c->lK env wr b h H own c
 inj:∀x y c,env.cells.lookup x=some c->env.cells.lookup y=some c->x=y
 has:∀x,env.kindOf x=some .cell->(env.cells.lookup x).isSome=true
structure nq(env:Env)(b h:Heap)(own:List Addr)(p:Addr×Obj):Prop where
 lv:h.get? p.1=some p.2
 nl:p.1≠env.locals
 no:p.1∉own
 nb:b.get? p.1=none
 nc:∀x,env.cells.lookup x≠some p.1
noncomputable def mU(fx:Fx)(b h:Heap)(own:List Addr):Prop:=∀p∈fx.kp,nq fx.env b h own p
theorem mU.up{fx:Fx}{b h h':Heap}{own:List Addr}(x:mU fx b h own)(k:∀p∈fx.kp,nq fx.env b h own p->h'.get? p.1=some p.2):mU fx b h' own:=λp hp=>{x p hp with lv:=k p hp (x p hp)}
theorem mU.more{fx:Fx}{b h:Heap}{own:List Addr}(x:mU fx b h own){a:Addr}(k:∀p∈fx.kp,p.1≠a):mU fx b h (a::own):=λp hp=>{x p hp with no:=List.not_mem_cons_of_ne_of_not_mem (k p hp) (x p hp).no}
structure R(G:Gx)(fx:Fx)(b:Heap)(m:List (Option AV))(H:AH)(h:Heap)(mC:Str->Option Value)(D:Addr->Addr)(own:List Addr):Prop where
 F:Fr b fx.env.locals h mC
 hr:HR G.prog G.w G.b0 b fx.env.locals H D own h
 aa:∀i v,m[i]?=some (some v)->Cj fx.nm fx.env mC h i v
 cells:O9 fx.env fx.wr b h H own
 aR:mU fx b h own
theorem R.re{G:Gx}{fx:Fx}{b:Heap}{m:List (Option AV)}{H H':AH}{h h':Heap}{mC:Str->Option Value}{D D':Addr->Addr}{own eX:List Addr}(r:R G fx b m H h mC D own)(F':Fr b fx.env.locals h' mC)(hr:HR G.prog G.w G.b0 b fx.env.locals H' D' eX h')
 (k:∀x c ob,fx.env.cells.lookup x=some c->h.get? c=some ob->h'.get? c=some ob)(q:∀x c ob,fx.env.cells.lookup x=some c->c∉own->H c=none->h.get? c=some ob->c∉eX/\H' c=none)(kp:mU fx b h' eX):R G fx b m H' h' mC D' eX where
 F:=F'
 hr:=hr
 aa i v e:=by cases r.aa i v e with|mk x cv e1 e2 e3=>exact ⟨x,cv,e1,e2,e3.up (k x)⟩
 cells:=⟨λx c e=>(r.cells.ok x c e).up (λob=>k x c ob e) λob=>q x c ob e,r.cells.inj,r.cells.has⟩
 aR:=kp
theorem R.o9{G:Gx}{fx:Fx}{b:Heap}{m:List (Option AV)}{H:AH}{h h':Heap}{mC:Str->Option Value}{D:Addr->Addr}{own:List Addr}(r:R G fx b m H h mC D own)(F':Fr b fx.env.locals h' mC)(hr:HR G.prog G.w G.b0 b fx.env.locals H D own h')
 (k:∀x c ob,fx.env.cells.lookup x=some c->h.get? c=some ob->h'.get? c=some ob)(kp:∀p∈fx.kp,nq fx.env b h own p->h'.get? p.1=some p.2):R G fx b m H h' mC D own:=
 r.re F' hr k (λZaa Zaa Zaa Zaa a b Zaa=>⟨a,b⟩) (r.aR.up kp)
inductive RX(G:Gx)(fx:Fx)(b:Heap)(m:List (Option AV))(H:AH)(h:Heap):Prop
 |mk (mC:Str->Option Value) (D:Addr->Addr) (own:List Addr) (r:R G fx b m H h mC D own)
inductive HY(B:Heap)(Lf e C:Addr)(h:Heap):Prop
 |Ck (oe:Obj) (vs:Array Value) (a0:Value) (g:h.get? e=some oe) (c:oe.cls=.ref C) (d:oe.data=.fields vs) (v0:vs[0]?=some a0) (v1:vs[1]?=some .none)
 |out (a0:Value) (t:h.TracedAtW B e (.ref C) a0 .none)
 |at_ (a0:Value) (t:h.TracedAtW B e (.ref C) a0 (rawInt Lf))
structure RE(G:Gx)(fx:Fx)(b:Heap)(H:AH)(C e:Addr)(h B:Heap)(mC:Str->Option Value)(D:Addr->Addr)(own:List Addr):Prop where
 dB:B.StaysIn h
 up:∀a o,b.get? a=some o->a∉(fx.dR::fx.outer).filterMap (·.frame)->B.get? a=some o
 jj:B.get? e=none
 frames:h.FunFrames B (fx.dR::fx.outer)
 exc:HY B fx.Lf e C h
 slots:b.UpToSlots h
 ns:h.Ns fx.env.locals mC
 hr:HR G.prog G.w G.b0 b fx.env.locals H D own h
 qx:∀a∈own,(B.get? a).isSome=true
inductive dK(G:Gx)(fx:Fx)(b:Heap)(H:AH)(C e:Addr)(h:Heap):Prop
 |mk (B:Heap) (mC:Str->Option Value) (D:Addr->Addr) (own:List Addr) (r:RE G fx b H C e h B mC D own)
inductive iX{α β:Type}(G:Gx)(fx:Fx)(b:Heap)(rl:α->β->Prop)(Q:β->List (Option AV)->AH->Prop)(v:α)(s':Shared):Prop
 |mk (h':Heap) (bg:Nat) (m':List (Option AV)) (H':AH) (y:β) (e:s'=G.sh h' bg) (r:RX G fx b m' H' h') (l:rl v y) (q:Q y m' H')
inductive fh(G:Gx)(fx:Fx)(b:Heap)(E:Addr->AH->Prop)(e:Value)(s':Shared):Prop
 |mk (h':Heap) (bg:Nat) (H':AH) (C ea:Addr) (e1:s'=G.sh h' bg) (e2:e=.ref ea) (x:dK G fx b H' C ea h') (q:E C H')
section
variable{α β γ δ:Type}
noncomputable def AW(G:Gx)(n:Nat)(fx:Fx)(t:Sem α)(rl:α->β->Prop)(Q:β->List (Option AV)->AH->Prop)(E:Addr->AH->Prop)(m:List (Option AV))(H:AH):Prop:=
 ∀b h tk,aX G fx n b->RX G fx b m H h->
  wpAny G.M fx.A t (iX G fx b rl Q) (fh G fx b E) (G.sh h tk)
variable{G:Gx}{n:Nat}{fx:Fx}{t:Sem α}{rl:α->β->Prop}{Q Q':β->List (Option AV)->AH->Prop}{E E':Addr->AH->Prop}{m:List (Option AV)}{H:AH}
theorem fh.aY{b:Heap}{e:Value}{s':Shared}(h:fh G fx b E e s')(hE:∀C H,E C H->E' C H):fh G fx b E' e s':=by induction h with|mk h tk H C ea e1 e2 r q=>exact ⟨h,tk,H,C,ea,e1,e2,r,hE _ _ q⟩
theorem iT{a:α}{y:β}(hl:rl a y)(h:Q y m H):AW G n fx (pure a) rl Q E m H:=λb hh tk Zaa r=>
 wpAny_pure ⟨hh,tk,m,H,y,rfl,r,hl,h⟩
theorem gu{vs:List Value}(h:AW G n fx t rl Q E m H):AW G n fx (holding vs t) rl Q E m H:=λb hh tk ok r=>wpAny_holding (h b hh tk ok r)
theorem gJ{pos:Pos}{k:Unit->Sem α}(h:AW G n fx (k ()) rl Q E m H):AW G n fx (standAt pos >>= k) rl Q E m H:=λb hh tk ok r=>
 wpAny_bind (wpAny_standAt (h b hh tk ok r))
theorem qm{A:Around}{s:Shared}{Er E2:Value->Shared->Prop}{Q2:α->Shared->Prop}{b:Heap}(w:wpAny G.M A t (iX G fx b rl Q) Er s)(hE:∀e s',Er e s'->E2 e s')
 (k:∀v h tk m H y,RX G fx b m H h->rl v y->Q y m H->Q2 v (G.sh h tk)):wpAny G.M A t Q2 E2 s:=wpAny_mono w (λv s' q=>by induction q with|mk h tk m H y e r l q=>exact e▸k v h tk m H y r l q) hE
theorem qb{A:Around}{s:Shared}{Er E2:Value->Shared->Prop}{f:α->Sem γ}{Q2:γ->Shared->Prop}{b:Heap}(w:wpAny G.M A t (iX G fx b rl Q) Er s)(hE:∀e s',Er e s'->E2 e s')
 (k:∀v h tk m H y,RX G fx b m H h->rl v y->Q y m H->wpAny G.M A (f v) Q2 E2 (G.sh h tk)):wpAny G.M A (t >>= f) Q2 E2 s:=wpAny_bind (qm w hE k)
theorem mK(h:AW G n fx t rl Q E m H)(hQ:∀y m H,Q y m H->Q' y m H)(hE:∀C H,E C H->E' C H):AW G n fx t rl Q' E' m H:=λb hh tk ok r=>
 qm (h b hh tk ok r) (λe s' q=>q.aY hE) λv h tk m H y r l q=>⟨h,tk,m,H,y,rfl,r,l,hQ _ _ _ q⟩
theorem qh{k:α->Sem γ}{pe:γ->δ->Prop}{Q':δ->List (Option AV)->AH->Prop}
 (h:AW G n fx t rl (λy WJ H₁=>∀v,rl v y->AW G n fx (k v) pe Q' E WJ H₁) E m H):AW G n fx (t >>= k) pe Q' E m H:=λb hh tk ok r=>
 qb (h b hh tk ok r) (λZaa Zaa x=>x) λv h tk m H y r l q=>q v l b h tk ok r
end
theorem RX.keeps{G:Gx}{fx:Fx}{b:Heap}{m:List (Option AV)}{H:AH}{h h':Heap}(x:RX G fx b m H h)(k:∀b o,h.get? b=some o->h'.get? b=some o):RX G fx b m H h':=by
 induction x with|mk mC D own r=>exact ⟨mC,D,own,r.o9 ⟨r.F.ns.keeps k,λc o e=>k c o (r.F.keep c o e),r.F.above⟩ (r.hr.keeps k) (λZaa c o Zaa e=>k c o e) λZaa Zaa q=>k _ _ q.lv⟩
theorem HZ{G:Gx}{fx:Fx}{n:Nat}{b h:Heap}{L:Addr}{mC:Str->Option Value}(ok:aX G fx n b)(F:Fr b L h mC):sysModules<h.objs.size:=Nat.lt_trans (by decide) (ok.eG.g.keeps F.keep).lt
theorem rR{G:Gx}{fx:Fx}{n:Nat}{b h:Heap}{L:Addr}{mC:Str->Option Value}(ok:aX G fx n b)(F:Fr b L h mC):h.objs.size≠sysModules:=Nat.ne_of_gt (HZ ok F)
theorem lT(h:Heap):h.get? h.objs.size=none:=by
 cases q:h.get? h.objs.size with
 |none=>rfl
 |some o=>exact absurd (Heap.lt_size q) (Nat.lt_irrefl _)
theorem Fr.fresh{b h:Heap}{L a:Addr}{mC:Str->Option Value}(F:Fr b L h mC)(e:h.get? a=none):b.get? a=none:=by
 cases q:b.get? a with
 |none=>rfl
 |some o=>exact nz e (F.keep _ _ q)
theorem uG{b h:Heap}{L:Addr}{mC:Str->Option Value}(F:Fr b L h mC):b.get? h.objs.size=none:=Fr.fresh F (lT h)
section
variable{G:Gx}{fx:Fx}{n:Nat}{b h h':Heap}{m:List (Option AV)}{H:AH}{mC:Str->Option Value}{D:Addr->Addr}{own:List Addr}
theorem R.xH{a:Addr}{o:AO}(r:R G fx b m H h mC D own)(r':R G fx b m H h' mC D own)(hn:h.get? a=none)(hb:b.get? a=none)(hL:a≠fx.env.locals)(jr:a≠sysModules)(hi:o.eF=false)(hc:cY G.prog G.w D h' a o):H a=none/\RX G fx b m (H.ai a o) h':=
 ⟨r.hr.fresh hn,mC,D,a::own,r'.re r'.F (r'.hr.add (r.hr.fresh hn) (r.hr.qe hn) hb hL jr hi hc) (λZaa Zaa Zaa Zaa e=>e)
   (λx c ob e n1 n2 Zaa=>have ne:c≠a:=λq=>(r.cells.ok x c e).lv (q▸hn);⟨List.not_mem_cons_of_ne_of_not_mem ne n1,(dj H _ _ ne).trans n2⟩)
   (r'.aR.more λp hp q=>nz hn (q▸(r.aR p hp).lv))⟩
theorem RX.push{ob:Obj}{o:AO}(ok:aX G fx n b)(x:RX G fx b m H h)(hi:o.eF=false)
 (hc:∀D,cY G.prog G.w D (h.push ob) h.objs.size o):H h.objs.size=none/\RX G fx b m (H.ai h.objs.size o) (h.push ob):=by
 induction x with|mk mC D own r=>
  exact r.xH (r.o9 (r.F.push ob) (r.hr.keeps λc o e=>Heap.get?_push_of_some _ e) (λZaa c o Zaa e=>Heap.get?_push_of_some _ e) λZaa Zaa q=>Heap.get?_push_of_some _ q.lv) (lT h) (uG r.F) (Nat.ne_of_gt r.F.ns.lt) (rR ok r.F) hi (hc D)
theorem RX.bL{a:Addr}{o o':AO}(x:RX G fx b m H h)(e:H a=some o)(hm:o.mut=true)(hi:o'.eF=false)
 (hs:Heap.SameBut a h h')(hc:∀D,cY G.prog G.w D h a o->cY G.prog G.w D h' a o'):RX G fx b m (H.ai a o') h':=by
 induction x with|mk mC D own r=>
  have ho:=r.hr.fE a o e hm
  have l:=r.hr.live a ho
  have k:∀{c ob},c≠a->h.get? c=some ob->h'.get? c=some ob:=λq z=>(hs.2 _ q).trans z
  have ne:∀{x c},fx.env.cells.lookup x=some c->c≠a:=λq z=>(r.cells.ok _ _ q).no (z▸ho)
  exact ⟨mC,D,own,r.re ⟨r.F.ns.sameBut hs (Ne.symm l.nl),λc ob q=>k (λz=>nz l.nb (z▸q)) (r.F.keep c ob q),r.F.above⟩ (r.hr.bL (λc ob q Zaa z=>k q z) e ho hi (hc D (r.hr.cont a o e)))
   (λx c ob q z=>k (ne q) z) (λx c ob q n1 n2 Zaa=>⟨n1,(dj H _ _ (ne q)).trans n2⟩) (r.aR.up λp Zaa q=>k (λz=>q.no (z▸ho)) q.lv)⟩
end
noncomputable def n8(b h:Heap)(L:Addr)(as:List Addr):List (Addr×Obj):=
 as.filterMap λa=>if (b.get? a).isNone&&(a != L) then (h.get? a).map λo=>(a,o) else none
theorem MS{b h:Heap}{L:Addr}{as:List Addr}{p:Addr×Obj}(hp:p∈n8 b h L as):p.1∈as/\b.get? p.1=none/\p.1≠L/\h.get? p.1=some p.2:=by
 obtain ⟨a,ha,e⟩:=List.mem_filterMap.mp hp
 split at e
 ·rename_i q
  simp only [Bool.and_eq_true,Option.isNone_iff_eq_none,bne_iff_ne,ne_eq] at q
  obtain ⟨o,ho,rfl⟩:=Option.map_eq_some_iff.mp e
  exact ⟨ha,q.1,q.2,ho⟩
 ·cases e
theorem zF{b h:Heap}{L a:Addr}{as:List Addr}{o:Obj}(ha:a∈as)(h1:b.get? a=none)(h2:a≠L)(h3:h.get? a=some o):(a,o)∈n8 b h L as:=
 List.mem_filterMap.mpr ⟨a,ha,by rw [if_pos (by simp [h1,h2]),h3];rfl⟩
theorem Ef(b h:Heap)(L:Addr)(as:List Addr):News b L h (n8 b h L as):=λp hp=>
 let ⟨_,h1,h2,h3⟩:=MS hp;⟨h3,h2,h1⟩
noncomputable def Fx.ig(fx:Fx):List Addr:=fx.env.cells.map (·.2)++fx.kp.map (·.1)
theorem G1{fx:Fx}{p:Addr×Obj}(h:p∈fx.kp):p.1∈fx.ig:=List.mem_append_right _ (List.mem_map_of_mem h)
theorem E3{fx:Fx}{x:Str}{c:Addr}(e:fx.env.cells.lookup x=some c):c∈fx.ig:=by
 unfold Fx.ig
 refine List.mem_append_left _ ?_
 generalize fx.env.cells=l at e
 induction l with
 |nil=>cases e
 |cons p r ih=>
  rw [List.lookup_cons] at e
  split at e
  ·obtain rfl:=Option.some.inj e;exact List.mem_cons_self
  ·exact List.mem_cons_of_mem _ (ih e)
section
variable{G:Gx}{fx:Fx}{n:Nat}{b:Heap}{m:List (Option AV)}{H:AH}{h h':Heap}{mC:Str->Option Value}{D:Addr->Addr}{own:List Addr}
theorem R.up(r:R G fx b m H h mC D own)(F':Fr b fx.env.locals h' mC){p:Addr->Prop}(k:∀c ob,p c->b.get? c=none->c≠fx.env.locals->h.get? c=some ob->h'.get? c=some ob){c:Addr}{ob:Obj}(hc:p c)(hL:c≠fx.env.locals)(e:h.get? c=some ob):h'.get? c=some ob:=by
 cases q:b.get? c with
 |none=>exact k c ob hc q hL e
 |some o=>exact (F'.keep c _ q).trans ((r.F.keep c o q).symm.trans e)
theorem R.Kg(ok:aX G fx n b)(r:R G fx b m H h mC D own)(F':Fr b fx.env.locals h' mC){p:Addr->Prop}(k:∀c ob,p c->b.get? c=none->c≠fx.env.locals->h.get? c=some ob->h'.get? c=some ob){c:Addr}{ob:Obj}(hp:c∈own->p c)(hc:c∈own\/(G.b0.get? c).isSome=true)(e:h.get? c=some ob):h'.get? c=some ob:=by
 rcases hc with hc|hc
 ·exact r.up F' k (hp hc) (r.hr.live c hc).nl e
 ·obtain ⟨o,ho⟩:=Option.isSome_iff_exists.mp hc
  have h1:=ok.dB c o ho
  exact (F'.keep c _ h1).trans ((r.F.keep c o h1).symm.trans e)
theorem R.lP(ok:aX G fx n b)(r:R G fx b m H h mC D own)(F':Fr b fx.env.locals h' mC)(k:∀c ob,(c∈own\/c∈fx.ig)->b.get? c=none->c≠fx.env.locals->h.get? c=some ob->h'.get? c=some ob):R G fx b m H h' mC D own:=
 r.o9 F' (r.hr.lP λc ob hc e=>r.Kg ok F' k .inl hc e) (λx c ob q e=>r.up F' k (.inr (E3 q)) (r.cells.ok x c q).nl e) λp hp q=>k _ _ (.inr (G1 hp)) q.nb q.nl q.lv
theorem R.news(r:R G fx b m H h mC D own):News b fx.env.locals h (n8 b h fx.env.locals (own++fx.ig)):=Ef b h fx.env.locals _
theorem R.Tr(ok:aX G fx n b)(r:R G fx b m H h mC D own)(F':Fr b fx.env.locals h' mC)(N':News b fx.env.locals h' (n8 b h fx.env.locals (own++fx.ig))):R G fx b m H h' mC D own:=
 r.lP ok F' λc ob hc hb hL e=>(N' (c,ob) (zF (List.mem_append.mpr hc) hb hL e)).1
theorem R.add{a:Addr}{o:AO}(ok:aX G fx n b)(r:R G fx b m H h mC D own)(F':Fr b fx.env.locals h' mC)(k:∀c ob,(c∈own\/c∈fx.ig)->b.get? c=none->c≠fx.env.locals->h.get? c=some ob->h'.get? c=some ob)
 (hn:h.get? a=none)(hsz:h.objs.size<=a)(hb:b.get? a=none)(hL:a≠fx.env.locals)(hi:o.eF=false)(hc:cY G.prog G.w D h' a o):H a=none/\RX G fx b m (H.ai a o) h':=by
 have jr:a≠sysModules:=λq=>by
  have h3:=(ok.eG.g.keeps r.F.keep).lt
  rw [show mainGlobals=3 by decide] at h3;rw [q,show sysModules=1 by decide] at hsz
  exact absurd (Nat.lt_of_lt_of_le h3 hsz) (by decide)
 exact r.xH (r.lP ok F' k) hn hb hL jr hi hc
theorem R.BK{a:Addr}{C C':Nat}{fs qK:List (List Nat×AV)}(ok:aX G fx n b)(r:R G fx b m H h mC D own)(F':Fr b fx.env.locals h' mC)(e:H a=some (.inst false C fs))
 (k:∀c ob,c≠D a->(c∈own\/c∈fx.ig)->b.get? c=none->c≠fx.env.locals->h.get? c=some ob->h'.get? c=some ob)
 (hc:cY G.prog G.w D h' a (.inst false C' qK)):RX G fx b m (H.ai a (.inst false C' qK)) h':=by
 have hd:=r.hr.dW a _ e rfl
 have nd:∀{x c},fx.env.cells.lookup x=some c->c≠D a:=λq z=>(r.cells.ok _ _ q).no (z▸hd.own)
 have ho:=r.hr.fE a _ e rfl
 have k':∀c ob,(c≠D a/\(c∈own\/c∈fx.ig))->b.get? c=none->c≠fx.env.locals->h.get? c=some ob->h'.get? c=some ob:=λc ob q=>k c ob q.1 q.2
 exact ⟨mC,D,own,r.re F' (r.hr.BK (λc ob hne hc e=>r.Kg ok F' k' (λq=>⟨hne,.inl q⟩) hc e) e ho hc) (λx c ob q e=>r.up F' k' ⟨nd q,.inr (E3 q)⟩ (r.cells.ok x c q).nl e)
  (λx c ob q n1 n2 Zaa=>⟨n1,(dj H a _ λ(z:c=a)=>n1 (z▸ho)).trans n2⟩) (r.aR.up λp hp q=>k' _ _ ⟨λz=>q.no (z▸hd.own),.inr (G1 hp)⟩ q.nb q.nl q.lv)⟩
end
noncomputable abbrev VA:Value->AV->Prop:=λv y=>er v=y
noncomputable abbrev MM:=List (Option AV)
section
variable{G:Gx}{n:Nat}{fx:Fx}{E:Addr->AH->Prop}{m:MM}{H:AH}
theorem MT{vs:List Value}{t:Sem Value}{Q:AV->MM->AH->Prop}(h:AW G n fx t VA Q E m H):AW G n fx (operate vs t) VA Q E m H:=λb hh tk ok r=>
 wpAny_operate' (h b hh tk ok r)
theorem qn{α β:Type}{b hh:Heap}{rl:α->β->Prop}{Q:β->MM->AH->Prop}{v:α}{y:β}{tk:Nat}(r:RX G fx b m H hh)(l:rl v y)(q:Q y m H):iX G fx b rl Q v (G.sh hh tk):=⟨hh,tk,m,H,y,rfl,r,l,q⟩
theorem qz{α β:Type}{b hh:Heap}{rl:α->β->Prop}{Q:β->MM->AH->Prop}{v:α}{y:β}{tk:Nat}(q:Q y m H)(l:rl v y)(r:RX G fx b m H hh):iX G fx b rl Q v (G.sh hh tk):=qn r l q
theorem eV{t:Sem Value}{y:AV}{Q:AV->MM->AH->Prop}(hq:Q y m H)
 (h:∀(hh:Heap) (tk:Nat) (P:Value->Shared->Prop),(∀v k,er v=y->P v (G.sh hh k))->wpAny G.M fx.A t P (λZaa Zaa=>False) (G.sh hh tk)):AW G n fx t VA Q E m H:=
 λb hh tk Zaa r=>wpAny_mono (h hh tk (iX G fx b VA Q) λv k e=>qn r e hq) (λZaa Zaa x=>x) λZaa Zaa x=>x.elim
noncomputable def Bm(op:Operator)(x y:Int)(Q:AV->Prop):Prop:=
 match op with
 |.Add=>Q (.int (x+y))
 |.Sub=>Q (.int (x-y))
 |.Mult=>(x.natAbs<2^62/\y.natAbs<2^62)/\Q (.int (x*y))
 |.Mod=>y≠0/\Q (.int (x.fmod y))
 |.FloorDiv=>(y≠0/\y.natAbs<1073741824)/\Q (.int (x.fdiv y))
 |.Pow=>(0<=y/\y<=64/\x.natAbs<2^62)/\Q (.int (x^y.toNat))
 |.BitAnd=>Q (.int (Builtin.bitAnd x y))
 |.BitOr=>Q (.int (Builtin.bitOr x y))
 |.BitXor=>Q (.int (Builtin.bitXor x y))
 |.LShift=>(0<=y/\y<=64/\x.natAbs<2^62)/\Q (.int (x*2^y.toNat))
 |.RShift=>0<=y/\Q (.int (x.fdiv (2^y.toNat)))
 |_=>False
theorem Q4{op:Operator}{x y:Int}{t u:Tok}{Q:AV->MM->AH->Prop}(h:Bm op x y λv=>Q v m H):AW G n fx (binaryOp op (.int x t) (.int y u)) VA Q E m H:=by
 induction op
 case Add=>exact eV h λhh tk P hP=>PySem.P.add_int (hP _ _ rfl)
 case Sub=>exact eV h λhh tk P hP=>PySem.P.sub_int (hP _ _ rfl)
 case Mult=>exact eV h.2 λhh tk P hP=>PySem.P.mul_int (hP _ _ rfl) (.of_left (Nat.le_trans (intBits_le h.1.1) (by decide)))
 case Mod=>exact eV h.2 λhh tk P hP=>mod_int' h.1 (hP _ _ rfl)
 case FloorDiv=>exact eV h.2 λhh tk P hP=>floordiv_int h.1.1 (hP _ _ rfl) (.inl (PyProof.noPylong_small h.1.2))
 case Pow=>exact eV h.2 λhh tk P hP=>pow_int_small h.1.1 (by have:=h.1.2.1;lia) (by have:=h.1.2.2;lia) (hP _ _ rfl)
 case BitAnd=>exact eV h λhh tk P hP=>and_int (hP _ _ rfl)
 case BitOr=>exact eV h λhh tk P hP=>or_int (hP _ _ rfl)
 case BitXor=>exact eV h λhh tk P hP=>xor_int (hP _ _ rfl)
 case LShift=>exact eV h.2 λhh tk P hP=>lshift_int_small h.1.1 (by have:=h.1.2.1;lia) (by have:=h.1.2.2;lia) (hP _ _ rfl)
 case RShift=>exact eV h.2 λhh tk P hP=>rshift_int h.1 (hP _ _ rfl)
 all_goals exact (False.elim h)
inductive nu(op:Operator)(Q:AV->AH->Prop)(H:AH):AV->AV->Prop
 |int {x y:Int} (h:Bm op x y λv=>Q v H):nu op Q H (.int x) (.int y)
 |str {s t:List Nat} (e:op=.Add) (l:s.length+t.length<=1000000) (h:Q (.str (s++t)) H):nu op Q H (.str s) (.str t)
 |af {a b:Nat} {fa fb:LK} {xs ys:List AV} (fc:LK) (e:op=.Add) (ha:H a=some (.list fa xs)) (hb:H b=some (.list fb ys)) (l:xs.length+ys.length<=1000000) (h:∀c,H c=none->Q (.ref c) (H.ai c (.list fc (xs++ys)))):nu op Q H (.ref a) (.ref b)
theorem t8{t:Sem Value}{o:AO}{ob:Shared->Obj}{Q:AV->MM->AH->Prop}(hq:∀c,H c=none->Q (.ref c) m (H.ai c o))(hi:o.eF=false)
 (hc:∀D (s:Shared),cY G.prog G.w D (s.heap.push (ob s)) s.heap.objs.size o)
 (h:∀b (hh:Heap) (tk:Nat) (P:Value->Shared->Prop),aX G fx n b->RX G fx b m H hh->(∀k,P (.ref hh.objs.size) (G.sh (hh.push (ob (G.sh hh tk))) (tk+k)))->wpAny G.M fx.A t P (λZaa Zaa=>False) (G.sh hh tk)):
 AW G n fx t VA Q E m H:=λb hh tk ok r=>
 have h2:=r.push (ob:=ob (G.sh hh tk)) ok hi λD=>hc D (G.sh hh tk)
 wpAny_mono (h b hh tk (iX G fx b VA Q) ok r λk=>qn h2.2 rfl (hq _ h2.1)) (λZaa Zaa x=>x) λZaa Zaa x=>x.elim
theorem wj{D:Addr->Addr}{h:Heap}{prog:Program}{w:World}(cv:List Value)(k:LK)(e:Nat:=0):cY prog w D (h.push {cls:=.type "list",data:=.seq cv.toArray e}) h.objs.size (.list k (cv.map er)):=
 ⟨cv,⟨⟨_,Heap.get?_push_size _ rfl,rfl,_,rfl⟩,λZaa=>⟨_,Heap.get?_push_size _ rfl⟩⟩,rfl⟩
theorem zz{D:Addr->Addr}{h:Heap}{prog:Program}{w:World}(cv:List Value)(e:Nat:=0):cY prog w D (h.push {cls:=.type "tuple",data:=.seq cv.toArray e}) h.objs.size (.aj (cv.map er)):=
 ⟨cv,⟨_,Heap.get?_push_size _ rfl,rfl,_,rfl⟩,rfl⟩
theorem zB:sizeLine=16777216:=by decide
inductive Kh(h:Heap)(a:Addr):List AV->Prop
 |mk (cv:List Value) (l:h.IsList a cv.toArray):Kh h a (cv.map er)
inductive IX(h:Heap)(a:Addr):List AV->Prop
 |mk (cv:List Value) (l:h.PlainList a cv.toArray):IX h a (cv.map er)
inductive Kl(h:Heap)(a:Addr):List AV->Prop
 |mk (cv:List Value) (l:IsTup h a cv.toArray):Kl h a (cv.map er)
inductive Km(prog:Program)(w:World)(h:Heap)(a:Addr):List (Int×AV)->Prop
 |mk (s:(a==sysModules)=false) (ck:List (Int×Value)) (d:h.DictOf (intKind prog w) a ck):Km prog w h a (ck.map λp=>(p.1,er p.2))
inductive Ko(prog:Program)(w:World)(h:Heap)(a:Addr):List (List Nat×AV)->Prop
 |mk (s:(a==sysModules)=false) (ck:List (Str×Value)) (d:h.DictOf (strKind prog w) a ck):Ko prog w h a (ck.map λp=>(p.1.cps.toList,er p.2))
section
variable{b h:Heap}{a:Addr}{o:AO}
theorem RX.cont(r:RX G fx b m H h)(e:H a=some o):∃D,cY G.prog G.w D h a o:=by induction r with|mk mC D own r=>exact ⟨D,r.hr.cont _ _ e⟩
theorem RX.j5(r:RX G fx b m H h)(e:H a=some o):(a==sysModules)=false:=by induction r with|mk mC D own r=>exact beq_eq_false_iff_ne.mpr λq=>nz r.hr.fX (q▸e)
theorem RX.list{k:LK}{xs:List AV}(r:RX G fx b m H h)(e:H a=some (.list k xs)):Kh h a xs:=by obtain ⟨D,cv,h1,h2⟩:=r.cont e;exact h2▸⟨cv,h1.1⟩
theorem RX.Tt{xs:List AV}(r:RX G fx b m H h)(e:H a=some (.list .mu xs)):IX h a xs:=by obtain ⟨D,cv,h1,h2⟩:=r.cont e;exact h2▸⟨cv,h1.2 rfl⟩
theorem RX.aj{xs:List AV}(r:RX G fx b m H h)(e:H a=some (.aj xs)):Kl h a xs:=by obtain ⟨D,cv,h1,h2⟩:=r.cont e;exact h2▸⟨cv,h1⟩
theorem RX.bz{fz:Bool}{xs:List (Int×AV)}(r:RX G fx b m H h)(e:H a=some (.bz fz xs)):Km G.prog G.w h a xs:=by obtain ⟨D,ck,h1,h2⟩:=r.cont e;exact h2▸⟨r.j5 e,ck,h1⟩
theorem RX.bX{fz:Bool}{xs:List (List Nat×AV)}(r:RX G fx b m H h)(e:H a=some (.bX fz xs)):Ko G.prog G.w h a xs:=by obtain ⟨D,ck,h1,h2⟩:=r.cont e;exact h2▸⟨r.j5 e,ck,h1⟩
end
theorem Q5{s t:List Nat}{k u:Tok}{Q:AV->MM->AH->Prop}(h1:s.length+t.length<=1000000)(h2:Q (.str (s++t)) m H):AW G n fx (binaryOp .Add (.str ⟨s.toArray⟩ k) (.str ⟨t.toArray⟩ u)) VA Q E m H:=by
 have e:er (.str (⟨s.toArray⟩++⟨t.toArray⟩:Str) 0)=.str (s++t):=congrArg AV.str (by show (s.toArray++t.toArray).toList=_;rw [Array.toList_append])
 exact eV h2 λhh tk P hP=>add_str (λt' tk=>hP _ _ e) (Nat.le_trans (show s.toArray.size+t.toArray.size<=1000000 from h1) (by decide))
theorem AK{o:Obj}{c:Value}{d:Data}(hc:o.cls=c)(hd:o.data=d):o=⟨c,o.dict,d,o.slots⟩:=by subst hc hd;rfl
theorem Oe{A:Around}{a b:Addr}{xs ys:Array Value}{s:Shared}{Q:Value->Shared->Prop}{E:Value->Shared->Prop}{prog:Program}{w:World}(l1:s.heap.IsList a xs)(l2:s.heap.IsList b ys)(hl:xs.size+ys.size<=1000000)
 (h:Q (.ref s.heap.objs.size) {s with heap:=s.heap.push {cls:=.type "list",data:=.seq (xs++ys)}}):wpAny (model prog w) A (binaryOp .Add (.ref a) (.ref b)) Q E s:=by
 obtain ⟨o,ho,hc,k,hd⟩:=l1
 obtain ⟨u,Kp,Cm,k2,qL⟩:=l2
 exact concat_meets ⟨_,ho,hc⟩ ⟨_,Kp,Cm⟩ noFill_list_add seq_list_add PySem.F.slot_list_add PySem.F.entry_list_add (PySem.F.args_list_add_2 _ _) (list_addW a b xs ys k k2 o.dict u.dict o.slots u.slots (Nat.le_trans hl (by decide))) ⟨ho.trans (congrArg some (AK hc hd)),Kp.trans (congrArg some (AK Cm qL)),h⟩
theorem Tu{op:Operator}{va vb:Value}{a b:AV}{Q:AV->MM->AH->Prop}(ea:er va=a)(eb:er vb=b)(h:nu op (λv H'=>Q v m H') H a b):AW G n fx (binaryOp op va vb) VA Q E m H:=by
 induction h with
 |int h=>exact eI ea λt=>eI eb λu=>Q4 h
 |str e l h=>exact e▸eS ea λt=>eS eb λu=>Q5 l h
 |af fc e ha hb l h=>
  refine e▸eR ea (eR eb λbb hh tk ok r=>?_)
  have l1:=r.list ha
  have l2:=r.list hb
  induction l1 with|mk cv l1=>
  induction l2 with|mk cw l2=>
  rw [List.length_map,List.length_map] at l
  refine Oe (s:=G.sh hh tk) l1 l2 l ?_
  have h2:=r.push (o:=.list fc ((cv++cw).map er)) ok rfl λD=>wj (cv++cw) fc
  rw [List.map_append,<-List.append_toArray] at h2
  exact qn h2.2 rfl (h _ h2.1)
inductive SE:AV->AV->Bool->Prop
 |ii (x y:Int):SE (.int x) (.int y) (x==y)
 |iN (x:Int):SE (.int x) .none false
 |ss (x y:List Nat):SE (.str x) (.str y) (x==y)
 |sN (x:List Nat):SE (.str x) .none false
 |bb (x y:Bool):SE (.bool x) (.bool y) (x==y)
 |NN:SE .none .none true
 |Ni (x:Int):SE .none (.int x) false
 |Ns (x:List Nat):SE .none (.str x) false
inductive SV:Value->Value->Bool->Prop
 |ii (x t y u):SV (.int x t) (.int y u) (x==y)
 |iN (x t):SV (.int x t) .none false
 |ss (x:Str) (t) (y:Str) (u):SV (.str x t) (.str y u) (x.cps.toList==y.cps.toList)
 |sN (x t):SV (.str x t) .none false
 |bb (x y):SV (.bool x) (.bool y) (x==y)
 |NN:SV .none .none true
 |Ni (x t):SV .none (.int x t) false
 |Ns (x t):SV .none (.str x t) false
theorem mL{a b:Str}(h:a.cps.toList=b.cps.toList):a=b:=congrArg (λl:List Nat=>(⟨l.toArray⟩:Str)) h
theorem Pa(a b:Str):(a==b)=(a.cps.toList==b.cps.toList):=by
 rw [Bool.eq_iff_iff,beq_iff_eq,beq_iff_eq];exact ⟨λq=>q▸rfl,mL⟩
theorem SE.sv{va vb:Value}{a b:AV}{c:Bool}(h:SE a b c)(ea:er va=a)(eb:er vb=b):SV va vb c:=by
 induction h with
 |ii=>exact eI ea λt=>eI eb λu=>.ii ..
 |iN=>exact eI ea λt=>eN eb (.iN ..)
 |ss=>exact eS ea λt=>eS eb λu=>.ss ..
 |sN=>exact eS ea λt=>eN eb (.sN ..)
 |bb=>exact eB ea (eB eb (.bb ..))
 |NN=>exact eN ea (eN eb .NN)
 |Ni=>exact eI eb λu=>eN ea (.Ni ..)
 |Ns=>exact eS eb λu=>eN ea (.Ns ..)
noncomputable def isNone:AV->Bool
 |.none=>true
 |_=>false
noncomputable def WN(x a:AV):Option {c:Bool // SE x a c}:=
 match x with
 |.int x=>(match a with|.int y=>some ⟨_,.ii x y⟩|.none=>some ⟨_,.iN x⟩|_=>none)
 |.str x=>(match a with|.str y=>some ⟨_,.ss x y⟩|.none=>some ⟨_,.sN x⟩|_=>none)
 |.none=>(match a with|.none=>some ⟨_,.NN⟩|.int y=>some ⟨_,.Ni y⟩|.str y=>some ⟨_,.Ns y⟩|_=>none)
 |_=>none
noncomputable def gn(x a:AV):Option Bool:=(WN x a).map (·.1)
theorem Q6{x a:AV}{c:Bool}(h:gn x a=some c):SE x a c:=by
 obtain ⟨⟨d,p⟩,_,e⟩:=Option.map_eq_some_iff.mp h
 exact e▸p
noncomputable def iC:List (Int×AV)->Int->Option AV
 |[],_=>none
 |(k,v)::r,i=>if k=i then some v else iC r i
noncomputable def fM:List (List Nat×AV)->List Nat->Option AV
 |[],_=>none
 |(k,v)::r,i=>if k=i then some v else fM r i
inductive jt(H:AH):AV->AV->Bool->Prop
 |list {x:Nat} {k:LK} {xs:List AV} {a:AV} (e:H x=some (.list k xs)) (h:∀y∈xs,(gn y a).isSome=true):jt H a (.ref x) (xs.any λx=>gn x a==some true)
 |aj {x:Nat} {xs:List AV} {a:AV} (e:H x=some (.aj xs)) (h:∀y∈xs,(gn y a).isSome=true):jt H a (.ref x) (xs.any λx=>gn x a==some true)
 |bz {x:Nat} {fz:Bool} {kvs:List (Int×AV)} (i:Int) (e:H x=some (.bz fz kvs)):jt H (.int i) (.ref x) (iC kvs i).isSome
 |bX {x:Nat} {fz:Bool} {kvs:List (List Nat×AV)} (s:List Nat) (e:H x=some (.bX fz kvs)):jt H (.str s) (.ref x) (fM kvs s).isSome
inductive LT(H:AH)(x y:Nat)(xs ys:List AV):Prop
 |aj (e1:H x=some (.aj xs)) (e2:H y=some (.aj ys))
 |list {k l:LK} (e1:H x=some (.list k xs)) (e2:H y=some (.list l ys))
inductive sq(H:AH):Nat->AV->AV->Prop
 |xW {n:Nat} {a b:AV} (h:SE a b true):sq H n a b
 |IY {n x y:Nat} {xs ys:List AV} (e:LT H x y xs ys) (l:xs.length=ys.length) (h:∀(i:Nat) u v,xs[i]?=some u->ys[i]?=some v->sq H n u v):sq H (n+1) (.ref x) (.ref y)
inductive G2(H:AH)(x y:Nat):Prop
 |seq {xs ys:List AV} (e:LT H x y xs ys) (l:xs.length=ys.length) (h:∀(i:Nat) u v,xs[i]?=some u->ys[i]?=some v->sq H 4 u v)
 |dict {f g:Bool} {kvs:List (Int×AV)} (e1:H x=some (.bz f kvs)) (e2:H y=some (.bz g kvs)) (h:∀p∈kvs,∃i,p.2=.int i)
inductive dZ(k:Bool->Prop)(H:AH):CmpOp->AV->AV->Prop
 |eq {a b:AV} {c:Bool} (e:SE a b c) (h:k c):dZ k H .Eq a b
 |ne {a b:AV} {c:Bool} (e:SE a b c) (h:k (!c)):dZ k H .NotEq a b
 |u5 {x y:Nat} (e:G2 H x y) (h:k false):dZ k H .NotEq (.ref x) (.ref y)
 |is {a:AV} (h:k (isNone a)):dZ k H .Is a .none
 |yw {a b:AV} {c:Bool} (e:jt H a b c) (h:k c):dZ k H .In a b
 |yx {a b:AV} {c:Bool} (e:jt H a b c) (h:k (!c)):dZ k H .NotIn a b
 |lt {x y:Int} (h:k (decide (x<y))):dZ k H .Lt (.int x) (.int y)
 |le {x y:Int} (h:k (decide (x<=y))):dZ k H .LtE (.int x) (.int y)
 |gt {x y:Int} (h:k (decide (y<x))):dZ k H .Gt (.int x) (.int y)
 |ge {x y:Int} (h:k (decide (y<=x))):dZ k H .GtE (.int x) (.int y)
theorem WT{va vb:Value}{c:Bool}{Q:AV->MM->AH->Prop}(e:SV va vb c)(h:Q (.bool c) m H):AW G n fx (compareOp .Eq va vb) VA Q E m H:=eV h λhh tk P hP=>by
 have hP:=hP (.bool c) tk rfl
 induction e with
 |ii=>exact PySem.P.eq_int hP
 |iN=>exact PySem.EqNone.eq_int_none hP
 |ss=>exact PySem.P.eq_str hP
 |sN=>exact PySem.EqNone.eq_str_none hP
 |bb=>exact eq_bool hP
 |NN=>exact PySem.EqNone.eq_none_none hP
 |Ni=>exact PySem.EqNone.eq_none_int hP
 |Ns=>exact PySem.EqNone.eq_none_str hP
theorem WU{va vb:Value}{c:Bool}{Q:AV->MM->AH->Prop}(e:SV va vb c)(h:Q (.bool (!c)) m H):AW G n fx (compareOp .NotEq va vb) VA Q E m H:=eV h λhh tk P hP=>by
 have hP:=hP (.bool (!c)) tk rfl
 induction e with
 |ii=>exact PySem.P.ne_int hP
 |iN=>exact PySem.EqNone.ne_int_none hP
 |ss=>exact PySem.P.ne_str hP
 |sN=>exact PySem.EqNone.ne_str_none hP
 |bb=>exact ne_bool hP
 |NN=>exact PySem.EqNone.ne_none_none hP
 |Ni=>exact PySem.EqNone.ne_none_int hP
 |Ns=>exact PySem.EqNone.ne_none_str hP
end
theorem wm{K:Type}[DecidableEq K](p:K×Value)(r:List (K×Value))(k:K):valueAt (p::r) k=if p.1=k then some p.2 else valueAt r k:=by
 unfold valueAt;rw [List.find?_cons]
 by_cases h:p.1=k
 ·rw [if_pos h,decide_eq_true h];rfl
 ·rw [if_neg h,decide_eq_false h]
theorem nV(ck:List (Int×Value))(i:Int):iC (ck.map λp=>(p.1,er p.2)) i=(valueAt ck i).map er:=by
 induction ck with
 |nil=>rfl
 |cons p r ih=>rw [wm,apply_ite (Option.map er),<-ih];rfl
theorem zU(ck:List (Str×Value))(i:Str):fM (ck.map λp=>(p.1.cps.toList,er p.2)) i.cps.toList=(valueAt ck i).map er:=by
 induction ck with
 |nil=>rfl
 |cons p r ih=>
  rw [wm,apply_ite (Option.map er),<-ih,List.map_cons,fM]
  exact ite_congr (propext ⟨mL,λq=>q▸rfl⟩) (λZaa=>rfl) λZaa=>rfl
theorem EI(ck:List (Str×Value))(s:List Nat):fM (ck.map λp=>(p.1.cps.toList,er p.2)) s=(valueAt ck (⟨s.toArray⟩:Str)).map er:=zU ck ⟨s.toArray⟩
theorem nW{cv:List Value}{j:Nat}(h:j<cv.toArray.size):(cv.map er)[j]?=some (er cv.toArray[j]):=by
 rw [List.getElem?_map,List.getElem?_eq_getElem h];rfl
theorem zv{K:Type}[DecidableEq K]{prog:Program}{w:World}{knd:KeyKind prog w K}{h:Heap}{a:Addr}{ck:List (K×Value)}(x:h.DictOf knd a ck):(ck.map (·.1)).Nodup:=x.choose_spec.choose_spec.choose_spec.2.2.2.2.2
theorem Eg{p:Int×Value}:∀{ck:List (Int×Value)},(ck.map (·.1)).Nodup->p∈ck->valueAt ck p.1=some p.2
 |q::r,hn,hp=>by
  rw [List.map_cons,List.nodup_cons] at hn
  rw [wm]
  rcases List.mem_cons.mp hp with e|hp
  ·rw [e,if_pos rfl]
  ·rw [if_neg λ(e:q.1=p.1)=>hn.1 (e▸List.mem_map_of_mem hp)];exact Eg hn.2 hp
section
variable{G:Gx}{n:Nat}{fx:Fx}{E:Addr->AH->Prop}{m:MM}{H:AH}
open PySem.SeqAt in
theorem SV.at{A:Around}{s:Shared}{x y:Value}{c:Bool}(h:SV x y c):EqAt A s x y c:=by
 induction h with
 |ii=>exact EqAt.int_int _ _ _ _
 |iN=>exact EqAt.int_none _ _
 |ss=>exact Pa _ _▸EqAt.str_str _ _ _ _
 |sN=>exact EqAt.str_none _ _
 |bb=>exact EqAt.bool_bool _ _
 |NN=>exact EqAt.same _
 |Ni=>exact EqAt.none_int _ _
 |Ns=>exact EqAt.none_str _ _
theorem Pb{A:Around}{s:Shared}{x y:Value}{c:Bool}(h:gn (er x) (er y)=some c):PySem.SeqAt.EqAt A s x y c:=((Q6 h).sv rfl rfl).at
theorem G3(cv:List Value)(va:Value):(cv.map er).any (λx=>gn x (er va)==some true)=cv.toArray.any λy=>gn (er y) (er va)==some true:=by
 rw [List.any_map,List.any_toArray];rfl
theorem E4{A:Around}{s:Shared}{va:Value}{cv:List Value}(h:∀x∈cv.map er,(gn x (er va)).isSome=true):∀y,y∈cv.toArray->PySem.SeqAt.EqAt A s y va (gn (er y) (er va)==some true):=λy hy=>by
 cases hc:gn (er y) (er va) with
 |none=>exact ff (congrArg Option.isSome hc) (h (er y) (List.mem_map_of_mem (List.mem_toArray.mp hy)))
 |some c=>have:=Pb (A:=A) (s:=s) hc;induction c<;>exact this
inductive VI(G:Gx)(A:Around)(h:Heap)(tk:Nat):Value->Value->Bool->Prop
 |list {x:Nat} {va:Value} {items:Array Value} (l:h.IsList x items) (e:Value->Bool) (he:∀y,y∈items->PySem.SeqAt.EqAt A.in1 (G.sh h tk) y va (e y)):VI G A h tk va (.ref x) (items.any e)
 |aj {x:Nat} {va:Value} {items:Array Value} (l:h.IsTuple x items) (e:Value->Bool) (he:∀y,y∈items->PySem.SeqAt.EqAt A.in1 (G.sh h tk) y va (e y)):VI G A h tk va (.ref x) (items.any e)
 |int {x:Nat} {i:Int} {t:Tok} {ck:List (Int×Value)} (s:(x==sysModules)=false) (d:h.DictOf (intKind G.prog G.w) x ck):VI G A h tk (.int i t) (.ref x) (valueAt ck i).isSome
 |str {x:Nat} {i:Str} {t:Tok} {ck:List (Str×Value)} (s:(x==sysModules)=false) (d:h.DictOf (strKind G.prog G.w) x ck):VI G A h tk (.str i t) (.ref x) (valueAt ck i).isSome
theorem jt.vi{A:Around}{va vb:Value}{a b:AV}{c:Bool}{bb h:Heap}{tk:Nat}(r:RX G fx bb m H h)(ea:er va=a)(eb:er vb=b)(x:jt H a b c):VI G A h tk va vb c:=by
 induction x with
 |list e h=>
  refine eR eb ?_
  have l:=r.list e
  induction l with|mk cv l=>subst ea;exact G3 cv va▸.list l _ (E4 h)
 |aj e h=>
  refine eR eb ?_
  have l:=r.aj e
  induction l with|mk cv l=>subst ea;exact G3 cv va▸.aj l _ (E4 h)
 |bz i e=>
  refine eR eb ?_
  have l:=r.bz e
  induction l with|mk s ck d=>rw [nV,Option.isSome_map];exact eI ea λt=>.int s d
 |bX i e=>
  refine eR eb ?_
  have l:=r.bX e
  induction l with|mk s ck d=>rw [EI,Option.isSome_map];exact eS ea λt=>.str s d
theorem WW{va vb:Value}{a b:AV}{c:Bool}{Q:AV->MM->AH->Prop}(ea:er va=a)(eb:er vb=b)(x:jt H a b c)(h:Q (.bool c) m H):AW G n fx (compareOp .In va vb) VA Q E m H:=λbb hh tk ok r=>by
 have q:∀tk,iX G fx bb VA Q (.bool c) (G.sh hh tk):=λZaa=>qn r rfl h
 have x:=jt.vi (A:=fx.A) (tk:=tk) r ea eb x
 induction x with
 |list l e he=>exact PySem.SeqAt.in_listAt _ l he (q _)
 |aj l e he=>exact PySem.SeqAt.in_tupleAt _ l he (q _)
 |int s d=>exact wpAny_in_of (intKind_is _ _ _ _) s d.mapOf (q _)
 |str s d=>exact wpAny_in_of (strKind_is _ _ _ _) s d.mapOf (q _)
theorem Pc{va vb:Value}{a b:AV}{c:Bool}{Q:AV->MM->AH->Prop}(ea:er va=a)(eb:er vb=b)(x:jt H a b c)(h:Q (.bool (!c)) m H):AW G n fx (compareOp .NotIn va vb) VA Q E m H:=λbb hh tk ok r=>by
 have q:∀tk,iX G fx bb VA Q (.bool (!c)) (G.sh hh tk):=λZaa=>qn r rfl h
 have x:=jt.vi (A:=fx.A) (tk:=tk) r ea eb x
 induction x with
 |list l e he=>exact PySem.SeqAt.notIn_listAt _ l he (q _)
 |aj l e he=>exact PySem.SeqAt.notIn_tupleAt _ l he (q _)
 |int s d=>exact wpAny_notIn_of (intKind_is _ _ _ _) s d.mapOf (q _)
 |str s d=>exact wpAny_notIn_of (strKind_is _ _ _ _) s d.mapOf (q _)
theorem wK(n:Nat):(List.range n).all (λZaa=>true)=true:=List.all_eq_true.mpr λZaa Zaa=>rfl
inductive Cn(h:Heap)(x y:Addr):List AV->List AV->Prop
 |aj (cv cw:List Value) (l1:IsTup h x cv.toArray) (l2:IsTup h y cw.toArray):Cn h x y (cv.map er) (cw.map er)
 |list (cv cw:List Value) (l1:h.IsList x cv.toArray) (l2:h.IsList y cw.toArray):Cn h x y (cv.map er) (cw.map er)
theorem LT.v{bb h:Heap}{x y:Nat}{xs ys:List AV}(r:RX G fx bb m H h)(e:LT H x y xs ys):Cn h x y xs ys:=by
 induction e with
 |aj e1 e2=>exact (r.aj e1).casesOn λcv l1=>(r.aj e2).casesOn λcw l2=>.aj cv cw l1 l2
 |list e1 e2=>exact (r.list e1).casesOn λcv l1=>(r.list e2).casesOn λcw l2=>.list cv cw l1 l2
open PySem.SeqAt in
theorem Nm{bb:Heap}{hh:Heap}{tk:Nat}(r:RX G fx bb m H hh){k:Nat}{a b:AV}(h:sq H k a b):∀(A:Around) (v u:Value),er v=a->er u=b->A.units+k<cLine->EqAt A (G.sh hh tk) v u true:=by
 induction h with
 |xW h=>exact λA v u ea eb Zaa=>(h.sv ea eb).at
 | @IY k x y xs ys e l h ih=>
   intro A v u ea eb hu
   refine eR ea (eR eb ?_)
   by_cases Co:x=y
   ·rw [Co];exact EqAt.same _
   have hk:A.in1.units+k<cLine:=by show A.units+1+k<cLine;lia
   refine EqAt.of_refs Co ?_
   have hA:A.units<cLine:=by lia
   have e:=e.v r
   clear h hu Co
   induction e with
   |aj cv cw l1 l2=>
    rw [List.length_map,List.length_map] at l
    have hg:=RcAt.tuples (A:=A) (s:=G.sh hh tk) (e:=λZaa=>true) l1 l2 hA λj h1 h2=>ih j _ _ (nW h1) (nW h2) A.in1 _ _ rfl rfl hk
    rwa [wK,Bool.true_and,show (cv.toArray.size==cw.toArray.size)=true from beq_iff_eq.mpr l] at hg
   |list cv cw l1 l2=>
    rw [List.length_map,List.length_map] at l
    have hg:=RcAt.lists (A:=A) (s:=G.sh hh tk) (e:=λZaa=>true) l1 l2 l hA λj h1 h2=>ih j _ _ (nW h1) (nW h2) A.in1 _ _ rfl rfl hk
    rwa [wK] at hg
theorem keq_hits{A:Around}{s:Shared}{kb:List (Int×Value)}:∀{ka:List (Int×Value)},(∀p∈ka,∃y,valueAt kb p.1=some y/\SV p.2 y true)->KeqHits A s kb ka true
 |[],_=>.nil
 |(k,v)::r,h=>let ⟨y,e1,e2⟩:=h _ (.head _);.hit (e:=true) (b:=true) e1 e2.at (keq_hits λp hp=>h p (.tail _ hp))
open PySem.SeqAt in
theorem Tv{va vb:Value}{x y:Nat}{Q:AV->MM->AH->Prop}(ea:er va=.ref x)(eb:er vb=.ref y)(h:G2 H x y)(hq:Q (.bool false) m H):AW G n fx (compareOp .NotEq va vb) VA Q E m H:=by
 refine eR ea (eR eb λbb hh tk ok r=>?_)
 have hu:=ok.units
 have u6:fx.A.units<cLine:=by lia
 have Kq:fx.A.in1.units+4<cLine:=by show fx.A.units+1+4<cLine;lia
 have fin:iX G fx bb VA Q (.bool false) (G.sh hh tk):=qn r rfl hq
 clear hu
 induction h with
 |seq e l h=>
  have Kr:=λj u v a b=>Nm (tk:=tk) r (h j u v a b)
  have e:=e.v r
  clear h
  induction e with
  |aj cv cw l1 l2=>
   rw [List.length_map,List.length_map] at l
   refine RcNeAt.tuples (A:=fx.A) (s:=G.sh hh tk) (e:=λZaa=>true) l1 l2 u6 (λj h1 h2=>Kr j _ _ (nW h1) (nW h2) fx.A.in1 _ _ rfl rfl Kq) _ _ _ _ ?_
   rw [wK,Bool.true_and,show (cv.toArray.size==cw.toArray.size)=true from beq_iff_eq.mpr l];exact fin
  |list cv cw l1 l2=>
   rw [List.length_map,List.length_map] at l
   refine RcNeAt.lists (A:=fx.A) (s:=G.sh hh tk) (e:=λZaa=>true) l1 l2 l u6 (λj h1 h2=>Kr j _ _ (nW h1) (nW h2) fx.A.in1 _ _ rfl rfl Kq) _ _ _ _ ?_
   rw [wK];exact fin
 |dict o1 o2 WX=>
  obtain ⟨D,ck,hd,e1⟩:=r.cont o1
  obtain ⟨D,Ks,qL,e2⟩:=r.cont o2
  have e:=e1.trans e2.symm
  have hlen:ck.length=Ks.length:=(List.length_map _).symm.trans ((congrArg List.length e).trans (List.length_map _))
  refine keq_ne (s:=G.sh hh tk) (knd:=intKind G.prog G.w) (r.j5 o1) (r.j5 o2) hd qL u6 (r:=true) (λZaa=>keq_hits λp hp=>?_) ?_
  ·obtain ⟨i,hi⟩:=WX (p.1,er p.2) (e1▸List.mem_map_of_mem (f:=λp=>(p.1,er p.2)) hp)
   have h1:=nV Ks p.1
   rw [<-e,nV,Eg (zv hd) hp] at h1
   obtain ⟨y,ZS,ZT⟩:=Option.map_eq_some_iff.mp h1.symm
   exact ⟨y,ZS,beq_self_eq_true i▸(SE.ii i i).sv hi (ZT.trans hi)⟩
  ·rw [Bool.and_true,beq_iff_eq.mpr hlen];exact fin
theorem Nn{v:Value}(e:v≠.none):isNone (er v)=false:=by induction v<;>first|rfl|exact absurd rfl e
theorem Bo{op:CmpOp}{va vb:Value}{a b:AV}{Q:AV->MM->AH->Prop}(ea:er va=a)(eb:er vb=b)(h:dZ (λc=>Q (.bool c) m H) H op a b):AW G n fx (compareOp op va vb) VA Q E m H:=by
 induction h with
 |eq e h=>exact WT (e.sv ea eb) h
 |ne e h=>exact WU (e.sv ea eb) h
 |u5 e h=>exact Tv ea eb e h
 |is h=>
  subst ea
  refine eN eb (eV h λhh tk P hP=>?_)
  have hP:=hP (.bool (isNone (er va))) tk rfl
  by_cases e:va=.none
  ·subst e;exact is_none_none hP
  ·rw [Nn e] at hP;exact is_none_ne e hP
 |yw e h=>exact WW ea eb e h
 |yx e h=>exact Pc ea eb e h
 |lt h=>exact eI ea λt=>eI eb λu=>eV h λhh tk P hP=>PySem.P.lt_int (hP _ _ rfl)
 |le h=>exact eI ea λt=>eI eb λu=>eV h λhh tk P hP=>PySem.P.le_int (hP _ _ rfl)
 |gt h=>exact eI ea λt=>eI eb λu=>eV h λhh tk P hP=>PySem.P.gt_int (hP _ _ rfl)
 |ge h=>exact eI ea λt=>eI eb λu=>eV h λhh tk P hP=>PySem.P.ge_int (hP _ _ rfl)
inductive jL(k:Bool->Prop)(H:AH):AV->Prop
 |bool {b:Bool} (h:k b):jL k H (.bool b)
 |int {i:Int} (h:k (i != 0)):jL k H (.int i)
 |str {s:List Nat} (l:s.length<=1000000) (h:k (!s.isEmpty)):jL k H (.str s)
 |none (h:k false):jL k H .none
 |list {c:Nat} {kk:LK} {xs:List AV} (e:H c=some (.list kk xs)) (l:xs.length<=1000000) (h:k (!xs.isEmpty)):jL k H (.ref c)
noncomputable abbrev VB:Bool->Bool->Prop:=λa b=>a=b
theorem Pd{α:Type}(s:List α):((s.length:Int) != 0)=!s.isEmpty:=by
 induction s with
 |nil=>rfl
 |cons x r=>exact bne_iff_ne.mpr (Int.ofNat_ne_zero.mpr (Nat.succ_ne_zero _))
theorem E5{va:Value}{a:AV}{Q:Bool->MM->AH->Prop}(ea:er va=a)(h:jL (λc=>Q c m H) H a):AW G n fx (truthy va) VB Q E m H:=by
 induction h with
 |bool h=>exact eB ea λbb hh tk ok r=>wpAny_truthy_bool (qn r rfl h)
 |int h=>exact eI ea λt bb hh tk ok r=>PySem.P.truthy_int (qn r rfl h)
 |str l h=>exact eS ea λt bb hh tk ok r=>PySem.P.truthy_str (Int.not_le.mpr (Int.lt_of_le_of_lt (Int.ofNat_le.mpr l) (by decide))) (qn r rfl ((Pd _).symm▸h))
 |none h=>exact eN ea λbb hh tk ok r=>truthy_none (qn r rfl h)
 |list e l h=>
  refine eR ea λbb hh tk ok r=>?_
  have x:=r.list e
  induction x with|mk cv x=>
  rw [List.length_map] at l
  refine wpAny_truthy_list x (Int.lt_of_le_of_lt (Int.ofNat_le.mpr l) (by decide)) (qn r rfl ?_)
  rw [List.isEmpty_map] at h;rw [List.isEmpty_toArray];exact h
noncomputable def gP{α:Type}(xs:List α)(k:Int):Option α:=if 0<=k then xs[k.toNat]? else if-(xs.length:Int)<=k then xs[(k+xs.length).toNat]? else none
theorem EJ{cv:List Value}{k:Int}{v:AV}(h:gP (cv.map er) k=some v):∃x,gP cv k=some x/\er x=v:=by
 unfold gP at h
 rw [List.length_map,List.getElem?_map,List.getElem?_map,show (none:Option AV)=Option.map er none from rfl,<-apply_ite (Option.map er),<-apply_ite (Option.map er)] at h
 exact Option.map_eq_some_iff.mp h
theorem H9{k:Int}{n:Nat}(h0:0<=k)(h:k.toNat<n):seqIndex? k n=some k.toNat:=by
 show (if (decide (0<=if k<0 then k+n else k)&&decide ((if k<0 then k+n else k)<n))=true then some (if k<0 then k+n else k).toNat else none)=_
 rw [if_neg (Int.not_lt.mpr h0),decide_eq_true h0,decide_eq_true ((Int.toNat_lt h0).mp h)];rfl
theorem Tw{k:Int}{n:Nat}(h0:k<0)(h1:-(n:Int)<=k):seqIndex? k n=some (k+n).toNat:=by
 show (if (decide (0<=if k<0 then k+n else k)&&decide ((if k<0 then k+n else k)<n))=true then some (if k<0 then k+n else k).toNat else none)=_
 rw [if_pos h0,decide_eq_true (show 0<=k+n by lia),decide_eq_true (show k+n<n by lia)];rfl
theorem EK{α:Type}{cv:List α}{k:Int}{x:α}(h:gP cv k=some x):∃j,seqIndex? k cv.length=some j/\cv[j]?=some x:=by
 unfold gP at h
 by_cases h0:0<=k
 ·rw [if_pos h0] at h;exact ⟨_,H9 h0 (List.getElem?_eq_some_iff.mp h).1,h⟩
 ·rw [if_neg h0] at h
  by_cases h1:-(cv.length:Int)<=k
  ·rw [if_pos h1] at h;exact ⟨_,Tw (Int.not_le.mp h0) h1,h⟩
  ·rw [if_neg h1] at h;cases h
inductive gQ(Q:AV->Prop)(H:AH):AV->AV->Prop
 |list {c:Nat} {kk:LK} {xs:List AV} {k:Int} {v:AV} (e:H c=some (.list kk xs)) (b:-1000000<=k/\k<=1000000) (g:gP xs k=some v) (h:Q v):gQ Q H (.ref c) (.int k)
 |aj {c:Nat} {xs:List AV} {k:Int} {v:AV} (e:H c=some (.aj xs)) (b:-1000000<=k/\k<=1000000) (g:gP xs k=some v) (h:Q v):gQ Q H (.ref c) (.int k)
 |bz {c:Nat} {fz:Bool} {kvs:List (Int×AV)} {i:Int} {v:AV} (e:H c=some (.bz fz kvs)) (g:iC kvs i=some v) (h:Q v):gQ Q H (.ref c) (.int i)
 |bX {c:Nat} {fz:Bool} {kvs:List (List Nat×AV)} {s:List Nat} {v:AV} (e:H c=some (.bX fz kvs)) (g:fM kvs s=some v) (h:Q v):gQ Q H (.ref c) (.str s)
 |str {s:List Nat} {k:Int} {c:Nat} (b:-1000000<=k/\k<=1000000) (g:gP s k=some c) (h:Q (.str [c])):gQ Q H (.str s) (.int k)
theorem yy{α:Type}{cv:List α}{j:Nat}{x:α}(h:cv[j]?=some x):cv.toArray[j]?=some x:=(List.getElem?_toArray ..).trans h
theorem Q7{value slice:Expr}{va vb:Value}{a b:AV}{ops:List Value}{Q:AV->MM->AH->Prop}(ea:er va=a)(eb:er vb=b)(h:gQ (λv=>Q v m H) H a b)
 (hs:subscripted slice false va vb=operate ops (getItem va vb)):AW G n fx (subscriptTail value slice va vb) VA Q E m H:=by
 induction h with
 | @list c kk xs k v e b g h=>
   revert hs;refine eR ea (eI eb λt hs bb hh tk ok r=>?_)
   have l:=r.list e
   induction l with|mk cv l=>
   obtain ⟨x,hx,rfl⟩:=EJ g
   refine tail_any l.typeIs slot_list_getitem.lookup ?_ hs
   have q:iX G fx bb VA Q x (G.sh hh tk):=qn r rfl h
   unfold gP at hx
   by_cases h0:0<=k
   ·rw [if_pos h0] at hx;exact wpAny_getItem_list l h0 (by have:=b.2;lia) (yy hx) q
   ·rw [if_neg h0] at hx
    by_cases h1:-(cv.length:Int)<=k
    ·rw [if_pos h1] at hx;exact wpAny_getItem_list_neg l (Int.not_le.mp h0) h1 (by have:=b.1;lia) (yy hx) q
    ·rw [if_neg h1] at hx;cases hx
 |aj e b g h=>
  revert hs;refine eR ea (eI eb λt hs bb hh tk ok r=>?_)
  have l:=r.aj e
  induction l with|mk cv l=>
  obtain ⟨x,hx,rfl⟩:=EJ g
  obtain ⟨j,j1,j2⟩:=EK hx
  exact tail_any l.typeIs slot_tuple_getitem.lookup (PyProof.Rows.getItem_tuple l (by have:=b.1;lia) (by have:=b.2;lia) j1 (yy j2) (qn r rfl h)) hs
 |bz e g h=>
  revert hs;refine eR ea (eI eb λt hs bb hh tk ok r=>?_)
  have l:=r.bz e
  induction l with|mk sy ck d=>
  rw [nV] at g
  obtain ⟨x,hx,rfl⟩:=Option.map_eq_some_iff.mp g
  exact tail_any d.typeIs slot_dict_getitem.lookup (wpAny_getItem_of (intKind_is _ _ _ _) d.mapOf hx (qn r rfl h)) hs
 |bX e g h=>
  revert hs;refine eR ea (eS eb λt hs bb hh tk ok r=>?_)
  have l:=r.bX e
  induction l with|mk sy ck d=>
  rw [EI] at g
  obtain ⟨x,hx,rfl⟩:=Option.map_eq_some_iff.mp g
  exact tail_any d.typeIs slot_dict_getitem.lookup (wpAny_getItem_of (strKind_is _ _ _ _) d.mapOf hx (qn r rfl h)) hs
 |str b g h=>
  revert hs;refine eS ea λt=>eI eb λu hs bb hh tk ok r=>?_
  obtain ⟨j,j1,j2⟩:=EK g
  exact tail_any (typeIs_str _ _ _) slot_str_getitem.lookup (PySem.P.getItem_str (by have:=b.1;have:=b.2;simp only [Bool.or_eq_false_iff,decide_eq_false_iff_not];lia) (by simp [Str.length,j1,j2]) (qn r rfl h)) hs
end
section
set_option tactic.hygienic true
section
variable{prog:Program}{w:World}{h h':Heap}{a:Addr}{ck:List (Str×Value)}{name:Str}{v:Value}{es:List DictEntry}
theorem Eh{e:DictEntry}{kv:Str×Value}(h1:(strKind prog w).is kv.1 e.key=true):e.key.isStr name=decide (kv.1=name):=by
 rw [isStr_of]
 exact (KeyKind.is_eq_decide h1 name).trans (decide_eq_decide.mpr ⟨Eq.symm,Eq.symm⟩)
theorem zG(x:Pairs (strKind prog w) es ck):getL name es=some (valueAt ck name):=by
 induction x with
 |nil=>rfl
 | @cons e kv es kvs h1 h2 h3 ih=>
   have hr:e.refKey=false:=by
    obtain ⟨t,ht⟩:=Value.isStrOf_shape h1
    unfold DictEntry.refKey;rw [ht]
   unfold getL at ih ⊢
   rw [List.find?_cons,wm,Eh h1]
   by_cases q:kv.1=name
   ·rw [if_pos q,decide_eq_true q,<-h2]
   ·rw [if_neg q,decide_eq_false q,List.any_cons,hr];exact ih
inductive ZU(prog:Program)(w:World)(h:Heap)(a:Addr)(ck:List (Str×Value)):Prop
 |mk (es:List DictEntry) (n:Nat) (h1:h.get? a=some (dictOf es n)) (h2:Pairs (strKind prog w) es ck) (h3:PySem.KeysOf (strKind prog w) es.toArray) (h4:(ck.map (·.1)).Nodup)
theorem Ei(x:h.DictOf (strKind prog w) a ck):ZU prog w h a ck:=by
 obtain ⟨o,es,ep,ho,⟨e1,e2,e3⟩,hd,hk,hp,hn⟩:=x
 refine ⟨es.toList,ep,?_,hp,hk,hn⟩
 rw [ho,AK e1 hd,e2,e3]
theorem DW{n:Nat}(h1:h.get? a=some (dictOf es n))(h2:Pairs (strKind prog w) es ck)(h3:PySem.KeysOf (strKind prog w) es.toArray)(h4:(ck.map (·.1)).Nodup):h.DictOf (strKind prog w) a ck:=
 ⟨_,es.toArray,n,h1,⟨rfl,rfl,rfl⟩,rfl,h3,h2,h4⟩
noncomputable def nv:List (Str×Value)->Str->Value->List (Str×Value)
 |[],x,v=>[(x,v)]
 |p::r,x,v=>if p.1=x then (p.1,v)::r else p::nv r x v
theorem wF(p:Str×Value)(r:List (Str×Value)):nv (p::r) name v=if p.1=name then (p.1,v)::r else p::nv r name v:=rfl
theorem Eu{hsh:Int}{t:Tok}(x:Pairs (strKind prog w) es ck):Pairs (strKind prog w) (putL name hsh (.str name t) v es) (nv ck name v):=by
 induction x with
 |nil=>exact .cons (strKind_is _ _ _ _) rfl .nil
 | @cons e kv es kvs h1 h2 h3 ih=>
   have hk:=Eh (name:=name) h1
   unfold putL
   rw [wF,hk]
   by_cases q:kv.1=name
   ·rw [if_pos (decide_eq_true q),if_pos q];exact .cons h1 rfl h3
   ·rw [if_neg (λz=>q (of_decide_eq_true z)),if_neg q];exact .cons h1 h2 ih
noncomputable def Ku(prog:Program)(w:World)(e:DictEntry):Prop:=∃k,(strKind prog w).is k e.key=true/\e.hash=(strKind prog w).hash k
theorem Ml{t:Tok}(h:∀e∈es,Ku prog w e):∀e∈putL name (PyData.keyHash w.params name) (.str name t) v es,Ku prog w e:=by
 induction es with
 |nil=>exact List.forall_mem_singleton.mpr ⟨name,strKind_is _ _ _ _,rfl⟩
 |cons x r ih=>
  obtain ⟨h1,h2⟩:=List.forall_mem_cons.mp h
  unfold putL
  split
  ·exact List.forall_mem_cons.mpr ⟨h1,h2⟩
  ·exact List.forall_mem_cons.mpr ⟨h1,ih h2⟩
theorem Ms{t:Tok}(hk:PySem.KeysOf (strKind prog w) es.toArray):PySem.KeysOf (strKind prog w) (putL name (PyData.keyHash w.params name) (.str name t) v es).toArray:=λe he=>
 Ml (λe he=>hk e (List.mem_toArray.mpr he)) e (List.mem_toArray.mp he)
theorem Np:(ck.map (·.1)).Nodup->((nv ck name v).map (·.1)).Nodup/\∀x∈(nv ck name v).map (·.1),x=name\/x∈ck.map (·.1):=by
 induction ck with
 |nil=>exact λZaa=>⟨List.nodup_cons.mpr ⟨List.not_mem_nil,.nil⟩,λx hx=>.inl (List.mem_singleton.mp hx)⟩
 |cons p r ih=>
  intro h
  rw [wF]
  by_cases q:p.1=name
  ·rw [if_pos q];exact ⟨h,λx hx=>.inr hx⟩
  ·rw [if_neg q]
   have h:=List.nodup_cons.mp h
   obtain ⟨i1,i2⟩:=ih h.2
   refine ⟨List.nodup_cons.mpr ⟨λhm=>(i2 _ hm).elim q h.1,i1⟩,λx hx=>?_⟩
   cases hx with
   |head=>exact .inr (.head _)
   |tail _ hx=>exact (i2 x hx).imp id (.tail _)
noncomputable def kM:List (List Nat×AV)->List Nat->AV->List (List Nat×AV)
 |[],x,v=>[(x,v)]
 |(k,u)::r,x,v=>if k=x then (k,v)::r else (k,u)::kM r x v
noncomputable abbrev pq(p:Str×Value):List Nat×AV:=(p.1.cps.toList,er p.2)
theorem Pe{a b:Str}:(a=b)=(a.cps.toList=b.cps.toList):=propext ⟨λq=>q▸rfl,mL⟩
theorem Of:(nv ck name v).map pq=kM (ck.map pq) name.cps.toList (er v):=by
 induction ck with
 |nil=>rfl
 |cons p r ih=>
  rw [wF,apply_ite (List.map pq)]
  exact ite_congr Pe (λZaa=>rfl) λZaa=>congrArg (_::·) ih
theorem Mt:(nv ck name v).length<=ck.length+1:=by
 induction ck with
 |nil=>exact Nat.le_refl _
 |cons p r ih=>
  rw [wF]
  split
  ·exact Nat.le_succ _
  ·exact Nat.succ_le_succ ih
end
noncomputable def sr(K:Frag)(C:Addr)(nm:Str):Bool:=plainGet K C nm&&hasDictIn K C&&(match findIn K (.ref C) nm with|some attr=>noGet K attr|none=>false)
noncomputable def Bp(K:Frag)(C:Addr)(nm:Str):Bool:=(findIn K (.ref C) "__setattr__"==some (some (.builtin "object.__setattr__")))&&plainOver K C&&(takerIn K C nm==some none)&&hasDictIn K C
noncomputable def AL(K:Frag)(C:Addr)(nm:Str)(f:Addr):Bool:=plainGet K C nm&&(findIn K (.ref C) nm==some (some (.ref f)))&&isFn K (.ref f)
noncomputable def G4(K:Frag)(C f:Addr):Bool:=makesIn K C&&(findIn K (.ref C) "__init__"==some (some (.ref f)))&&isFn K (.ref f)
theorem an{a b:Bool}(h:(a&&b)=true):a=true/\b=true:=Bool.and_eq_true_iff.mp h
section
variable{G:Gx}{n:Nat}{fx:Fx}{E:Addr->AH->Prop}{m:MM}{H:AH}{b hh:Heap}
inductive Kv(G:Gx)(b:Heap)(L:Addr)(h:Heap)(a:Addr)(C:Nat):List (List Nat×AV)->Prop
 |mk (mC:Str->Option Value) (dx:Addr) (es:List DictEntry) (k:Nat) (ck:List (Str×Value)) (F:Fr b L h mC) (I:W.InstAt h a (instObj C dx) C (some (dictOf es k))) (p:Pairs (strKind G.prog G.w) es ck):Kv G b L h a C (ck.map pq)
theorem RX.inst{b h:Heap}{a:Addr}{fz:Bool}{C:Nat}{fs:List (List Nat×AV)}(r:RX G fx b m H h)(e:H a=some (.inst fz C fs)):Kv G b fx.env.locals h a C fs:=by
 induction r with|mk mC D own r=>
 obtain ⟨h1,ck,h2,h3⟩:=r.hr.cont _ _ e
 cases Ei h2 with|mk es k h4 h5=>exact h3▸⟨mC,D a,es,k,ck,r.F,⟨h1,rfl,rfl,h4⟩,h5⟩
theorem G5{va:Value}{a:Addr}{nm:Str}{ex:Bool}{fz:Bool}{C:Nat}{fs:List (List Nat×AV)}{v:AV}{Q:AV->MM->AH->Prop}(ea:er va=.ref a)(e:H a=some (.inst fz C fs))(hok:sr G.K C nm=true)
 (hv:fM fs nm.cps.toList=some v)(hh:∀s,v≠.bi s)(h:Q v m H):AW G n fx (getAttr va nm ex) VA Q E m H:=by
 refine eR ea λb hp tk ok r=>?_
 have x:=r.inst e
 induction x with|mk mC dx es k ck F I p=>
 rw [zU] at hv
 obtain ⟨x,hx,rfl⟩:=Option.map_eq_some_iff.mp hv
 obtain ⟨pA,h3⟩:=an hok
 split at h3
 ·rename_i attr ha
  refine get_own (s:=G.sh hp tk) F ok.cJ I (an pA).1 (an pA).2 ha h3 ((zG p).trans (congrArg some hx)) ?_ (qn r rfl h)
  induction x<;>first|rfl|exact absurd rfl (hh _)
 ·cases h3
theorem Mu{va:Value}{a f:Addr}{nm:Str}{pl:Sem Bool}{fz:Bool}{C:Nat}{fs:List (List Nat×AV)}{Q:Value×List Value->MM->AH->Prop}(ea:er va=.ref a)(e:H a=some (.inst fz C fs))(hok:AL G.K C nm f=true)
 (hv:fM fs nm.cps.toList=none)(h:Q (.ref f,[.ref a]) m H):AW G n fx (getMethod va nm pl) (λx y=>x=y) Q E m H:=by
 refine eR ea λb hp tk ok r=>?_
 have x:=r.inst e
 induction x with|mk mC dx es k ck F I p=>
 rw [zU,Option.map_eq_none_iff] at hv
 obtain ⟨pA,h3⟩:=an hok
 exact method_inst (s:=G.sh hp tk) F ok.cJ I (an pA).1 (beq_iff_eq.mp (an pA).2) h3 ((zG p).trans (congrArg some hv)) (qn r rfl h)
theorem Nq{va vv:Value}{a:Addr}{nm:Str}{C:Nat}{fs:List (List Nat×AV)}{v:AV}{Q:Unit->MM->AH->Prop}(ea:er va=.ref a)(ev:er vv=v)(e:H a=some (.inst false C fs))(hok:Bp G.K C nm=true)
 (hl:fs.length<=900)(h:Q () m (H.ai a (.inst false C (kM fs nm.cps.toList v)))):AW G n fx (setAttr va nm vv) (λZaa Zaa=>True) Q E m H:=by
 refine eR ea λb hp tk ok r=>?_
 induction r with|mk mC D own r=>
 obtain ⟨g1,ck,g2,rfl⟩:=r.hr.cont _ _ e
 cases Ei g2 with|mk es k g4 g5 g6 g7=>
 have hd:=r.hr.dW a _ e rfl
 have l:=r.hr.live _ hd.own
 have yz:=r.hr.fE a _ e rfl
 have m1:=r.hr.live a yz
 have N:News b fx.env.locals hp ((D a,dictOf es k)::(n8 b hp fx.env.locals (own++fx.ig)).filter λp=>p.1 != D a):=List.forall_mem_cons.mpr ⟨⟨g4,l.nl,l.nb⟩,λp hm=>Ef b hp fx.env.locals _ p (List.mem_filter.mp hm).1⟩
 have st:∀{h':Heap} {o},News b fx.env.locals h' ((D a,o)::(n8 b hp fx.env.locals (own++fx.ig)).filter λp=>p.1 != D a)->∀{c ob},c≠D a->(c∈own\/c∈fx.ig)->b.get? c=none->c≠fx.env.locals->hp.get? c=some ob->h'.get? c=some ob:=λN' c ob hne hc hb hL he=>
  (N' (c,ob) (.tail _ (List.mem_filter.mpr ⟨zF (List.mem_append.mpr hc) hb hL he,bne_iff_ne.mpr hne⟩))).1
 have hlen:(putL nm (PyData.keyHash G.w.params nm) (.str nm (tk+1)) vv es).length<=1000:=by
  rw [(Eu (name:=nm) (v:=vv) (hsh:=PyData.keyHash G.w.params nm) (t:=tk+1) g5).length]
  rw [List.length_map] at hl
  exact Nat.le_trans Mt (Nat.le_trans (Nat.succ_le_succ hl) (by decide))
 obtain ⟨WY,h4⟩:=an hok
 obtain ⟨pA,h3⟩:=an WY
 refine set_dict (s:=G.sh hp tk) r.F ok.cJ N ⟨g1,rfl,rfl,g4⟩ rfl (beq_iff_eq.mp (an pA).1) (an pA).2 (beq_iff_eq.mp h3) h4 (by rw [zG g5];rfl) rfl (Upd.head λp hm=>bne_iff_ne.mp (List.mem_filter.mp hm).2) hlen λh' F' N'=>?_
 refine ⟨h',_,m,_,(),rfl,r.BK ok F' e (λc ob=>st N') ⟨st N' (λq=>nz ((congrArg H q).trans hd.no) e) (.inl yz) m1.nb m1.nl g1,nv ck nm vv,?_,?_⟩,trivial,h⟩
 ·exact DW (N' _ (.head _)).1 (Eu g5) (Ms g6) (Np g7).1
 ·rw [<-ev];exact Of
end
end
noncomputable def qy:List (Int×AV)->Int->AV->List (Int×AV)
 |[],x,v=>[(x,v)]
 |(k,u)::r,x,v=>if k=x then (k,v)::r else (k,u)::qy r x v
noncomputable def ny(kvs:List (Int×AV))(x:Int):List (Int×AV):=kvs.filter λp=>decide (p.1≠x)
theorem Nr(p:Int×AV)(r:List (Int×AV))(i:Int)(v:AV):qy (p::r) i v=if p.1=i then (p.1,v)::r else p::qy r i v:=rfl
theorem Nt(p:List Nat×AV)(r:List (List Nat×AV))(i:List Nat)(v:AV):kM (p::r) i v=if p.1=i then (p.1,v)::r else p::kM r i v:=rfl
theorem DF{K:Type}[DecidableEq K]{k:K}{u v:Value}{r:List (K×Value)}(h:k∉r.map (·.1)):stored ((k,u)::r) k v=(k,v)::r:=by
 unfold stored
 simp only [List.any_cons,decide_true,Bool.true_or,if_true,List.map_cons]
 rw [map_store_of_not_mem r k v h]
theorem DG{K:Type}[DecidableEq K]{k i:K}{u v:Value}{r:List (K×Value)}(q:¬k=i):stored ((k,u)::r) i v=(k,u)::stored r i v:=by
 unfold stored
 rw [List.any_cons,decide_eq_false q,Bool.false_or,List.map_cons,if_neg q]
 split<;>rfl
noncomputable abbrev yC(p:Int×Value):Int×AV:=(p.1,er p.2)
theorem Mv{v:Value}{i:Int}{ck:List (Int×Value)}(h:(ck.map (·.1)).Nodup):(stored ck i v).map yC=qy (ck.map yC) i (er v):=by
 induction ck with
 |nil=>rfl
 |cons p r ih=>
  have h:=List.nodup_cons.mp h
  rw [List.map_cons (f:=yC),Nr]
  by_cases q:p.1=i
  ·subst q;rw [if_pos rfl,DF h.1];rfl
  ·rw [if_neg q,DG q,<-ih h.2];rfl
theorem Mw{v:Value}{i:Str}{ck:List (Str×Value)}(h:(ck.map (·.1)).Nodup):(stored ck i v).map pq=kM (ck.map pq) i.cps.toList (er v):=by
 induction ck with
 |nil=>rfl
 |cons p r ih=>
  have h:=List.nodup_cons.mp h
  rw [List.map_cons (f:=pq),Nt]
  by_cases q:p.1=i
  ·subst q;rw [if_pos rfl,DF h.1];rfl
  ·rw [if_neg (λz=>q (mL z)),DG q,<-ih h.2];rfl
theorem DX(ck:List (Int×Value))(i:Int):(without ck i).map (λp=>(p.1,er p.2))=ny (ck.map λp=>(p.1,er p.2)) i:=by
 unfold without ny
 rw [List.filter_map]
 rfl
section
variable{G:Gx}{n:Nat}{fx:Fx}{E:Addr->AH->Prop}{m:MM}{H:AH}
inductive kD(v:AV)(Q:AH->Prop)(H:AH):AV->AV->Prop
 |bz {c:Nat} {kvs:List (Int×AV)} {i:Int} (e:H c=some (.bz false kvs)) (l:kvs.length<=1000000) (h:Q (H.ai c (.bz false (qy kvs i v)))):kD v Q H (.ref c) (.int i)
 |bX {c:Nat} {kvs:List (List Nat×AV)} {s:List Nat} (e:H c=some (.bX false kvs)) (l:kvs.length<=1000000) (h:Q (H.ai c (.bX false (kM kvs s v)))):kD v Q H (.ref c) (.str s)
 |dJ {c:Nat} {xs:List AV} {i:Int} (e:H c=some (.list .dJ xs)) (h0:0<=i) (h1:i<xs.length) (l:xs.length<=1000000) (h:Q (H.ai c (.list .dJ (xs.set i.toNat v)))):kD v Q H (.ref c) (.int i)
theorem iU{a:Nat}(h:a<=1000000):a+1<=sizeLine:=Nat.le_trans (Nat.succ_le_succ h) (by decide)
theorem Pf{va vk vv:Value}{a k v:AV}{Q:Unit->MM->AH->Prop}(ea:er va=a)(ek:er vk=k)(ev:er vv=v)(h:kD v (λH'=>Q () m H') H a k):AW G n fx (setItem va vk vv) (λZaa Zaa=>True) Q E m H:=by
 subst ev
 induction h with
 |bz e l h=>
  refine eR ea (eI ek λt bb hh tk ok r=>?_)
  obtain ⟨D,ck,hd,rfl⟩:=r.cont e
  rw [List.length_map] at l
  exact wpAny_setItem_pairs (intKind_is _ _ _ _) hd (λh' gD e7=>qz h trivial (r.bL e rfl rfl e7 λD Zaa=>⟨_,gD,Mv (zv hd)⟩)) (Nat.le_of_succ_le (iU l))
 |bX e l h=>
  refine eR ea (eS ek λt bb hh tk ok r=>?_)
  obtain ⟨D,ck,hd,rfl⟩:=r.cont e
  rw [List.length_map] at l
  exact wpAny_setItem_pairs (strKind_is _ _ _ _) hd (λh' gD e7=>qz h trivial (r.bL e rfl rfl e7 λD Zaa=>⟨_,gD,Mw (zv hd)⟩)) (Nat.le_of_succ_le (iU l))
 |dJ e h0 h1 l h=>
  refine eR ea (eI ek λt bb hh tk ok r=>?_)
  have x:=r.list e
  generalize hx:List.length _=k1 at l h1
  induction x with|mk cv x=>
  rw [List.length_map] at hx
  refine wpAny_setItem_list x h0 (by lia) (show _<((cv.length:Nat):Int) from hx.symm▸h1) λh' i9 e7=>qz h trivial (r.bL e rfl rfl e7 λD Zaa=>⟨cv.set (Int.toNat _) vv,⟨by simpa using i9,nofun⟩,List.map_set⟩)
theorem E6{va vx:Value}{a:Addr}{x:AV}{xs:List AV}{Q:AV->MM->AH->Prop}(ea:er va=.ref a)(ex:er vx=x)(ho:H a=some (.list .mu xs))(hl:xs.length<=1000000)
 (h:Q .none m (H.ai a (.list .mu (xs++[x])))):AW G n fx (call (.builtin "list.append") [va,vx]) VA Q E m H:=λbb hh tk ok r=>by
 rw [kC ea]
 have x:=r.Tt ho
 induction x with|mk cv bN=>
 rw [List.length_map] at hl
 refine wpAny_list_append_plain bN (λh' i9 e7=>qz h rfl (r.bL ho rfl rfl e7 λD Zaa=>?_)) (Nat.le_of_succ_le (iU hl))
 have IZ:h'.PlainList a (cv++[vx]).toArray:=by rw [<-List.push_toArray];exact i9
 exact ⟨cv++[vx],⟨IZ.isList,λZaa=>IZ⟩,by rw [List.map_append,<-ex];rfl⟩
theorem DY{α β:Type}(f:α->β)(l:List α)(k:Nat):(l.eraseIdx k).map f=(l.map f).eraseIdx k:=by
 induction l generalizing k with
 |nil=>rfl
 |cons x r ih=>induction k with
  |zero=>rfl
  |succ k=>exact congrArg (f x::·) (ih k)
theorem Mh(cv:List Value)(k:Nat):cv.toArray.eraseIdxIfInBounds k=(cv.eraseIdx k).toArray:=by
 unfold Array.eraseIdxIfInBounds
 split
 ·rw [List.eraseIdx_toArray]
 ·rename_i h;rw [List.eraseIdx_of_length_le (Nat.not_lt.mp h)]
theorem FP{D:Addr->Addr}{hh:Heap}{a:Addr}{cv:List Value}{k e:Nat}(ho:hh.get? a=some {cls:=.type "list",data:=.seq cv.toArray e}):
 cY G.prog G.w D (hh.update a (Obj.mapSeq λxs=>xs.eraseIdxIfInBounds k)) a (.list .mu ((cv.map er).eraseIdx k)):=by
 have h1:=Heap.get?_update_self (Obj.mapSeq λxs=>xs.eraseIdxIfInBounds k) ho (by rfl)
 have h2:(hh.update a (Obj.mapSeq λxs=>xs.eraseIdxIfInBounds k)).PlainList a (cv.eraseIdx k).toArray:=⟨_,by rw [h1,<-Mh];rfl⟩
 exact ⟨cv.eraseIdx k,⟨h2.isList,λZaa=>h2⟩,by rw [DY]⟩
theorem Nu{va:Value}{a:Addr}{x:AV}{xs:List AV}{Q:AV->MM->AH->Prop}(ea:er va=.ref a)(ho:H a=some (.list .mu (xs++[x])))(hl:xs.length<=1000000)
 (h:Q x m (H.ai a (.list .mu xs))):AW G n fx (call (.builtin "list.pop") [va]) VA Q E m H:=λbb hh tk ok r=>by
 rw [kC ea]
 obtain ⟨D,cv,h0,hm⟩:=r.cont ho
 obtain ⟨e,bN⟩:=h0.2 rfl
 obtain ⟨cx,l,rfl,h1,h2⟩:=List.map_eq_append_iff.mp hm
 obtain ⟨y,rfl,hy⟩:=List.map_eq_singleton_iff.mp h2
 subst h1
 rw [List.length_map] at hl
 refine call_meetsIn PySem.F.slot_list_pop (T:="list") ⟨_,bN,rfl⟩ PySem.F.entry_list_pop (PySem.F.args_list_pop_1 _)
  ((MeetsSeq.list_pop_last a (cx++[y]).toArray e y (by simp) (by rw [List.size_toArray,List.length_append];exact iU hl)).inModel _ _) ⟨bN,qz h hy (r.bL ho rfl rfl (Heap.SameBut.update ..) λD Zaa=>?_)⟩
 have e2:((cx++[y]).map er).eraseIdx ((cx++[y]).toArray.size-1)=cx.map er:=by
  rw [<-DY,List.size_toArray,List.length_append,List.length_singleton,Nat.add_sub_cancel,List.eraseIdx_append_of_length_le (Nat.le_refl _),Nat.sub_self,show [y].eraseIdx 0=[] from rfl,List.append_nil]
 exact e2▸FP bN
theorem MU{va vk:Value}{a:Addr}{x:AV}{xs:List AV}{Q:AV->MM->AH->Prop}(ea:er va=.ref a)(ek:er vk=.int 0)(ho:H a=some (.list .mu (x::xs)))(hl:xs.length<=1000000)
 (h:Q x m (H.ai a (.list .mu xs))):AW G n fx (call (.builtin "list.pop") [va,vk]) VA Q E m H:=by
 refine eR ea (eI ek λt bb hh tk ok r=>?_)
 obtain ⟨D,cv,h0,hm⟩:=r.cont ho
 obtain ⟨e,bN⟩:=h0.2 rfl
 obtain ⟨y,cx,rfl,hy,rfl⟩:=List.map_eq_cons_iff.mp hm
 rw [List.length_map] at hl
 exact call_meetsIn PySem.F.slot_list_pop (T:="list") ⟨_,bN,rfl⟩ PySem.F.entry_list_pop (PySem.F.args_list_pop_2 _ _)
  ((MeetsSeq.list_pop_at a (y::cx).toArray e 0 t 0 y (by decide) (H9 (Int.le_refl 0) (Nat.zero_lt_succ _)) rfl (iU hl)).inModel _ _) ⟨bN,qz h hy (r.bL ho rfl rfl (Heap.SameBut.update ..) λD Zaa=>FP (cv:=y::cx) (k:=0) bN)⟩
inductive uH(d:AV)(Q:AV->Prop)(H:AH)(a:Nat):AV->Prop
 |bz {fz:Bool} {kvs:List (Int×AV)} {i:Int} (e:H a=some (.bz fz kvs)) (h:Q ((iC kvs i).getD d)):uH d Q H a (.int i)
theorem Q8{va vk:Value}{a:Addr}{k:AV}{Q:AV->MM->AH->Prop}(ea:er va=.ref a)(ek:er vk=k)(h:uH .none (λv=>Q v m H) H a k):
 AW G n fx (call (.builtin "dict.get") [va,vk]) VA Q E m H:=by
 induction h with| @bz fz kvs i e h=>
 refine eR ea (eI ek λt bb hh tk ok r=>?_)
 obtain ⟨D,ck,hd,rfl⟩:=r.cont e
 refine call_meetsIn PySem.F.slot_dict_get hd.typeIs PySem.F.entry_dict_get (PySem.F.args_dict_get_2 _ _) (PySem.meets_dict_get (intKind G.prog G.w) _ (intKind_is _ _ _ _) (r.j5 e)) ⟨_,hd.mapOf,qn r rfl ?_⟩
 rw [nV] at h
 cases q:valueAt ck i<;>rw [q] at h<;>exact h
theorem Q9{va vk vd:Value}{a:Addr}{k d:AV}{Q:AV->MM->AH->Prop}(ea:er va=.ref a)(ek:er vk=k)(ed:er vd=d)(h:uH d (λv=>Q v m H) H a k):
 AW G n fx (call (.builtin "dict.get") [va,vk,vd]) VA Q E m H:=by
 subst ed
 induction h with| @bz fz kvs i e h=>
 refine eR ea (eI ek λt bb hh tk ok r=>?_)
 obtain ⟨D,ck,hd,rfl⟩:=r.cont e
 refine call_meetsIn PySem.F.slot_dict_get hd.typeIs PySem.F.entry_dict_get (PySem.F.args_dict_get_3 _ _ _) (PySem.meets_dict_get_default (intKind G.prog G.w) _ (intKind_is _ _ _ _) (r.j5 e) _) ⟨_,hd.mapOf,qn r rfl ?_⟩
 rw [nV] at h
 cases q:valueAt ck i<;>rw [q] at h<;>exact h
theorem Pg{va vk:Value}{a:Addr}{i:Int}{v:AV}{kvs:List (Int×AV)}{Q:AV->MM->AH->Prop}(ea:er va=.ref a)(ek:er vk=.int i)(ho:H a=some (.bz false kvs))(hl:kvs.length<=1000000)
 (hv:iC kvs i=some v)(h:Q v m (H.ai a (.bz false (ny kvs i)))):AW G n fx (call (.builtin "dict.pop") [va,vk]) VA Q E m H:=by
 refine eR ea (eI ek λt bb hh tk ok r=>?_)
 obtain ⟨D,ck,hd,rfl⟩:=r.cont ho
 rw [List.length_map] at hl
 rw [nV] at hv
 obtain ⟨x,hx,hv⟩:=Option.map_eq_some_iff.mp hv
 exact call_meetsIn PySem.F.slot_dict_pop hd.typeIs PySem.F.entry_dict_pop (PySem.F.args_dict_pop_2 _ _) (PySem.meets_dict_pop_there (intKind G.prog G.w) _ (intKind_is _ _ _ _) [] (.inl rfl) rfl) ⟨_,x,hd,Nat.le_of_succ_le (iU hl),hx,λh' gD e7=>qz h hv (r.bL ho rfl rfl e7 λD Zaa=>⟨_,gD,DX _ _⟩)⟩
theorem Nv{kvs:List (Int×AV)}{i:Int}(h:iC kvs i=none):ny kvs i=kvs:=by
 induction kvs with
 |nil=>rfl
 |cons p r ih=>
  rw [show iC (p::r) i=if p.1=i then some p.2 else iC r i from rfl] at h
  by_cases q:p.1=i
  ·rw [if_pos q] at h;cases h
  ·rw [if_neg q] at h
   exact (List.filter_cons_of_pos (p:=λp:Int×AV=>decide (p.1≠i)) (decide_eq_true q)).trans (congrArg (p::·) (ih h))
theorem Ph{va vk vd:Value}{a:Addr}{i:Int}{d:AV}{kvs:List (Int×AV)}{Q:AV->MM->AH->Prop}(ea:er va=.ref a)(ek:er vk=.int i)(ed:er vd=d)(ho:H a=some (.bz false kvs))(hl:kvs.length<=1000000)
 (h:Q ((iC kvs i).getD d) m (H.ai a (.bz false (ny kvs i)))):AW G n fx (call (.builtin "dict.pop") [va,vk,vd]) VA Q E m H:=by
 subst ed
 refine eR ea (eI ek λt bb hh tk ok r=>?_)
 obtain ⟨D,ck,hd,rfl⟩:=r.cont ho
 rw [List.length_map] at hl
 have hn:=nV ck i
 rw [hn] at h
 cases q:valueAt ck i with
 |none=>
  rw [q] at h hn
  rw [Nv hn] at h
  exact call_meetsIn PySem.F.slot_dict_pop hd.typeIs PySem.F.entry_dict_pop (PySem.F.args_dict_pop_3 _ _ _) (PySem.meets_dict_pop_default (intKind G.prog G.w) _ (intKind_is _ _ _ _) (r.j5 ho) rfl _) ⟨_,hd,q,qz h rfl (r.bL ho rfl rfl (Heap.SameBut.refl _ _) λD c=>c)⟩
 |some x=>
  rw [q] at h
  exact call_meetsIn PySem.F.slot_dict_pop hd.typeIs PySem.F.entry_dict_pop (PySem.F.args_dict_pop_3 _ _ _) (PySem.meets_dict_pop_there (intKind G.prog G.w) _ (intKind_is _ _ _ _) [_] (.inr ⟨_,rfl⟩) rfl) ⟨_,x,hd,Nat.le_of_succ_le (iU hl),q,λh' gD e7=>qz h rfl (r.bL ho rfl rfl e7 λD Zaa=>⟨_,gD,DX _ _⟩)⟩
theorem Pj{va:Value}{a:Addr}{fz:Bool}{kvs:List (Int×AV)}{Q:AV->MM->AH->Prop}(ea:er va=.ref a)(ho:H a=some (.bz fz kvs))(h:∀c,H c=none->Q (.ref c) m (H.ai c (.items a))):
 AW G n fx (call (.builtin "dict.items") [va]) VA Q E m H:=by
 rw [kC ea]
 refine t8 (ob:=λZaa=>{cls:=.type "dict_items",data:=.fields #[.ref a]}) h rfl (λD s=>⟨_,Heap.get?_push_size _ rfl,rfl,rfl⟩) λb hh tk P ok r hP=>?_
 obtain ⟨D,ck,hd,_⟩:=r.cont ho
 exact call_meetsIn PySem.F.slot_dict_items hd.typeIs PySem.F.entry_dict_items (PySem.F.args_dict_items_1 _) (PySem.meets_dict_items _ a (r.j5 ho)) ⟨⟨_,hd⟩,hP 0⟩
theorem Tz{va:Value}{a:Addr}{k:LK}{xs:List AV}{Q:AV->MM->AH->Prop}(ea:er va=.ref a)(ho:H a=some (.list k xs))(hl:xs.length<=1000000)(h:Q (.int xs.length) m H):
 AW G n fx (call (.builtin "len") [va]) VA Q E m H:=eR ea λbb hh tk ok r=>by
 obtain ⟨D,cv,bN,rfl⟩:=r.cont ho
 rw [List.length_map] at hl h
 exact call_len_list bN.1 (Int.lt_of_le_of_lt (Int.ofNat_le.mpr hl) (by decide)) (qn r rfl h)
theorem Ra{va:Value}{a:Addr}{xs:List AV}{Q:AV->MM->AH->Prop}(ea:er va=.ref a)(ho:H a=some (.aj xs))(hl:xs.length<=1000000)(h:Q (.int xs.length) m H):
 AW G n fx (call (.builtin "len") [va]) VA Q E m H:=eR ea λbb hh tk ok r=>by
 obtain ⟨D,cv,bN,rfl⟩:=r.cont ho
 rw [List.length_map] at hl h
 exact len_tuple bN (Int.lt_of_le_of_lt (Int.ofNat_le.mpr hl) (by decide)) (qn r rfl h)
theorem Rb{va vb:Value}{x y:Int}{Q:AV->MM->AH->Prop}(ea:er va=.int x)(eb:er vb=.int y)(h:Q (.int (if y>x then y else x)) m H):
 AW G n fx (call (.builtin "max") [va,vb]) VA Q E m H:=eI ea λt=>eI eb λu bb hh tk ok r=>PySem.max_two_ints ok.eW λh' bg hk=>qn (r.keeps hk) (by split<;>rfl) h
theorem Rc{va:Value}{c:Bool}{Q:AV->MM->AH->Prop}(ea:er va=.bool c)(h:Q (.int (if c then 1 else 0)) m H):AW G n fx (call (.type "int") [va]) VA Q E m H:=
 eB ea (eV h λhh tk P hP=>call_int_bool (hP _ _ rfl))
theorem Og{va:Value}{x:Int}{Q:AV->MM->AH->Prop}(ea:er va=.int x)(h:Q (.bool false) m H):AW G n fx (call (.builtin "isinstance") [va,.type "tuple"]) VA Q E m H:=
 eI ea λt=>eV h λhh tk P hP=>PySem.IsiPair.int_tuple (hP _ _ rfl)
theorem Oh{va:Value}{a:Addr}{xs:List AV}{Q:AV->MM->AH->Prop}(ea:er va=.ref a)(ho:H a=some (.aj xs))(h:Q (.bool true) m H):AW G n fx (call (.builtin "isinstance") [va,.type "tuple"]) VA Q E m H:=eR ea λbb hh tk ok r=>by
 obtain ⟨D,cv,⟨ob,Cp,hc,_⟩,_⟩:=r.cont ho
 exact PySem.IsiPair.tuple_tuple Cp hc (qn r rfl h)
theorem Pk{va:Value}{a:Addr}{k:LK}{xs:List AV}{Q:AV->MM->AH->Prop}(ea:er va=.ref a)(ho:H a=some (.list k xs))(hl:xs.length<=1000000)(h:∀c,H c=none->Q (.ref c) m (H.ai c (.aj xs))):
 AW G n fx (call (.type "tuple") [va]) VA Q E m H:=eR ea λbb hh tk ok r=>by
 obtain ⟨D,cv,bN,rfl⟩:=r.cont ho
 rw [List.length_map] at hl
 refine call_tuple_list bN.1 (λh' hk=>?_) (Nat.le_of_succ_le (iU hl))
 have x:=(r.keeps hk).push (ob:={cls:=.type "tuple",data:=.seq cv.toArray}) (o:=.aj (cv.map er)) ok rfl λD=>zz _
 exact qn x.2 rfl (h _ x.1)
end
section
set_option backward.match.sparseCases true
inductive AF where
 |next|brk|cont|ret(v:AV)
noncomputable def AF.ctorIdx(x:AF):Nat:=@AF.casesOn (λZaa=>Nat) x 0 1 2 (λZaa=>3)
inductive RF:Flow->AF->Prop
 |next:RF .next .next
 |brk:RF .brk .brk
 |cont:RF .cont .cont
 |ret {v:Value} {a:AV} (h:er v=a):RF (.ret v) (.ret a)
noncomputable def AF.val:AF->AV
 |.ret v=>v
 |_=>.none
noncomputable def yD(fl:Flow):Value:=match fl with
 |.ret v=>v
 |_=>.none
theorem RF.val{fl:Flow}{y:AF}(h:RF fl y):er (yD fl)=y.val:=by
 induction h with
 |ret h=>exact h
 |_=>rfl
inductive xJ(G:Gx)(fx:Fx)(b:Heap)(m:MM)(Q:AV->AH->Prop)(E:Addr->AH->Prop):Result->Shared->Prop
 |ok {v:Value} {h:Heap} {tk:Nat} {H:AH} (r:RX G fx b m H h) (q:Q (er v) H):xJ G fx b m Q E (.ok (.ret v)) (G.sh h tk)
 |er {ea:Addr} {h:Heap} {tk:Nat} {H:AH} {C:Addr} (x:dK G fx b H C ea h) (q:E C H):xJ G fx b m Q E (.error (.ref ea)) (G.sh h tk)
structure jO(G:Gx)(n:Nat)(f:Addr)(args:List AV)(Q:AV->AH->Prop)(E:Addr->AH->Prop)(H:AH):Prop where
 run:∀fx b m h tk vs,aX G fx n b->RX G fx b m H h->vs.map er=args->codeAny G.M fx.A (.call (.ref f) ⟨vs,[]⟩) (xJ G fx b m Q E) (G.sh h tk)
theorem aX.le{G:Gx}{fx:Fx}{n n':Nat}{b:Heap}(ok:aX G fx n' b)(hn:n<=n'):aX G fx n b:={ok with depth:=Nat.lt_of_le_of_lt (Nat.add_le_add_left hn _) ok.depth,units:=by have:=ok.units;lia}
theorem jO.aY{G:Gx}{n n':Nat}{f:Addr}{args:List AV}{Q Q':AV->AH->Prop}{E E':Addr->AH->Prop}{H:AH}(x:jO G n f args Q E H)(hn:n<=n')(hQ:∀v H,Q v H->Q' v H)(hE:∀C H,E C H->E' C H):jO G n' f args Q' E' H:=
 ⟨λfx b m h tk vs ok r e=>codeAny_mono (x.run fx b m h tk vs (ok.le hn) r e) λrr s' p=>by
   induction p with
   |ok r q=>exact .ok r (hQ _ _ q)
   |er x q=>exact .er x (hE _ _ q)⟩
structure Bq(fx:Fx)(sc:Scope)(ns:List Str):Prop where
 sc:fx.env.scope=sc
 nm:∀i,fx.nm i=ns[i]?
 nd:ns.Nodup
 wr:fx.wr=true
theorem HR.base{prog:Program}{w:World}{b0 b b':Heap}{L L':Addr}{H:AH}{D:Addr->Addr}{own:List Addr}{h:Heap}(x:HR prog w b0 b L H D own h)(k:∀a∈own,b'.get? a=none/\a≠L'):HR prog w b0 b' L' H D own h:=
 {x with live:=λa m=>⟨(k a m).1,(k a m).2,(x.live a m).lv⟩}
section
variable{kindOf:Str->Option NameKind}{x:Str}{v:Value}{binds:List (Str×Value)}
theorem Mx{m:Str->Option Value}(h:x∉binds.map (·.1)):bindL kindOf binds m x=m x:=by
 induction binds generalizing m with
 |nil=>rfl
 |cons p r ih=>
  have h:=not_or.mp λz=>h (List.mem_cons.mpr z)
  show bindL kindOf r (if _ then _ else _) x=_
  rw [ih h.2]
  split
  ·exact if_neg h.1
  ·rfl
theorem Nx{m:Str->Option Value}(hk:kindOf x=some .local)(hn:(binds.map (·.1)).Nodup)(hm:(x,v)∈binds):bindL kindOf binds m x=some v:=by
 induction binds generalizing m with
 |nil=>cases hm
 |cons p r ih=>
  have hn:=List.nodup_cons.mp hn
  cases hm with
  |head=>show bindL kindOf r (if _ then _ else _) x=_;rw [Mx hn.1,if_pos hk];exact if_pos rfl
  |tail _ hm=>exact ih hn.2 hm
theorem My{m:Str->Option Value}(h:x∉binds.map (·.1)):bindC kindOf binds m x=m x:=by
 induction binds generalizing m with
 |nil=>rfl
 |cons p r ih=>
  have h:=not_or.mp λz=>h (List.mem_cons.mpr z)
  show bindC kindOf r (if _ then _ else _) x=_
  rw [ih h.2]
  split
  ·rfl
  ·exact if_neg h.1
theorem Ny{m:Str->Option Value}(hk:kindOf x≠some .local)(hn:(binds.map (·.1)).Nodup)(hm:(x,v)∈binds):bindC kindOf binds m x=some v:=by
 induction binds generalizing m with
 |nil=>cases hm
 |cons p r ih=>
  have hn:=List.nodup_cons.mp hn
  cases hm with
  |head=>show bindC kindOf r (if _ then _ else _) x=_;rw [My hn.1,if_neg hk];exact if_pos rfl
  |tail _ hm=>exact ih hn.2 hm
theorem wG{α:Type}{y:Str}{k:α}{r:List (Str×α)}(h:x≠y->(r.lookup x).isSome=true):(((y,k)::r).lookup x).isSome=true:=by
 rw [List.lookup_cons]
 split
 ·rfl
 ·rename_i q;exact h λe=>ff q (e▸beq_self_eq_true x)
theorem Mi{names:List (Str×NameKind)}{n:Nat}{acc:List (Str×Addr)}(h:(acc.lookup x).isSome=true):((cellsFrom n names acc).lookup x).isSome=true:=by
 induction names generalizing n acc with
 |nil=>exact h
 |cons p r ih=>
  unfold cellsFrom
  split
  ·exact ih (wG λZaa=>h)
  ·exact ih h
theorem wg{names:List (Str×NameKind)}{n:Nat}{acc:List (Str×Addr)}(h:names.lookup x=some .cell):((cellsFrom n names acc).lookup x).isSome=true:=by
 induction names generalizing n acc with
 |nil=>cases h
 |cons p r ih=>
  rw [List.lookup_cons] at h
  unfold cellsFrom
  cases q:x==p.1 with
  |true=>
   rw [q] at h
   rw [show p.2=.cell from Option.some.inj h,if_pos (by decide)]
   exact Mi (wG λz=>absurd (beq_iff_eq.mp q) z)
  |false=>
   rw [q] at h
   split<;>exact ih h
end
inductive BL(K:Frag)(f:Addr)(fd:FuncData)(b:List Stmt):Prop
 |mk (o:Obj) (h1:K.lookup f=some o) (h2:o.data=.func fd) (h3:fd.body=.stmts b)
  (c:(fd.closure.isEmpty&&(fd.globals==mainGlobals)&&(fd.builtins==builtinsNs)&&decide (fd.scope.kind=.function)&&!fd.scope.isCoroutine&&!fd.scope.isGenerator&&codeIn K fd.code fd.qualname)=true)
noncomputable def Rf(d:Data):Option {fd:FuncData // d=.func fd}:=match d with
 |.func fd=>some ⟨fd,rfl⟩
 |_=>none
noncomputable def Pn(d:FuncBody):Option {b:List Stmt // d=.stmts b}:=match d with
 |.stmts b=>some ⟨b,rfl⟩
 |_=>none
noncomputable def fF(K:Frag)(f:Addr)(o:Obj)(e:K.lookup f=some o):Option {p:FuncData×List Stmt // BL K f p.1 p.2}:=match Rf o.data with
 |some ⟨fd,h⟩=>(match Pn fd.body with
  |some ⟨b,h'⟩=>if c:(fd.closure.isEmpty&&(fd.globals==mainGlobals)&&(fd.builtins==builtinsNs)&&decide (fd.scope.kind=.function)&&!fd.scope.isCoroutine&&!fd.scope.isGenerator&&codeIn K fd.code fd.qualname)=true then some ⟨(fd,b),⟨o,e,h,h',c⟩⟩ else none
  |none=>none)
 |none=>none
noncomputable def TA(K:Frag)(f:Addr):Option {p:FuncData×List Stmt // BL K f p.1 p.2}:=match e:K.lookup f with
 |some o=>fF K f o e
 |none=>none
noncomputable def jS(K:Frag)(f:Addr):Option (FuncData×List Stmt):=(TA K f).map (·.1)
theorem FQ{K:Frag}{f:Addr}{fd:FuncData}{body:List Stmt}(e:jS K f=some (fd,body)):BL K f fd body:=by
 obtain ⟨⟨p,h⟩,_,e⟩:=Option.map_eq_some_iff.mp e
 have e:p=(fd,body):=e
 subst e;exact h
section
variable{G:Gx}{n:Nat}{fx cV:Fx}{b b' h h' hh h₁:Heap}{m:MM}{H H':AH}{mC:Str->Option Value}{D D':Addr->Addr}{own eX:List Addr}
theorem TF{B:Heap}(k:B.StaysIn h)(k1:B.StaysIn h'){c:Addr}{ob:Obj}(hs:(B.get? c).isSome=true)(e:h.get? c=some ob):h'.get? c=some ob:=by
 obtain ⟨o,ho⟩:=Option.isSome_iff_exists.mp hs
 exact (k1 c o ho).trans ((k c o ho).symm.trans e)
theorem Po{B:Heap}(k:b.StaysIn B){c:Addr}(hs:(b.get? c).isSome=true):(B.get? c).isSome=true:=by
 obtain ⟨o,ho⟩:=Option.isSome_iff_exists.mp hs;rw [k c o ho];rfl
theorem kj{B:Heap}(k:b.StaysIn B){c:Addr}(hs:B.get? c=none):b.get? c=none:=by
 cases q:b.get? c with
 |none=>rfl
 |some o=>exact nz hs (k c o q)
theorem RE.I0{B:Heap}{C ea:Addr}(x:RE G fx b H C ea h B mC D own)(hL:G.b0.StaysIn B)(k1:B.StaysIn h'):HR G.prog G.w G.b0 b fx.env.locals H D own h':=
 x.hr.lP λc ob hc e=>TF x.dB k1 (hc.elim (x.qx c) (Po hL)) e
theorem RE.Kw{B:Heap}{C ea:Addr}(x:RE G fx b H C ea h B mC D own)(fQ:G.b0.StaysIn b)(hf:fx.dR.frame=some fx.Lf)(hl:G.b0.get? fx.Lf=none)(hfr:b.FunFrames G.b0 fx.outer):G.b0.StaysIn B:=λa o e=>by
 refine x.up a o (fQ a o e) λhm=>?_
 rw [List.filterMap_cons,hf] at hm
 exact oE hm (λq=>nz hl (q▸e)) λhm=>nz (hfr.mem hm).1 e
inductive Ky(G:Gx)(fx:Fx)(b:Heap)(H:AH)(C ea:Addr)(s:Shared):Prop
 |mk (h:Heap) (tk:Nat) (e:s=G.sh h tk) (x:dK G fx b H C ea h)
theorem Nz{C ea:Addr}{tk:Nat}{Ed:Value->Shared->Prop}(r:R G fx b m H hh mC D own)
 (hb:b.StaysIn b')(Kz:cV.outer=fx.dR::fx.outer)(hf:cV.dR.frame=some cV.Lf)(iJ:cV.A.frames=some (cV.dR::cV.outer))(nG:b'.get? cV.Lf=none)
 (fQ:G.b0.StaysIn b')(hfr:b'.FunFrames G.b0 cV.outer)(fY:b'.Ns fx.env.locals mC)(x:dK G cV b' H' C ea h'):
 wpAny G.M cV.A (leaving cV.dR (.ref ea)) (λZaa=>Ky G fx b H' C ea) Ed (G.sh h' tk):=by
 induction x with|mk B kZ D own x=>
 have fin:∀{eH},B.StaysIn eH->eH.FunFrames B (cV.dR::cV.outer)->(∃a0,eH.TracedAtW B ea (.ref C) a0 .none)->h'.UpToSlots eH->dK G fx b H' C ea eH:=λ{eH} k1 k2 k3 k4=>by
  have d8:=x.slots.trans k4
  rw [Kz] at k2
  refine ⟨B,mC,D,own,k1,λa o e hn=>x.up a o (hb a o e) λhm=>?_,x.jj,k2.2.2,k3.elim λa0 t=>.out a0 t,λa o e hd=>d8 a o (hb a o e) hd,d8.ns fY,(x.I0 (x.Kw fQ hf (kj fQ nG) hfr) k1).base λa ha=>⟨kj hb (x.hr.live a ha).nb,λq=>?_⟩,x.qx⟩
  ·rw [List.filterMap_cons,hf,Kz] at hm
   exact oE hm (λq=>nz nG (q▸hb _ o e)) hn
  ·obtain ⟨oL,es,ep,e1,_⟩:=fY
   exact nz (x.hr.live a ha).nb (q▸e1)
 cases x.exc with
 |Ck oe vs a0 e1 e2 e3 e4 e5=>exact wpAny_leaving_firstW (s:=G.sh h' tk) iJ x.frames hf e1 x.dB x.jj e3 e5 e4 λeH ⟨k1,k2,k3,k4⟩=>⟨eH,_,rfl,fin k1 k2 ⟨a0,e2▸k3⟩ k4⟩
 |out a0 e1=>exact wpAny_leaving_nextW (s:=G.sh h' tk) iJ x.frames hf e1 x.dB x.jj λeH ⟨k1,k2,k3,k4⟩=>⟨eH,_,rfl,fin k1 k2 ⟨a0,k3⟩ k4⟩
 |at_ a0 e1=>
  unfold leaving
  refine wpAny_bind (wpAny_noteFrame_againW (s:=G.sh h' tk) hf e1 ?_)
  exact wpAny_landsW (s:=G.sh h' tk) ⟨x.dB,x.jj,x.frames,e1⟩ λeH ⟨k1,k2,k3,k5⟩ k4=>⟨eH,_,rfl,fin k1 k3 ⟨a0,k5⟩ k4⟩
theorem R.cA{L':Addr}(ok:aX G fx n b)(r:R G fx b m H hh mC D own)(bb:b.StaysIn b')(qM:b'.Ns fx.env.locals mC)(ju:∀x c o,fx.env.cells.lookup x=some c->c∉own->hh.get? c=some o->b'.get? c=some o)
 (F':Fr b fx.env.locals h' mC)(k:∀c o,b'.get? c=some o->c≠fx.env.locals->h'.get? c=some o)(qN:HR G.prog G.w G.b0 b' L' H' D' eX h')(kp:mU fx b h' eX):R G fx b m H' h' mC D' eX:=
 r.re F' (qN.base λa ha=>⟨kj bb (qN.live a ha).nb,λq=>(let ⟨oL,es,ep,e1,_⟩:=qM;nz (qN.live a ha).nb (q▸e1))⟩) (λx c ob e e5=>k c ob (ju x c ob e (r.cells.ok x c e).no e5) (r.cells.ok x c e).nl)
  (λx c ob e n1 n2 e5=>by
    have yE:c∉eX:=λq=>nz (qN.live c q).nb (ju x c ob e n1 e5)
    refine ⟨yE,?_⟩
    cases z:H' c with
    |none=>rfl
    |some o=>exact ((qN.src c o z).elim (λq=>absurd q yE) λq=>ff (congrArg Option.isSome (ok.cM x c e)) q)) kp
theorem nq.cA{p:Addr×Obj}{L':Addr}(q:nq fx.env b h own p)(ju:b'.get? p.1=some p.2)(k:b'.get? p.1=some p.2->p.1≠fx.env.locals->h'.get? p.1=some p.2)(qN:HR G.prog G.w G.b0 b' L' H' D' eX h'):nq fx.env b h' eX p:=
 {q with lv:=k ju q.nl,no:=λz=>nz (qN.live _ z).nb ju}
theorem mH(k:∀a o,h'.get? a=some o->a<hh.objs.size){a:Addr}(e:hh.objs.size<=a):h'.get? a=none:=by
 cases q:h'.get? a with
 |none=>rfl
 |some o=>exact absurd (Nat.lt_of_lt_of_le (k a o q) e) (Nat.lt_irrefl _)
theorem EL{fd:FuncData}{f:Addr}{ps ns:List Str}{args:List AV}{vs:List Value}{A':Around}{Rh:List Env}{L:Addr}{s s₁:Shared}(fY:ps <+: ns)(e8:ns.Nodup)(hL:L=s.heap.objs.size)
 (hkind:∀x∈ps,fd.scope.names.lookup x=some .local\/fd.scope.names.lookup x=some .cell)(hlen:args.length=ps.length)(dD:vs.map er=args)
 (x:InCallC s (callEnvC fd L f).locals (bindL (callEnvC fd L f).kindOf (ps.zip vs) λZaa=>none) (callEnvC fd L f).cells (bindC (callEnvC fd L f).kindOf (ps.zip vs) λZaa=>none) s₁)
 (hk:b'.StaysIn s₁.heap)(hsz:b'.objs.size<=L)(hr:HR G.prog G.w G.b0 b' L H D own s₁.heap)(hn:∀a,L<=a->a∉own/\H a=none):
 RX G ⟨A',Rh,callEnvC fd L f,callEnvC fd L f,λi=>ns[i]?,true,L,[]⟩ b' (args.map some++List.replicate (ns.length-ps.length) none) H s₁.heap:=by
 have qO:vs.length=ps.length:=by rw [<-hlen,<-dD,List.length_map]
 have KA:((ps.zip vs).map (·.1)).Nodup:=by rw [List.map_fst_zip (Nat.le_of_eq qO.symm)];exact e8.sublist fY.sublist
 refine ⟨_,D,own,⟨x.toInCall.ns,hk,hsz⟩,hr,λi v e=>?_,⟨λy c e=>?_,λy z c e1 e2=>name_of_addr x.apart (mem_of_lookup e1) (mem_of_lookup e2),λy e=>wg e⟩,λp hp=>absurd hp List.not_mem_nil⟩
 ·have hi:i<args.length:=by
   by_cases q:i<args.length
   ·exact q
   ·rw [List.getElem?_append_right (by rw [List.length_map];exact Nat.not_lt.mp q),List.getElem?_replicate] at e
    split at e<;>cases e
  rw [List.getElem?_append_left (by rw [List.length_map];exact hi),<-dD,List.map_map,List.getElem?_map] at e
  obtain ⟨cv,bN,ZV⟩:=Option.map_eq_some_iff.mp e
  have yF:i<ps.length:=hlen▸hi
  have lU:(ps[i],cv)∈ps.zip vs:=List.mem_iff_getElem?.mpr ⟨i,List.getElem?_zip_eq_some.mpr ⟨List.getElem?_eq_getElem yF,bN⟩⟩
  refine ⟨ps[i],cv,?_,Option.some.inj ZV,?_⟩
  ·obtain ⟨t,rfl⟩:=fY
   exact (List.getElem?_append_left yF).trans (List.getElem?_eq_getElem yF)
  ·rcases hkind _ (List.getElem_mem yF) with q|q
   ·exact .var q (Nx (kindOf:=(callEnvC fd L f).kindOf) q KA lU)
   ·obtain ⟨c,hc⟩:=Option.isSome_iff_exists.mp (wg (n:=L+1) (acc:=[]) q)
    have g:=x.cell ps[i] c hc
    rw [Ny (kindOf:=(callEnvC fd L f).kindOf) (λz=>nomatch (show (some NameKind.cell)=some .local from q.symm.trans z)) KA lU] at g
    obtain ⟨ob,g1,g2⟩:=g
    exact .cell (.inl q) c ob hc g1 g2
 ·have ha:=x.above y c (mem_of_lookup e)
  have Cq:L<=c:=Nat.le_of_lt ha
  obtain ⟨ob,g1,g2⟩:=x.cell y c e
  exact ⟨λZaa=>mH (hh:=s.heap) (λa o e=>hL▸Nat.lt_of_lt_of_le (Heap.lt_size e) hsz) (hL▸Cq),Ne.symm (Nat.ne_of_lt ha),(hn c Cq).1,(hn c Cq).2,_,ob,g1,g2⟩
theorem Ew{f:Addr}{fd:FuncData}{body:List Stmt}{ps ns:List Str}{args:List AV}(hf:jS G.K f=some (fd,body))
 (hb:∀vs:List Value,vs.length=ps.length->bindArgs fd ⟨vs,[]⟩=pure (ps.zip vs))(fY:ps <+: ns)(e8:ns.Nodup)
 (hkind:∀x∈ps,fd.scope.names.lookup x=some .local\/fd.scope.names.lookup x=some .cell)(hlen:args.length=ps.length)
 {tk:Nat}{vs:List Value}(ok:aX G fx (n+1) b)(rx:RX G fx b m H hh)(dD:vs.map er=args){RR:Result->Shared->Prop}
 (h:∀cV b' h₁ mY,Bq cV fd.scope ns->aX G cV n b'->cV.env=cV.dR->RX G cV b' (args.map some++List.replicate (ns.length-ps.length) none) H h₁->
   (∀m' H' h',RX G cV b' m' H' h'->RX G fx b m H' h')->
   (fx.outer=[]->fx.env.locals=fx.Lf->∀H' C e h',dK G cV b' H' C e h'->RX G fx b m H' h')->
   (∀H' C ea h' bg Ed,dK G cV b' H' C ea h'->wpAny G.M cV.A (leaving cV.dR (.ref ea)) (λZaa=>Ky G fx b H' C ea) Ed (G.sh h' bg))->
   wpAny G.M cV.A (execs body cV.env) (λfl s'=>RR (.ok (.ret (match fl with|.ret v=>v|_=>.none))) s') (λe s'=>wpAny G.M cV.A (leaving cV.dR e) (λZaa yG=>RR (.error e) yG) (λe' yG=>RR (.error e') yG) s') (G.sh h₁ mY)):
 codeAny G.M fx.A (.call (.ref f) ⟨vs,[]⟩) RR (G.sh hh tk):=by
 cases FQ hf with|mk of Cr Cs hbody hc=>
 obtain ⟨hc,Br⟩:=an hc
 obtain ⟨hc,hgen⟩:=an hc
 obtain ⟨hc,hco⟩:=an hc
 obtain ⟨hc,nH⟩:=an hc
 obtain ⟨hc,fH⟩:=an hc
 obtain ⟨hclo,Bs⟩:=an hc
 have nH:=of_decide_eq_true nH
 induction rx with|mk mC D own r=>
 have qO:vs.length=ps.length:=by rw [<-hlen,<-dD,List.length_map]
 have cJ:=ok.cJ.keeps r.F.keep
 refine codeAny_call_cells (s:=G.sh hh tk) (Nat.lt_of_le_of_lt (Nat.le_add_right _ _) ok.depth) (cJ f of Cr) Cs (ok.eG.nolimit.keeps r.F.keep) (codeRec_of cJ Br) hbody (hb vs qO) (List.isEmpty_iff.mp hclo)
  (λx hx=>(hkind x.1 (List.of_mem_zip (by exact hx:(x.1,x.2)∈_)).1).imp id λe=>⟨e,wg e⟩) (λs₁ x=>?_) (Bool.not_eq_true' _▸hco) (Bool.not_eq_true' _▸hgen) nH
 obtain ⟨h₁,mY,rfl,uq⟩:=x.done
 have hsz:(hideAll hh own).objs.size=hh.objs.size:=hideAll_size _ _
 have fq:b.StaysIn (hideAll hh own):=λa o e=>hideAll_get _ (r.F.keep a o e) λq=>nz (r.hr.live a q).nb e
 have xX:G.b0.StaysIn (hideAll hh own):=λa o e=>fq a o (ok.dB a o e)
 have qM:(hideAll hh own).Ns fx.env.locals mC:=by
  obtain ⟨o,es,ep,e1,e2⟩:=r.F.ns
  exact ⟨o,es,ep,hideAll_get _ e1 λq=>(r.hr.live _ q).nl rfl,e2⟩
 have hfr:(hideAll hh own).FunFrames G.b0 (fx.dR::fx.outer):=by
  refine ⟨by rw [ok.sj];decide,⟨fx.Lf,?_⟩,ok.frames.of_keeps λa o e Zaa=>⟨o,fq a o e,rfl⟩⟩
  rcases ok.here with q|⟨o,e,q⟩
  ·obtain ⟨o,es,ep,e1,e2,_⟩:=qM
   exact ⟨o,ok.gf,ok.lS,q▸e1,λvs z=>nomatch e2.symm.trans z⟩
  ·exact ⟨o,ok.gf,ok.lS,fq _ _ e,q⟩
 have hlt:∀a o,(hideAll hh own).get? a=some o->a<hh.objs.size:=λa o e=>hsz▸Heap.lt_size e
 have Ct:∀a,hh.objs.size<=a->hh.get? a=none:=λa=>mH λa o e=>Heap.lt_size e
 have nG:(hideAll hh own).get? hh.objs.size=none:=mH hlt (Nat.le_refl _)
 have ju:∀x c o,fx.env.cells.lookup x=some c->c∉own->hh.get? c=some o->(hideAll hh own).get? c=some o:=λx c o Zaa n e=>hideAll_get _ e n
 refine h ⟨fx.A.deeper (callEnvC fd hh.objs.size f),fx.dR::fx.outer,callEnvC fd hh.objs.size f,callEnvC fd hh.objs.size f,λi=>ns[i]?,true,hh.objs.size,[]⟩ (hideAll hh own) h₁ mY ⟨rfl,λZaa=>rfl,e8,rfl⟩ ?_ rfl ?_ (λm' H' h' r2=>?_) (λho hl H' C e h' x2=>?_) λH' C ea h' bg Ed=>Nz r fq rfl rfl (Around.frames_deeper ok.stack) nG xX hfr qM
 ·exact {
   cJ:=ok.cJ.keeps fq
   eG:=ok.eG.keeps fq
   dB:=xX
   frames:=hfr
   stack:=Around.frames_deeper ok.stack
   eW:=ok.eW
   depth:=by have:=ok.depth;show fx.A.depth+1+n<_;lia
   units:=by have:=ok.units;show fx.A.units+3+16*n+16<_;lia
   gf:=rfl
   sj:=nH
   jN:=nH
   mT:=rfl
   sG:=beq_iff_eq.mp Bs
   uF:=beq_iff_eq.mp fH
   lS:=kj xX nG
   cM:=λy c e=>kj xX (mH hlt (Nat.le_of_lt (x.above y c (mem_of_lookup e))))
   here:=.inl rfl}
 ·exact EL fY e8 rfl hkind hlen dD x (λa o e=>uq a o (of_hideAll _ e)) (Nat.le_of_eq hsz) ((r.hr.keeps uq).base λa ha=>⟨hideAll_none _ ha,λq=>ff (congrArg Option.isSome (Ct a (Nat.le_of_eq q.symm))) (r.hr.live a ha).lv⟩) λa e=>⟨r.hr.qe (Ct a e),r.hr.fresh (Ct a e)⟩
 ·induction r2 with|mk kZ D' eX r2=>
  obtain ⟨o,es,ep,e1,e2⟩:=qM
  exact ⟨mC,D',eX,r.cA ok fq ⟨o,es,ep,e1,e2⟩ ju ⟨⟨o,es,ep,r2.F.keep _ _ e1,e2⟩,λa o e=>r2.F.keep _ _ (fq a o e),r.F.above⟩ (λc o e Zaa=>r2.F.keep c o e) r2.hr λp hp=>(r.aR p hp).cA (hideAll_get own (r.aR p hp).lv (r.aR p hp).no) (λe Zaa=>r2.F.keep _ _ e) r2.hr⟩
 ·induction x2 with|mk B kZ D' eX x2=>
  have k:∀c o,(hideAll hh own).get? c=some o->c≠fx.env.locals->h'.get? c=some o:=λc o e hne=>x2.dB _ _ (x2.up c o e λhm=>by
   have hm:c∈((callEnvC fd hh.objs.size f::fx.dR::fx.outer).filterMap (·.frame)):=hm
   rw [ho,List.filterMap_cons,show (callEnvC fd hh.objs.size f).frame=some hh.objs.size from rfl,List.filterMap_cons,ok.gf] at hm
   exact oE hm (λq=>nz nG (q▸e)) λhm=>hne (hl▸List.mem_singleton.mp hm))
  exact ⟨mC,D',eX,r.cA ok fq qM ju ⟨x2.slots.ns qM,λa o e=>k a o (fq a o e) λq=>absurd (q▸Nat.lt_of_lt_of_le (Heap.lt_size e) r.F.above) (Nat.lt_irrefl _),r.F.above⟩ k x2.hr λp hp=>(r.aR p hp).cA (hideAll_get own (r.aR p hp).lv (r.aR p hp).no) (k _ _) x2.hr⟩
theorem DQ{f:Addr}{fd:FuncData}{body:List Stmt}{ps ns:List Str}{args:List AV}{Q:AV->AH->Prop}{E:Addr->AH->Prop}(hf:jS G.K f=some (fd,body))
 (hb:∀vs:List Value,vs.length=ps.length->bindArgs fd ⟨vs,[]⟩=pure (ps.zip vs))(fY:ps <+: ns)(e8:ns.Nodup)
 (hkind:∀x∈ps,fd.scope.names.lookup x=some .local\/fd.scope.names.lookup x=some .cell)(hlen:args.length=ps.length)
 (h:∀fx,Bq fx fd.scope ns->AW G n fx (execs body fx.env) RF (λfl m H'=>Q fl.val H') E (args.map some++List.replicate (ns.length-ps.length) none) H):jO G (n+1) f args Q E H:=
 ⟨λfx b m hh tk vs ok rx dD=>Ew hf hb fY e8 hkind hlen ok rx dD λcV b' h₁ mY ff sV _ r' bk _ lv=>
   qm (h cV ff b' h₁ mY sV r') (λe s' q=>by
    induction q with|mk h' bg H' C ea e1 e2 x q=>
    subst e1 e2
    exact wpAny_mono (lv H' C ea h' bg (λZaa Zaa=>False) x) (λZaa yG z=>by induction z with|mk eH uI e z=>subst e;exact .er z q) λZaa Zaa z=>z.elim)
   λfl h' bg m' H' y r2 l q=>.ok (bk _ _ _ r2) (show Q (er (yD fl)) H' from l.val▸q)⟩
end
end
section
set_option tactic.hygienic true
noncomputable abbrev VL:List Value->List AV->Prop:=λvs ys=>vs.map er=ys
noncomputable abbrev VU:Unit->Unit->Prop:=λZaa Zaa=>True
section
variable{G:Gx}{n:Nat}{fx:Fx}{E E':Addr->AH->Prop}{m:MM}{H:AH}{α β γ δ:Type}
noncomputable abbrev Fx.at(fx:Fx)(A:Around):Fx:={fx with A:=A}
theorem cS{t:Sem α}{k:α->Sem γ}{rl:α->β->Prop}{pe:γ->δ->Prop}{Q1:β->MM->AH->Prop}{Q2:δ->MM->AH->Prop}(h:AW G n fx t rl Q1 E m H)
 (hk:∀v y m1 H1,rl v y->Q1 y m1 H1->AW G n fx (k v) pe Q2 E m1 H1):AW G n fx (t >>= k) pe Q2 E m H:=
 qh (mK h (λy m1 H1 q v hv=>hk v y m1 H1 hv q) λZaa Zaa x=>x)
theorem Ri{t:Sem α}{rl:α->β->Prop}{pe:α->δ->Prop}{Q1:β->MM->AH->Prop}{Q2:δ->MM->AH->Prop}(h:AW G n fx t rl Q1 E m H)
 (hk:∀v y m1 H1,rl v y->Q1 y m1 H1->qv (λz=>pe v z) (λz=>Q2 z m1 H1)):AW G n fx t pe Q2 E m H:=λb hh tk ok r=>
 qm (h b hh tk ok r) (λZaa Zaa x=>x) λv h' bg m' H' y r' l q=>(hk _ _ _ _ l q).casesOn λz l2 q2=>qn r' l2 q2
theorem zH{vs keep:List Value}{Q:Unit->MM->AH->Prop}(h:Q () m H):AW G n fx (release vs keep) VU Q E m H:=λb hh tk ok r=>wpAny_release (qn (y:=()) r trivial h)
inductive VC:Const->AV->Prop
 |none:VC .none .none
 |bool (b:Bool):VC (.bool b) (.bool b)
 |int (i:Int):VC (.int i) (.int i)
 |str (s:Str):VC (.str s) (.str s.cps.toList)
noncomputable def ZW(c:Const):Option {y:AV // VC c y}:=match c with
 |.none=>some ⟨_,.none⟩
 |.bool b=>some ⟨_,.bool b⟩
 |.int i=>some ⟨_,.int i⟩
 |.str s=>some ⟨_,.str s⟩
 |_=>none
noncomputable def vC(c:Const):Option AV:=(ZW c).map (·.1)
theorem FT{c:Const}{y:AV}{k:Nat}{pos:Pos}{Q:AV->MM->AH->Prop}(e:vC c=some y)(h:Q y m H):AW G n fx (eval (.Constant c k pos) fx.env) VA Q E m H:=λb hh tk ok r=>by
 obtain ⟨⟨y,p⟩,_,rfl⟩:=Option.map_eq_some_iff.mp e
 clear e
 induction p with
 |none=>exact wpAny_Constant_none (qn r rfl h)
 |bool=>exact wpAny_Constant_bool (qn r rfl h)
 |int=>exact wpAny_Constant_int (qn r rfl h)
 |str=>exact wpAny_Constant_str (qn r rfl h)
theorem Rj{x:Str}{i:Nat}{y:AV}{Q:AV->MM->AH->Prop}(hi:fx.nm i=some x)(hm:m[i]?=some (some y))(hc:(x==("__classdict__":Str))=false)(h:Q y m H):AW G n fx (loadName fx.env x) VA Q E m H:=λb hh tk ok r=>by
 cases id r with|mk mC D own r1=>
 cases r1.aa i y hm with|mk z cv e1 e2 e3=>
 obtain rfl:=Option.some.inj (hi.symm.trans e1)
 have q:iX G fx b VA Q cv (G.sh hh tk):=qn r e2 h
 induction e3 with
 |var k hv=>exact wpAny_loadName_local ok.jN k r1.F.ns hv q
 |cell k c ob e4 e5 e6=>exact k.elim (λk=>wpAny_loadName_cell ok.jN k e4 ⟨ob,e5,e6⟩ q) λk=>wpAny_loadName_free ok.jN k e4 ⟨ob,e5,e6⟩ q hc
theorem AM{x:Str}{i:Nat}{y:AV}{pos:Pos}{Q:AV->MM->AH->Prop}(hi:fx.nm i=some x)(hm:m[i]?=some (some y))(hd:(x==("__debug__":Str))=false)(hc:(x==("__classdict__":Str))=false)(h:Q y m H):
 AW G n fx (eval (.Name x pos) fx.env) VA Q E m H:=λb hh tk ok r=>wpAny_Name (Rj hi hm hc h b hh tk ok r) hd
noncomputable def iw(K:Frag)(x:Str):Option Value:=
 match nsIn K mainGlobals x with
 |some (some v)=>some v
 |some none=>if x==("__name__":Str) then none else bootBuiltins x
 |none=>none
theorem t9{x:Str}{v:Value}{pos:Pos}{b hh:Heap}{tk:Nat}{Q:Value->Shared->Prop}{E0:Value->Shared->Prop}(hk:fx.env.kindOf x=some .globalImplicit)(hd:(x==("__debug__":Str))=false)(hv:iw G.K x=some v)(ok:aX G fx n b)(r:RX G fx b m H hh)(h:Q v (G.sh hh tk)):
 wpAny G.M fx.A (eval (.Name x pos) fx.env) Q E0 (G.sh hh tk):=by
 induction r with|mk mC D own r=>
 unfold iw at hv
 have g:=ok.eG.g.keeps r.F.keep
 rw [<-ok.sG] at g
 split at hv
 ·rename_i u hu
  exact Name_function_global ok.jN hk (loadGlobal_global (mg:=G.mg) g (mg_of ok.cJ ok.eG.g hu) (Option.some.inj hv▸h)) hd
 ·rename_i hu
  split at hv
  ·cases hv
  ·rename_i hn
   exact Name_function_global ok.jN hk (loadGlobal_builtin (mg:=G.mg) (mb:=G.mb) g (mg_none_of ok.cJ ok.eG.g hu) (by rw [ok.uF];exact ok.eG.b.keeps r.F.keep) ((ok.eG.builtins x (λq=>hn (beq_iff_eq.mpr q))).trans hv) h) hd
 ·cases hv
theorem G6{x:Str}{v:Value}{pos:Pos}{Q:AV->MM->AH->Prop}(hk:fx.env.kindOf x=some .globalImplicit)(hd:(x==("__debug__":Str))=false)(hv:iw G.K x=some v)(h:Q (er v) m H):
 AW G n fx (eval (.Name x pos) fx.env) VA Q E m H:=λb hh tk ok r=>t9 hk hd hv ok r (qn r rfl h)
theorem WZ{i j:Nat}{y u:AV}{P:Nat->AV->Prop}(e:(m.set i (some y))[j]?=some (some u))(h1:P i y)(h2:j≠i->m[j]?=some (some u)->P j u):P j u:=by
 by_cases q:j=i
 ·subst q
  obtain ⟨hl,e⟩:=List.getElem?_eq_some_iff.mp e
  rw [List.getElem_set_self] at e
  exact Option.some.inj e▸h1
 ·exact h2 q ((List.getElem?_set_ne (Ne.symm q)).symm.trans e)
theorem Ej{x:Str}{i:Nat}{v:Value}{y:AV}{Q:Unit->MM->AH->Prop}(hi:fx.nm i=some x)(e8:∀j,fx.nm j=some x->j=i)(hv:er v=y)
 (hk:fx.env.kindOf x=some .local\/(fx.env.kindOf x=some .cell/\fx.wr=true))(h:Q () (m.set i (some y)) H):AW G n fx (storeName fx.env x v) VU Q E m H:=λb hh tk ok r=>by
 induction r with|mk mC D own r=>
 have set:∀{kZ h'},qs fx.env kZ h' x v->(∀z cv,z≠x->qs fx.env mC hh z cv->qs fx.env kZ h' z cv)->∀j u,(m.set i (some y))[j]?=some (some u)->Cj fx.nm fx.env kZ h' j u:=λ{kZ h'} l1 l2 j u e=>
  WZ (P:=Cj fx.nm fx.env kZ h') e ⟨x,v,hi,hv,l1⟩ λq e=>by cases r.aa j u e with|mk z cv e1 e2 e3=>exact ⟨z,cv,e1,e2,l2 z cv (λw=>q (e8 j (w▸e1))) e3⟩
 rcases hk with k|⟨k,hwr⟩
 ·have nb:b.get? fx.env.locals=none:=mH (hh:=b) (λa o=>Heap.lt_size) r.F.above
  refine wpAny_storeName_local k r.F.ns (λh' hn hs=>qz h trivial ⟨_,D,own,r.F.set hn hs,r.hr.lP λc ob hc e=>(hs.2 c λq=>?_).trans e,set (.var k (if_pos rfl)) λz cv ne l=>?_,
   ⟨λz c e=>(r.cells.ok z c e).up (λob e5=>(hs.2 c (r.cells.ok z c e).nl).trans e5) λZaa a b Zaa=>⟨a,b⟩,r.cells.inj,r.cells.has⟩,r.aR.up λp Zaa q=>(hs.2 _ q.nl).trans q.lv⟩) (by rw [ok.jN];rfl)
  ·exact hc.elim (λhc=>(r.hr.live c hc).nl q) λhc=>ff (congrArg Option.isSome (kj ok.dB nb)) (q▸hc)
  ·induction l with
   |var k2 e=>exact .var k2 ((if_neg ne).trans e)
   |cell kk c ob e4 e5 e6=>exact .cell kk c ob e4 ((hs.2 c (r.cells.ok z c e4).nl).trans e5) e6
 ·obtain ⟨c,hc⟩:=Option.isSome_iff_exists.mp (r.cells.has x k)
  cases r.cells.ok x c hc with|mk d1 d2 d3 d4 u0 ZX ZY ZZ=>
  refine wpAny_storeName_cell ok.jN k hc ⟨ZX,ZY,ZZ⟩ λh' Z0 hs=>?_
  obtain ⟨o',KD,gD⟩:=Z0
  refine qz h trivial ⟨mC,D,own,⟨r.F.ns.sameBut hs (Ne.symm d2),λa o e=>(hs.2 a λq=>nz (d1 hwr) (q▸e)).trans (r.F.keep a o e),r.F.above⟩,r.hr.lP λa ob u7 e=>(hs.2 a λq=>?_).trans e,set (.cell (.inl k) c o' hc KD gD) λz cv ne l=>?_,
   ⟨λz c' e=>?_,r.cells.inj,r.cells.has⟩,r.aR.up λp Zaa q=>(hs.2 _ λ(z:p.1=c)=>q.nc x (z▸hc)).trans q.lv⟩
  ·exact u7.elim (λu7=>d3 (q▸u7)) λu7=>ff (congrArg Option.isSome (ok.cM x c hc)) (q▸u7)
  ·exact l.up λc2 ob e4 e5=>(hs.2 c2 λw=>ne (r.cells.inj z x c2 e4 (w▸hc))).trans e5
  ·by_cases w:c'=c
   ·exact w▸⟨d1,d2,d3,d4,_,o',KD,gD⟩
   ·exact (r.cells.ok z c' e).up (λob e5=>(hs.2 c' w).trans e5) λZaa a b Zaa=>⟨a,b⟩
theorem EM{pos:Pos}{Q:List AV->MM->AH->Prop}(h:Q [] m H):AW G n fx (spliced (backTo pos (starEach [] fx.env))) VL Q E m H:=λb hh tk ok r=>spliced_none ⟨hh,tk,m,H,[],rfl,r,rfl,h⟩
theorem zJ{e:Expr}{rest:List Expr}{pos:Pos}{Q:List AV->MM->AH->Prop}{Q1:AV->MM->AH->Prop}(he:starEach (e::rest) fx.env=(false,eval e fx.env)::starEach rest fx.env)
 (h:AW G n fx (eval e fx.env) VA Q1 E m H)(h2:∀y m1 H1,Q1 y m1 H1->AW G n fx (spliced (backTo pos (starEach rest fx.env))) VL (λys m' H'=>Q (y::ys) m' H') E m1 H1):
 AW G n fx (spliced (backTo pos (starEach (e::rest) fx.env))) VL Q E m H:=λb hh tk ok r=>
 spliced_more (qm (h b hh tk ok r) (λZaa Zaa x=>x) λv h' bg m' H' y r' l q=>
  qm (h2 y m' H' q b h' bg ok r') (λZaa Zaa x=>x) λvs eH uI KI iK ys u9 l2 q2=>qn (y:=y::ys) u9 (by rw [<-l,<-l2];rfl) q2) he
theorem Rk{es:List Expr}{pos:Pos}{Q:AV->MM->AH->Prop}(k:LK)(h:AW G n fx (spliced (backTo pos (starEach es fx.env))) VL (λys m' H'=>ys.length<=1000000/\∀c,H' c=none->Q (.ref c) m' (H'.ai c (.list k ys))) E m H):
 AW G n fx (eval (.List es pos) fx.env) VA Q E m H:=by
 rw [arm_eval_List]
 exact gJ (cS h λvs ys m1 H1 e q=>t8 (ob:=λZaa=>{cls:=.type "list",data:=.seq vs.toArray}) q.2 rfl (λD s=>e▸wj vs k) λb hh tk P ok r hP=>
  wpAny_newList (hP 0) (Nat.le_of_succ_le (iU ((List.length_map er).symm.trans (congrArg List.length e)▸q.1))))
theorem TH{es:List Expr}{kk:Nat}{pos:Pos}{Q:AV->MM->AH->Prop}(h:AW G n fx (spliced (backTo pos (starEach es fx.env))) VL (λys m' H'=>ys.length<=1000000/\∀c,H' c=none->Q (.ref c) m' (H'.ai c (.aj ys))) E m H):
 AW G n fx (eval (.Tuple es kk pos) fx.env) VA Q E m H:=by
 rw [arm_eval_Tuple]
 exact gJ (cS h λvs ys m1 H1 e q=>t8 (ob:=λZaa=>{cls:=.type "tuple",data:=.seq vs.toArray}) q.2 rfl (λD s=>e▸zz vs) λb hh tk P ok r hP=>
  wpAny_newTuple (hP 0) (Nat.le_of_succ_le (iU ((List.length_map er).symm.trans (congrArg List.length e)▸q.1))))
end
end
structure Pl(e:Expr)(u:Bool):Prop where
 star:∀rest env,starEach (e::rest) env=(false,eval e env)::starEach rest env
 az:∀rest env,assignEach (e::rest) env=(false,assign e env)::assignEach rest env
 sub:∀a b,subscripted e false a b=operate [a,b] (getItem a b)
 iter:∀env x,foldedSetIterable e env x=pure x
 base:u=true->∀attr env whole,attributeBase e attr env whole=whole
noncomputable def G7(e:Expr):Option {u:Bool // Pl e u}:=match e with
 |.Name ..=>some ⟨true,λZaa Zaa=>rfl,λZaa Zaa=>rfl,λZaa Zaa=>rfl,λZaa Zaa=>rfl,λZaa Zaa Zaa Zaa=>rfl⟩
 |.Constant ..=>some ⟨false,λZaa Zaa=>rfl,λZaa Zaa=>rfl,λZaa Zaa=>rfl,λZaa Zaa=>rfl,nofun⟩
 |.Attribute ..=>some ⟨true,λZaa Zaa=>rfl,λZaa Zaa=>rfl,λZaa Zaa=>rfl,λZaa Zaa=>rfl,λZaa Zaa Zaa Zaa=>rfl⟩
 |.Call ..=>some ⟨false,λZaa Zaa=>rfl,λZaa Zaa=>rfl,λZaa Zaa=>rfl,λZaa Zaa=>rfl,nofun⟩
 |.Subscript ..=>some ⟨true,λZaa Zaa=>rfl,λZaa Zaa=>rfl,λZaa Zaa=>rfl,λZaa Zaa=>rfl,λZaa Zaa Zaa Zaa=>rfl⟩
 |.BinOp ..=>some ⟨false,λZaa Zaa=>rfl,λZaa Zaa=>rfl,λZaa Zaa=>rfl,λZaa Zaa=>rfl,nofun⟩
 |.UnaryOp ..=>some ⟨false,λZaa Zaa=>rfl,λZaa Zaa=>rfl,λZaa Zaa=>rfl,λZaa Zaa=>rfl,nofun⟩
 |.BoolOp ..=>some ⟨false,λZaa Zaa=>rfl,λZaa Zaa=>rfl,λZaa Zaa=>rfl,λZaa Zaa=>rfl,nofun⟩
 |.Compare ..=>some ⟨false,λZaa Zaa=>rfl,λZaa Zaa=>rfl,λZaa Zaa=>rfl,λZaa Zaa=>rfl,nofun⟩
 |.IfExp ..=>some ⟨true,λZaa Zaa=>rfl,λZaa Zaa=>rfl,λZaa Zaa=>rfl,λZaa Zaa=>rfl,λZaa Zaa Zaa Zaa=>rfl⟩
 |.List ..=>some ⟨false,λZaa Zaa=>rfl,λZaa Zaa=>rfl,λZaa Zaa=>rfl,λZaa Zaa=>rfl,nofun⟩
 |.Tuple ..=>some ⟨false,λZaa Zaa=>rfl,λZaa Zaa=>rfl,λZaa Zaa=>rfl,λZaa Zaa=>rfl,nofun⟩
 |.ListComp ..=>some ⟨false,λZaa Zaa=>rfl,λZaa Zaa=>rfl,λZaa Zaa=>rfl,λZaa Zaa=>rfl,nofun⟩
 |.Dict ..=>some ⟨false,λZaa Zaa=>rfl,λZaa Zaa=>rfl,λZaa Zaa=>rfl,λZaa Zaa=>rfl,nofun⟩
 |_=>none
noncomputable def bR(e:Expr):Bool:=(G7 e).isSome
theorem wL{e:Expr}(h:bR e=true):∃u,Pl e u:=let ⟨p,_⟩:=Option.isSome_iff_exists.mp h;⟨p.1,p.2⟩
theorem qc{e:Expr}{rest:List Expr}{env:Env}(h:bR e=true):starEach (e::rest) env=(false,eval e env)::starEach rest env:=(wL h).elim λZaa p=>p.star rest env
noncomputable def qd(e:Expr):Bool:=(G7 e).map (·.1)==some true
theorem Dn{o:Expr}{attr:Str}{env:Env}{whole:Sem Value}(h:qd o=true):attributeBase o attr env whole=whole:=by
 obtain ⟨p,_,e⟩:=Option.map_eq_some_iff.mp (beq_iff_eq.mp h)
 exact p.2.base e _ _ _
theorem zw{pos:Pos}{env:Env}{es:List Expr}(h:es.all bR=true):(backTo pos (starEach es env)).any (·.1)=false:=by
 induction es with
 |nil=>rfl
 |cons e rest ih=>rw [qc (an h).1];exact (Bool.false_or _).trans (ih (an h).2)
noncomputable def su(K:Frag)(M:Model)(f:Value):Prop:=∀h,K.In h->∃k,(k=Keeper.frame\/k=Keeper.machine\/k=Keeper.boundFrame)/\Looks M h (keeperOf f) k
theorem zV{K:Frag}{M:Model}{f:Value}(h:keepIn K f=true):su K M f:=λhh X=>keeps_K h hh X
theorem E7{K:Frag}{M:Model}{s:String}:su K M (.builtin s):=λhh X=>⟨.machine,.inr (.inl rfl),Looks.of_pure rfl⟩
theorem E8{K:Frag}{M:Model}{s:String}:su K M (.type s):=λhh X=>⟨.machine,.inr (.inl rfl),Looks.of_pure rfl⟩
theorem DZ{M:Model}{A:Around}{E:Value->Shared->Prop}{s:Shared}{f:Value}{Q:Args->Shared->Prop}
 (h:wpAny M A (spliced []) (λvs s'=>Q ⟨vs,[]⟩ s') E s):wpAny M A (evalArgs f true [] []) Q E s:=by
 unfold evalArgs
 show wpAny M A (spliced [] >>= _) Q E s
 refine wpAny_bind (wpAny_mono h (λvs s' h'=>?_) λZaa Zaa x=>x)
 refine wpAny_holding ?_
 exact wpAny_bind (wpAny_pure (wpAny_bind (wpAny_pure (wpAny_pure h'))))
section
variable{G:Gx}{n:Nat}{fx:Fx}{E:Addr->AH->Prop}{m:MM}{H:AH}
theorem RX.at{A:Around}{b hh:Heap}(r:RX G fx b m H hh):RX G (fx.at A) b m H hh:=let ⟨a,c,d,r⟩:=r;⟨a,c,d,r.F,r.hr,r.aa,r.cells,r.aR⟩
theorem RX.of{A:Around}{b hh:Heap}(r:RX G (fx.at A) b m H hh):RX G fx b m H hh:=let ⟨a,c,d,r⟩:=r;⟨a,c,d,r.F,r.hr,r.aa,r.cells,r.aR⟩
theorem dK.of{A:Around}{b hh:Heap}{C ea:Addr}(r:dK G (fx.at A) b H C ea hh):dK G fx b H C ea hh:=let ⟨B,a,c,d,r⟩:=r;⟨B,a,c,d,⟨r.dB,r.up,r.jj,r.frames,r.exc,r.slots,r.ns,r.hr,r.qx⟩⟩
theorem RX.cJ{b hh:Heap}(ok:aX G fx n b)(r:RX G fx b m H hh):G.K.In hh:=let ⟨_,_,_,r⟩:=r;ok.cJ.keeps r.F.keep
theorem wA{f:Value}{first:List Value}{es:List Expr}{pos p2:Pos}{Q:AV->MM->AH->Prop}(pB:es.all bR=true)(hk:su G.K G.M f)
 (h:AW G n fx (spliced (backTo pos (starEach es fx.env))) VL (λys m' H'=>∀vs,vs.map er=ys->AW G n fx (call f (first++vs) []) VA Q E m' H') E m H):
 AW G n fx (callWith p2 f first (backTo pos (starEach es fx.env)) []) VA Q E m H:=λb hh tk ok r=>by
 refine callWith_of (P:=λh=>G.K.In h) (by rw [zw pB];rfl) hk ?_
 induction es with
 |nil=>exact DZ (qm (h b hh tk ok r) (λZaa Zaa x=>x) λvs h' bg m' H' ys r' l q=>⟨r'.cJ ok,q vs l b h' bg ok r'⟩)
 |cons e rest=>
  have h1:=h b hh tk ok r
  rw [qc (an pB).1] at h1 ⊢
  exact evalArgs_plain (qm h1 (λZaa Zaa x=>x) λvs h' bg m' H' ys r' l q=>⟨r'.cJ ok,q vs l b h' bg ok r'⟩)
theorem Pp{f:Addr}{vs:List Value}{args:List AV}{Q:AV->MM->AH->Prop}(e:vs.map er=args)(h:jO G n f args (λv H'=>Q v m H') E H):AW G n fx (call (.ref f) vs []) VA Q E m H:=λb hh tk ok r=>
 wpAny_call (codeAny_mono (h.run fx b m hh tk vs ok r e) λrr s' p=>by
  induction p with
  |ok r q=>exact qn r rfl q
  |er x q=>exact ⟨_,_,_,_,_,rfl,rfl,x,q⟩)
theorem R.W0{b h h':Heap}{mC:Str->Option Value}{D:Addr->Addr}{own:List Addr}{a dx:Addr}{C:Nat}(ok:aX G fx n b)(r:R G fx b m H h mC D own)(F':Fr b fx.env.locals h' mC)(k:∀c ob,(c∈own\/c∈fx.ig)->b.get? c=none->c≠fx.env.locals->h.get? c=some ob->h'.get? c=some ob)
 (ha:h.get? a=none)(hd:h.get? dx=none)(Z6:b.get? a=none)(Z7:b.get? dx=none)(Z8:a≠fx.env.locals)(Z9:dx≠fx.env.locals)(hsa:a≠sysModules)(hne:dx≠a)(h1:h'.get? a=some (instObj C dx))(h2:h'.get? dx=some (dictOf [] 0)):
 H a=none/\RX G fx b m (H.ai a (.inst false C [])) h':=by
 have r':=r.lP ok F' k
 have hHa:=r.hr.fresh ha
 have KJ:=r.hr.qe hd
 obtain ⟨D',sX,hD⟩:∃D':Addr->Addr,D' a=dx/\∀{c},c≠a->D' c=D c:=⟨λc=>if c=a then dx else D c,if_pos rfl,λq=>if_neg q⟩
 have up:∀{c},c∈own->c∈a::dx::own:=λm=>.tail _ (.tail _ m)
 have x:=r'.hr
 refine ⟨hHa,mC,D',a::dx::own,r'.re F' ⟨λc mm=>?_,λc oc ec=>fT (P:=cY G.prog G.w _ h') ec ?_ λq ec=>(x.cont c oc ec).ZO λZaa=>hD q,λc oc ec hm=>fT (P:=λc oc=>oc.mut=true->c∈a::dx::own) ec (λZaa=>.head _) (λq ec hm=>up (x.fE c oc ec hm)) hm,
  λc oc ec=>fT (P:=λc Zaa=>c∈a::dx::own\/(G.b0.get? c).isSome=true) ec (.inl (.head _)) λq ec=>(x.src c oc ec).imp up id,(dj H a _ (Ne.symm hsa)).trans x.fX,λc oc ec bJ=>?_⟩ (λZaa Zaa Zaa Zaa e=>e) (λy c ob e n1 n2 Zaa=>?_)
  ((r'.aR.more λp hp (q:p.1=dx)=>nz hd (q▸(r.aR p hp).lv)).more λp hp (q:p.1=a)=>nz ha (q▸(r.aR p hp).lv))⟩
 ·refine oE mm (λq=>?_) λmm=>oE mm (λq=>?_) (x.live c)
  ·subst q;exact ⟨Z6,Z8,by rw [h1];rfl⟩
  ·subst q;exact ⟨Z7,Z9,by rw [h2];rfl⟩
 ·exact ⟨sX.symm▸h1,[],sX.symm▸DW h2 .nil (λe he=>absurd he (Array.not_mem_empty _)) .nil,rfl⟩
 ·by_cases q:c=a
  ·subst q
   refine ⟨sX.symm▸.tail _ (.head _),?_,λc' jo iH j3 e3=>?_⟩
   ·rw [sX,dj H c _ hne];exact r.hr.fresh hd
   ·by_cases q':c'=c
    ·exact q'
    ·rw [dj H c _ q'] at iH
     exact absurd (((hD q').symm.trans (e3.trans sX):D c'=dx)▸(x.dW c' jo iH j3).own) KJ
  ·rw [dj H a _ q] at ec
   have d:=x.dW c oc ec bJ
   refine ⟨(hD q).symm▸up d.own,?_,λc' jo iH j3 e3=>?_⟩
   ·rw [hD q,dj H a _ λy=>r.hr.qe ha (y▸d.own)];exact d.no
   ·rw [hD q] at e3
    by_cases q':c'=a
    ·exact absurd ((e3.symm.trans ((congrArg D' q').trans sX):D c=dx)▸d.own) KJ
    ·rw [dj H a _ q'] at iH
     exact d.inj c' jo iH j3 ((hD q').symm.trans e3)
 ·have l:=r.cells.ok y c e
  have ne:c≠a:=λq=>l.lv (q▸ha)
  have ne2:c≠dx:=λq=>l.lv (q▸hd)
  exact ⟨List.not_mem_cons_of_ne_of_not_mem ne (List.not_mem_cons_of_ne_of_not_mem ne2 n1),(dj H _ _ ne).trans n2⟩
theorem Pq{C f:Addr}{vs:List Value}{args:List AV}{Q:AV->MM->AH->Prop}(hok:G4 G.K C f=true)(e:vs.map er=args)
 (h:∀x,H x=none->jO G n f (.ref x::args) (λv H'=>v=.none/\Q (.ref x) m H') E (H.ai x (.inst false C []))):AW G (n+1) fx (call (.ref C) vs []) VA Q E m H:=λb hh tk ok r=>by
 obtain ⟨KL,o3⟩:=an hok
 induction r with|mk mC D own r=>
 have cJ:=ok.cJ.keeps r.F.keep
 refine wpAny_call (make_core (makes_of cJ (an KL).1) (looks_findIn cJ (beq_iff_eq.mp (an KL).2)) (λself=>bind_fn cJ self (beq_iff_eq.mp o3)) (.inl rfl) ?_)
 have kk:∀c ob,hh.get? c=some ob->((hh.push emptyDict).push (instObj C hh.objs.size)).get? c=some ob:=λc ob q=>Heap.get?_push_of_some _ (Heap.get?_push_of_some _ q)
 have es:(hh.push emptyDict).objs.size=hh.objs.size+1:=Heap.size_push _ _
 have hn:∀a,hh.objs.size<=a->hh.get? a=none:=λa=>mH λa o e=>Heap.lt_size e
 have hL:=r.F.ns.lt
 have gx:((hh.push emptyDict).push (instObj C hh.objs.size)).get? (hh.objs.size+1)=some (instObj C hh.objs.size):=es▸Heap.get?_push_size _ rfl
 have jr:hh.objs.size+1≠sysModules:=λq=>by
  have h3:=(ok.eG.g.keeps r.F.keep).lt
  rw [show hh.objs.size=0 from Nat.succ.inj q] at h3;exact absurd h3 (by decide)
 have x:=r.W0 (a:=hh.objs.size+1) (dx:=hh.objs.size) (C:=C) ok (((r.F.push _).push _)) (λc ob Zaa Zaa Zaa q=>kk c ob q) (hn _ (Nat.le_succ _)) (hn _ (Nat.le_refl _)) (Fr.fresh r.F (hn _ (Nat.le_succ _))) (uG r.F)
  (Nat.ne_of_gt (Nat.lt_succ_of_lt hL)) (Nat.ne_of_gt hL) jr (Nat.ne_of_lt (Nat.lt_succ_self _)) gx (Heap.get?_push_of_some _ (Heap.get?_push_size hh rfl))
 have Cu:aX G (fx.at (fx.A.under (.builtin "type.__call__" ⟨.ref C::vs,[]⟩))) n b:={ok with
  stack:=ok.stack
  eW:=ok.eW
  depth:=by have:=ok.depth;show fx.A.depth+1+n<_;lia
  units:=by have:=ok.units;show fx.A.units+1+16*n+16<_;lia}
 refine codeAny_mono ((h _ x.1).run _ b m _ tk (.ref (hh.objs.size+1)::vs) Cu x.2.at (by rw [List.map_cons,e];rfl)) λrr s' p=>?_
 induction p with
 |ok r q=>exact ⟨Ai q.1,qn r.of rfl q.2⟩
 |er x q=>exact ⟨_,_,_,_,_,rfl,rfl,x.of,q⟩
end
noncomputable def zW:List Nat:=[97,112,112,101,110,100]
noncomputable def ur:List Nat:=[112,111,112]
noncomputable def Bt:List Nat:=[103,101,116]
noncomputable def wV:List Nat:=[105,116,101,109,115]
noncomputable def Aj:List Nat:=[115,112,108,105,116]
theorem NB{x:Str}(h:x.cps.toList=zW):x="append":=mL (h.trans (by decide))
theorem G8{x:Str}(h:x.cps.toList=ur):x="pop":=mL (h.trans (by decide))
theorem Rl{x:Str}(h:x.cps.toList=Bt):x="get":=mL (h.trans (by decide))
theorem Oi{x:Str}(h:x.cps.toList=wV):x="items":=mL (h.trans (by decide))
theorem Oj{x:Str}(h:x.cps.toList=Aj):x="split":=mL (h.trans (by decide))
section
variable{G:Gx}{n:Nat}{fx:Fx}{E:Addr->AH->Prop}{m:MM}{H:AH}
theorem Ol{base:Expr}{o r:Value}{Q:Unit->MM->AH->Prop}(h:Q () m H):AW G n fx (letTemporaryGo base o r) VU Q E m H:=λb hh tk ok rr=>wpAny_letTemporaryGo (qn (y:=()) rr trivial h)
theorem TJ{v:Value}{i:Int}{Q:AV->MM->AH->Prop}(e:er v=.int i)(h:Q (.int (-i)) m H):AW G n fx (unaryOp .USub v) VA Q E m H:=
 eI e λt=>eV h λhh tk P hP=>PySem.P.neg_int (hP _ _ rfl)
inductive Ob(h:Heap)(a:Addr)(T:String):Prop
 |mk (ob:Obj) (h1:h.get? a=some ob) (h2:ob.cls=.type T) (h3:ob.dict=none)
theorem RX.KN{b h:Heap}{a:Addr}{xs:List AV}(r:RX G fx b m H h)(e:H a=some (.list .mu xs)):Ob h a "list":=by
 obtain ⟨D,cv,h0,_⟩:=r.cont e
 obtain ⟨_,h0⟩:=h0.2 rfl
 exact ⟨_,h0,rfl,rfl⟩
theorem RX.Cv{b h:Heap}{a:Addr}{fz:Bool}{kvs:List (Int×AV)}(r:RX G fx b m H h)(e:H a=some (.bz fz kvs)):Ob h a "dict":=by
 obtain ⟨D,ck,⟨ob,_,_,h1,⟨h2,h3,_⟩,_⟩,_⟩:=r.cont e
 exact ⟨ob,h1,h2,h3⟩
noncomputable def qP(T:String)(x:Str)(id:String):Prop:=∀{G:Gx} {A:Around} {pl:Sem Bool} {E:Value->Shared->Prop} {s:Shared} {a:Addr} {Q:Value×List Value->Shared->Prop},Ob s.heap a T->Q (.builtin id,[.ref a]) s->wpAny G.M A (getMethod (.ref a) x pl) Q E s
theorem ud{h:Heap}{a:Addr}{ob:Obj}(h1:h.get? a=some ob)(h3:ob.dict=none):∀a',(Value.ref a)=.ref a'->∃o,h.get? a'=some o/\o.dict=none:=λa' q=>by cases q;exact ⟨ob,h1,h3⟩
theorem Om:qP "list" "append" "list.append":=λ⟨_,h1,h2,h3⟩ q=>getMethod_builtin ⟨_,h1,h2⟩ F.plainAttrs_list slot_list_append type_list_append (ud h1 h3) q
theorem TL:qP "list" "pop" "list.pop":=λ⟨_,h1,h2,h3⟩ q=>getMethod_builtin ⟨_,h1,h2⟩ F.plainAttrs_list F.slot_list_pop F.type_list_pop (ud h1 h3) q
theorem TM:qP "dict" "get" "dict.get":=λ⟨_,h1,h2,h3⟩ q=>getMethod_builtin ⟨_,h1,h2⟩ F.plainAttrs_dict F.slot_dict_get F.type_dict_get (ud h1 h3) q
theorem Rm:qP "dict" "pop" "dict.pop":=λ⟨_,h1,h2,h3⟩ q=>getMethod_builtin ⟨_,h1,h2⟩ F.plainAttrs_dict F.slot_dict_pop F.type_dict_pop (ud h1 h3) q
theorem Pr:qP "dict" "items" "dict.items":=λ⟨_,h1,h2,h3⟩ q=>getMethod_builtin ⟨_,h1,h2⟩ F.plainAttrs_dict F.slot_dict_items F.type_dict_items (ud h1 h3) q
theorem Pu{va:Value}{a:Addr}{T id:String}{x:Str}{pl:Sem Bool}{Q:Value×List Value->MM->AH->Prop}(ea:er va=.ref a)(ho:∀{b hh},RX G fx b m H hh->Ob hh a T)(k:qP T x id)
 (h:Q (.builtin id,[.ref a]) m H):AW G n fx (getMethod va x pl) (λx y=>x=y) Q E m H:=eR ea λb hh tk ok r=>k (s:=G.sh hh tk) (ho r) (qn r rfl h)
theorem Pw{va:Value}{s:List Nat}{x:Str}{pl:Sem Bool}{Q:Value×List Value->MM->AH->Prop}(ea:er va=.str s)(hx:x="split")
 (h:Q (.builtin "str.split",[va]) m H):AW G n fx (getMethod va x pl) (λx y=>x=y) Q E m H:=by
 subst hx
 revert h
 exact eS ea λt h b hh tk ok r=>getMethod_builtin (T:="str") (typeIs_str _ _ _) F.plainAttrs_str F.slot_str_split F.type_str_split (λa q=>by cases q) (qn r rfl h)
theorem Rn{o:Expr}{attr:Str}{pos:Pos}{Q Q1:AV->MM->AH->Prop}(hp:qd o=true)(h:AW G n fx (eval o fx.env) VA Q1 E m H)
 (h2:∀v y m1 H1,er v=y->Q1 y m1 H1->AW G n fx (getAttr v attr true) VA Q E m1 H1):AW G n fx (eval (.Attribute o attr pos) fx.env) VA Q E m H:=by
 rw [arm_eval_Attribute,Dn hp]
 refine cS h λv y m1 H1 e q=>gJ (cS (gu (h2 v y m1 H1 e q)) λr z m2 H2 e2 q2=>?_)
 exact cS (Ol (Q:=λZaa m' H'=>Q z m' H') q2) λZaa Zaa m3 H3 Zaa q3=>iT e2 q3
theorem TN{o i:Expr}{pos:Pos}{Q Q1 Q2:AV->MM->AH->Prop}(hp:bR i=true)(h:AW G n fx (eval o fx.env) VA Q1 E m H)
 (h2:∀y m1 H1,Q1 y m1 H1->AW G n fx (eval i fx.env) VA (λz m2 H2=>gQ (λv=>Q v m2 H2) H2 y z) E m1 H1):AW G n fx (eval (.Subscript o i pos) fx.env) VA Q E m H:=λb hh tk ok r=>
 Subscript_ (qm (h b hh tk ok r) (λZaa Zaa x=>x) λv h' bg m' H' y r' l q=>qm (h2 y m' H' q b h' bg ok r') (λZaa Zaa x=>x) λvi eH uI KI iK z u9 l2 q2=>Q7 l l2 q2 ((wL hp).elim λZaa p=>p.sub _ _) b eH uI ok u9)
inductive qQ(Q:AV->AH->Prop)(H:AH):AV->AV->Prop
 |mk {a:Nat} {kk:LK} {xs:List AV} {k:Nat} (k2:LK) (e:H a=some (.list kk xs)) (l:xs.length<=1000000) (h:∀c,H c=none->Q (.ref c) (H.ai c (.list k2 (xs.take k)))):qQ Q H (.ref a) (.int k)
noncomputable abbrev KO(vi:Value):Obj:={cls:=.type "slice",data:=.fields #[.none,vi,.none]}
theorem RX.slice{b h:Heap}{vi:Value}(r:RX G fx b m H h):RX G fx b m H (h.push (KO vi)):=r.keeps λc ob q=>Heap.get?_push_of_some _ q
noncomputable def TR(G:Gx)(n:Nat)(fx:Fx)(E:Addr->AH->Prop)(o u:Expr)(p:Pos)(va vi:Value)(m:MM)(H:AH)(Q:AV->MM->AH->Prop):Prop:=∀b h tk,aX G fx n b->RX G fx b m H h->
 wpAny G.M fx.A (subscriptTail o (.Slice none (some u) none p) va (.ref h.objs.size)) (iX G fx b VA Q) (fh G fx b E) (G.sh (h.push (KO vi)) tk)
theorem G9{o u:Expr}{p pos:Pos}{Q Q1:AV->MM->AH->Prop}{Q2:AV->AV->MM->AH->Prop}(h:AW G n fx (eval o fx.env) VA Q1 E m H)
 (h2:∀y m1 H1,Q1 y m1 H1->AW G n fx (eval u fx.env) VA (Q2 y) E m1 H1)(h3:∀{va vi y z m2 H2},er va=y->er vi=z->Q2 y z m2 H2->TR G n fx E o u p va vi m2 H2 Q):AW G n fx (eval (.Subscript o (.Slice none (some u) none p) pos) fx.env) VA Q E m H:=λb hh tk ok r=>
 Subscript_ (qm (h b hh tk ok r) (λZaa Zaa x=>x) λv h' bg m' H' y r' l q=>by
  refine wpAny_Slice ?_
  rw [evalPart_none,evalPart_some]
  exact wpAny_pure (qm (h2 y m' H' q b h' bg ok r') (λZaa Zaa x=>x) λvi eH uI KI iK z u9 l2 q2=>wpAny_pure (h3 l l2 q2 b eH uI ok u9)))
theorem Px{o u:Expr}{p pos:Pos}{Q Q1:AV->MM->AH->Prop}(h:AW G n fx (eval o fx.env) VA Q1 E m H)
 (h2:∀y m1 H1,Q1 y m1 H1->AW G n fx (eval u fx.env) VA (λz m2 H2=>qQ (λv H'=>Q v m2 H') H2 y z) E m1 H1):AW G n fx (eval (.Subscript o (.Slice none (some u) none p) pos) fx.env) VA Q E m H:=
 G9 (Q2:=λy z m2 H2=>qQ (λv H'=>Q v m2 H') H2 y z) h h2 λ{va vi y z m2 H2} l l2 q=>by
  induction q with| @mk a kk xs k k2 e hl q=>
  refine eR l (eI l2 λt b h tk ok r=>?_)
  obtain ⟨D,cv,bN,rfl⟩:=r.cont e
  rw [List.length_map] at hl
  refine tail_any (T:="list") (bN.1.push _).typeIs slot_list_getitem.lookup ?_ (ops:=[_,_]) rfl
  refine wpAny_getItem_list_slice (bN.1.push _) (Heap.IsSliceOf.new _ _ _ _) .none (.int _ _) .none (by simp) ?_ (Nat.le_of_succ_le (iU hl))
  rw [slicePick_upto' cv.toArray k]
  have x:=(r.slice (vi:=.int (k:Int) t)).push (ob:={cls:=.type "list",data:=.seq (cv.take k).toArray}) (o:=.list k2 ((cv.take k).map er)) ok rfl λD=>wj _ _
  rw [List.map_take] at x
  exact qn x.2 rfl (q _ x.1)
noncomputable def nY(s:List Nat):List Nat:=(Builtin.Str.strSliceIndices none (some (-1)) 1 s.length).filterMap (s[·]?)
inductive oF(Q:AV->Prop):AV->AV->Prop
 |mk {s:List Nat} (h1:((Builtin.Str.strSliceIndices none (some (-1)) 1 s.length).length==s.length)=false) (h2:(nY s).length<=1000) (h:Q (.str (nY s))):oF Q (.str s) (.int (-1))
theorem Oo{o u:Expr}{p pos:Pos}{Q Q1:AV->MM->AH->Prop}(h:AW G n fx (eval o fx.env) VA Q1 E m H)
 (h2:∀y m1 H1,Q1 y m1 H1->AW G n fx (eval u fx.env) VA (λz m2 H2=>oF (λv=>Q v m2 H2) y z) E m1 H1):AW G n fx (eval (.Subscript o (.Slice none (some u) none p) pos) fx.env) VA Q E m H:=
 G9 (Q2:=λy z m2 H2=>oF (λv=>Q v m2 H2) y z) h h2 λ{va vi y z m2 H2} l l2 q=>by
  induction q with| @mk s k1 k2 q2=>
  refine eS l λt=>eI l2 λu b h tk ok r=>?_
  refine tail_any (T:="str") (typeIs_str _ _ _) PySem.F.slot_str_getitem.lookup ?_ (ops:=[_,_]) rfl
  refine wpAny_getItem_str_slice (l:=none) (u:=some (-1,u)) (st:=none) ⟨_,Heap.get?_push_size _ rfl,rfl,rfl⟩ rfl ?_
  have e2:(slicePicked ⟨s.toArray⟩ none (some (-1,u)) none)=Builtin.Str.strSliceIndices none (some (-1)) 1 s.length:=rfl
  have e3:(Builtin.Str.strSliceIndices none (some (-1)) 1 s.length).filterMap ((⟨s.toArray⟩:Str).cps[·]?)=nY s:=by
   unfold nY;congr 1;funext i;exact List.getElem?_toArray ..
  unfold sliceMade
  rw [e2,show (⟨s.toArray⟩:Str).length=s.length from rfl,k1,Bool.and_false,if_neg Bool.false_ne_true,e3]
  exact ⟨Nat.le_trans k2 (by decide),qn r.slice rfl q2⟩
end
noncomputable abbrev Fx.keep(fx:Fx)(p:Addr×Obj):Fx:={fx with kp:=p::fx.kp}
section
variable{G:Gx}{n:Nat}{fx:Fx}{E:Addr->AH->Prop}{m:MM}{H:AH}{b h h':Heap}{a:Addr}{o o':Obj}
theorem aX.keep(ok:aX G fx n b)(p:Addr×Obj):aX G (fx.keep p) n b:={ok with}
theorem aX.in1(ok:aX G fx (n+1) b):aX G (fx.at fx.A.in1) n b:={ok with
 stack:=ok.stack
 eW:=ok.eW
 depth:=by have:=ok.depth;show fx.A.depth+n<_;lia
 units:=by have:=ok.units;show fx.A.units+1+16*n+16<_;lia}
theorem RX.Hf(ok:aX G fx n b)(r:RX G fx b m H h)(hf:o.isFreed=false):RX G (fx.keep (h.objs.size,o)) b m H (h.push o):=by
 cases r with|mk mC D own r=>
 have hn:=lT h
 have r2:=r.o9 (h':=h.push o) (r.F.push o) (r.hr.keeps λc ob q=>Heap.get?_push_of_some _ q) (λZaa c ob Zaa q=>Heap.get?_push_of_some _ q) λZaa Zaa q=>Heap.get?_push_of_some _ q.lv
 exact ⟨mC,D,own,r2.F,r2.hr,r2.aa,r2.cells,List.forall_mem_cons.mpr ⟨⟨Heap.get?_push_size _ hf,Nat.ne_of_gt r.F.ns.lt,r.hr.qe hn,uG r.F,λx q=>(r.cells.ok x _ q).lv hn⟩,r2.aR⟩⟩
theorem R.lM{p:Addr×Obj}{mC:Str->Option Value}{D:Addr->Addr}{own:List Addr}(r:R G (fx.keep p) b m H h mC D own):R G fx b m H h mC D own:=
 ⟨r.F,r.hr,r.aa,r.cells,λq hq=>r.aR q (.tail _ hq)⟩
theorem RX.lM{p:Addr×Obj}(r:RX G (fx.keep p) b m H h):RX G fx b m H h:=let ⟨a,c,d,r⟩:=r;⟨a,c,d,r.lM⟩
theorem RX.AN{p:Addr×Obj}(r:RX G (fx.keep p) b m H h):h.get? p.1=some p.2:=let ⟨_,_,_,r⟩:=r;(r.aR p (.head _)).lv
theorem R.I1(ok:aX G fx n b){mC:Str->Option Value}{D:Addr->Addr}{own:List Addr}(r:R G fx b m H h mC D own)(h2:a∉own)(h3:b.get? a=none):H a=none:=by
 cases q:H a with
 |none=>rfl
 |some o=>exact ((r.hr.src a o q).elim (λz=>absurd z h2) λz=>ff (congrArg Option.isSome (kj ok.dB h3)) z)
theorem R.KP(ok:aX G fx n b){mC:Str->Option Value}{D:Addr->Addr}{own:List Addr}(r:R G fx b m H h mC D own)(hs:Heap.ExtBut a h h')(k:nq fx.env b h own (a,o))(h5:∀p∈fx.kp,p.1≠a):R G fx b m H h' mC D own:=
 r.o9 ⟨r.F.ns.extBut hs (Ne.symm k.nl),λc ob e=>hs c ob (λq=>nz k.nb (q▸e)) (r.F.keep c ob e),r.F.above⟩ (r.hr.other hs (r.I1 ok k.no k.nb) k.no) (λx c ob e q=>hs c ob (λz=>k.nc x (z▸e)) q) λp hp q=>hs _ _ (h5 p hp) q.lv
theorem RX.BN{ao:AO}(ok:aX G fx n b)(nJ:∀p∈fx.kp,p.1≠a)(r:RX G (fx.keep (a,o)) b m H h)(hs:Heap.ExtBut a h h')(hi:ao.eF=false)(jr:a≠sysModules)(hc:∀D,cY G.prog G.w D h' a ao):H a=none/\RX G fx b m (H.ai a ao) h':=by
 induction r with|mk mC D own r=>
 have k:=r.aR (a,o) (.head _)
 have r2:=r.lM.KP ok hs k nJ
 have h6:=r.lM.I1 ok k.no k.nb
 exact ⟨h6,mC,D,a::own,r2.re r2.F (r2.hr.add h6 k.no k.nb k.nl jr hi (hc D)) (λZaa Zaa Zaa Zaa e=>e) (λx c ob e n1 n2 Zaa=>have ne:c≠a:=λq=>k.nc x (q▸e);⟨List.not_mem_cons_of_ne_of_not_mem ne n1,(dj H _ _ ne).trans n2⟩) (r2.aR.more nJ)⟩
theorem RX.xY{ao:AO}(ok:aX G fx n b)(r:RX G fx b m H h)(hk:∀c o,h.get? c=some o->h'.get? c=some o)(hi:ao.eF=false)(hc:∀D,cY G.prog G.w D h' h.objs.size ao):H h.objs.size=none/\RX G fx b m (H.ai h.objs.size ao) h':=by
 induction r with|mk mC D own r=>
 exact r.xH (r.o9 ⟨r.F.ns.keeps hk,λc o e=>hk c o (r.F.keep c o e),r.F.above⟩ (r.hr.keeps hk) (λZaa c o Zaa e=>hk c o e) λZaa Zaa q=>hk _ _ q.lv) (lT h) (uG r.F) (Nat.ne_of_gt r.F.ns.lt) (Mine.rR ok r.F) hi (hc D)
theorem RX.tY(r:RX G fx b m H h):∀p∈fx.kp,p.1≠h.objs.size:=λp hp q=>by
 induction r with|mk _ _ _ r=>exact nz (lT h) (q▸(r.aR p hp).lv)
theorem RX.rR(ok:aX G fx n b)(r:RX G fx b m H h):h.objs.size≠sysModules:=let ⟨_,_,_,r⟩:=r;Mine.rR ok r.F
theorem dK.lM{p:Addr×Obj}{C ea:Addr}(r:dK G (fx.keep p) b H C ea h):dK G fx b H C ea h:=let ⟨B,a,c,d,r⟩:=r;⟨B,a,c,d,⟨r.dB,r.up,r.jj,r.frames,r.exc,r.slots,r.ns,r.hr,r.qx⟩⟩
end
noncomputable def pC(mq:List AV):List (Value×Value)->List AV->Prop:=λjv ys=>jv.map (λp=>er p.1)=mq/\jv.map (λp=>er p.2)=ys
theorem E9{K K':Type}[DecidableEq K]{prog:Program}{w:World}{knd:PySem.KeyKind prog w K}(f:K'->K)(g:K->K')(av:K'->AV)(hg:∀k,g (f k)=k)(hk:∀k v,er v=av k->knd.is (f k) v=true){ks:List K'}:∀{jv:List (Value×Value)},jv.map (λp=>er p.1)=ks.map av->
 ∃kvs:List (K×Value),Carries knd jv kvs/\kvs.map (·.1)=ks.map f/\kvs.map (λp=>(g p.1,er p.2))=ks.zip (jv.map λp=>er p.2):=by
 induction ks with
 |nil=>exact λh=>List.map_eq_nil_iff.mp h▸⟨[],trivial,rfl,rfl⟩
 |cons k ks ih=>
  intro jv h
  obtain ⟨p,r,rfl,h1,h2⟩:=List.map_eq_cons_iff.mp h
  obtain ⟨kvs,c1,c2,c3⟩:=ih h2
  exact ⟨(f k,p.2)::kvs,⟨hk k p.1 h1,rfl,c1⟩,congrArg (f k::·) c2,by rw [List.map_cons,c3,hg];rfl⟩
section
variable{G:Gx}{n:Nat}{fx:Fx}{E:Addr->AH->Prop}{m:MM}{H:AH}
theorem Mz{pos:Pos}{Q:List AV->MM->AH->Prop}(h:Q [] m H):AW G n fx (evalPairs (pairTrees [] [] fx.env pos)) (pC []) Q E m H:=λb hh tk ok r=>pairTrees_nil_walk (qn (y:=[]) r ⟨rfl,rfl⟩ h)
theorem Mm{c:Const}{k:Nat}{p pos:Pos}{v:Expr}{ks:List (Option Expr)}{vs:List Expr}{y0:AV}{mq:List AV}{Q:List AV->MM->AH->Prop}{Q1:AV->MM->AH->Prop}(hc:vC c=some y0)(h:AW G n fx (eval v fx.env) VA Q1 E m H)
 (h2:∀y m1 H1,Q1 y m1 H1->AW G n fx (evalPairs (pairTrees ks vs fx.env pos)) (pC mq) (λys m' H'=>Q (y::ys) m' H') E m1 H1):
 AW G n fx (evalPairs (pairTrees (some (.Constant c k p)::ks) (v::vs) fx.env pos)) (pC (y0::mq)) Q E m H:=λb hh tk ok r=>
 pairTrees_cons_walk (qm (FT (Q:=λy m' H'=>y=y0/\AW G n fx (eval v fx.env) VA Q1 E m' H') (E:=E) hc ⟨rfl,h⟩ b hh tk ok r) (λZaa Zaa x=>x) λkv h1 eg m1 H1 y1 r1 l1 q1=>
  qm (q1.2 b h1 eg ok r1) (λZaa Zaa x=>x) λvv pD ja m2 H2 y2 r2 l2 q2=>qm (h2 y2 m2 H2 q2 b pD ja ok r2) (λZaa Zaa x=>x) λrs h3 sY m3 H3 ys r3 l3 q3=>
   qn (y:=y2::ys) r3 ⟨by rw [<-l3.1,<-q1.1,<-l1];rfl,by rw [<-l3.2,<-l2];rfl⟩ q3)
theorem fh.lM{b:Heap}{p:Addr×Obj}{e:Value}{s:Shared}(x:fh G (fx.keep p) b E e s):fh G fx b E e s:=by
 induction x with|mk h tk H C ea e1 e2 x q=>exact ⟨h,tk,H,C,ea,e1,e2,x.lM,q⟩
theorem FU{K:Type}[DecidableEq K](knd:PySem.KeyKind G.prog G.w K){keys:List (Option Expr)}{values:List Expr}{pos:Pos}{mq:List AV}{ao:Bool->List AV->AO}{Q:AV->MM->AH->Prop}(hall:keys.all (·.isSome)=true)(hl:keys.length=values.length)(h0:keys≠[])(hlen:keys.length<=15)
 (hi:∀fz ys,(ao fz ys).eF=false)(hc:∀{jv ys},pC mq jv ys->∃kvs:List (K×Value),Carries knd jv kvs/\(kvs.map (·.1)).Nodup/\∀{fz D h a},h.DictOf knd a kvs->cY G.prog G.w D h a (ao fz ys))
 (h:∀p,AW G n (fx.keep p) (evalPairs (pairTrees keys values fx.env pos)) (pC mq) (λys m' H'=>∃fz,∀c,H' c=none->Q (.ref c) m' (H'.ai c (ao fz ys))) E m H):
 AW G n fx (eval (.Dict keys values pos) fx.env) VA Q E m H:=λb hh tk ok r=>
 wpAny_Dict_walk (knd:=knd) hall hl h0 hlen (qm (h _ b _ tk (ok.keep _) (r.Hf (o:={cls:=.type "dict",data:=.dict #[]}) ok rfl)) (λZaa Zaa x=>x.lM) λjv h1 eg m1 H1 ys r2 l2 q2=>by
  obtain ⟨fz,q2⟩:=q2
  obtain ⟨kvs,c1,c2,c3⟩:=hc l2
  refine ⟨kvs,c1,⟨_,#[],0,r2.AN,⟨rfl,rfl,rfl⟩,rfl,λe he=>absurd he (Array.not_mem_empty _),.nil,.nil⟩,λh' gD e7=>?_⟩
  rw [merged_nil_of_nodup kvs c2] at gD
  have x:=r2.BN (ao:=ao fz ys) ok r.tY e7.extBut (hi fz ys) (r.rR ok) λD=>c3 gD
  exact qn x.2 rfl (q2 _ x.1))
theorem Py{keys:List (Option Expr)}{values:List Expr}{pos:Pos}{ks:List (List Nat)}{Q:AV->MM->AH->Prop}(hall:keys.all (·.isSome)=true)(hl:keys.length=values.length)(h0:keys≠[])(hlen:keys.length<=15)(e8:ks.Nodup)
 (h:∀p,AW G n (fx.keep p) (evalPairs (pairTrees keys values fx.env pos)) (pC (ks.map AV.str)) (λys m' H'=>∃fz,∀c,H' c=none->Q (.ref c) m' (H'.ai c (.bX fz (ks.zip ys)))) E m H):
 AW G n fx (eval (.Dict keys values pos) fx.env) VA Q E m H:=
 FU (ao:=λfz ys=>.bX fz (ks.zip ys)) (strKind G.prog G.w) hall hl h0 hlen (λZaa Zaa=>rfl) (λ{jv ys} l=>by
  obtain ⟨kvs,c1,c2,c3⟩:=E9 (knd:=strKind G.prog G.w) (λk=>(⟨k.toArray⟩:Str)) (λs=>s.cps.toList) AV.str (λZaa=>rfl) (λk v e=>eS e λt=>strKind_is _ _ _ _) l.1
  exact ⟨kvs,c1,c2▸List.Pairwise.map _ (λa b hab q=>hab (congrArg (λs:Str=>s.cps.toList) q)) e8,λd=>⟨kvs,d,l.2▸c3⟩⟩) h
theorem Pz{keys:List (Option Expr)}{values:List Expr}{pos:Pos}{ks:List Int}{Q:AV->MM->AH->Prop}(hall:keys.all (·.isSome)=true)(hl:keys.length=values.length)(h0:keys≠[])(hlen:keys.length<=15)(e8:ks.Nodup)
 (h:∀p,AW G n (fx.keep p) (evalPairs (pairTrees keys values fx.env pos)) (pC (ks.map AV.int)) (λys m' H'=>∃fz,∀c,H' c=none->Q (.ref c) m' (H'.ai c (.bz fz (ks.zip ys)))) E m H):
 AW G n fx (eval (.Dict keys values pos) fx.env) VA Q E m H:=
 FU (ao:=λfz ys=>.bz fz (ks.zip ys)) (intKind G.prog G.w) hall hl h0 hlen (λZaa Zaa=>rfl) (λ{jv ys} l=>by
  obtain ⟨kvs,c1,c2,c3⟩:=E9 (knd:=intKind G.prog G.w) id id AV.int (λZaa=>rfl) (λk v e=>eI e λt=>intKind_is _ _ _ _) l.1
  exact ⟨kvs,c1,c2▸(List.map_id ks).symm▸e8,λd=>⟨kvs,d,l.2▸c3⟩⟩) h
inductive xZ:AO->Prop
 |i:xZ (.bz false [])
 |s:xZ (.bX false [])
theorem PA{pos:Pos}{Q:AV->MM->AH->Prop}(o:AO)(ho:xZ o)(h:∀c,H c=none->Q (.ref c) m (H.ai c o)):AW G n fx (eval (.Dict [] [] pos) fx.env) VA Q E m H:=by
 rw [eval_Dict_empty]
 refine gJ (t8 (ob:=λZaa=>{cls:=.type "dict",data:=.dict #[]}) h ?_ (λD s=>?_) λb hh tk P ok r hP=>by
  show wpAny G.M fx.A (alloc _ >>= _) _ _ _
  exact wpAny_bind (wpAny_alloc (wpAny_pure (hP 0))))
 ·induction ho<;>rfl
 ·induction ho<;>exact ⟨[],Heap.DictOf.new _,rfl⟩
theorem PB{va:Value}{k:Int}{Q:AV->MM->AH->Prop}(ea:er va=.int k)(h:∀c,H c=none->Q (.ref c) m (H.ai c (.bU 0 k))):AW G n fx (call (.type "range") [va] []) VA Q E m H:=
 eI ea λt=>t8 (ob:=λs=>{cls:=.type "range",data:=.fields #[.int 0 s.toks,.int k t,.int 1 (s.toks+1)]}) h rfl (λD s=>⟨_,_,_,Heap.get?_push_size _ rfl⟩) λb hh tk P ok r hP=>call_range_1 (hP 2)
theorem zX{h h':Heap}{o:Obj}(hs:Heap.ExtBut h.objs.size (h.push o) h'):∀c ob,h.get? c=some ob->h'.get? c=some ob:=λc ob e=>hs c ob (Nat.ne_of_lt (Heap.lt_size e)) (Heap.get?_push_of_some _ e)
theorem MA{va:Value}{a:Addr}{fz:Bool}{kvs:List (Int×AV)}{Q:AV->MM->AH->Prop}(ea:er va=.ref a)(ho:H a=some (.bz fz kvs))(hl:kvs.length<=1000000)(jq:Bool)
 (h:∀c,H c=none->Q (.ref c) m (H.ai c (.bz jq kvs))):AW G n fx (call (.type "dict") [va] []) VA Q E m H:=eR ea λb hh tk ok r=>by
 obtain ⟨D,ck,hd,rfl⟩:=r.cont ho
 rw [List.length_map] at hl
 refine kt_call_dict (s:=G.sh hh tk) (r.j5 ho) hd (Nat.le_of_succ_le (iU hl)) λh' gD e7=>?_
 have x:=r.xY (ao:=.bz jq (ck.map yC)) ok (zX e7.extBut) rfl λD=>⟨ck,gD,rfl⟩
 exact qn x.2 rfl (h _ x.1)
theorem MB{va:Value}{a:Addr}{fz:Bool}{kvs:List (List Nat×AV)}{Q:AV->MM->AH->Prop}(ea:er va=.ref a)(ho:H a=some (.bX fz kvs))(hl:kvs.length<=1000000)(jq:Bool)
 (h:∀c,H c=none->Q (.ref c) m (H.ai c (.bX jq kvs))):AW G n fx (call (.type "dict") [va] []) VA Q E m H:=eR ea λb hh tk ok r=>by
 obtain ⟨D,ck,hd,rfl⟩:=r.cont ho
 rw [List.length_map] at hl
 refine kt_call_dict (s:=G.sh hh tk) (r.j5 ho) hd (Nat.le_of_succ_le (iU hl)) λh' gD e7=>?_
 have x:=r.xY (ao:=.bX jq (ck.map pq)) ok (zX e7.extBut) rfl λD=>⟨ck,gD,rfl⟩
 exact qn x.2 rfl (h _ x.1)
theorem PC{va:Value}{a:Addr}{k k':LK}{xs:List AV}{Q:AV->MM->AH->Prop}(ea:er va=.ref a)(ho:H a=some (.list k xs))(hl:xs.length<=1000000)(h:∀c,H c=none->Q (.ref c) m (H.ai c (.list k' xs))):
 AW G n fx (call (.type "list") [va] []) VA Q E m H:=eR ea λb hh tk ok r=>by
 obtain ⟨D,cv,bN,rfl⟩:=r.cont ho
 rw [List.length_map] at hl
 obtain ⟨ob,Cp,hc,e,hd⟩:=bN.1
 refine call_list_seq (s:=G.sh hh tk) a (.inl rfl) Cp hc hd (λh' c' hk lV=>?_) (Nat.le_of_succ_le (iU hl))
 have x:=r.xY (ao:=.list k' (cv.map er)) ok hk rfl λD=>⟨cv,⟨⟨_,lV,rfl,_,rfl⟩,λZaa=>⟨_,lV⟩⟩,rfl⟩
 exact qn x.2 rfl (h _ x.1)
end
theorem zK{cv:List Value}{ns:List Int}(h:cv.map er=ns.map AV.int):IntsAre cv ns:=by
 induction ns generalizing cv with
 |nil=>exact List.map_eq_nil_iff.mp h▸.nil
 |cons k ns ih=>
  obtain ⟨v,r,rfl,h1,h2⟩:=List.map_eq_cons_iff.mp h
  exact eI h1 λt=>.cons _ _ (ih h2)
theorem MV{cv:List Value}{ns:List Int}(h:IntsAre cv ns):cv.map er=ns.map AV.int:=by
 induction h with
 |nil=>rfl
 |cons n t h ih=>exact congrArg (AV.int n::·) ih
theorem Oq{k:Int}{v:Value}(h:Value.isInt k v=true):er v=.int k:=by
 induction v with
 |int j t=>exact congrArg AV.int (eq_of_beq h)
 |_=>cases h
theorem Ro{fx:Fx}{own:List Addr}{b h h':Heap}{L:Addr}{p:Addr×Obj}(N':News b L h' (p::n8 b h L (own++fx.ig))):∀c ob,(c∈own\/c∈fx.ig)->b.get? c=none->c≠L->h.get? c=some ob->h'.get? c=some ob:=λc ob hc hb hL e=>
 (N' (c,ob) (List.mem_cons_of_mem _ (zF (List.mem_append.mpr hc) hb hL e))).1
section
variable{G:Gx}{n:Nat}{fx:Fx}{E:Addr->AH->Prop}{m:MM}{H:AH}
theorem TU{va:Value}{a:Addr}{k:LK}{ns:List Int}{Q:AV->MM->AH->Prop}(ea:er va=.ref a)(ho:H a=some (.list k (ns.map .int)))(h:Q (.int ns.sum) m H):
 AW G n fx (call (.builtin "sum") [va] []) VA Q E m H:=λb hh tk ok r=>by
 rw [kC ea]
 obtain ⟨D,cv,bN,e⟩:=r.cont ho
 have hi:=zK e
 have bN:=bN.1
 obtain ⟨xs,k7⟩:=hi.allInts.items
 have fY:ns=xs.toList.map (·.1):=by rw [<-hi.numsOf,<-nums_intItems,<-k7]
 rw [k7] at bN
 refine sum_intListG (s:=G.sh hh tk) ok.eW bN λh' bg t' hk=>qn (r.keeps hk) rfl ?_
 rw [preSum_eq,List.take_of_length_le (by simp),<-fY]
 exact h
theorem Rp{va:Value}{a:Addr}{k:LK}{ns:List Int}{Q:AV->MM->AH->Prop}(ea:er va=.ref a)(ho:H a=some (.list k (ns.map .int)))(hne:ns≠[])(h:∀M,M∈ns->(∀x∈ns,x<=M)->Q (.int M) m H):
 AW G n fx (call (.builtin "max") [va] []) VA Q E m H:=λb hh tk ok r=>by
 rw [kC ea]
 induction r with|mk mC D own r0=>
 obtain ⟨cv,bN,e⟩:=r0.hr.cont _ _ ho
 exact max_list_N (s:=G.sh hh tk) ok.eW r0.F r0.news bN.1 (zK e) (List.length_pos_iff.mpr hne) λh' M t bg F' N' h1 h2=>qn ⟨mC,D,own,r0.Tr ok F' N'⟩ rfl (h M h1 h2)
theorem TV{va:Value}{i:Int}{Q:AV->MM->AH->Prop}(ea:er va=.int i)(hi:i.natAbs<2^1900)(h:Q (.str (toString i:Str).cps.toList) m H):AW G n fx (call (.type "str") [va] []) VA Q E m H:=
 eI ea λt=>eV h λhh tk P hP=>PySem.P.str_of_int (by
  by_cases q:i.natAbs=0
  ·rw [q];decide
  ·exact Nat.lt_trans ((Nat.log2_lt q).mpr hi) (by decide)) (hP _ _ rfl)
theorem PD{va vy:Value}{s y:List Nat}{Q:AV->MM->AH->Prop}(ea:er va=.str s)(ey:er vy=.str y)(hy:y≠[])(hl:s.length<=1000000)
 (h:∀k c,H c=none->Q (.ref c) m (H.ai c (.list k ((Txt.split ⟨s.toArray⟩ ⟨y.toArray⟩).map λx=>.str x.cps.toList)))):AW G n fx (call (.builtin "str.split") [va,vy] []) VA Q E m H:=λb hh tk ok r=>by
 obtain ⟨t,rfl⟩:=AJ ea
 obtain ⟨u,rfl⟩:=AJ ey
 induction r with|mk mC D own r0=>
 refine splitN1 (s:=G.sh hh tk) r0.F r0.news ?_ (λl h' k e F' N'=>?_) (show s.toArray.size+2<=_ from Nat.le_trans (Nat.add_le_add_right hl 2) (by decide))
 ·induction y with
  |nil=>exact absurd rfl hy
  |cons a y=>simp [Str.length]
 ·have hD:=N' _ (.head _)
  have he:(strValues l).map er=(Txt.split ⟨s.toArray⟩ ⟨y.toArray⟩).map λx=>.str x.cps.toList:=by
   rw [<-e,strValues,List.map_map,List.map_map];rfl
  have x:=r0.add (a:=hh.objs.size) (o:=.list .fz ((strValues l).map er)) ok F' (Ro N') (lT hh) (Nat.le_refl _) (uG r0.F) (Nat.ne_of_gt r0.F.ns.lt) rfl ⟨strValues l,⟨⟨_,hD.1,rfl,_,rfl⟩,nofun⟩,rfl⟩
  rw [he] at x
  exact qn x.2 rfl (h _ _ x.1)
theorem NC{va:Value}{a:Addr}{fz:Bool}{kvs:List (Int×AV)}{Q:AV->MM->AH->Prop}(ea:er va=.ref a)(ho:H a=some (.bz fz kvs))(hl:kvs.length<64)
 (h:∀(ns:List Int) c,ns.Perm (kvs.map (·.1))->H c=none->Q (.ref c) m (H.ai c (.list .fz (ns.map .int)))):AW G n fx (call (.builtin "sorted") [va] []) VA Q E m H:=λb hh tk ok r=>by
 rw [kC ea]
 obtain ⟨D,ck,hd,rfl⟩:=r.cont ho
 rw [List.length_map] at hl
 obtain ⟨ep,fJ⟩:=hd.dictAt
 refine Calls.call_function_entry kind_sorted plain_sorted entry_sorted (args_sorted1 _) ?_
 unfold Builtin.«sorted»
 refine wpAny_bind (m:=checkCount "sorted" 1 1 _) (wpAny_pure ?_)
 have i9:ck.length<=sizeLine:=Nat.le_trans (Nat.le_of_lt hl) (by decide)
 refine wpAny_bind (kdu_collect (s:=G.sh hh tk) (kdl_dict (knd:=intKind G.prog G.w) (kvs:=ck) (ep:=ep) (r.j5 ho)) ok.eW fJ i9 λh1 eg acc hk BO=>?_)
 have hlen:acc.toList.length=ck.length:=BO.1
 refine wpAny_bind (wpAny_newList ?_ (hlen▸i9))
 have hI:IntsAre acc.toList (ck.map (·.1)):=by
  refine zK (List.ext_getElem? λj=>?_)
  rw [List.getElem?_map,List.map_map,List.getElem?_map,Array.getElem?_toList]
  cases q:acc[j]? with
  |none=>rw [List.getElem?_eq_none_iff.mpr (BO.1▸Array.getElem?_eq_none_iff.mp q)];rfl
  |some v=>
   obtain ⟨k,x,hx,hk⟩:=BO.2 j v q
   rw [hx]
   exact congrArg some (Oq hk)
 have Cw:(h1.push (seqObj "list" acc.toList.toArray 0)).get? h1.objs.size=some (seqObj "list" acc.toList.toArray 0):=Heap.get?_push_size _ rfl
 show wpAny _ _ _ _ _ (G.sh (h1.push (seqObj "list" acc.toList.toArray 0)) eg)
 refine wpAny_bind (wpAny_holding (wpAny_call_entry slot_list_sort ⟨_,Cw,rfl⟩ entry_list_sort (list_sort_tree (s:=G.sh (h1.push (seqObj "list" acc.toList.toArray 0)) eg) Cw hI (hlen▸hl) λout ns' a1 a2 a3=>⟨_,rfl,?_⟩) (args_list_sort _)))
 obtain ⟨e,he⟩:=sortedHeap_at (out:=out) Cw
 have x:=(r.keeps hk).xY (ao:=.list .fz (out.toList.map er)) ok (h':=sortedHeap (h1.push (seqObj "list" acc.toList.toArray 0)) h1.objs.size acc.toList out) (λc ob q=>(sortedHeap_old (Nat.ne_of_lt (Heap.lt_size q)) (Heap.size_push ..▸Nat.lt_succ_of_lt (Heap.lt_size q))).trans (Heap.get?_push_of_some _ q)) rfl
  λD=>⟨out.toList,⟨⟨_,he,rfl,_,rfl⟩,nofun⟩,rfl⟩
 rw [MV a1] at x
 exact wpAny_pure ⟨_,rfl,qn x.2 rfl (h ns' _ (by rw [List.map_map];exact a2) x.1)⟩
end
theorem Ek{M:Model}{A:Around}{E:Value->Shared->Prop}{s:Shared}{base:Heap}{l:List Env}{e:Addr}{cls a0 fl:Value}{fr:Option Addr}{Q:Unit->Shared->Prop}
 (hkb:base.StaysIn s.heap)(hl:s.heap.FunFrames base l)(ht:s.heap.TracedAtW base e cls a0 fl)
 (h:∀h',base.StaysIn h'->h'.FunFrames base l->h'.TracedAtW base e cls a0 (fr.elim .none λf=>rawInt f)->(∀b o,s.heap.get? b=some o->(∀vs,o.data≠.fields vs)->h'.get? b=some o)->Q () {s with heap:=h'}):
 wpAny M A (setFlight (.ref e) fr) Q E s:=by
 obtain ⟨oe,vs,T,oT,ts,he,BP,hd,h1,KQ,KR,hT,yH,h3⟩:=ht
 have I3:3<ts.size:=(Array.getElem?_eq_some_iff.mp h3).1
 have other:∀b,b≠T->(s.heap.update T (Obj.mapFields (·.setIfInBounds 3 (fr.elim Value.none λf=>rawInt f)))).get? b=s.heap.get? b:=
  λb hb=>Heap.get?_update_other _ _ (Ne.symm hb)
 have Fb:∀b o,s.heap.get? b=some o->(∀vs,o.data≠.fields vs)->b≠T:=λb o hb qR q=>by
  rw [q,hT] at hb;injection hb with hb;subst hb;exact qR ts yH
 unfold setFlight
 refine wpAny_bind (wpAny_field he hd h1 ?_)
 rw [if_pos (show (Value.ref T != Value.none)=true from by simp)]
 refine wpAny_setField hT yH I3 (h _ (λb o Cx=>(other b λq=>by rw [q,KQ] at Cx;cases Cx).trans (hkb b o Cx))
  (hl.of_keeps λb o hb qR=>⟨o,(other b (Fb b o hb qR)).trans hb,rfl⟩) ?_ λb o hb qR=>(other b (Fb b o hb qR)).trans hb)
 exact ⟨oe,vs,T,_,_,(other e (Ne.symm KR)).trans he,BP,hd,h1,KQ,KR,Heap.get?_update_self _ hT (Obj.isFreed_of_fields (Obj.data_mapFields yH _)),Obj.data_mapFields yH _,by simp [I3]⟩
section
variable{G:Gx}{n:Nat}{fx:Fx}{E:Addr->AH->Prop}{m:MM}{H:AH}{b h h':Heap}{C ea:Addr}{tk:Nat}
theorem RE.step{B:Heap}{mC:Str->Option Value}{D:Addr->Addr}{own:List Addr}(ok:aX G fx n b)(x:RE G fx b H C ea h B mC D own)(k1:B.StaysIn h')(k2:h'.FunFrames B (fx.dR::fx.outer))(k3:HY B fx.Lf ea C h')(k4:h.UpToSlots h'):RE G fx b H C ea h' B mC D own:=
 ⟨k1,x.up,x.jj,k2,k3,x.slots.trans k4,k4.ns x.ns,x.I0 (x.Kw ok.dB ok.gf ok.lS ok.frames) k1,x.qx⟩
inductive nK(G:Gx)(fx:Fx)(b:Heap)(H:AH)(C e:Addr)(h:Heap):Prop
 |mk (B:Heap) (mC:Str->Option Value) (D:Addr->Addr) (own:List Addr) (a0:Value) (x:RE G fx b H C e h B mC D own) (t:h.TracedAtW B e (.ref C) a0 (rawInt fx.Lf))
theorem nK.ve(x:nK G fx b H C ea h):dK G fx b H C ea h:=let ⟨B,mC,D,own,_,x,_⟩:=x;⟨B,mC,D,own,x⟩
inductive KU(G:Gx)(fx:Fx)(b:Heap)(H:AH)(C ea:Addr)(s:Shared):Prop
 |mk (h:Heap) (tk:Nat) (e:s=G.sh h tk) (x:nK G fx b H C ea h)
theorem zY{Ed:Value->Shared->Prop}{env:Env}(ok:aX G fx n b)(he:env.frame=some fx.Lf)(x:dK G fx b H C ea h):wpAny G.M fx.A (noteFrame (.ref ea) env) (λZaa=>KU G fx b H C ea) Ed (G.sh h tk):=by
 induction x with|mk B mC D own x=>
 have hx:=x.frames
 have e:noteFrame (.ref ea) env=noteFrame (.ref ea) fx.dR:=by
  unfold noteFrame PySem.frameOf
  rw [he,ok.gf]
 rw [e]
 have fin:∀{h' bg a0},B.StaysIn h'->h'.FunFrames B (fx.dR::fx.outer)->h'.TracedAtW B ea (.ref C) a0 (rawInt fx.Lf)->h.UpToSlots h'->KU G fx b H C ea (G.sh h' bg):=λk1 k2 k3 k4=>⟨_,_,rfl,B,mC,D,own,_,x.step ok k1 k2 (.at_ _ k3) k4,k3⟩
 cases x.exc with
 |Ck oe vs a0 e1 e2 e3 e4 e5=>
  unfold noteFrame
  simp only [ok.gf]
  refine wpAny_bind (wpAny_field (s:=G.sh h tk) e1 e3 e5 ?_)
  rw [if_neg (by decide)]
  exact wpAny_entryW (s:=G.sh h tk) ok.stack hx ok.gf e1 x.dB x.jj e3 (Array.getElem?_eq_some_iff.mp e5).1 e4 λh' ⟨k1,k2,k3,k4⟩=>fin k1 k2 (e2▸k3) k4
 |out a0 e1=>exact wpAny_noteFrame_onW (s:=G.sh h tk) ok.stack hx ok.gf e1 x.dB x.jj λh' ⟨k1,k2,k3,k4⟩=>fin k1 k2 k3 k4
 |at_ a0 e1=>exact wpAny_noteFrame_againW (s:=G.sh h tk) ok.gf e1 ⟨h,_,rfl,B,mC,D,own,a0,x,e1⟩
theorem Fc{Ed:Value->Shared->Prop}{env:Env}(ok:aX G fx n b)(he:env.frame=some fx.Lf)(x:nK G fx b H C ea h)(hE:∀h' bg,dK G fx b H C ea h'->Ed (.ref ea) (G.sh h' bg)):
 cameBackBy G.M fx.A env Ed (.ref ea) (G.sh h tk):=by
 induction x with|mk B mC D own a0 x e1=>
 obtain ⟨oe,vs,T,oT,ts,f1,f2,f3,f4,f5,f6,f7,f8,f9⟩:=id e1
 unfold cameBackBy
 refine wpAny_bind (wpAny_field (s:=G.sh h tk) f1 f3 f4 ?_)
 rw [if_neg (by simp),he]
 exact Ek (s:=G.sh h tk) (fr:=some fx.Lf) x.dB x.frames e1 λh' k1 k2 k3 k4=>hE h' _ ⟨B,mC,D,own,x.step ok k1 k2 (.at_ a0 k3) λb o e hn=>⟨o.slots,k4 b o e hn⟩⟩
theorem ND{Ed:Value->Shared->Prop}{env:Env}(ok:aX G fx n b)(he:env.frame=some fx.Lf)(x:dK G fx b H C ea h)(hE:∀h' bg,dK G fx b H C ea h'->Ed (.ref ea) (G.sh h' bg)):
 notedBy G.M fx.A env (cameBackBy G.M fx.A env Ed) (.ref ea) (G.sh h tk):=
 wpAny_mono (zY (Ed:=cameBackBy G.M fx.A env Ed) ok he x) (λZaa s' q=>by induction q with|mk h' bg e q=>exact e▸Fc ok he q hE) λZaa Zaa q=>q
end
section
set_option backward.match.sparseCases true
noncomputable abbrev Fx.keeps(fx:Fx)(l:List (Addr×Obj)):Fx:={fx with kp:=l++fx.kp}
inductive eK where
 |list(a:Nat)|aj(a:Nat)|bU(lo hi:Int)|zip(a b:Nat)
noncomputable def eK.ctorIdx(x:eK):Nat:=@eK.casesOn (λZaa=>Nat) x (λZaa=>0) (λZaa=>1) (λZaa Zaa=>2) (λZaa Zaa=>3)
inductive NL1(o:Option AO)(k:Nat)(K:AV->Prop)(Ke:Prop):Prop
 |mk {kk:LK} {xs:List AV} (e:o=some (.list kk xs)) (h1:∀x,xs[k]?=some x->K x) (h2:xs[k]?=none->Ke)
inductive NT1(o:Option AO)(k:Nat)(K:AV->Prop)(Ke:Prop):Prop
 |mk {xs:List AV} (e:o=some (.aj xs)) (h1:∀x,xs[k]?=some x->K x) (h2:xs[k]?=none->Ke)
inductive NZ1(o u:Option AO)(k:Nat)(K:AV->AV->Prop)(Ke:Prop):Prop
 |mk {k1 k2:LK} {xs ys:List AV} (e:o=some (.list k1 xs)) (e2:u=some (.list k2 ys)) (h1:∀x y,xs[k]?=some x->ys[k]?=some y->K x y) (h2:xs[k]?=none\/ys[k]?=none->Ke)
noncomputable def kJ(H:AH)(s:eK)(k:Nat)(K:AV->AH->Prop)(Ke:Prop):Prop:=
 match s with
 |.list a=>NL1 (H a) k (λx=>K x H) Ke
 |.aj a=>NT1 (H a) k (λx=>K x H) Ke
 |.bU lo hi=>(lo+k<hi->K (.int (lo+k)) H)/\(¬lo+k<hi->Ke)
 |.zip a b=>NZ1 (H a) (H b) k (λx y=>∀T,H T=none->K (.ref T) (H.ai T (.aj [x,y]))) Ke
noncomputable abbrev oH(x y:Value):Obj:={cls:=.type "tuple",data:=.seq #[x,y]}
noncomputable abbrev BQ(TI TO:Addr):Obj:={cls:=.type "zip",dict:=none,data:=.fields #[.none,.bool false,.bool false,.ref TI,.ref TO],slots:=#[]}
structure vf(a k:Nat)(o:Obj):Prop where
 c:o.cls=.type "list_iterator"
 d:o.data=.fields #[.ref a,.int k 0]
theorem vf.at{h:Heap}{i a k:Nat}{o:Obj}(x:vf a k o)(e:h.get? i=some o):h.IsListIter i a k:=⟨o,e,x.c,x.d⟩
inductive gR(I:Addr)(k:Nat):eK->List (Addr×Obj)->Prop
 |list {a:Nat} {ob:Obj} (x:vf a k ob):gR I k (.list a) [(I,ob)]
 |aj {a:Nat} {ob:Obj} (c:ob.cls=.type "tuple_iterator") (d:ob.data=.fields #[.ref a,.int k 0]):gR I k (.aj a) [(I,ob)]
 |bU {lo hi:Int} (h:k<=(hi-lo).toNat):gR I k (.bU lo hi) [(I,{cls:=.type "range_iterator",dict:=none,data:=.fields #[rawInt (lo+k),rawInt ((hi-lo).toNat-k),rawInt 1],slots:=#[]})]
 |zip {a b TI TO i1 i2:Nat} {x y:Value} {o1 o2:Obj} (D:ZipApart I TI TO i1 i2 a b) (x1:vf a k o1) (x2:vf b k o2):gR I k (.zip a b) [(I,BQ TI TO),(TI,oH (.ref i1) (.ref i2)),(TO,oH x y),(i1,o1),(i2,o2)]
noncomputable def FW(T:String):Bool:=["enumerate","zip","dict_itemiterator","dict_reverseitemiterator","odict_iterator","itertools.zip_longest","itertools.pairwise"].contains T
theorem zC{M:Model}{A:Around}{E:Value->Shared->Prop}{s:Shared}{target:Expr}{I:Addr}{ob:Obj}{T:String}{vs:Array Value}{v:Value}{Q:Unit->Shared->Prop}(ho:s.heap.get? I=some ob)(hc:ob.cls=.type T)(hd:ob.data=.fields vs)
 (hT:FW T=false)(hq:Q () s):wpAny M A (letOwnedTupleGo target (.ref I) v) Q E s:=by
 have key:∀a,wpAny M A (do
  let o <-load I
  match o.cls,o.data with
  |.type n,.fields vs=>
   if ["enumerate","zip","dict_itemiterator","dict_reverseitemiterator","odict_iterator","itertools.zip_longest","itertools.pairwise"].contains n&&vs[0]?==some (rawInt a) then
    rule "for.unpacks-the-owned-tuple"
    updateField I 0 .none
  |_,_=>pure ()) Q E s:=λa=>by
  refine wpAny_bind (wpAny_load ho ?_)
  rw [hc,hd]
  show wpAny M A (if (FW T&&vs[0]?==some (rawInt a))=true then _ else _) Q E s
  rw [hT,Bool.false_and,if_neg Bool.false_ne_true]
  exact wpAny_pure hq
 induction target using PySem.Expr.casesOn<;>first|exact wpAny_pure hq|(induction v<;>first|exact wpAny_pure hq|exact key _)
section
variable{G:Gx}{n:Nat}{fx:Fx}{E:Addr->AH->Prop}{m:MM}{H:AH}{b h h':Heap}{a:Addr}{o o':Obj}{kp dX:List (Addr×Obj)}
theorem aX.rU(ok:aX G fx n b)(l:List (Addr×Obj)):aX G (fx.keeps l) n b:={ok with}
theorem RX.iV(r:RX G (fx.keeps kp) b m H h):RX G fx b m H h:=let ⟨a,c,d,r⟩:=r;⟨a,c,d,r.F,r.hr,r.aa,r.cells,λq hq=>r.aR q (List.mem_append_right _ hq)⟩
theorem RX.ua(r:RX G (fx.keeps kp) b m H h):∀p∈kp,h.get? p.1=some p.2:=λp hp=>let ⟨_,_,_,r⟩:=r;(r.aR p (List.mem_append_left _ hp)).lv
theorem dK.iV{C ea:Addr}(r:dK G (fx.keeps kp) b H C ea h):dK G fx b H C ea h:=let ⟨B,a,c,d,r⟩:=r;⟨B,a,c,d,⟨r.dB,r.up,r.jj,r.frames,r.exc,r.slots,r.ns,r.hr,r.qx⟩⟩
theorem fh.iV{e:Value}{s':Shared}(x:fh G (fx.keeps kp) b E e s'):fh G fx b E e s':=let ⟨h',bg,H',C,ea,e1,e2,x,y⟩:=x;⟨h',bg,H',C,ea,e1,e2,x.iV,y⟩
theorem RX.rO(ok:aX G fx n b)(cI:∀p∈fx.kp,p.1∉kp.map (·.1))(r:RX G (fx.keeps kp) b m H h)(hs:∀c o,c∉kp.map (·.1)->h.get? c=some o->h'.get? c=some o)
 (hm:∀p∈dX,p.1∈kp.map (·.1)\/h.objs.size<=p.1)(he:∀p∈dX,h'.get? p.1=some p.2):RX G (fx.keeps dX) b m H h':=by
 induction r with|mk mC D own r=>
 have key:∀{c},c∈kp.map (·.1)->∃ob,nq fx.env b h own (c,ob):=λhc=>by
  obtain ⟨p,hp,rfl⟩:=List.mem_map.mp hc
  exact ⟨p.2,r.aR p (List.mem_append_left _ hp)⟩
 have r2:R G fx b m H h' mC D own:=R.o9 (fx:=fx) ⟨r.F,r.hr,r.aa,r.cells,λq hq=>r.aR q (List.mem_append_right _ hq)⟩
  ⟨r.F.ns.at' λo=>hs _ o λq=>(key q).elim λZaa k=>k.nl rfl,λc ob e=>hs c ob (λq=>(key q).elim λZaa k=>nz k.nb e) (r.F.keep c ob e),r.F.above⟩
  (r.hr.lP λc ob hc e=>hs c ob (λq=>(key q).elim λZaa k=>hc.elim k.no λhc=>ff (congrArg Option.isSome (kj ok.dB k.nb)) hc) e)
  (λx c ob e q=>hs c ob (λz=>(key z).elim λZaa k=>k.nc x e) q) λp hp q=>hs _ _ (cI p hp) q.lv
 refine ⟨mC,D,own,r2.F,r2.hr,r2.aa,r2.cells,List.forall_mem_append.mpr ⟨λp hp=>?_,r2.aR⟩⟩
 rcases hm p hp with q|q
 ·exact (key q).elim λZaa k=>{lv:=he p hp,nl:=k.nl,no:=k.no,nb:=k.nb,nc:=k.nc}
 ·have h3:h.get? p.1=none:=mH (λa o e=>Heap.lt_size e) q
  exact ⟨he p hp,Nat.ne_of_gt (Nat.lt_of_lt_of_le r.F.ns.lt q),r.hr.qe h3,Fr.fresh r.F h3,λx z=>(r.cells.ok x _ z).lv h3⟩
theorem RX.Ak(ok:aX G fx n b)(r:RX G fx b m H h)(hk:∀c o,h.get? c=some o->h'.get? c=some o)(lV:∀p∈kp,h.objs.size<=p.1/\h'.get? p.1=some p.2):RX G (fx.keeps kp) b m H h':=
 RX.rO (kp:=[]) ok (λZaa Zaa=>List.not_mem_nil) r (λc o Zaa=>hk c o) (λp hp=>.inr (lV p hp).1) λp hp=>(lV p hp).2
theorem RX.Ia(r:RX G fx b m H h)(lV:∀p∈kp,h.objs.size<=p.1):∀p∈fx.kp,p.1∉kp.map (·.1):=λp hp q=>by
 induction r with|mk _ _ _ r=>
 obtain ⟨q1,yI,e⟩:=List.mem_map.mp q
 exact absurd (Nat.lt_of_lt_of_le (Heap.lt_size (r.aR p hp).lv) (e▸lV q1 yI)) (Nat.lt_irrefl _)
theorem RX.x9{I:Addr}{ob:Obj}(ok:aX G fx n b)(cI:∀p∈fx.kp,p.1∉[(I,ob)].map (·.1))(r:RX G (fx.keeps [(I,ob)]) b m H h)(hs:Heap.ExtBut I h h'):RX G fx b m H h':=
 RX.rO (dX:=[]) ok cI r (λc o hc e=>hs c o (List.ne_of_not_mem_cons hc) e) (List.forall_mem_nil _) (List.forall_mem_nil _)
theorem RX.Bu{I:Addr}{ob qS:Obj}(ok:aX G fx n b)(cI:∀p∈fx.kp,p.1∉[(I,ob)].map (·.1))(r:RX G (fx.keeps [(I,ob)]) b m H h)(hs:Heap.SameBut I h h')(e:h'.get? I=some qS):RX G (fx.keeps [(I,qS)]) b m H h':=
 r.rO ok cI (λc o hc e=>(hs.2 c (List.ne_of_not_mem_cons hc)).trans e) (List.forall_mem_singleton.mpr (.inl (.head _))) (List.forall_mem_singleton.mpr e)
theorem RX.uJ{x y:Value}(ok:aX G fx n b)(cI:∀p∈fx.kp,p.1∉kp.map (·.1))(r:RX G (fx.keeps kp) b m H h)(hs:∀c o,c∉kp.map (·.1)->h.get? c=some o->h'.get? c=some o)(hm:dX.map (·.1)=kp.map (·.1))(he:∀p∈dX,h'.get? p.1=some p.2)(hT:h'.get? h.objs.size=some (oH x y)):
 H h.objs.size=none/\RX G (fx.keeps dX) b m (H.ai h.objs.size (.aj [er x,er y])) h':=by
 have r1:RX G (fx.keeps ((h.objs.size,oH x y)::dX)) b m H h':=r.rO ok cI hs (List.forall_mem_cons.mpr ⟨.inr (Nat.le_refl _),λp hp=>.inl (by rw [<-hm];exact List.mem_map_of_mem hp)⟩) (List.forall_mem_cons.mpr ⟨hT,he⟩)
 refine RX.BN (fx:=fx.keeps dX) (ok.rU _) (List.forall_mem_append.mpr ⟨λp hp q=>?_,r.iV.tY⟩) r1 (λc o Zaa e=>e) rfl (r.iV.rR ok) λD=>⟨[x,y],⟨_,hT,rfl,_,rfl⟩,rfl⟩
 obtain ⟨p2,h2,e2⟩:=List.mem_map.mp (show p.1∈kp.map (·.1) by rw [<-hm];exact List.mem_map_of_mem hp)
 exact nz (lT h) ((congrArg h.get? (e2.trans q)).symm.trans (r.ua p2 h2))
inductive NxE(G:Gx)(fx:Fx)(b:Heap)(m:MM)(Ke:AH->Prop)(s:Shared):Prop
 |mk (H:AH) (h:Heap) (tk:Nat) (e:s=G.sh h tk) (r:RX G fx b m H h) (q:Ke H)
inductive NxI(G:Gx)(fx:Fx)(b:Heap)(m:MM)(St:List (Addr×Obj)->Prop)(kl:List Addr)(K:AV->AH->Prop)(v:Value)(s:Shared):Prop
 |mk (H:AH) (h:Heap) (tk:Nat) (kp:List (Addr×Obj)) (e:s=G.sh h tk) (st:St kp) (hm:kp.map (·.1)=kl) (r:RX G (fx.keeps kp) b m H h) (q:K (er v) H)
noncomputable def yJ(G:Gx)(fx:Fx)(b:Heap)(m:MM)(target:Expr)(I:Addr)(St:List (Addr×Obj)->Prop)(kl:List Addr)(K:AV->AH->Prop)(Ke:AH->Prop)(r:Option Value)(s:Shared):Prop:=match r with
 |none=>NxE G fx b m Ke s
 |some v=>wpAny G.M fx.A (letOwnedTupleGo target (.ref I) v) (λZaa=>NxI G fx b m St kl K v) (λZaa Zaa=>False) s
theorem ya{α β:Type}{f:α->β}{cv:List α}{k:Nat}(q:(cv.map f)[k]?=none):cv.toArray[k]?=none:=by
 rw [List.getElem?_map,Option.map_eq_none_iff] at q;exact (List.getElem?_toArray ..).trans q
theorem yb{cv:List Value}{k:Nat}{y:AV}(q:(cv.map er)[k]?=some y):∃x,cv.toArray[k]?=some x/\er x=y:=by
 rw [List.getElem?_map] at q
 obtain ⟨x,e,h⟩:=Option.map_eq_some_iff.mp q
 exact ⟨x,yy e,h⟩
theorem FY{s:eK}{I:Addr}{k:Nat}{K:AV->AH->Prop}{Ke:AH->Prop}{target:Expr}{tk:Nat}(ok:aX G fx n b)(cI:∀p∈fx.kp,p.1∉kp.map (·.1))(st:gR I k s kp)(r:RX G (fx.keeps kp) b m H h)
 (hv:kJ H s k K (Ke H))(ht:∀a b,s=.zip a b->∃es kk p,target=.Tuple es kk p):wpAny G.M fx.A (pyNext (.ref I)) (yJ G fx b m target I (gR I (k+1) s) (kp.map (·.1)) K Ke) (λZaa Zaa=>False) (G.sh h tk):=by
 have fJ:=r.ua
 induction st with
 | @list a ob x=>
   induction hv with|mk e h1 h2=>
   obtain ⟨D,cv,bN,rfl⟩:=r.iV.cont e
   have hI:=x.at (fJ _ (.head _))
   cases q:(cv.map er)[k]? with
   |none=>exact wpAny_pyNext_list_end (s:=G.sh h tk) ok.eW hI bN.1 (ya q) λh1 hs1=>⟨H,h1,_,rfl,r.x9 ok cI hs1,h2 q⟩
   |some y=>
    obtain ⟨v,hv,rfl⟩:=yb q
    exact wpAny_pyNext_list_item (s:=G.sh h tk) hI bN.1 hv λj6 hit hs1=>hit.elim λqS e=>zC (s:=G.sh j6 tk) e.1 e.2.1 e.2.2 (by decide) ⟨H,j6,tk,[(I,qS)],rfl,.list ⟨e.2.1,e.2.2⟩,rfl,r.Bu ok cI hs1 e.1,h1 _ q⟩
 | @aj a ob c d=>
   induction hv with|mk e h1 h2=>
   obtain ⟨D,cv,bN,rfl⟩:=r.iV.cont e
   have hI:h.IsTupleIter I a k:=⟨ob,fJ _ (.head _),c,d⟩
   cases q:(cv.map er)[k]? with
   |none=>exact wpAny_pyNext_tuple_end (s:=G.sh h tk) ok.eW hI bN (ya q) λh1 hs1=>⟨H,h1,_,rfl,r.x9 ok cI hs1,h2 q⟩
   |some y=>
    obtain ⟨v,hv,rfl⟩:=yb q
    exact wpAny_pyNext_tuple_item (s:=G.sh h tk) hI bN hv λj6 hit hs1=>hit.elim λqS e=>zC (s:=G.sh j6 tk) e.1 e.2.1 e.2.2 (by decide) ⟨H,j6,tk,[(I,qS)],rfl,.aj e.2.1 e.2.2,rfl,r.Bu ok cI hs1 e.1,h1 _ q⟩
 | @bU lo hi hk=>
   have hI:=fJ _ (.head _)
   by_cases hlt:lo+k<hi
   ·refine wpAny_pyNext_range_item (s:=G.sh h tk) hI (by lia) λh1 hit hs1=>?_
    rw [show lo+(k:Int)+1=lo+((k+1:Nat):Int) by lia,show ((hi-lo).toNat:Int)-(k:Int)-1=((hi-lo).toNat:Int)-((k+1:Nat):Int) by lia] at hit
    exact zC (s:=G.sh h1 (tk+1)) hit rfl rfl (by decide) ⟨H,h1,tk+1,[(I,_)],rfl,.bU (by lia),rfl,r.Bu ok cI hs1 hit,hv.1 hlt⟩
   ·exact wpAny_pyNext_range_end (s:=G.sh h tk) ok.eW hI (by lia) λh1 hs1=>⟨H,h1,_,rfl,r.x9 ok cI hs1,hv.2 hlt⟩
 | @zip a b' TI TO i1 i2 x0 y0 o1 o2 D x1 x2=>
   obtain ⟨es,kk,pp,rfl⟩:=ht a b' rfl
   induction hv with|mk e1 e2 h1 h2=>
   obtain ⟨D1,cv,bN,rfl⟩:=r.iV.cont e1
   obtain ⟨D2,cw,vg,rfl⟩:=r.iV.cont e2
   have hz:=fJ _ (.head _)
   have hTI:=fJ _ (.tail _ (.head _))
   have hTO:=fJ _ (.tail _ (.tail _ (.head _)))
   have yK:=x1.at (fJ _ (.tail _ (.tail _ (.tail _ (.head _)))))
   have bJ:=x2.at (fJ _ (.tail _ (.tail _ (.tail _ (.tail _ (.head _))))))
   have ne:∀{eH:Heap},(∀c o,c≠I->c≠TO->c≠i1->c≠i2->h.get? c=some o->eH.get? c=some o)->∀c o,c∉[I,TI,TO,i1,i2]->h.get? c=some o->eH.get? c=some o:=λhk c o hc e=>by
    have c1:=List.not_mem_of_not_mem_cons hc
    have c2:=List.not_mem_of_not_mem_cons c1
    have c3:=List.not_mem_of_not_mem_cons c2
    exact hk c o (List.ne_of_not_mem_cons hc) (List.ne_of_not_mem_cons c2) (List.ne_of_not_mem_cons c3) (List.ne_of_not_mem_cons (List.not_mem_of_not_mem_cons c3)) e
   have fin:cv.toArray[k]?=none\/cw.toArray[k]?=none->Ke H->wpAny G.M fx.A (pyNext (.ref I)) (yJ G fx b m (.Tuple es kk pp) I (gR I (k+1) (.zip a b')) [I,TI,TO,i1,i2] K Ke) (λZaa Zaa=>False) (G.sh h tk):=λhq q=>
    wpAny_pyNext_zip_end (s:=G.sh h tk) ok.eW D hz hTI hTO yK bJ bN.1 vg.1 hq λh1 hk=>⟨H,h1,_,rfl,r.rO (dX:=[]) ok cI (ne hk) (List.forall_mem_nil _) (List.forall_mem_nil _),q⟩
   cases q1:(cv.map er)[k]? with
   |none=>exact fin (.inl (ya q1)) (h2 (.inl q1))
   |some x=>
    cases q2:(cw.map er)[k]? with
    |none=>exact fin (.inr (ya q2)) (h2 (.inr q2))
    |some y=>
     obtain ⟨x,g1,rfl⟩:=yb q1
     obtain ⟨y,g2,rfl⟩:=yb q2
     refine wpAny_pyNext_zip_item (s:=G.sh h tk) D hz hTI hTO yK bJ bN.1 vg.1 g1 g2 λh' a1 a2 a3 a4 a5 a6 a7=>?_
     obtain ⟨p1,f1,f2⟩:=a3
     obtain ⟨p2,f3,f4⟩:=a4
     refine wpAny_letOwnedTupleGo_zip (s:=G.sh h' tk) a1 λh2 c1 c2=>?_
     have z:=RX.uJ (dX:=[(I,BQ TI TO),(TI,oH (.ref i1) (.ref i2)),(TO,oH x y),(i1,p1),(i2,p2)]) ok cI r (λc o hc e=>(c2.2 c (List.ne_of_not_mem_cons hc)).trans (ne a7 c o hc e)) rfl
      (List.forall_mem_cons.mpr ⟨c1,List.forall_mem_cons.mpr ⟨(c2.2 _ D.TIz).trans (a7 TI _ D.TIz D.TITO D.TIi1 D.TIi2 hTI),List.forall_mem_cons.mpr ⟨(c2.2 _ D.TOz).trans a2,List.forall_mem_cons.mpr ⟨(c2.2 _ D.i1z).trans f1,List.forall_mem_singleton.mpr ((c2.2 _ D.i2z).trans f3)⟩⟩⟩⟩)
      ((c2.2 _ λq=>nz (lT h) (q▸hz)).trans a5)
     exact ⟨_,h2,tk,_,rfl,.zip (x:=x) (y:=y) D ⟨f2.1,f2.2⟩ ⟨f4.1,f4.2⟩,rfl,z.2,h1 _ _ q1 q2 _ z.1⟩
end
end
structure AP(G:Gx)(I:Addr)(target:Expr) where
 St:Nat->List (Addr×Obj)->Prop
 nx:AH->Nat->(AV->AH->Prop)->(AH->Prop)->Prop
 step:∀{n:Nat} {fx:Fx} {m:MM} {H:AH} {b h:Heap} {k:Nat} {kp:List (Addr×Obj)} {K:AV->AH->Prop} {Ke:AH->Prop} {tk:Nat},aX G fx n b->(∀p∈fx.kp,p.1∉kp.map (·.1))->St k kp->RX G (fx.keeps kp) b m H h->
  nx H k K Ke->wpAny G.M fx.A (pyNext (.ref I)) (yJ G fx b m target I (St (k+1)) (kp.map (·.1)) K Ke) (λZaa Zaa=>False) (G.sh h tk)
noncomputable def zZ(G:Gx)(s:eK)(I:Addr)(target:Expr)(ht:∀a b,s=.zip a b->∃es kk p,target=.Tuple es kk p):AP G I target where
 St k kp:=gR I k s kp
 nx H k K Ke:=kJ H s k K (Ke H)
 step ok cI st r hv:=FY ok cI st r hv ht
inductive LI(G:Gx)(fx:Fx)(b:Heap)(St:Nat->List (Addr×Obj)->Prop)(kl:List Addr)(N:Nat)(J:Nat->MM->AH->Prop)(c:Nat)(s:Shared):Prop
 |mk (k:Nat) (kp:List (Addr×Obj)) (m:MM) (H:AH) (h:Heap) (tk:Nat) (hc:c+k=N+1) (hk:k<=N) (e:s=G.sh h tk) (st:St k kp) (hm:kp.map (·.1)=kl) (r:RX G (fx.keeps kp) b m H h) (j:J k m H)
theorem LI.again{G:Gx}{fx:Fx}{b h:Heap}{St:Nat->List (Addr×Obj)->Prop}{kp:List (Addr×Obj)}{kl:List Addr}{N:Nat}{J:Nat->MM->AH->Prop}{m:MM}{H:AH}{c k tk:Nat}(hc:c+k=N+1)(hk:k<N)(st:St (k+1) kp)(hm:kp.map (·.1)=kl)(r:RX G (fx.keeps kp) b m H h)(j:J (k+1) m H):∃c',c'<c/\LI G fx b St kl N J c' (G.sh h tk):=
 ⟨c-1,by lia,k+1,kp,m,H,h,tk,by lia,hk,rfl,st,hm,r,j⟩
section
variable{G:Gx}{n:Nat}{fx:Fx}{E:Addr->AH->Prop}{m:MM}{H:AH}
noncomputable def xK(J:MM->AH->Prop)(Q:AF->MM->AH->Prop)(fl:AF)(m:MM)(H:AH):Prop:=
 match fl with
 |.next|.cont=>J m H
 |.brk=>Q .next m H
 |.ret v=>Q (.ret v) m H
theorem zO{I:Addr}{target:Expr}{body:List Stmt}{Q:AF->MM->AH->Prop}(W:AP G I target)(J:Nat->MM->AH->Prop)(N:Nat)
 (turn:∀k m H,k<=N->J k m H->W.nx H k (λy H'=>k<N/\∀v l,er v=y->AW G n (fx.keeps l) (assign target fx.env v) VU (λZaa m1 H1=>AW G n (fx.keeps l) (execs body fx.env) RF (xK (J (k+1)) Q) E m1 H1) E m H') (λH'=>Q .next m H'))
 {b h:Heap}{tk:Nat}{kp:List (Addr×Obj)}(ok:aX G fx n b)(cI:∀p∈fx.kp,p.1∉kp.map (·.1))(st:W.St 0 kp)(r:RX G (fx.keeps kp) b m H h)(h0:J 0 m H):
 codeAny G.M fx.A (.forLoop target (.ref I) body [] fx.env) (λr s'=>match r with|.ok f=>iX G fx b RF Q f s'|.error e=>cameBackBy G.M fx.A fx.env (fh G fx b E) e s') (G.sh h tk):=by
 refine codeAny_forLoop_any (LI G fx b W.St (kp.map (·.1)) N J) (λc s q=>?_) (N+1) ⟨0,kp,m,H,h,tk,rfl,Nat.zero_le _,rfl,st,rfl,r,h0⟩
 induction q with|mk k kp1 m1 H1 h1 eg hc hk e cD nJ r1 j1=>
 subst e
 have hE:∀(l:List (Addr×Obj)) e s',fh G (fx.keeps l) b E e s'->notedBy G.M fx.A fx.env (λe s'=>cameBackBy G.M fx.A fx.env (fh G fx b E) e s') e s':=λl e s' x=>by
  induction x with|mk h' bg H' C ea e1 e2 x y=>
  subst e1 e2
  exact ND ok ok.mT x.iV λh2 ja x2=>⟨h2,ja,H',C,ea,rfl,rfl,x2,y⟩
 refine wpAny_mono (W.step ok (nJ▸cI) cD r1 (turn k m1 H1 hk j1)) (λrr s1 q=>?_) λZaa Zaa x=>x.elim
 induction rr with
 |none=>induction q with|mk H' h' bg e r' q=>exact e▸wpAny_execs_nil (qn (y:=.next) r' .next q)
 |some v=>
  refine wpAny_mono q (λZaa s2 q=>?_) λZaa Zaa x=>x.elim
  induction q with|mk H' h' bg dX e jw hm r' q=>
  subst e
  refine qm (q.2 v dX rfl b h' bg (ok.rU _) r') (hE dX) λZaa h3 sY m3 H3 Zaa r3 Zaa q3=>qm (q3 b h3 sY (ok.rU _) r3) (hE dX) λfl h4 qT m4 H4 y4 r4 l4 q4=>?_
  induction l4 with
  |next=>exact LI.again hc q.1 jw (hm.trans nJ) r4 q4
  |cont=>exact LI.again hc q.1 jw (hm.trans nJ) r4 q4
  |brk=>exact qn (y:=.next) r4.iV .next (show Q .next m4 H4 from q4)
  | @ret v a h=>exact qn (y:=.ret a) r4.iV (.ret h) (show Q (.ret a) m4 H4 from q4)
inductive nA(k:eK->Prop)(H:AH):AV->Prop
 |list {a:Nat} {kk:LK} {xs:List AV} (e:H a=some (.list kk xs)) (h:k (.list a)):nA k H (.ref a)
 |aj {a:Nat} {xs:List AV} (e:H a=some (.aj xs)) (h:k (.aj a)):nA k H (.ref a)
 |bU {a:Nat} {hi:Int} (e:H a=some (.bU 0 hi)) (b:-1000000000<=hi/\hi<=1000000000) (h:k (.bU 0 hi)):nA k H (.ref a)
theorem z7{va:Value}{y:AV}{K:eK->Prop}{b h:Heap}{tk:Nat}{E0:Value->Shared->Prop}(ea:er va=y)(hs:nA K H y)(ok:aX G fx n b)(r:RX G fx b m H h){Q:Value->Shared->Prop}
 (hQ:∀s I h' kp,K s->(∀a b,s≠.zip a b)->gR I 0 s kp->(∀p∈fx.kp,p.1∉kp.map (·.1))->RX G (fx.keeps kp) b m H h'->Q (.ref I) (G.sh h' tk)):wpAny G.M fx.A (pyIter va) Q E0 (G.sh h tk):=by
 have fin:∀{ob:Obj} {s:eK},ob.isFreed=false->K s->(∀a b,s≠.zip a b)->gR h.objs.size 0 s [(h.objs.size,ob)]->Q (.ref h.objs.size) (G.sh (h.push ob) tk):=λhf k1 k2 k3=>
  hQ _ _ _ _ k1 k2 k3 (r.Ia (List.forall_mem_singleton.mpr (Nat.le_refl _))) (r.Ak ok (λc o q=>Heap.get?_push_of_some _ q) (List.forall_mem_singleton.mpr ⟨Nat.le_refl _,Heap.get?_push_size _ hf⟩))
 induction hs with
 |list e hs=>
  refine eR ea ?_
  obtain ⟨D,cv,bN,_⟩:=r.cont e
  exact wpAny_pyIter_list (s:=G.sh h tk) bN.1 (fin rfl hs nofun (.list ⟨rfl,rfl⟩))
 |aj e hs=>
  refine eR ea ?_
  obtain ⟨D,cv,bN,_⟩:=r.cont e
  exact wpAny_pyIter_tuple (s:=G.sh h tk) bN (fin rfl hs nofun (.aj rfl rfl))
 | @bU a hi e bb hs=>
   refine eR ea ?_
   obtain ⟨D,t,u,v,hr⟩:=r.cont e
   have hsz:Builtin.Range.rangeSize 0 hi 1=((hi-0).toNat:Int):=by
    unfold Builtin.Range.rangeSize
    simp
    lia
   have h0:=fin (ob:={cls:=.type "range_iterator",dict:=none,data:=.fields #[rawInt (0+((0:Nat):Int)),rawInt ((hi-0).toNat-((0:Nat):Int)),rawInt 1],slots:=#[]}) rfl hs nofun (.bU (Nat.zero_le _))
   refine wpAny_pyIter_range (s:=G.sh h tk) hr ?_ ?_
   ·unfold Builtin.Range.small
    rw [hsz]
    simp [Builtin.Range.rangeFitsLong]
    lia
   ·rw [hsz,show (((hi-0).toNat:Nat):Int)=((hi-0).toNat:Int)-((0:Nat):Int) from (Int.sub_zero _).symm];exact h0
end
set_option genCtorIdx true in
inductive BI where
 |len|max|sum|sorted|mZ|range|dict|list|tuple|int|str|nZ|kN|jk|jT|rV|kE
inductive CV where
 |fn(f:Nat)|cls(C f:Nat)|bi(b:BI)
noncomputable def CV.ctorIdx(x:CV):Nat:=@CV.casesOn (λZaa=>Nat) x (λZaa=>0) (λZaa Zaa=>1) (λZaa=>2)
mutual
inductive X where
 |c(v:AV)
 |aa(i:Nat)
 |aA(op:Operator)(a b:X)
 |neg(a:X)
 |cmp(op:CmpOp)(a b:X)
 |aC(t:T)(a b:X)
 |qU(a b:X)
 |item(a b:X)
 |sl(a b:X)
 |qV(a b:X)
 |attr(a:X)(nm:List Nat)
 |af(xs:List X)
 |aj(xs:List X)
 |dS(ks:List (List Nat))(xs:List X)
 |dI(ks:List Int)(xs:List X)
 |dE
 |call(f:CV)(xs:List X)
 |aQ(o:X)(nm:List Nat)(xs:List X)
 |comp(frees:List Nat)(nt:Nat)(bM:TG)(iter:X)(ifs:List T)(g:GS)
inductive T where
 |val(x:X)
 |cmp(op:CmpOp)(a b:X)
 |nt(t:T)
 |an(t u:T)
 |j7(t u:T)
inductive TG where
 |nm(i:Nat)
 |attr(x:X)(nm:List Nat)
 |sub(x y:X)
 |aj(ts:List TG)
inductive GS where
 |elt(x:X)
 |more(bM:TG)(iter:X)(ifs:List T)(g:GS)
end
noncomputable def X.ctorIdx(x:X):Nat:=@X.casesOn (λZaa=>Nat) x (λZaa=>0) (λZaa=>1) (λZaa Zaa Zaa=>2) (λZaa=>3) (λZaa Zaa Zaa=>4) (λZaa Zaa Zaa=>5) (λZaa Zaa=>6) (λZaa Zaa=>7) (λZaa Zaa=>8) (λZaa Zaa=>9) (λZaa Zaa=>10) (λZaa=>11) (λZaa=>12) (λZaa Zaa=>13) (λZaa Zaa=>14) 15 (λZaa Zaa=>16) (λZaa Zaa Zaa=>17) (λZaa Zaa Zaa Zaa Zaa Zaa=>18)
noncomputable def T.ctorIdx(x:T):Nat:=@T.casesOn (λZaa=>Nat) x (λZaa=>0) (λZaa Zaa Zaa=>1) (λZaa=>2) (λZaa Zaa=>3) (λZaa Zaa=>4)
noncomputable def TG.ctorIdx(x:TG):Nat:=@TG.casesOn (λZaa=>Nat) x (λZaa=>0) (λZaa Zaa=>1) (λZaa Zaa=>2) (λZaa=>3)
noncomputable def GS.ctorIdx(x:GS):Nat:=@GS.casesOn (λZaa=>Nat) x (λZaa=>0) (λZaa Zaa Zaa Zaa=>1)
structure cQ where
 aQ:List (Nat×List Nat×Nat)
 jU:List (Nat×List Nat)
 oJ:List (Nat×List Nat)
 own:List (Nat×List Nat)
 cW:List Nat
inductive iY(tb:cQ)(nm:List Nat)(k:CV->List AV->Prop)(H:AH):AV->Prop
 |split {s:List Nat} (q:nm=Aj) (h:k (.bi .kE) [.str s]):iY tb nm k H (.str s)
 |append {a:Nat} {xs:List AV} (e:H a=some (.list .mu xs)) (q:nm=zW) (h:k (.bi .nZ) [.ref a]):iY tb nm k H (.ref a)
 |lg {a:Nat} {xs:List AV} (e:H a=some (.list .mu xs)) (q:nm=ur) (h:k (.bi .kN) [.ref a]):iY tb nm k H (.ref a)
 |aE {a:Nat} {fz:Bool} {kvs:List (Int×AV)} (e:H a=some (.bz fz kvs)) (q:nm=Bt) (h:k (.bi .jk) [.ref a]):iY tb nm k H (.ref a)
 |items {a:Nat} {fz:Bool} {kvs:List (Int×AV)} (e:H a=some (.bz fz kvs)) (q:nm=wV) (h:k (.bi .rV) [.ref a]):iY tb nm k H (.ref a)
 |uK {a:Nat} {fz:Bool} {kvs:List (Int×AV)} (e:H a=some (.bz fz kvs)) (q:nm=ur) (h:k (.bi .jT) [.ref a]):iY tb nm k H (.ref a)
 |own {a C f:Nat} {fz:Bool} {fs:List (List Nat×AV)} (e:H a=some (.inst fz C fs)) (g:fM fs nm=some (.ref f)) (m1:(C,nm)∈tb.own) (m2:f∈tb.cW) (h:k (.fn f) []):iY tb nm k H (.ref a)
 |aQ {a C f:Nat} {fz:Bool} {fs:List (List Nat×AV)} (e:H a=some (.inst fz C fs)) (g:fM fs nm=none) (m1:(C,nm,f)∈tb.aQ) (h:k (.fn f) [.ref a]):iY tb nm k H (.ref a)
inductive uu(tb:cQ)(nm:List Nat)(k:AV->Prop)(H:AH):AV->Prop
 |mk {a C:Nat} {fz:Bool} {fs:List (List Nat×AV)} {v:AV} (e:H a=some (.inst fz C fs)) (m1:(C,nm)∈tb.jU) (g:fM fs nm=some v) (nb:∀s,v≠.bi s) (h:k v):uu tb nm k H (.ref a)
inductive xM(tb:cQ)(nm:List Nat)(v:AV)(k:AH->Prop)(H:AH):AV->Prop
 |mk {a C:Nat} {fs:List (List Nat×AV)} (e:H a=some (.inst false C fs)) (m1:(C,nm)∈tb.oJ) (l:fs.length<=900) (h:k (H.ai a (.inst false C (kM fs nm v)))):xM tb nm v k H (.ref a)
inductive bK(k:AV->AH->Prop)(H:AH):BI->List AV->Prop
 |len {a:Nat} {kk:LK} {xs:List AV} (e:H a=some (.list kk xs)) (l:xs.length<=1000000) (h:k (.int xs.length) H):bK k H .len [.ref a]
 |I4 {a:Nat} {xs:List AV} (e:H a=some (.aj xs)) (l:xs.length<=1000000) (h:k (.int xs.length) H):bK k H .len [.ref a]
 |max {a:Nat} {kk:LK} {ns:List Int} (e:H a=some (.list kk (ns.map .int))) (q:ns≠[]) (h:∀M,M∈ns->(∀x∈ns,x<=M)->k (.int M) H):bK k H .max [.ref a]
 |I5 {x y:Int} (h:k (.int (if y>x then y else x)) H):bK k H .max [.int x,.int y]
 |sum {a:Nat} {kk:LK} {ns:List Int} (e:H a=some (.list kk (ns.map .int))) (h:k (.int ns.sum) H):bK k H .sum [.ref a]
 |sorted {a:Nat} {fz:Bool} {kvs:List (Int×AV)} (e:H a=some (.bz fz kvs)) (l:kvs.length<64) (h:∀(ns:List Int) c,ns.Perm (kvs.map (·.1))->H c=none->k (.ref c) (H.ai c (.list .fz (ns.map .int)))):bK k H .sorted [.ref a]
 |tupI {x:Int} (h:k (.bool false) H):bK k H .mZ [.int x,.ty "tuple"]
 |I6 {a:Nat} {xs:List AV} (e:H a=some (.aj xs)) (h:k (.bool true) H):bK k H .mZ [.ref a,.ty "tuple"]
 |range {i:Int} (h:∀c,H c=none->k (.ref c) (H.ai c (.bU 0 i))):bK k H .range [.int i]
 |Ib {a:Nat} {fz:Bool} {kvs:List (Int×AV)} (jq:Bool) (e:H a=some (.bz fz kvs)) (l:kvs.length<=1000000) (h:∀c,H c=none->k (.ref c) (H.ai c (.bz jq kvs))):bK k H .dict [.ref a]
 |Ic {a:Nat} {fz:Bool} {kvs:List (List Nat×AV)} (jq:Bool) (e:H a=some (.bX fz kvs)) (l:kvs.length<=1000000) (h:∀c,H c=none->k (.ref c) (H.ai c (.bX jq kvs))):bK k H .dict [.ref a]
 |list {a:Nat} {kk:LK} {xs:List AV} (k':LK) (e:H a=some (.list kk xs)) (l:xs.length<=1000000) (h:∀c,H c=none->k (.ref c) (H.ai c (.list k' xs))):bK k H .list [.ref a]
 |tuple {a:Nat} {kk:LK} {xs:List AV} (e:H a=some (.list kk xs)) (l:xs.length<=1000000) (h:∀c,H c=none->k (.ref c) (H.ai c (.aj xs))):bK k H .tuple [.ref a]
 |int {c:Bool} (h:k (.int (if c then 1 else 0)) H):bK k H .int [.bool c]
 |str {i:Int} (l:i.natAbs<2^1900) (h:k (.str (toString i:Str).cps.toList) H):bK k H .str [.int i]
 |append {a:Nat} {x:AV} {xs:List AV} (e:H a=some (.list .mu xs)) (l:xs.length<=1000000) (h:k .none (H.ai a (.list .mu (xs++[x])))):bK k H .nZ [.ref a,x]
 |lg {a:Nat} {x:AV} {xs:List AV} (e:H a=some (.list .mu (xs++[x]))) (l:xs.length<=1000000) (h:k x (H.ai a (.list .mu xs))):bK k H .kN [.ref a]
 |I7 {a:Nat} {x:AV} {xs:List AV} (e:H a=some (.list .mu (x::xs))) (l:xs.length<=1000000) (h:k x (H.ai a (.list .mu xs))):bK k H .kN [.ref a,.int 0]
 |aE {a:Nat} {y:AV} (h:uH .none (λv=>k v H) H a y):bK k H .jk [.ref a,y]
 |I8 {a:Nat} {y d:AV} (h:uH d (λv=>k v H) H a y):bK k H .jk [.ref a,y,d]
 |uK {a:Nat} {i:Int} {v:AV} {kvs:List (Int×AV)} (e:H a=some (.bz false kvs)) (l:kvs.length<=1000000) (g:iC kvs i=some v) (h:k v (H.ai a (.bz false (ny kvs i)))):bK k H .jT [.ref a,.int i]
 |Ie {a:Nat} {i:Int} {d:AV} {kvs:List (Int×AV)} (e:H a=some (.bz false kvs)) (l:kvs.length<=1000000) (h:k ((iC kvs i).getD d) (H.ai a (.bz false (ny kvs i)))):bK k H .jT [.ref a,.int i,d]
 |items {a:Nat} {fz:Bool} {kvs:List (Int×AV)} (e:H a=some (.bz fz kvs)) (h:∀c,H c=none->k (.ref c) (H.ai c (.items a))):bK k H .rV [.ref a]
 |split {s y:List Nat} (q:y≠[]) (l:s.length<=1000000) (h:∀kk c,H c=none->k (.ref c) (H.ai c (.list kk ((Txt.split ⟨s.toArray⟩ ⟨y.toArray⟩).map λx=>.str x.cps.toList)))):bK k H .kE [.str s,.str y]
noncomputable def uv(G:Gx)(n:Nat)(f:CV)(ys:List AV)(Q:AV->MM->AH->Prop)(E:Addr->AH->Prop)(m:MM)(H:AH):Prop:=
 match f with
 |.fn f=>jO G n f ys (λv H'=>Q v m H') E H
 |.cls C f=>(match n with
  |0=>False
  |k+1=>∀x,H x=none->jO G k f (.ref x::ys) (λv H'=>v=.none/\Q (.ref x) m H') E (H.ai x (.inst false C [])))
 |.bi b=>bK (λv H'=>Q v m H') H b ys
inductive uw(H:AH)(ys:List AV):AV->Prop
 |aj {a:Nat} (e:H a=some (.aj ys)):uw H ys (.ref a)
 |list {a:Nat} {k:LK} (e:H a=some (.list k ys)):uw H ys (.ref a)
inductive xN(s:eK)(az:AV->(MM->AH->Prop)->MM->AH->Prop)(lQ:(Bool->MM->AH->Prop)->MM->AH->Prop)(sA:(MM->AH->Prop)->MM->AH->Prop)(Q:MM->AH->Prop)(m:MM)(H:AH):Prop
 |mk (N:Nat) (J:Nat->MM->AH->Prop) (j0:J 0 m H) (turn:∀k m H,k<=N->J k m H->kJ H s k (λy H=>k<N/\az y (λm H=>lQ (λc m H=>if c=true then sA (J (k+1)) m H else J (k+1) m H) m H) m H) (Q m H))
inductive W2(o:Option (Option AV))(k:AV->Prop):Prop
 |mk (v:AV) (e:o=some (some v)) (h:k v)
inductive BR(k:AV->Prop):AV->Prop
 |mk {i:Int} (h:k (.int (-i))):BR k (.int i)
inductive W3(k:AV->AH->Prop)(H:AH):Prop
 |mk (o:AO) (q:xZ o) (h:∀c,H c=none->k (.ref c) (H.ai c o))
inductive W4(D:Addr)(Q:AH->Prop)(H:AH)(y:AV):Prop
 |mk (ys:List AV) (e:H D=some (.list .mu ys)) (l:ys.length<=1000000) (h:Q (H.ai D (.list .mu (ys++[y]))))
inductive TX(D:Addr)(Q:AH->Prop)(H:AH):Prop
 |mk (k:LK) (ys:List AV) (e:H D=some (.list .mu ys)) (h:Q (H.ai D (.list k ys)))
inductive W5(m:MM)(frees:List Nat)(k:List AV->Prop):Prop
 |mk (vs:List AV) (e:frees.map (λi=>m[i]?.join)=vs.map some) (h:k vs)
inductive BS(H:AH)(v:AV)(n:Nat)(k:List AV->Prop):Prop
 |mk (ys:List AV) (e:uw H ys v) (l:ys.length=n) (h:k ys)
mutual
noncomputable def vX(G:Gx)(tb:cQ)(n:Nat):X->(AV->MM->AH->Prop)->(Addr->AH->Prop)->MM->AH->Prop
 |.c v,Q,E,m,H=>Q v m H
 |.aa i,Q,E,m,H=>W2 m[i]? λv=>Q v m H
 |.aA op a b,Q,E,m,H=>vX G tb n a (λx m H=>vX G tb n b (λy m H=>nu op (λv H'=>Q v m H') H x y) E m H) E m H
 |.neg a,Q,E,m,H=>vX G tb n a (λx m H=>BR (λv=>Q v m H) x) E m H
 |.cmp op a b,Q,E,m,H=>vX G tb n a (λx m H=>vX G tb n b (λy m H=>dZ (λc=>Q (.bool c) m H) H op x y) E m H) E m H
 |.aC t a b,Q,E,m,H=>vT G tb n t (λc m H=>if c=true then vX G tb n a Q E m H else vX G tb n b Q E m H) E m H
 |.qU a b,Q,E,m,H=>vX G tb n a (λx m H=>jL (λc=>if c=true then Q x m H else vX G tb n b Q E m H) H x) E m H
 |.item a b,Q,E,m,H=>vX G tb n a (λx m H=>vX G tb n b (λy m H=>gQ (λv=>Q v m H) H x y) E m H) E m H
 |.sl a b,Q,E,m,H=>vX G tb n a (λx m H=>vX G tb n b (λy m H=>qQ (λv H'=>Q v m H') H x y) E m H) E m H
 |.qV a b,Q,E,m,H=>vX G tb n a (λx m H=>vX G tb n b (λy m H=>oF (λv=>Q v m H) x y) E m H) E m H
 |.attr a nm,Q,E,m,H=>vX G tb n a (λx m H=>uu tb nm (λv=>Q v m H) H x) E m H
 |.af xs,Q,E,m,H=>∃k,gU G tb n xs (λys m H=>ys.length<=1000000/\∀c,H c=none->Q (.ref c) m (H.ai c (.list k ys))) E m H
 |.aj xs,Q,E,m,H=>gU G tb n xs (λys m H=>ys.length<=1000000/\∀c,H c=none->Q (.ref c) m (H.ai c (.aj ys))) E m H
 |.dS ks xs,Q,E,m,H=>gU G tb n xs (λys m H=>∃fz,∀c,H c=none->Q (.ref c) m (H.ai c (.bX fz (ks.zip ys)))) E m H
 |.dI ks xs,Q,E,m,H=>gU G tb n xs (λys m H=>∃fz,∀c,H c=none->Q (.ref c) m (H.ai c (.bz fz (ks.zip ys)))) E m H
 |.dE,Q,E,m,H=>W3 (λv H'=>Q v m H') H
 |.call f xs,Q,E,m,H=>gU G tb n xs (λys m H=>uv G n f ys Q E m H) E m H
 |.aQ o nm xs,Q,E,m,H=>vX G tb n o (λy m H=>iY tb nm (λf first=>gU G tb n xs (λys m H=>uv G n f (first++ys) Q E m H) E m H) H y) E m H
 |.comp frees nt bM iter ifs g,Q,E,m,H=>
  vX G tb n iter (λy m H=>nA (λs=>∀D,H D=none->W5 m frees λvs=>
      xN s (λy Q m H=>jb G tb n bM y Q E m H) (λQ m H=>pF G tb n ifs Q E m H) (λQ' mc Hc=>sZ G tb n g D Q' E mc Hc) (λmc Hc=>TX D (Q (.ref D) m) Hc) (List.replicate nt none++vs.map some) (H.ai D (.list .mu []))) H y) E m H
noncomputable def gU(G:Gx)(tb:cQ)(n:Nat):List X->(List AV->MM->AH->Prop)->(Addr->AH->Prop)->MM->AH->Prop
 |[],Q,E,m,H=>Q [] m H
 |x::r,Q,E,m,H=>vX G tb n x (λy m H=>gU G tb n r (λys m H=>Q (y::ys) m H) E m H) E m H
noncomputable def vT(G:Gx)(tb:cQ)(n:Nat):T->(Bool->MM->AH->Prop)->(Addr->AH->Prop)->MM->AH->Prop
 |.val x,Q,E,m,H=>vX G tb n x (λy m H=>jL (λc=>Q c m H) H y) E m H
 |.cmp op a b,Q,E,m,H=>vX G tb n a (λx m H=>vX G tb n b (λy m H=>dZ (λc=>Q c m H) H op x y) E m H) E m H
 |.nt t,Q,E,m,H=>vT G tb n t (λc m H=>Q (!c) m H) E m H
 |.an t u,Q,E,m,H=>vT G tb n t (λc m H=>if c=true then vT G tb n u Q E m H else Q false m H) E m H
 |.j7 t u,Q,E,m,H=>vT G tb n t (λc m H=>if c=true then Q true m H else vT G tb n u Q E m H) E m H
noncomputable def pF(G:Gx)(tb:cQ)(n:Nat):List T->(Bool->MM->AH->Prop)->(Addr->AH->Prop)->MM->AH->Prop
 |[],Q,E,m,H=>Q true m H
 |t::r,Q,E,m,H=>vT G tb n t (λc m H=>if c=true then pF G tb n r Q E m H else Q false m H) E m H
noncomputable def jb(G:Gx)(tb:cQ)(n:Nat):TG->AV->(MM->AH->Prop)->(Addr->AH->Prop)->MM->AH->Prop
 |.nm i,v,Q,E,m,H=>Q (m.set i (some v)) H
 |.attr x nm,v,Q,E,m,H=>vX G tb n x (λy m H=>xM tb nm v (λH'=>Q m H') H y) E m H
 |.sub x y,v,Q,E,m,H=>vX G tb n x (λa m H=>vX G tb n y (λk m H=>kD v (λH'=>Q m H') H a k) E m H) E m H
 |.aj ts,v,Q,E,m,H=>BS H v ts.length λys=>uL G tb n ts ys Q E m H
noncomputable def uL(G:Gx)(tb:cQ)(n:Nat):List TG->List AV->(MM->AH->Prop)->(Addr->AH->Prop)->MM->AH->Prop
 |[],ys,Q,E,m,H=>Q m H
 |t::ts,ys,Q,E,m,H=>match ys with
  |[]=>False
  |y::ys=>jb G tb n t y (λm H=>uL G tb n ts ys Q E m H) E m H
noncomputable def sZ(G:Gx)(tb:cQ)(n:Nat):GS->Nat->(MM->AH->Prop)->(Addr->AH->Prop)->MM->AH->Prop
 |.elt x,D,Q,E,m,H=>vX G tb n x (λy m H=>W4 D (Q m) H y) E m H
 |.more bM iter ifs g,D,Q,E,m,H=>vX G tb n iter (λy m H=>nA (λs=>xN s (λy Q m H=>jb G tb n bM y Q E m H) (λQ m H=>pF G tb n ifs Q E m H) (λQ' mc Hc=>sZ G tb n g D Q' E mc Hc) Q m H) H y) E m H
end
noncomputable def BI.val:BI->Value
 |.len=>.builtin "len"|.max=>.builtin "max"|.sum=>.builtin "sum"|.sorted=>.builtin "sorted"|.mZ=>.builtin "isinstance"
 |.range=>.type "range"|.dict=>.type "dict"|.list=>.type "list"|.tuple=>.type "tuple"|.int=>.type "int"|.str=>.type "str"
 |.nZ=>.builtin "list.append"|.kN=>.builtin "list.pop"|.jk=>.builtin "dict.get"|.jT=>.builtin "dict.pop"|.rV=>.builtin "dict.items"|.kE=>.builtin "str.split"
noncomputable def CV.val:CV->Value
 |.fn f=>.ref f
 |.cls C _=>.ref C
 |.bi b=>b.val
noncomputable def CV.ok(K:Frag):CV->Bool
 |.fn f=>keepIn K (.ref f)
 |.cls C f=>keepIn K (.ref C)&&G4 K C f
 |.bi _=>true
theorem CV.keeps{K:Frag}{M:Model}{f:CV}(h:f.ok K=true):su K M f.val:=by
 induction f with
 |fn f=>exact zV h
 |cls C f=>exact zV (Bool.and_eq_true_iff.mp h).1
 |bi b=>induction b<;>first|exact E7|exact E8
structure m8(G:Gx)(tb:cQ):Prop where
 aQ:∀p∈tb.aQ,∀x:Str,x.cps.toList=p.2.1->AL G.K p.1 x p.2.2=true/\keepIn G.K (.ref p.2.2)=true
 jU:∀p∈tb.jU,∀x:Str,x.cps.toList=p.2->sr G.K p.1 x=true
 oJ:∀p∈tb.oJ,∀x:Str,x.cps.toList=p.2->Bp G.K p.1 x=true
 own:∀p∈tb.own,∀x:Str,x.cps.toList=p.2->sr G.K p.1 x=true/\findIn G.K (.ref p.1) x=some none
 cW:∀f∈tb.cW,keepIn G.K (.ref f)=true
section
variable{P:List Value->Prop}{vs:List Value}{x y z:AV}
@[elab_as_elim] theorem m1 (h:vs.map er=[x]) (k:∀v,er v=x->P [v]):P vs:=by
  obtain ⟨v,rfl,e⟩:=List.map_eq_singleton_iff.mp h
  exact k v e
@[elab_as_elim] theorem m2 (h:vs.map er=[x,y]) (k:∀v u,er v=x->er u=y->P [v,u]):P vs:=by
  obtain ⟨v,r,rfl,e,h⟩:=List.map_eq_cons_iff.mp h
  exact m1 h λu=>k v u e
@[elab_as_elim] theorem m3 (h:vs.map er=[x,y,z]) (k:∀v u w,er v=x->er u=y->er w=z->P [v,u,w]):P vs:=by
  obtain ⟨v,r,rfl,e,h⟩:=List.map_eq_cons_iff.mp h
  exact m2 h λu w=>k v u w e
end
section
variable{G:Gx}{n:Nat}{fx:Fx}{E:Addr->AH->Prop}{m:MM}{H:AH}
theorem TY{b:BI}{vs:List Value}{ys:List AV}{Q:AV->MM->AH->Prop}(e:vs.map er=ys)(h:bK (λv H'=>Q v m H') H b ys):AW G n fx (call b.val vs []) VA Q E m H:=by
 induction h with
 |len e0 l h=>exact m1 e λv e1=>Tz e1 e0 l h
 |I4 e0 l h=>exact m1 e λv e1=>Ra e1 e0 l h
 |max e0 q h=>exact m1 e λv e1=>Rp e1 e0 q h
 |I5 h=>exact m2 e λv u e1 e2=>Rb e1 e2 h
 |sum e0 h=>exact m1 e λv e1=>TU e1 e0 h
 |sorted e0 l h=>exact m1 e λv e1=>NC e1 e0 l h
 |tupI h=>exact m2 e λv u e1 e2=>Bl e2▸Og e1 h
 |I6 e0 h=>exact m2 e λv u e1 e2=>Bl e2▸Oh e1 e0 h
 |range h=>exact m1 e λv e1=>PB e1 h
 |Ib f e0 l h=>exact m1 e λv e1=>MA e1 e0 l f h
 |Ic f e0 l h=>exact m1 e λv e1=>MB e1 e0 l f h
 |list k' e0 l h=>exact m1 e λv e1=>PC e1 e0 l h
 |tuple e0 l h=>exact m1 e λv e1=>Pk e1 e0 l h
 |int h=>exact m1 e λv e1=>Rc e1 h
 |str l h=>exact m1 e λv e1=>TV e1 l h
 |append e0 l h=>exact m2 e λv u e1 e2=>E6 e1 e2 e0 l h
 |lg e0 l h=>exact m1 e λv e1=>Nu e1 e0 l h
 |I7 e0 l h=>exact m2 e λv u e1 e2=>MU e1 e2 e0 l h
 |aE h=>exact m2 e λv u e1 e2=>Q8 e1 e2 h
 |I8 h=>exact m3 e λv u w e1 e2 e3=>Q9 e1 e2 e3 h
 |uK e0 l g h=>exact m2 e λv u e1 e2=>Pg e1 e2 e0 l g h
 |Ie e0 l h=>exact m3 e λv u w e1 e2 e3=>Ph e1 e2 e3 e0 l h
 |items e0 h=>exact m1 e λv e1=>Pj e1 e0 h
 |split q l h=>exact m2 e λv u e1 e2=>PD e1 e2 q l h
theorem F1{f:CV}{vs:List Value}{ys:List AV}{Q:AV->MM->AH->Prop}(hok:f.ok G.K=true)(e:vs.map er=ys)(h:uv G n f ys Q E m H):AW G n fx (call f.val vs []) VA Q E m H:=by
 induction f with
 |fn f=>exact Pp e h
 |cls C f=>
  induction n with
  |zero=>exact h.elim
  |succ k=>exact Pq (an hok).2 e h
 |bi b=>exact TY e h
theorem PF{tb:cQ}(tok:m8 G tb){v:Value}{y:AV}{x:Str}{ex:Bool}{Q:AV->MM->AH->Prop}(e:er v=y)(h:uu tb x.cps.toList (λv=>Q v m H) H y):AW G n fx (getAttr v x ex) VA Q E m H:=by
 induction h with|mk e0 m1 g nb h=>exact G5 e e0 (tok.jU _ m1 x rfl) g nb h
theorem PG{tb:cQ}(tok:m8 G tb){v u:Value}{y z:AV}{x:Str}{Q:Unit->MM->AH->Prop}(e:er v=y)(eu:er u=z)(h:xM tb x.cps.toList z (λH'=>Q () m H') H y):AW G n fx (setAttr v x u) VU Q E m H:=by
 induction h with|mk e0 m1 l h=>exact Nq e eu e0 (tok.oJ _ m1 x rfl) l h
theorem Ot{va:Value}{a:Addr}{nm:Str}{pl:Sem Bool}{fz:Bool}{C:Nat}{fs:List (List Nat×AV)}{f:Addr}{Q:Value×List Value->MM->AH->Prop}(ea:er va=.ref a)(e:H a=some (.inst fz C fs))(hok:sr G.K C nm=true)(yE:findIn G.K (.ref C) nm=some none)
 (hv:fM fs nm.cps.toList=some (.ref f))(h:Q (.ref f,[]) m H):AW G n fx (getMethod va nm pl) (λx y=>x=y) Q E m H:=λb hp tk ok r=>by
 have x:=r.inst e
 generalize hfs:fs=qK at x
 induction x with|mk mC dx es k ck F I p=>
 have hg:=plainGet_of (an (an hok).1).1
 have h1:=G5 (n:=n) (fx:=fx) (E:=E) (ex:=false) (Q:=λy m' H'=>y=.ref f/\Q (.ref f,[]) m' H') ea e hok hv nofun ⟨rfl,h⟩ b hp tk ok r
 rw [kC ea] at h1 ⊢
 exact method_usual (r.cJ ok) I hg.1 hg.2 yE rfl (qm h1 (λZaa Zaa x=>x) λv h' bg m' H' y r' l q=>kC (l.trans q.1)▸qn r' rfl q.2)
noncomputable abbrev Bv(G:Gx)(n:Nat)(fx:Fx)(E:Addr->AH->Prop)(m:MM)(H:AH)(K:CV->List AV->Prop)(t:Sem (Value×List Value)):Prop:=
 AW G n fx t (λ(p:Value×List Value) (q:CV×List AV)=>p.1=CV.val q.1/\p.2.map er=q.2/\q.1.ok G.K=true) (λ(q:CV×List AV) m' H'=>K q.1 q.2/\m'=m/\H'=H) E m H
theorem xO{t:Sem (Value×List Value)}{p:Value×List Value}{K:CV->List AV->Prop}{f:CV}{ys:List AV}(h1:p.1=f.val)(h2:p.2.map er=ys)(h3:f.ok G.K=true)(h4:K f ys)(h5:AW G n fx t (λa b=>a=b) (λq m' H'=>q=p/\m'=m/\H'=H) E m H):Bv G n fx E m H K t:=
 Ri h5 λa b m1 H1 l ⟨q1,q2,q3⟩=>⟨(f,ys),⟨l.trans q1▸h1,l.trans q1▸h2,h3⟩,h4,q2,q3⟩
theorem ux{K:CV->List AV->Prop}{v:Value}{pl:Sem Bool}{a:Nat}{b:BI}{T id:String}{x x':Str}(e:er v=.ref a)(hx:x=x')(hb:b.val=.builtin id)(ho:∀{b hh},RX G fx b m H hh->Ob hh a T)(k:qP T x' id)(h:K (.bi b) [.ref a]):Bv G n fx E m H K (getMethod v x pl):=
 xO (p:=(.builtin id,[.ref a])) (f:=.bi b) hb.symm rfl rfl h (hx▸Pu e ho k ⟨rfl,rfl,rfl⟩)
theorem PI{tb:cQ}(tok:m8 G tb){v:Value}{y:AV}{x:Str}{pl:Sem Bool}{K:CV->List AV->Prop}(e:er v=y)(h:iY tb x.cps.toList K H y):Bv G n fx E m H K (getMethod v x pl):=by
 induction h with
 |split q h=>exact xO (p:=(.builtin "str.split",[v])) (f:=.bi .kE) rfl (congrArg (λa=>[a]) e) rfl h (Pw e (Oj q) ⟨rfl,rfl,rfl⟩)
 |append e0 q h=>exact ux e (NB q) rfl (λr=>r.KN e0) Om h
 |lg e0 q h=>exact ux e (G8 q) rfl (λr=>r.KN e0) TL h
 |aE e0 q h=>exact ux e (Rl q) rfl (λr=>r.Cv e0) TM h
 |items e0 q h=>exact ux e (Oi q) rfl (λr=>r.Cv e0) Pr h
 |uK e0 q h=>exact ux e (G8 q) rfl (λr=>r.Cv e0) Rm h
 | @own a C f fz fs e0 g h1 h2 h3=>exact xO (p:=(.ref f,[])) (f:=.fn f) rfl rfl (tok.cW f h2) h3 (Ot e e0 (tok.own _ h1 x rfl).1 (tok.own _ h1 x rfl).2 g ⟨rfl,rfl,rfl⟩)
 | @aQ a C f fz fs e0 g h1 h2=>exact xO (p:=(.ref f,[.ref a])) (f:=.fn f) rfl rfl (tok.aQ _ h1 x rfl).2 h2 (Mu e e0 (tok.aQ _ h1 x rfl).1 g ⟨rfl,rfl,rfl⟩)
end
structure CE where
 K:Frag
 sc:Scope
 ns:List Str
 wr:Bool
noncomputable def CE.idx(c:CE)(x:Str):Option Nat:=c.ns.findIdx? λy=>y==x
noncomputable def jh(x:Str):Bool:=!(x==("__debug__":Str))&&!(x==("__classdict__":Str))
noncomputable def W6:String->Option BI
 | "len"=>some .len| "max"=>some .max| "sum"=>some .sum| "sorted"=>some .sorted| "isinstance"=>some .mZ|_=>none
noncomputable def W7:String->Option BI
 | "range"=>some .range| "dict"=>some .dict| "list"=>some .list| "tuple"=>some .tuple| "int"=>some .int| "str"=>some .str|_=>none
noncomputable def KW(K:Frag)(v:Value)(b:Option BI):Option {f:CV // f.val=v/\f.ok K=true}:=match b with
 |some b=>if q:b.val=v then some ⟨.bi b,q,rfl⟩ else none
 |none=>none
noncomputable def cvS(K:Frag)(v:Value):Option {f:CV // f.val=v/\f.ok K=true}:=
 match v with
 |.builtin s=>KW K (.builtin s) (W6 s)
 |.type s=>KW K (.type s) (W7 s)
 |.ref a=>if (jS K a).isSome then (if q:(CV.fn a).ok K=true then some ⟨.fn a,rfl,q⟩ else none) else (match findIn K (.ref a) "__init__" with
  |some (some (.ref f))=>if q:(CV.cls a f).ok K=true then some ⟨.cls a f,rfl,q⟩ else none
  |_=>none)
 |_=>none
noncomputable def uM(K:Frag)(v:Value):Option CV:=(cvS K v).map (·.1)
theorem F2{K:Frag}{v:Value}{f:CV}(h:uM K v=some f):f.val=v/\f.ok K=true:=by
 obtain ⟨p,_,rfl⟩:=Option.map_eq_some_iff.mp h
 exact p.2
noncomputable def mJ(scope sc:Scope):Scope:={scope with names:=scope.names.map λ(n,k)=>if (k==.free&&sc.kind==.function&&sc.names.lookup n==some .cell) then (n,.cell) else (n,k)}
theorem MW{scope sc:Scope}{env:Env}(h:env.scope=sc):relabel scope env=mJ scope sc:=by subst h;rfl
theorem tS{e:Expr}{env:Env}(h:bR e=true)(x:Value):foldedSetIterable e env x=pure x:=(wL h).elim λZaa p=>p.iter env x
inductive KC:List (Option Expr)->List AV->Prop
 |nil:KC [] []
 |cons {c k p y r ys}:vC c=some y->KC r ys->KC (some (.Constant c k p)::r) (y::ys)
theorem KC.some{keys:List (Option Expr)}{ys:List AV}(h:KC keys ys):keys.all (·.isSome)=true:=by
 induction h with
 |nil=>rfl
 |cons _ _ ih=>exact ih
inductive yL(y:AV):Option Expr->Prop
 |mk {c k p} (h:vC c=some y):yL y (some (.Constant c k p))
theorem yL.cons{y:AV}{k:Option Expr}{r:List (Option Expr)}{ys:List AV}(h:yL y k)(t:KC r ys):KC (k::r) (y::ys):=by induction h with|mk h=>exact .cons h t
noncomputable def W8(k:Option Expr):Option {y:AV // yL y k}:=match k with
 |none=>none
 |some e=>(match e with
  |.Constant c k p=>(match h:vC c with
   |some y=>some ⟨y,.mk h⟩
   |none=>none)
  |_=>none)
noncomputable def Ig:(ks:List (Option Expr))->Option {ys:List AV // KC ks ys}
 |[]=>some ⟨[],.nil⟩
 |k::r=>(match W8 k with
  |some y=>(match Ig r with
   |some ys=>some ⟨y.1::ys.1,y.2.cons ys.2⟩
   |none=>none)
  |none=>none)
noncomputable def Hg:(ys:List AV)->Option {l:List (List Nat) // ys=l.map .str}
 |[]=>some ⟨[],rfl⟩
 |.str s::r=>(match Hg r with|some l=>some ⟨s::l.1,congrArg (_::·) l.2⟩|none=>none)
 |_::_=>none
noncomputable def Hh:(ys:List AV)->Option {l:List Int // ys=l.map .int}
 |[]=>some ⟨[],rfl⟩
 |.int s::r=>(match Hh r with|some l=>some ⟨s::l.1,congrArg (_::·) l.2⟩|none=>none)
 |_::_=>none
noncomputable def CE.comp(c:CE)(scope:Scope):Option (CE×List Nat×Nat):=
 let frees:=(scope.names.filter λp=>p.2==.free).map (·.1)
 let yc:=(scope.names.filter λp=>p.2==.local&&p.1 != (".0":Str)).map (·.1)
 let c':CE:=⟨c.K,mJ scope c.sc,yc++frees,false⟩
 if decide (scope.kind=.function)&&decide ((yc++frees).Nodup)&&(scope.names.all λp=>p.2 != .cell)&&(scope.names.all λp=>p.2 != .local||decide (scope.names.lookup p.1=some .local))
     &&(frees.all λx=>decide (c.sc.names.lookup x=some .cell))&&(yc.all λx=>decide ((mJ scope c.sc).names.lookup x=some .local))&&(frees.all λx=>decide ((mJ scope c.sc).names.lookup x=some .cell))&&decide (c.sc.kind=.function) then
  (frees.mapM λx=>c.idx x).map λis=>(c',is,yc.length)
 else none
structure fV(G:Gx)(c:CE)(fx:Fx):Prop where
 K:c.K=G.K
 sc:fx.env.scope=c.sc
 nm:∀i,fx.nm i=c.ns[i]?
 nd:c.ns.Nodup
 wr:c.wr=true->fx.wr=true
theorem Hi{c:CE}{x:Str}{i:Nat}(h:c.idx x=some i):c.ns[i]?=some x:=by
 unfold CE.idx at h
 obtain ⟨h1,h2,_⟩:=List.findIdx?_eq_some_iff_getElem.mp h
 rw [List.getElem?_eq_getElem h1,beq_iff_eq.mp h2]
theorem fV.idx{G:Gx}{c:CE}{fx:Fx}(k:fV G c fx){x:Str}{i:Nat}(h:c.idx x=some i):fx.nm i=some x:=(k.nm i).trans (Hi h)
theorem fV.dO{G:Gx}{c:CE}{fx:Fx}(k:fV G c fx){x:Str}{i:Nat}(h:c.idx x=some i):∀j,fx.nm j=some x->j=i:=λj hj=>by
 rw [k.nm j] at hj
 have h1:=Hi h
 exact (List.getElem?_inj (List.getElem?_eq_some_iff.mp hj).1 k.nd).mp (hj.trans h1.symm)
noncomputable abbrev lQ(ifs:List Expr)(env:Env):Sem Bool:=forIn ifs true λc r=>if r=true then do let ok <-isTrue c env (eval c env);pure (ForInStep.yield ok) else pure (ForInStep.yield r)
theorem MX{prog:Program}{w:World}{A:Around}{E:Value->Shared->Prop}{it t:Addr}{items:Array Value}(hne:t≠it)(n:Nat):∀(i:Nat) (s:Shared) (Q:List Value->Shared->Prop),s.heap.IsListIter it t i->s.heap.IsList t items->i+n<=items.size->
 (∀h',h'.IsListIter it t (i+n)->Heap.SameBut it s.heap h'->Q ((items.toList.drop i).take n) {s with heap:=h'})->wpAny (model prog w) A (draw (.ref it) n) Q E s:=by
 induction n with
 |zero=>exact λi s Q hit Zaa Zaa hQ=>wpAny_pure (hQ s.heap hit (Heap.SameBut.refl ..))
 |succ n ih=>
  intro i s Q hit ht vh hQ
  have hlt:i<items.toList.length:=by rw [Array.length_toList];lia
  rw [List.drop_eq_getElem_cons hlt] at hQ
  refine wpAny_bind (m:=pyNext (.ref it)) (wpAny_pyNext_list_item hit ht (x:=items.toList[i]) (Array.getElem?_eq_getElem hlt) λh₁ AQ uy=>?_)
  exact wpAny_bind (wpAny_holding (ih (i+1) _ _ AQ (ht.extBut uy.extBut hne) (by lia) λh₂ Rq TZ=>wpAny_pure (hQ h₂ (by rw [show i+(n+1)=i+1+n by lia];exact Rq) (uy.trans TZ))))
theorem Mc{prog:Program}{w:World}{A:Around}{E:Value->Shared->Prop}{s:Shared}{t:Addr}{items:Array Value}{Q:List Value->Shared->Prop}(hh:A.handled=none)(ht:s.heap.IsList t items)
 (hQ:∀h',Heap.ExtBut s.heap.objs.size s.heap h'->Q items.toList {s with heap:=h'}):wpAny (model prog w) A (unpackItems (.ref t) items.size none) Q E s:=by
 have hlt:t≠s.heap.objs.size:=by obtain ⟨o,ho,_⟩:=ht;exact Nat.ne_of_lt (Heap.lt_size ho)
 unfold unpackItems notIterableAtAll
 refine wpAny_bind (wpAny_bind (wpAny_specialOf ht.typeIs slot_list_iter.lookup (wpAny_pure ?_)))
 rw [if_neg Bool.false_ne_true]
 refine wpAny_bind (wpAny_holding (wpAny_pyIter_list ht ?_))
 refine wpAny_bind (wpAny_holding (MX hlt items.size 0 _ _ ⟨_,Heap.get?_push_size _ rfl,rfl,rfl⟩ (ht.push _) (by lia) λh₁ AQ uy=>?_))
 rw [List.drop_zero,List.take_of_length_le (Nat.le_of_eq Array.length_toList),if_neg (by simp)]
 refine wpAny_bind (wpAny_holding (wpAny_pyNext_list_end hh AQ ((ht.push _).extBut uy.extBut hlt) (by simp) λh₂ T3=>?_))
 exact wpAny_pure (hQ h₂ λb o hb e=>T3 b o hb (uy.extBut b o hb (Heap.get?_push_of_some _ e)))
section
variable{G:Gx}{n:Nat}{fx:Fx}{E:Addr->AH->Prop}{m:MM}{H:AH}
theorem DR{v:Value}{y:AV}{ys:List AV}{Q:List AV->MM->AH->Prop}(e:er v=y)(hs:uw H ys y)(h:Q ys m H):AW G n fx (unpackItems v ys.length none) VL Q E m H:=by
 induction hs with
 |aj e0=>
  refine eR e λb hh tk ok r=>?_
  obtain ⟨D,cv,bN,rfl⟩:=r.cont e0
  rw [List.length_map]
  exact unpackItems_tuple (prog:=G.prog) (w:=G.w) (s:=G.sh hh tk) ok.eW bN λh' he=>qn (r.keeps λc o q=>he c o (Nat.ne_of_lt (Heap.lt_size q)) q) rfl h
 |list e0=>
  refine eR e λb hh tk ok r=>?_
  obtain ⟨D,cv,bN,rfl⟩:=r.cont e0
  rw [List.length_map]
  exact Mc (prog:=G.prog) (w:=G.w) (s:=G.sh hh tk) ok.eW bN.1 λh' he=>qn (r.keeps λc o q=>he c o (Nat.ne_of_lt (Heap.lt_size q)) q) rfl h
end
section
set_option backward.match.sparseCases true
structure Ok(G:Gx)(tb:cQ)(c:CE)(fx:Fx):Prop where
 tok:m8 G tb
 ce:fV G c fx
theorem fV.keep{G:Gx}{fx:Fx}{c:CE}(k:fV G c fx)(p:Addr×Obj):fV G c (fx.keep p):=⟨k.K,k.sc,k.nm,k.nd,k.wr⟩
theorem fV.keeps{G:Gx}{fx:Fx}{c:CE}(k:fV G c fx)(p:List (Addr×Obj)):fV G c (fx.keeps p):=⟨k.K,k.sc,k.nm,k.nd,k.wr⟩
theorem Ok.keep{G:Gx}{tb:cQ}{fx:Fx}{c:CE}(k:Ok G tb c fx)(p:Addr×Obj):Ok G tb c (fx.keep p):=⟨k.tok,k.ce.keep p⟩
theorem Ok.keeps{G:Gx}{tb:cQ}{fx:Fx}{c:CE}(k:Ok G tb c fx)(p:List (Addr×Obj)):Ok G tb c (fx.keeps p):=⟨k.tok,k.ce.keeps p⟩
theorem uz{G:Gx}{fx:Fx}{c:CE}(k:fV G c fx){x:Str}(h:c.sc.names.lookup x=some .globalImplicit):fx.env.kindOf x=some .globalImplicit:=by unfold Env.kindOf;rw [k.sc];exact h
noncomputable def XS(c:CE)(e:Expr)(x:X):Prop:=∀G tb n fx,Ok G tb c fx->∀Q E m H,vX G tb n x Q E m H->AW G n fx (eval e fx.env) VA Q E m H
noncomputable def TS(c:CE)(e:Expr)(t:T):Prop:=∀G tb n fx,Ok G tb c fx->∀Q E m H,vT G tb n t Q E m H->AW G n fx (isTrue e fx.env (eval e fx.env)) VB Q E m H
noncomputable def ez(c:CE)(e:Expr)(t:TG):Prop:=∀G tb n fx,Ok G tb c fx->∀v y Q E m H,er v=y->jb G tb n t y Q E m H->AW G n fx (assign e fx.env v) VU (λZaa m H=>Q m H) E m H
inductive A2{α β:Type}(P:α->β->Prop):List α->List β->Prop
 |nil:A2 P [] []
 |cons {a b as bs} (h:P a b) (t:A2 P as bs):A2 P (a::as) (b::bs)
theorem A2.len{α β:Type}{P:α->β->Prop}{a b}(h:A2 P a b):b.length=a.length:=by
 induction h with
 |nil=>rfl
 |cons _ _ ih=>exact congrArg (·+1) ih
theorem qW{x:Str}(h:jh x=true):(x==("__debug__":Str))=false/\(x==("__classdict__":Str))=false:=⟨Bool.not_eq_true' _▸(an h).1,Bool.not_eq_true' _▸(an h).2⟩
section
variable{c:CE}{l r o i:Expr}{a b:X}{p:Pos}
theorem Ou{k:Const}{q:Nat}{y:AV}(h:vC k=some y):XS c (.Constant k q p) (.c y):=λG tb n fx k Q E m H hv=>FT h hv
theorem PJ{x:Str}{i:Nat}(hn:jh x=true)(hi:c.idx x=some i):XS c (.Name x p) (.aa i):=λG tb n fx k Q E m H hv=>by
 induction hv with|mk v h1 h2=>exact AM (k.ce.idx hi) h1 (qW hn).1 (qW hn).2 h2
theorem PK{x:Str}{v:Value}(hn:jh x=true)(hk:c.sc.names.lookup x=some .globalImplicit)(h:iw c.K x=some v):XS c (.Name x p) (.c (er v)):=λG tb n fx k Q E m H hv=>
 G6 (uz k.ce hk) (qW hn).1 (k.ce.K▸h) hv
theorem Rr{op:Operator}(h1:XS c l a)(h2:XS c r b):XS c (.BinOp l op r p) (.aA op a b):=λG tb n fx k Q E m H hv=>by
 rw [arm_eval_BinOp]
 exact cS (h1 _ _ _ _ k _ _ _ _ hv) λv y m1 H1 e1 q=>cS (gu (h2 _ _ _ _ k _ _ _ _ q)) λu z m2 H2 e2 q2=>gJ (MT (Tu e1 e2 q2))
theorem Rt(h1:XS c l a):XS c (.UnaryOp .USub l p) (.neg a):=λG tb n fx k Q E m H hv=>by
 rw [arm_eval_UnaryOp]
 refine cS (h1 _ _ _ _ k _ _ _ _ hv) λv y m1 H1 e1 q=>gJ (gu ?_)
 induction q with|mk q=>exact TJ e1 q
theorem Ru{op:CmpOp}(hm:behindInMarks op r=false)(h1:XS c l a)(h2:XS c r b):XS c (.Compare l [op] [r] p) (.cmp op a b):=λG tb n fx k Q E m H hv bb hh tk ok rr=>
 wpAny_Compare1 (qm (h1 _ _ _ _ k _ _ _ _ hv bb hh tk ok rr) (λZaa Zaa x=>x) λv j6 eg m1 H1 y r1 l1 q1=>qm (h2 _ _ _ _ k _ _ _ _ q1 bb j6 eg ok r1) (λZaa Zaa x=>x) λu pD ja m2 H2 z r2 l2 q2=>Bo l1 l2 q2 bb pD ja ok r2) hm
theorem Rv{t:Expr}{t':T}(h1:TS c t t')(h2:XS c l a)(h3:XS c r b):XS c (.IfExp t l r p) (.aC t' a b):=λG tb n fx k Q E m H hv=>by
 rw [arm_eval_IfExp]
 refine cS (h1 _ _ _ _ k _ _ _ _ hv) λv y m1 H1 e1 q=>?_
 induction e1
 induction v
 ·exact h3 _ _ _ _ k _ _ _ _ q
 ·exact h2 _ _ _ _ k _ _ _ _ q
theorem T4(h1:XS c l a)(h2:XS c r b):XS c (.BoolOp .Or [l,r] p) (.qU a b):=λG tb n fx k Q E m H hv=>by
 rw [arm_eval_BoolOp]
 show AW G n fx (eval l fx.env >>= λv=>standAt p >>= λZaa=>holding [v] (truthy v) >>= λt=>match BoolOp.Or,t with|.And,false|.Or,true=>pure v|_,_=>eval r fx.env) VA Q E m H
 refine cS (h1 _ _ _ _ k _ _ _ _ hv) λv y m1 H1 e1 q=>gJ (cS (gu (E5 (Q:=λc m H=>if c=true then Q y m H else vX G tb n b Q E m H) e1 q)) λt y2 m2 H2 e2 q2=>?_)
 induction e2
 induction t
 ·exact h2 _ _ _ _ k _ _ _ _ q2
 ·exact iT e1 q2
theorem Rw{q:Pos}(h1:XS c o a)(h2:XS c i b):XS c (.Subscript o (.Slice none (some i) none q) p) (.qV a b):=λG tb n fx k Q E m H hv=>
 Oo (h1 _ _ _ _ k _ _ _ _ hv) λy m1 H1 q=>h2 _ _ _ _ k _ _ _ _ q
theorem T5{q:Pos}(h1:XS c o a)(h2:XS c i b):XS c (.Subscript o (.Slice none (some i) none q) p) (.sl a b):=λG tb n fx k Q E m H hv=>
 Px (h1 _ _ _ _ k _ _ _ _ hv) λy m1 H1 q=>h2 _ _ _ _ k _ _ _ _ q
theorem PL(hp:bR i=true)(h1:XS c o a)(h2:XS c i b):XS c (.Subscript o i p) (.item a b):=λG tb n fx k Q E m H hv=>
 TN (Q2:=Q) hp (h1 _ _ _ _ k _ _ _ _ hv) λy m1 H1 q=>h2 _ _ _ _ k _ _ _ _ q
theorem PN{nm:Str}(hp:qd o=true)(h1:XS c o a):XS c (.Attribute o nm p) (.attr a nm.cps.toList):=λG tb n fx k Q E m H hv=>
 Rn hp (h1 _ _ _ _ k _ _ _ _ hv) λv y m1 H1 e1 q=>PF k.tok e1 q
theorem qk{es:List Expr}{xs:List X}(h:A2 (XS c) es xs):∀{G tb n fx},Ok G tb c fx->∀{Q E m H pos},es.all bR=true->gU G tb n xs Q E m H->AW G n fx (spliced (backTo pos (starEach es fx.env))) VL Q E m H:=by
 induction h with
 |nil=>intro G tb n fx k Q E m H pos hp hv;exact EM hv
 |cons h1 _ ih=>
  intro G tb n fx k Q E m H pos hp hv
  have hp:=an hp
  exact zJ (qc hp.1) (h1 _ _ _ _ k _ _ _ _ hv) λy m1 H1 q=>ih k hp.2 q
theorem Ih{keys:List (Option Expr)}{mq:List AV}(hK:KC keys mq):∀{es:List Expr} {xs:List X},A2 (XS c) es xs->keys.length=es.length->∀{G tb n fx},Ok G tb c fx->∀{Q E m H pos},gU G tb n xs Q E m H->AW G n fx (evalPairs (pairTrees keys es fx.env pos)) (pC mq) Q E m H:=by
 induction hK with
 |nil=>
  intro es xs h hl G tb n fx k Q E m H pos hv
  induction h with
  |nil=>exact Mz hv
  |cons _ _=>cases hl
 |cons hy hK ih=>
  intro es xs h hl G tb n fx k Q E m H pos hv
  induction h with
  |nil=>cases hl
  |cons h1 h2=>exact Mm hy (h1 _ _ _ _ k _ _ _ _ hv) λy m1 H1 q=>ih h2 (Nat.succ.inj hl) k q
theorem Rx{es:List Expr}{xs:List X}(hp:es.all bR=true)(h:A2 (XS c) es xs):XS c (.List es p) (.af xs):=λG tb n fx k Q E m H hv=>
 Exists.elim hv λkk hv=>Rk kk (qk h k hp hv)
theorem Ry{es:List Expr}{xs:List X}{q:Nat}(hp:es.all bR=true)(h:A2 (XS c) es xs):XS c (.Tuple es q p) (.aj xs):=λG tb n fx k Q E m H hv=>TH (qk h k hp hv)
theorem T6:XS c (.Dict [] [] p) .dE:=λG tb n fx k Q E m H hv=>by induction hv with|mk o q h=>exact PA o q h
theorem T7{keys:List (Option Expr)}{es:List Expr}{xs:List X}{ks:List (List Nat)}(p1:keys.length=es.length)(p2:keys.length<=15)(p3:keys≠[])(hk:KC keys (ks.map .str))(hn:ks.Nodup)(h:A2 (XS c) es xs):XS c (.Dict keys es p) (.dS ks xs):=λG tb n fx k Q E m H hv=>
 Py hk.some p1 p3 p2 hn λp=>Ih hk h p1 (k.keep p) hv
theorem T8{keys:List (Option Expr)}{es:List Expr}{xs:List X}{ks:List Int}(p1:keys.length=es.length)(p2:keys.length<=15)(p3:keys≠[])(hk:KC keys (ks.map .int))(hn:ks.Nodup)(h:A2 (XS c) es xs):XS c (.Dict keys es p) (.dI ks xs):=λG tb n fx k Q E m H hv=>
 Pz hk.some p1 p3 p2 hn λp=>Ih hk h p1 (k.keep p) hv
theorem PO{x:Str}{py:Pos}{es:List Expr}{xs:List X}{v:Value}{f:CV}(hn:jh x=true)(hp:es.all bR=true)(hk:c.sc.names.lookup x=some .globalImplicit)(h3:iw c.K x=some v)(h4:uM c.K v=some f)(h:A2 (XS c) es xs):XS c (.Call (.Name x py) es [] p) (.call f xs):=λG tb n fx k Q E m H hv=>by
 rw [k.ce.K] at h3 h4
 obtain ⟨h5,h6⟩:=F2 h4
 rw [arm_eval_Call_Name']
 exact cS (rl:=λa b=>a=v) (Q1:=λ(_:Unit) m' H'=>gU G tb n xs (λys m H=>uv G n f ys Q E m H) E m' H') (λb hh tk ok r=>t9 (uz k.ce hk) (qW hn).1 h3 ok r (qn (y:=()) r rfl hv)) λv' y m1 H1 e1 q=>
  e1.symm▸h5▸wA hp (CV.keeps h6) (mK (qk h k hp q) (λys m2 H2 q vs dD=>F1 h6 dD q) λZaa Zaa x=>x)
theorem EN{o:Expr}{nm:Str}{apos pos:Pos}{es:List Expr}{env:Env}(p1:qd o=true)(p2:es.all bR=true)(p3:es.length<30)(p4:(apos.endLine==pos.line)=true):
 eval (.Call (.Attribute o nm apos) es [] pos) env=(do
  let ov <-eval o env
  standAt apos.atName
  let (f,first) <-holding [ov] (getMethod ov nm (do return (<-importBound o env).getD true))
  callWith pos f first (backTo pos (starEach es env)) (backToKw pos (keywordEach [] env))):=by
 have T9:methodCallForm (es.length+([]:List Keyword).length) (backTo pos (starEach es env)) (backToKw pos (keywordEach [] env))=true:=by
  unfold methodCallForm
  rw [<-List.not_any_eq_all_not,zw p2]
  exact decide_eq_true p3
 rw [arm_eval_Call,Dn p1]
 unfold methodCall calleeOf methodCallPos
 rw [T9,p4]
 rfl
theorem PR{nm:Str}{apos:Pos}{es:List Expr}{xs:List X}(p1:qd o=true)(p2:es.all bR=true)(p3:es.length<30)(p4:(apos.endLine==p.line)=true)(h1:XS c o a)(h2:A2 (XS c) es xs):XS c (.Call (.Attribute o nm apos) es [] p) (.aQ a nm.cps.toList xs):=λG tb n fx k Q E m H hv=>by
 rw [EN p1 p2 p3 p4]
 refine cS (h1 _ _ _ _ k _ _ _ _ hv) λv y m1 H1 e1 q=>gJ (cS (gu (PI k.tok e1 q)) λfp q2 m2 H2 e2 q3=>?_)
 obtain ⟨q3,rfl,rfl⟩:=q3
 show AW G n fx (callWith p fp.1 fp.2 (backTo p (starEach es fx.env)) []) VA Q E _ _
 rw [e2.1]
 exact wA p2 (CV.keeps e2.2.2) (mK (qk h2 k p2 q3) (λys m2 H2 q vs dD=>F1 e2.2.2 (by rw [List.map_append,e2.2.1,dD]) q) λZaa Zaa x=>x)
end
end
section
set_option backward.match.sparseCases true
theorem v9{e:Expr}{rest:List Expr}{env:Env}(h:bR e=true):assignEach (e::rest) env=(false,assign e env)::assignEach rest env:=(wL h).elim λZaa p=>p.az rest env
theorem Me{env:Env}{es:List Expr}(h:es.all bR=true):(assignEach es env).findIdx? (·.1)=none/\(assignEach es env).length=es.length:=by
 induction es with
 |nil=>exact ⟨rfl,rfl⟩
 |cons e r ih=>
  obtain ⟨h1,h2⟩:=ih (an h).2
  rw [v9 (an h).1,List.findIdx?_cons,h1]
  exact ⟨rfl,congrArg (·+1) h2⟩
theorem MC{env:Env}(r:List Expr):forIn r false (λc r=>if r=true then do let ok <-isTrue c env (eval c env);pure (ForInStep.yield ok) else pure (ForInStep.yield r))=(pure false:Sem Bool):=by
 induction r with
 |nil=>rfl
 |cons x r ih=>rw [List.forIn_cons,if_neg Bool.false_ne_true];exact ih
section
variable{c:CE}{l r o i:Expr}{a b:X}{p:Pos}
inductive Cy(k:Bool->Prop):AV->Prop
 |mk {b:Bool} (h:k b):Cy k (.bool b)
theorem dZ.aY{k k':Bool->Prop}{H:AH}{op:CmpOp}{a b:AV}(h:dZ k H op a b)(q:∀c,k c->k' c):dZ k' H op a b:=by
 induction h with
 |eq e h=>exact .eq e (q _ h)
 |ne e h=>exact .ne e (q _ h)
 |u5 e h=>exact .u5 e (q _ h)
 |is h=>exact .is (q _ h)
 |yw e h=>exact .yw e (q _ h)
 |yx e h=>exact .yx e (q _ h)
 |lt h=>exact .lt (q _ h)
 |le h=>exact .le (q _ h)
 |gt h=>exact .gt (q _ h)
 |ge h=>exact .ge (q _ h)
theorem rW{e:Expr}(he:∀env whole,isTrue e env whole=(do let v <-whole;standAt e.pos;holding [v] (truthy v)))(h:XS c e a):TS c e (.val a):=λG tb n fx k Q E m H hv=>by
 rw [he]
 exact cS (h _ _ _ _ k _ _ _ _ hv) λv y m1 H1 e1 q=>gJ (gu (E5 e1 q))
theorem Rz{op:CmpOp}(hm:behindInMarks op r=false)(h1:XS c l a)(h2:XS c r b):TS c (.Compare l [op] [r] p) (.cmp op a b):=λG tb n fx k Q E m H hv bb hh tk ok rr=>
 wpAny_isTrue_Compare1 (qm (h1 _ _ _ _ k _ _ _ _ hv bb hh tk ok rr) (λZaa Zaa x=>x) λv j6 eg m1 H1 y r1 l1 q1=>qm (h2 _ _ _ _ k _ _ _ _ q1 bb j6 eg ok r1) (λZaa Zaa x=>x) λu pD ja m2 H2 z r2 l2 q2=>
  qm (Bo (Q:=λv m H=>Cy (λc=>Q c m H) v) l1 l2 (q2.aY λc h=>.mk h) bb pD ja ok r2) (λZaa Zaa x=>x) λv h3 sY m3 H3 z3 r3 l3 q3=>by
   induction q3 with|mk q3=>exact eB l3 (wpAny_truthy_bool (qn r3 rfl q3))) hm
theorem RC{t:T}(h:TS c l t):TS c (.UnaryOp .Not l p) (.nt t):=λG tb n fx k Q E m H hv=>by
 rw [arm_isTrue_UnaryOp]
 refine cS (h _ _ _ _ k _ _ _ _ hv) λv y m1 H1 e1 q=>?_
 induction e1
 exact iT rfl q
noncomputable def pG(c:CE)(op:BoolOp)(es:List Expr)(t:T):Prop:=∀G tb n fx,Ok G tb c fx->∀Q E m H,vT G tb n t Q E m H->AW G n fx (allTrue op es fx.env) VB Q E m H
theorem Ov{op:BoolOp}{es:List Expr}{t:T}(h:pG c op es t):TS c (.BoolOp op es p) t:=λG tb n fx k Q E m H hv=>by
 rw [arm_isTrue_BoolOp];exact h _ _ _ _ k _ _ _ _ hv
theorem Hj{op:BoolOp}{t:T}(h:TS c l t):pG c op [l] t:=λG tb n fx k Q E m H hv=>by
 show AW G n fx (isTrue l fx.env (eval l fx.env) >>= λt=>match op,t with|.And,false=>pure false|.Or,true=>pure true|_,_=>allTrue op [] fx.env) VB Q E m H
 refine cS (h _ _ _ _ k _ _ _ _ hv) λv y m1 H1 e1 q=>?_
 induction e1
 induction op<;>induction v<;>exact iT rfl q
theorem RD{es:List Expr}{t u:T}(h:TS c l t)(h2:pG c .And es u):pG c .And (l::es) (.an t u):=λG tb n fx k Q E m H hv=>by
 show AW G n fx (isTrue l fx.env (eval l fx.env) >>= λt=>match BoolOp.And,t with|.And,false=>pure false|.Or,true=>pure true|_,_=>allTrue .And es fx.env) VB Q E m H
 refine cS (h _ _ _ _ k _ _ _ _ hv) λv y m1 H1 e1 q=>?_
 induction e1
 induction v
 ·exact iT rfl q
 ·exact h2 _ _ _ _ k _ _ _ _ q
theorem Ii{es:List Expr}{t u:T}(h:TS c l t)(h2:pG c .Or es u):pG c .Or (l::es) (.j7 t u):=λG tb n fx k Q E m H hv=>by
 show AW G n fx (isTrue l fx.env (eval l fx.env) >>= λt=>match BoolOp.Or,t with|.And,false=>pure false|.Or,true=>pure true|_,_=>allTrue .Or es fx.env) VB Q E m H
 refine cS (h _ _ _ _ k _ _ _ _ hv) λv y m1 H1 e1 q=>?_
 induction e1
 induction v
 ·exact h2 _ _ _ _ k _ _ _ _ q
 ·exact iT rfl q
theorem RG{es:List Expr}{ts:List T}(h:A2 (TS c) es ts):∀{G tb n fx},Ok G tb c fx->∀{Q E m H},pF G tb n ts Q E m H->AW G n fx (lQ es fx.env) VB Q E m H:=by
 induction h with
 |nil=>intro G tb n fx k Q E m H hv;exact iT rfl hv
 | @cons e t es ts h1 _ ih=>
   intro G tb n fx k Q E m H hv
   unfold lQ
   rw [List.forIn_cons,if_pos rfl]
   refine cS (rl:=λa (b:Bool)=>a=ForInStep.yield b) (Q1:=λc m H=>if c=true then pF G tb n ts Q E m H else Q false m H) (cS (h1 _ _ _ _ k _ _ _ _ hv) λv y m1 H1 e1 q=>?_) λs y m1 H1 e1 q=>?_
   ·induction e1
    exact iT rfl q
   ·subst e1
    induction y
    ·show AW G n fx (forIn es false _) VB Q E m1 H1
     rw [MC]
     exact iT rfl q
    ·exact ih k q
theorem Ua{x:Str}{j:Nat}(hk:c.sc.names.lookup x=some .local\/c.sc.names.lookup x=some .cell/\c.wr=true)(hi:c.idx x=some j):ez c (.Name x p) (.nm j):=λG tb n fx k v y Q E m H ev hv bb hh tk ok rr=>by
 refine PyProof.Rows.assign_Name (Ej (Q:=λZaa m H=>Q m H) (E:=E) (k.ce.idx hi) (k.ce.dO hi) ev ?_ hv bb hh tk ok rr)
 unfold Env.kindOf
 rw [k.ce.sc]
 exact hk.imp id λh=>⟨h.1,k.ce.wr h.2⟩
theorem PT{nm:Str}(h:XS c o a):ez c (.Attribute o nm p) (.attr a nm.cps.toList):=λG tb n fx k v y Q E m H ev hv=>by
 rw [arm_assign_Attribute]
 exact cS (gu (h _ _ _ _ k _ _ _ _ hv)) λov z m1 H1 e1 q=>gJ (cS (gu (PG (Q:=λZaa m H=>Q m H) k.tok e1 ev q)) λZaa Zaa m2 H2 Zaa q2=>zH q2)
theorem RH(hp:bR i=true)(h1:XS c o a)(h2:XS c i b):ez c (.Subscript o i p) (.sub a b):=λG tb n fx k v y Q E m H ev hv=>by
 rw [arm_assign_Subscript]
 exact cS (gu (h1 _ _ _ _ k _ _ _ _ hv)) λov z m1 H1 e1 q=>cS (gu (h2 _ _ _ _ k _ _ _ _ q)) λiv z2 m2 H2 e2 q2=>gJ (cS (gu (Pf (Q:=λZaa m H=>Q m H) e1 e2 ev q2)) λZaa Zaa m2 H2 Zaa q2=>zH q2)
theorem RJ{es:List Expr}{ts:List TG}(h:A2 (ez c) es ts):∀{G tb n fx},Ok G tb c fx->∀{vs ys Q E m H},es.all bR=true->vs.map er=ys->ys.length=ts.length->uL G tb n ts ys Q E m H->AW G n fx (assignInOrder ((assignEach es fx.env).map (·.2)) vs) VU (λZaa m H=>Q m H) E m H:=by
 induction h with
 |nil=>
  intro G tb n fx k vs ys Q E m H hp ev hl hv
  induction vs with
  |nil=>exact iT (y:=()) trivial hv
  |cons _ _=>subst ev;cases hl
 | @cons e t es ts h1 _ ih=>
   intro G tb n fx k vs ys Q E m H hp ev hl hv
   subst ev
   induction vs with
   |nil=>cases hl
   |cons v vs=>
    have hp:=an hp
    rw [v9 hp.1]
    show AW G n fx (holding vs (assign e fx.env v) >>= λZaa=>assignInOrder ((assignEach es fx.env).map (·.2)) vs) VU (λZaa m H=>Q m H) E m H
    exact cS (gu (h1 _ _ _ _ k _ _ _ _ _ _ rfl hv)) λZaa Zaa m1 H1 Zaa q=>ih k hp.2 rfl (Nat.succ.inj hl) q
theorem RM{es:List Expr}{ts:List TG}{q:Nat}(hp:es.all bR=true)(h:A2 (ez c) es ts):ez c (.Tuple es q p) (.aj ts):=λG tb n fx k v y Q E m H ev hv=>by
 induction hv with|mk ys hs hl hv=>
 rw [arm_assign_Tuple]
 obtain ⟨a1,a2⟩:=Me (env:=fx.env) hp
 unfold unpack
 rw [a1,a2,<-h.len,<-hl]
 exact gJ (cS (gu (DR (Q:=λzs m' H'=>zs=ys/\uL G tb n ts ys Q E m' H') ev hs ⟨rfl,hv⟩)) λvs zs m1 H1 e1 q=>RJ h k hp (e1.trans q.1) hl q.2)
end
end
noncomputable def z8(env:Env)(p:Str×NameKind)(cs:List (Str×Addr)):Sem (ForInStep (List (Str×Addr))):=if p.2==.free then (do let a <-cellOf env p.1;pure (ForInStep.yield ((p.1,a)::cs))) else pure (ForInStep.yield cs)
structure W9(env:Env)(names:List (Str×NameKind))(acc cl:List (Str×Addr)):Prop where
 run:forIn names acc (z8 env)=(pure cl:Sem (List (Str×Addr)))
 at_:∀x c,cl.lookup x=some c->env.cells.lookup x=some c
 has:∀x,((x,NameKind.free)∈names\/(acc.lookup x).isSome=true)->(cl.lookup x).isSome=true
theorem PU{env:Env}{names:List (Str×NameKind)}:∀{acc:List (Str×Addr)},(∀x,(x,NameKind.free)∈names->(env.cells.lookup x).isSome=true)->(∀x c,acc.lookup x=some c->env.cells.lookup x=some c)->∃cl,W9 env names acc cl:=by
 induction names with
 |nil=>exact λ{acc} _ h=>⟨acc,rfl,h,λx q=>q.elim (λz=>absurd z List.not_mem_nil) id⟩
 |cons p r ih=>
  intro acc hf h
  by_cases hk:(p.2==.free)=true
  ·have hp:p=(p.1,NameKind.free):=congrArg (Prod.mk p.1) (eq_of_beq hk)
   obtain ⟨c,hc⟩:=Option.isSome_iff_exists.mp (hf p.1 (hp▸.head _))
   obtain ⟨cl,h1,h2,h3⟩:=ih (acc:=(p.1,c)::acc) (λx hx=>hf x (.tail _ hx)) λx c' q=>by
    rw [List.lookup_cons] at q
    split at q
    ·rename_i z;rw [beq_iff_eq.mp z,<-Option.some.inj q];exact hc
    ·exact h x c' q
   refine ⟨cl,?_,h2,λx q=>h3 x (q.elim (λq=>oE q (λq=>.inr (wG λz=>absurd (congrArg Prod.fst q) z)) .inl) λq=>.inr (wG λZaa=>q))⟩
   rw [List.forIn_cons,z8,if_pos hk,show cellOf env p.1=pure c by unfold cellOf;rw [hc]]
   exact h1
  ·obtain ⟨cl,h1,h2,h3⟩:=ih (acc:=acc) (λx hx=>hf x (.tail _ hx)) h
   refine ⟨cl,?_,h2,λx q=>h3 x (q.imp (λq=>oE q (λq=>absurd (beq_iff_eq.mpr (congrArg Prod.snd q).symm) hk) id) id)⟩
   rw [List.forIn_cons,z8,if_neg hk]
   exact h1
inductive Ub(scope:Scope)(env:Env):Prop
 |mk (cl:List (Str×Addr)) (h1:closureFor scope env=pure cl) (h2:∀x c,cl.lookup x=some c->env.cells.lookup x=some c) (h3:∀x,(x,NameKind.free)∈scope.names->(cl.lookup x).isSome=true)
theorem PW{scope:Scope}{env:Env}(hf:∀x,(x,NameKind.free)∈scope.names->(env.cells.lookup x).isSome=true):Ub scope env:=by
 obtain ⟨cl,h1,h2,h3⟩:=PU (acc:=[]) hf λx c q=>by cases q
 exact ⟨cl,congrArg (λt=>t >>= λcs=>pure cs) h1,h2,λx q=>h3 x (.inl q)⟩
noncomputable def Cz(elt:Expr)(gens:List Comprehension)(scope:Scope)(pos:Pos)(d:Nat)(it acc:Value)(env:Env)(ok:Bool):Sem Fin:=do
 if ok then
  match gens[d+1]? with
  |some g'=>
   let x <-eval g'.iter env
   standAt g'.iter.pos
   let x <-if g'.is_async != 0 then foldedIterable g'.iter x else foldedSetIterable g'.iter env x
   let _ <-runOwn (.compStart (.ListComp elt gens scope pos) (d+1) (<-holding [x] (if g'.is_async != 0 then asyncIter x else pyIter x)) acc env) env
  |none=>(do let _ <-call (.builtin "list.append") [acc,<-eval elt env])
 again (.compLoop (.ListComp elt gens scope pos) d it acc env)
noncomputable def ctA(elt:Expr)(gens:List Comprehension)(scope:Scope)(pos:Pos)(d:Nat)(it acc:Value)(env:Env)(bM:Expr)(ifs:List Expr)(v:Value):Sem Fin:=do
 letOwnedTupleGo bM it v
 assign bM env v
 let ok <-lQ ifs env
 Cz elt gens scope pos d it acc env ok
theorem MD{elt bM iter:Expr}{ifs:List Expr}{gens:List Comprehension}{scope:Scope}{pos:Pos}{d:Nat}{it acc:Value}{env:Env}(hg:gens[d]?=some ⟨bM,iter,ifs,0⟩):
 compTurn (.ListComp elt gens scope pos) d it acc env=(do
  standAt iter.pos
  match <-pyNext it with
  |none=>pure (.done .next)
  |some v=>ctA elt gens scope pos d it acc env bM ifs v):=by
 unfold compTurn
 simp only [hg]
 rfl
theorem Mn{elt bM iter:Expr}{ifs:List Expr}{gens:List Comprehension}{scope:Scope}{pos:Pos}{d:Nat}{it acc:Value}{env:Env}(hg:gens[d]?=some ⟨bM,iter,ifs,0⟩):
 compStart (.ListComp elt gens scope pos) d it acc env=(do
  if (<-ask).params.followText "comprehension-iter-twice" then return <-again (.compLoop (.ListComp elt gens scope pos) d it acc env)
  rule "comprehension.iter-twice"
  standAt iter.pos
  again (.compLoop (.ListComp elt gens scope pos) d (<-pyIter it) acc env)):=by
 have jx:clausesOf (.ListComp elt gens scope pos)=gens:=rfl
 unfold compStart
 simp only [jx,hg]
 rfl
theorem Ex{prog:Program}{w:World}{A:Around}{R:Result->Shared->Prop}{s:Shared}{elt bM iter:Expr}{ifs:List Expr}{gens:List Comprehension}{scope:Scope}{pos:Pos}{d:Nat}{it acc:Value}{env:Env}(hg:gens[d]?=some ⟨bM,iter,ifs,0⟩)
 (h0:codeAny (model prog w) A (.compLoop (.ListComp elt gens scope pos) d it acc env) R s)
 (h:∀(E0:Value->Shared->Prop) (Q0:Value->Shared->Prop),Q0 it s->wpAny (model prog w) A (pyIter it) Q0 E0 s):
 codeAny (model prog w) A (.compStart (.ListComp elt gens scope pos) d it acc env) R s:=by
 refine codeAny_of_tree ?_
 show wpAny _ A ((compStart (.ListComp elt gens scope pos) d it acc env).onRaise (λx=>do noteFrame x env;standAt theWindowsPlace)) _ _ s
 refine wpAny_notedAt ?_
 rw [Mn hg]
 refine wpAny_bind (wpAny_askSetting (wpAny_ite ?_))
 split
 ·first
   |exact wpAny_bind (wpAny_pure (wpAny_pure (And.intro rfl h0)))
   |exact wpAny_pure (And.intro rfl h0)
 ·refine wpAny_bind (wpAny_rule ?_)
  refine wpAny_bind (wpAny_standAt (wpAny_bind (h _ _ ?_)))
  exact wpAny_pure (And.intro rfl h0)
inductive gF(c:CE)(elt:Expr):List Comprehension->GS->Prop
 |elt {x} (h:XS c elt x):gF c elt [] (.elt x)
 |more {bM iter ifs x t is gs g} (hp:bR iter=true) (h1:XS c iter x) (h2:ez c bM t) (h3:A2 (TS c) ifs is) (h4:gF c elt gs g):gF c elt (⟨bM,iter,ifs,0⟩::gs) (.more t x is g)
section
variable{G:Gx}{tb:cQ}{n:Nat}{fx:Fx}{E:Addr->AH->Prop}{m:MM}{H:AH}{b h:Heap}{kp:List (Addr×Obj)}{tk:Nat}
theorem F3{s:eK}{I:Addr}{k:Nat}{Q:Value->Shared->Prop}{E0:Value->Shared->Prop}(st:gR I k s kp)(hz:∀a b,s≠.zip a b)(r:RX G (fx.keeps kp) b m H h)(hq:Q (.ref I) (G.sh h tk)):wpAny G.M fx.A (pyIter (.ref I)) Q E0 (G.sh h tk):=by
 have fJ:=r.ua
 induction st with
 |list x=>exact wpAny_pyIter_listiter (s:=G.sh h tk) (x.at (fJ _ (.head _))) hq
 |aj c d=>exact wpAny_pyIter_tupleiter (s:=G.sh h tk) ⟨_,fJ _ (.head _),c,d⟩ hq
 |bU=>exact wpAny_pyIter_rangeiter (s:=G.sh h tk) (fJ _ (.head _)) hq
 |zip=>exact absurd rfl (hz _ _)
inductive AR(G:Gx)(fx:Fx)(b:Heap)(E:Addr->AH->Prop)(e:Value)(s':Shared):Prop
 |mk (h':Heap) (bg:Nat) (H':AH) (C ea:Addr) (e1:s'=G.sh h' bg) (e2:e=.ref ea) (x:nK G fx b H' C ea h') (q:E C H')
inductive RN(G:Gx)(fx:Fx)(b:Heap)(Q:MM->AH->Prop)(s':Shared):Prop
 |mk (h':Heap) (bg:Nat) (m':MM) (H':AH) (e1:s'=G.sh h' bg) (x:RX G fx b m' H' h') (q:Q m' H')
noncomputable def CR(G:Gx)(fx:Fx)(b:Heap)(Q:MM->AH->Prop)(E:Addr->AH->Prop)(r:Result)(s':Shared):Prop:=
 match r with
 |.ok _=>RN G fx b Q s'
 |.error e=>AR G fx b E e s'
theorem PX(ok:aX G fx n b){e:Value}{s':Shared}(x:fh G fx b E e s'):notedBy G.M fx.A fx.env (AR G fx b E) e s':=by
 induction x with|mk h' bg H' C ea e1 e2 x y=>
 subst e1 e2
 exact wpAny_mono (zY (Ed:=AR G fx b E) ok ok.mT x) (λZaa s2 q=>by induction q with|mk h2 ja e x=>exact ⟨h2,ja,H',C,ea,e,rfl,x,y⟩) λZaa Zaa q=>q
noncomputable def CL(G:Gx)(tb:cQ)(n:Nat)(c:CE)(elt:Expr)(scope:Scope)(pos:Pos)(gens gs:List Comprehension)(g:GS):Prop:=
 ∀(d:Nat) (bM iter:Expr) (ifs:List Expr) (fx:Fx),Ok G tb c fx->∀(t:TG) (is:List T) (D:Addr) (s:eK) (I:Addr) (kp:List (Addr×Obj)) (Q:MM->AH->Prop) (E:Addr->AH->Prop) (m:MM) (H:AH) (b h:Heap) (tk:Nat),
  gens.drop d=⟨bM,iter,ifs,0⟩::gs->ez c bM t->A2 (TS c) ifs is->(∀a b,s≠.zip a b)->aX G fx n b->(∀p∈fx.kp,p.1∉kp.map (·.1))->gR I 0 s kp->RX G (fx.keeps kp) b m H h->
  xN s (λy Q m H=>jb G tb n t y Q E m H) (λQ m H=>pF G tb n is Q E m H) (λQ' mc Hc=>sZ G tb n g D Q' E mc Hc) Q m H->
  codeAny G.M fx.A (.compLoop (.ListComp elt gens scope pos) d (.ref I) (.ref D) fx.env) (CR G fx b Q E) (G.sh h tk)
theorem NF{α:Type}{l r:List α}{d:Nat}{x:α}(h:l.drop d=x::r):l[d]?=some x/\l.drop (d+1)=r/\l[d+1]?=r.head?:=by
 have h1:l.drop (d+1)=r:=by rw [<-List.tail_drop,h];rfl
 exact ⟨by rw [<-List.head?_drop,h];rfl,h1,by rw [<-List.head?_drop,h1]⟩
theorem MY{c:CE}{elt:Expr}{scope:Scope}{pos:Pos}{gens gs:List Comprehension}{g:GS}(hg:gF c elt gs g)(ih:∀jy g',gF c elt jy g'->jy.length<gs.length->CL G tb n c elt scope pos gens jy g'){d:Nat}{D I:Addr}{J:MM->AH->Prop}(uA:gens.drop (d+1)=gs)(s7:gens[d+1]?=gs.head?)
 (k:Ok G tb c fx)(ok:aX G fx n b)(r:RX G fx b m H h)(q:sZ G tb n g D J E m H){Q':Fin->Shared->Prop}{E':Value->Shared->Prop}(hE:∀e s',fh G fx b E e s'->E' e s')(ha:∀{m H h tk},RX G fx b m H h->J m H->Q' (.again (.compLoop (.ListComp elt gens scope pos) d (.ref I) (.ref D) fx.env)) (G.sh h tk)):
 wpAny G.M fx.A (Cz elt gens scope pos d (.ref I) (.ref D) fx.env true) Q' E' (G.sh h tk):=by
 unfold Cz
 rw [if_pos rfl,s7]
 induction hg with
 |elt hx=>exact wpAny_bind (qb (hx _ _ _ _ k _ _ _ _ q b h tk ok r) hE λv h5 pH m5 H5 y5 r5 l5 q5=>by
   induction q5 with|mk ys ho hl q5=>exact qb (E6 (Q:=λZaa m H=>J m H) (E:=E) (va:=.ref D) rfl l5 ho hl q5 b h5 pH ok r5) hE λZaa h6 KY m6 H6 y6 r6 l6 q6=>wpAny_pure (wpAny_pure (ha r6 q6)))
 |more fZ g1 g2 g3 g4=>
  refine qb (g1 _ _ _ _ k _ _ _ _ q b h tk ok r) hE λv h5 pH m5 H5 y5 r5 l5 q5=>wpAny_bind (wpAny_standAt (wpAny_bind (wpAny_of_eq (tS fZ v) (wpAny_bind (wpAny_holding (z7 l5 q5 ok r5 λs2 I2 h6 kp2 v2 z2 KZ Xa r6=>?_))))))
  refine wpAny_bind (wpAny_runOwn (h:=none) (codeAny_mono (Ex s7 (ih _ _ g4 (Nat.lt_succ_self _) (d+1) _ _ _ fx k _ _ D s2 I2 kp2 J E m5 H5 b h6 pH uA g2 g3 z2 ok Xa KZ r6 v2) λE0 Q0 hq=>F3 KZ z2 r6 hq) λrr s6 q6=>?_))
  induction rr with
  |ok fl=>induction q6 with|mk h7 tk7 m7 H7 e r7 q7=>exact e▸wpAny_pure (ha r7 q7)
  |error e=>
   induction q6 with|mk h7 tk7 H7 C ea e1 e2 x7 y7=>
   subst e1 e2
   exact Fc ok ok.mT x7 λh8 tk8 x8=>hE _ _ ⟨h8,tk8,H7,C,ea,rfl,rfl,x8,y7⟩
theorem NG{c:CE}{elt bM iter:Expr}{ifs:List Expr}{scope:Scope}{pos:Pos}{gens gs:List Comprehension}{g:GS}(hg:gF c elt gs g)(ih:∀jy g',gF c elt jy g'->jy.length<gs.length->CL G tb n c elt scope pos gens jy g'){d:Nat}{t:TG}{is:List T}{D I:Addr}{s:eK}{k N:Nat}{J Q:MM->AH->Prop}
 (uA:gens.drop d=⟨bM,iter,ifs,0⟩::gs)(ht:ez c bM t)(CA:A2 (TS c) ifs is)(hz:∀a b,s≠.zip a b)(kk:Ok G tb c fx)(ok:aX G fx n b)(cI:∀p∈fx.kp,p.1∉kp.map (·.1))(st:gR I k s kp)(r:RX G (fx.keeps kp) b m H h)
 (q:kJ H s k (λy H=>k<N/\jb G tb n t y (λm H=>pF G tb n is (λc m H=>if c=true then sZ G tb n g D J E m H else J m H) E m H) E m H) (Q m H)){Q':Fin->Shared->Prop}{E':Value->Shared->Prop}(hE:∀(l:List (Addr×Obj)) e s',fh G (fx.keeps l) b E e s'->E' e s')(h0:∀{h H tk},RX G fx b m H h->Q m H->Q' (.done .next) (G.sh h tk))
 (ha:∀{dX m H h tk},k<N->gR I (k+1) s dX->dX.map (·.1)=kp.map (·.1)->RX G (fx.keeps dX) b m H h->J m H->Q' (.again (.compLoop (.ListComp elt gens scope pos) d (.ref I) (.ref D) fx.env)) (G.sh h tk)):
 wpAny G.M fx.A (compTurn (.ListComp elt gens scope pos) d (.ref I) (.ref D) fx.env) Q' E' (G.sh h tk):=by
 obtain ⟨s7,RO,Xb⟩:=NF uA
 rw [MD s7]
 refine wpAny_bind (wpAny_standAt (wpAny_bind (wpAny_mono (FY (target:=bM) (Ke:=Q m) ok cI st r q λa b q=>absurd q (hz a b)) (λrr s1 q=>?_) λZaa Zaa x=>x.elim)))
 induction rr with
 |none=>induction q with|mk H' h' bg e r' q=>exact e▸wpAny_pure (h0 r' q)
 |some v=>
  refine wpAny_bind (wpAny_mono q (λZaa s2 q=>?_) λZaa Zaa x=>x.elim)
  induction q with|mk H' h' bg dX e jw hm r' q=>
  subst e
  have k2:=kk.keeps dX
  have CB:=ok.rU dX
  refine qb (ht _ _ _ _ k2 _ _ _ _ _ _ rfl q.2 b h' bg CB r') (hE dX) λZaa h3 sY m3 H3 Zaa r3 Zaa q3=>qb (RG CA k2 q3 b h3 sY CB r3) (hE dX) λokk h4 qT m4 H4 y4 r4 l4 q4=>?_
  induction l4
  induction okk with
  |false=>exact wpAny_pure (ha q.1 jw hm r4 q4)
  |true=>exact MY (fx:=fx.keeps dX) hg ih RO Xb k2 CB r4 ((if_pos rfl).mp q4) (hE dX) (ha q.1 jw hm)
theorem NH{c:CE}{elt:Expr}{scope:Scope}{pos:Pos}{gens gs:List Comprehension}{g:GS}(hg:gF c elt gs g)(ih:∀jy g',gF c elt jy g'->jy.length<gs.length->CL G tb n c elt scope pos gens jy g'):CL G tb n c elt scope pos gens gs g:=by
 intro d bM iter ifs fx k t is D s I kp Q E m H b h tk uA ht CA hz ok cI st r hv
 induction hv with|mk N J j0 turn=>
 refine codeAny_loop (c:=.compLoop (.ListComp elt gens scope pos) d (.ref I) (.ref D) fx.env) rfl (LI G fx b (λk=>gR I k s) (kp.map (·.1)) N J) (λcc s' q=>?_) (N+1) ⟨0,kp,m,H,h,tk,rfl,Nat.zero_le _,rfl,st,rfl,r,j0⟩
 induction q with|mk kk kp1 m1 H1 h1 eg hc hk e cD nJ r1 j1=>
 subst e
 exact wpAny_noted (m:=compTurn (.ListComp elt gens scope pos) d (.ref I) (.ref D) fx.env) (NG hg ih uA ht CA hz k ok (nJ▸cI) cD r1 (turn kk m1 H1 hk j1) (λl e s' x=>PX (E:=E) ok x.iV) (λr q=>⟨_,_,m1,_,rfl,r,q⟩) λhlt jw hm r5 q=>⟨rfl,LI.again hc hlt jw (hm.trans nJ) r5 q⟩)
theorem NJ{c:CE}{elt:Expr}{scope:Scope}{pos:Pos}{gens gs:List Comprehension}{g:GS}(hg:gF c elt gs g):CL G tb n c elt scope pos gens gs g:=by
 have q:∀(k:Nat) gs g,gF c elt gs g->gs.length<k->CL G tb n c elt scope pos gens gs g:=λk=>by
  induction k with
  |zero=>exact λgs g Zaa h=>absurd h (Nat.not_lt_zero _)
  |succ k ih=>exact λgs g hg h=>NH hg λjy g' hg' h'=>ih jy g' hg' (Nat.lt_of_lt_of_le h' (Nat.le_of_lt_succ h))
 exact q _ gs g hg (Nat.lt_succ_self _)
end
noncomputable def mG(scope:Scope):List Str:=(scope.names.filter λp=>p.2==.free).map (·.1)
noncomputable def tZ(scope:Scope):List Str:=(scope.names.filter λp=>p.2==.local&&p.1 != (".0":Str)).map (·.1)
structure Hl(c:CE)(scope:Scope)(c':CE)(is:List Nat)(nt:Nat):Prop where
 kind:scope.kind=.function
 nd:(tZ scope++mG scope).Nodup
 Ho:∀x∈scope.names,x.2≠.cell
 aa:∀x∈scope.names,x.2=.local->scope.names.lookup x.1=some .local
 free:∀x∈mG scope,c.sc.names.lookup x=some .cell
 Uc:∀x∈mG scope,(mJ scope c.sc).names.lookup x=some .cell
 aab:c.sc.kind=.function
 idx:(mG scope).mapM (λx=>c.idx x)=some is
 eq:c'=⟨c.K,mJ scope c.sc,tZ scope++mG scope,false⟩
 eqn:nt=(tZ scope).length
theorem PY{c:CE}{scope:Scope}{c':CE}{is:List Nat}{nt:Nat}(h:c.comp scope=some (c',is,nt)):Hl c scope c' is nt:=by
 unfold CE.comp at h
 dsimp only at h
 split at h
 ·rename_i hc
  obtain ⟨hc,h8⟩:=an hc
  obtain ⟨hc,h7⟩:=an hc
  obtain ⟨hc,h6⟩:=an hc
  obtain ⟨hc,h5⟩:=an hc
  obtain ⟨hc,h4⟩:=an hc
  obtain ⟨hc,h3⟩:=an hc
  obtain ⟨h1,h2⟩:=an hc
  obtain ⟨l,hl,e⟩:=Option.map_eq_some_iff.mp h
  cases e
  exact ⟨of_decide_eq_true h1,of_decide_eq_true h2,λx hx=>bne_iff_ne.mp (List.all_eq_true.mp h3 x hx),λx hx q=>(Bool.or_eq_true_iff.mp (List.all_eq_true.mp h4 x hx)).elim (λz=>absurd q (bne_iff_ne.mp z)) of_decide_eq_true,
   λx hx=>of_decide_eq_true (List.all_eq_true.mp h5 x hx),λx hx=>of_decide_eq_true (List.all_eq_true.mp h7 x hx),of_decide_eq_true h8,hl,rfl,rfl⟩
 ·cases h
theorem NK{α β:Type}{f:α->Option β}{l:List α}:∀{l':List β},l.mapM f=some l'->∀{i:Nat} {y:β},l'[i]?=some y->∃x,l[i]?=some x/\f x=some y:=by
 induction l with
 |nil=>
  intro l' h i y q
  rw [List.mapM_nil] at h
  rw [<-Option.some.inj h] at q;cases q
 |cons a r ih=>
  intro l' h i y q
  rw [List.mapM_cons] at h
  obtain ⟨z,h1,h⟩:=Option.bind_eq_some_iff.mp h
  obtain ⟨zs,h2,h⟩:=Option.bind_eq_some_iff.mp h
  rw [<-Option.some.inj h] at q
  induction i with
  |zero=>exact ⟨a,rfl,Option.some.inj q▸h1⟩
  |succ i=>exact ih h2 q
theorem Mp{scope sc:Scope}{x:Str}(h:(mJ scope sc).names.lookup x=some .cell):qv (λk=>(x,k)∈scope.names) (λk=>(k=.cell\/k=.free)):=by
 unfold mJ at h
 dsimp only at h
 obtain ⟨p,hp,e⟩:=List.mem_map.mp (mem_of_lookup h)
 obtain ⟨y,kk⟩:=p
 dsimp only at e
 split at e
 ·rename_i hc
  cases e
  simp only [Bool.and_eq_true,beq_iff_eq] at hc
  exact ⟨kk,hp,.inr hc.1.1⟩
 ·cases e;exact ⟨.cell,hp,.inl rfl⟩
theorem EO{scope:Scope}{x:Str}:x∈mG scope↔(x,NameKind.free)∈scope.names:=by
 unfold mG
 constructor
 ·intro h
  obtain ⟨p,hp,e⟩:=List.mem_map.mp h
  obtain ⟨h1,h2⟩:=List.mem_filter.mp hp
  obtain ⟨y,kk⟩:=p
  have:kk=.free:=by simpa using h2
  subst this;induction e;exact h1
 ·intro h
  exact List.mem_map.mpr ⟨_,List.mem_filter.mpr ⟨h,by rfl⟩,rfl⟩
theorem DS{B h h':Heap}{C:Addr}(hs:∀c,c≠C->h'.get? c=h.get? c):∀{l:List Env},(∀a∈l.filterMap (·.frame),a≠C)->h.FunFrames B l->h'.FunFrames B l
 |[],_,_=>trivial
 |env::r,hl,⟨a,⟨L,o,h1,h2,h3,h4⟩,h5⟩=>by
  rw [List.filterMap_cons,h1] at hl
  exact ⟨a,⟨L,o,h1,h2,(hs L (hl L List.mem_cons_self)).trans h3,h4⟩,DS hs (λa ha=>hl a (List.mem_cons_of_mem _ ha)) h5⟩
theorem DH{B h:Heap}{C:Addr}:∀{l:List Env},h.FunFrames B l->h.FunFrames (B.hide C) l
 |[],_=>trivial
 |env::r,⟨a,⟨L,o,h1,h2,h3,h4⟩,h5⟩=>by
  refine ⟨a,⟨L,o,h1,?_,h3,h4⟩,DH h5⟩
  cases q:(B.hide C).get? L with
  |none=>rfl
  |some o=>have:=Heap.of_hide q;rw [h2] at this;cases this
section
variable{G:Gx}{tb:cQ}{n:Nat}{fx:Fx}{E:Addr->AH->Prop}{m:MM}{H:AH}
noncomputable def Fx.comp(fx:Fx)(scope:Scope)(cl:List (Str×Addr))(C:Addr):Fx:=
 {A:=fx.A,outer:=fx.outer,dR:=fx.dR,env:=compEnvC scope cl C fx.env,nm:=λi=>(tZ scope++mG scope)[i]?,wr:=false,Lf:=fx.Lf,kp:=[]}
theorem PZ{vs:List AV}{nt i:Nat}{v:AV}(e:(List.replicate nt none++vs.map some)[i]?=some (some v)):∃j,i=nt+j/\vs[j]?=some v:=by
 have hi:nt<=i:=Nat.not_lt.mp λq=>by
  rw [List.getElem?_append_left (by rw [List.length_replicate];exact q),List.getElem?_replicate,if_pos q] at e
  cases e
 rw [List.getElem?_append_right (by rw [List.length_replicate];exact hi),List.length_replicate,List.getElem?_map] at e
 obtain ⟨v',h,e⟩:=Option.map_eq_some_iff.mp e
 exact ⟨i-nt,(Nat.add_sub_cancel' hi).symm,h.trans e⟩
theorem Ow{is:List Nat}{vs:List AV}{j:Nat}{v:AV}(dD:is.map (λi=>m[i]?.join)=vs.map some)(h:vs[j]?=some v):∃k,is[j]?=some k/\m[k]?=some (some v):=by
 have e:=congrArg (λl=>l[j]?) dD
 rw [show (vs.map some)[j]?=some (some v) by rw [List.getElem?_map,h];rfl,List.getElem?_map] at e
 obtain ⟨k,h1,h2⟩:=Option.map_eq_some_iff.mp e
 exact ⟨k,h1,Option.join_eq_some_iff.mp h2⟩
inductive Xc(G:Gx)(n:Nat)(c':CE)(fx:Fx)(vj:Fx)(C:Addr)(b:Heap)(m mc:MM)(H:AH)(kp:List (Addr×Obj))(h:Heap):Prop
 |mk (b':Heap) (k:fV G c' vj) (ok:aX G vj n b') (r:RX G (vj.keeps kp) b' mc H h) (cA:∀{m' H' h2},RX G vj b' m' H' h2->∃oC,RX G (fx.keep (C,oC)) b m H' h2)
  (ex:∀{H' X ea h2},nK G vj b' H' X ea h2->∃mC,h2.Ns C mC/\∀{h3},Heap.SameBut C h2 h3->nK G fx b H' X ea h3)
theorem MZ{c c':CE}{is:List Nat}{nt:Nat}{scope:Scope}{cl:List (Str×Addr)}(k:fV G c fx)(co:Hl c scope c' is nt)(nB:∀x a,cl.lookup x=some a->fx.env.cells.lookup x=some a)(uN:∀x,(x,NameKind.free)∈scope.names->(cl.lookup x).isSome=true)
 {b h h':Heap}{kp:List (Addr×Obj)}{vs:List AV}(cI:∀p∈fx.kp,p.1∉kp.map (·.1))(ok:aX G fx n b)(r:RX G (fx.keeps kp) b m H h)(dD:is.map (λi=>m[i]?.join)=vs.map some)(hn:h'.Ns h.objs.size λZaa=>none)
 (hs:Heap.SameBut h.objs.size (h.push {cls:=.type "dict",data:=.dict #[]}) h'):Xc G n c' fx (fx.comp scope cl h.objs.size) h.objs.size b m (List.replicate nt none++vs.map some) H kp h':=by
 induction r with|mk mC D own r=>
 have r0:R G fx b m H h mC D own:=⟨r.F,r.hr,r.aa,r.cells,λq hq=>r.aR q (List.mem_append_right _ hq)⟩
 have K1:=lT h
 have hk:∀c o,h.get? c=some o->h'.get? c=some o:=zX hs.extBut
 have BU:∀{a},a∈kp.map (·.1)->∃ob,nq fx.env b h own (a,ob):=λha=>by
  obtain ⟨p,hp,rfl⟩:=List.mem_map.mp ha
  exact ⟨p.2,r.aR p (List.mem_append_left _ hp)⟩
 have ju:∀{c o},h.get? c=some o->c∉own->c∉kp.map (·.1)->(hideAll h (own++kp.map (·.1))).get? c=some o:=λe h1 h2=>hideAll_get _ e λq=>(List.mem_append.mp q).elim h1 h2
 have fq:b.StaysIn (hideAll h (own++kp.map (·.1))):=λa o e=>ju (r.F.keep a o e) (λq=>nz (r.hr.live a q).nb e) λq=>(BU q).elim λZaa k=>nz k.nb e
 have hsz:(hideAll h (own++kp.map (·.1))).objs.size=h.objs.size:=hideAll_size _ _
 have K2:(hideAll h (own++kp.map (·.1))).get? h.objs.size=none:=mH (λa o e=>hsz▸Heap.lt_size e) (Nat.le_refl _)
 have bC:=kj fq K2
 have yM:(hideAll h (own++kp.map (·.1))).Ns fx.env.locals mC:=by
  obtain ⟨o,es,ep,e1,e2⟩:=r.F.ns
  exact ⟨o,es,ep,ju e1 (λq=>(r.hr.live _ q).nl rfl) λq=>(BU q).elim λZaa k=>k.nl rfl,e2⟩
 have K3:fx.env.locals≠h.objs.size:=Nat.ne_of_lt r.F.ns.lt
 have BV:relabel scope fx.env=mJ scope c.sc:=MW k.sc
 have nG:∃o,(hideAll h (own++kp.map (·.1))).get? fx.Lf=some o/\∀vs,o.data≠.fields vs:=by
  rcases ok.here with q|⟨o,e,q⟩
  ·obtain ⟨o,es,ep,e1,e2,_⟩:=yM
   exact ⟨o,q▸e1,λvs z=>nomatch e2.symm.trans z⟩
  ·exact ⟨o,fq _ _ e,q⟩
 have CC:∀{a ob},h.get? a=some ob->a≠h.objs.size:=λe q=>nz K1 (q▸e)
 refine ⟨hideAll h (own++kp.map (·.1)),co.eq▸⟨k.K,BV,λZaa=>rfl,co.nd,nofun⟩,?_,⟨λZaa=>none,D,own,⟨hn,λa o e=>hk a o (of_hideAll _ e),Nat.le_of_eq hsz⟩,(r.hr.keeps hk).base λa ha=>⟨hideAll_none _ (List.mem_append_left _ ha),λq=>?_⟩,λi v e=>?_,
  ⟨λy a e=>?_,λy z a e1 e2=>r.cells.inj y z a (nB _ _ e1) (nB _ _ e2),λx q=>?_⟩,λp hp=>?_⟩,λ{m' H' h2} r2=>?_,λ{H' X ea h2} x=>?_⟩
 ·exact {
   cJ:=ok.cJ.keeps fq
   eG:=ok.eG.keeps fq
   dB:=λa o e=>fq a o (ok.dB a o e)
   frames:=ok.frames.of_keeps λa o e Zaa=>⟨o,fq a o e,rfl⟩
   stack:=ok.stack
   eW:=ok.eW
   depth:=ok.depth
   units:=ok.units
   gf:=ok.gf
   sj:=ok.sj
   jN:=co.kind
   mT:=ok.mT
   sG:=ok.sG
   uF:=ok.uF
   lS:=ok.lS
   cM:=λx a e=>ok.cM x a (nB x a e)
   here:=.inr (nG.elim λo q=>⟨o,q.1,q.2⟩)}
 ·obtain ⟨o,ho⟩:=Option.isSome_iff_exists.mp (r.hr.live a ha).lv
  exact CC ho q
 ·obtain ⟨j,rfl,hv⟩:=PZ e
  obtain ⟨q,h1,h2⟩:=Ow dD hv
  obtain ⟨y,h3,h4⟩:=NK co.idx h1
  cases r.aa q v h2 with|mk y' cv e1 e2 e3=>
  obtain rfl:y=y':=Option.some.inj ((k.idx h4).symm.trans e1)
  have lU:=List.mem_of_getElem? h3
  have hkind:fx.env.kindOf y=some .cell:=by unfold Env.kindOf;rw [k.sc];exact co.free y lU
  induction e3 with
  |var q _=>exact nomatch (show (some NameKind.cell)=some .local from hkind.symm.trans q)
  |cell q a ob e4 e5 e6=>
   obtain ⟨a2,K4⟩:=Option.isSome_iff_exists.mp (uN y (EO.mp lU))
   refine ⟨y,cv,?_,e2,.cell (.inl ?_) a ob (K4.trans ((nB y a2 K4).symm.trans e4)) (hk _ _ e5) e6⟩
   ·show (tZ scope++mG scope)[nt+j]?=some y
    rw [co.eqn,List.getElem?_append_right (Nat.le_add_right _ _),Nat.add_sub_cancel_left];exact h3
   ·show (relabel scope fx.env).names.lookup y=some .cell
    rw [BV];exact co.Uc y lU
 ·cases r.cells.ok y a (nB y a e) with|mk d1 d2 d3 d4 v ob e5 e6=>exact ⟨nofun,CC e5,d3,d4,v,ob,hk _ _ e5,e6⟩
 ·have q':(relabel scope fx.env).names.lookup x=some .cell:=q
  rw [BV] at q'
  obtain ⟨kk,h1,h2⟩:=Mp q'
  exact h2.elim (λz=>absurd z (co.Ho _ h1)) λz=>uN x (z▸h1)
 ·have hp:p∈kp:=(List.append_nil kp)▸hp
  have q:=r.aR p (List.mem_append_left _ hp)
  exact ⟨hk _ _ q.lv,CC q.lv,q.no,hideAll_none _ (List.mem_append_right _ (List.mem_map_of_mem hp)),λx z=>q.nc x (nB x _ z)⟩
 ·induction r2 with|mk kZ D' eX r2=>
  obtain ⟨oC,es,ep,vm,K5,_⟩:=r2.F.ns
  obtain ⟨o,es',K6,e1,e2⟩:=yM
  have R2:=R.cA ok r0 fq ⟨o,es',K6,e1,e2⟩ (λx c o e n e5=>ju e5 n λq=>(BU q).elim λZaa k=>k.nc x e) ⟨⟨o,es',K6,r2.F.keep _ _ e1,e2⟩,λa o e=>r2.F.keep _ _ (fq a o e),r.F.above⟩ (λc o e Zaa=>r2.F.keep c o e) r2.hr
   λp hp=>(r0.aR p hp).cA (ju (r0.aR p hp).lv (r0.aR p hp).no (cI p hp)) (λe Zaa=>r2.F.keep _ _ e) r2.hr
  exact ⟨oC,mC,D',eX,R2.F,R2.hr,R2.aa,R2.cells,List.forall_mem_cons.mpr ⟨⟨vm,Ne.symm K3,λq=>(r2.hr.live _ q).nl rfl,bC,λx q=>(r.cells.ok x _ q).lv K1⟩,R2.aR⟩⟩
 ·induction x with|mk B kZ D' eX a0 x tr=>
  refine ⟨kZ,x.ns,λ{h3} hs3=>?_⟩
  obtain ⟨oC,esC,epC,vm,K5,_⟩:=x.ns
  have vm:h2.get? h.objs.size=some oC:=vm
  have same:∀c,c≠h.objs.size->h3.get? c=h2.get? c:=λc q=>hs3.2 c q
  have K7:h.objs.size∉eX:=λq=>(x.hr.live _ q).nl rfl
  have K8:∀{a},B.get? a=none->(B.hide h.objs.size).get? a=none:=λ{a} e=>by
   cases q:(B.hide h.objs.size).get? a with
   |none=>rfl
   |some o=>exact nz e (Heap.of_hide q)
  have Xd:∀a∈(fx.dR::fx.outer).filterMap (·.frame),a≠h.objs.size:=λa ha q=>by
   rw [List.filterMap_cons,ok.gf] at ha
   refine oE ha (λz=>?_) λha=>?_
   ·obtain ⟨o,e,_⟩:=nG
    exact nz K2 ((z.symm.trans q)▸e)
   ·obtain ⟨_,o,e,_⟩:=ok.frames.mem ha
    exact nz bC (q▸e)
  have K9:h3.TracedAtW (B.hide h.objs.size) ea (.ref X) a0 (rawInt fx.Lf):=by
   obtain ⟨oe,ws,T,oT,ts,g1,g2,g3,g4,g5,g6,g7,g8,g9⟩:=tr
   have nf:∀{a oa vs},h2.get? a=some oa->oa.data=.fields vs->a≠h.objs.size:=λ{a oa vs} e d q=>by
    rw [q,vm] at e;cases e;rw [K5] at d;cases d
   exact ⟨oe,ws,T,oT,ts,(same _ (nf g1 g3)).trans g1,g2,g3,g4,K8 g5,g6,(same _ (nf g7 g8)).trans g7,g8,g9⟩
  have nb:∀{a o},b.get? a=some o->a≠h.objs.size:=λe q=>nz bC (q▸e)
  refine ⟨B.hide h.objs.size,mC,D',eX,a0,⟨λc o e=>?_,λa o e qR=>(Heap.hide_ne B (nb e)).trans (x.up a o (fq a o e) qR),K8 x.jj,DH (DS same Xd x.frames),.at_ a0 K9,λa o e hd=>(x.slots a o (fq a o e) hd).elim λsl e1=>⟨sl,(same a (nb e)).trans e1⟩,?_,
   (x.hr.lP λc ob hc e=>(same c λq=>hc.elim (λhc=>K7 (q▸hc)) λhc=>ff (congrArg Option.isSome (kj ok.dB bC)) (q▸hc)).trans e).base λa ha=>⟨kj fq (x.hr.live a ha).nb,λq=>?_⟩,λa ha=>(congrArg Option.isSome (Heap.hide_ne B λ(q:a=h.objs.size)=>K7 (q▸ha))).trans (x.qx a ha)⟩,K9⟩
  ·exact (same c λq=>nz (Heap.hide_self B h.objs.size) (q▸e)).trans (x.dB c o (Heap.of_hide e))
  ·obtain ⟨o,es,ep,e1,e2⟩:=x.slots.ns yM
   exact ⟨o,es,ep,(same _ K3).trans e1,e2⟩
  ·obtain ⟨oL,es,ep,e1,_⟩:=yM
   exact nz (x.hr.live a ha).nb (q▸e1)
end
section
variable{G:Gx}{tb:cQ}{n:Nat}{fx:Fx}{E:Addr->AH->Prop}{m:MM}{H:AH}
theorem Ox{α:Type}{Q:α->Shared->Prop}{Ed:Value->Shared->Prop}{env:Env}{b h:Heap}{C ea:Addr}{tk:Nat}{what:String}(ok:aX G fx n b)(he:env.frame=some fx.Lf)(x:nK G fx b H C ea h)(hE:∀h' bg,dK G fx b H C ea h'->Ed (.ref ea) (G.sh h' bg)):
 wpAny G.M fx.A (PySem.passOn what (.ref ea) env:Sem α) Q Ed (G.sh h tk):=by
 induction x with|mk B mC D own a0 x e1=>
 obtain ⟨oe,vs,T,oT,ts,f1,f2,f3,f4,f5,f6,f7,f8,f9⟩:=id e1
 unfold PySem.passOn
 refine wpAny_bind (wpAny_field (s:=G.sh h tk) f1 f3 f4 ?_)
 rw [if_neg (by simp),he]
 exact wpAny_bind (Ek (s:=G.sh h tk) (fr:=some fx.Lf) x.dB x.frames e1 λh' k1 k2 k3 k4=>wpAny_throw (hE h' _ ⟨B,mC,D,own,x.step ok k1 k2 (.at_ a0 k3) λb o e hn=>⟨o.slots,k4 b o e hn⟩⟩))
inductive CO(c:CE)(elt:Expr)(scope:Scope):List Comprehension->X->Prop
 |mk {c' is nt bM iter ifs gs x t ts g} (hco:c.comp scope=some (c',is,nt)) (fZ:bR iter=true) (h1:XS c iter x) (h2:ez c' bM t) (h3:A2 (TS c') ifs ts) (h4:gF c' elt gs g):CO c elt scope (⟨bM,iter,ifs,0⟩::gs) (.comp is nt t x ts g)
theorem F4{c c':CE}(kk:Ok G tb c fx){elt bM iter:Expr}{ifs:List Expr}{gs:List Comprehension}{scope:Scope}{pos p2:Pos}{is:List Nat}{nt:Nat}{x:X}{t:TG}{ts:List T}{g:GS}
 (hco:c.comp scope=some (c',is,nt))(fZ:bR iter=true)(h1:XS c iter x)(h2:ez c' bM t)(h3:A2 (TS c') ifs ts)(h4:gF c' elt gs g){use:Option (Value->Sem Unit)}{Q Qf:AV->MM->AH->Prop}
 (hv:vX G tb n (.comp is nt t x ts g) Q E m H)(u6:use=none->Qf=Q)(hu1:∀u,use=some u->∀p v y m H,er v=y->Q y m H->AW G n (fx.keep p) (u v) VU (λZaa m' H'=>Qf .none m' H') E m H):
 AW G n fx (comprehension (.ListComp elt (⟨bM,iter,ifs,0⟩::gs) scope pos) scope fx.env p2 (newList []) false (eval iter fx.env) use) VA Qf E m H:=λb hh tk ok r=>by
 have k:=kk.ce
 have co:=PY hco
 have Ud:∀y,(y,NameKind.free)∈scope.names->(fx.env.cells.lookup y).isSome=true:=λy hy=>by
  induction r with|mk mC D own r=>exact r.cells.has y (by unfold Env.kindOf;rw [k.sc];exact co.free y (EO.mpr hy))
 cases PW Ud with|mk cl Ij nB uN=>
 unfold comprehension
 rw [Ij,show clausesOf (.ListComp elt (⟨bM,iter,ifs,0⟩::gs) scope pos)=⟨bM,iter,ifs,0⟩::gs from rfl]
 refine qb (h1 _ _ _ _ kk _ _ _ _ hv b hh tk ok r) (λZaa Zaa x=>x) λv CD eg m1 H1 y1 r1 l1 q1=>wpAny_bind (wpAny_standAt (wpAny_bind (wpAny_of_eq (tS fZ v) (wpAny_bind (wpAny_holding ?_)))))
 show wpAny G.M fx.A (pyIter v) _ _ (G.sh CD eg)
 refine z7 l1 q1 ok r1 λs I s8 kp v2 hz st cI r2=>wpAny_standIf (wpAny_bind (wpAny_newList (items:=[]) ?_ (Nat.zero_le _)))
 have r3:=r2.push (ob:={cls:=.type "list",data:=.seq ([]:List Value).toArray}) (o:=.list .mu []) (ok.rU _) rfl λD=>wj [] .mu
 cases v2 s8.objs.size r3.1 with|mk vs dD v3=>
 have r3:=r3.2
 show wpAny G.M fx.A _ _ _ (G.sh (s8.push {cls:=.type "list",data:=.seq ([]:List Value).toArray}) eg)
 generalize s8.objs.size=D at r3 v3
 generalize s8.push {cls:=.type "list",data:=.seq ([]:List Value).toArray}=yN at r3
 clear r2 q1 r1 hv r
 refine wpAny_bind (wpAny_pure (wpAny_bind (wpAny_newFunctionEnv (around:=some fx.env) (closure:=cl) (binds:=[]) co.Ho (λx hx=>absurd hx List.not_mem_nil) (λyO hn hs=>?_) co.kind)))
 have hC:∀p∈fx.kp,p.1≠yN.objs.size:=r3.iV.tY
 cases MZ k co nB uN cI ok r3 dD hn hs with|mk b' k' sV r4 cA ex=>
 clear r3 hn hs nB uN Ij
 dsimp only
 show wpAny G.M fx.A _ _ _ (G.sh yO eg)
 generalize yN.objs.size=C at*
 have Bw:∀x∈(scope.names.filter λx=>(x.2==.local||x.2==.cell)&&x.1 != (".0":Str)).reverse,x.2=.local->Env.kindOf (compEnvC scope cl C fx.env) x.1=some .local:=λx hx hl=>lookup_relabel_local (co.aa x (List.mem_filter.mp (List.mem_reverse.mp hx)).1 hl)
 have code:=Ex (prog:=G.prog) (w:=G.w) (A:=fx.A) (elt:=elt) (gens:=⟨bM,iter,ifs,0⟩::gs) (scope:=scope) (pos:=pos) (d:=0) (it:=.ref I) (acc:=.ref D) (env:=compEnvC scope cl C fx.env) rfl
  (NJ h4 0 bM iter ifs (fx.comp scope cl C) ⟨kk.tok,k'⟩ t ts D s I kp _ E _ _ b' yO eg rfl h2 h3 hz sV (λp hp=>absurd hp List.not_mem_nil) st r4 v3)
  λE0 Q0 hq=>F3 (fx:=fx.comp scope cl C) st hz r4 hq
 refine wpAny_holding (wpAny_bind (wpAny_attempt (wpAny_holding (wpAny_run (codeAny_mono code λrr s5 q5=>?_)))))
 have fin:∀{oC:Obj} {m':MM} {H':AH} {h' eH:Heap},RX G (fx.keep (C,oC)) b m' H' h'->Heap.SameBut C h' eH->RX G fx b m' H' eH:=λr5 hs5=>
  RX.x9 ok (λp hp q=>hC p hp (List.mem_singleton.mp q)) r5 hs5.extBut
 clear code v3 r4
 induction rr with
 |ok fl=>
  induction q5 with|mk h5 pH m5 H5 e r5 q5=>
  subst e
  induction q5 with|mk kq ys e5 q5=>
  obtain ⟨mC,yP⟩:∃mC,h5.Ns C mC:=by induction r5 with|mk mC _ _ r=>exact ⟨mC,r.F.ns⟩
  obtain ⟨oC,r6⟩:=cA r5
  have r7:RX G (fx.keep (C,oC)) b m1 (H5.ai D (.list kq ys)) h5:=r6.bL e5 rfl rfl (Heap.SameBut.refl ..) λD ⟨cv,⟨q1,q2⟩,q3⟩=>⟨cv,⟨q1,λZaa=>q2 rfl⟩,q3⟩
  induction use with
  |none=>exact wpAny_bind (wpAny_holding (wpAny_comp_letGo (cenv:=compEnvC scope cl C fx.env) co.kind _ (G.sh h5 pH) mC Bw yP λh' m' Zaa e7=>wpAny_pure (qn (y:=.ref D) (fin r7 e7) rfl (u6 rfl▸q5))))
  |some u=>
   refine wpAny_bind (wpAny_rule (wpAny_bind (wpAny_holding (qm (hu1 u rfl _ (.ref D) _ _ _ rfl q5 b h5 pH (ok.keep _) r7) (λZaa Zaa x=>x.lM) λZaa h6 KY m6 H6 Zaa r8 Zaa q6=>?_))))
   have hn6:h6.Ns C mC:=by
    obtain ⟨o,es,ep,e1,e2⟩:=yP
    exact ⟨o,es,ep,r8.AN.trans (r7.AN.symm.trans e1),e2⟩
   exact wpAny_bind (wpAny_comp_letGo (cenv:=compEnvC scope cl C fx.env) co.kind _ (G.sh h6 KY) mC (λx hx hl=>Bw x ((List.mem_append.mp hx).elim List.mem_of_mem_drop List.mem_of_mem_take) hl) hn6 λh' m' Zaa e7=>wpAny_pure (qn (y:=.none) (fin r8 e7) rfl q6))
 |error e=>
  induction q5 with|mk h5 pH H5 X ea e1 e2 x5 y5=>
  subst e1 e2
  obtain ⟨mC,yP,hx⟩:=ex x5
  induction use<;>
   exact wpAny_bind (wpAny_holding (wpAny_comp_letGo (cenv:=compEnvC scope cl C fx.env) co.kind _ (G.sh h5 pH) mC Bw yP λh' m' Zaa e7=>Ox ok ok.mT (hx e7) λh2 ja x2=>⟨h2,ja,H5,X,ea,rfl,rfl,x2,y5⟩))
theorem P0{c:CE}{elt:Expr}{gens:List Comprehension}{scope:Scope}{p:Pos}{x:X}(h:CO c elt scope gens x):XS c (.ListComp elt gens scope p) x:=by
 induction h with
 |mk hco fZ h1 h2 h3 h4=>exact λG tb n fx k Q E m H hv=>F4 k hco fZ h1 h2 h3 h4 (use:=none) hv (λZaa=>rfl) λu q=>nomatch q
theorem RP{c:CE}{elt:Expr}{gens:List Comprehension}{scope:Scope}{p:Pos}{x:X}(h:CO c elt scope gens x)(k:Ok G tb c fx){u:Value->Sem Unit}{Q:AV->MM->AH->Prop}{Q2:MM->AH->Prop}(hv:vX G tb n x Q E m H)
 (hu:∀p v y m H,er v=y->Q y m H->AW G n (fx.keep p) (u v) VU (λZaa m' H'=>Q2 m' H') E m H):AW G n fx (evalThenUse (.ListComp elt gens scope p) fx.env u) VU (λZaa m H=>Q2 m H) E m H:=by
 induction h with
 | @mk c' is nt bM iter ifs gs x t ts g hco fZ h1 h2 h3 h4=>
   show AW G n fx (comprehension (.ListComp elt (⟨bM,iter,ifs,0⟩::gs) scope p) scope fx.env (firstIterPos (⟨bM,iter,ifs,0⟩::gs) p) (newList []) false (eval iter fx.env) (some u) >>= λZaa=>pure ()) VU _ E m H
   exact cS (F4 (Qf:=λZaa m H=>Q2 m H) k hco fZ h1 h2 h3 h4 hv (λq=>nomatch q) λu' hu'=>by obtain rfl:=Option.some.inj hu';exact hu) λZaa Zaa m1 H1 Zaa q=>iT (y:=()) trivial q
end
inductive S where
 |az(t:TG)(x:X)
 |lq(is:List Nat)(x:X)
 |kO(t:TG)(x:X)
 |bA(x:X)
 |ret(x:X)
 |aC(t:T)(a b:List S)
 |brk
 |loop(t:TG)(x:X)(body:List S)
 |m9(t:TG)(x y:X)(body:List S)
 |sC(t:TG)(x:X)(body:List S)
 |raise(C:Nat)(x:X)
noncomputable def S.ctorIdx(x:S):Nat:=@S.casesOn (λZaa=>Nat) x (λZaa Zaa=>0) (λZaa Zaa=>1) (λZaa Zaa=>2) (λZaa=>3) (λZaa=>4) (λZaa Zaa Zaa=>5) 6 (λZaa Zaa Zaa=>7) (λZaa Zaa Zaa Zaa=>8) (λZaa Zaa Zaa=>9) (λZaa Zaa=>10)
noncomputable def AH.aV(H:AH)(a:Nat):AH:=λb=>if b=a then none else H b
inductive qA(s:eK)(az:AV->(MM->AH->Prop)->MM->AH->Prop)(body:(AF->MM->AH->Prop)->MM->AH->Prop)(Q:AF->MM->AH->Prop)(m:MM)(H:AH):Prop
 |mk (N:Nat) (J:Nat->MM->AH->Prop) (j0:J 0 m H) (turn:∀k m H,k<=N->J k m H->kJ H s k (λy H=>k<N/\az y (λm H=>body (xK (J (k+1)) Q) m H) m H) (Q .next m H))
structure BW(d:Nat)(kvs:List (Int×AV))(H:AH)(k:Nat)(K:AV->AH->Prop)(Ke:AH->Prop):Prop where
 h1:∀i v,kvs[k]?=some (i,v)->∀T,H T=none->T≠d->K (.ref T) (H.ai T (.aj [.int i,v]))
 h2:kvs[k]?=none->H d=none->Ke (H.ai d (.bz false kvs))
inductive Ik(d:Nat)(kvs:List (Int×AV))(az:AV->(MM->AH->Prop)->MM->AH->Prop)(body:(AF->MM->AH->Prop)->MM->AH->Prop)(Q:AF->MM->AH->Prop)(m:MM)(H:AH):Prop
 |mk (J:Nat->MM->AH->Prop) (j0:J 0 m (H.aV d)) (turn:∀k m H,k<=kvs.length->J k m H->BW d kvs H k (λy H=>az y (λm H=>body (xK (J (k+1)) Q) m H) m H) (λH=>Q .next m H))
inductive yd(k:Nat->Nat->Prop)(H:AH):List AV->Prop
 |mk {a b:Nat} {k1 k2:LK} {xs ys:List AV} (e1:H a=some (.list k1 xs)) (e2:H b=some (.list k2 ys)) (h:k a b):yd k H [.ref a,.ref b]
inductive ye(k:Nat->List (Int×AV)->Prop)(H:AH):AV->Prop
 |mk {c d:Nat} {kvs:List (Int×AV)} (e1:H c=some (.items d)) (e2:H d=some (.bz false kvs)) (h:k d kvs):ye k H (.ref c)
inductive yQ(p:Prop):List AV->Prop
 |mk {s:List Nat} (h:p):yQ p [.str s]
noncomputable def vn(k:MM->AH->Prop)(Q:AF->MM->AH->Prop)(fl:AF)(m:MM)(H:AH):Prop:=match fl with
 |.next=>k m H
 |fl=>Q fl m H
mutual
noncomputable def vS(G:Gx)(tb:cQ)(n:Nat):S->(AF->MM->AH->Prop)->(Addr->AH->Prop)->MM->AH->Prop
 |.az t x,Q,E,m,H=>vX G tb n x (λy m H=>jb G tb n t y (λm H=>Q .next m H) E m H) E m H
 |.kO t x,Q,E,m,H=>vX G tb n x (λy m H=>jb G tb n t y (λm H=>Q .next m H) E m H) E m H
 |.lq is x,Q,E,m,H=>vX G tb n x (λy m H=>BS H y is.length λys=>Q .next ((is.reverse.zip ys.reverse).foldl (λm p=>m.set p.1 (some p.2)) m) H) E m H
 |.bA x,Q,E,m,H=>vX G tb n x (λy m H=>Q .next m H) E m H
 |.ret x,Q,E,m,H=>vX G tb n x (λy m H=>Q (.ret y) m H) E m H
 |.aC t a b,Q,E,m,H=>vT G tb n t (λc m H=>if c=true then iL G tb n a Q E m H else iL G tb n b Q E m H) E m H
 |.brk,Q,E,m,H=>Q .brk m H
 |.loop t x body,Q,E,m,H=>vX G tb n x (λy m H=>nA (λs=>qA s (λy Q m H=>jb G tb n t y Q E m H) (λQ m H=>iL G tb n body Q E m H) Q m H) H y) E m H
 |.m9 t x y body,Q,E,m,H=>gU G tb n [x,y] (λus m H=>yd (λa b=>qA (.zip a b) (λy Q m H=>jb G tb n t y Q E m H) (λQ m H=>iL G tb n body Q E m H) Q m H) H us) E m H
 |.sC t x body,Q,E,m,H=>vX G tb n x (λy m H=>ye (λd kvs=>Ik d kvs (λy Q m H=>jb G tb n t y Q E m H) (λQ m H=>iL G tb n body Q E m H) Q m H) H y) E m H
 |.raise C x,Q,E,m,H=>gU G tb n [x] (λys m H=>yQ (4<=n/\E C H) ys) E m H
noncomputable def iL(G:Gx)(tb:cQ)(n:Nat):List S->(AF->MM->AH->Prop)->(Addr->AH->Prop)->MM->AH->Prop
 |[],Q,E,m,H=>Q .next m H
 |s::r,Q,E,m,H=>vS G tb n s (vn (iL G tb n r Q E) Q) E m H
end
noncomputable def AS(sc:Scope):Env:={scope:=sc,locals:=0,globals:=0,cells:=[]}
noncomputable def AU{α:Type}(t:Sem α):Option {r:α // t=pure r}:=match t with
 |.pure r=>some ⟨r,rfl⟩
 |_=>none
theorem EP{α:Type}{t:Sem α}{r:α}(h:(AU t).map (·.1)=some r):t=pure r:=by
 obtain ⟨p,_,rfl⟩:=Option.map_eq_some_iff.mp h
 exact p.2
noncomputable def rY(sc:Scope)(targets:List Expr)(value:Expr):Option (Option (List Str)):=(AU (swappedStores targets value (AS sc))).map (·.1)
theorem NL{env:Env}{targets:List Expr}{value:Expr}{r:Option (List Str)}(h:rY env.scope targets value=some r):swappedStores targets value env=pure r:=EP h
noncomputable def n9(sc:Scope)(targets:List Expr)(value:Expr)(line:Nat):Option Bool:=(AU (swapsWithSole targets value line (AS sc))).map (·.1)
theorem ER{env:Env}{t:Expr}{value:Expr}{line:Nat}{r:Bool}(h:n9 env.scope [t] value line=some r):swapsWithSole [t] value line env=pure r:=
 (show swapsWith value (some t) line env=swapsWith value (some t) line (AS env.scope) from rfl).trans (EP h)
inductive Vw:Expr->Type
 |con (k q p):Vw (.Constant k q p)
 |nm (x p):Vw (.Name x p)
 |aA (l op r p):Vw (.BinOp l op r p)
 |un (op l p):Vw (.UnaryOp op l p)
 |cmp (l op r p):Vw (.Compare l op r p)
 |aC (t l r p):Vw (.IfExp t l r p)
 |bl (op es p):Vw (.BoolOp op es p)
 |sub (o i p):Vw (.Subscript o i p)
 |sl (u q):Vw (.Slice none (some u) none q)
 |attr (o x p):Vw (.Attribute o x p)
 |af (es p):Vw (.List es p)
 |aj (es q p):Vw (.Tuple es q p)
 |dW (k es p):Vw (.Dict k es p)
 |call (f es p):Vw (.Call f es [] p)
 |comp (e g s p):Vw (.ListComp e g s p)
 |no (e):Vw e
noncomputable def Vw.ctorIdx{e:Expr}(x:Vw e):Nat:=Vw.casesOn (motive:=λZaa Zaa=>Nat) x (λZaa Zaa Zaa=>0) (λZaa Zaa=>1) (λZaa Zaa Zaa Zaa=>2) (λZaa Zaa Zaa=>3) (λZaa Zaa Zaa Zaa=>4) (λZaa Zaa Zaa Zaa=>5) (λZaa Zaa Zaa=>6) (λZaa Zaa Zaa=>7) (λZaa Zaa=>8) (λZaa Zaa Zaa=>9) (λZaa Zaa=>10) (λZaa Zaa Zaa=>11) (λZaa Zaa Zaa=>12) (λZaa Zaa Zaa=>13) (λZaa Zaa Zaa Zaa=>14) (λZaa=>15)
noncomputable def vw(e:Expr):Vw e:=match e with
 |.Constant k q p=>.con k q p
 |.Name x p=>.nm x p
 |.BinOp l op r p=>.aA l op r p
 |.UnaryOp op l p=>.un op l p
 |.Compare l op r p=>.cmp l op r p
 |.IfExp t l r p=>.aC t l r p
 |.BoolOp op es p=>.bl op es p
 |.Subscript o i p=>.sub o i p
 |.Slice none (some u) none q=>.sl u q
 |.Attribute o x p=>.attr o x p
 |.List es p=>.af es p
 |.Tuple es q p=>.aj es q p
 |.Dict k es p=>.dW k es p
 |.Call f es [] p=>.call f es p
 |.ListComp e g s p=>.comp e g s p
 |e=>.no e
noncomputable def Il{C:Expr->Type}(d:∀e,C e)(f:∀es q p,C (.Tuple es q p))(e:Expr):C e:=(vw e).casesOn (motive:=λe Zaa=>C e) (λZaa Zaa Zaa=>d _) (λZaa Zaa=>d _) (λZaa Zaa Zaa Zaa=>d _) (λZaa Zaa Zaa=>d _) (λZaa Zaa Zaa Zaa=>d _) (λZaa Zaa Zaa Zaa=>d _) (λZaa Zaa Zaa=>d _) (λZaa Zaa Zaa=>d _) (λZaa Zaa=>d _) (λZaa Zaa Zaa=>d _) (λZaa Zaa=>d _) (λes q p=>f es q p) (λZaa Zaa Zaa=>d _) (λZaa Zaa Zaa=>d _) (λZaa Zaa Zaa Zaa=>d _) (λZaa=>d _)
noncomputable def xq{C:Expr->Type}(d:∀e,C e)(f:∀g es p,C (.Call g es [] p))(e:Expr):C e:=(vw e).casesOn (motive:=λe Zaa=>C e) (λZaa Zaa Zaa=>d _) (λZaa Zaa=>d _) (λZaa Zaa Zaa Zaa=>d _) (λZaa Zaa Zaa=>d _) (λZaa Zaa Zaa Zaa=>d _) (λZaa Zaa Zaa Zaa=>d _) (λZaa Zaa Zaa=>d _) (λZaa Zaa Zaa=>d _) (λZaa Zaa=>d _) (λZaa Zaa Zaa=>d _) (λZaa Zaa=>d _) (λZaa Zaa Zaa=>d _) (λZaa Zaa Zaa=>d _) (λg es p=>f g es p) (λZaa Zaa Zaa Zaa=>d _) (λZaa=>d _)
noncomputable def I9{C:Expr->Type}(d:∀e,C e)(f:∀x p,C (.Name x p))(e:Expr):C e:=(vw e).casesOn (motive:=λe Zaa=>C e) (λZaa Zaa Zaa=>d _) (λx p=>f x p) (λZaa Zaa Zaa Zaa=>d _) (λZaa Zaa Zaa=>d _) (λZaa Zaa Zaa Zaa=>d _) (λZaa Zaa Zaa Zaa=>d _) (λZaa Zaa Zaa=>d _) (λZaa Zaa Zaa=>d _) (λZaa Zaa=>d _) (λZaa Zaa Zaa=>d _) (λZaa Zaa=>d _) (λZaa Zaa Zaa=>d _) (λZaa Zaa Zaa=>d _) (λZaa Zaa Zaa=>d _) (λZaa Zaa Zaa Zaa=>d _) (λZaa=>d _)
noncomputable def RQ{C:Expr->Type}(d:∀e,C e)(f:∀o x p,C (.Attribute o x p))(e:Expr):C e:=(vw e).casesOn (motive:=λe Zaa=>C e) (λZaa Zaa Zaa=>d _) (λZaa Zaa=>d _) (λZaa Zaa Zaa Zaa=>d _) (λZaa Zaa Zaa=>d _) (λZaa Zaa Zaa Zaa=>d _) (λZaa Zaa Zaa Zaa=>d _) (λZaa Zaa Zaa=>d _) (λZaa Zaa Zaa=>d _) (λZaa Zaa=>d _) (λo x p=>f o x p) (λZaa Zaa=>d _) (λZaa Zaa Zaa=>d _) (λZaa Zaa Zaa=>d _) (λZaa Zaa Zaa=>d _) (λZaa Zaa Zaa Zaa=>d _) (λZaa=>d _)
noncomputable def Xe{C:Expr->Type}(d:∀e,C e)(f:∀op l p,C (.UnaryOp op l p))(e:Expr):C e:=(vw e).casesOn (motive:=λe Zaa=>C e) (λZaa Zaa Zaa=>d _) (λZaa Zaa=>d _) (λZaa Zaa Zaa Zaa=>d _) (λop l p=>f op l p) (λZaa Zaa Zaa Zaa=>d _) (λZaa Zaa Zaa Zaa=>d _) (λZaa Zaa Zaa=>d _) (λZaa Zaa Zaa=>d _) (λZaa Zaa=>d _) (λZaa Zaa Zaa=>d _) (λZaa Zaa=>d _) (λZaa Zaa Zaa=>d _) (λZaa Zaa Zaa=>d _) (λZaa Zaa Zaa=>d _) (λZaa Zaa Zaa Zaa=>d _) (λZaa=>d _)
noncomputable def P4(e:Expr):Bool:=xq (C:=λZaa=>Bool) (λZaa=>false) (λf es Zaa=>es.isEmpty&&RQ (C:=λZaa=>Bool) (λZaa=>false) (λZaa nm Zaa=>decide (nm.cps.toList=wV)) f) e
section
variable{G:Gx}{tb:cQ}{n:Nat}{fx:Fx}{E:Addr->AH->Prop}{m:MM}{H:AH}
theorem Ey{s:eK}{k:Nat}{K K':AV->AH->Prop}{Ke La:Prop}(h:kJ H s k K Ke)(h1:∀y H',K y H'->K' y H')(h2:Ke->La):kJ H s k K' La:=by
 induction s with
 |list a=>induction h with|mk e k1 k2=>exact .mk e (λx q=>h1 _ _ (k1 x q)) λq=>h2 (k2 q)
 |aj a=>induction h with|mk e k1 k2=>exact .mk e (λx q=>h1 _ _ (k1 x q)) λq=>h2 (k2 q)
 |bU lo hi=>exact ⟨λq=>h1 _ _ (h.1 q),λq=>h2 (h.2 q)⟩
 |zip a b=>induction h with|mk e e2 k1 k2=>exact .mk e e2 (λx y q r T hT=>h1 _ _ (k1 x y q r T hT)) λq=>h2 (k2 q)
theorem El{s:eK}{I:Addr}{t:Expr}{ht:∀a b,s=.zip a b->∃es kk p,t=.Tuple es kk p}{k:Nat}{K:AV->AH->Prop}{Ke:AH->Prop}(h:kJ H s k K (Ke H)):(zZ G s I t ht).nx H k K Ke:=h
theorem Hp{t iter:Expr}{body:List Stmt}{pos:Pos}{Q:AF->MM->AH->Prop}{az:AV->(MM->AH->Prop)->MM->AH->Prop}{bd:(AF->MM->AH->Prop)->MM->AH->Prop}(fZ:bR iter=true)
 (hx:AW G n fx (eval iter fx.env) VA (λy m H=>nA (λs=>qA s az bd Q m H) H y) E m H)
 (ha:∀l v y K m H,er v=y->az y K m H->AW G n (fx.keeps l) (assign t fx.env v) VU (λZaa m H=>K m H) E m H)
 (hb:∀l K m H,bd K m H->AW G n (fx.keeps l) (execs body fx.env) RF K E m H):
 AW G n fx (exec (.For t iter body [] pos) fx.env) RF Q E m H:=λb h tk ok r=>by
 refine wpAny_For (qm (hx b h tk ok r) (λZaa Zaa x=>x) λv h1 eg m1 H1 y r1 l1 q=>z7 l1 q ok r1 λs I h2 kp q hz st cI r2=>?_) (tS fZ)
 induction q with|mk N J j0 turn=>
 refine zO (n:=n) (E:=E) (zZ G s I t λa b e=>absurd e (hz a b)) J N (λk m H hk j=>?_) ok cI st r2 j0
 exact El (Ey (turn k m H hk j) (λy H' q=>⟨q.1,λv l e=>mK (ha l v y _ _ _ e q.2) (λZaa m1 H1 q=>hb l _ _ _ q) λZaa Zaa x=>x⟩) id)
end
section
variable{G:Gx}{tb:cQ}{n:Nat}{fx:Fx}{E:Addr->AH->Prop}{m:MM}{H:AH}
theorem Ez{f:Value}{first:List Value}{es:List Expr}{pos p2:Pos}{s:Shared}{Q:Value->Shared->Prop}{Ev:Value->Shared->Prop}(pB:es.all bR=true)(hk:su G.K G.M f)
 (h:wpAny G.M fx.A (spliced (backTo pos (starEach es fx.env))) (λvs s'=>G.K.In s'.heap/\wpAny G.M fx.A (call f (first++vs) []) Q Ev s') Ev s):
 wpAny G.M fx.A (callWith p2 f first (backTo pos (starEach es fx.env)) []) Q Ev s:=by
 refine callWith_of (P:=λh=>G.K.In h) (by rw [zw pB];rfl) hk ?_
 induction es with
 |nil=>exact DZ (wpAny_mono h (λvs s' q=>q) λZaa Zaa x=>x)
 |cons e rest=>
  rw [qc (an pB).1] at h ⊢
  exact evalArgs_plain (wpAny_mono h (λvs s' q=>q) λZaa Zaa x=>x)
inductive Io(G:Gx)(fx:Fx)(b:Heap)(Q:Nat->Nat->MM->AH->Prop)(v:Value)(s:Shared):Prop
 |mk (h:Heap) (tk:Nat) (m:MM) (H:AH) (z:Nat) (kp:List (Addr×Obj)) (A B:Nat) (e:s=G.sh h tk) (ev:v=.ref z) (st:gR z 0 (.zip A B) kp) (cI:∀p∈fx.kp,p.1∉kp.map (·.1)) (r:RX G (fx.keeps kp) b m H h) (q:Q A B m H)
theorem Ue{va vb:Value}{A B:Nat}{k1 k2:LK}{xs ys:List AV}{b h:Heap}{tk:Nat}{Q:Nat->Nat->MM->AH->Prop}{Ev:Value->Shared->Prop}(ok:aX G fx n b)(r:RX G fx b m H h)(ea:er va=.ref A)(eb:er vb=.ref B)(e1:H A=some (.list k1 xs))(e2:H B=some (.list k2 ys))(q:Q A B m H):
 wpAny G.M fx.A (call (.type "zip") [va,vb] []) (Io G fx b Q) Ev (G.sh h tk):=by
 rw [kC ea,kC eb]
 obtain ⟨D,cv,bN,rfl⟩:=r.cont e1
 obtain ⟨D,cw,vg,rfl⟩:=r.cont e2
 have a1:A<h.objs.size:=let ⟨_,e,_⟩:=bN.1;Heap.lt_size e
 have a2:B<h.objs.size:=let ⟨_,e,_⟩:=vg.1;Heap.lt_size e
 refine call_zip_2 (s:=G.sh h tk) bN.1 vg.1 λh2 hz hTI hTO yK bJ hsz hk=>?_
 obtain ⟨o1,g1,g2⟩:=yK
 obtain ⟨o2,g4,g5⟩:=bJ
 have lV:∀p∈[(h.objs.size+4,BQ (h.objs.size+2) (h.objs.size+3)),(h.objs.size+2,oH (.ref h.objs.size) (.ref (h.objs.size+1))),(h.objs.size+3,oH .none .none),(h.objs.size,o1),(h.objs.size+1,o2)],h.objs.size<=p.1/\h2.get? p.1=some p.2:=
  List.forall_mem_cons.mpr ⟨⟨Nat.le_add_right _ _,hz⟩,List.forall_mem_cons.mpr ⟨⟨Nat.le_add_right _ _,hTI⟩,List.forall_mem_cons.mpr ⟨⟨Nat.le_add_right _ _,hTO⟩,List.forall_mem_cons.mpr ⟨⟨Nat.le_refl _,g1⟩,List.forall_mem_singleton.mpr ⟨Nat.le_add_right _ _,g4⟩⟩⟩⟩⟩
 exact ⟨h2,tk,m,H,h.objs.size+4,_,A,B,rfl,rfl,.zip (zipApart_new a1 a2) ⟨g2.1,g2.2⟩ ⟨g5.1,g5.2⟩,r.Ia λp hp=>(lV p hp).1,r.Ak ok hk lV,q⟩
theorem P5{c:CE}(k:Ok G tb c fx){es:List Expr}{kk:Nat}{pp x:_}{body:List Stmt}{p pos cp:Pos}{a b:Expr}{xs:List X}{Q:AF->MM->AH->Prop}{az:AV->(MM->AH->Prop)->MM->AH->Prop}{bd:(AF->MM->AH->Prop)->MM->AH->Prop}
 (hn:jh x=true)(p2:c.sc.names.lookup x=some .globalImplicit)(yR:[a,b].all bR=true)(p5:iw c.K x=some (.type "zip"))(S1:A2 (XS c) [a,b] xs)
 (hx:gU G tb n xs (λus m H=>yd (λa b=>qA (.zip a b) az bd Q m H) H us) E m H)
 (ha:∀l v y K m H,er v=y->az y K m H->AW G n (fx.keeps l) (assign (.Tuple es kk pp) fx.env v) VU (λZaa m H=>K m H) E m H)
 (hb:∀l K m H,bd K m H->AW G n (fx.keeps l) (execs body fx.env) RF K E m H):
 AW G n fx (exec (.For (.Tuple es kk pp) (.Call (.Name x p) [a,b] [] cp) body [] pos) fx.env) RF Q E m H:=λb0 h tk ok r=>by
 rw [k.ce.K] at p5
 refine wpAny_For (wpAny_mono (Q:=Io G fx b0 λA B m' H'=>qA (.zip A B) az bd Q m' H') ?_ (λv s1 q=>?_) λZaa Zaa x=>x) (tS rfl)
 ·rw [arm_eval_Call_Name']
  refine wpAny_bind (t9 (uz k.ce p2) (qW hn).1 p5 ok r (Ez yR E8 (qm (qk S1 k yR hx b0 h tk ok r) (λZaa Zaa x=>x) λvs h' bg m' H' ys r' l q=>⟨r'.cJ ok,?_⟩)))
  revert l
  induction q with|mk e1 e2 q=>
  intro l
  exact m2 (P:=λvs=>wpAny G.M fx.A (call (.type "zip") ([]++vs) []) _ _ _) l λv u f1 f2=>Ue ok r' f1 f2 e1 e2 q
 ·induction q with|mk h1 eg m1 H1 z kp A B e ev st cI r1 q=>
  subst e ev
  induction q with|mk N J j0 turn=>
  have fJ:=r1.ua
  have key:∀{Q' E'},Q' (.ref z) (G.sh h1 eg)->wpAny G.M fx.A (pyIter (.ref z)) Q' E' (G.sh h1 eg):=λhq=>by
   generalize hs:eK.zip A B=s at st
   induction st with
   |zip=>exact wpAny_pyIter_zip (s:=G.sh h1 eg) (fJ _ (.head _)) hq
   |_=>cases hs
  refine key (zO (n:=n) (E:=E) (zZ G (.zip A B) z _ λa b e=>⟨_,_,_,rfl⟩) J N (λk m H hk j=>?_) ok cI st r1 j0)
  exact El (Ey (turn k m H hk j) (λy H' q=>⟨q.1,λv l e=>mK (ha l v y _ _ _ e q.2) (λZaa m1 H1 q=>hb l _ _ _ q) λZaa Zaa x=>x⟩) id)
end
section
variable{G:Gx}{tb:cQ}{n:Nat}{fx:Fx}{E:Addr->AH->Prop}{m:MM}{H:AH}{a d:Addr}{kvs:List (Int×AV)}
theorem z9(h:H a=none):H.aV d a=none:=by unfold AH.aV;rw [h];exact ite_self none
theorem ue{P:Prop}{o:AO}(e:H.aV d a=some o)(h:a≠d->H a=some o->P):P:=by
 by_cases q:a=d
 ·exact nz (if_pos q) e
 ·exact h q ((if_neg q).symm.trans e)
noncomputable abbrev sH(d:Addr)(own:List Addr):List Addr:=own.filter (λa=>a != d)
theorem kP{own:List Addr}:a∈sH d own↔a∈own/\a≠d:=List.mem_filter.trans (and_congr_right λZaa=>bne_iff_ne)
theorem HR.aV{prog:Program}{w:World}{D:Addr->Addr}{h b0 b:Heap}{L:Addr}{own:List Addr}{o:AO}(x:HR prog w b0 b L H D own h)(ho:H d=some o):HR prog w b0 b L (H.aV d) D (sH d own) h where
 live a hm:=x.live a (kP.mp hm).1
 cont a oa e:=ue e λZaa=>x.cont a oa
 fE a oa e hm:=ue e λq e=>kP.mpr ⟨x.fE a oa e hm,q⟩
 src a oa e:=ue e λq e=>(x.src a oa e).imp_left λz=>kP.mpr ⟨z,q⟩
 fX:=z9 x.fX
 dW a oa e hi:=ue e λq e=>have y:=x.dW a oa e hi;⟨kP.mpr ⟨y.own,λq=>nz ((congrArg H q).symm.trans y.no) ho⟩,z9 y.no,λa' o' e' yv=>ue e' λZaa e'=>y.inj a' o' e' yv⟩
theorem RX.RS{b h:Heap}{o:Obj}(r:RX G fx b m H h)(ho:H d=some (.bz false kvs))(hg:h.get? d=some o):
 (∀p∈fx.kp,p.1≠d)/\RX G (fx.keeps [(d,o)]) b m (H.aV d) h:=by
 induction r with|mk mC D own r=>
 have hd:=r.hr.fE d _ ho rfl
 have l:=r.hr.live d hd
 have no:∀{a:Addr},a∉own->a∉sH d own:=λh q=>h (kP.mp q).1
 have r2:=r.re (H':=H.aV d) r.F (r.hr.aV ho) (λZaa Zaa Zaa Zaa e=>e) (λx c ob Zaa h1 h2 Zaa=>⟨no h1,z9 h2⟩) λp hp=>{r.aR p hp with no:=no (r.aR p hp).no}
 exact ⟨λp hp q=>(r.aR p hp).no (q▸hd),mC,D,sH d own,r2.F,r2.hr,r2.aa,r2.cells,List.forall_mem_cons.mpr ⟨⟨hg,l.nl,λq=>(kP.mp q).2 rfl,l.nb,λx q=>(r.cells.ok x d q).no hd⟩,r2.aR⟩⟩
noncomputable abbrev sJ(d k n ep:Nat)(x y:Value):Obj:={cls:=.type "dict_itemiterator",data:=.fields #[.none,.bool false,.ref d,.int k 0,.int n 0,.int ep 0,x,y]}
inductive xP(G:Gx)(d I:Addr)(ck:List (Int×Value))(k:Nat):List (Addr×Obj)->Prop
 |mk (od:Obj) (ep:Nat) (x y:Value) (s:d≠sysModules) (hd:∀h:Heap,h.get? d=some od->h.DictAt (intKind G.prog G.w) d ck ep):xP G d I ck k [(I,sJ d k ck.length ep x y),(d,od)]
theorem M0{I:Addr}{ck:List (Int×Value)}{k:Nat}{kp:List (Addr×Obj)}{K:AV->AH->Prop}{Ke:AH->Prop}{es:List Expr}{kk:Nat}{pp:Pos}{b h:Heap}{tk:Nat}(ok:aX G fx n b)(cI:∀p∈fx.kp,p.1∉kp.map (·.1))(st:xP G d I ck k kp)(r:RX G (fx.keeps kp) b m H h)
 (hv:BW d (ck.map λp=>(p.1,er p.2)) H k K Ke):wpAny G.M fx.A (pyNext (.ref I)) (yJ G fx b m (.Tuple es kk pp) I (xP G d I ck (k+1)) (kp.map (·.1)) K Ke) (λZaa Zaa=>False) (G.sh h tk):=by
 have fJ:=r.ua
 induction st with|mk od ep x y Ja hd=>
 have gI:h.get? I=some (sJ d k ck.length ep x y):=fJ _ (.head _)
 have gd:h.get? d=some od:=fJ _ (.tail _ (.head _))
 have pI:=hd h gd
 have hne:d≠I:=λq=>pI.elim λo ⟨es,e1,e2,e3,_⟩=>by
  cases ((congrArg h.get? q).trans gI).symm.trans e1;cases e3
 cases q:ck[k]? with
 |none=>
  refine wpAny_pyNext_items_end (s:=G.sh h tk) ok.eW gI pI q λh1 hs1=>?_
  have Lb:=hs1 d _ hne gd
  have r1:RX G (fx.keeps [(d,od)]) b m H h1:=r.rO ok cI (λc o hc e=>hs1 c o (List.ne_of_not_mem_cons hc) e) (List.forall_mem_singleton.mpr (.inl (.tail _ (.head _)))) (List.forall_mem_singleton.mpr Lb)
  have z:=RX.BN (a:=d) (o:=od) (h':=h1) (ao:=.bz false (ck.map λp=>(p.1,er p.2))) ok (λp hp z=>cI p hp (z▸.tail _ (.head _))) r1 (λc o Zaa e=>e) rfl Ja λD=>⟨ck,(hd h1 Lb).dictOf,rfl⟩
  exact ⟨_,h1,_,rfl,z.2,hv.h2 (by rw [List.getElem?_map,q];rfl) z.1⟩
 |some kv=>
  induction kv with|mk i v=>
  refine wpAny_pyNext_items_item (s:=G.sh h tk) gI pI q λkey h1 hk hit Xf hsz hs1=>wpAny_letOwnedTupleGo_items (s:=G.sh h1 tk) hit λh2 Xg fR=>?_
  have ht:∀{a o},h.get? a=some o->h.objs.size≠a:=λe q=>nz (lT h) (q▸e)
  have z:=RX.uJ (x:=key) (y:=v) (dX:=[(I,sJ d (k+1) ck.length ep key v),(d,od)]) ok cI r (λc o hc e=>(fR.2 c (List.ne_of_not_mem_cons hc)).trans (hs1 c o (List.ne_of_not_mem_cons hc) e)) rfl (List.forall_mem_cons.mpr ⟨Xg,List.forall_mem_singleton.mpr ((fR.2 d hne).trans (hs1 d _ hne gd))⟩)
   ((fR.2 _ (ht gI)).trans Xf)
  refine ⟨_,h2,tk,_,rfl,.mk od ep key v Ja hd,rfl,z.2,?_⟩
  obtain ⟨t,rfl⟩:=Value.isInt_shape hk
  exact hv.h1 i (er v) (by rw [List.getElem?_map,q];rfl) _ z.1 (ht gd)
noncomputable def ME(G:Gx)(d I:Addr)(ck:List (Int×Value))(es:List Expr)(kk:Nat)(pp:Pos):AP G I (.Tuple es kk pp) where
 St:=xP G d I ck
 nx:=BW d (ck.map λp=>(p.1,er p.2))
 step ok cI st r hv:=M0 ok cI st r hv
theorem P6{iter:Expr}{es:List Expr}{kk:Nat}{pp pos:Pos}{body:List Stmt}{Q:AF->MM->AH->Prop}{az:AV->(MM->AH->Prop)->MM->AH->Prop}{bd:(AF->MM->AH->Prop)->MM->AH->Prop}(fZ:bR iter=true)
 (hx:AW G n fx (eval iter fx.env) VA (λy m H=>ye (λd kvs=>Ik d kvs az bd Q m H) H y) E m H)
 (ha:∀l v y K m H,er v=y->az y K m H->AW G n (fx.keeps l) (assign (.Tuple es kk pp) fx.env v) VU (λZaa m H=>K m H) E m H)
 (hb:∀l K m H,bd K m H->AW G n (fx.keeps l) (execs body fx.env) RF K E m H):
 AW G n fx (exec (.For (.Tuple es kk pp) iter body [] pos) fx.env) RF Q E m H:=λb h tk ok r=>by
 refine wpAny_For (qm (hx b h tk ok r) (λZaa Zaa x=>x) λv h1 eg m1 H1 y r1 l1 q=>?_) (tS fZ)
 induction q with| @mk c d kvs hc hd q=>
 refine eR l1 ?_
 have hvw:=(r1.cont hc).elim λZaa x=>x
 have hs:d≠sysModules:=(beq_eq_false_iff_ne ..).mp (r1.j5 hd)
 have l:=r1.bz hd
 induction l with|mk _ ck hck=>
 obtain ⟨ep,fJ⟩:=hck.dictAt
 obtain ⟨od,og,Lc,g2⟩:=fJ
 have r2:=r1.RS hd Lc
 refine wpAny_pyIter_items (s:=G.sh h1 eg) hvw ⟨od,og,Lc,g2⟩ ?_
 induction q with|mk J j0 turn=>
 have gI:(h1.push (sJ d 0 ck.length ep .none .none)).get? h1.objs.size=some (sJ d 0 ck.length ep .none .none):=Heap.get?_push_size _ rfl
 refine zO (n:=n) (E:=E) (ME G d h1.objs.size ck es kk pp) J (ck.map λp=>(p.1,er p.2)).length (λk m H hk j=>?_) (kp:=[(h1.objs.size,sJ d 0 ck.length ep .none .none),(d,od)]) ok (λp hp q=>?_) (.mk od ep .none .none hs λh3 q=>⟨od,og,q,g2⟩) ?_ j0
 ·have t:=turn k m H hk j
  exact ⟨λi v q T hT hd=>⟨(List.getElem?_eq_some_iff.mp q).1,λv' l e=>mK (ha l v' _ _ _ _ e (t.h1 i v q T hT hd)) (λZaa m1 H1 q=>hb l _ _ _ q) λZaa Zaa x=>x⟩,t.h2⟩
 ·rcases List.mem_cons.mp q with q|q
  ·exact r1.tY p hp q
  ·exact r2.1 p hp (List.mem_singleton.mp q)
 ·exact r2.2.Ak (kp:=[_]) (ok.rU _) (λc o e=>Heap.get?_push_of_some _ e) (List.forall_mem_singleton.mpr ⟨Nat.le_refl _,gI⟩)
end
structure mO(G:Gx)(C:Nat):Prop where
 keep:keepIn G.K (.ref C)=true
 run:∀(fx:Fx) (n:Nat) (E:Addr->AH->Prop) (m:MM) (H:AH) (b h:Heap) (tk:Nat) (v:Value) (s:List Nat) (pos:Pos),er v=.str s->4<=n->aX G fx n b->RX G fx b m H h->E C H->
  wpAny G.M fx.A (call (.ref C) [v] []) (λxv s'=>wpAny G.M fx.A (raiseStmt fx.env (some (do standAt pos;pure xv)) none) (λZaa Zaa=>False) (fh G fx b E) s') (fh G fx b E) (G.sh h tk)
noncomputable abbrev Ld(c:CE)(x:Str)(i:Nat):Prop:=c.idx x=some i/\(c.sc.names.lookup x=some .local\/c.sc.names.lookup x=some .cell/\c.wr=true)
inductive NI(c:CE):List Str->List Nat->Prop
 |nil:NI c [] []
 |cons {x i xs is}:Ld c x i->NI c xs is->NI c (x::xs) (i::is)
theorem NI.append{c:CE}{a b i j}(h:NI c a i)(h2:NI c b j):NI c (a++b) (i++j):=by
 induction h with
 |nil=>exact h2
 |cons e1 _ ih=>exact .cons e1 ih
theorem NI.reverse{c:CE}{a i}(h:NI c a i):NI c a.reverse i.reverse:=by
 induction h with
 |nil=>exact .nil
 |cons e1 _ ih=>rw [List.reverse_cons,List.reverse_cons];exact ih.append (.cons e1 .nil)
theorem NI.length{c:CE}{a i}(h:NI c a i):a.length=i.length:=by
 induction h with
 |nil=>rfl
 |cons e1 _ ih=>exact congrArg (·+1) ih
section
variable{G:Gx}{tb:cQ}{n:Nat}{fx:Fx}{E:Addr->AH->Prop}{m:MM}{H:AH}
noncomputable def Hq(is:List Nat)(ys:List AV)(m:MM):MM:=(is.zip ys).foldl (λm p=>m.set p.1 (some p.2)) m
theorem NO{c:CE}(k:fV G c fx){Q:MM->AH->Prop}{ns:List Str}{is:List Nat}(h:NI c ns is):∀{vs:List Value} {m:MM},vs.length=is.length->Q (Hq is (vs.map er) m) H->AW G n fx (assignInOrder (ns.map λx=>bindName fx.env x) vs) VU (λZaa m H=>Q m H) E m H:=by
 induction h with
 |nil=>
  intro vs m hl hq
  induction vs with
  |nil=>exact iT (y:=()) trivial hq
  |cons _ _=>exact absurd hl nofun
 | @cons x i ns is e _ ih=>
   intro vs m hl hq
   induction vs with
   |nil=>exact absurd hl nofun
   |cons v vs=>
    show AW G n fx (holding vs (bindName fx.env x v) >>= λZaa=>assignInOrder (ns.map λx=>bindName fx.env x) vs) VU (λZaa m H=>Q m H) E m H
    refine qh (gu (λb h tk ok r=>wpAny_bindName (Ej (Q:=λZaa m H'=>∀v',VU v' ()->AW G n fx (assignInOrder (ns.map λx=>bindName fx.env x) vs) VU (λZaa m H=>Q m H) E m H') (k.idx e.1) (k.dO e.1) rfl ?_ (λZaa Zaa=>ih (Nat.succ.inj hl) hq) b h tk ok r)))
    unfold Env.kindOf
    rw [k.sc]
    exact e.2.imp_right λa=>⟨a.1,k.wr a.2⟩
theorem wW{t:Sem Unit}{Q:AF->MM->AH->Prop}(h:AW G n fx t VU (λZaa m H=>Q .next m H) E m H):AW G n fx (t >>= λZaa=>pure Flow.next) RF Q E m H:=
 cS h λZaa Zaa m1 H1 Zaa q=>iT (y:=AF.next) .next q
theorem F5{t:Expr}{env:Env}{v:Value}(h:bR t=true):assignStores env v none ((assignEach [t] env).map (·.2))=(assign t env v >>= λZaa=>pure Flow.next):=by
 rw [v9 h]
 rfl
theorem wM{s:Stmt}{r:List Stmt}{P:MM->AH->Prop}{Q:AF->MM->AH->Prop}(h:AW G n fx (exec s fx.env) RF (vn P Q) E m H)(h2:∀m H,P m H->AW G n fx (execs r fx.env) RF Q E m H):AW G n fx (execs (s::r) fx.env) RF Q E m H:=λb hh tk ok r=>
 wpAny_execs_cons (qm (h b hh tk ok r) (λZaa Zaa x=>x) λfl h' bg m' H' y r' l q=>by
  induction l with
  |next=>exact h2 _ _ q b h' bg ok r'
  |brk=>exact qn r' .brk q
  |cont=>exact qn r' .cont q
  |ret e=>exact qn r' (.ret e) q)
theorem Hr{g:Expr}{es:List Expr}{ks:List Keyword}{p q:Pos}{Q:AF->MM->AH->Prop}(h:AW G n fx (eval (.Call g es ks q) fx.env) VA (λZaa m H=>Q .next m H) E m H):AW G n fx (exec (.Expr (.Call g es ks q) p) fx.env) RF Q E m H:=λb hh tk ok r=>
 wpAny_Expr_any (qm (h b hh tk ok r) (λZaa Zaa x=>x) λv h' bg m' H' y r' l q=>qn r' .next q) (by unfold interactive;rw [ok.jN];rfl) rfl
theorem AX{t e:Expr}{p:Pos}{sc:Scope}{o:Option (List Str)}{Q:AF->MM->AH->Prop}{Q1:AV->MM->AH->Prop}(hc:fx.env.scope=sc)(hu:n9 sc [t] e p.line=some false)(hs:rY sc [t] e=some o)(h:AW G n fx (eval e fx.env) VA Q1 E m H)
 (hk:∀v y m1 H1,er v=y->Q1 y m1 H1->AW G n fx (assignStores fx.env v o ((assignEach [t] fx.env).map (·.2))) RF Q E m1 H1):AW G n fx (exec (.Assign [t] e p) fx.env) RF Q E m H:=by
 rw [<-hc] at hu hs
 rw [exec_Assign,ER hu,NL hs]
 exact gJ λb hh tk ok r=>wpAny_bind (wpAny_pure (cS h (λv y m1 H1 l q b h tk ok r=>wpAny_bind (wpAny_pure (hk v y m1 H1 l q b h tk ok r))) b hh tk ok r))
end
noncomputable def SS(c:CE)(ex:List Nat)(st:Stmt)(x:S):Prop:=∀G tb n fx,Ok G tb c fx->(∀C∈ex,mO G C)->∀Q E m H,vS G tb n x Q E m H->AW G n fx (exec st fx.env) RF Q E m H
section
variable{c:CE}{ex:List Nat}{e t:Expr}{a:X}{t1:TG}{p:Pos}
theorem mV{gG:List Stmt}{xs:List S}(h:A2 (SS c ex) gG xs):∀{G tb n fx},Ok G tb c fx->(∀C∈ex,mO G C)->∀{Q E m H},iL G tb n xs Q E m H->AW G n fx (execs gG fx.env) RF Q E m H:=by
 induction h with
 |nil=>intro G tb n fx k b7 Q E m H hv;exact λb h tk ok r=>wpAny_execs_nil (qn (y:=AF.next) r .next hv)
 |cons h1 _ ih=>
  intro G tb n fx k b7 Q E m H hv
  exact wM (h1 _ _ _ _ k b7 _ _ _ _ hv) λm H q=>ih k b7 q
theorem RT{g:Expr}{es:List Expr}{ks:List Keyword}{q:Pos}(h:XS c (.Call g es ks q) a):SS c ex (.Expr (.Call g es ks q) p) (.bA a):=λG tb n fx k b7 Q E m H hv=>Hr (h _ _ _ _ k _ _ _ _ hv)
theorem P7:SS c ex (.Return none p) (.ret (.c .none)):=λG tb n fx k b7 Q E m H hv b hh tk ok r=>wpAny_Return_none (qn (y:=AF.ret .none) r (.ret rfl) hv)
theorem RU(h:XS c e a):SS c ex (.Return (some e) p) (.ret a):=λG tb n fx k b7 Q E m H hv b hh tk ok r=>
 wpAny_Return_some (qm (h _ _ _ _ k _ _ _ _ hv b hh tk ok r) (λZaa Zaa x=>x) λv h' bg m' H' y r' l q=>qn r' (.ret l) q)
theorem RV:SS c ex (.Break p) .brk:=λG tb n fx k b7 Q E m H hv b hh tk ok r=>wpAny_bind (wpAny_standAt (wpAny_pure (qn r .brk hv)))
theorem RW{t':T}{xs ys:List Stmt}{a b:List S}(h1:TS c e t')(h2:A2 (SS c ex) xs a)(h3:A2 (SS c ex) ys b):SS c ex (.If e xs ys p) (.aC t' a b):=λG tb n fx k b7 Q E m H hv b0 h tk ok r=>
 wpAny_If (qm (h1 _ _ _ _ k _ _ _ _ hv b0 h tk ok r) (λZaa Zaa x=>x) λv h' bg m' H' y r' l q=>by
  induction l
  induction v with
  |true=>exact mV h2 k b7 q b0 h' bg ok r'
  |false=>exact mV h3 k b7 q b0 h' bg ok r')
theorem P8{elt:Expr}{gens:List Comprehension}{scope:Scope}{q:Pos}(hu:n9 c.sc [t] (.ListComp elt gens scope q) p.line=some true)(hp:bR t=true)(h1:CO c elt scope gens a)(h2:ez c t t1):SS c ex (.Assign [t] (.ListComp elt gens scope q) p) (.kO t1 a):=λG tb n fx k b7 Q E m H hv=>by
 rw [<-k.ce.sc] at hu
 rw [exec_Assign,ER hu]
 exact gJ λb h tk ok r=>wpAny_bind (wpAny_pure (wW (Q:=Q) (E:=E) (RP h1 k hv λp v y m H e q=>by rw [v9 hp];exact h2 _ _ _ _ (k.keep p) _ _ _ _ _ _ e q) b h tk ok r))
theorem RY{names:List Str}{is:List Nat}(hu:n9 c.sc [t] e p.line=some false)(hs:rY c.sc [t] e=some (some names))(ni:NI c names is)(h:XS c e a):SS c ex (.Assign [t] e p) (.lq is a):=λG tb n fx k b7 Q E m H hv=>
 AX k.ce.sc hu hs (h _ _ _ _ k _ _ _ _ hv) λv y m1 H1 l q b h tk ok r=>wpAny_bind (wpAny_rule (by
  induction q with|mk ys fR hl q=>
  have hlen:ys.length=names.length:=hl.trans ni.length.symm
  rw [<-hlen]
  refine cS (DR (Q:=λzs m H=>zs.length=is.length/\Q .next (Hq is.reverse zs.reverse m) H) l fR ⟨hl,q⟩) (λitems zs m2 H2 l2 q2=>?_) b h tk ok r
  subst l2
  exact wW (NO (Q:=λm H=>Q .next m H) k.ce ni.reverse (by rw [List.length_reverse,List.length_reverse,<-q2.1,List.length_map]) (by rw [List.map_reverse];exact q2.2))))
theorem RZ(hu:n9 c.sc [t] e p.line=some false)(hs:rY c.sc [t] e=some none)(hp:bR t=true)(h:XS c e a)(h2:ez c t t1):SS c ex (.Assign [t] e p) (.az t1 a):=λG tb n fx k b7 Q E m H hv=>
 AX k.ce.sc hu hs (h _ _ _ _ k _ _ _ _ hv) λv y m1 H1 l q=>by
  rw [F5 hp]
  exact wW (Q:=Q) (h2 _ _ _ _ k _ _ _ _ _ _ l q)
theorem P9{x:Str}{py cp pp:Pos}{l r:Expr}{es:List Expr}{q:Nat}{body:List Stmt}{b:X}{b1:List S}(hn:jh x=true)(hk:c.sc.names.lookup x=some .globalImplicit)(hp:[l,r].all bR=true)(hg:iw c.K x=some (.type "zip"))(h1:XS c l a)(h2:XS c r b)(ht:ez c (.Tuple es q pp) t1)(hb:A2 (SS c ex) body b1):
 SS c ex (.For (.Tuple es q pp) (.Call (.Name x py) [l,r] [] cp) body [] p) (.m9 t1 a b b1):=λG tb n fx k b7 Q E m H hv=>
 P5 k hn hk hp hg (.cons h1 (.cons h2 .nil)) hv (λl v y K m H e q=>ht _ _ _ _ (k.keeps l) _ _ _ _ _ _ e q) λl K m H q=>mV hb (k.keeps l) b7 q
theorem Qa{es:List Expr}{q:Nat}{pp:Pos}{body:List Stmt}{b1:List S}(fZ:bR e=true)(h:XS c e a)(ht:ez c (.Tuple es q pp) t1)(hb:A2 (SS c ex) body b1):SS c ex (.For (.Tuple es q pp) e body [] p) (.sC t1 a b1):=λG tb n fx k b7 Q E m H hv=>
 P6 fZ (h _ _ _ _ k _ _ _ _ hv) (λl v y K m H e q=>ht _ _ _ _ (k.keeps l) _ _ _ _ _ _ e q) λl K m H q=>mV hb (k.keeps l) b7 q
theorem R0{body:List Stmt}{b1:List S}(fZ:bR e=true)(h:XS c e a)(ht:ez c t t1)(hb:A2 (SS c ex) body b1):SS c ex (.For t e body [] p) (.loop t1 a b1):=λG tb n fx k b7 Q E m H hv=>
 Hp fZ (h _ _ _ _ k _ _ _ _ hv) (λl v y K m H e q=>ht _ _ _ _ (k.keeps l) _ _ _ _ _ _ e q) λl K m H q=>mV hb (k.keeps l) b7 q
theorem Oz{y:Str}{py cp:Pos}{env:Env}:exec (.Raise (some (.Call (.Name y py) [e] [] cp)) none p) env=(standAt p >>= λZaa=>eval (.Call (.Name y py) [e] [] cp) env >>= λv=>raiseStmt env (some (do standAt p;pure v)) none):=by
 show (standAt p >>= λZaa=>raiseStmt env (some (eval (.Call (.Name y py) [e] [] cp) env >>= λv=>do standAt p;pure v)) none)=_
 unfold raiseStmt
 dsimp only
 rw [bind_assoc]
theorem OA{y:Str}{py cp:Pos}{C:Nat}(hn:jh y=true)(hk:c.sc.names.lookup y=some .globalImplicit)(hp:[e].all bR=true)(hg:iw c.K y=some (.ref C))(hC:C∈ex)(h:XS c e a):SS c ex (.Raise (some (.Call (.Name y py) [e] [] cp)) none p) (.raise C a):=λG tb n fx k b7 Q E m H hv b hh tk ok r=>by
 rw [k.ce.K] at hg
 have ro:=b7 C hC
 rw [Oz]
 refine wpAny_bind (wpAny_standAt (wpAny_bind ?_))
 rw [arm_eval_Call_Name']
 refine wpAny_bind (t9 (uz k.ce hk) (qW hn).1 hg ok r ?_)
 have hv:gU G tb n [a] (λys m H=>yQ (4<=n/\E C H) ys) E m H:=hv
 refine Ez hp (zV ro.keep) (qm (qk (.cons h .nil) k hp hv b hh tk ok r) (λZaa Zaa x=>x) λvs h' bg m' H' ys r' l q=>⟨r'.cJ ok,?_⟩)
 revert l
 induction q with|mk q=>
 intro l
 exact m1 (P:=λvs=>wpAny G.M fx.A (call (.ref C) ([]++vs) []) _ _ _) l λv e1=>wpAny_mono (ro.run fx n E m' H' b h' bg v _ p e1 q.1 ok r' q.2) (λxv s' q=>wpAny_mono q (λZaa Zaa x=>x.elim) λZaa Zaa x=>x) λZaa Zaa x=>x
end
noncomputable def so{α β:Type}(o:Option α)(k:(a:α)->o=some a->Option β):Option β:=match o,k with
 |some a,k=>k a rfl
 |none,_=>none
noncomputable def gd{β:Type}(b:Bool)(k:b=true->Option β):Option β:=match b,k with
 |true,k=>k rfl
 |false,_=>none
section
variable{α β γ δ:Type}{R:α->Prop}{R1:β->Prop}{R2:γ->Prop}{R3:δ->Prop}
noncomputable def z1(f:α->β)(h:∀{a},R a->R1 (f a))(o:Option {a // R a}):Option {b // R1 b}:=o.map λa=>⟨f a.1,h a.2⟩
noncomputable def z2(f:α->β->γ)(h:∀{a b},R a->R1 b->R2 (f a b))(o:Option {a // R a})(p:Option {b // R1 b}):Option {c // R2 c}:=o.bind λa=>p.map λb=>⟨f a.1 b.1,h a.2 b.2⟩
noncomputable def z3(f:α->β->γ->δ)(h:∀{a b c},R a->R1 b->R2 c->R3 (f a b c))(o:Option {a // R a})(p:Option {b // R1 b})(q:Option {c // R2 c}):Option {d // R3 d}:=o.bind λa=>z2 (f a.1) (h a.2) p q
noncomputable def zA{α β:Type}{P:α->β->Prop}(f:(a:α)->Option {b // P a b}):(l:List α)->Option {bs // A2 P l bs}
 |[]=>some ⟨[],.nil⟩
 |a::l=>z2 List.cons .cons (f a) (zA f l)
end
structure Rd where
 X:(c:CE)->(e:Expr)->Option {x:X // XS c e x}
 T:(c:CE)->(e:Expr)->Option {t:T // TS c e t}
 G:(c:CE)->(e:Expr)->Option {t:TG // ez c e t}
 S:(c:CE)->(ex:List Nat)->(st:Stmt)->Option {s:S // SS c ex st s}
noncomputable def rNm(c:CE)(x:Str)(p:Pos):Option {y:X // XS c (.Name x p) y}:=
 gd (jh x) λhn=>if hk:c.sc.names.lookup x=some .globalImplicit then so (iw c.K x) λv hv=>some ⟨_,PK hn hk hv⟩ else so (c.idx x) λi hi=>some ⟨_,PJ hn hi⟩
noncomputable def Jb(c:CE)(x:Str):Option {i:Nat // Ld c x i}:=so (c.idx x) λi hi=>if hk:c.sc.names.lookup x=some .local\/c.sc.names.lookup x=some .cell/\c.wr=true then some ⟨i,hi,hk⟩ else none
noncomputable def Le(c:CE):(ns:List Str)->Option {is // NI c ns is}
 |[]=>some ⟨[],.nil⟩
 |x::l=>z2 List.cons .cons (Jb c x) (Le c l)
noncomputable def Ug{c:CE}{ks:List (Option Expr)}{es:List Expr}{p:Pos}(hl:ks.length=es.length/\ks.length<=15/\ks≠[])(y:{y:List AV // KC ks y})(xs:{xs:List X // A2 (XS c) es xs}):Option {x:X // XS c (.Dict ks es p) x}:=match Hg y.1 with
 |some s=>if hn:s.1.Nodup then some ⟨_,T7 hl.1 hl.2.1 hl.2.2 (s.2▸y.2) hn xs.2⟩ else none
 |none=>(Hh y.1).bind λs=>if hn:s.1.Nodup then some ⟨_,T8 hl.1 hl.2.1 hl.2.2 (s.2▸y.2) hn xs.2⟩ else none
section
variable(F:Rd)(c:CE)
noncomputable def Jc{α:Type}{R:Expr->α->Prop}(f:CmpOp->X->X->α)(h:∀{l r op p a b},behindInMarks op r=false->XS c l a->XS c r b->R (.Compare l [op] [r] p) (f op a b))(l:Expr)(ops:List CmpOp)(rs:List Expr)(p:Pos):Option {x // R (.Compare l ops rs p) x}:=match ops,rs with
 |[op],[r]=>if hm:behindInMarks op r=false then z2 (f op) (h hm) (F.X c l) (F.X c r) else none
 |_,_=>none
noncomputable def iy(o i:Expr)(p:Pos):Option {x:X // XS c (.Subscript o i p) x}:=gd (bR i) λhp=>z2 X.item (PL hp) (F.X c o) (F.X c i)
noncomputable def Xh(o i:Expr)(p:Pos):Option {x:X // XS c (.Subscript o i p) x}:=
 (vw i).casesOn (motive:=λi Zaa=>Option {x:X // XS c (.Subscript o i p) x}) (λZaa Zaa Zaa=>iy F c o _ p) (λZaa Zaa=>iy F c o _ p) (λZaa Zaa Zaa Zaa=>iy F c o _ p) (λZaa Zaa Zaa=>iy F c o _ p) (λZaa Zaa Zaa Zaa=>iy F c o _ p) (λZaa Zaa Zaa Zaa=>iy F c o _ p) (λZaa Zaa Zaa=>iy F c o _ p) (λZaa Zaa Zaa=>iy F c o _ p) (λu q=>if Xe (C:=λZaa=>Bool) (λZaa=>false) (λZaa Zaa Zaa=>true) u=true then z2 X.qV Rw (F.X c o) (F.X c u) else z2 X.sl T5 (F.X c o) (F.X c u)) (λZaa Zaa Zaa=>iy F c o _ p) (λZaa Zaa=>iy F c o _ p) (λZaa Zaa Zaa=>iy F c o _ p) (λZaa Zaa Zaa=>iy F c o _ p) (λZaa Zaa Zaa=>iy F c o _ p) (λZaa Zaa Zaa Zaa=>iy F c o _ p) (λZaa=>iy F c o _ p)
noncomputable def Uh(f:Expr)(es:List Expr)(p:Pos):Option {x:X // XS c (.Call f es [] p) x}:=gd (es.all bR) λh2=>
 (vw f).casesOn (motive:=λf Zaa=>Option {x:X // XS c (.Call f es [] p) x}) (λZaa Zaa Zaa=>none) (λx py=>gd (jh x) λhn=>if hk:c.sc.names.lookup x=some .globalImplicit then so (iw c.K x) λv hv=>so (uM c.K v) λf hf=>z1 (X.call f) (PO hn h2 hk hv hf) (zA (F.X c) es) else none) (λZaa Zaa Zaa Zaa=>none) (λZaa Zaa Zaa=>none) (λZaa Zaa Zaa Zaa=>none) (λZaa Zaa Zaa Zaa=>none) (λZaa Zaa Zaa=>none) (λZaa Zaa Zaa=>none) (λZaa Zaa=>none) (λo nm apos=>gd (qd o) λh1=>gd (apos.endLine==p.line) λh4=>if h3:es.length<30 then z2 (λa=>X.aQ a nm.cps.toList) (PR h1 h2 h3 h4) (F.X c o) (zA (F.X c) es) else none) (λZaa Zaa=>none) (λZaa Zaa Zaa=>none) (λZaa Zaa Zaa=>none) (λZaa Zaa Zaa=>none) (λZaa Zaa Zaa Zaa=>none) (λZaa=>none)
inductive Gn(c c':CE):Comprehension->X×TG×List T->Prop
 |mk {bM iter ifs x t is} (hp:bR iter=true) (h1:XS c iter x) (h2:ez c' bM t) (h3:A2 (TS c') ifs is):Gn c c' ⟨bM,iter,ifs,0⟩ (x,t,is)
theorem Gn.more{c:CE}{elt:Expr}{g:Comprehension}{p:X×TG×List T}{gs:List Comprehension}{y:GS}(h:Gn c c g p)(h2:gF c elt gs y):gF c elt (g::gs) (.more p.2.1 p.1 p.2.2 y):=by induction h with|mk hp h3 h4 h5=>exact .more hp h3 h4 h5 h2
theorem Gn.co{c:CE}{elt:Expr}{scope:Scope}{d:CE×List Nat×Nat}{g:Comprehension}{p:X×TG×List T}{gs:List Comprehension}{y:GS}(hco:c.comp scope=some d)(h:Gn c d.1 g p)(h2:gF d.1 elt gs y):CO c elt scope (g::gs) (.comp d.2.1 d.2.2 p.2.1 p.1 p.2.2 y):=by induction h with|mk hp h3 h4 h5=>exact .mk hco hp h3 h4 h5 h2
noncomputable def Jd(c':CE)(g:Comprehension):Option {p // Gn c c' g p}:=match g with
 |⟨bM,iter,ifs,0⟩=>gd (bR iter) λhp=>z3 (λx t is=>(x,t,is)) (.mk hp) (F.X c iter) (F.G c' bM) (zA (F.T c') ifs)
 |_=>none
noncomputable def Lg(elt:Expr):(gs:List Comprehension)->Option {g:GS // gF c elt gs g}
 |[]=>z1 GS.elt .elt (F.X c elt)
 |g::gs=>z2 (λp g=>GS.more p.2.1 p.1 p.2.2 g) Gn.more (Jd F c c g) (Lg elt gs)
noncomputable def rC(elt:Expr)(gens:List Comprehension)(scope:Scope):Option {x:X // CO c elt scope gens x}:=match gens with
 |[]=>none
 |g::gs=>so (c.comp scope) λd hco=>z2 (λp g=>X.comp d.2.1 d.2.2 p.2.1 p.1 p.2.2 g) (Gn.co hco) (Jd F c d.1 g) (Lg F d.1 elt gs)
noncomputable def Xi(k:List (Option Expr))(es:List Expr)(p:Pos):Option {x:X // XS c (.Dict k es p) x}:=match k,es with
 |[],[]=>some ⟨_,T6⟩
 |k,es=>if h:k.length=es.length/\k.length<=15/\k≠[] then (Ig k).bind λy=>(zA (F.X c) es).bind λxs=>Ug h y xs else none
noncomputable def rX(e:Expr):Option {x:X // XS c e x}:=
 (vw e).casesOn (motive:=λe Zaa=>Option {x:X // XS c e x}) (λk q p=>so (vC k) λy h=>some ⟨_,Ou h⟩) (λx p=>rNm c x p) (λl op r p=>z2 (X.aA op) Rr (F.X c l) (F.X c r)) (λop l p=>if h:op=.USub then z1 X.neg (λq=>h▸Rt q) (F.X c l) else none) (λl ops rs p=>Jc F c X.cmp Ru l ops rs p) (λt l r p=>z3 X.aC Rv (F.T c t) (F.X c l) (F.X c r)) (λop es p=>match op,es with|.Or,[l,r]=>z2 X.qU T4 (F.X c l) (F.X c r)|_,_=>none) (λo i p=>Xh F c o i p) (λZaa Zaa=>none) (λo nm p=>gd (qd o) λhp=>z1 (λa=>X.attr a nm.cps.toList) (PN hp) (F.X c o)) (λes p=>gd (es.all bR) λhp=>z1 X.af (Rx hp) (zA (F.X c) es)) (λes q p=>gd (es.all bR) λhp=>z1 X.aj (Ry hp) (zA (F.X c) es)) (λk es p=>Xi F c k es p) (λf es p=>Uh F c f es p) (λe g s p=>z1 id P0 (rC F c e g s)) (λZaa=>none)
noncomputable def rB(op:BoolOp):(es:List Expr)->Option {t:T // pG c op es t}
 |[]=>none
 |[l]=>z1 id Hj (F.T c l)
 |l::r=>match op,rB op r with
  |.And,u=>z2 T.an RD (F.T c l) u
  |.Or,u=>z2 T.j7 Ii (F.T c l) u
noncomputable def rT(e:Expr):Option {t:T // TS c e t}:=
 (vw e).casesOn (motive:=λe Zaa=>Option {t:T // TS c e t}) (λZaa Zaa Zaa=>none) (λx p=>z1 T.val (rW λZaa Zaa=>rfl) (F.X c _)) (λl op r p=>z1 T.val (rW λZaa Zaa=>rfl) (F.X c _)) (λop l p=>if h:op=.Not then z1 T.nt (λq=>h▸RC q) (F.T c l) else none) (λl ops rs p=>Jc F c T.cmp Rz l ops rs p) (λZaa Zaa Zaa Zaa=>none) (λop es p=>z1 id Ov (rB F c op es)) (λo x p=>z1 T.val (rW λZaa Zaa=>rfl) (F.X c _)) (λZaa Zaa=>none) (λo x p=>z1 T.val (rW λZaa Zaa=>rfl) (F.X c _)) (λZaa Zaa=>none) (λZaa Zaa Zaa=>none) (λZaa Zaa Zaa=>none) (λf es p=>z1 T.val (rW λZaa Zaa=>rfl) (F.X c _)) (λe g s p=>z1 T.val (rW λZaa Zaa=>rfl) (F.X c _)) (λZaa=>none)
noncomputable def rG(e:Expr):Option {t:TG // ez c e t}:=
 (vw e).casesOn (motive:=λe Zaa=>Option {t:TG // ez c e t}) (λZaa Zaa Zaa=>none) (λx p=>z1 TG.nm (λh=>Ua h.2 h.1) (Jb c x)) (λZaa Zaa Zaa Zaa=>none) (λZaa Zaa Zaa=>none) (λZaa Zaa Zaa Zaa=>none) (λZaa Zaa Zaa Zaa=>none) (λZaa Zaa Zaa=>none) (λo i p=>gd (bR i) λhp=>z2 TG.sub (RH hp) (F.X c o) (F.X c i)) (λZaa Zaa=>none) (λo nm p=>z1 (λa=>TG.attr a nm.cps.toList) PT (F.X c o)) (λZaa Zaa=>none) (λes q p=>gd (es.all bR) λhp=>z1 TG.aj (RM hp) (zA (F.G c) es)) (λZaa Zaa Zaa=>none) (λZaa Zaa Zaa=>none) (λZaa Zaa Zaa Zaa=>none) (λZaa=>none)
variable(ex:List Nat)
noncomputable def yf(t e:Expr)(body:List Stmt)(p:Pos)(t1:{t1:TG // ez c t t1})(b1:{b1:List S // A2 (SS c ex) body b1}):Option {s:S // SS c ex (.For t e body [] p) s}:=
 gd (bR e) λhp=>(F.X c e).bind λa=>if P4 e then Il (C:=λt=>{t1:TG // ez c t t1}->Option {s:S // SS c ex (.For t e body [] p) s}) (λZaa Zaa=>none) (λZaa Zaa Zaa t1=>some ⟨_,Qa hp a.2 t1.2 b1.2⟩) t t1 else some ⟨_,R0 hp a.2 t1.2 b1.2⟩
noncomputable def Ui(t e:Expr)(body:List Stmt)(p:Pos)(t1:{t1:TG // ez c t t1})(b1:{b1:List S // A2 (SS c ex) body b1}):Option {s:S // SS c ex (.For t e body [] p) s}:=
 xq (C:=λe=>Option {s:S // SS c ex (.For t e body [] p) s}) (λe=>yf F c ex t e body p t1 b1) (λf es cp=>I9 (C:=λf=>Option {s:S // SS c ex (.For t (.Call f es [] cp) body [] p) s}) (λf=>yf F c ex t _ body p t1 b1) (λx py=>match es with
  |[l,r]=>if h:jh x=true/\c.sc.names.lookup x=some .globalImplicit/\[l,r].all bR=true/\iw c.K x=some (.type "zip") then
   Il (C:=λt=>{t1:TG // ez c t t1}->Option {s:S // SS c ex (.For t (.Call (.Name x py) [l,r] [] cp) body [] p) s}) (λZaa Zaa=>none) (λZaa Zaa Zaa t1=>z2 (S.m9 t1.1 · · b1.1) (λh1 h2=>P9 h.1 h.2.1 h.2.2.1 h.2.2.2 h1 h2 t1.2 b1.2) (F.X c l) (F.X c r)) t t1
   else yf F c ex t _ body p t1 b1
  |es=>yf F c ex t _ body p t1 b1) f) e
noncomputable def Uj(v:Value):Option {C:Nat // v=.ref C}:=match v with
 |.ref C=>some ⟨C,rfl⟩
 |_=>none
noncomputable def R4(w:Expr)(p:Pos):Option {s:S // SS c ex (.Raise (some w) none p) s}:=
 xq (C:=λw=>Option {s:S // SS c ex (.Raise (some w) none p) s}) (λZaa=>none) (λf es cp=>I9 (C:=λf=>Option {s:S // SS c ex (.Raise (some (.Call f es [] cp)) none p) s}) (λZaa=>none) (λx py=>match es with
  |[e]=>gd (jh x) λhn=>gd ([e].all bR) λhp=>if hk:c.sc.names.lookup x=some .globalImplicit then so (iw c.K x) λv hv=>(Uj v).bind λC=>if hC:C.1∈ex then z1 (S.raise C.1) (OA hn hk hp (C.2▸hv) hC) (F.X c e) else none else none
  |_=>none) f) w
noncomputable def Xj(t e:Expr)(p:Pos):Option {s:S // SS c ex (.Assign [t] e p) s}:=so (n9 c.sc [t] e p.line) λb hu=>match b,hu with
 |true,hu=>(vw e).casesOn (motive:=λe Zaa=>n9 c.sc [t] e p.line=some true->Option {s:S // SS c ex (.Assign [t] e p) s}) (λZaa Zaa Zaa Zaa=>none) (λZaa Zaa Zaa=>none) (λZaa Zaa Zaa Zaa Zaa=>none) (λZaa Zaa Zaa Zaa=>none) (λZaa Zaa Zaa Zaa Zaa=>none) (λZaa Zaa Zaa Zaa Zaa=>none) (λZaa Zaa Zaa Zaa=>none) (λZaa Zaa Zaa Zaa=>none) (λZaa Zaa Zaa=>none) (λZaa Zaa Zaa Zaa=>none) (λZaa Zaa Zaa=>none) (λZaa Zaa Zaa Zaa=>none) (λZaa Zaa Zaa Zaa=>none) (λZaa Zaa Zaa Zaa=>none) (λelt gens scope q hu=>gd (bR t) λhp=>z2 (λx t=>S.kO t x) (P8 hu hp) (rC F c elt gens scope) (F.G c t)) (λZaa Zaa=>none) hu
 |false,hu=>so (rY c.sc [t] e) λo hs=>match o,hs with
  |some names,hs=>z2 S.lq (RY hu hs) (Le c names) (F.X c e)
  |none,hs=>gd (bR t) λhp=>z2 (λx t=>S.az t x) (RZ hu hs hp) (F.X c e) (F.G c t)
noncomputable def rS(st:Stmt):Option {s:S // SS c ex st s}:=match st with
 |.Expr e p=>xq (C:=λe=>Option {s:S // SS c ex (.Expr e p) s}) (λZaa=>none) (λf es q=>z1 S.bA RT (F.X c _)) e
 |.Return o p=>(match o with
  |none=>some ⟨_,P7⟩
  |some e=>z1 S.ret RU (F.X c e))
 |.Break p=>some ⟨_,RV⟩
 |.If e xs ys p=>z3 S.aC RW (F.T c e) (zA (F.S c ex) xs) (zA (F.S c ex) ys)
 |.Assign [t] e p=>Xj F c ex t e p
 |.For t iter body [] p=>(F.G c t).bind λt1=>(zA (F.S c ex) body).bind λb1=>Ui F c ex t iter body p t1 b1
 |.Raise (some w) none p=>R4 F c ex w p
 |_=>none
end
noncomputable def nL:Nat->Rd
 |0=>⟨λZaa Zaa=>none,λZaa Zaa=>none,λZaa Zaa=>none,λZaa Zaa Zaa=>none⟩
 |n+1=>⟨rX (nL n),rT (nL n),rG (nL n),rS (nL n)⟩
noncomputable abbrev cX(n:Nat)(c:CE)(e:Expr):=(nL n).X c e
noncomputable abbrev cT(n:Nat)(c:CE)(e:Expr):=(nL n).T c e
noncomputable abbrev cTG(n:Nat)(c:CE)(e:Expr):=(nL n).G c e
noncomputable def cXs(n:Nat)(c:CE)(es:List Expr):Option {xs:List X // A2 (XS c) es xs}:=zA ((nL n).X c) es
noncomputable def qX(n:Nat)(c:CE)(ex:List Nat)(gG:List Stmt):Option {xs:List S // A2 (SS c ex) gG xs}:=zA ((nL n).S c ex) gG
theorem OC{α β:Type}{f g:α->Option β}{l:List α}:(∀n∈l,f n=g n)->l.filterMap f=l.filterMap g:=by
 induction l with
 |nil=>exact λZaa=>rfl
 |cons a l ih=>exact λh=>by rw [List.filterMap_cons,List.filterMap_cons,h a (.head _),ih λn hm=>h n (.tail _ hm)]
theorem Qc{ps:List Str}:∀{vs:List Value},vs.length=ps.length->ps.Nodup->(∀n∈ps,((ps.zip vs).lookup n).isNone=false)/\(ps.filterMap λn=>((ps.zip vs).lookup n).map (n,·))=ps.zip vs:=by
 induction ps with
 |nil=>exact λZaa Zaa=>⟨nofun,rfl⟩
 |cons p ps ih=>
  intro vs hl hn
  induction vs with
  |nil=>exact absurd hl nofun
  |cons v vs=>
   have hn:=List.nodup_cons.mp hn
   have i:=ih (Nat.succ.inj hl) hn.2
   have l1:((p,v)::ps.zip vs).lookup p=some v:=by rw [List.lookup_cons,BEq.rfl]
   have l2:∀n∈ps,((p,v)::ps.zip vs).lookup n=(ps.zip vs).lookup n:=λn hm=>by rw [List.lookup_cons,beq_eq_false_iff_ne.mpr λq:n=p=>hn.1 (q▸hm)]
   rw [List.zip_cons_cons]
   refine ⟨List.forall_mem_cons.mpr ⟨by rw [l1];rfl,λn hm=>by rw [l2 n hm];exact i.1 n hm⟩,?_⟩
   rw [List.filterMap_cons,l1]
   exact congrArg (List.cons _) ((OC λn hm=>by rw [l2 n hm]).trans i.2)
theorem Lh{α:Type}{c:Bool}{t e x:α}(h:c=false)(k:e=x):ite (c=true) t e=x:=(if_neg (h▸Bool.false_ne_true)).trans k
theorem vo{α:Type}{P:List α->Prop}{l:List α}(h:l.isEmpty=true)(k:P []):P l:=by induction l with
 |nil=>exact k
 |cons _ _=>cases h
theorem aZ{α:Type}{P:Option α->Prop}{l:Option α}(h:l.isNone=true)(k:P none):P l:=by induction l with
 |none=>exact k
 |some _=>cases h
noncomputable def F6(p:Arguments):Bool:=p.posonlyargs.isEmpty&&p.vararg.isNone&&p.kwonlyargs.isEmpty&&p.kwarg.isNone
noncomputable def wN(fd:FuncData):Bool:=F6 fd.params&&(fd.defaults==Value.none)
theorem M6{P:Arguments->Prop}{p:Arguments}(h:F6 p=true)(k:∀args kd ds,P ⟨[],args,none,[],kd,none,ds⟩):P p:=by
 have h1:=an h
 have h2:=an h1.1
 have h3:=an h2.1
 induction p using PySem.Arguments.casesOn with|mk p1 p2 p3 p4 p5 p6 p7=>
 exact vo (P:=λq=>P ⟨q,p2,p3,p4,p5,p6,p7⟩) h3.1 (aZ (P:=λq=>P ⟨[],p2,q,p4,p5,p6,p7⟩) h3.2 (vo (P:=λq=>P ⟨[],p2,none,q,p5,p6,p7⟩) h2.2 (aZ (P:=λq=>P ⟨[],p2,none,[],p5,q,p7⟩) h1.2 (k p2 p5 p7))))
theorem wu{fd:FuncData}(h:wN fd=true)(hn:(fd.params.args.map (·.arg)).Nodup){vs:List Value}(hl:vs.length=(fd.params.args.map (·.arg)).length):bindArgs fd ⟨vs,[]⟩=pure ((fd.params.args.map (·.arg)).zip vs):=by
 induction fd with|mk a1 a2 p a4 a5 a6 a7 d a9 mw iM cE cK cL fu=>
 have h:=an h
 cases eq_of_beq h.2
 refine M6 (P:=λp=>(p.args.map (·.arg)).Nodup->vs.length=(p.args.map (·.arg)).length->bindArgs ⟨a1,a2,p,a4,a5,a6,a7,.none,a9,mw,iM,cE,cK,cL,fu⟩ ⟨vs,[]⟩=pure ((p.args.map (·.arg)).zip vs)) h.1 (λargs kd ds hn hl=>?_) hn hl
 dsimp only at hn hl ⊢
 have z:=Qc hl hn
 refine Lh (c:=decide (vs.length>(args.map (·.arg)).length)&&true) (by rw [hl,decide_eq_false (Nat.lt_irrefl _)];rfl) ?_
 refine Lh (c:=! (List.isEmpty (List.filter _ (List.take _ _)))) ?_ ?_
 ·show (! (List.isEmpty (List.filter (λn=>(List.lookup n ((args.map (·.arg)).zip vs)).isNone) (List.take _ (args.map (·.arg))))))=false
  rw [List.filter_eq_nil_iff.mpr λn hm=>ff (z.1 n (List.mem_of_mem_take hm))];rfl
 ·show ((forIn (List.zip _ (List.drop _ ([]:List Value))) _ _) >>= _)=_
  rw [List.drop_nil,List.zip_nil_right]
  show (pure ((args.map Arg.arg++[]).filterMap λn=>(((args.map Arg.arg).zip vs).lookup n).map (n,·)):Sem (List (Str×Value)))=_
  rw [List.append_nil,z.2]
noncomputable abbrev uO(fd:FuncData):List Str:=(fd.scope.names.filter λp=>p.2==.local||p.2==.cell).map (·.1)
noncomputable abbrev yg(fd:FuncData):List Str:=fd.params.args.map (·.arg)
noncomputable def Je(fd:FuncData):Bool:=wN fd&&((yg fd).isPrefixOf (uO fd)&&(decide (uO fd).Nodup&&(yg fd).all λx=>decide (fd.scope.names.lookup x=some .local)||decide (fd.scope.names.lookup x=some .cell)))
inductive yh(K:Frag)(ex:List Nat)(f:Nat):Nat×Nat×List S->Prop
 |mk {fb:FuncData×List Stmt} {ir:List S} (hf:jS K f=some fb) (hc:Je fb.1=true) (h:A2 (SS ⟨K,fb.1.scope,uO fb.1,true⟩ ex) fb.2 ir):yh K ex f ((yg fb.1).length,(uO fb.1).length-(yg fb.1).length,ir)
noncomputable def irV(K:Frag)(ex:List Nat)(F:Nat)(f:Nat):Option {p // yh K ex f p}:=so (jS K f) λfb hf=>gd (Je fb.1) λhc=>(qX F ⟨K,fb.1.scope,uO fb.1,true⟩ ex fb.2).map λir=>⟨_,.mk hf hc ir.2⟩
noncomputable def aM(K:Frag)(ex:List Nat)(F:Nat)(f:Nat):Option (Nat×Nat×List S):=(irV K ex F f).map (·.1)
theorem yh.valid{G:Gx}{tb:cQ}{ex:List Nat}{f n:Nat}{p:Nat×Nat×List S}{args:List AV}{Q:AV->AH->Prop}{E:Addr->AH->Prop}{H:AH}(tok:m8 G tb)(b7:∀C∈ex,mO G C)
 (h:yh G.K ex f p)(hl:args.length=p.1)(hv:iL G tb n p.2.2 (λfl m H'=>Q fl.val H') E (args.map some++List.replicate p.2.1 none) H):jO G (n+1) f args Q E H:=by
 induction h with|mk hf hc h=>
 have c:=an hc
 have c1:=an c.2
 have c2:=an c1.2
 have pre:=List.isPrefixOf_iff_prefix.mp c1.1
 have nd:=of_decide_eq_true c2.1
 exact DQ hf (λvs dD=>wu c.1 (nd.sublist pre.sublist) dD) pre nd (λx hx=>(Bool.or_eq_true_iff.mp (List.all_eq_true.mp c2.2 x hx)).imp of_decide_eq_true of_decide_eq_true) hl λfx ff=>
  mV h ⟨tok,⟨rfl,ff.sc,ff.nm,ff.nd,λZaa=>ff.wr⟩⟩ b7 hv
theorem MF{G:Gx}{tb:cQ}{ex:List Nat}{F f np nt n:Nat}{ir:List S}{args:List AV}{Q:AV->AH->Prop}{E:Addr->AH->Prop}{H:AH}(tok:m8 G tb)(b7:∀C∈ex,mO G C)
 (h:aM G.K ex F f=some (np,nt,ir))(hl:args.length=np)(hv:iL G tb n ir (λfl m H'=>Q fl.val H') E (args.map some++List.replicate nt none) H):jO G (n+1) f args Q E H:=by
 obtain ⟨p,_,e⟩:=Option.map_eq_some_iff.mp h
 have x:=p.2
 rw [e] at x
 exact x.valid tok b7 hl hv
noncomputable abbrev fU(P:Nat):List Value:=[.ref P,.type "Exception",.type "BaseException",.type "object"]
noncomputable abbrev oK(nm q:Str)(C N P:Nat)(bs:List Value)(hdct:Bool)(sn:List Str)(sub:List Value)(ab:Bool)(col:Option Bool)(dd:Option Addr)(k0 k1 k2 k3 k5:Option Value):Obj:=
 excClassObj nm q C N bs (fU P) hdct sn sub ab col dd k0 k1 k2 k3 k5 "Exception.__new__"
section
variable{prog:Program}{w:World}{A:Around}{h:Heap}{g:Array GenState}{d:Drawn}{t:Nat}{os:OsState}
variable{nm q:Str}{C N P:Nat}{bs:List Value}{hdct:Bool}{sn:List Str}{sub:List Value}{ab:Bool}{col:Option Bool}{dd:Option Addr}{k0 k1 k2 k3 k5:Option Value}
theorem AY:(Value.ref C::fU P).contains (.type "Exception")=true:=by simp [fU]
theorem Hs:(Value.ref C::fU P).contains (.type "BaseException")=true:=by simp [fU]
theorem Uk:(Value.ref C::fU P).contains (.type "AttributeError")=false:=by simp [fU]
theorem Ul:(Value.ref C::fU P).contains (.type "NameError")=false:=by simp [fU]
theorem M7{M:Model}{E:Value->Shared->Prop}{rest:List Value}{Q:Unit->Shared->Prop}(hC:h.get? C=some (oK nm q C N P bs hdct sn sub ab col dd k0 k1 k2 k3 k5))
 (hq:Q () ⟨h,g,d,t,os⟩):wpAny M A (checkBuiltinCall "Exception.__new__" ⟨.ref C::rest,[]⟩) Q E ⟨h,g,d,t,os⟩:=by
 have F:=PySem.F.excBase_Exception
 have Um:=AY (C:=C) (P:=P)
 have aac:=F.noStar
 simp only [checkBuiltinCall,F.newKind,F.newSplit,F.newRow]
 repeat (first|refine wpAny_loadPart_at hC ?_|(refine wpAny_isSubtype_exc hC ?_;rw [Um])|refine wpAny_staticBase_exc hC ?_|refine wpAny_madeBy_exc hC ?_|simp only [bne_self_eq_false,Bool.false_eq_true,if_false]|wp_step)
 exact hq
theorem Un{R:Result->Shared->Prop}{rest:List Value}(hC:h.get? C=some (oK nm q C N P bs hdct sn sub ab col dd k0 k1 k2 k3 k5))
 (hq:R (.ok (.ret (.ref (h.objs.size+1)))) ⟨(h.push {cls:=.type "tuple",data:=.seq rest.toArray}).push
   {cls:=.ref C,data:=.fields #[.ref h.objs.size,.none,.none,.none,.bool false,.none]},g,d,t,os⟩)(hrest:rest.length<=sizeLine):
 codeAny (model prog w) A (.builtin "Exception.__new__" ⟨.ref C::rest,[]⟩) R ⟨h,g,d,t,os⟩:=by
 have F:=PySem.F.excBase_Exception
 have aad:=F.ends
 have qY:=AY (C:=C) (P:=P)
 have hcA:=Uk (C:=C) (P:=P)
 have hcN:=Ul (C:=C) (P:=P)
 refine codeAny_builtinAt F.entry ?_
 unfold Builtin.«BaseException.__new__»
 refine PySem.wpAt_bind ?_
 show PySem.wpAt _ _ _ (stack >>= _) _ _ _
 refine PySem.wpAt_bind (PySem.wpAt_stack λp below=>PySem.wpAt_of_wpAny ?_)
 wp_walk
 refine PySem.wpAt_of_wpAny ?_
 rw [F.owner]
 repeat (first|with_reducible refine wpAny_madeHere_exc F.canon hC ?_|with_reducible refine wpAny_loadPart_at hC ?_|(with_reducible refine wpAny_isSubtype_exc hC ?_;first|rw [qY]|rw [hcA]|rw [hcN])|wp_step)
 show R _ _
 rw [Heap.size_push]
 exact hq
theorem M8{E:Value->Shared->Prop}{rest:List Value}{fI:Addr}{oI:Obj}{Q:Fin->Shared->Prop}(hC:h.get? C=some (oK nm q C N P bs hdct sn sub ab col dd k0 k1 k2 k3 k5))
 (hI:∀h',(∀b o,h.get? b=some o->h'.get? b=some o)->Looks (model prog w) h' (typeLookup (.ref C) "__init__") (some (.ref fI)))
 (jc:h.get? fI=some oI)(CF:oI.cls=.type "function")
 (hq:∀h' e,e=h.objs.size+1->Heap.MadeExcOf h h' e (.ref C) rest->
   wpAny (model prog w) A (call (.ref fI) (.ref e::rest)) (λr s'=>r=.none/\Q (.done (.ret (.ref e))) s') E ⟨h',g,d,t,os⟩)(hrest:rest.length<=sizeLine):
 wpAny (model prog w) A (Builtin.«type.__call__» ⟨.ref C::rest,[]⟩) Q E ⟨h,g,d,t,os⟩:=by
 repeat (first|with_reducible refine wpAny_loadPart_at hC ?_|with_reducible refine wpAny_madeBy_exc hC ?_|wp_step)
 refine codeAny_call_builtin_code (Code.quiet_builtin _ PySem.F.excBase_Exception.quiet) (M7 hC ?_)
 refine Un hC ?_ hrest
 show wpAny _ _ _ _ _ _
 have up:∀b o,h.get? b=some o->((h.push {cls:=.type "tuple",data:=.seq rest.toArray}).push {cls:=.ref C,data:=.fields #[.ref h.objs.size,.none,.none,.none,.bool false,.none]}).get? b=some o:=
  λb o e=>Heap.get?_push_of_some _ (Heap.get?_push_of_some _ e)
 have Uo:=up _ _ hC
 have R5:=up _ _ jc
 have Jf:((h.push {cls:=.type "tuple",data:=.seq rest.toArray}).push
  {cls:=.ref C,data:=.fields #[.ref h.objs.size,.none,.none,.none,.bool false,.none]}).get? (h.objs.size+1)=some
  {cls:=.ref C,data:=.fields #[.ref h.objs.size,.none,.none,.none,.bool false,.none]}:=by heap_get
 have hcC:(Value.ref C::fU P).contains (.ref C)=true:=by simp
 unfold isInstance
 repeat (first|with_reducible refine wpAny_loadPart_at Jf ?_|(with_reducible refine wpAny_isSubtype_exc Uo ?_;rw [hcC])|wp_step)
 show wpAny _ _ (typeLookup (.ref C) _) _ _ _
 refine (hI _ up).here ?_
 refine wpAny_holding (wpAny_bind ?_)
 unfold bindSpecial
 refine wpAny_bind (wpAny_typeOf (T:="function") ⟨_,R5,CF⟩ ?_)
 rw [if_pos (by decide)]
 refine wpAny_pure (wpAny_bind (wpAny_mono (hq _ (h.objs.size+1) rfl ⟨up,Heap.get?_none_of_le (Nat.le_succ _),h.objs.size,Jf,Heap.get?_none_of_le (Nat.le_refl _),?_⟩) (λr s' hr=>?_) λZaa Zaa x=>x))
 ·exact Heap.get?_push_of_some _ (Heap.get?_push_at rfl rfl)
 ·obtain ⟨rfl,hQ⟩:=hr
  wp_walk
  exact hQ
theorem R6{E:Value->Shared->Prop}{rest:List Value}{fI:Addr}{oI:Obj}{Q:Value->Shared->Prop}(hC:h.get? C=some (oK nm q C N P bs hdct sn sub ab col dd k0 k1 k2 k3 k5))
 (hI:∀h',(∀b o,h.get? b=some o->h'.get? b=some o)->Looks (model prog w) h' (typeLookup (.ref C) "__init__") (some (.ref fI)))
 (jc:h.get? fI=some oI)(CF:oI.cls=.type "function")
 (hq:∀h' e,e=h.objs.size+1->Heap.MadeExcOf h h' e (.ref C) rest->
   wpAny (model prog w) (A.under (.builtin "type.__call__" ⟨.ref C::rest,[]⟩)) (call (.ref fI) (.ref e::rest)) (λr s'=>r=.none/\Q (.ref e) s') E ⟨h',g,d,t,os⟩)(hrest:rest.length<=sizeLine):
 wpAny (model prog w) A (call (.ref C) rest) Q E ⟨h,g,d,t,os⟩:=by
 have f1:=tc_lookup
 have f2:=tc_bind (.ref C)
 have hT:(⟨h,g,d,t,os⟩:Shared).TypeIs (.ref C) "type":=⟨_,hC,rfl⟩
 refine wpAny_call (codeAny_of_tree ?_)
 show wpAny _ _ (callAny (.ref C) _) _ _ _
 repeat (any_goals (first|assumption|with_reducible refine wpAny_loadPart_at hC ?_|wp_step))
 refine ⟨rfl,?_⟩
 refine codeAny_call_builtin_at (Code.quiet_builtin _ (by decide+kernel)) entry_typeCall (wpAny_check_type_call_sub hC (M8 hC hI jc CF (λh' e hz hm=>?_) hrest))
 exact hq h' e hz hm
theorem R7{E:Value->Shared->Prop}{e:Addr}{dx:Option Addr}{vs:Array Value}{sl:Array (Option Value)}{t0:Addr}{rest:List Value}{Q:Value->Shared->Prop}(hC:h.get? C=some (oK nm q C N P bs hdct sn sub ab col dd k0 k1 k2 k3 k5))
 (he:h.get? e=some ⟨.ref C,dx,.fields vs,sl⟩)(h0:vs[0]?=some (.ref t0))(hrest:rest.length<=sizeLine)
 (hq:Q .none ⟨(h.push {cls:=.type "tuple",data:=.seq rest.toArray}).update e (Obj.mapFields (·.setIfInBounds 0 (.ref h.objs.size))),g,d,t,os⟩):
 wpAny (model prog w) A (call (.builtin "Exception.__init__") (.ref e::rest)) Q E ⟨h,g,d,t,os⟩:=by
 have F:=PySem.F.excBase_Exception
 refine wpAny_call (codeAny_call_builtin F.init.plain F.initEntry ?_)
 have qY:=AY (C:=C) (P:=P)
 have aaa:=F.noStar
 have step:∀Q':Unit->Shared->Prop,Q' () ⟨h,g,d,t,os⟩->∀E',wpAny (model prog w) A.in1 (checkBuiltinCall "Exception.__init__" ⟨.ref e::rest,[]⟩) Q' E' ⟨h,g,d,t,os⟩:=λQ' hq' E'=>by
  simp only [checkBuiltinCall,F.initKind,F.initSplit,F.initRow]
  repeat (first|with_reducible refine wpAny_loadPart_at he ?_|with_reducible refine wpAny_loadPart_at hC ?_|(with_reducible refine wpAny_isSubtype_exc hC ?_;rw [qY])|wp_step)
  refine wpAny_onRaise ?_
  rw [show ∀(a b:String) (n:Nat),Bind.check ⟨.positional,"*","Exception",.self,[⟨"args",.varPos,false⟩]⟩ a b n (List.map (λx=>x.fst) ({pos:=Value.ref e::rest}:Args).kw)=pure () from
   λa b n=>check_star_args _ _ _ _ _ _]
  exact wpAny_pure hq'
 refine step _ ?_ _
 unfold Builtin.«BaseException.__init__»
 dsimp only
 rw [if_neg (by simp)]
 unfold newTuple Builtin.BaseException.bexcPut
 have hsz:0<vs.size:=(Array.getElem?_eq_some_iff.mp h0).1
 have Ip:=Heap.get?_push_of_some (h:=h) {cls:=.type "tuple",data:=.seq rest.toArray} he
 refine wpAny_bind (wpAny_newObj_type (wpAny_bind (wpAny_bind (wpAny_field Ip rfl h0 (wpAny_bind (wpAny_setField Ip rfl hsz ?_))))) (by show rest.toArray.size<=sizeLine;rw [List.size_toArray];exact hrest))
 exact wpAny_letGo (wpAny_pure hq)
end
section
variable{prog:Program}{w:World}{A:Around}{K:Frag}{C P:Nat}{cd:ClassData}
theorem Qd{h:Heap}{g:Array GenState}{d:Drawn}{t tk:Nat}{os:OsState}{x:Addr}{name:Str}{v:Value}{vs:Array Value}{sl:Array (Option Value)}{R:Result->Shared->Prop}(X:K.In h)
 (hx:h.get? x=some ⟨.ref C,none,.fields vs,sl⟩)(hc:clsIn K C=some cd)(hm:cd.mro=.ref C::fU P)(hdd:cd.hasDict=true)(ht:takerIn K C name=some none)
 (hq:∀h1 h2 bg,h1=(h.push {cls:=.type "dict",data:=.dict #[]}).update x (λo=>{cls:=o.cls,dict:=some h.objs.size,data:=o.data,slots:=o.slots})->Heap.SameBut h.objs.size h1 h2->R (.ok (.ret .none)) ⟨h2,g,d,bg,os⟩):
 codeAny (model prog w) A (.call (.builtin "object.__setattr__") ⟨[.ref x,.str name tk,v],[]⟩) R ⟨h,g,d,t,os⟩:=by
 have SF:=PySem.F.store_object
 have I:InstAt h x ⟨.ref C,none,.fields vs,sl⟩ C none:=⟨hx,rfl,rfl,trivial⟩
 have ne:cd.mro.isEmpty=false:=by rw [hm];rfl
 have ho:cd.mro.contains (.type "object")=true:=by rw [hm];simp [fU]
 have sub:Looks (model prog w) h (isInstance (.ref x) (.type "object")) true:=I.type.andThen (looks_mroIn X (by unfold mroIn;rw [hc,Option.bind_some,if_neg (by rw [ne];decide),ho]))
 refine codeAny_call_builtin SF.slot.plain SF.entry (@check_slot (model prog w) _ _ ⟨h,g,d,t,os⟩ "object.__setattr__" "object" "__setattr__" (.ref x) [.str name tk,v] [] _ SF.kind SF.split sub (SF.args (.ref x) (.str name tk) v) ?_)
 obtain ⟨attr,ha,hr⟩:=Option.bind_eq_some_iff.mp ht
 have Xk:Looks (model prog w) h (mroOf (.ref C)) cd.mro:=(looks_clsIn X hc).andThen .now
 have L3:Looks (model prog w) h (Builtin.ObjectAttr.storeTaker? attr) none:=by
  induction attr with
  |none=>exact .now
  |some a=>
   obtain ⟨b,hb,s9⟩:=Option.map_eq_some_iff.mp hr
   refine (looks_takesIn X hb).andThen ?_
   cases b<;>first|exact .now|cases s9
 rw [osa_eq,refuse_eq]
 refine wpAny_bind (wpAny_bind (I.type.here (wpAny_bind (Xk.here ?_))))
 rw [hm,refuseLoop_ref,fU,refuseLoop_ref,PySem.F.store_Exception.passes]
 refine wpAny_pure (wpAny_bind (I.type.here (wpAny_bind ((looks_findIn X ha).here (wpAny_bind (L3.here ?_))))))
 refine wpAny_bind (wpAny_pure (wpAny_bind (wpAny_bind (wpAny_loadPart hx (wpAny_bind ((looks_clsIn X hc).here ?_))))))
 rw [hdd]
 have Up:(h.push {cls:=.type "dict",data:=.dict #[]}).get? x=some ⟨.ref C,none,.fields vs,sl⟩:=Heap.get?_push_of_some _ hx
 have k7:x≠h.objs.size:=Nat.ne_of_lt (Heap.lt_size hx)
 dsimp only
 refine wpAny_bind (wpAny_alloc' ?_)
 refine wpAny_bind (wpAny_update' Up ?_)
 refine wpAny_pure ?_
 have s7:((h.push {cls:=.type "dict",data:=.dict #[]}).update x λo=>{cls:=o.cls,dict:=some h.objs.size,data:=o.data,slots:=o.slots}).get? h.objs.size
  =some {cls:=.type "dict",data:=.dict #[]}:=
  (Heap.get?_update_ne _ _ _ _ k7.symm).trans (Heap.get?_push_at rfl rfl)
 have e8:((h.push {cls:=.type "dict",data:=.dict #[]}).update x λo=>{cls:=o.cls,dict:=some h.objs.size,data:=o.data,slots:=o.slots}).Ns h.objs.size (λZaa=>none):=
  ⟨_,#[],_,s7,rfl,λe he=>absurd he (by simp),λZaa=>rfl⟩
 show wpAny _ _ (Builtin.ObjectAttr.storeInDict h.objs.size (.str name tk) name v) _ _ _
 unfold Builtin.ObjectAttr.storeInDict Builtin.ObjectAttr.newKeyGuard
 refine wpAny_bind (wpAny_pure (wpAny_bind (wpAny_nsSet1 (Heap.Ns1.of_empty e8) λh' hn' hs=>?_)))
 obtain ⟨oD,esD,epD,hoD,hdD,hcD⟩:=hn'.count (Within.cons name v Within.nil)
 refine wpAny_bind (wpAny_lookBehind hoD (by rw [hdD];exact pastItsLine_dict (Nat.le_trans hcD (by rw [List.length_cons,List.length_nil,sizeLine_eq];omega))) ?_)
 exact wpAny_pure (hq _ h' _ rfl hs)
end
theorem OD{H:AH}{a:Nat}{o:AO}(h:H a=some o):H.ai a o=H:=by
 funext b
 by_cases q:b=a
 ·exact q▸(cR H a o).trans h.symm
 ·exact dj H a o q
inductive qZ(K:Frag)(C P:Nat):Prop
 |mk (nm q:Str) (N:Addr) (bs:List Value) (sn:List Str) (sub:List Value) (ab:Bool) (col:Option Bool) (dd:Option Addr) (k0 k1 k2 k3 k5:Option Value) (h:K.lookup C=some (oK nm q C N P bs true sn sub ab col dd k0 k1 k2 k3 k5))
inductive Uq(K:Frag)(fI:Nat):Prop
 |mk (fd:FuncData) (p1 p2 p3 p4 p5 p6 p7 p8 p9 vp:Pos) (hf:jS K fI=some (fd,[.Expr (.Call (.Attribute (.Name "Exception" p1) "__init__" p2) [.Name "self" p3,.Name "word" p4] [] p5) p6,.Assign [.Attribute (.Name "self" p7) "word" p8] (.Name "word" p9) vp]))
  (hp:(p2.endLine==p5.line)=true) (hs:wN fd=true) (pJ:fd.params.args.map (·.arg)=([("self":Str),("word":Str)]:List Str)) (k1:fd.scope.names.lookup ("self":Str)=some .local) (k2:fd.scope.names.lookup ("word":Str)=some .local) (k3:fd.scope.names.lookup ("Exception":Str)=some .globalImplicit)
  (hu:n9 fd.scope [.Attribute (.Name "self" p7) "word" p8] (.Name "word" p9) vp.line=some false) (Li:rY fd.scope [.Attribute (.Name "self" p7) "word" p8] (.Name "word" p9)=some none)
structure kR(G:Gx)(C P fI:Nat):Prop where
 hC:qZ G.K C P
 keep:keepIn G.K (.ref C)=true
 hI:findIn G.K (.ref C) "__init__"=some (some (.ref fI))
 hf:qv (λoI=>G.K.lookup fI=some oI) (λoI=>oI.cls=.type "function")
 hS:findIn G.K (.ref C) "__setattr__"=some (some (.builtin "object.__setattr__"))
 hW:takerIn G.K C "word"=some none
 hE:findCls G.K (.type "Exception") (.type "type") "__init__"=some (.val (.builtin "Exception.__init__"))
 gE:iw G.K "Exception"=some (.type "Exception")
 body:Uq G.K fI
section
variable{G:Gx}{n:Nat}{fx:Fx}{E:Addr->AH->Prop}{m:MM}{H:AH}{C P fI:Nat}
inductive Xl(C e:Nat)(k:Bool)(h:Heap):Prop
 |mk (dd:Option Addr) (vs:Array Value) (sl:Array (Option Value)) (t0:Addr) (g:h.get? e=some ⟨.ref C,dd,.fields vs,sl⟩) (v0:vs[0]?=some (.ref t0)) (v1:vs[1]?=some .none) (nd:k=false->dd=none)
theorem RX.exc{b h:Heap}{e:Nat}{k:Bool}(r:RX G fx b m H h)(he:H e=some (.exc C k)):Xl C e k h:=by
 obtain ⟨D,dd,vs,sl,t0,a,b,c,d⟩:=r.cont he
 exact ⟨dd,vs,sl,t0,a,b,c,d⟩
theorem NP(x:kR G C P fI){va vw:Value}{e:Nat}{k:Bool}{Q:AV->MM->AH->Prop}(ea:er va=.ref e)(he:H e=some (.exc C k))(h:Q .none m H):
 AW G n fx (call (.builtin "Exception.__init__") [va,vw] []) VA Q E m H:=eR ea λb hh tk ok r=>by
 cases x.hC with|mk nm q N bs sn sub ab col dd k0 k1 k2 k3 k5 hK=>
 cases r.exc he with|mk dx vs sl t0 h1 h2 h3 h4=>
 refine R7 ((r.cJ ok) _ _ hK) h1 h2 (by rw [zB];show 1<=_;decide) ?_
 have hd:=Obj.data_mapFields (o:=⟨.ref C,dx,.fields vs,sl⟩) (vs:=vs) rfl (·.setIfInBounds 0 (Value.ref hh.objs.size))
 have r2:=(r.keeps (h':=hh.push {cls:=.type "tuple",data:=.seq [vw].toArray}) λc ob q=>Heap.get?_push_of_some _ q).bL (o':=.exc C k) he rfl rfl (Heap.SameBut.update ..) λD c=>
  ⟨dx,_,sl,hh.objs.size,Heap.get?_update_self _ (Heap.get?_push_of_some _ h1) (Obj.isFreed_of_fields hd),Array.getElem?_setIfInBounds_self_of_lt (Array.getElem?_eq_some_iff.mp h2).1,(Array.getElem?_setIfInBounds_ne (by decide)).trans h3,h4⟩
 rw [OD he] at r2
 exact qn (y:=AV.none) r2 rfl h
theorem NQ(x:kR G C P fI){va vw:Value}{e:Nat}{Q:Unit->MM->AH->Prop}(ea:er va=.ref e)(he:H e=some (.exc C false))(h:Q () m (H.ai e (.exc C true))):
 AW G n fx (setAttr va "word" vw) VU Q E m H:=eR ea λb hh tk ok r=>by
 cases x.hC with|mk nm q N bs sn sub ab col dd k0 k1 k2 k3 k5 hK=>
 have X:=r.cJ ok
 cases r.exc he with|mk dx vs sl t0 h1 h2 h3 h4=>
 cases h4 rfl
 have jx:clsIn G.K C=some {name:=nm,bases:=bs,mro:=.ref C::fU P,ns:=N,qualname:=q,hasDict:=true,slotNames:=sn,subclasses:=sub,abstract:=ab,collection:=col,hasDel:=false}:=by
  unfold clsIn;rw [hK]
 refine set_plain (s:=G.sh hh tk) X (⟨h1,rfl,rfl,trivial⟩:InstAt hh e ⟨.ref C,none,.fields vs,sl⟩ C none) x.hS (Qd (P:=P) X h1 jx rfl rfl x.hW λj6 pD bg e1 hs=>?_)
 subst e1
 have r2:=(r.Hf (o:={cls:=.type "dict",data:=.dict #[]}) ok rfl).bL (o':=.exc C true) he rfl rfl (Heap.SameBut.update (h:=hh.push {cls:=.type "dict",data:=.dict #[]}) (a:=e) (f:=λo=>{cls:=o.cls,dict:=some hh.objs.size,data:=o.data,slots:=o.slots}) ..) λD c=>⟨some hh.objs.size,vs,sl,t0,Heap.get?_update_self _ (Heap.get?_push_of_some _ h1) rfl,h2,h3,nofun⟩
 induction r2 with|mk mC D own r2=>
 exact qn (y:=()) ⟨mC,D,own,r2.lM.KP ok hs.extBut (r2.aR _ (.head _)) r.tY⟩ trivial h
end
theorem Mf:typeOf (.type "Exception")=pure (.type "type"):=by kernel_rfl
theorem Mg:Manifest.isStub "Exception"=false:=by decide+kernel
theorem MG:handedIn (.builtin "Exception.__init__")=true:=by decide+kernel
section
variable{G:Gx}{n:Nat}{fx:Fx}{E:Addr->AH->Prop}{m:MM}{H:AH}{C P fI:Nat}
theorem Qe(x:kR G C P fI){va:Value}{pl:Sem Bool}{Q:Value×List Value->MM->AH->Prop}(ea:er va=.ty "Exception")(h:Q (.builtin "Exception.__init__",[]) m H):
 AW G n fx (getMethod va "__init__" pl) (λx y=>x=y) Q E m H:=λb hh tk ok r=>by
 rw [Bl ea]
 have r':=r
 obtain ⟨mC,D,own,r'⟩:=r'
 exact method_type (s:=G.sh hh tk) r'.F ok.cJ Mf Mg x.hE MG ⟨hh,_,m,H,_,rfl,r,rfl,h⟩
theorem MH(x:kR G C P fI){e:Nat}{s:List Nat}{Q:AV->AH->Prop}(he:H e=some (.exc C false))(hq:Q .none (H.ai e (.exc C true))):jO G (n+1) fI [.ref e,.str s] Q E H:=by
 cases x.body with|mk fd p1 p2 p3 p4 p5 p6 p7 p8 p9 vp hf hp hs pJ k1 k2 k3 hu Li=>
 have e8:([("self":Str),("word":Str)]:List Str).Nodup:=by decide
 refine DQ (ps:=[("self":Str),("word":Str)]) (ns:=[("self":Str),("word":Str)]) hf (λvs dD=>by rw [wu hs (by rw [pJ];exact e8) (by rw [pJ];exact dD),pJ]) List.prefix_rfl e8 (List.forall_mem_cons.mpr ⟨.inl k1,List.forall_mem_singleton.mpr (.inl k2)⟩) rfl λfx ff=>?_
 have a0:∀{p:Pos} {H':AH} {Q':AV->MM->AH->Prop},Q' (.ref e) [some (.ref e),some (.str s)] H'->AW G n fx (eval (.Name "self" p) fx.env) VA Q' E [some (.ref e),some (.str s)] H':=λh=>AM (ff.nm 0) rfl (by decide) (by decide) h
 have a1:∀{p:Pos} {H':AH} {Q':AV->MM->AH->Prop},Q' (.str s) [some (.ref e),some (.str s)] H'->AW G n fx (eval (.Name "word" p) fx.env) VA Q' E [some (.ref e),some (.str s)] H':=λh=>AM (ff.nm 1) rfl (by decide) (by decide) h
 refine wM (P:=λm H=>AW G n fx (execs _ fx.env) RF (λfl Zaa=>_) E m H) (Hr ?_) λZaa Zaa x=>x
 ·rw [EN rfl rfl (by show 2<30;decide) hp]
  refine qh (G6 (by unfold Env.kindOf;rw [ff.sc];exact k3) (by decide) x.gE λv e1=>gJ (qh (gu (Qe x e1 λfp e2=>?_))))
  subst e2
  refine wA rfl E7 (zJ (Q1:=λy m1 H1=>AW G n fx (spliced (backTo p5 (starEach [.Name "word" p4] fx.env))) VL _ E m1 H1) (qc rfl) (a0 ?_) λZaa Zaa Zaa x=>x)
  refine zJ (Q1:=λy m1 H1=>AW G n fx (spliced (backTo p5 (starEach [] fx.env))) VL _ E m1 H1) (qc rfl) (a1 (EM λvs dD=>?_)) λZaa Zaa Zaa x=>x
  refine m2 (P:=λvs=>AW G n fx (call _ ([]++vs) []) VA _ E _ H) dD λv u f1 f2=>NP x f1 he ?_
  refine wM (P:=λm H=>AW G n fx (execs [] fx.env) RF _ E m H) (AX (Q1:=λy m1 H1=>∀v,er v=y->AW G n fx (assignStores fx.env v none _) RF _ E m1 H1) ff.sc hu Li (a1 λv e1=>?_) λv y m1 H1 l q=>q v l) λZaa Zaa x=>x
  rw [F5 rfl,arm_assign_Attribute]
  exact wW (Q:=vn _ _) (qh (gu (a0 λov e2=>gJ (qh (gu (NQ x e2 he λZaa Zaa=>zH λb hh tk ok r=>wpAny_execs_nil (qn (y:=AF.next) r .next hq)))))))
end
theorem HR.drop{prog:Program}{w:World}{b0 b:Heap}{L:Addr}{H:AH}{D:Addr->Addr}{own:List Addr}{h:Heap}{e:Nat}{o:AO}(x:HR prog w b0 b L (H.ai e o) D own h)(he:H e=none):
 HR prog w b0 b L H D (sH e own) h:=by
 have up:∀{a oo},H a=some oo->a≠e/\(H.ai e o) a=some oo:=λq=>have hne:=λz=>nz ((congrArg H z).trans he) q;⟨hne,(dj H e o hne).trans q⟩
 have dn:∀{a},(H.ai e o) a=none->a≠e/\H a=none:=λ{a} q=>have hne:=λz:a=e=>nz q ((congrArg (H.ai e o) z).trans (cR H e o));⟨hne,(dj H e o hne).symm.trans q⟩
 exact ⟨λa m=>x.live a (kP.mp m).1,λa oo q=>x.cont a oo (up q).2,λa oo q hm=>kP.mpr ⟨x.fE a oo (up q).2 hm,(up q).1⟩,λa oo q=>(x.src a oo (up q).2).imp_left λm=>kP.mpr ⟨m,(up q).1⟩,(dn x.fX).2,λa oo q hi=>
  have d:=x.dW a oo (up q).2 hi;⟨kP.mpr ⟨d.own,(dn d.no).1⟩,(dn d.no).2,λa' o' q'=>d.inj a' o' (up q').2⟩⟩
theorem NR{h base B:Heap}{l:List Env}:h.FunFrames base l->(∀L∈l.filterMap (·.frame),B.get? L=none)->h.FunFrames B l:=by
 induction l with
 |nil=>exact λZaa Zaa=>trivial
 |cons env r ih=>
  exact λ⟨k,⟨L,o,f1,f2,f3,f4⟩,hr⟩ hB=>by
   rw [List.filterMap_cons,f1] at hB
   exact ⟨k,⟨L,o,f1,hB L (.head _),f3,f4⟩,ih hr λL' m=>hB L' (.tail _ m)⟩
section
variable{G:Gx}{n:Nat}{fx:Fx}{E:Addr->AH->Prop}{m:MM}{H:AH}{C P fI:Nat}
theorem RX.frames{b h:Heap}(ok:aX G fx n b)(r:RX G fx b m H h):h.FunFrames G.b0 (fx.dR::fx.outer):=by
 obtain ⟨mC,D,own,r⟩:=r
 refine ⟨by rw [ok.sj];decide,?_,ok.frames.of_keeps λa o e Zaa=>⟨o,r.F.keep a o e,rfl⟩⟩
 rcases ok.here with q|⟨o,e,q⟩
 ·obtain ⟨o,es,ep,e1,e2,_⟩:=r.F.ns
  rw [q] at e1
  exact ⟨fx.Lf,o,ok.gf,ok.lS,e1,λvs z=>by rw [e2] at z;cases z⟩
 ·exact ⟨fx.Lf,o,ok.gf,ok.lS,r.F.keep _ _ e,q⟩
theorem R8{b h:Heap}{e:Nat}{k:Bool}(ok:aX G fx n b)(r:RX G fx b m (H.ai e (.exc C k)) h)(he:H e=none):dK G fx b H C e h:=by
 have fr:=r.frames ok
 cases r.exc (cR ..) with|mk dd vs sl t0 x1 x2 x3=>
 induction r with|mk mC D own r=>
 have hbe:=(r.hr.live e (r.hr.fE e _ (cR ..) rfl)).nb
 refine ⟨hideAll h (e::(fx.dR::fx.outer).filterMap (·.frame)),mC,D,sH e own,⟨λa o q=>of_hideAll _ q,λa o q hn=>hideAll_get _ (r.F.keep a o q) λhm=>(List.mem_cons.mp hm).elim (λz=>nz hbe (z▸q)) hn,hideAll_none _ (.head _),NR fr λL hL=>hideAll_none _ (.tail _ hL),.Ck _ vs _ x1 rfl rfl x2 x3,Heap.UpToSlots.of_keeps r.F.keep,r.F.ns,r.hr.drop he,λa ha=>?_⟩⟩
 have ha:=kP.mp ha
 have l:=r.hr.live a ha.1
 obtain ⟨o,ho⟩:=Option.isSome_iff_exists.mp l.lv
 refine (congrArg Option.isSome (hideAll_get _ ho λhm=>(List.mem_cons.mp hm).elim ha.2 λz=>?_)).trans rfl
 rw [List.filterMap_cons,ok.gf] at z
 rcases List.mem_cons.mp z with z|z
 ·exact ok.here.elim (λq=>l.nl (z.trans q.symm)) λ⟨o2,q,_⟩=>nz (z▸l.nb) q
 ·exact (ok.frames.mem z).elim λ_ ⟨o2,q,_⟩=>nz l.nb q
theorem aX.CG{b:Heap}{v:Value}(ok:aX G fx (n+2) b):aX G (fx.at (fx.A.under (.builtin "type.__call__" ⟨.ref C::[v],[]⟩))) (n+1) b:={ok with
 stack:=ok.stack
 eW:=ok.eW
 depth:=by have:=ok.depth;show fx.A.depth+1+(n+1)<_;lia
 units:=by have:=ok.units;show fx.A.units+1+16*(n+1)+16<_;lia}
theorem Qg{e:Nat}{o u:AO}:(H.ai e o).ai e u=H.ai e u:=by
 funext c
 by_cases q:c=e
 ·subst q;exact (cR _ c u).trans (cR H c u).symm
 ·rw [dj _ _ _ q,dj _ _ _ q,dj _ _ _ q]
theorem Qh{b h:Heap}{e tk:Nat}{pos:Pos}(x:qZ G.K C P)(ok:aX G fx n b)(r:RX G fx b m (H.ai e (.exc C true)) h)(he:H e=none)(hE:E C H):wpAny G.M fx.A (raiseStmt fx.env (some (do standAt pos;pure (.ref e))) none) (λZaa Zaa=>False) (fh G fx b E) (G.sh h tk):=by
 induction x with|mk nm q N bs sn sub ab col dd k0 k1 k2 k3 k5 hK=>
 have Lj:=(r.cJ ok) _ _ hK
 cases r.exc (cR ..) with|mk dd2 vs sl t2 y1 y2 y3=>
 have qY:=Hs (C:=C) (P:=P)
 have fin:fh G fx b E (.ref e) (G.sh h tk):=⟨h,tk,H,C,e,rfl,rfl,R8 ok r he,hE⟩
 generalize fh G fx b E=E2 at fin
 unfold raiseStmt
 refine wpAny_bind (wpAny_bind (wpAny_standAt (wpAny_pure ?_)))
 repeat (first|with_reducible refine wpAny_loadPart_at y1 ?_|with_reducible refine wpAny_loadPart_at Lj ?_|(with_reducible refine wpAny_isSubtype_exc Lj ?_;rw [qY])|wp_step)
 rw [y3]
 refine wpAny_pure ?_
 rw [if_neg (by decide)]
 exact wpAny_pure (wpAny_raiseNew_none ok.eW fin)
theorem F7(x:kR G C P fI):mO G C:=⟨x.keep,λfx n E m H b h tk v s pos ev hn ok r hE=>by
 obtain ⟨oI,hKI,hIc⟩:=x.hf
 have X:=r.cJ ok
 have hx:=x.hC
 induction hx with|mk nm q_ N bs sn sub ab col dd k0 k1 k2 k3 k5 hK=>
 refine R6 (X _ _ hK) (λh' k=>looks_findIn (X.keeps k) x.hI) (X _ _ hKI) hIc (λh' e hz hm=>?_) (by rw [zB];show 1<=_;decide)
 induction r with|mk mC D own r0=>
 obtain ⟨t0,hte,_,_⟩:=hm.there
 have z:=r0.xH (a:=e) (o:=.exc C false) (r0.o9 (h':=h') ⟨r0.F.ns.keeps hm.keeps,λc o q=>hm.keeps _ _ (r0.F.keep c o q),r0.F.above⟩ (r0.hr.keeps hm.keeps) (λZaa c o Zaa e=>hm.keeps _ _ e) λZaa Zaa q=>hm.keeps _ _ q.lv) hm.new (Fr.fresh r0.F hm.new) (hz▸Nat.ne_of_gt (Nat.lt_succ_of_lt r0.F.ns.lt)) (hz▸Nat.ne_of_gt (Nat.lt_succ_of_lt (HZ ok r0.F))) rfl ⟨none,_,#[],t0,hte,rfl,rfl,λZaa=>rfl⟩
 obtain ⟨k,rfl⟩:=Nat.exists_eq_add_of_le' (Nat.le_trans (by decide:2<=4) hn)
 have V:=(MH (n:=k) (E:=λZaa Zaa=>False) (Q:=λv H'=>v=.none/\H'=H.ai e (.exc C true)) (s:=s) x (cR H e (.exc C false)) ⟨rfl,Qg⟩).run (fx.at (fx.A.under (.builtin "type.__call__" ⟨.ref C::[v],[]⟩))) b m h' tk (.ref e::[v]) ok.CG z.2.at (congrArg (λy=>[AV.ref e,y]) ev)
 refine wpAny_call (codeAny_mono V λrr s' p=>?_)
 induction p with
 |ok r2 q=>exact ⟨Ai q.1,Qh x.hC ok (q.2▸r2.of) z.1 hE⟩
 |er _ q=>exact q.elim⟩
end
theorem NS{M:Model}{A:Around}{E:Value->Shared->Prop}{h:Heap}{g:Array GenState}{d:Drawn}{t:Nat}{os:OsState}{nm q:Str}{C N P:Nat}{bs:List Value}{hdct:Bool}{sn:List Str}{sub:List Value}{ab:Bool}{col:Option Bool}{dd:Option Addr}{k0 k1 k2 k3 k5:Option Value}
 {nm' q':Str}{C' N' P':Nat}{bs':List Value}{Ur:Bool}{sn':List Str}{Xm:List Value}{ab':Bool}{Xn:Option Bool}{dd':Option Addr}{k0' k1' k2' vq k5':Option Value}{e:Addr}{oe:Obj}{Q:Bool->Shared->Prop}
 (hC:h.get? C=some (oK nm q C N P bs hdct sn sub ab col dd k0 k1 k2 k3 k5))(Lk:h.get? C'=some (oK nm' q' C' N' P' bs' Ur sn' Xm ab' Xn dd' k0' k1' k2' vq k5'))(he:h.get? e=some oe)(BP:oe.cls=.ref C)
 (hq:Q ((Value.ref C::fU P).contains (.ref C')) ⟨h,g,d,t,os⟩):wpAny M A (excMatches (.ref e) (.ref C')) Q E ⟨h,g,d,t,os⟩:=by
 have qY:=Hs (C:=C') (P:=P')
 have f:=tc_notTuple
 unfold excMatches
 generalize z:(Value.ref C::fU P).contains (.ref C')=bb at hq
 repeat (first|(with_reducible refine wpAny_loadPart_at he ?_;rw [BP])|with_reducible refine wpAny_loadPart_at Lk ?_|(with_reducible refine wpAny_isSubtype_exc Lk ?_;rw [qY])|(with_reducible refine wpAny_isSubtype_exc hC ?_;rw [z])|wp_step)
 induction bb<;>(repeat wp_step)<;>exact hq
section
variable{G:Gx}{n:Nat}{fx:Fx}{E:Addr->AH->Prop}{m:MM}{H:AH}{b h h':Heap}{C ea:Addr}{tk:Nat}
inductive mz(G:Gx)(fx:Fx)(b:Heap)(H:AH)(C e:Addr)(h:Heap):Prop
 |mk (B:Heap) (mC:Str->Option Value) (D:Addr->Addr) (own:List Addr) (a0:Value) (x:RE G fx b H C e h B mC D own) (t:h.TracedW B e (.ref C) a0)
theorem mz.ve(x:mz G fx b H C ea h):dK G fx b H C ea h:=by induction x with|mk B mC D own a0 x=>exact ⟨B,mC,D,own,x⟩
theorem OE{A:Around}{Q:Unit->Shared->Prop}{Ed:Value->Shared->Prop}(ok:aX G fx n b)(x:nK G fx b H C ea h)(hq:∀h',mz G fx b H C ea h'->Q () (G.sh h' tk)):wpAny G.M A (setFlight (.ref ea) none) Q Ed (G.sh h tk):=by
 induction x with|mk B mC D own a0 x e1=>
 exact wpAny_landsW (s:=G.sh h tk) (base:=B) (l:=fx.dR::fx.outer) (L:=fx.Lf) ⟨x.dB,x.jj,x.frames,e1⟩ λh' k1 k2=>hq h' ⟨B,mC,D,own,a0,x.step ok k1.1 k1.2.2.1 (.out a0 k1.2.2.2) k2,k1.2.2.2⟩
theorem NT{A:Around}{Q:Unit->Shared->Prop}{Ed:Value->Shared->Prop}(ok:aX G fx n b)(x:mz G fx b H C ea h)(hq:∀h',mz G fx b H C ea h'->Q () (G.sh h' tk)):wpAny G.M A (setFlight (.ref ea) none) Q Ed (G.sh h tk):=by
 induction x with|mk B mC D own a0 x e1=>
 exact lands_againW (s:=G.sh h tk) (base:=B) (l:=fx.dR::fx.outer) ⟨x.dB,x.jj,x.frames,e1⟩ λh' k1 k2=>hq h' ⟨B,mC,D,own,a0,x.step ok k1.1 k1.2.2.1 (.out a0 k1.2.2.2) k2,k1.2.2.2⟩
theorem dK.base(ok:aX G fx n b)(x:dK G fx b H C ea h){a:Nat}{o:Obj}(e:G.b0.get? a=some o):h.get? a=some o:=by
 induction x with|mk B mC D own x=>
 refine x.dB _ _ (x.up a o (ok.dB a o e) λhm=>?_)
 rw [List.filterMap_cons,ok.gf] at hm
 rcases List.mem_cons.mp hm with q|hm
 ·exact nz ok.lS (q▸e)
 ·exact nz (ok.frames.mem hm).1 e
theorem OF{A:Around}{x:Str}{v:Value}{pos:Pos}{Q:Value->Shared->Prop}{Ed:Value->Shared->Prop}(ok:aX G fx n b)(xx:dK G fx b H C ea h)(hk:fx.env.kindOf x=some .globalImplicit)(hd:(x==("__debug__":Str))=false)(hv:nsIn G.K mainGlobals x=some (some v))(hq:Q v (G.sh h tk)):
 wpAny G.M A (eval (.Name x pos) fx.env) Q Ed (G.sh h tk):=by
 induction xx with|mk B mC D own xx=>
 refine Name_function_global ok.jN hk (loadGlobal_global (mg:=G.mg) ?_ (mg_of ok.cJ ok.eG.g hv) hq) hd
 rw [ok.sG];exact xx.slots.ns ok.eG.g
theorem OH{A:Around}{env:Env}{s:Str}{c k:Nat}{r t u:Pos}{Q:Flow->Shared->Prop}{Ed:Value->Shared->Prop}
 (hq:∀bg v,er v=.str s.cps.toList->Q (.ret (.ref h.objs.size)) (G.sh (h.push {cls:=.type "tuple",data:=.seq [v].toArray}) bg)):
 wpAny G.M A (execs [.Return (some (.Tuple [.Constant (.str s) c r] k t)) u] env) Q Ed (G.sh h tk):=by
 refine wpAny_execs_cons (wpAny_Return_some ?_)
 rw [arm_eval_Tuple]
 refine wpAny_bind (wpAny_standAt (wpAny_bind ?_))
 refine spliced_more (wpAny_Constant_str ?_) (qc rfl)
 refine spliced_none ?_
 refine wpAny_newTuple (hq _ _ rfl) ?_
 rw [zB];show 1<=_;decide
theorem mz.cls(y:mz G fx b H C ea h):qv (λoe=>h.get? ea=some oe) (λoe=>oe.cls=.ref C):=by
 induction y with|mk B mC D own a0 x t=>
 obtain ⟨oe,_,_,_,_,e1,e2,_⟩:=t
 exact ⟨oe,e1,e2.1⟩
section
variable{P C' P':Nat}{x:Str}{q v:Pos}{rest:List ExceptHandler}{Q:Flow->Shared->Prop}{Ed:Value->Shared->Prop}
theorem F8(ok:aX G fx n b)(K0:G.K.In G.b0)(y:mz G fx b H C ea h)(X:qZ G.K C P)(X':qZ G.K C' P')(hk:fx.env.kindOf x=some .globalImplicit)(hd:(x==("__debug__":Str))=false)(hv:nsIn G.K mainGlobals x=some (some (.ref C'))){R:Result->Shared->Prop}
 {A:Around}(hq:R (.ok (if (Value.ref C::fU P).contains (.ref C') then .brk else .next)) (G.sh h tk)):codeAny G.M A (.handlers (.ref ea) [.ExceptHandler (some (.Name x q)) none [] v] fx.env) R (G.sh h tk):=by
 induction X with|mk nm1 qn1 N1 bs1 sn1 aap ab1 aaq dd1 a0 a1 a2 a3 a5 hK1=>
 induction X' with|mk nm2 qn2 N2 bs2 sn2 aar ab2 aas dd2 e0 e1 e2 e3 e5 hK2=>
 obtain ⟨oe,ho,hoc⟩:=y.cls
 exact codeAny_handlers_test (OF ok y.ve hk hd hv (NS (y.ve.base ok (K0 _ _ hK1)) (y.ve.base ok (K0 _ _ hK2)) ho hoc hq))
theorem Ht{s:Str}{c k:Nat}{r t u:Pos}(ok:aX G fx n b)(K0:G.K.In G.b0)(y:mz G fx b H C ea h)(X:qZ G.K C P)(hk:fx.env.kindOf x=some .globalImplicit)(hd:(x==("__debug__":Str))=false)(hv:nsIn G.K mainGlobals x=some (some (.ref C)))
 (hq:∀h' bg v,dK G fx b H C ea h'->er v=.str s.cps.toList->Q (.ret (.ref h'.objs.size)) (G.sh (h'.push {cls:=.type "tuple",data:=.seq [v].toArray}) bg)):
 wpAny G.M fx.A (handleBy (.ref ea) fx.env (.ExceptHandler (some (.Name x q)) none [.Return (some (.Tuple [.Constant (.str s) c r] k t)) u] v::rest)) Q Ed (G.sh h tk):=by
 refine wpAny_handleBy_cons (F8 ok K0 y X X hk hd hv ?_) nofun
 rw [show ((Value.ref C::fU P).contains (.ref C))=true from List.contains_iff_mem.mpr (.head _)]
 exact codeAny_handlers_suite (NT ok y λh3 y3=>OH λqT v hv=>hq h3 qT v y3.ve hv)
theorem Qi{s:Str}{c k:Nat}{r t u:Pos}(ok:aX G fx n b)(K0:G.K.In G.b0)(y:mz G fx b H C ea h)(X:qZ G.K C P)(X':qZ G.K C' P')(h1:C'≠C)(h2:C'≠P)(hk:fx.env.kindOf x=some .globalImplicit)(hd:(x==("__debug__":Str))=false)(hv:nsIn G.K mainGlobals x=some (some (.ref C')))
 (hq:wpAny G.M fx.A (handleBy (.ref ea) fx.env rest) Q Ed (G.sh h tk)):
 wpAny G.M fx.A (handleBy (.ref ea) fx.env (.ExceptHandler (some (.Name x q)) none [.Return (some (.Tuple [.Constant (.str s) c r] k t)) u] v::rest)) Q Ed (G.sh h tk):=by
 refine wpAny_handleBy_cons (F8 ok K0 y X X' hk hd hv ?_) nofun
 rw [show ((Value.ref C::fU P).contains (.ref C'))=false by simp [h1,h2]]
 exact hq
end
theorem Qj{P1 P2 C1 C2 f1 f2:Nat}(ok:aX G fx n b)(K0:G.K.In G.b0)(X1:kR G C1 P1 f1)(X2:kR G C2 P2 f2)(hne:C1≠C2)(CH:P2≠C1){x1 x2:Str}{q1 q2 v1 v2:Pos}{s1 s2:Str}{c1 k1 c2 k2:Nat}{r1 t1 u1 r2 t2 u2:Pos}
 (pK:fx.env.kindOf x1=some .globalImplicit)(pI:(x1==("__debug__":Str))=false)(yS:nsIn G.K mainGlobals x1=some (some (.ref C1)))
 (vt:fx.env.kindOf x2=some .globalImplicit)(qL:(x2==("__debug__":Str))=false)(nM:nsIn G.K mainGlobals x2=some (some (.ref C2)))
 (hC:C=C1\/C=C2)(x:dK G fx b H C ea h){Q:Flow->Shared->Prop}{Ed:Value->Shared->Prop}
 (hq:∀h' bg v,dK G fx b H C ea h'->er v=.str (if C=C1 then s1 else s2).cps.toList->Q (.ret (.ref h'.objs.size)) (G.sh (h'.push {cls:=.type "tuple",data:=.seq [v].toArray}) bg)):
 wpAny G.M fx.A (noteFrame (.ref ea) fx.env) (λ_ s₂=>wpAny G.M fx.A (setFlight (.ref ea) none) (λ_ s₃=>wpAny G.M fx.A (handleBy (.ref ea) fx.env
  [.ExceptHandler (some (.Name x1 q1)) none [.Return (some (.Tuple [.Constant (.str s1) c1 r1] k1 t1)) u1] v1,.ExceptHandler (some (.Name x2 q2)) none [.Return (some (.Tuple [.Constant (.str s2) c2 r2] k2 t2)) u2] v2]) Q Ed s₃) Ed s₂) Ed (G.sh h tk):=by
 refine wpAny_mono (zY (Ed:=Ed) ok ok.mT x) (λZaa s' q=>?_) λZaa Zaa q=>q
 induction q with|mk h' bg e x'=>
 subst e
 refine OE ok x' λh2 y=>?_
 rcases hC with rfl|rfl
 ·exact Ht ok K0 y X1.hC pK pI yS λh3 qT v y3 hv=>hq h3 qT v y3 (by rw [if_pos rfl];exact hv)
 ·exact Qi ok K0 y X2.hC X1.hC hne CH.symm pK pI yS (Ht ok K0 y X2.hC vt qL nM λh3 qT v y3 hv=>hq h3 qT v y3 (by rw [if_neg hne.symm];exact hv))
end
section
variable{G:Gx}{tb:cQ}{n:Nat}{fx:Fx}{E:Addr->AH->Prop}{m:MM}{H:AH}
theorem M9{ex:List Nat}(tok:m8 G tb)(b7:∀C∈ex,mO G C)(K0:G.K.In G.b0){P1 P2 C1 C2 f1 f2:Nat}(X1:kR G C1 P1 f1)(X2:kR G C2 P2 f2)(hne:C1≠C2)(CH:P2≠C1)
 {f F:Nat}{fd:FuncData}{body:List Stmt}{ir:List S}{x1 x2:Str}{q1 q2 v1 v2 pos:Pos}{s1 s2:Str}{c1 k1 c2 k2:Nat}{r1 t1 u1 r2 t2 u2:Pos}{ns:List Str}{args:List AV}{vs:List Value}{Q:AV->AH->Prop}
 (hf:jS G.K f=some (fd,[.Try body [.ExceptHandler (some (.Name x1 q1)) none [.Return (some (.Tuple [.Constant (.str s1) c1 r1] k1 t1)) u1] v1,.ExceptHandler (some (.Name x2 q2)) none [.Return (some (.Tuple [.Constant (.str s2) c2 r2] k2 t2)) u2] v2] [] [] pos]))
 (hs:wN fd=true)(pJ:fd.params.args.map (·.arg)=ns)(e8:ns.Nodup)(hkind:∀x∈ns,fd.scope.names.lookup x=some .local)(hlen:args.length=ns.length)
 (pK:fd.scope.names.lookup x1=some .globalImplicit)(pI:(x1==("__debug__":Str))=false)(yS:nsIn G.K mainGlobals x1=some (some (.ref C1)))
 (vt:fd.scope.names.lookup x2=some .globalImplicit)(qL:(x2==("__debug__":Str))=false)(nM:nsIn G.K mainGlobals x2=some (some (.ref C2)))
 (hir:(qX F ⟨G.K,fd.scope,ns,true⟩ ex body).map (·.1)=some ir)(ho:fx.outer=[])(hl:fx.env.locals=fx.Lf)(dD:vs.map er=args)
 (hv:iL G tb n ir (λfl m' H'=>∃v,fl=.ret v/\Q v H') (λC H'=>(C=C1\/C=C2)/\∀T,H' T=none->Q (.ref T) (H'.ai T (.aj [.str (if C=C1 then s1 else s2).cps.toList]))) (args.map some) H):
 AW G (n+1) fx (call (.ref f) vs []) VA (λv m' H'=>m'=m/\Q v H') E m H:=λb hh tk ok r=>by
 refine wpAny_call (codeAny_mono (Ew (RR:=xJ G fx b m Q λZaa Zaa=>False) hf (λvs dD=>by rw [wu hs (by rw [pJ];exact e8) (by rw [pJ];exact dD),pJ]) (List.prefix_rfl (l:=ns)) e8 (λx hx=>.inl (hkind x hx)) hlen ok r dD λcV b' h₁ mY ff sV hou r' bk bkx _=>?_) λrr s' q=>?_)
 ·rw [Nat.sub_self,List.replicate_zero,List.append_nil] at r'
  obtain ⟨ir',-,rfl⟩:=Option.map_eq_some_iff.mp hir
  have kk:∀{x},fd.scope.names.lookup x=some .globalImplicit->cV.env.kindOf x=some .globalImplicit:=λh=>by unfold Env.kindOf;rw [ff.sc];exact h
  refine wpAny_execs_cons (wpAny_Try_except (qm (mV ir'.2 ⟨tok,(⟨rfl,ff.sc,ff.nm,ff.nd,λZaa=>ff.wr⟩:fV G ⟨G.K,fd.scope,ns,true⟩ cV)⟩ b7 hv b' h₁ mY sV r') (λe s1 q=>?_) λfl h' bg m' H' y r2 l q=>?_))
  ·induction q with|mk h' bg H' C ea e1 e2 x q=>
   subst e1 e2
   refine Qj sV K0 X1 X2 hne CH (kk pK) pI yS (kk vt) qL nM q.1 x λh2 ja v x2 nM=>?_
   have r4:=(bkx ho hl _ _ _ _ x2).push (ob:={cls:=.type "tuple",data:=.seq [v].toArray}) (o:=.aj ([v].map er)) ok rfl λD=>zz _
   have q2:=q.2 _ r4.1
   rw [<-nM] at q2
   exact .ok r4.2 q2
  ·obtain ⟨v,e,q⟩:=q
   revert e
   induction l with
   |ret h=>exact λe=>.ok (bk _ _ _ r2) (by cases e;exact h▸q)
   |_=>exact nofun
 ·induction q with
  |ok r q=>exact qn (y:=er _) r rfl ⟨rfl,q⟩
  |er _ q=>exact q.elim
end
noncomputable def D0:List S:=[
 (.az (.attr (.aa 0) [119,111,114,100,115]) (.aa 1)),
 (.az (.attr (.aa 0) [111,102,102,115,101,116,115]) (.aa 2))]
noncomputable def Hu:List S:=[
 (.lq [1,2] (.aj [(.af []),(.c (.int 0))])),
 (.loop (.nm 3) (.aa 0) [
   (.bA (.aQ (.aa 1) [97,112,112,101,110,100] [(.aa 2)])),
   (.az (.nm 2) (.aA .Add (.aa 2) (.aa 3)))]),
 (.ret (.call (.cls 82 79) [(.aa 2),(.aa 1)]))]
noncomputable def EA:List S:=[
 (.az (.attr (.aa 0) [111,112]) (.aa 1)),
 (.az (.attr (.aa 0) [111,117,116,115]) (.aa 2)),
 (.az (.attr (.aa 0) [105,110,115]) (.aa 3)),
 (.az (.attr (.aa 0) [110,117,109]) (.aa 4))]
noncomputable def DT:List S:=[
 (.az (.attr (.aa 0) [110,117,109,98,101,114]) (.aa 1)),
 (.az (.attr (.aa 0) [114,111,119,115]) (.af [])),
 (.az (.attr (.aa 0) [102,111,108,108,111,119,101,114,115]) (.af []))]
noncomputable def D3:List S:=[
 (.az (.attr (.aa 0) [110,97,109,101]) (.aa 1)),
 (.az (.attr (.aa 0) [112,97,114,97,109,115]) (.af [])),
 (.az (.attr (.aa 0) [98,108,111,99,107,115]) (.af [])),
 (.az (.attr (.aa 0) [115,108,111,116,115]) (.af [])),
 (.az (.attr (.aa 0) [114,101,103,105,115,116,101,114,115]) (.c (.int 64)))]
noncomputable def Du:List S:=[
 (.bA (.aQ (.attr (.aa 0) [115,108,111,116,115]) [97,112,112,101,110,100] [(.aa 1)])),
 (.ret (.aA .Sub (.call (.bi .len) [(.attr (.aa 0) [115,108,111,116,115])]) (.c (.int 1))))]
noncomputable def Dt:List S:=[
 (.az (.nm 1) (.call (.cls 138 135) [(.call (.bi .len) [(.attr (.aa 0) [98,108,111,99,107,115])])])),
 (.bA (.aQ (.attr (.aa 0) [98,108,111,99,107,115]) [97,112,112,101,110,100] [(.aa 1)])),
 (.ret (.aa 1))]
noncomputable def D4:List S:=[
 (.ret (.cmp .GtE (.aa 0) (.c (.int 64))))]
noncomputable def Dw:List S:=[
 (.ret (.aC (.val (.call (.fn 191) [(.aa 0)])) (.aA .Add (.c (.str [118])) (.call (.bi .str) [(.aA .Sub (.aa 0) (.c (.int 64)))])) (.aA .Add (.c (.str [114])) (.call (.bi .str) [(.aa 0)]))))]
noncomputable def Em:List S:=[
 (.az (.attr (.aa 0) [109,102,117,110,99]) (.aa 1)),
 (.az (.attr (.aa 0) [98,108,111,99,107]) (.c (.int 0))),
 (.az (.attr (.aa 0) [97,116]) (.c (.int 0))),
 (.az (.attr (.aa 0) [111,119,110]) .dE),
 (.az (.attr (.aa 0) [98,97,115,101]) (.aa 2)),
 (.az (.attr (.aa 0) [102,114,97,109,101]) (.call (.fn 93) [(.attr (.aa 1) [115,108,111,116,115])])),
 (.az (.attr (.aa 0) [107,101,112,116]) (.aa 3)),
 (.az (.attr (.aa 0) [111,117,116,115]) (.aa 4))]
noncomputable def DI:List S:=[
 (.az (.attr (.aa 0) [109,102,117,110,99,115]) .dE),
 (.loop (.nm 7) (.aa 1) [
   (.az (.sub (.attr (.aa 0) [109,102,117,110,99,115]) (.attr (.aa 7) [110,97,109,101])) (.aa 7))]),
 (.az (.attr (.aa 0) [116,97,114,103,101,116]) (.aa 2)),
 (.az (.attr (.aa 0) [109,97,115,107]) (.aA .Sub (.aA .LShift (.c (.int 1)) (.attr (.aa 2) [98,105,116,115])) (.c (.int 1)))),
 (.az (.attr (.aa 0) [109,101,109,111,114,121]) (.call (.bi .dict) [(.aa 3)])),
 (.az (.attr (.aa 0) [110,97,109,101,115]) (.aa 4)),
 (.az (.attr (.aa 0) [111,117,116,101,114]) (.aa 5)),
 (.az (.attr (.aa 0) [115,116,101,112,115]) (.aa 6)),
 (.az (.attr (.aa 0) [116,114,97,99,101]) (.af [])),
 (.az (.attr (.aa 0) [114,101,103,105,115,116,101,114,115]) .dE),
 (.az (.attr (.aa 0) [99,97,108,108,115]) (.af [])),
 (.az (.attr (.aa 0) [102,114,101,101]) (.aA .Add (.call (.bi .max) [(.aA .Add (.af [(.c (.int 0))]) (.call (.bi .sorted) [(.attr (.aa 0) [109,101,109,111,114,121])]))]) (.c (.int 1))))]
noncomputable def DJ:List S:=[
 (.aC (.cmp .Eq (.aa 1) (.attr (.attr (.aa 0) [116,97,114,103,101,116]) [122,101,114,111])) [
   (.ret (.c (.int 0)))] []),
 (.az (.nm 2) (.aC (.val (.call (.fn 191) [(.aa 1)])) (.attr (.item (.attr (.aa 0) [99,97,108,108,115]) (.neg (.c (.int 1)))) [111,119,110]) (.attr (.aa 0) [114,101,103,105,115,116,101,114,115]))),
 (.aC (.cmp .NotIn (.aa 1) (.aa 2)) [
   (.raise 63 (.aA .Add (.call (.fn 198) [(.aa 1)]) (.c (.str [32,104,97,115,32,110,111,32,118,97,108,117,101]))))] []),
 (.ret (.item (.aa 2) (.aa 1)))]
noncomputable def Dy:List S:=[
 (.aC (.cmp .NotEq (.aa 1) (.attr (.attr (.aa 0) [116,97,114,103,101,116]) [122,101,114,111])) [
   (.az (.nm 3) (.aC (.val (.call (.fn 191) [(.aa 1)])) (.attr (.item (.attr (.aa 0) [99,97,108,108,115]) (.neg (.c (.int 1)))) [111,119,110]) (.attr (.aa 0) [114,101,103,105,115,116,101,114,115]))),
   (.az (.sub (.aa 3) (.aa 1)) (.aA .BitAnd (.aa 2) (.attr (.aa 0) [109,97,115,107])))] [])]
noncomputable def DK:List S:=[
 (.aC (.cmp .NotIn (.aA .BitAnd (.aa 1) (.attr (.aa 0) [109,97,115,107])) (.attr (.aa 0) [109,101,109,111,114,121])) [
   (.raise 63 (.aA .Add (.c (.str [110,111,32,119,111,114,100,32,97,116,32])) (.call (.bi .str) [(.aA .BitAnd (.aa 1) (.attr (.aa 0) [109,97,115,107]))])))] []),
 (.ret (.item (.attr (.aa 0) [109,101,109,111,114,121]) (.aA .BitAnd (.aa 1) (.attr (.aa 0) [109,97,115,107]))))]
noncomputable def Dz:List S:=[
 (.aC (.cmp .NotIn (.aA .BitAnd (.aa 1) (.attr (.aa 0) [109,97,115,107])) (.attr (.aa 0) [109,101,109,111,114,121])) [
   (.raise 63 (.aA .Add (.c (.str [110,111,32,119,111,114,100,32,97,116,32])) (.call (.bi .str) [(.aA .BitAnd (.aa 1) (.attr (.aa 0) [109,97,115,107]))])))] []),
 (.az (.sub (.attr (.aa 0) [109,101,109,111,114,121]) (.aA .BitAnd (.aa 1) (.attr (.aa 0) [109,97,115,107]))) (.aa 2))]
noncomputable def DO:List S:=[
 (.az (.nm 2) (.item (.attr (.aa 0) [99,97,108,108,115]) (.neg (.c (.int 1))))),
 (.ret (.aA .Add (.attr (.aa 2) [98,97,115,101]) (.item (.attr (.attr (.aa 2) [102,114,97,109,101]) [111,102,102,115,101,116,115]) (.aa 1))))]
noncomputable def DA:List S:=[
 (.aC (.cmp .GtE (.call (.bi .len) [(.attr (.aa 0) [99,97,108,108,115])]) (.c (.int 64))) [
   (.raise 51 (.c (.str [100,101,112,116,104])))] []),
 (.az (.nm 3) .dE),
 (.loop (.nm 4) (.attr (.attr (.aa 0) [116,97,114,103,101,116]) [115,97,118,101,100]) [
   (.aC (.cmp .In (.aa 4) (.attr (.aa 0) [114,101,103,105,115,116,101,114,115])) [
     (.az (.sub (.aa 3) (.aa 4)) (.item (.attr (.aa 0) [114,101,103,105,115,116,101,114,115]) (.aa 4)))] [])]),
 (.az (.nm 5) (.call (.cls 215 212) [(.aa 1),(.attr (.aa 0) [102,114,101,101]),(.aa 3),(.aa 2)])),
 (.aC (.cmp .Gt (.aA .Add (.attr (.aa 5) [98,97,115,101]) (.attr (.attr (.aa 5) [102,114,97,109,101]) [119,111,114,100,115])) (.aA .Add (.attr (.aa 0) [109,97,115,107]) (.c (.int 1)))) [
   (.raise 51 (.c (.str [100,101,112,116,104])))] []),
 (.loop (.nm 6) (.call (.bi .range) [(.attr (.attr (.aa 5) [102,114,97,109,101]) [119,111,114,100,115])]) [
   (.az (.sub (.attr (.aa 0) [109,101,109,111,114,121]) (.aA .Add (.attr (.aa 5) [98,97,115,101]) (.aa 6))) (.c (.int 0)))]),
 (.az (.attr (.aa 0) [102,114,101,101]) (.aA .Add (.attr (.aa 5) [98,97,115,101]) (.attr (.attr (.aa 5) [102,114,97,109,101]) [119,111,114,100,115]))),
 (.bA (.aQ (.attr (.aa 0) [99,97,108,108,115]) [97,112,112,101,110,100] [(.aa 5)]))]
noncomputable def DB:List S:=[
 (.loop (.nm 3) (.attr (.attr (.aa 0) [116,97,114,103,101,116]) [97,108,108,111,99,97,116,97,98,108,101]) [
   (.aC (.cmp .NotIn (.aa 3) (.attr (.attr (.aa 0) [116,97,114,103,101,116]) [115,97,118,101,100])) [
     (.bA (.aQ (.attr (.aa 0) [114,101,103,105,115,116,101,114,115]) [112,111,112] [(.aa 3),(.c .none)]))] [])]),
 (.loop (.nm 3) (.aA .Add (.aA .Add (.call (.bi .list) [(.attr (.attr (.aa 0) [116,97,114,103,101,116]) [97,114,103,115])]) (.call (.bi .list) [(.attr (.attr (.aa 0) [116,97,114,103,101,116]) [115,99,114,97,116,99,104])])) (.af [(.attr (.attr (.aa 0) [116,97,114,103,101,116]) [114,101,115,117,108,116])])) [
   (.aC (.cmp .NotIn (.aa 3) (.attr (.attr (.aa 0) [116,97,114,103,101,116]) [115,97,118,101,100])) [
     (.bA (.aQ (.attr (.aa 0) [114,101,103,105,115,116,101,114,115]) [112,111,112] [(.aa 3),(.c .none)]))] [])]),
 (.aC (.val (.aa 1)) [
   (.aC (.cmp .Is (.aa 2) (.c .none)) [
     (.raise 63 (.c (.str [97,32,99,97,108,108,32,119,105,116,104,111,117,116,32,97,32,114,101,115,117,108,116])))] []),
   (.bA (.aQ (.aa 0) [119,114,105,116,101] [(.item (.aa 1) (.c (.int 0))),(.aa 2)]))] [])]
noncomputable def wc:List S:=[
 (.az (.nm 2) (.aC (.val (.attr (.aa 1) [105,110,115])) (.aQ (.aa 0) [114,101,97,100] [(.item (.attr (.aa 1) [105,110,115]) (.c (.int 0)))]) (.c .none))),
 (.az (.nm 3) (.aQ (.attr (.aa 0) [99,97,108,108,115]) [112,111,112] [])),
 (.sC (.aj [(.nm 4),(.nm 5)]) (.aQ (.attr (.aa 3) [107,101,112,116]) [105,116,101,109,115] []) [
   (.aC (.cmp .NotEq (.aQ (.attr (.aa 0) [114,101,103,105,115,116,101,114,115]) [103,101,116] [(.aa 4),(.neg (.c (.int 1)))]) (.aa 5)) [
     (.raise 63 (.aA .Add (.aA .Add (.call (.fn 198) [(.aa 4)]) (.c (.str [32,105,115,32,110,111,116,32,103,105,118,101,110,32,98,97,99,107,32,105,110,32]))) (.attr (.attr (.aa 3) [109,102,117,110,99]) [110,97,109,101])))] [])]),
 (.loop (.nm 6) (.call (.bi .range) [(.attr (.attr (.aa 3) [102,114,97,109,101]) [119,111,114,100,115])]) [
   (.bA (.aQ (.attr (.aa 0) [109,101,109,111,114,121]) [112,111,112] [(.aA .Add (.attr (.aa 3) [98,97,115,101]) (.aa 6))]))]),
 (.az (.attr (.aa 0) [102,114,101,101]) (.attr (.aa 3) [98,97,115,101])),
 (.aC (.val (.attr (.aa 0) [99,97,108,108,115])) [
   (.bA (.aQ (.aa 0) [115,112,111,105,108] [(.attr (.aa 3) [111,117,116,115]),(.aa 2)]))] []),
 (.ret (.aa 2))]
noncomputable def zu:List S:=[
 (.aC (.cmp .In (.attr (.aa 1) [110,117,109]) (.attr (.aa 0) [109,102,117,110,99,115])) [
   (.bA (.aQ (.aa 0) [101,110,116,101,114] [(.item (.attr (.aa 0) [109,102,117,110,99,115]) (.attr (.aa 1) [110,117,109])),(.attr (.aa 1) [111,117,116,115])])),
   (.ret (.c .none))] []),
 (.az (.nm 2) (.call (.bi .tuple) [(.comp [0] 1 (.nm 0) (.attr (.aa 1) [105,110,115]) [] (.elt (.aQ (.aa 1) [114,101,97,100] [(.aa 0)])))])),
 (.aC (.cmp .Is (.attr (.aa 0) [111,117,116,101,114]) (.c .none)) [
   (.raise 63 (.aA .Add (.c (.str [110,111,32,102,117,110,99,116,105,111,110,32])) (.attr (.aa 1) [110,117,109])))] []),
 (.az (.nm 3) (.aQ (.aa 0) [111,117,116,101,114] [(.attr (.aa 1) [110,117,109]),(.aa 2),(.call (.bi .len) [(.attr (.aa 0) [116,114,97,99,101])])])),
 (.bA (.aQ (.attr (.aa 0) [116,114,97,99,101]) [97,112,112,101,110,100] [(.aj [(.attr (.aa 1) [110,117,109]),(.aa 2)])])),
 (.bA (.aQ (.aa 0) [115,112,111,105,108] [(.attr (.aa 1) [111,117,116,115]),(.aa 3)]))]
noncomputable def D5:List S:=[
 (.az (.attr (.item (.attr (.aa 0) [99,97,108,108,115]) (.neg (.c (.int 1)))) [98,108,111,99,107]) (.aa 1)),
 (.az (.attr (.item (.attr (.aa 0) [99,97,108,108,115]) (.neg (.c (.int 1)))) [97,116]) (.c (.int 0)))]
noncomputable def DC:List S:=[
 (.az (.nm 2) (.attr (.aa 1) [111,112])),
 (.aC (.cmp .Eq (.aa 2) (.c (.str [109,118]))) [
   (.bA (.aQ (.aa 0) [119,114,105,116,101] [(.item (.attr (.aa 1) [111,117,116,115]) (.c (.int 0))),(.aQ (.aa 0) [114,101,97,100] [(.item (.attr (.aa 1) [105,110,115]) (.c (.int 0)))])]))] [
   (.aC (.cmp .Eq (.aa 2) (.c (.str [108,105]))) [
     (.bA (.aQ (.aa 0) [119,114,105,116,101] [(.item (.attr (.aa 1) [111,117,116,115]) (.c (.int 0))),(.attr (.aa 1) [110,117,109])]))] [
     (.aC (.cmp .Eq (.aa 2) (.c (.str [106]))) [
       (.bA (.aQ (.aa 0) [103,111] [(.attr (.aa 1) [110,117,109])]))] [
       (.aC (.cmp .Eq (.aa 2) (.c (.str [108,119]))) [
         (.bA (.aQ (.aa 0) [119,114,105,116,101] [(.item (.attr (.aa 1) [111,117,116,115]) (.c (.int 0))),(.aQ (.aa 0) [108,111,97,100] [(.aA .Add (.aQ (.aa 0) [114,101,97,100] [(.item (.attr (.aa 1) [105,110,115]) (.c (.int 0)))]) (.attr (.aa 1) [110,117,109]))])]))] [
         (.aC (.cmp .Eq (.aa 2) (.c (.str [115,119]))) [
           (.bA (.aQ (.aa 0) [115,116,111,114,101] [(.aA .Add (.aQ (.aa 0) [114,101,97,100] [(.item (.attr (.aa 1) [105,110,115]) (.c (.int 1)))]) (.attr (.aa 1) [110,117,109])),(.aQ (.aa 0) [114,101,97,100] [(.item (.attr (.aa 1) [105,110,115]) (.c (.int 0)))])]))] [
           (.aC (.cmp .Eq (.aa 2) (.c (.str [108,100,115,108,111,116]))) [
             (.bA (.aQ (.aa 0) [119,114,105,116,101] [(.item (.attr (.aa 1) [111,117,116,115]) (.c (.int 0))),(.aQ (.aa 0) [108,111,97,100] [(.aQ (.aa 0) [115,108,111,116] [(.attr (.aa 1) [110,117,109])])])]))] [
             (.aC (.cmp .Eq (.aa 2) (.c (.str [115,116,115,108,111,116]))) [
               (.bA (.aQ (.aa 0) [115,116,111,114,101] [(.aQ (.aa 0) [115,108,111,116] [(.attr (.aa 1) [110,117,109])]),(.aQ (.aa 0) [114,101,97,100] [(.item (.attr (.aa 1) [105,110,115]) (.c (.int 0)))])]))] [
               (.aC (.cmp .Eq (.aa 2) (.c (.str [115,108,111,116,97,100,100,114]))) [
                 (.bA (.aQ (.aa 0) [119,114,105,116,101] [(.item (.attr (.aa 1) [111,117,116,115]) (.c (.int 0))),(.aQ (.aa 0) [115,108,111,116] [(.attr (.aa 1) [110,117,109])])]))] [
                 (.aC (.cmp .Eq (.aa 2) (.c (.str [108,97]))) [
                   (.aC (.cmp .NotIn (.attr (.aa 1) [110,117,109]) (.attr (.aa 0) [110,97,109,101,115])) [
                     (.raise 63 (.aA .Add (.c (.str [110,111,32,103,108,111,98,97,108,32])) (.attr (.aa 1) [110,117,109])))] []),
                   (.bA (.aQ (.aa 0) [119,114,105,116,101] [(.item (.attr (.aa 1) [111,117,116,115]) (.c (.int 0))),(.item (.attr (.aa 0) [110,97,109,101,115]) (.attr (.aa 1) [110,117,109]))]))] [
                   (.bA (.aQ (.aa 0) [119,111,114,107,101,100] [(.aa 1)]))])])])])])])])])])]
noncomputable def zp:List S:=[
 (.az (.nm 3) (.aQ (.attr (.aa 0) [116,97,114,103,101,116]) [109,101,97,110,105,110,103] [(.attr (.aa 1) [111,112]),(.comp [0] 1 (.nm 0) (.attr (.aa 1) [105,110,115]) [] (.elt (.aQ (.aa 1) [114,101,97,100] [(.aa 0)]))),(.attr (.aa 1) [110,117,109])])),
 (.aC (.an (.val (.call (.bi .mZ) [(.attr (.aa 1) [110,117,109]),(.c (.ty "tuple"))])) (.cmp .Eq (.call (.bi .len) [(.attr (.aa 1) [110,117,109])]) (.c (.int 2)))) [
   (.bA (.aQ (.aa 0) [103,111] [(.aC (.cmp .Eq (.item (.aa 3) (.c (.int 0))) (.c (.int 1))) (.item (.attr (.aa 1) [110,117,109]) (.c (.int 0))) (.item (.attr (.aa 1) [110,117,109]) (.c (.int 1))))])),
   (.ret (.c .none))] []),
 (.aC (.cmp .NotEq (.call (.bi .len) [(.aa 3)]) (.call (.bi .len) [(.attr (.aa 1) [111,117,116,115])])) [
   (.raise 63 (.aA .Add (.c (.str [111,117,116,115,32,111,102,32])) (.attr (.aa 1) [111,112])))] []),
 (.m9 (.aj [(.nm 2),(.nm 4)]) (.attr (.aa 1) [111,117,116,115]) (.aa 3) [
   (.bA (.aQ (.aa 0) [119,114,105,116,101] [(.aa 2),(.aa 4)]))])]
noncomputable def Dr:List S:=[
 (.az (.nm 1) (.item (.attr (.aa 0) [99,97,108,108,115]) (.neg (.c (.int 1))))),
 (.az (.nm 2) (.attr (.item (.attr (.attr (.aa 1) [109,102,117,110,99]) [98,108,111,99,107,115]) (.attr (.aa 1) [98,108,111,99,107])) [114,111,119,115])),
 (.aC (.cmp .GtE (.attr (.aa 1) [97,116]) (.call (.bi .len) [(.aa 2)])) [
   (.raise 63 (.aA .Add (.aA .Add (.c (.str [97,32,98,108,111,99,107,32,111,102,32])) (.attr (.attr (.aa 1) [109,102,117,110,99]) [110,97,109,101])) (.c (.str [32,119,105,116,104,111,117,116,32,97,110,32,101,110,100]))))] []),
 (.az (.attr (.aa 1) [97,116]) (.aA .Add (.attr (.aa 1) [97,116]) (.c (.int 1)))),
 (.ret (.item (.aa 2) (.aA .Sub (.attr (.aa 1) [97,116]) (.c (.int 1)))))]
noncomputable def DU:List S:=[
 (.aC (.j7 (.cmp .NotIn (.aa 1) (.attr (.aa 0) [109,102,117,110,99,115])) (.cmp .Gt (.call (.bi .len) [(.aa 2)]) (.call (.bi .len) [(.attr (.attr (.aa 0) [116,97,114,103,101,116]) [97,114,103,115])]))) [
   (.raise 63 (.aA .Add (.aA .Add (.c (.str [110,111,32,102,117,110,99,116,105,111,110,32])) (.aa 1)) (.c (.str [32,102,111,114,32,116,104,101,115,101]))))] []),
 (.az (.aj [(.attr (.aa 0) [99,97,108,108,115]),(.attr (.aa 0) [114,101,103,105,115,116,101,114,115])]) (.aj [(.af []),.dE])),
 (.loop (.nm 3) (.attr (.attr (.aa 0) [116,97,114,103,101,116]) [115,97,118,101,100]) [
   (.az (.sub (.attr (.aa 0) [114,101,103,105,115,116,101,114,115]) (.aa 3)) (.aA .BitAnd (.aA .Add (.aA .Mult (.c (.int 31)) (.aa 3)) (.c (.int 5))) (.attr (.aa 0) [109,97,115,107])))]),
 (.m9 (.aj [(.nm 3),(.nm 4)]) (.attr (.attr (.aa 0) [116,97,114,103,101,116]) [97,114,103,115]) (.aa 2) [
   (.az (.sub (.attr (.aa 0) [114,101,103,105,115,116,101,114,115]) (.aa 3)) (.aA .BitAnd (.aa 4) (.attr (.aa 0) [109,97,115,107])))]),
 (.bA (.aQ (.aa 0) [101,110,116,101,114] [(.item (.attr (.aa 0) [109,102,117,110,99,115]) (.aa 1)),(.af [])])),
 (.loop (.nm 5) (.call (.bi .range) [(.attr (.aa 0) [115,116,101,112,115])]) [
   (.az (.nm 6) (.aQ (.aa 0) [110,101,120,116,95,114,111,119] [])),
   (.aC (.cmp .Eq (.attr (.aa 6) [111,112]) (.c (.str [99,97,108,108]))) [
     (.bA (.aQ (.aa 0) [99,97,108,108] [(.aa 6)]))] [
     (.aC (.cmp .Eq (.attr (.aa 6) [111,112]) (.c (.str [114,101,116]))) [
       (.az (.nm 4) (.aQ (.aa 0) [108,101,97,118,101] [(.aa 6)])),
       (.aC (.nt (.val (.attr (.aa 0) [99,97,108,108,115]))) [
         (.ret (.aa 4))] [])] [
       (.bA (.aQ (.aa 0) [112,108,97,105,110] [(.aa 6)]))])])]),
 (.raise 51 (.c (.str [115,116,101,112,115])))]
noncomputable def Fd:List S:=[
 (.ret (.aC (.val (.aA .BitAnd (.aA .RShift (.aa 0) (.aA .Sub (.aa 1) (.c (.int 1)))) (.c (.int 1)))) (.aA .Sub (.aa 0) (.aA .LShift (.c (.int 1)) (.aa 1))) (.aa 0)))]
noncomputable def ES:List S:=[
 (.aC (.cmp .In (.aa 0) (.aj [(.c (.str [98,101,113])),(.c (.str [98,110,101]))])) [
   (.ret (.cmp .Eq (.cmp .Eq (.aa 1) (.aa 2)) (.cmp .Eq (.aa 0) (.c (.str [98,101,113])))))] []),
 (.aC (.cmp .In (.aa 0) (.aj [(.c (.str [115,108,116])),(.c (.str [98,108,116])),(.c (.str [98,103,101]))])) [
   (.lq [1,2] (.aj [(.call (.fn 341) [(.aa 1),(.aa 3)]),(.call (.fn 341) [(.aa 2),(.aa 3)])]))] []),
 (.ret (.cmp .Eq (.cmp .Lt (.aa 1) (.aa 2)) (.cmp .NotIn (.aa 0) (.aj [(.c (.str [98,103,101])),(.c (.str [98,103,101,117]))]))))]
noncomputable def DP:List S:=[
 (.aC (.cmp .Eq (.aa 0) (.c (.str [97,100,100]))) [
   (.ret (.aA .Add (.aa 1) (.aa 2)))] []),
 (.aC (.cmp .Eq (.aa 0) (.c (.str [115,117,98]))) [
   (.ret (.aA .Sub (.aa 1) (.aa 2)))] []),
 (.aC (.cmp .Eq (.aa 0) (.c (.str [109,117,108]))) [
   (.ret (.aA .Mult (.aa 1) (.aa 2)))] []),
 (.aC (.cmp .Eq (.aa 0) (.c (.str [97,110,100]))) [
   (.ret (.aA .BitAnd (.aa 1) (.aa 2)))] []),
 (.aC (.cmp .Eq (.aa 0) (.c (.str [111,114]))) [
   (.ret (.aA .BitOr (.aa 1) (.aa 2)))] []),
 (.aC (.cmp .Eq (.aa 0) (.c (.str [120,111,114]))) [
   (.ret (.aA .BitXor (.aa 1) (.aa 2)))] []),
 (.aC (.cmp .In (.aa 0) (.aj [(.c (.str [115,108,108])),(.c (.str [115,114,108])),(.c (.str [115,114,97]))])) [
   (.ret (.call (.fn 362) [(.aa 0),(.aa 1),(.aa 2),(.aa 3)]))] []),
 (.aC (.cmp .In (.aa 0) (.aj [(.c (.str [100,105,118])),(.c (.str [100,105,118,117])),(.c (.str [114,101,109])),(.c (.str [114,101,109,117]))])) [
   (.ret (.call (.fn 355) [(.aa 0),(.aa 1),(.aa 2),(.aa 3)]))] []),
 (.aC (.cmp .In (.aa 0) (.aj [(.c (.str [115,108,116])),(.c (.str [115,108,116,117])),(.c (.str [98,101,113])),(.c (.str [98,110,101])),(.c (.str [98,108,116])),(.c (.str [98,103,101])),(.c (.str [98,108,116,117])),(.c (.str [98,103,101,117]))])) [
   (.ret (.aC (.val (.call (.fn 369) [(.aa 0),(.aa 1),(.aa 2),(.aa 3)])) (.c (.int 1)) (.c (.int 0))))] []),
 (.raise 63 (.aA .Add (.c (.str [110,111,32,114,111,119,32])) (.aa 0)))]
noncomputable def D6:List S:=[
 (.az (.nm 4) (.aA .Pow (.c (.int 2)) (.aa 3))),
 (.aC (.cmp .Eq (.aa 0) (.c (.str [109,118]))) [
   (.ret (.af [(.item (.aa 1) (.c (.int 0)))]))] []),
 (.aC (.cmp .Eq (.aa 0) (.c (.str [108,105]))) [
   (.ret (.af [(.aA .Mod (.aa 2) (.aa 4))]))] []),
 (.aC (.cmp .Eq (.aa 0) (.c (.str [108,117,105]))) [
   (.ret (.af [(.aA .Mod (.aA .Mult (.aa 2) (.c (.int 4096))) (.aa 4))]))] []),
 (.az (.nm 5) (.dS [[97,100,100,105],[97,110,100,105],[111,114,105],[120,111,114,105],[115,108,116,105],[115,108,116,105,117],[115,108,108,105],[115,114,108,105],[115,114,97,105]] [(.c (.str [97,100,100])),(.c (.str [97,110,100])),(.c (.str [111,114])),(.c (.str [120,111,114])),(.c (.str [115,108,116])),(.c (.str [115,108,116,117])),(.c (.str [115,108,108])),(.c (.str [115,114,108])),(.c (.str [115,114,97]))])),
 (.aC (.cmp .In (.aa 0) (.aa 5)) [
   (.ret (.af [(.aA .Mod (.call (.fn 376) [(.item (.aa 5) (.aa 0)),(.item (.aa 1) (.c (.int 0))),(.aA .Mod (.aa 2) (.aa 4)),(.aa 3)]) (.aa 4))]))] []),
 (.ret (.af [(.aA .Mod (.call (.fn 376) [(.aa 0),(.item (.aa 1) (.c (.int 0))),(.item (.aa 1) (.c (.int 1))),(.aa 3)]) (.aa 4))]))]
noncomputable def DE:List S:=[
 (.az (.attr (.aa 0) [110,97,109,101]) (.c (.str [114,118]))),
 (.az (.attr (.aa 0) [98,105,116,115]) (.aa 1)),
 (.az (.attr (.aa 0) [122,101,114,111]) (.c (.int 0))),
 (.az (.attr (.aa 0) [97,108,108,111,99,97,116,97,98,108,101]) (.af [(.c (.int 7)),(.c (.int 28)),(.c (.int 29)),(.c (.int 30)),(.c (.int 31)),(.c (.int 9)),(.c (.int 18)),(.c (.int 19)),(.c (.int 20)),(.c (.int 21)),(.c (.int 22)),(.c (.int 23)),(.c (.int 24)),(.c (.int 25)),(.c (.int 26)),(.c (.int 27))])),
 (.az (.attr (.aa 0) [97,114,103,115]) (.af [(.c (.int 10)),(.c (.int 11)),(.c (.int 12)),(.c (.int 13)),(.c (.int 14)),(.c (.int 15)),(.c (.int 16)),(.c (.int 17))])),
 (.az (.attr (.aa 0) [114,101,115,117,108,116]) (.c (.int 10))),
 (.az (.attr (.aa 0) [115,97,118,101,100]) (.af [(.c (.int 9)),(.c (.int 18)),(.c (.int 19)),(.c (.int 20)),(.c (.int 21)),(.c (.int 22)),(.c (.int 23)),(.c (.int 24)),(.c (.int 25)),(.c (.int 26)),(.c (.int 27))])),
 (.az (.attr (.aa 0) [115,99,114,97,116,99,104]) (.af [(.c (.int 5)),(.c (.int 6))])),
 (.az (.attr (.aa 0) [105,115,95,116,119,111]) (.c (.bool false)))]
noncomputable def Ds:List S:=[
 (.ret (.call (.fn 383) [(.aa 1),(.aa 2),(.aa 3),(.attr (.aa 0) [98,105,116,115])]))]
noncomputable def D7:List S:=[
 (.aC (.cmp .Eq (.aa 0) (.c (.str [97,100,100]))) [
   (.ret (.aA .Add (.aa 1) (.aa 2)))] []),
 (.aC (.cmp .Eq (.aa 0) (.c (.str [115,117,98]))) [
   (.ret (.aA .Sub (.aa 1) (.aa 2)))] []),
 (.aC (.cmp .Eq (.aa 0) (.c (.str [109,117,108]))) [
   (.ret (.aA .Mult (.aa 1) (.aa 2)))] []),
 (.aC (.cmp .Eq (.aa 0) (.c (.str [97,110,100]))) [
   (.ret (.aA .BitAnd (.aa 1) (.aa 2)))] []),
 (.aC (.cmp .Eq (.aa 0) (.c (.str [111,114]))) [
   (.ret (.aA .BitOr (.aa 1) (.aa 2)))] []),
 (.aC (.cmp .Eq (.aa 0) (.c (.str [120,111,114]))) [
   (.ret (.aA .BitXor (.aa 1) (.aa 2)))] []),
 (.aC (.cmp .In (.aa 0) (.aj [(.c (.str [115,104,108])),(.c (.str [115,104,114])),(.c (.str [115,97,114]))])) [
   (.ret (.call (.fn 436) [(.aa 0),(.aa 1),(.aa 2),(.aa 3)]))] []),
 (.aC (.cmp .Eq (.aa 0) (.c (.str [115,101,113]))) [
   (.ret (.call (.bi .int) [(.cmp .Eq (.aa 1) (.aa 2))]))] []),
 (.aC (.cmp .Eq (.aa 0) (.c (.str [115,108,116,117]))) [
   (.ret (.call (.bi .int) [(.cmp .Lt (.aa 1) (.aa 2))]))] []),
 (.aC (.cmp .Eq (.aa 0) (.c (.str [115,108,116]))) [
   (.ret (.call (.bi .int) [(.cmp .Lt (.call (.fn 341) [(.aa 1),(.aa 3)]) (.call (.fn 341) [(.aa 2),(.aa 3)]))]))] []),
 (.ret (.call (.fn 429) [(.aa 0),(.aa 1),(.aa 2),(.aa 3)]))]
noncomputable def DV:List S:=[
 (.aC (.cmp .Eq (.aa 0) (.c (.str [109,118]))) [
   (.ret (.af [(.item (.aa 1) (.c (.int 0)))]))] []),
 (.aC (.cmp .Eq (.aa 0) (.c (.str [108,105]))) [
   (.ret (.af [(.aA .Mod (.aa 2) (.aA .Pow (.c (.int 2)) (.aa 3)))]))] []),
 (.aC (.cmp .Eq (.aa 0) (.c (.str [110,101,103]))) [
   (.ret (.af [(.aA .Mod (.neg (.item (.aa 1) (.c (.int 0)))) (.aA .Pow (.c (.int 2)) (.aa 3)))]))] []),
 (.aC (.cmp .Eq (.aa 0) (.c (.str [110,111,116]))) [
   (.ret (.af [(.aA .Mod (.aA .Sub (.neg (.c (.int 1))) (.item (.aa 1) (.c (.int 0)))) (.aA .Pow (.c (.int 2)) (.aa 3)))]))] []),
 (.aC (.cmp .Eq (.aa 0) (.c (.str [106,110,122]))) [
   (.ret (.af [(.call (.bi .int) [(.cmp .NotEq (.item (.aa 1) (.c (.int 0))) (.c (.int 0)))])]))] []),
 (.aC (.cmp .In (.aa 0) (.c (.ref 421))) [
   (.ret (.af [(.call (.fn 443) [(.item (.c (.ref 421)) (.aa 0)),(.item (.aa 1) (.c (.int 0))),(.item (.aa 1) (.c (.int 1))),(.aa 3)])]))] []),
 (.aC (.cmp .In (.aa 0) (.c (.ref 422))) [
   (.ret (.af [(.aA .Sub (.c (.int 1)) (.call (.fn 443) [(.item (.c (.ref 422)) (.aa 0)),(.item (.aa 1) (.c (.int 0))),(.item (.aa 1) (.c (.int 1))),(.aa 3)]))]))] []),
 (.aC (.cmp .In (.aa 0) (.c (.ref 420))) [
   (.ret (.af [(.aA .Mod (.call (.fn 443) [(.item (.c (.ref 420)) (.aa 0)),(.item (.aa 1) (.c (.int 0))),(.aA .Mod (.aa 2) (.aA .Pow (.c (.int 2)) (.aa 3))),(.aa 3)]) (.aA .Pow (.c (.int 2)) (.aa 3)))]))] []),
 (.aC (.cmp .NotIn (.aa 0) (.c (.ref 419))) [
   (.raise 63 (.aA .Add (.c (.str [110,111,32,114,111,119,32])) (.aa 0)))] []),
 (.ret (.af [(.aA .Mod (.call (.fn 443) [(.aa 0),(.item (.aa 1) (.c (.int 0))),(.item (.aa 1) (.c (.int 1))),(.aa 3)]) (.aA .Pow (.c (.int 2)) (.aa 3)))]))]
noncomputable def Dv:List S:=[
 (.az (.attr (.aa 0) [110,97,109,101]) (.c (.str [116,119,111]))),
 (.az (.attr (.aa 0) [98,105,116,115]) (.aa 1)),
 (.az (.attr (.aa 0) [122,101,114,111]) (.neg (.c (.int 1)))),
 (.az (.attr (.aa 0) [97,108,108,111,99,97,116,97,98,108,101]) (.af [(.c (.int 0)),(.c (.int 1)),(.c (.int 2)),(.c (.int 3)),(.c (.int 4)),(.c (.int 5))])),
 (.az (.attr (.aa 0) [97,114,103,115]) (.af [(.c (.int 0)),(.c (.int 1)),(.c (.int 2))])),
 (.az (.attr (.aa 0) [114,101,115,117,108,116]) (.c (.int 0))),
 (.az (.attr (.aa 0) [115,97,118,101,100]) (.af [(.c (.int 4)),(.c (.int 5))])),
 (.az (.attr (.aa 0) [115,99,114,97,116,99,104]) (.af [(.c (.int 6)),(.c (.int 7))])),
 (.az (.attr (.aa 0) [105,115,95,116,119,111]) (.c (.bool true)))]
noncomputable def Dq:List S:=[
 (.ret (.call (.fn 450) [(.aa 1),(.aa 2),(.aa 3),(.attr (.aa 0) [98,105,116,115])]))]
noncomputable def EB:List S:=[
 (.az (.aj [(.nm 2),(.nm 3),(.nm 4)]) (.aa 0)),
 (.az (.nm 5) (.cmp .Lt (.aa 3) (.call (.bi .len) [(.aa 2)]))),
 (.az (.nm 6) (.aC (.val (.aa 5)) (.item (.aa 2) (.aa 3)) (.c (.int 0)))),
 (.az (.aj [(.sub (.aa 0) (.c (.int 1))),(.sub (.aa 0) (.c (.int 2)))]) (.aj [(.aA .Add (.aa 3) (.c (.int 1))),(.aA .Mod (.aA .Add (.aA .Add (.aA .Mult (.aa 4) (.c (.int 75))) (.aa 6)) (.c (.int 74))) (.c (.int 65537)))])),
 (.ret (.aA .Mod (.aC (.val (.aa 5)) (.aa 6) (.item (.aa 0) (.c (.int 2)))) (.aa 1)))]
noncomputable def En:List S:=[
 (.aC (.cmp .Eq (.aa 0) (.c (.int 0))) [
   (.az (.nm 2) (.af [(.c (.int 9)),(.c (.int 18)),(.c (.int 19)),(.c (.int 20)),(.c (.int 21)),(.c (.int 22)),(.c (.int 23)),(.c (.int 24)),(.c (.int 25)),(.c (.int 26)),(.c (.int 27))])),
   (.az (.nm 3) (.af [(.c (.int 10)),(.c (.int 11)),(.c (.int 12)),(.c (.int 13)),(.c (.int 14)),(.c (.int 15)),(.c (.int 16)),(.c (.int 17))])),
   (.ret (.dS [[98,105,116,115],[122,101,114,111],[107,101,112,116],[97,114,103,115],[115,112,111,105,108,101,100],[112,108,97,105,110]] [(.aa 1),(.c (.int 0)),(.aa 2),(.aa 3),(.aA .Add (.aa 3) (.af [(.c (.int 7)),(.c (.int 28)),(.c (.int 29)),(.c (.int 30)),(.c (.int 31)),(.c (.int 5)),(.c (.int 6))])),(.af [(.c (.int 7)),(.c (.int 28)),(.c (.int 5))])]))] []),
 (.ret (.dS [[98,105,116,115],[122,101,114,111],[107,101,112,116],[97,114,103,115],[115,112,111,105,108,101,100],[112,108,97,105,110]] [(.aa 1),(.neg (.c (.int 1))),(.af [(.c (.int 4)),(.c (.int 5))]),(.af [(.c (.int 0)),(.c (.int 1)),(.c (.int 2))]),(.af [(.c (.int 0)),(.c (.int 1)),(.c (.int 2)),(.c (.int 3)),(.c (.int 6)),(.c (.int 7))]),(.af [(.c (.int 3)),(.c (.int 1)),(.c (.int 6))])]))]
noncomputable def Fe:List S:=[
 (.aC (.cmp .Eq (.call (.fn 522) [(.aa 0),(.c (.int 16))]) (.c (.int 15))) [
   (.az (.nm 3) (.call (.fn 522) [(.aa 0),(.c (.int 10))])),
   (.ret (.aC (.cmp .Lt (.aa 3) (.c (.int 5))) (.aA .Add (.c (.int 64)) (.aa 3)) (.item (.aA .Add (.sl (.item (.aa 1) (.c (.str [97,114,103,115]))) (.c (.int 3))) (.sl (.item (.aa 1) (.c (.str [112,108,97,105,110]))) (.c (.int 2)))) (.aA .Sub (.aa 3) (.c (.int 5))))))] []),
 (.ret (.item (.aa 2) (.call (.fn 522) [(.aa 0),(.call (.bi .len) [(.aa 2)])])))]
noncomputable def ET:List S:=[
 (.az (.nm 3) (.call (.fn 522) [(.aa 0),(.c (.int 10))])),
 (.aC (.cmp .Lt (.aa 3) (.c (.int 6))) [
   (.ret (.aA .Add (.c (.int 64)) (.aA .Mod (.aa 3) (.c (.int 4)))))] []),
 (.aC (.cmp .Lt (.aa 3) (.c (.int 8))) [
   (.ret (.item (.item (.aa 1) (.c (.str [112,108,97,105,110]))) (.call (.fn 522) [(.aa 0),(.c (.int 3))])))] []),
 (.aC (.cmp .Eq (.aa 3) (.c (.int 8))) [
   (.ret (.aC (.cmp .Eq (.call (.fn 522) [(.aa 0),(.c (.int 2))]) (.c (.int 0))) (.call (.bi .max) [(.item (.aa 1) (.c (.str [122,101,114,111]))),(.item (.item (.aa 1) (.c (.str [97,114,103,115]))) (.c (.int 0)))]) (.call (.bi .max) [(.c (.int 0)),(.item (.aa 1) (.c (.str [122,101,114,111])))])))] []),
 (.ret (.aC (.cmp .GtE (.aa 2) (.c (.int 0))) (.aa 2) (.aC (.cmp .Eq (.call (.fn 522) [(.aa 0),(.c (.int 4))]) (.c (.int 3))) (.item (.item (.aa 1) (.c (.str [107,101,112,116]))) (.c (.int 1))) (.c (.int 67)))))]
noncomputable def zx:List S:=[
 (.az (.nm 5) (.call (.fn 522) [(.aa 0),(.c (.int 8))])),
 (.aC (.an (.val (.aa 3)) (.cmp .Gt (.aa 5) (.c (.int 3)))) [
   (.az (.nm 6) (.call (.fn 522) [(.aa 0),(.call (.bi .len) [(.aa 3)])])),
   (.aC (.cmp .Gt (.aa 5) (.c (.int 5))) [
     (.bA (.aQ (.aa 4) [97,112,112,101,110,100] [(.aj [(.c (.str [108,100,115,108,111,116])),(.af [(.aA .Add (.c (.int 64)) (.aA .Mod (.aa 5) (.c (.int 2))))]),(.af []),(.aa 6)])])),
     (.ret (.aA .Add (.c (.int 64)) (.aA .Mod (.aa 5) (.c (.int 2)))))] []),
   (.aC (.cmp .Eq (.aa 5) (.c (.int 5))) [
     (.bA (.aQ (.aa 4) [97,112,112,101,110,100] [(.aj [(.c (.str [115,116,115,108,111,116])),(.af []),(.af [(.call (.fn 536) [(.aa 0),(.aa 1),(.aa 2)])]),(.aa 6)])])),
     (.ret (.neg (.c (.int 1))))] []),
   (.bA (.aQ (.aa 4) [97,112,112,101,110,100] [(.aj [(.c (.str [115,108,111,116,97,100,100,114])),(.af [(.c (.int 68))]),(.af []),(.aa 6)])]))] [
   (.bA (.aQ (.aa 4) [97,112,112,101,110,100] [(.aj [(.c (.str [108,97])),(.af [(.c (.int 68))]),(.af []),(.item (.aj [(.c (.str [97])),(.c (.str [98])),(.c (.str [97])),(.c (.str [98])),(.c (.str [97])),(.c (.str [99])),(.c (.str [98])),(.c (.str [113]))]) (.aa 5))])]))]),
 (.aC (.cmp .Eq (.call (.fn 522) [(.aa 0),(.c (.int 2))]) (.c (.int 0))) [
   (.bA (.aQ (.aa 4) [97,112,112,101,110,100] [(.aj [(.c (.str [108,119])),(.af [(.c (.int 65))]),(.af [(.c (.int 68))]),(.call (.fn 522) [(.aa 0),(.c (.int 2))])])])),
   (.ret (.c (.int 65)))] []),
 (.bA (.aQ (.aa 4) [97,112,112,101,110,100] [(.aj [(.c (.str [115,119])),(.af []),(.af [(.call (.fn 536) [(.aa 0),(.aa 1),(.aa 2)]),(.c (.int 68))]),(.call (.fn 522) [(.aa 0),(.c (.int 2))])])])),
 (.ret (.neg (.c (.int 1))))]
noncomputable def tV:List S:=[
 (.az (.nm 4) (.item (.aj [(.c (.str [103])),(.c (.str [104])),(.c (.str [103])),(.c (.str [110])),(.c (.str [102])),(.c (.str [104]))]) (.call (.fn 522) [(.aa 0),(.c (.int 6))]))),
 (.kO (.nm 5) (.comp [1] 1 (.nm 0) (.aa 2) [(.cmp .NotIn (.aa 0) (.sl (.item (.aa 1) (.c (.str [97,114,103,115]))) (.c (.int 2))))] (.elt (.aa 0)))),
 (.loop (.nm 6) (.aC (.j7 (.cmp .NotEq (.aa 4) (.c (.str [102]))) (.cmp .Eq (.call (.fn 522) [(.aa 0),(.c (.int 2))]) (.c (.int 0)))) (.sl (.item (.aa 1) (.c (.str [97,114,103,115]))) (.c (.int 2))) (.af [])) [
   (.bA (.aQ (.aa 3) [97,112,112,101,110,100] [(.aj [(.c (.str [109,118])),(.af [(.aa 6)]),(.af [(.call (.fn 536) [(.aa 0),(.aa 1),(.aa 5)])]),(.aj [])])]))]),
 (.az (.nm 7) (.aC (.cmp .NotEq (.aa 4) (.c (.str [110]))) (.cmp .NotEq (.call (.fn 522) [(.aa 0),(.c (.int 4))]) (.c (.int 3))) (.cmp .Eq (.call (.fn 522) [(.aa 0),(.c (.int 6))]) (.c (.int 5))))),
 (.bA (.aQ (.aa 3) [97,112,112,101,110,100] [(.aj [(.c (.str [99,97,108,108])),(.aC (.val (.aa 7)) (.af [(.item (.item (.aa 1) (.c (.str [97,114,103,115]))) (.c (.int 0)))]) (.af [])),(.sl (.item (.aa 1) (.c (.str [97,114,103,115]))) (.c (.int 2))),(.aa 4)])])),
 (.kO (.nm 8) (.comp [1] 1 (.nm 0) (.aa 2) [(.cmp .NotIn (.aa 0) (.item (.aa 1) (.c (.str [115,112,111,105,108,101,100]))))] (.elt (.aa 0)))),
 (.ret (.aA .Add (.aa 8) (.aC (.val (.aa 7)) (.af [(.item (.item (.aa 1) (.c (.str [97,114,103,115]))) (.c (.int 0)))]) (.af []))))]
noncomputable def zL:List S:=[
 (.az (.nm 6) (.af [])),
 (.loop (.nm 7) (.call (.bi .range) [(.aa 5)]) [
   (.az (.nm 8) (.call (.fn 522) [(.aa 0),(.c (.int 12))])),
   (.az (.nm 9) (.neg (.c (.int 1)))),
   (.aC (.cmp .Lt (.aa 8) (.c (.int 4))) [
     (.bA (.aQ (.aa 6) [97,112,112,101,110,100] [(.aj [(.item (.c (.ref 500)) (.call (.fn 522) [(.aa 0),(.c (.int 8))])),(.af [(.call (.fn 543) [(.aa 0),(.aa 1),(.aa 4)])]),(.af [(.call (.fn 536) [(.aa 0),(.aa 1),(.aa 2)]),(.call (.fn 536) [(.aa 0),(.aa 1),(.aa 2)])]),(.aj [])])])),
     (.az (.nm 9) (.item (.item (.item (.aa 6) (.neg (.c (.int 1)))) (.c (.int 1))) (.c (.int 0))))] [
     (.aC (.cmp .Eq (.aa 8) (.c (.int 4))) [
       (.bA (.aQ (.aa 6) [97,112,112,101,110,100] [(.aj [(.item (.aj [(.c (.str [97,100,100,105])),(.c (.str [120,111,114,105])),(.c (.str [97,110,100,105])),(.c (.str [111,114,105]))]) (.call (.fn 522) [(.aa 0),(.c (.int 4))])),(.af [(.call (.fn 543) [(.aa 0),(.aa 1),(.aa 4)])]),(.af [(.call (.fn 536) [(.aa 0),(.aa 1),(.aa 2)])]),(.aA .Sub (.call (.fn 522) [(.aa 0),(.c (.int 40))]) (.c (.int 20)))])])),
       (.az (.nm 9) (.item (.item (.item (.aa 6) (.neg (.c (.int 1)))) (.c (.int 1))) (.c (.int 0))))] [
       (.aC (.cmp .Eq (.aa 8) (.c (.int 5))) [
         (.bA (.aQ (.aa 6) [97,112,112,101,110,100] [(.aj [(.c (.str [109,118])),(.af [(.call (.fn 543) [(.aa 0),(.aa 1),(.aa 4)])]),(.af [(.call (.fn 536) [(.aa 0),(.aa 1),(.aa 2)])]),(.aj [])])])),
         (.az (.nm 9) (.item (.item (.item (.aa 6) (.neg (.c (.int 1)))) (.c (.int 1))) (.c (.int 0))))] [
         (.aC (.cmp .Eq (.aa 8) (.c (.int 6))) [
           (.bA (.aQ (.aa 6) [97,112,112,101,110,100] [(.aj [(.c (.str [108,105])),(.af [(.call (.fn 543) [(.aa 0),(.aa 1),(.aa 4)])]),(.af []),(.aA .Sub (.call (.fn 522) [(.aa 0),(.c (.int 600))]) (.c (.int 300)))])])),
           (.az (.nm 9) (.item (.item (.item (.aa 6) (.neg (.c (.int 1)))) (.c (.int 1))) (.c (.int 0))))] [
           (.aC (.cmp .Lt (.aa 8) (.c (.int 9))) [
             (.az (.nm 9) (.call (.fn 550) [(.aa 0),(.aa 1),(.aa 2),(.aa 3),(.aa 6)]))] [
             (.az (.nm 2) (.call (.fn 555) [(.aa 0),(.aa 1),(.aa 2),(.aa 6)]))])])])])]),
   (.az (.nm 2) (.aA .Add (.aa 2) (.aC (.an (.cmp .GtE (.aa 9) (.c (.int 0))) (.cmp .NotIn (.aa 9) (.aa 2))) (.af [(.aa 9)]) (.af []))))]),
 (.ret (.aj [(.aa 6),(.aa 2)]))]
noncomputable def rF:List S:=[
 (.kO (.nm 3) (.comp [0] 1 (.nm 0) (.call (.bi .range) [(.call (.fn 522) [(.aa 0),(.c (.int 3))])]) [] (.elt (.aA .Add (.c (.int 1)) (.call (.fn 522) [(.aa 1),(.c (.int 2))]))))),
 (.lq [4,5] (.aj [(.aA .Add (.c (.int 1)) (.call (.fn 522) [(.aa 0),(.c (.int 3))])),(.aC (.cmp .Eq (.call (.fn 522) [(.aa 0),(.c (.int 3))]) (.c (.int 0))) (.item (.item (.aa 2) (.c (.str [107,101,112,116]))) (.c (.int 0))) (.neg (.c (.int 1))))])),
 (.az (.nm 6) (.aA .Add (.aA .Add (.sl (.item (.aa 2) (.c (.str [97,114,103,115]))) (.c (.int 2))) (.sl (.item (.aa 2) (.c (.str [107,101,112,116]))) (.c (.int 2)))) (.aC (.cmp .Eq (.item (.aa 2) (.c (.str [122,101,114,111]))) (.c (.int 0))) (.af [(.c (.int 0))]) (.af [])))),
 (.az (.nm 7) (.aC (.cmp .GtE (.aa 5) (.c (.int 0))) (.af [(.aj [(.c (.str [109,118])),(.af [(.c (.int 70))]),(.af [(.aa 5)]),(.aj [])])]) (.af []))),
 (.az (.nm 8) (.aC (.cmp .GtE (.aa 5) (.c (.int 0))) (.af [(.aj [(.c (.str [109,118])),(.af [(.aa 5)]),(.af [(.c (.int 70))]),(.aj [])])]) (.af []))),
 (.az (.nm 9) (.af [])),
 (.loop (.nm 10) (.call (.bi .range) [(.aa 4)]) [
   (.az (.aj [(.nm 11),(.nm 12)]) (.call (.fn 562) [(.aa 0),(.aa 2),(.aa 6),(.aa 3),(.aa 5),(.call (.fn 522) [(.aa 0),(.aC (.cmp .Eq (.aa 10) (.c (.int 0))) (.c (.int 5)) (.c (.int 4)))])])),
   (.az (.nm 13) (.aC (.cmp .Lt (.aa 10) (.aA .Sub (.aa 4) (.c (.int 1)))) (.call (.fn 522) [(.aa 0),(.c (.int 5))]) (.c (.int 4)))),
   (.az (.nm 14) (.aC (.cmp .Lt (.aa 10) (.aA .Sub (.aa 4) (.c (.int 1)))) (.af [(.call (.fn 522) [(.aa 0),(.aa 4)]),(.aA .Add (.aa 10) (.c (.int 1)))]) (.af []))),
   (.aC (.cmp .Lt (.aa 13) (.c (.int 3))) [
     (.az (.nm 15) (.item (.item (.item (.c (.ref 515)) (.aa 1)) (.call (.fn 522) [(.aa 0),(.c (.int 6))])) (.c (.int 0)))),
     (.az (.nm 16) (.af [(.aj [(.aa 15),(.af []),(.af [(.call (.fn 536) [(.aa 0),(.aa 2),(.aa 12)]),(.call (.fn 536) [(.aa 0),(.aa 2),(.aa 12)])]),(.aC (.cmp .Eq (.aa 13) (.c (.int 0))) (.aj [(.item (.aa 14) (.c (.int 1))),(.item (.aa 14) (.c (.int 0)))]) (.aj [(.item (.aa 14) (.c (.int 0))),(.item (.aa 14) (.c (.int 1)))]))])]))] [
     (.aC (.cmp .Eq (.aa 13) (.c (.int 3))) [
       (.az (.nm 16) (.af [(.aj [(.c (.str [106])),(.af []),(.af []),(.item (.aa 14) (.c (.int 1)))])]))] [
       (.az (.nm 16) (.aA .Add (.aa 8) (.af [(.aj [(.c (.str [114,101,116])),(.af []),(.aC (.cmp .Eq (.call (.fn 522) [(.aa 0),(.c (.int 6))]) (.c (.int 5))) (.af []) (.af [(.call (.fn 536) [(.aa 0),(.aa 2),(.aa 12)])])),(.aj [])])])))])]),
   (.bA (.aQ (.aa 9) [97,112,112,101,110,100] [(.aA .Add (.aA .Add (.aC (.cmp .Eq (.aa 10) (.c (.int 0))) (.aa 7) (.af [])) (.aa 11)) (.aa 16))])),
   (.aC (.cmp .Eq (.aa 10) (.c (.int 0))) [
     (.az (.nm 6) (.aa 12))] [])]),
 (.ret (.aj [(.aa 3),(.aa 9)]))]
noncomputable def D8:List S:=[
 (.ret (.aC (.cmp .GtE (.aA .Mult (.c (.int 2)) (.aa 0)) (.aA .Pow (.c (.int 2)) (.aa 1))) (.aA .Sub (.aa 0) (.aA .Pow (.c (.int 2)) (.aa 1))) (.aa 0)))]
noncomputable def D9:List S:=[
 (.aC (.cmp .In (.aa 0) (.aj [(.c (.str [97,110,100])),(.c (.str [111,114])),(.c (.str [120,111,114]))])) [
   (.az (.nm 4) (.item (.dS [[97,110,100],[120,111,114],[111,114]] [(.aj [(.c (.int 2))]),(.aj [(.c (.int 1))]),(.aj [(.c (.int 1)),(.c (.int 2))])]) (.aa 0))),
   (.ret (.call (.bi .sum) [(.comp [2,3,4] 1 (.nm 0) (.call (.bi .range) [(.aa 1)]) [(.cmp .In (.aA .Add (.aA .Mod (.aA .FloorDiv (.aa 1) (.aA .Pow (.c (.int 2)) (.aa 0))) (.c (.int 2))) (.aA .Mod (.aA .FloorDiv (.aa 2) (.aA .Pow (.c (.int 2)) (.aa 0))) (.c (.int 2)))) (.aa 3))] (.elt (.aA .Pow (.c (.int 2)) (.aa 0))))]))] []),
 (.aC (.cmp .Eq (.aa 0) (.c (.str [115,108,116]))) [
   (.ret (.aC (.cmp .Lt (.call (.fn 574) [(.aa 2),(.aa 1)]) (.call (.fn 574) [(.aa 3),(.aa 1)])) (.c (.int 1)) (.c (.int 0))))] []),
 (.aC (.cmp .In (.aa 0) (.aj [(.c (.str [115,108,116,117])),(.c (.str [115,97,109,101]))])) [
   (.ret (.aC (.cmp .Eq (.aa 0) (.c (.str [115,108,116,117]))) (.call (.bi .int) [(.cmp .Lt (.aa 2) (.aa 3))]) (.call (.bi .int) [(.cmp .Eq (.aa 2) (.aa 3))])))] []),
 (.ret (.aA .Mod (.item (.dS [[97,100,100],[115,117,98],[109,117,108]] [(.aA .Add (.aa 2) (.aa 3)),(.aA .Sub (.aa 2) (.aa 3)),(.aA .Mult (.aa 2) (.aa 3))]) (.aa 0)) (.aA .Pow (.c (.int 2)) (.aa 1))))]
noncomputable def Eo:List S:=[
 (.ret (.aC (.cmp .Eq (.aa 0) (.c (.str [110]))) (.c .none) (.aA .Add (.aA .Add (.aA .Add (.aA .Mult (.item (.aa 1) (.c (.int 0))) (.c (.int 3))) (.item (.aa 1) (.c (.int 1)))) (.aA .Mult (.c (.int 5)) (.aa 2))) (.c (.int 1)))))]
noncomputable def EC:List S:=[
 (.aC (.cmp .Eq (.aa 1) (.item (.aa 0) (.c (.str [122,101,114,111])))) [
   (.ret (.c (.int 0)))] []),
 (.ret (.aQ (.aC (.cmp .Gt (.aa 1) (.c (.int 63))) (.item (.item (.item (.aa 0) (.c (.str [102,114,97,109,101,115]))) (.neg (.c (.int 1)))) (.c (.str [111,119,110]))) (.item (.aa 0) (.c (.str [115,104,97,114,101,100])))) [103,101,116] [(.aa 1)]))]
noncomputable def Ep:List S:=[
 (.aC (.cmp .NotEq (.aa 1) (.item (.aa 0) (.c (.str [122,101,114,111])))) [
   (.az (.nm 3) (.aC (.cmp .Gt (.aa 1) (.c (.int 63))) (.item (.item (.item (.aa 0) (.c (.str [102,114,97,109,101,115]))) (.neg (.c (.int 1)))) (.c (.str [111,119,110]))) (.item (.aa 0) (.c (.str [115,104,97,114,101,100]))))),
   (.az (.sub (.aa 3) (.aa 1)) (.aA .Mod (.aa 2) (.aA .Pow (.c (.int 2)) (.item (.aa 0) (.c (.str [98,105,116,115]))))))] [])]
noncomputable def wz:List S:=[
 (.az (.aj [(.nm 3),(.nm 4)]) (.item (.item (.aa 0) (.c (.str [102,117,110,99,115]))) (.aa 1))),
 (.az (.nm 5) (.item (.aa 0) (.c (.str [102,114,101,101])))),
 (.aC (.j7 (.cmp .Gt (.call (.bi .len) [(.item (.aa 0) (.c (.str [102,114,97,109,101,115])))]) (.c (.int 63))) (.cmp .Gt (.aA .Add (.aa 5) (.call (.bi .sum) [(.aa 3)])) (.aA .Pow (.c (.int 2)) (.item (.aa 0) (.c (.str [98,105,116,115])))))) [
   (.ret (.c (.str [108,105,109,105,116])))] []),
 (.kO (.nm 6) (.comp [0] 1 (.nm 0) (.item (.aa 0) (.c (.str [107,101,112,116]))) [(.cmp .In (.aa 0) (.item (.aa 1) (.c (.str [115,104,97,114,101,100]))))] (.elt (.aj [(.aa 0),(.item (.item (.aa 1) (.c (.str [115,104,97,114,101,100]))) (.aa 0))])))),
 (.az (.nm 7) (.dS [[98,108,111,99,107,115],[114,111,119,115],[111,119,110],[98,97,115,101],[115,108,111,116,115],[100,117,101],[111,117,116,115]] [(.aa 4),(.call (.bi .list) [(.item (.aa 4) (.c (.int 0)))]),.dE,(.aa 5),(.aa 3),(.aa 6),(.aa 2)])),
 (.loop (.nm 8) (.call (.bi .range) [(.call (.bi .sum) [(.aa 3)])]) [
   (.az (.sub (.item (.aa 0) (.c (.str [99,101,108,108,115]))) (.aA .Add (.aa 5) (.aa 8))) (.c (.int 0)))]),
 (.az (.sub (.aa 0) (.c (.str [102,114,101,101]))) (.aA .Add (.aa 5) (.call (.bi .sum) [(.aa 3)]))),
 (.bA (.aQ (.item (.aa 0) (.c (.str [102,114,97,109,101,115]))) [97,112,112,101,110,100] [(.aa 7)])),
 (.ret (.c (.str [])))]
noncomputable def ED:List S:=[
 (.loop (.nm 3) (.item (.aa 0) (.c (.str [115,112,111,105,108,101,100]))) [
   (.bA (.aQ (.item (.aa 0) (.c (.str [115,104,97,114,101,100]))) [112,111,112] [(.aa 3),(.c .none)]))]),
 (.aC (.an (.val (.aa 1)) (.cmp .Is (.aa 2) (.c .none))) [
   (.ret (.c (.str [102,97,117,108,116])))] []),
 (.aC (.val (.aa 1)) [
   (.bA (.call (.fn 600) [(.aa 0),(.item (.aa 1) (.c (.int 0))),(.aa 2)]))] []),
 (.ret (.c (.str [])))]
noncomputable def zM:List S:=[
 (.az (.nm 2) (.aC (.val (.item (.aa 1) (.c (.int 2)))) (.call (.fn 593) [(.aa 0),(.item (.item (.aa 1) (.c (.int 2))) (.c (.int 0)))]) (.c .none))),
 (.aC (.an (.val (.item (.aa 1) (.c (.int 2)))) (.cmp .Is (.aa 2) (.c .none))) [
   (.ret (.c (.str [102,97,117,108,116])))] []),
 (.az (.nm 3) (.aQ (.item (.aa 0) (.c (.str [102,114,97,109,101,115]))) [112,111,112] [])),
 (.aC (.val (.comp [0] 2 (.aj [(.nm 0),(.nm 1)]) (.item (.aa 3) (.c (.str [100,117,101]))) [(.cmp .NotEq (.aQ (.item (.aa 2) (.c (.str [115,104,97,114,101,100]))) [103,101,116] [(.aa 0)]) (.aa 1))] (.elt (.aa 0)))) [
   (.ret (.c (.str [102,97,117,108,116])))] []),
 (.loop (.nm 4) (.call (.bi .range) [(.call (.bi .sum) [(.item (.aa 3) (.c (.str [115,108,111,116,115])))])]) [
   (.bA (.aQ (.item (.aa 0) (.c (.str [99,101,108,108,115]))) [112,111,112] [(.aA .Add (.item (.aa 3) (.c (.str [98,97,115,101]))) (.aa 4))]))]),
 (.az (.sub (.aa 0) (.c (.str [102,114,101,101]))) (.item (.aa 3) (.c (.str [98,97,115,101])))),
 (.az (.sub (.aa 0) (.c (.str [103,97,118,101]))) (.aa 2)),
 (.ret (.aC (.val (.item (.aa 0) (.c (.str [102,114,97,109,101,115])))) (.call (.fn 612) [(.aa 0),(.item (.aa 3) (.c (.str [111,117,116,115]))),(.aa 2)]) (.c (.str [100,111,110,101]))))]
noncomputable def EE:List S:=[
 (.az (.aj [(.nm 3),(.nm 4),(.nm 5),(.nm 6)]) (.aa 1)),
 (.az (.nm 7) (.item (.item (.aa 0) (.c (.str [102,114,97,109,101,115]))) (.neg (.c (.int 1))))),
 (.az (.nm 8) (.aC (.cmp .In (.aa 3) (.aj [(.c (.str [108,100,115,108,111,116])),(.c (.str [115,116,115,108,111,116])),(.c (.str [115,108,111,116,97,100,100,114]))])) (.aA .Add (.item (.aa 7) (.c (.str [98,97,115,101]))) (.call (.bi .sum) [(.sl (.item (.aa 7) (.c (.str [115,108,111,116,115]))) (.aa 6))])) (.c (.int 0)))),
 (.aC (.an (.cmp .Eq (.aa 3) (.c (.str [108,97]))) (.cmp .NotIn (.aa 6) (.item (.aa 0) (.c (.str [110,97,109,101,115]))))) [
   (.ret (.c (.str [102,97,117,108,116])))] []),
 (.aC (.cmp .In (.aa 3) (.aj [(.c (.str [115,108,111,116,97,100,100,114])),(.c (.str [108,97]))])) [
   (.bA (.call (.fn 600) [(.aa 0),(.item (.aa 4) (.c (.int 0))),(.aC (.cmp .Eq (.aa 3) (.c (.str [115,108,111,116,97,100,100,114]))) (.aa 8) (.item (.item (.aa 0) (.c (.str [110,97,109,101,115]))) (.aa 6)))])),
   (.ret (.c (.str [])))] []),
 (.aC (.cmp .In (.aa 3) (.aj [(.c (.str [108,119])),(.c (.str [115,119]))])) [
   (.az (.nm 8) (.aA .Mod (.aA .Add (.item (.aa 2) (.neg (.c (.int 1)))) (.aa 6)) (.aA .Pow (.c (.int 2)) (.item (.aa 0) (.c (.str [98,105,116,115]))))))] []),
 (.aC (.cmp .NotIn (.aa 8) (.item (.aa 0) (.c (.str [99,101,108,108,115])))) [
   (.ret (.c (.str [102,97,117,108,116])))] []),
 (.aC (.cmp .In (.aa 3) (.aj [(.c (.str [108,119])),(.c (.str [108,100,115,108,111,116]))])) [
   (.bA (.call (.fn 600) [(.aa 0),(.item (.aa 4) (.c (.int 0))),(.item (.item (.aa 0) (.c (.str [99,101,108,108,115]))) (.aa 8))]))] [
   (.az (.sub (.item (.aa 0) (.c (.str [99,101,108,108,115]))) (.aa 8)) (.item (.aa 2) (.c (.int 0))))]),
 (.ret (.c (.str [])))]
noncomputable def tW:List S:=[
 (.az (.aj [(.nm 2),(.nm 3),(.nm 4),(.nm 5)]) (.aa 1)),
 (.aC (.cmp .Eq (.aa 2) (.c (.str [114,101,116]))) [
   (.ret (.call (.fn 617) [(.aa 0),(.aa 1)]))] []),
 (.aC (.an (.cmp .Eq (.aa 2) (.c (.str [99,97,108,108]))) (.cmp .In (.aa 5) (.item (.aa 0) (.c (.str [102,117,110,99,115]))))) [
   (.ret (.call (.fn 605) [(.aa 0),(.aa 5),(.aa 3)]))] []),
 (.kO (.nm 6) (.comp [0] 1 (.nm 0) (.aa 4) [] (.elt (.call (.fn 593) [(.aa 1),(.aa 0)])))),
 (.aC (.cmp .In (.c .none) (.aa 6)) [
   (.ret (.c (.str [102,97,117,108,116])))] []),
 (.aC (.cmp .Eq (.aa 2) (.c (.str [99,97,108,108]))) [
   (.az (.nm 7) (.call (.fn 586) [(.aa 5),(.aa 6),(.call (.bi .len) [(.item (.aa 0) (.c (.str [116,114,97,99,101])))])])),
   (.bA (.aQ (.item (.aa 0) (.c (.str [116,114,97,99,101]))) [97,112,112,101,110,100] [(.aj [(.aa 5),(.call (.bi .tuple) [(.aa 6)])])])),
   (.ret (.call (.fn 612) [(.aa 0),(.aa 3),(.aa 7)]))] []),
 (.aC (.cmp .In (.aa 2) (.aj [(.c (.str [108,97])),(.c (.str [108,119])),(.c (.str [115,119])),(.c (.str [108,100,115,108,111,116])),(.c (.str [115,116,115,108,111,116])),(.c (.str [115,108,111,116,97,100,100,114]))])) [
   (.ret (.call (.fn 624) [(.aa 0),(.aa 1),(.aa 6)]))] []),
 (.az (.nm 8) (.item (.item (.aa 0) (.c (.str [102,114,97,109,101,115]))) (.neg (.c (.int 1))))),
 (.aC (.cmp .Eq (.aa 2) (.c (.str [106]))) [
   (.az (.sub (.aa 8) (.c (.str [114,111,119,115]))) (.call (.bi .list) [(.item (.item (.aa 8) (.c (.str [98,108,111,99,107,115]))) (.aa 5))]))] [
   (.aC (.cmp .In (.aa 2) (.aj [(.c (.str [109,118])),(.c (.str [108,105]))])) [
     (.bA (.call (.fn 600) [(.aa 0),(.item (.aa 3) (.c (.int 0))),(.aC (.cmp .Eq (.aa 2) (.c (.str [109,118]))) (.item (.aa 6) (.c (.int 0))) (.aa 5))]))] [
     (.aC (.cmp .In (.aa 2) (.c (.ref 500))) [
       (.bA (.call (.fn 600) [(.aa 0),(.item (.aa 3) (.c (.int 0))),(.call (.fn 579) [(.aa 2),(.item (.aa 0) (.c (.str [98,105,116,115]))),(.item (.aa 6) (.c (.int 0))),(.item (.aa 6) (.c (.int 1)))])]))] [
       (.aC (.cmp .Eq (.item (.aa 2) (.neg (.c (.int 1)))) (.c (.str [105]))) [
         (.bA (.call (.fn 600) [(.aa 0),(.item (.aa 3) (.c (.int 0))),(.call (.fn 579) [(.qV (.aa 2) (.neg (.c (.int 1)))),(.item (.aa 0) (.c (.str [98,105,116,115]))),(.item (.aa 6) (.c (.int 0))),(.aA .Mod (.aa 5) (.aA .Pow (.c (.int 2)) (.item (.aa 0) (.c (.str [98,105,116,115])))))])]))] [
         (.az (.nm 9) (.aQ (.item (.comp [2] 3 (.nm 0) (.c (.ref 515)) [] (.more (.aj [(.nm 1),(.nm 2)]) (.aa 0) [(.cmp .Eq (.aa 1) (.aa 3))] (.elt (.aa 2)))) (.c (.int 0))) [115,112,108,105,116] [(.c (.str [32]))])),
         (.az (.nm 10) (.cmp .Eq (.call (.fn 579) [(.item (.aa 9) (.neg (.c (.int 1)))),(.item (.aa 0) (.c (.str [98,105,116,115]))),(.item (.aa 6) (.c (.int 0))),(.item (.aa 6) (.c (.int 1)))]) (.aC (.cmp .Eq (.call (.bi .len) [(.aa 9)]) (.c (.int 1))) (.c (.int 1)) (.c (.int 0))))),
         (.az (.sub (.aa 8) (.c (.str [114,111,119,115]))) (.call (.bi .list) [(.item (.item (.aa 8) (.c (.str [98,108,111,99,107,115]))) (.aC (.val (.aa 10)) (.item (.aa 5) (.c (.int 0))) (.item (.aa 5) (.c (.int 1)))))]))])])])]),
 (.ret (.c (.str [])))]
noncomputable def tX:List S:=[
 (.az (.aj [(.sub (.aa 0) (.c (.str [102,114,97,109,101,115]))),(.sub (.aa 0) (.c (.str [115,104,97,114,101,100])))]) (.aj [(.af []),.dE])),
 (.loop (.nm 3) (.item (.aa 0) (.c (.str [107,101,112,116]))) [
   (.az (.sub (.item (.aa 0) (.c (.str [115,104,97,114,101,100]))) (.aa 3)) (.aA .Mod (.aA .Add (.aA .Mult (.c (.int 31)) (.aa 3)) (.c (.int 5))) (.aA .Pow (.c (.int 2)) (.item (.aa 0) (.c (.str [98,105,116,115]))))))]),
 (.m9 (.aj [(.nm 3),(.nm 4)]) (.item (.aa 0) (.c (.str [97,114,103,115]))) (.aa 1) [
   (.az (.sub (.item (.aa 0) (.c (.str [115,104,97,114,101,100]))) (.aa 3)) (.aA .Mod (.aa 4) (.aA .Pow (.c (.int 2)) (.item (.aa 0) (.c (.str [98,105,116,115]))))))]),
 (.az (.nm 5) (.call (.fn 605) [(.aa 0),(.c (.str [102])),(.af [])])),
 (.loop (.nm 6) (.call (.bi .range) [(.aa 2)]) [
   (.aC (.cmp .NotEq (.aa 5) (.c (.str []))) [
     .brk] []),
   (.az (.nm 5) (.call (.fn 629) [(.aa 0),(.aQ (.item (.item (.item (.aa 0) (.c (.str [102,114,97,109,101,115]))) (.neg (.c (.int 1)))) (.c (.str [114,111,119,115]))) [112,111,112] [(.c (.int 0))])]))]),
 (.ret (.aC (.cmp .Eq (.aa 5) (.c (.str [100,111,110,101]))) (.aj [(.c (.str [118,97,108,117,101])),(.item (.aa 0) (.c (.str [103,97,118,101])))]) (.aj [(.qU (.aa 5) (.c (.str [108,105,109,105,116])))])))]
noncomputable def Es:List S:=[
 (.az (.aj [(.nm 2),(.nm 3)]) (.aa 1)),
 (.az (.nm 4) (.call (.cls 180 156) [(.aa 0)])),
 (.loop (.nm 5) (.aa 2) [
   (.bA (.aQ (.aa 4) [110,101,119,95,115,108,111,116] [(.aa 5)]))]),
 (.loop (.nm 6) (.aa 3) [
   (.az (.nm 7) (.aQ (.aa 4) [110,101,119,95,98,108,111,99,107] [])),
   (.az (.attr (.aa 7) [114,111,119,115]) (.comp [] 4 (.aj [(.nm 0),(.nm 1),(.nm 2),(.nm 3)]) (.aa 6) [] (.elt (.call (.cls 117 107) [(.aa 0),(.call (.bi .list) [(.aa 1)]),(.call (.bi .list) [(.aa 2)]),(.aa 3)]))))]),
 (.az (.attr (.aa 4) [114,101,103,105,115,116,101,114,115]) (.c (.int 72))),
 (.ret (.aa 4))]
noncomputable def oq:List S:=[
 (.az (.nm 1) (.af [(.comp [] 1 (.nm 0) (.sl (.aa 0) (.c (.int 63))) [] (.elt (.aA .Mod (.aa 0) (.c (.int 2147483647))))),(.c (.int 0)),(.c (.int 0))])),
 (.lq [2,3] (.aj [(.call (.fn 522) [(.aa 1),(.c (.int 2))]),(.aA .Add (.c (.int 3)) (.call (.fn 522) [(.aa 1),(.c (.int 6))]))])),
 (.lq [4,5] (.aj [(.call (.fn 529) [(.aa 2),(.aa 3)]),(.item (.aj [(.call (.cls 414 397) [(.aa 3)]),(.call (.cls 495 464) [(.aa 3)])]) (.aa 2))])),
 (.az (.nm 6) (.dS [[102],[103]] [(.call (.fn 567) [(.aa 1),(.aa 2),(.aa 4)]),(.call (.fn 567) [(.aa 1),(.aa 2),(.aa 4)])])),
 (.az (.nm 7) (.dI [1,2,4] [(.call (.fn 522) [(.aa 1),(.aA .Pow (.c (.int 2)) (.aa 3))]),(.call (.fn 522) [(.aa 1),(.aA .Pow (.c (.int 2)) (.aa 3))]),(.call (.fn 522) [(.aa 1),(.aA .Pow (.c (.int 2)) (.aa 3))])])),
 (.az (.nm 8) (.dS [[97],[98],[99]] [(.c (.int 1)),(.c (.int 4)),(.c (.int 3))])),
 (.az (.nm 9) (.aA .Add (.c (.int 20)) (.call (.fn 522) [(.aa 1),(.c (.int 120))]))),
 (.az (.nm 10) (.call (.cls 330 233) [(.comp [6] 1 (.nm 0) (.aj [(.c (.str [102])),(.c (.str [103]))]) [] (.elt (.call (.fn 641) [(.aa 0),(.item (.aa 1) (.aa 0))]))),(.aa 5),(.aa 7),(.aa 8),(.c (.ref 586)),(.aa 9)])),
 (.az (.nm 11) (.call (.bi .dict) [(.aa 4)])),
 (.az (.aj [(.sub (.aa 11) (.c (.str [102,117,110,99,115]))),(.sub (.aa 11) (.c (.str [110,97,109,101,115]))),(.sub (.aa 11) (.c (.str [99,101,108,108,115]))),(.sub (.aa 11) (.c (.str [102,114,101,101]))),(.sub (.aa 11) (.c (.str [116,114,97,99,101])))]) (.aj [(.aa 6),(.aa 8),(.call (.bi .dict) [(.aa 7)]),(.c (.int 5)),(.af [])])),
 (.loop (.nm 12) (.call (.bi .range) [(.c (.int 2))]) [
   (.az (.nm 13) (.af [(.call (.fn 522) [(.aa 1),(.aA .Pow (.c (.int 2)) (.aa 3))]),(.call (.fn 522) [(.aa 1),(.aA .Add (.aA .Pow (.c (.int 2)) (.aa 3)) (.c (.int 3)))])])),
   (.az (.nm 14) (.call (.fn 636) [(.aa 11),(.aa 13),(.aa 9)])),
   (.aC (.j7 (.cmp .NotEq (.call (.fn 648) [(.aa 10),(.aa 13)]) (.aa 14)) (.j7 (.cmp .NotEq (.attr (.aa 10) [116,114,97,99,101]) (.item (.aa 11) (.c (.str [116,114,97,99,101])))) (.cmp .NotEq (.attr (.aa 10) [109,101,109,111,114,121]) (.item (.aa 11) (.c (.str [99,101,108,108,115])))))) [
     (.ret (.c (.bool false)))] []),
   (.aC (.cmp .NotEq (.item (.aa 14) (.c (.int 0))) (.c (.str [118,97,108,117,101]))) [
     (.ret (.c (.bool true)))] [])]),
 (.ret (.c (.bool true)))]
noncomputable def cy:cQ:={
 aQ:=[(330,[114,101,97,100],240),(330,[119,114,105,116,101],247),(330,[108,111,97,100],254),(330,[115,116,111,114,101],261),(330,[115,108,111,116],268),(330,[101,110,116,101,114],275),(330,[115,112,111,105,108],282),(330,[108,101,97,118,101],289),(330,[99,97,108,108],294),(330,[103,111],301),(330,[112,108,97,105,110],308),(330,[119,111,114,107,101,100],313),(330,[110,101,120,116,95,114,111,119],320),(330,[114,117,110],327),(180,[110,101,119,95,115,108,111,116],170),(180,[110,101,119,95,98,108,111,99,107],177),(414,[109,101,97,110,105,110,103],411),(495,[109,101,97,110,105,110,103],492)]
 jU:=[(330,[109,102,117,110,99,115]),(330,[116,97,114,103,101,116]),(330,[109,97,115,107]),(330,[109,101,109,111,114,121]),(330,[110,97,109,101,115]),(330,[111,117,116,101,114]),(330,[115,116,101,112,115]),(330,[116,114,97,99,101]),(330,[114,101,103,105,115,116,101,114,115]),(330,[99,97,108,108,115]),(330,[102,114,101,101]),(215,[109,102,117,110,99]),(215,[98,108,111,99,107]),(215,[97,116]),(215,[111,119,110]),(215,[98,97,115,101]),(215,[102,114,97,109,101]),(215,[107,101,112,116]),(215,[111,117,116,115]),(82,[119,111,114,100,115]),(82,[111,102,102,115,101,116,115]),(117,[111,112]),(117,[111,117,116,115]),(117,[105,110,115]),(117,[110,117,109]),(180,[110,97,109,101]),(180,[112,97,114,97,109,115]),(180,[98,108,111,99,107,115]),(180,[115,108,111,116,115]),(180,[114,101,103,105,115,116,101,114,115]),(138,[110,117,109,98,101,114]),(138,[114,111,119,115]),(138,[102,111,108,108,111,119,101,114,115]),(414,[110,97,109,101]),(414,[98,105,116,115]),(414,[122,101,114,111]),(414,[97,108,108,111,99,97,116,97,98,108,101]),(414,[97,114,103,115]),(414,[114,101,115,117,108,116]),(414,[115,97,118,101,100]),(414,[115,99,114,97,116,99,104]),(414,[105,115,95,116,119,111]),(495,[110,97,109,101]),(495,[98,105,116,115]),(495,[122,101,114,111]),(495,[97,108,108,111,99,97,116,97,98,108,101]),(495,[97,114,103,115]),(495,[114,101,115,117,108,116]),(495,[115,97,118,101,100]),(495,[115,99,114,97,116,99,104]),(495,[105,115,95,116,119,111])]
 oJ:=[(330,[109,102,117,110,99,115]),(330,[116,97,114,103,101,116]),(330,[109,97,115,107]),(330,[109,101,109,111,114,121]),(330,[110,97,109,101,115]),(330,[111,117,116,101,114]),(330,[115,116,101,112,115]),(330,[116,114,97,99,101]),(330,[114,101,103,105,115,116,101,114,115]),(330,[99,97,108,108,115]),(330,[102,114,101,101]),(215,[109,102,117,110,99]),(215,[98,108,111,99,107]),(215,[97,116]),(215,[111,119,110]),(215,[98,97,115,101]),(215,[102,114,97,109,101]),(215,[107,101,112,116]),(215,[111,117,116,115]),(82,[119,111,114,100,115]),(82,[111,102,102,115,101,116,115]),(117,[111,112]),(117,[111,117,116,115]),(117,[105,110,115]),(117,[110,117,109]),(180,[110,97,109,101]),(180,[112,97,114,97,109,115]),(180,[98,108,111,99,107,115]),(180,[115,108,111,116,115]),(180,[114,101,103,105,115,116,101,114,115]),(138,[110,117,109,98,101,114]),(138,[114,111,119,115]),(138,[102,111,108,108,111,119,101,114,115]),(414,[110,97,109,101]),(414,[98,105,116,115]),(414,[122,101,114,111]),(414,[97,108,108,111,99,97,116,97,98,108,101]),(414,[97,114,103,115]),(414,[114,101,115,117,108,116]),(414,[115,97,118,101,100]),(414,[115,99,114,97,116,99,104]),(414,[105,115,95,116,119,111]),(495,[110,97,109,101]),(495,[98,105,116,115]),(495,[122,101,114,111]),(495,[97,108,108,111,99,97,116,97,98,108,101]),(495,[97,114,103,115]),(495,[114,101,115,117,108,116]),(495,[115,97,118,101,100]),(495,[115,99,114,97,116,99,104]),(495,[105,115,95,116,119,111])]
 own:=[(330,[111,117,116,101,114])]
 cW:=[586]}
structure aP(G:Gx):Prop where
 tok:m8 G cy
 b7:∀C∈[51,63],mO G C
 f79:aM G.K [51,63] 60 79=some (3,0,D0)
 f93:aM G.K [51,63] 60 93=some (1,3,Hu)
 Xo:aM G.K [51,63] 60 107=some (5,0,EA)
 Xp:aM G.K [51,63] 60 135=some (2,0,DT)
 Xq:aM G.K [51,63] 60 156=some (2,0,D3)
 Xr:aM G.K [51,63] 60 170=some (2,0,Du)
 Xs:aM G.K [51,63] 60 177=some (1,1,Dt)
 Xu:aM G.K [51,63] 60 191=some (1,0,D4)
 Xv:aM G.K [51,63] 60 198=some (1,0,Dw)
 Xw:aM G.K [51,63] 60 212=some (5,0,Em)
 Xx:aM G.K [51,63] 60 233=some (7,1,DI)
 Xy:aM G.K [51,63] 60 240=some (2,1,DJ)
 Xz:aM G.K [51,63] 60 247=some (3,1,Dy)
 XA:aM G.K [51,63] 60 254=some (2,0,DK)
 XC:aM G.K [51,63] 60 261=some (3,0,Dz)
 XD:aM G.K [51,63] 60 268=some (2,1,DO)
 XE:aM G.K [51,63] 60 275=some (3,4,DA)
 XF:aM G.K [51,63] 60 282=some (3,1,DB)
 Jg:aM G.K [51,63] 60 289=some (2,5,wc)
 yi:aM G.K [51,63] 60 294=some (2,2,zu)
 XG:aM G.K [51,63] 60 301=some (2,0,D5)
 jl:aM G.K [51,63] 60 308=some (2,1,DC)
 Jh:aM G.K [51,63] 60 313=some (2,3,zp)
 XH:aM G.K [51,63] 60 320=some (1,2,Dr)
 XI:aM G.K [51,63] 60 327=some (3,4,DU)
 XJ:aM G.K [51,63] 60 341=some (2,0,Fd)
 oM:aM G.K [51,63] 60 369=some (4,0,ES)
 iZ:aM G.K [51,63] 60 376=some (4,0,DP)
 BX:aM G.K [51,63] 60 383=some (4,2,D6)
 XK:aM G.K [51,63] 60 397=some (2,0,DE)
 XM:aM G.K [51,63] 60 411=some (4,0,Ds)
 nC:aM G.K [51,63] 60 443=some (4,0,D7)
 oN:aM G.K [51,63] 60 450=some (4,0,DV)
 XN:aM G.K [51,63] 60 464=some (2,0,Dv)
 XO:aM G.K [51,63] 60 492=some (4,0,Dq)
 XQ:aM G.K [51,63] 60 522=some (2,5,EB)
 Ji:aM G.K [51,63] 60 529=some (2,2,En)
 XR:aM G.K [51,63] 60 536=some (3,1,Fe)
 XT:aM G.K [51,63] 60 543=some (3,1,ET)
 XU:aM G.K [51,63] 60 550=some (5,2,zx)
 XW:aM G.K [51,63] 60 555=some (4,5,tV)
 XX:aM G.K [51,63] 60 562=some (6,4,zL)
 XY:aM G.K [51,63] 60 567=some (3,14,rF)
 XZ:aM G.K [51,63] 60 574=some (2,0,D8)
 nD:aM G.K [51,63] 60 579=some (4,1,D9)
 qB:aM G.K [51,63] 60 586=some (3,0,Eo)
 X0:aM G.K [51,63] 60 593=some (2,0,EC)
 X3:aM G.K [51,63] 60 600=some (3,1,Ep)
 Jj:aM G.K [51,63] 60 605=some (3,6,wz)
 X4:aM G.K [51,63] 60 612=some (3,1,ED)
 Jk:aM G.K [51,63] 60 617=some (2,3,zM)
 qC:aM G.K [51,63] 60 624=some (3,6,EE)
 gy:aM G.K [51,63] 60 629=some (2,9,tW)
 X5:aM G.K [51,63] 60 636=some (3,4,tX)
 X6:aM G.K [51,63] 60 641=some (2,6,Es)
 aat:aM G.K [51,63] 60 653=some (1,14,oq)
noncomputable abbrev KV:=List (Int×Int)
noncomputable def KV.aE:KV->Int->Option Int
 |[],_=>none
 |(k,v)::r,i=>if k=i then some v else KV.aE r i
noncomputable def KV.set:KV->Int->Int->KV
 |[],i,v=>[(i,v)]
 |(k,u)::r,i,v=>if k=i then (k,v)::r else (k,u)::KV.set r i v
noncomputable def KV.aV(l:KV)(i:Int):KV:=l.filter λp=>decide (p.1≠i)
noncomputable def im(l:KV):List (Int×AV):=l.map λp=>(p.1,.int p.2)
noncomputable def il(l:List Int):List AV:=l.map .int
theorem rZ(l:KV):(im l).length=l.length:=by simp [im]
theorem R9(l:List Int):(il l).length=l.length:=by simp [il]
theorem qi:∀(l:KV) (i:Int),iC (im l) i=(l.aE i).map AV.int
 |[],_=>rfl
 |(k,v)::r,i=>by
  have:=qi r i
  simp only [im,List.map_cons,iC,KV.aE] at this ⊢
  split<;>simp_all
theorem F9:∀(l:KV) (i v:Int),qy (im l) i (.int v)=im (l.set i v)
 |[],_,_=>rfl
 |(k,u)::r,i,v=>by
  have:=F9 r i v
  simp only [im,List.map_cons,qy,KV.set] at this ⊢
  split<;>simp_all
theorem Ga(l:KV)(i:Int):ny (im l) i=im (l.aV i):=by
 simp only [ny,im,KV.aV,List.filter_map];rfl
theorem KV.mP:∀(l:KV) (i v:Int),(l.set i v).length<=l.length+1
 |[],_,_=>by simp [KV.set]
 |(k,u)::r,i,v=>by
  have:=KV.mP r i v
  simp only [KV.set];split<;>simp<;>omega
theorem KV.Gb(l:KV)(i:Int):(l.aV i).length<=l.length:=List.length_filter_le ..
theorem KV.Al(l:KV)(i v j:Int):(l.set i v).aE j=if i=j then some v else l.aE j:=by
 induction l with
 |nil=>simp only [KV.set,KV.aE]
 |cons p r ih=>
  obtain ⟨k,u⟩:=p
  simp only [KV.set]
  by_cases h:k=i
  ·subst h;simp only [if_true,KV.aE];by_cases h2:k=j<;>simp [h2]
  ·simp only [h,if_false,KV.aE,ih]
   by_cases h2:k=j
   ·subst h2;simp [Ne.symm h]
   ·simp [h2]
theorem KV.Gd(l:KV)(i j:Int):(l.aV i).aE j=if i=j then none else l.aE j:=by
 induction l with
 |nil=>simp [KV.aV,KV.aE]
 |cons p r ih=>
  obtain ⟨k,u⟩:=p
  unfold KV.aV at ih ⊢
  by_cases h:k=i
  ·subst h
   rw [List.filter_cons_of_neg (by simp),ih]
   by_cases h2:k=j<;>simp [KV.aE,h2]
  ·rw [List.filter_cons_of_pos (by simpa using h)]
   simp only [KV.aE,ih]
   by_cases h2:k=j
   ·subst h2;simp [Ne.symm h]
   ·simp [h2]
noncomputable def aau:AO->Bool
 |.inst _ c _=>c==117||c==180||c==138
 |o=>!o.mut
section
structure aJ where
 ah:Bool
 bits:Nat
namespace aJ
variable(t:aJ)
noncomputable def zero:Int:=if t.ah then-1 else 0
noncomputable def bh:List Int:=if t.ah then [4,5] else [9,18,19,20,21,22,23,24,25,26,27]
noncomputable def args:List Int:=if t.ah then [0,1,2] else [10,11,12,13,14,15,16,17]
noncomputable def oh:Int:=if t.ah then 0 else 10
noncomputable def alloc:List Int:=if t.ah then [0,1,2,3,4,5] else [7,28,29,30,31,9,18,19,20,21,22,23,24,25,26,27]
noncomputable def ko:List Int:=if t.ah then [6,7] else [5,6]
noncomputable def d9:List Int:=if t.ah then [0,1,2,3,6,7] else [10,11,12,13,14,15,16,17,7,28,29,30,31,5,6]
noncomputable def jd:Int:=2^t.bits
noncomputable def aU(v:Int):Int:=v%t.jd
end aJ
inductive vz where
 |unit|int(i:Int)|str(s:List Nat)|uJ(x y:Int)
noncomputable def vz.ctorIdx(x:vz):Nat:=@vz.casesOn (λZaa=>Nat) x 0 (λZaa=>1) (λZaa=>2) (λZaa Zaa=>3)
structure X7 where
 op:List Nat
 aH:List Int
 ins:List Int
 num:vz
inductive bq where
 |lu(k:Nat)(o a b:Int)
 |lz(k:Nat)(o a n:Int)
 |mv(o a:Int)
 |li(o n:Int)
 |la(o:Int)(nm:List Nat)
 |lw(o a n:Int)
 |sw(v a n:Int)
 |pL(o:Int)(i:Nat)
 |gG(v:Int)(i:Nat)
 |pM(o:Int)(i:Nat)
 |call(aH:List Int)(a b:Int)(nm:List Nat)
 |j(k:Nat)
 |br(k:Nat)(a b:Int)(x y:Nat)
 |ret(v:List Int)
noncomputable def bq.ctorIdx(x:bq):Nat:=@bq.casesOn (λZaa=>Nat) x (λZaa Zaa Zaa Zaa=>0) (λZaa Zaa Zaa Zaa=>1) (λZaa Zaa=>2) (λZaa Zaa=>3) (λZaa Zaa=>4) (λZaa Zaa Zaa=>5) (λZaa Zaa Zaa=>6) (λZaa Zaa=>7) (λZaa Zaa=>8) (λZaa Zaa=>9) (λZaa Zaa Zaa Zaa=>10) (λZaa=>11) (λZaa Zaa Zaa Zaa Zaa=>12) (λZaa=>13)
noncomputable def bq.oO:bq->Bool
 |.j _|.br _ _ _ _ _|.ret _=>true
 |_=>false
noncomputable def gi:Nat->List Nat
 |0=>[97,100,100]|1=>[115,117,98]|2=>[97,110,100]|3=>[111,114]|4=>[120,111,114]|5=>[109,117,108]|6=>[115,108,116]|_=>[115,108,116,117]
noncomputable def mQ:Nat->List Nat
 |0=>[97,100,100,105]|1=>[120,111,114,105]|2=>[97,110,100,105]|_=>[111,114,105]
noncomputable def gj:Nat->Nat
 |0=>0|1=>4|2=>2|_=>3
noncomputable def kG:Bool->Nat->List Nat
 |false,0=>[98,101,113]|false,1=>[98,110,101]|false,2=>[98,108,116]|false,3=>[98,103,101]|false,4=>[98,108,116,117]|false,_=>[98,103,101,117]
 |true,0=>[106,101,113]|true,1=>[106,110,101]|true,2=>[106,108,116]|true,3=>[106,103,101]|true,4=>[106,108,116,117]|true,_=>[106,103,101,117]
noncomputable def gp(ah:Bool):bq->X7
 |.lu k o a b=>⟨gi k,[o],[a,b],.unit⟩
 |.lz k o a n=>⟨mQ k,[o],[a],.int n⟩
 |.mv o a=>⟨[109,118],[o],[a],.unit⟩
 |.li o n=>⟨[108,105],[o],[],.int n⟩
 |.la o nm=>⟨[108,97],[o],[],.str nm⟩
 |.lw o a n=>⟨[108,119],[o],[a],.int n⟩
 |.sw v a n=>⟨[115,119],[],[v,a],.int n⟩
 |.pL o i=>⟨[108,100,115,108,111,116],[o],[],.int i⟩
 |.gG v i=>⟨[115,116,115,108,111,116],[],[v],.int i⟩
 |.pM o i=>⟨[115,108,111,116,97,100,100,114],[o],[],.int i⟩
 |.call aH a b nm=>⟨[99,97,108,108],aH,[a,b],.str nm⟩
 |.j k=>⟨[106],[],[],.int k⟩
 |.br k a b x y=>⟨kG ah k,[],[a,b],.uJ x y⟩
 |.ret v=>⟨[114,101,116],[],v,.unit⟩
noncomputable def gV(bits:Nat)(v:Int):Int:=if 2*v>=2^bits then v-2^bits else v
noncomputable def cN(bits:Nat)(k:Nat)(x y:Int):Int:=
 match k with
 |0=>(x+y)%2^bits
 |1=>(x-y)%2^bits
 |2=>Builtin.bitAnd x y
 |3=>Builtin.bitOr x y
 |4=>Builtin.bitXor x y
 |5=>(x*y)%2^bits
 |6=>if gV bits x<gV bits y then 1 else 0
 |_=>if x<y then 1 else 0
noncomputable def gX(bits:Nat)(k:Nat)(x y:Int):Bool:=
 match k with
 |0=>x==y
 |1=>!(x==y)
 |2=>decide (gV bits x<gV bits y)
 |3=>!decide (gV bits x<gV bits y)
 |4=>decide (x<y)
 |_=>!decide (x<y)
structure Fn where
 slots:List Int
 bD:List (List bq)
structure bE where
 fn:List Nat
 dM:Nat
 at_:Nat
 own:KV
 base:Int
 aR:KV
 aH:List Int
structure St where
 aB:KV
 ay:List bE
 cells:KV
 free:Int
 trace:List (List Nat×List Int)
structure PM where
 t:aJ
 f:Fn
 g:Fn
noncomputable def bH:List Nat:=[102]
noncomputable def cu:List Nat:=[103]
noncomputable def nmN:List Nat:=[110]
noncomputable def PM.fF(P:PM)(nm:List Nat):Option Fn:=if nm=bH then some P.f else if nm=cu then some P.g else none
noncomputable def aI(P:PM)(nm:List Nat):Fn:=(P.fF nm).getD ⟨[],[]⟩
noncomputable def qj(nm:List Nat):Option Int:=if nm=[97] then some 1 else if nm=[98] then some 4 else if nm=[99] then some 3 else none
noncomputable def n5(nm:List Nat)(x y:Int)(count:Nat):Option Int:=if nm=nmN then none else some (x*3+y+5*(count:Int)+1)
inductive b8 where
 |ok(st:St)|bG(st:St)|fj(st:St)|done(v:Option Int)(st:St)
noncomputable def b8.ctorIdx(x:b8):Nat:=@b8.casesOn (λZaa=>Nat) x (λZaa=>0) (λZaa=>1) (λZaa=>2) (λZaa Zaa=>3)
noncomputable def St.aT(t:aJ)(st:St)(r:Int):Option Int:=
 if r=t.zero then some 0 else if 64<=r then (match st.ay with|[]=>none|fr::_=>fr.own.aE r) else st.aB.aE r
noncomputable def St.cz(t:aJ)(st:St)(r v:Int):St:=
 if r=t.zero then st else if 64<=r then (match st.ay with|[]=>st|fr::rest=>{st with ay:={fr with own:=fr.own.set r (t.aU v)}::rest}) else {st with aB:=st.aB.set r (t.aU v)}
noncomputable def e9(t:aJ)(aB:KV):KV:=t.bh.filterMap λr=>(aB.aE r).map λv=>(r,v)
noncomputable def dP(cells:KV)(base:Int)(n:Nat):KV:=(List.range n).foldl (λc (i:Nat)=>c.set (base+(i:Int)) 0) cells
noncomputable def dh(cells:KV)(base:Int)(n:Nat):KV:=(List.range n).foldl (λc (i:Nat)=>c.aV (base+(i:Int))) cells
noncomputable def Fn.bu(fn:Fn):Int:=fn.slots.sum
noncomputable def St.enter(P:PM)(st:St)(nm:List Nat)(fn:Fn)(aH:List Int):b8:=
 if 64<=st.ay.length then .fj st
 else if st.free+fn.bu>P.t.jd then .fj st
 else .ok {st with ay:=⟨nm,0,0,[],st.free,e9 P.t st.aB,aH⟩::st.ay,cells:=dP st.cells st.free fn.bu.toNat,free:=st.free+fn.bu}
noncomputable def St.kK(t:aJ)(st:St):St:={st with aB:=t.d9.foldl KV.aV st.aB}
noncomputable def St.cA(t:aJ)(st:St)(aH:List Int)(v:Option Int):b8:=
 match aH,v with
 |[],_=>.ok (st.kK t)
 |_::_,none=>.bG (st.kK t)
 |o::_,some v=>.ok ((st.kK t).cz t o v)
noncomputable def xu(aB aR:KV):Bool:=aR.all λp=>decide (aB.aE p.1=some p.2)
noncomputable def St.iz(P:PM)(st:St)(v:Option Int):b8:=
 match st.ay with
 |[]=>.bG st
 |fr::rest=>
  if xu st.aB fr.aR then
   let jw:St:={st with ay:=rest,cells:=dh st.cells fr.base (aI P fr.fn).bu.toNat,free:=fr.base}
   if rest=[] then .done v jw else jw.cA P.t fr.aH v
  else .bG {st with ay:=rest}
noncomputable def St.gS(st:St)(k:Nat):St:=
 match st.ay with
 |[]=>st
 |fr::rest=>{st with ay:={fr with dM:=k,at_:=0}::rest}
noncomputable def PM.dY(P:PM)(st:St)(i:Nat):Int:=
 match st.ay with
 |[]=>0
 |fr::_=>fr.base+((aI P fr.fn).slots.take i).sum
noncomputable def St.cU(t:aJ)(st:St)(a b:Int)(k:Int->Int->b8):b8:=
 match st.aT t a,st.aT t b with
 |some x,some y=>k x y
 |_,_=>.bG st
noncomputable def St.dQ(t:aJ)(st:St)(a:Int)(k:Int->b8):b8:=
 match st.aT t a with
 |some x=>k x
 |none=>.bG st
noncomputable def PM.step(P:PM)(st:St):bq->b8
 |.lu k o a b=>st.cU P.t a b λx y=>.ok (st.cz P.t o (cN P.t.bits k x y))
 |.lz k o a n=>st.dQ P.t a λx=>.ok (st.cz P.t o (cN P.t.bits (gj k) x (P.t.aU n)))
 |.mv o a=>st.dQ P.t a λx=>.ok (st.cz P.t o x)
 |.li o n=>.ok (st.cz P.t o n)
 |.la o nm=>match qj nm with|some v=>.ok (st.cz P.t o v)|none=>.bG st
 |.lw o a n=>st.dQ P.t a λx=>match st.cells.aE (P.t.aU (x+n)) with|some v=>.ok (st.cz P.t o v)|none=>.bG st
 |.sw v a n=>st.cU P.t v a λx y=>match st.cells.aE (P.t.aU (y+n)) with|some _=>.ok {st with cells:=st.cells.set (P.t.aU (y+n)) x}|none=>.bG st
 |.pL o i=>match st.cells.aE (P.dY st i) with|some v=>.ok (st.cz P.t o v)|none=>.bG st
 |.gG v i=>st.dQ P.t v λx=>match st.cells.aE (P.dY st i) with|some _=>.ok {st with cells:=st.cells.set (P.dY st i) x}|none=>.bG st
 |.pM o i=>.ok (st.cz P.t o (P.dY st i))
 |.call aH a b nm=>match P.fF nm with
  |some fn=>st.enter P nm fn aH
  |none=>st.cU P.t a b λx y=>({st with trace:=st.trace++[(nm,[x,y])]}:St).cA P.t aH (n5 nm x y st.trace.length)
 |.j k=>.ok (st.gS k)
 |.br k a b x y=>st.cU P.t a b λu v=>.ok (st.gS (if gX P.t.bits k u v then x else y))
 |.ret v=>match v with
  |[]=>st.iz P none
  |r::_=>st.dQ P.t r λx=>st.iz P (some x)
noncomputable def PM.aD(P:PM)(fr:bE):List bq:=(aI P fr.fn).bD[fr.dM]?.getD []
noncomputable def St.bY(st:St):St:=
 match st.ay with
 |[]=>st
 |fr::rest=>{st with ay:={fr with at_:=fr.at_+1}::rest}
noncomputable def PM.uB(P:PM)(st:St):b8:=
 match st.ay with
 |[]=>.bG st
 |fr::_=>match (P.aD fr)[fr.at_]? with
  |some ins=>P.step st.bY ins
  |none=>.bG st
noncomputable def PM.eY(P:PM):Nat->St->b8
 |0,st=>.fj st
 |n+1,st=>match P.uB st with
  |.ok ak=>P.eY n ak
  |o=>o
noncomputable def ng(t:aJ)(args:List Int):KV:=((t.args.zip args).foldl (λr p=>r.set p.1 (t.aU p.2)) (t.bh.foldl (λr x=>r.set x (t.aU (31*x+5))) []))
noncomputable def PM.run(P:PM)(st:St)(args:List Int)(aG:Nat):b8:=
 match ({st with aB:=ng P.t args,ay:=[]}:St).enter P bH P.f [] with
 |.ok ak=>P.eY aG ak
 |o=>o
noncomputable def Rg(r:Int):Prop:=0<=r/\r<100
noncomputable def Im(n:Int):Prop:=-1000<=n/\n<=1000
noncomputable def bq.wf(ns nb:Nat):bq->Prop
 |.lu k o a b=>k<8/\Rg o/\Rg a/\Rg b
 |.lz k o a n=>k<4/\Rg o/\Rg a/\Im n
 |.mv o a=>Rg o/\Rg a
 |.li o n=>Rg o/\Im n
 |.la o nm=>Rg o/\nm∈([[97],[98],[99],[113]]:List (List Nat))
 |.lw o a n=>Rg o/\Rg a/\Im n
 |.sw v a n=>Rg v/\Rg a/\Im n
 |.pL o i=>Rg o/\i<ns
 |.gG v i=>Rg v/\i<ns
 |.pM o i=>Rg o/\i<ns
 |.call aH a b nm=>aH.length<=1/\(∀o∈aH,Rg o)/\Rg a/\Rg b/\nm∈([[103],[104],[110],[102]]:List (List Nat))
 |.j k=>k<nb
 |.br k a b x y=>k<6/\Rg a/\Rg b/\x<nb/\y<nb
 |.ret v=>v.length<=1/\∀r∈v,Rg r
noncomputable def wY(ns nb:Nat)(aD:List bq):Prop:=aD≠[]/\aD.length<=100/\(∀ins∈aD,ins.wf ns nb)/\∀i ins,aD[i]?=some ins->ins.oO=false->i+1<aD.length
structure Fn.wf(fn:Fn):Prop where
 slots:fn.slots.length<=2/\∀s∈fn.slots,1<=s/\s<=2
 bD:fn.bD≠[]/\fn.bD.length<=3
 aD:∀aD∈fn.bD,wY fn.slots.length fn.bD.length aD
structure PM.wf(P:PM):Prop where
 bits:3<=P.t.bits/\P.t.bits<=8
 f:P.f.wf
 g:P.g.wf
end
section
set_option tactic.hygienic true
@[elab_as_elim] theorem pN {p:Nat->Prop} {k:Nat} (hk:k<4) (h0:p 0) (h1:p 1) (h2:p 2) (h3:p 3):p k:=by
  match k,hk with
  |0,_=>exact h0
  |1,_=>exact h1
  |2,_=>exact h2
  |3,_=>exact h3
@[elab_as_elim] theorem pO {p:Nat->Prop} {k:Nat} (hk:k<6) (h0:p 0) (h1:p 1) (h2:p 2) (h3:p 3) (h4:p 4) (h5:p 5):p k:=by
  match k,hk with
  |0,_=>exact h0
  |1,_=>exact h1
  |2,_=>exact h2
  |3,_=>exact h3
  |4,_=>exact h4
  |5,_=>exact h5
@[elab_as_elim] theorem mD {p:Nat->Prop} {k:Nat} (hk:k<8) (h0:p 0) (h1:p 1) (h2:p 2) (h3:p 3) (h4:p 4) (h5:p 5) (h6:p 6) (h7:p 7):p k:=by
  match k,hk with
  |0,_=>exact h0
  |1,_=>exact h1
  |2,_=>exact h2
  |3,_=>exact h3
  |4,_=>exact h4
  |5,_=>exact h5
  |6,_=>exact h6
  |7,_=>exact h7
structure St.Sz(N:Nat)(st:St):Prop where
 aB:st.aB.length<=N
 cells:st.cells.length<=N
 trace:st.trace.length<=N
 ay:st.ay.length<=64
 own:∀fr∈st.ay,fr.own.length<=N
 le:N<=900000
theorem rL(t:aJ)(v:Int):Builtin.bitAnd v (t.jd-1)=t.aU v:=kbt_mask v t.bits
theorem Ge{t:aJ}{st:St}{r v:Int}(hz:r=t.zero):st.cz t r v=st:=if_pos hz
theorem Gf{t:aJ}{st:St}{r v:Int}{s:bE}{rest:List bE}(hz:¬r=t.zero)(hv:64<=r)(hf:st.ay=s::rest):st.cz t r v={st with ay:={s with own:=s.own.set r (t.aU v)}::rest}:=by
 unfold St.cz;rw [if_neg hz,if_pos hv,hf]
theorem Gg{t:aJ}{st:St}{r v:Int}(hz:¬r=t.zero)(hv:¬64<=r):st.cz t r v={st with aB:=st.aB.set r (t.aU v)}:=by
 unfold St.cz;rw [if_neg hz,if_neg hv]
theorem wH{P:PM}(hP:P.wf):8<=P.t.jd/\P.t.jd<=256:=by
 obtain ⟨h1,h2⟩:=hP.bits
 unfold aJ.jd
 exact (by decide:∀b:Fin 9,3<=b.1->8<=(2:Int)^b.1/\(2:Int)^b.1<=256) ⟨P.t.bits,Nat.lt_succ_of_le h2⟩ h1
theorem zD{P:PM}(hP:P.wf)(v:Int):0<=P.t.aU v/\P.t.aU v<P.t.jd:=by
 have:=wH hP
 exact ⟨Int.emod_nonneg _ (by lia),Int.emod_lt_of_pos _ (by lia)⟩
noncomputable def gK:Int->List Int->List Int
 |_,[]=>[]
 |at_,w::r=>at_::gK (at_+w) r
theorem Gh:∀(l:List Int) (b:Int) (i:Nat),i<l.length->(gK b l)[i]?=some (b+(l.take i).sum)
 |w::r,b,0,_=>by simp [gK]
 |w::r,b,i+1,h=>by
  have:=Gh r (b+w) i (Nat.lt_of_succ_lt_succ h)
  simp only [gK,List.getElem?_cons_succ,List.take_succ_cons,List.sum_cons,this]
  congr 1;lia
theorem rJ{α β:Type}(f:β->α->β)(b:β)(l:List α)(i:Nat)(x:α)(h:l[i]?=some x):(l.take (i+1)).foldl f b=f ((l.take i).foldl f b) x:=by
 rw [List.take_add_one,List.foldl_append,h];rfl
noncomputable def mW(bh:List Int)(aB:KV)(l:List Int):KV:=l.foldl (λr x=>if x∈bh then r else r.aV x) aB
theorem wh(bh:List Int):∀(l:List Int) (aB:KV),mW bh aB l=aB.filter λp=>decide (p.1∈bh\/p.1∉l)
 |[],aB=>(List.filter_eq_self.mpr (by simp)).symm
 |x::r,aB=>by
  have ih:=wh bh r
  unfold mW at ih ⊢
  rw [List.foldl_cons,ih]
  split
  ·rename_i hx
   refine List.filter_congr λp Zaa=>?_
   by_cases hp:p.1=x
   ·rw [hp];simp [hx]
   ·simp [hp]
  ·rename_i hx
   unfold KV.aV
   rw [List.filter_filter]
   refine List.filter_congr λp Zaa=>?_
   by_cases hp:p.1=x
   ·rw [hp];simp [hx]
   ·simp [hp]
theorem Et:∀(l:List Int) (aB:KV),l.foldl KV.aV aB=aB.filter λp=>decide (p.1∉l)
 |[],aB=>(List.filter_eq_self.mpr (by simp)).symm
 |x::r,aB=>by
  rw [List.foldl_cons,Et r]
  unfold KV.aV
  rw [List.filter_filter]
  refine List.filter_congr λp Zaa=>?_
  by_cases hp:p.1=x
  ·rw [hp];simp
  ·simp [hp]
theorem Na(t:aJ)(aB:KV):mW t.bh (mW t.bh aB t.alloc) (t.args++t.ko++[t.oh])=t.d9.foldl KV.aV aB:=by
 rw [wh,wh,Et,List.filter_filter]
 refine List.filter_congr λp Zaa=>?_
 by_cases h:p.1∈(t.args++t.ko++[t.oh])++t.alloc++t.d9
 ·obtain ⟨ah,bits⟩:=t
  induction ah
  ·exact (by decide+kernel:∀x∈((⟨false,0⟩:aJ).args++(⟨false,0⟩:aJ).ko++[(⟨false,0⟩:aJ).oh])++(⟨false,0⟩:aJ).alloc++(⟨false,0⟩:aJ).d9,(decide (x∈(⟨false,0⟩:aJ).bh\/x∉(⟨false,0⟩:aJ).args++(⟨false,0⟩:aJ).ko++[(⟨false,0⟩:aJ).oh])&&decide (x∈(⟨false,0⟩:aJ).bh\/x∉(⟨false,0⟩:aJ).alloc))=decide (x∉(⟨false,0⟩:aJ).d9)) p.1 h
  ·exact (by decide+kernel:∀x∈((⟨true,0⟩:aJ).args++(⟨true,0⟩:aJ).ko++[(⟨true,0⟩:aJ).oh])++(⟨true,0⟩:aJ).alloc++(⟨true,0⟩:aJ).d9,(decide (x∈(⟨true,0⟩:aJ).bh\/x∉(⟨true,0⟩:aJ).args++(⟨true,0⟩:aJ).ko++[(⟨true,0⟩:aJ).oh])&&decide (x∈(⟨true,0⟩:aJ).bh\/x∉(⟨true,0⟩:aJ).alloc))=decide (x∉(⟨true,0⟩:aJ).d9)) p.1 h
 ·rw [List.mem_append,List.mem_append,not_or,not_or] at h
  rw [decide_eq_true (.inr h.1.1),decide_eq_true (.inr h.1.2),decide_eq_true h.2];rfl
theorem EF(bh:List Int)(aB:KV)(l:List Int):(mW bh aB l).length<=aB.length:=by
 rw [wh];exact List.length_filter_le ..
theorem KV.Qk{l:KV}{i v:Int}(h:l.aE i=none):l.set i v=l++[(i,v)]:=by
 induction l with
 |nil=>rfl
 |cons p r ih=>
  obtain ⟨k,u⟩:=p
  simp only [KV.aE] at h
  split at h
  ·cases h
  ·rename_i q
   simp only [KV.set,q,if_false,ih h,List.cons_append]
theorem zN{aB:KV}:∀{l:List Int} {x:Int},x∉l->KV.aE (l.filterMap λr=>(aB.aE r).map λv=>(r,v)) x=none
 |[],x,_=>rfl
 |y::r,x,h=>by
  rw [List.mem_cons,not_or] at h
  rw [List.filterMap_cons]
  cases q:aB.aE y with
  |none=>exact zN h.2
  |some v=>
   simp only [Option.map_some,KV.aE]
   first|refine Ll ((Ne.symm h.1)) ?_|rw [if_neg ((Ne.symm h.1))]
   exact zN h.2
theorem MJ{aB:KV}{l:List Int}{i:Nat}{x:Int}(hn:l.Nodup)(h:l[i]?=some x):
 ((l.take (i+1)).filterMap λr=>(aB.aE r).map λv=>(r,v))=match aB.aE x with|some v=>KV.set ((l.take i).filterMap λr=>(aB.aE r).map λv=>(r,v)) x v|none=>(l.take i).filterMap λr=>(aB.aE r).map λv=>(r,v):=by
 rw [List.take_add_one,h,List.filterMap_append]
 have hx:x∉l.take i:=by
  intro hm
  obtain ⟨j,hj⟩:=List.mem_iff_getElem?.mp hm
  rw [List.getElem?_take] at hj
  split at hj
  ·rename_i vA
   have hlt:=(List.getElem?_eq_some_iff.mp h).1
   have:=(List.getElem?_inj (by lia:j<l.length) hn).mp (hj.trans h.symm)
   lia
  ·cases hj
 cases q:aB.aE x with
 |none=>simp [q]
 |some v=>simp [q,KV.Qk (zN hx)]
theorem MK(t:aJ):t.bh.Nodup:=by unfold aJ.bh;split<;>decide
theorem rM(t:aJ):t.bh.length<=11:=by unfold aJ.bh;split<;>decide
theorem wB(cells:KV)(base:Int)(i:Nat):dP cells base (i+1)=(dP cells base i).set (base+i) 0:=by
 unfold dP;rw [List.range_succ,List.foldl_append];rfl
theorem wI(cells:KV)(base:Int):∀i,(dP cells base i).length<=cells.length+i
 |0=>by simp [dP]
 |i+1=>by
  rw [wB]
  have:=KV.mP (dP cells base i) (base+i) 0
  have:=wI cells base i
  lia
theorem gM{P:PM}(hP:P.wf){nm:List Nat}(h:nm=bH\/nm=cu):(aI P nm).wf:=by
 rcases h with e|e
 ·have:aI P nm=P.f:=by unfold aI PM.fF;rw [if_pos e];rfl
  rw [this];exact hP.f
 ·have hne:nm≠bH:=by rw [e];decide
  have:aI P nm=P.g:=by unfold aI PM.fF;rw [if_neg hne,if_pos e];rfl
  rw [this];exact hP.g
theorem Am{fn:Fn}(h:fn.wf):0<=fn.bu/\fn.bu<=4:=by
 obtain ⟨h1,h2⟩:=h.slots
 unfold Fn.bu
 match q:fn.slots,h1 with
 |[],_=>simp
 |[a],_=>have:=h2 a (by rw [q];simp);simp;lia
 |[a,b],_=>
  have:=h2 a (by rw [q];simp)
  have:=h2 b (by rw [q];simp)
  simp;lia
theorem wo(cells:KV)(base:Int)(i:Nat):dh cells base (i+1)=(dh cells base i).aV (base+i):=by
 unfold dh;rw [List.range_succ,List.foldl_append];rfl
theorem rH(cells:KV)(base:Int):∀i,(dh cells base i).length<=cells.length
 |0=>Nat.le_refl _
 |i+1=>by rw [wo];exact Nat.le_trans (KV.Gb ..) (rH cells base i)
theorem tU(cells:KV)(base:Int):∀(i:Nat) (a:Int),(dh cells base i).aE a=if base<=a/\a<base+i then none else cells.aE a
 |0,a=>by
  rw [if_neg (by lia)];rfl
 |i+1,a=>by
  rw [wo,KV.Gd,tU cells base i a]
  by_cases h:base+i=a
  ·rw [if_pos h,if_pos (by lia)]
  ·first|refine Ll (h) ?_|rw [if_neg (h)]
   by_cases h2:base<=a/\a<base+i
   ·rw [if_pos h2,if_pos (by lia)]
   ·rw [if_neg h2,if_neg (by lia)]
theorem zP(cells:KV)(base:Int):∀(i:Nat) (a:Int),(dP cells base i).aE a=if base<=a/\a<base+i then some 0 else cells.aE a
 |0,a=>by
  rw [if_neg (by lia)];rfl
 |i+1,a=>by
  rw [wB,KV.Al,zP cells base i a]
  by_cases h:base+i=a
  ·rw [if_pos h,if_pos (by lia)]
  ·first|refine Ll (h) ?_|rw [if_neg (h)]
   by_cases h2:base<=a/\a<base+i
   ·rw [if_pos h2,if_pos (by lia)]
   ·rw [if_neg h2,if_neg (by lia)]
theorem EU{aB aR:KV}{i:Nat}{k v:Int}(h:xu aB aR=true)(e:aR[i]?=some (k,v)):aB.aE k=some v:=by
 have:=List.all_eq_true.mp h (k,v) (List.mem_of_getElem? e)
 simpa using this
noncomputable def cj(t:aJ)(st:St):List Int->Option (List Int)
 |[]=>some []
 |x::r=>match st.aT t x,cj t st r with
  |some a,some b=>some (a::b)
  |_,_=>none
theorem Ea{t:aJ}{st:St}{x v:Int}(hx:st.aT t x=some v):∀{l ys:List Int},cj t st l=some ys->cj t st (l++[x])=some (ys++[v])
 |[],ys,h=>by obtain rfl:=Option.some.inj h;simp [cj,hx]
 |y::r,ys,h=>by
  simp only [cj] at h
  split at h
  ·rename_i a b h1 h2
   obtain rfl:=Option.some.inj h
   simp only [List.cons_append,cj,h1,Ea hx h2]
  ·cases h
theorem Eb{t:aJ}{st:St}{x:Int}(hx:st.aT t x=none):∀{l:List Int},x∈l->cj t st l=none
 |y::r,h=>by
  rcases List.mem_cons.mp h with e|h
  ·subst e;simp only [cj,hx]
  ·simp only [cj,Eb hx h]
   cases st.aT t y<;>rfl
theorem zE{t:aJ}{st:St}:∀{l ys:List Int},cj t st l=some ys->ys.length=l.length
 |[],ys,h=>by obtain rfl:=Option.some.inj h;rfl
 |y::r,ys,h=>by
  simp only [cj] at h
  split at h
  ·rename_i a b h1 h2
   obtain rfl:=Option.some.inj h
   simp [zE h2]
  ·cases h
theorem jI{t:aJ}{st:St}{a b:Int}:cj t st [a,b]=match st.aT t a,st.aT t b with|some x,some y=>some [x,y]|_,_=>none:=by
 simp only [cj];cases st.aT t a<;>cases st.aT t b<;>rfl
theorem qf{t:aJ}{st:St}{a:Int}:cj t st [a]=match st.aT t a with|some x=>some [x]|_=>none:=by
 simp only [cj];cases st.aT t a<;>rfl
theorem fm(x:Int){y:Int}(h:0<=y):x.fmod y=x%y:=Int.fmod_eq_emod_of_nonneg x h
theorem vB(x:Int)(b:Nat):x.fmod (2^b)=x%2^b:=fm x (Int.le_of_lt (kbt_pos b))
theorem Ff(t:aJ):∀x∈t.bh,Rg x:=by
 unfold aJ.bh;split<;>(unfold Rg;decide)
end
section
set_option tactic.hygienic true
noncomputable def gm(c:Int->Bool):Nat->Int->Int->Int
 |0,_,_=>0
 |b+1,x,y=>2*gm c b (x/2) (y/2)+(if c (x%2+y%2) then 1 else 0)
theorem tT(b:Nat):(2:Int)^(b+1)=2*2^b:=by rw [Int.pow_succ];lia
theorem wD(c:Int->Bool):∀(b:Nat) (x y:Int),0<=gm c b x y/\gm c b x y<2^b
 |0,_,_=>by simp [gm]
 |b+1,x,y=>by
  have:=wD c b (x/2) (y/2)
  rw [tT]
  simp only [gm]
  split<;>lia
theorem rK{b:Nat}{x:Int}(h:0<=x/\x<2^(b+1)):0<=x/2/\x/2<2^b:=by
 rw [tT] at h;lia
noncomputable def lW(s:Int):Bool:=decide (s=2)
noncomputable def sL(s:Int):Bool:=decide (s=1)
noncomputable def tn(s:Int):Bool:=decide (s=1\/s=2)
theorem Fg:∀(b:Nat) (x y:Int),(0<=x/\x<2^b)->(0<=y/\y<2^b)->Builtin.bitAnd x y=gm lW b x y
 |0,x,y,hx,hy=>by
  have h1:x=0:=by simp at hx;lia
  have h2:y=0:=by simp at hy;lia
  subst h1;subst h2;rfl
 |b+1,x,y,hx,hy=>by
  rw [kbt_halves,Fg b _ _ (rK hx) (rK hy)]
  simp only [gm,lW]
  congr 1
  simp only [decide_eq_true_eq]
  split<;>split<;>lia
theorem Fi:∀(b:Nat) (x y:Int),(0<=x/\x<2^b)->(0<=y/\y<2^b)->gm sL b x y+2*gm lW b x y=x+y
 |0,x,y,hx,hy=>by
  have h1:x=0:=by simp at hx;lia
  have h2:y=0:=by simp at hy;lia
  subst h1;subst h2;rfl
 |b+1,x,y,hx,hy=>by
  have ih:=Fi b _ _ (rK hx) (rK hy)
  simp only [gm,lW,sL,decide_eq_true_eq]
  split<;>split<;>lia
theorem Gi:∀(b:Nat) (x y:Int),(0<=x/\x<2^b)->(0<=y/\y<2^b)->gm tn b x y+gm lW b x y=x+y
 |0,x,y,hx,hy=>by
  have h1:x=0:=by simp at hx;lia
  have h2:y=0:=by simp at hy;lia
  subst h1;subst h2;rfl
 |b+1,x,y,hx,hy=>by
  have ih:=Gi b _ _ (rK hx) (rK hy)
  simp only [gm,lW,tn,decide_eq_true_eq]
  split<;>split<;>lia
theorem Gj(b:Nat)(x y:Int)(hx:0<=x/\x<2^b)(hy:0<=y/\y<2^b):Builtin.bitAnd x y=gm lW b x y/\Builtin.bitOr x y=gm tn b x y/\Builtin.bitXor x y=gm sL b x y:=by
 have h1:=Fg b x y hx hy
 have h2:=Gi b x y hx hy
 have h3:=Fi b x y hx hy
 refine ⟨h1,?_,?_⟩
 ·rw [bitOr_and,h1];lia
 ·rw [bitXor_and,h1];lia
noncomputable def fN(c:Int->Bool)(x y:Int)(at_:Nat):Option Int:=if c (x/2^at_%2+y/2^at_%2) then some (2^at_) else none
noncomputable def yj(c:Int->Bool)(b:Nat)(x y:Int):Int:=((List.range b).filterMap (fN c x y)).sum
theorem NU(c:Int->Bool)(x y:Int)(i:Nat):fN c x y (i+1)=(fN c (x/2) (y/2) i).map (2*·):=by
 unfold fN
 rw [tT,<-Int.ediv_ediv_of_nonneg (by decide),<-Int.ediv_ediv_of_nonneg (by decide)]
 split<;>simp
theorem An:∀(l:List Int),(l.map (2*·)).sum=2*l.sum
 |[]=>rfl
 |x::r=>by simp only [List.map_cons,List.sum_cons,An r];lia
theorem wJ(c:Int->Bool):∀(b:Nat) (x y:Int),yj c b x y=gm c b x y
 |0,_,_=>rfl
 |b+1,x,y=>by
  have ih:=wJ c b (x/2) (y/2)
  unfold yj at ih ⊢
  have e:(fN c x y)∘Nat.succ=λi=>(fN c (x/2) (y/2) i).map (2*·):=by funext i;exact NU c x y i
  have e2:((List.range b).map Nat.succ).filterMap (fN c x y)=((List.range b).filterMap (fN c (x/2) (y/2))).map (2*·):=by
   rw [List.filterMap_map,e,List.map_filterMap]
  rw [List.range_succ_eq_map,List.filterMap_cons,e2]
  simp only [gm]
  have h0:fN c x y 0=if c (x%2+y%2) then some 1 else none:=by
   unfold fN;simp
  rw [h0]
  split
  ·rename_i h
   split at h
   ·cases h
   ·rename_i h2
    rw [An,ih,if_neg h2];lia
  ·rename_i z h
   split at h
   ·rename_i h2
    obtain rfl:=Option.some.inj h
    rw [List.sum_cons,An,ih,if_pos h2];lia
   ·cases h
noncomputable def Wd(b:Nat)(x:Int):Prop:=0<=x/\x<2^b
theorem gA{b:Nat}(h:3<=b/\b<=8):8<=(2:Int)^b/\(2:Int)^b<=256:=by
 exact (by decide:∀b:Fin 9,3<=b.1->8<=(2:Int)^b.1/\(2:Int)^b.1<=256) ⟨b,Nat.lt_succ_of_le h.2⟩ h.1
theorem EV{b:Nat}(hb:3<=b/\b<=8){k:Nat}{x y:Int}(hx:Wd b x)(hy:Wd b y):Wd b (cN b k x y):=by
 have h8:=gA hb
 obtain ⟨b1,b2,b3⟩:=Gj b x y hx hy
 unfold cN Wd
 split
 ·exact ⟨Int.emod_nonneg _ (by lia),Int.emod_lt_of_pos _ (by lia)⟩
 ·exact ⟨Int.emod_nonneg _ (by lia),Int.emod_lt_of_pos _ (by lia)⟩
 ·rw [b1];exact wD ..
 ·rw [b2];exact wD ..
 ·rw [b3];exact wD ..
 ·exact ⟨Int.emod_nonneg _ (by lia),Int.emod_lt_of_pos _ (by lia)⟩
 ·split<;>lia
 ·split<;>lia
theorem Hv{b:Nat}{x:Int}(h:Wd b x):x%2^b=x:=Int.emod_eq_of_lt h.1 h.2
theorem OI{b:Nat}(hb:3<=b/\b<=8){v:Int}(hv:Wd b v):(Builtin.bitAnd (v.fdiv (2^((b:Int)-1).toNat)) 1=0)↔¬2*v>=2^b:=by
 obtain ⟨h1,h2⟩:=hv
 induction b with
 |zero=>exact absurd hb.1 (by decide)
 |succ k=>
  have e1:(((k+1:Nat):Int)-1).toNat=k:=by clear hb h1 h2;lia
  have hp:=kbt_pos k
  rw [e1,bitAnd_m1,Int.fdiv_eq_ediv_of_nonneg _ (Int.le_of_lt hp),tT]
  rw [tT] at h2
  generalize (2:Int)^k=p at*
  clear hb e1
  constructor
  ·intro h
   have a1:=Int.ediv_lt_of_lt_mul hp h2
   have a2:=Int.ediv_nonneg h1 (Int.le_of_lt hp)
   have a3:v/p=0:=by clear h1 h2;lia
   have a4:=Int.lt_ediv_add_one_mul_self v hp
   rw [a3] at a4
   clear a1 a2 a3 h h2
   lia
  ·intro h
   rw [Int.ediv_eq_zero_of_lt h1 (by clear h1 h2;lia)];rfl
end
section
noncomputable def Bx(P:PM):List bE->Int->Prop
 |[],free=>free=5
 |s::r,free=>s.base+(aI P s.fn).bu=free/\Bx P r s.base
noncomputable def VR(b:Nat)(l:KV):Prop:=∀k v,l.aE k=some v->Wd b v
structure vD(P:PM)(s:bE):Prop where
 fn:s.fn=bH\/s.fn=cu
 dM:s.dM<(aI P s.fn).bD.length
 aH:s.aH.length<=1/\∀o∈s.aH,Rg o
 aR:s.aR.length<=1000/\∀p∈s.aR,Rg p.1/\0<=p.2
 own:VR P.t.bits s.own
noncomputable def uP(P:PM)(s:bE):Prop:=∃ins,(P.aD s)[s.at_]?=some ins
structure dU(P:PM)(st:St):Prop where
 jP:Bx P st.ay st.free
 ay:∀s∈st.ay,vD P s
 pP:∀s∈st.ay.tail,uP P s
 cells:∀a,5<=a->a<st.free->(st.cells.aE a).isSome=true
 vr:VR P.t.bits st.aB
 vc:VR P.t.bits st.cells
 free:st.free<=P.t.jd
structure bZ(P:PM)(st:St):Prop extends dU P st where
 head:∀s∈st.ay.head?,uP P s
theorem rN{fn:Fn}(h:fn.wf):0<=fn.bu/\fn.bu<=4:=Am h
theorem wO{P:PM}(hP:P.wf):∀{ay:List bE} {free:Int},(∀s∈ay,s.fn=bH\/s.fn=cu)->Bx P ay free->5<=free
 |[],free,_,h=>by have:free=5:=h;lia
 |s::r,free,hf,h=>by
  have:=wO hP (λs hs=>hf s (List.mem_cons_of_mem _ hs)) h.2
  have:=rN (gM hP (hf s List.mem_cons_self))
  have:=h.1
  lia
theorem uc{P:PM}(hP:P.wf)(v:Int):Wd P.t.bits (P.t.aU v):=zD hP v
theorem Gk{P:PM}(hP:P.wf):Wd P.t.bits 0:=by have:=gA hP.bits;unfold Wd;lia
theorem VR.set{b:Nat}{l:KV}{i v:Int}(h:VR b l)(hv:Wd b v):VR b (l.set i v):=λk u e=>by
 rw [KV.Al] at e
 split at e
 ·obtain rfl:=Option.some.inj e;exact hv
 ·exact h k u e
theorem VR.aV{b:Nat}{l:KV}{i:Int}(h:VR b l):VR b (l.aV i):=λk u e=>by
 rw [KV.Gd] at e
 split at e
 ·cases e
 ·exact h k u e
theorem VR.Jl{b:Nat}:∀{xs:List Int} {l:KV},VR b l->VR b (xs.foldl KV.aV l)
 |[],_,h=>h
 |x::r,l,h=>VR.Jl (xs:=r) h.aV
theorem VR.dP{P:PM}(hP:P.wf){l:KV}{base:Int}{n:Nat}(h:VR P.t.bits l):VR P.t.bits (dP l base n):=λk v e=>by
 rw [zP] at e
 split at e
 ·obtain rfl:=Option.some.inj e;exact Gk hP
 ·exact h k v e
theorem VR.dh{b:Nat}{l:KV}{base:Int}{n:Nat}(h:VR b l):VR b (dh l base n):=λk v e=>by
 rw [tU] at e
 split at e
 ·cases e
 ·exact h k v e
variable{P:PM}{st ak:St}{s:bE}{rest:List bE}
theorem dU.aT(h:dU P st)(hP:P.wf){r v:Int}(e:st.aT P.t r=some v):Wd P.t.bits v:=by
 unfold St.aT at e
 split at e
 ·obtain rfl:=Option.some.inj e;exact Gk hP
 ·split at e
  ·cases hf:st.ay with
   |nil=>rw [hf] at e;cases e
   |cons fr r2=>
    rw [hf] at e
    exact (h.ay fr (by rw [hf];exact List.mem_cons_self)).own _ _ e
  ·exact h.vr _ _ e
theorem dU.bY(h:dU P st):dU P st.bY:=by
 unfold St.bY
 cases hf:st.ay with
 |nil=>exact h
 |cons s r=>
  have h1:=h.jP
  have h2:=h.ay
  have h3:=h.pP
  rw [hf] at h1 h2 h3
  have h4:∀x∈({s with at_:=s.at_+1}:bE)::r,vD P x:=λx hx=>by
   rcases List.mem_cons.mp hx with h|hx
   ·exact h▸{h2 s List.mem_cons_self with}
   ·exact h2 x (List.mem_cons_of_mem _ hx)
  exact {h with jP:=h1,ay:=h4,pP:=h3}
theorem dU.cz(h:dU P st)(hP:P.wf)(r v:Int):dU P (st.cz P.t r v):=by
 unfold St.cz
 split
 ·exact h
 ·split
  ·cases hf:st.ay with
   |nil=>exact h
   |cons s rr=>
    have h1:=h.jP
    have h2:=h.ay
    have h3:=h.pP
    rw [hf] at h1 h2 h3
    have h4:∀x∈({s with own:=s.own.set r (P.t.aU v)}:bE)::rr,vD P x:=λx hx=>by
     rcases List.mem_cons.mp hx with rfl|hx
     ·have hs:=h2 s List.mem_cons_self
      exact {hs with own:=hs.own.set (uc hP v)}
     ·exact h2 x (List.mem_cons_of_mem _ hx)
    exact {h with jP:=h1,ay:=h4,pP:=h3}
  ·exact {h with vr:=h.vr.set (uc hP v)}
theorem bZ.cz(h:bZ P st)(hP:P.wf)(r v:Int):bZ P (st.cz P.t r v):=by
 refine ⟨h.todU.cz hP r v,?_⟩
 unfold St.cz
 split
 ·exact h.head
 ·split
  ·cases hf:st.ay with
   |nil=>have:=h.head;rw [hf] at this;rw [hf];exact this
   |cons s rr=>
    intro x hx
    have:x={s with own:=s.own.set r (P.t.aU v)}:=(Option.some.inj hx).symm
    subst this
    exact h.head s (by rw [hf];rfl)
  ·exact h.head
theorem bZ.Us(h:bZ P st){a v:Int}(hv:Wd P.t.bits v):bZ P {st with cells:=st.cells.set a v}:=
 have hc:∀x,5<=x->x<st.free->((st.cells.set a v).aE x).isSome=true:=λx h5 hx=>by
  have:=h.cells x h5 hx
  rw [KV.Al];split
  ·rfl
  ·exact this
 {h with vc:=h.vc.set hv,cells:=hc}
theorem dU.gS(h:dU P st){k:Nat}(hf:st.ay=s::rest)(hk:k<(aI P s.fn).bD.length)(hP:P.wf):bZ P (st.gS k):=by
 unfold St.gS
 rw [hf]
 have h1:=h.jP
 have h2:=h.ay
 have h3:=h.pP
 rw [hf] at h1 h2 h3
 have hs:=h2 s List.mem_cons_self
 refine ⟨{h with jP:=h1,ay:=λx hx=>?_,pP:=h3},λx hx=>?_⟩
 ·rcases List.mem_cons.mp hx with rfl|hx
  ·exact {hs with dM:=hk}
  ·exact h2 x (List.mem_cons_of_mem _ hx)
 ·have:x={s with dM:=k,at_:=0}:=(Option.some.inj hx).symm
  subst this
  have hw:=(gM hP hs.fn).aD _ (List.getElem_mem hk)
  unfold uP PM.aD
  simp only
  rw [List.getElem?_eq_getElem hk]
  cases hr:(aI P s.fn).bD[k] with
  |nil=>exact absurd hr hw.1
  |cons i r=>exact ⟨i,rfl⟩
theorem bZ.kK(h:bZ P st):bZ P (st.kK P.t):={h with vr:=h.vr.Jl}
theorem bZ.cA(h:bZ P st)(hP:P.wf){aH:List Int}{v:Option Int}(e:st.cA P.t aH v=.ok ak):bZ P ak:=by
 unfold St.cA at e
 split at e
 ·cases e;exact h.kK
 ·cases e
 ·cases e;exact h.kK.cz hP _ _
theorem NV(hP:P.wf){aB:KV}(h:VR P.t.bits aB):(e9 P.t aB).length<=1000/\∀p∈e9 P.t aB,Rg p.1/\0<=p.2:=by
 refine ⟨Nat.le_trans (List.length_filterMap_le ..) (Nat.le_trans (rM P.t) (by decide)),λp hp=>?_⟩
 obtain ⟨r,hr,e⟩:=List.mem_filterMap.mp hp
 obtain ⟨v,hv,e2⟩:=Option.map_eq_some_iff.mp e
 subst e2
 refine ⟨?_,(h r v hv).1⟩
 have:∀x∈P.t.bh,Rg x:=by
  unfold aJ.bh;split<;>(unfold Rg;decide)
 exact this r hr
theorem bZ.enter(h:bZ P st)(hP:P.wf){nm:List Nat}{aH:List Int}(hn:nm=bH\/nm=cu)(ho:aH.length<=1/\∀o∈aH,Rg o)(e:st.enter P nm (aI P nm) aH=.ok ak):bZ P ak:=by
 unfold St.enter at e
 split at e
 ·cases e
 ·split at e
  ·cases e
  ·rename_i h1 h2
   cases e
   have hw:=gM hP hn
   have w:=rN hw
   have h5:=wO hP (λs hs=>(h.ay s hs).fn) h.jP
   have vh:st.free+(aI P nm).bu<=P.t.jd:=by lia
   refine ⟨⟨⟨rfl,h.jP⟩,λx hx=>?_,λx hx=>?_,λa ha hb=>?_,h.vr,h.vc.dP hP,vh⟩,λx hx=>?_⟩
   ·rcases List.mem_cons.mp hx with rfl|hx
    ·exact ⟨hn,by have:=hw.bD.1;show 0<_;exact List.length_pos_iff.mpr this,ho,NV hP h.vr,λk v e=>by cases e⟩
    ·exact h.ay x hx
   ·cases hf:st.ay with
    |nil=>rw [show st.ay=[] from hf] at hx;cases hx
    |cons s r=>
     have yT:x∈st.ay:=hx
     rw [hf] at yT
     rcases List.mem_cons.mp yT with rfl|yT
     ·exact h.head _ (by rw [hf];rfl)
     ·exact h.pP x (by rw [hf];exact yT)
   ·show ((dP _ _ _).aE a).isSome=true
    have nN:a<st.free+(aI P nm).bu:=hb
    rw [zP]
    split
    ·rfl
    ·rename_i hn2
     exact h.cells a ha (by lia)
   ·have:x=⟨nm,0,0,[],st.free,e9 P.t st.aB,aH⟩:=(Option.some.inj hx).symm
    subst this
    have fQ:0<(aI P nm).bD.length:=List.length_pos_iff.mpr hw.bD.1
    have hr:=hw.aD _ (List.getElem_mem fQ)
    unfold uP PM.aD
    simp only
    rw [List.getElem?_eq_getElem fQ]
    cases hr2:(aI P nm).bD[0] with
    |nil=>exact absurd hr2 hr.1
    |cons i r=>exact ⟨i,rfl⟩
theorem dU.lg(h:dU P st)(hP:P.wf)(hf:st.ay=s::rest):bZ P {st with ay:=rest,cells:=dh st.cells s.base (aI P s.fn).bu.toNat,free:=s.base}:=by
 have h1:=h.jP
 have h2:=h.ay
 have h3:=h.pP
 rw [hf] at h1 h2 h3
 have w:=rN (gM hP (h2 s List.mem_cons_self).fn)
 refine ⟨⟨h1.2,λx hx=>h2 x (List.mem_cons_of_mem _ hx),λx hx=>h3 x (List.mem_of_mem_tail hx),λa ha hb=>?_,h.vr,h.vc.dh,?_⟩,λx hx=>h3 x (List.mem_of_mem_head? hx)⟩
 ·show ((dh _ _ _).aE a).isSome=true
  have nN:a<s.base:=hb
  rw [tU,if_neg (by lia)]
  have:=h1.1
  exact h.cells a ha (by lia)
 ·show s.base<=_
  have:=h1.1
  have:=h.free
  lia
theorem dU.Jm(h:dU P st)(hP:P.wf)(hf:st.ay=s::rest):∀i:Nat,i<(aI P s.fn).bu.toNat->(st.cells.aE (s.base+i)).isSome=true:=λi hi=>by
 have h1:=h.jP
 have h2:=h.ay
 rw [hf] at h1 h2
 have:=wO hP (λx hx=>(h2 x (List.mem_cons_of_mem _ hx)).fn) h1.2
 have:=h1.1
 exact h.cells _ (by lia) (by lia)
theorem dU.iz(h:dU P st)(hP:P.wf)(v:Option Int):(∀ak,st.iz P v=.ok ak->bZ P ak)/\∀w ak,st.iz P v=.done w ak->bZ P ak/\ak.ay=[]:=by
 unfold St.iz
 cases hf:st.ay with
 |nil=>exact ⟨λak e=>(by cases e),λw ak e=>(by cases e)⟩
 |cons s rest=>
  have hp:=h.lg hP hf
  simp only
  split
  ·split
   ·rename_i hr
    exact ⟨λak e=>(by cases e),λw ak e=>(by cases e;exact ⟨hp,hr⟩)⟩
   ·refine ⟨λak e=>hp.cA hP e,λw ak e=>?_⟩
    unfold St.cA at e
    split at e<;>cases e
  ·exact ⟨λak e=>(by cases e),λw ak e=>(by cases e)⟩
end
section
variable{P:PM}{st ak:St}{s:bE}{rest:List bE}{ins:bq}{N:Nat}
theorem vD.row(hP:P.wf)(h:vD P s)(e:(P.aD s)[s.at_]?=some ins):ins.wf (aI P s.fn).slots.length (aI P s.fn).bD.length/\(P.aD s).length<=100/\(ins.oO=false->uP P {s with at_:=s.at_+1}):=by
 have hb:=h.dM
 have hr:P.aD s=(aI P s.fn).bD[s.dM]:=by unfold PM.aD;rw [List.getElem?_eq_getElem h.dM];rfl
 have hw:=(gM hP h.fn).aD _ (List.getElem_mem h.dM)
 rw [<-hr] at hw
 refine ⟨hw.2.2.1 ins (List.mem_of_getElem? e),hw.2.1,λht=>?_⟩
 have:=hw.2.2.2 s.at_ ins e ht
 exact ⟨_,List.getElem?_eq_getElem this⟩
theorem bZ.bY(h:bZ P st)(hP:P.wf)(hf:st.ay=s::rest)(e:(P.aD s)[s.at_]?=some ins)(ht:ins.oO=false):bZ P st.bY:=by
 refine ⟨h.todU.bY,λx hx=>?_⟩
 have hs:=h.ay s (by rw [hf];exact List.mem_cons_self)
 unfold St.bY at hx
 rw [hf] at hx
 have:x={s with at_:=s.at_+1}:=(Option.some.inj hx).symm
 subst this
 exact (hs.row hP e).2.2 ht
theorem Ao(hf:st.ay=s::rest):st.bY.ay={s with at_:=s.at_+1}::rest:=by unfold St.bY;rw [hf]
inductive SR(P:PM)(st:St):bq->b8->Prop
 |eL {ins:bq}:SR P st ins (.bG st)
 |wr {ins:bq} {o v:Int} (h:ins.oO=false):SR P st ins (.ok (st.cz P.t o v))
 |vE {ins:bq} {a x r:Int} (h:ins.oO=false) (hr:st.aT P.t r=some x):SR P st ins (.ok {st with cells:=st.cells.set a x})
 |yU {aH:List Int} {a b:Int} {nm:List Nat} {fn:Fn} (hf:P.fF nm=some fn):SR P st (.call aH a b nm) (st.enter P nm fn aH)
 |bk {aH:List Int} {a b:Int} {nm:List Nat} (x y:Int):SR P st (.call aH a b nm) (({st with trace:=st.trace++[(nm,[x,y])]}:St).cA P.t aH (n5 nm x y st.trace.length))
 |j {k:Nat}:SR P st (.j k) (.ok (st.gS k))
 |br {k:Nat} {a b:Int} {x y z:Nat} (h:z=x\/z=y):SR P st (.br k a b x y) (.ok (st.gS z))
 |lv {v:List Int} (w:Option Int):SR P st (.ret v) (st.iz P w)
theorem wQ{K:b8->Prop}{t:aJ}{a b:Int}{k:Int->Int->b8}(hf:K (.bG st))(h:∀x y,st.aT t a=some x->st.aT t b=some y->K (k x y)):K (st.cU t a b k):=by
 unfold St.cU
 split
 ·exact h _ _ (by assumption) (by assumption)
 ·exact hf
theorem t6{K:b8->Prop}{t:aJ}{a:Int}{k:Int->b8}(hf:K (.bG st))(h:∀x,st.aT t a=some x->K (k x)):K (st.dQ t a k):=by
 unfold St.dQ
 split
 ·exact h _ (by assumption)
 ·exact hf
theorem Aq{ins:bq}:SR P st ins (P.step st ins):=by
 induction ins with
 |lu k o a b=>exact wQ (K:=SR P st _) .eL λx y Zaa Zaa=>.wr rfl
 |lz k o a v=>exact t6 (K:=SR P st _) .eL λx Zaa=>.wr rfl
 |mv o a=>exact t6 (K:=SR P st _) .eL λx Zaa=>.wr rfl
 |li o v=>exact .wr rfl
 |la o nm=>
  show SR P st _ (match qj nm with|some v=>.ok (st.cz P.t o v)|none=>.bG st)
  cases qj nm with
  |none=>exact .eL
  |some v=>exact .wr rfl
 |lw o a v=>
  refine t6 (K:=SR P st _) .eL λx Zaa=>?_
  cases st.cells.aE (P.t.aU (x+v)) with
  |none=>exact .eL
  |some v=>exact .wr rfl
 |sw v a i=>
  refine wQ (K:=SR P st _) .eL λx y hx Zaa=>?_
  cases st.cells.aE (P.t.aU (y+i)) with
  |none=>exact .eL
  |some v=>exact .vE rfl hx
 |pL o i=>
  show SR P st _ (match st.cells.aE (P.dY st i) with|some v=>.ok (st.cz P.t o v)|none=>.bG st)
  cases st.cells.aE (P.dY st i) with
  |none=>exact .eL
  |some v=>exact .wr rfl
 |gG v i=>
  refine t6 (K:=SR P st _) .eL λx hx=>?_
  cases st.cells.aE (P.dY st i) with
  |none=>exact .eL
  |some v=>exact .vE rfl hx
 |pM o i=>exact .wr rfl
 |call aH a b nm=>
  show SR P st _ (match P.fF nm with|some fn=>st.enter P nm fn aH|none=>st.cU P.t a b λx y=>({st with trace:=st.trace++[(nm,[x,y])]}:St).cA P.t aH (n5 nm x y st.trace.length))
  generalize q:P.fF nm=o
  induction o with
  |some fn=>exact .yU q
  |none=>exact wQ (K:=SR P st _) .eL λx y Zaa Zaa=>.bk x y
 |j k=>exact .j
 |br k a b x y=>exact wQ (K:=SR P st _) .eL λu v Zaa Zaa=>.br (by split<;>first|exact .inl rfl|exact .inr rfl)
 |ret v=>induction v with
  |nil=>exact .lv none
  |cons r v=>exact t6 (K:=SR P st _) .eL λx Zaa=>.lv (some x)
theorem Fj{nm:List Nat}{fn:Fn}{aH:List Int}{w:Option Int}(e:st.enter P nm fn aH=.done w ak):False:=by
 unfold St.enter at e
 split at e
 ·cases e
 ·split at e<;>cases e
theorem Gl{t:aJ}{aH:List Int}{v w:Option Int}(e:st.cA t aH v=.done w ak):False:=by
 unfold St.cA at e
 split at e<;>cases e
theorem j8{K:St->Prop}{x y:St}(e:b8.ok x=.ok y)(h:K x):K y:=by cases e;exact h
theorem Ql{nm:List Nat}{fn:Fn}(gq:P.fF nm=some fn):(nm=bH\/nm=cu)/\fn=aI P nm:=by
 refine ⟨?_,by unfold aI;rw [gq];rfl⟩
 unfold PM.fF at gq
 split at gq
 ·exact .inl (by assumption)
 ·split at gq
  ·exact .inr (by assumption)
  ·cases gq
theorem bZ.step(h:bZ P st)(hP:P.wf)(hf:st.ay=s::rest)(hi:(P.aD s)[s.at_]?=some ins):
 (∀ak,P.step st.bY ins=.ok ak->bZ P ak)/\∀w ak,P.step st.bY ins=.done w ak->bZ P ak/\ak.ay=[]:=by
 have bV:=((h.ay s (by rw [hf];exact List.mem_cons_self)).row hP hi).1
 have hw:=h.todU.bY
 have q:=Aq (P:=P) (st:=st.bY) (ins:=ins)
 generalize P.step st.bY ins=o at q
 induction q with
 |eL=>exact ⟨nofun,nofun⟩
 |wr t=>exact ⟨λak e=>j8 e ((h.bY hP hf hi t).cz hP _ _),nofun⟩
 |vE t hr=>exact ⟨λak e=>j8 e ((h.bY hP hf hi t).Us (hw.aT hP hr)),nofun⟩
 |yU gq=>exact ⟨λak e=>(have k:=Ql gq;(h.bY hP hf hi rfl).enter hP k.1 ⟨bV.1,bV.2.1⟩ (k.2▸e)),λw ak e=>(Fj e).elim⟩
 | @bk aH a b nm x y=>
   have hb:bZ P {st.bY with trace:=st.bY.trace++[(nm,[x,y])]}:={h.bY hP hf hi rfl with}
   exact ⟨λak e=>hb.cA hP e,λw ak e=>(Gl e).elim⟩
 |j=>exact ⟨λak e=>j8 e (hw.gS (Ao hf) bV hP),nofun⟩
 |br z=>exact ⟨λak e=>j8 e (hw.gS (Ao hf) (z.elim (λz=>z▸bV.2.2.2.1) λz=>z▸bV.2.2.2.2) hP),nofun⟩
 |lv w=>exact hw.iz hP w
theorem Sz.up{st:St}{N M:Nat}(hz:st.Sz N)(h:N<=M)(hM:M<=900000):st.Sz M:=
 ⟨Nat.le_trans hz.aB h,Nat.le_trans hz.cells h,Nat.le_trans hz.trace h,hz.ay,λfr hm=>Nat.le_trans (hz.own fr hm) h,hM⟩
theorem Fo(hz:st.Sz N)(hN:N<900000)(t:aJ)(r v:Int):(st.cz t r v).Sz (N+1):=by
 have h1:=hz.aB
 have h2:=hz.cells
 have h3:=hz.trace
 have h4:=hz.own
 unfold St.cz
 split
 ·exact Sz.up hz (by lia) (by lia)
 ·split
  ·cases hf:st.ay with
   |nil=>exact Sz.up hz (by lia) (by lia)
   |cons s rr=>
    refine ⟨by show st.aB.length<=_;lia,by show st.cells.length<=_;lia,by show st.trace.length<=_;lia,by have:=hz.ay;rw [hf] at this;exact this,λfr h=>?_,by lia⟩
    rcases List.mem_cons.mp h with rfl|h
    ·have:=h4 s (by rw [hf];exact List.mem_cons_self)
     exact Nat.le_trans (KV.mP ..) (by lia)
    ·have:=h4 fr (by rw [hf];exact List.mem_cons_of_mem _ h);lia
  ·exact ⟨Nat.le_trans (KV.mP ..) (by lia),by show st.cells.length<=_;lia,by show st.trace.length<=_;lia,hz.ay,λfr h=>by have:=h4 fr h;lia,by lia⟩
theorem AZ(hz:st.Sz N):st.bY.Sz N:=by
 unfold St.bY
 cases hf:st.ay with
 |nil=>exact hz
 |cons s rr=>
  have h3:=hz.ay
  have h4:=hz.own
  rw [hf] at h3 h4
  exact ⟨hz.aB,hz.cells,hz.trace,h3,λfr h=>by
   rcases List.mem_cons.mp h with h|h
   ·exact h▸h4 s List.mem_cons_self
   ·exact h4 fr (List.mem_cons_of_mem _ h),hz.le⟩
theorem Gm(hz:st.Sz N)(k:Nat):(st.gS k).Sz N:=by
 unfold St.gS
 cases hf:st.ay with
 |nil=>exact hz
 |cons s rr=>
  have h3:=hz.ay
  have h4:=hz.own
  rw [hf] at h3 h4
  exact ⟨hz.aB,hz.cells,hz.trace,h3,λfr h=>by
   rcases List.mem_cons.mp h with h|h
   ·exact h▸h4 s List.mem_cons_self
   ·exact h4 fr (List.mem_cons_of_mem _ h),hz.le⟩
theorem OJ(hz:st.Sz N)(hN:N<900000)(a v:Int):({st with cells:=st.cells.set a v}:St).Sz (N+1):=
 ⟨Nat.le_succ_of_le hz.aB,Nat.le_trans (KV.mP ..) (Nat.succ_le_succ hz.cells),Nat.le_succ_of_le hz.trace,hz.ay,λfr h=>Nat.le_succ_of_le (hz.own fr h),by lia⟩
theorem Aa:∀(l:List Int) (aB:KV),(l.foldl KV.aV aB).length<=aB.length
 |[],_=>Nat.le_refl _
 |x::r,aB=>Nat.le_trans (Aa r (aB.aV x)) (KV.Gb ..)
theorem wR(hz:st.Sz N)(t:aJ):(st.kK t).Sz N:=⟨Nat.le_trans (Aa ..) hz.aB,hz.cells,hz.trace,hz.ay,hz.own,hz.le⟩
theorem Gp(hz:st.Sz N)(hN:N<900000){t:aJ}{aH:List Int}{v:Option Int}(e:st.cA t aH v=.ok ak):ak.Sz (N+1):=by
 unfold St.cA at e
 split at e
 ·cases e;exact Sz.up (wR hz t) (by lia) (by lia)
 ·cases e
 ·cases e;exact Fo (wR hz t) hN _ _ _
theorem Ab(hP:P.wf)(hz:st.Sz N)(hN:N+4<=900000){nm:List Nat}{aH:List Int}(hn:nm=bH\/nm=cu)(e:st.enter P nm (aI P nm) aH=.ok ak):ak.Sz (N+4):=by
 unfold St.enter at e
 split at e
 ·cases e
 ·split at e
  ·cases e
  ·cases e
   have w:=rN (gM hP hn)
   have h1:=hz.aB
   have h2:=hz.cells
   have h3:=hz.trace
   refine ⟨by show st.aB.length<=_;lia,?_,by show st.trace.length<=_;lia,by rw [List.length_cons];lia,λfr h=>?_,hN⟩
   ·have:=wI st.cells st.free (aI P nm).bu.toNat
    show (dP _ _ _).length<=_
    lia
   ·rcases List.mem_cons.mp h with h|h
    ·exact h▸Nat.zero_le _
    ·have:=hz.own fr h;lia
theorem OL(hz:st.Sz N)(hN:N<900000){v:Option Int}:(∀ak,st.iz P v=.ok ak->ak.Sz (N+1))/\∀w ak,st.iz P v=.done w ak->ak.Sz (N+1):=by
 unfold St.iz
 cases hf:st.ay with
 |nil=>exact ⟨λak e=>(by cases e),λw ak e=>(by cases e)⟩
 |cons s rest=>
  have h3:=hz.ay
  have h4:=hz.own
  rw [hf] at h3 h4
  have hp:({st with ay:=rest,cells:=dh st.cells s.base (aI P s.fn).bu.toNat,free:=s.base}:St).Sz N:=
   ⟨hz.aB,Nat.le_trans (rH ..) hz.cells,hz.trace,Nat.le_of_succ_le h3,λfr h=>h4 fr (List.mem_cons_of_mem _ h),hz.le⟩
  simp only
  split
  ·split
   ·exact ⟨λak e=>(by cases e),λw ak e=>(by cases e;exact Sz.up hp (by lia) (by lia))⟩
   ·refine ⟨λak e=>Gp hp hN e,λw ak e=>?_⟩
    unfold St.cA at e
    split at e<;>cases e
  ·exact ⟨λak e=>(by cases e),λw ak e=>(by cases e)⟩
end
section
variable{P:PM}{st ak:St}{s:bE}{rest:List bE}{ins:bq}{N:Nat}
theorem NW{P:PM}{nm:List Nat}{fn:Fn}(h:P.fF nm=some fn):(nm=bH\/nm=cu)/\fn=aI P nm:=by
 refine ⟨?_,by unfold aI;rw [h];rfl⟩
 unfold PM.fF at h
 split at h
 ·exact .inl (by assumption)
 ·split at h
  ·exact .inr (by assumption)
  ·cases h
theorem Gq(hP:P.wf)(hz:st.Sz N)(hN:N+8<=900000):
 (∀ak,P.step st.bY ins=.ok ak->ak.Sz (N+8))/\∀w ak,P.step st.bY ins=.done w ak->ak.Sz (N+8):=by
 have ha:=AZ hz
 have up:∀{x:St} {M:Nat},x.Sz M->M<=N+8->x.Sz (N+8):=λh hm=>Sz.up h hm hN
 have h0:N<900000:=Nat.lt_of_lt_of_le (Nat.lt_add_of_pos_right (by decide)) hN
 have n1:N+1<=N+8:=Nat.add_le_add_left (by decide) _
 have q:=Aq (P:=P) (st:=st.bY) (ins:=ins)
 generalize P.step st.bY ins=o at q
 induction q with
 |eL=>exact ⟨nofun,nofun⟩
 |wr=>exact ⟨λak e=>j8 (K:=λx=>x.Sz (N+8)) e (up (Fo ha h0 _ _ _) n1),nofun⟩
 |vE=>exact ⟨λak e=>j8 (K:=λx=>x.Sz (N+8)) e (up (OJ ha h0 _ _) n1),nofun⟩
 |yU gq=>exact ⟨λak e=>(by
   obtain ⟨hn,rfl⟩:=NW gq
   exact up (Ab hP ha (by lia) hn e) (by lia)),λw ak e=>(Fj e).elim⟩
 | @bk aH a b nm x y=>
   have hb:({st.bY with trace:=st.bY.trace++[(nm,[x,y])]}:St).Sz (N+1):=
    ⟨Nat.le_succ_of_le ha.aB,Nat.le_succ_of_le ha.cells,by rw [List.length_append];exact Nat.succ_le_succ ha.trace,ha.ay,λfr h=>Nat.le_succ_of_le (ha.own fr h),h0⟩
   exact ⟨λak e=>up (Gp hb (by lia) e) (by lia),λw ak e=>(Gl e).elim⟩
 |j=>exact ⟨λak e=>j8 (K:=λx=>x.Sz (N+8)) e (up (Gm ha _) (by lia)),nofun⟩
 |br=>exact ⟨λak e=>j8 (K:=λx=>x.Sz (N+8)) e (up (Gm ha _) (by lia)),nofun⟩
 |lv w=>
  have hl:=OL (P:=P) ha (by lia) (v:=w)
  exact ⟨λak e=>up (hl.1 ak e) (by lia),λw ak e=>up (hl.2 w ak e) (by lia)⟩
theorem Fp:∀{l:List Int} {i:Nat},(∀x∈l,1<=x)->i<l.length->0<=(l.take i).sum/\(l.take i).sum<l.sum
 |x::r,0,h,_=>by
  have:∀(l:List Int),(∀x∈l,1<=x)->0<=l.sum:=by
   intro l;induction l with
   |nil=>intro _;simp
   |cons a b ih=>
    intro h
    have:=ih λx hx=>h x (List.mem_cons_of_mem _ hx)
    have:=h a List.mem_cons_self
    rw [List.sum_cons];lia
  have h1:=this r λx hx=>h x (List.mem_cons_of_mem _ hx)
  have h2:=h x List.mem_cons_self
  rw [List.take_zero,List.sum_nil,List.sum_cons];lia
 |x::r,i+1,h,hi=>by
  have:=Fp (l:=r) (i:=i) (λx hx=>h x (List.mem_cons_of_mem _ hx)) (Nat.lt_of_succ_lt_succ hi)
  have:=h x List.mem_cons_self
  rw [List.take_succ_cons,List.sum_cons,List.sum_cons];lia
theorem dU.slot(h:dU P st)(hP:P.wf)(hf:st.ay=s::rest){i:Nat}(hi:i<(aI P s.fn).slots.length):5<=P.dY st i/\P.dY st i<st.free/\P.t.aU (P.dY st i)=P.dY st i:=by
 have h1:=h.jP
 have h2:=h.ay
 rw [hf] at h1 h2
 have hw:=gM hP (h2 s List.mem_cons_self).fn
 have h5:=wO hP (λx hx=>(h2 x (List.mem_cons_of_mem _ hx)).fn) h1.2
 have hs:=Fp (λx hx=>(hw.slots.2 x hx).1) hi
 have h6:=h1.1
 have h7:(aI P s.fn).bu=(aI P s.fn).slots.sum:=rfl
 have h8:=h.free
 unfold PM.dY
 rw [hf]
 simp only
 refine ⟨by lia,by lia,Int.emod_eq_of_lt (by lia) ?_⟩
 show _<P.t.jd
 lia
noncomputable def wZ:bq->Bool
 |.call _ _ _ _|.ret _=>false
 |_=>true
@[elab_as_elim] theorem npE {M:bq->Prop} {ins:bq} (h:¬wZ ins=true) (c:∀aH a b nm,M (.call aH a b nm)) (r:∀v,M (.ret v)):M ins:=by
  induction ins with
  |call=>exact c _ _ _ _
  |ret=>exact r _
  |_=>exact absurd rfl h
@[elab_as_elim] theorem Iq {α:Type} {M:List α->Prop} {v:List α} (h:v.length<=1) (n:M []) (o:∀r,M [r]):M v:=match v,h with
  |[],_=>n
  |[r],_=>o r
  |_::_::_,h=>absurd (Nat.le_of_succ_le_succ h) (Nat.not_succ_le_zero _)
theorem mc{α:Type}{P:α->Prop}{a:α}{l:List α}(h:P a)(t:∀x∈l,P x):∀x∈a::l,P x:=List.forall_mem_cons.mpr ⟨h,t⟩
@[elab_as_elim] theorem Ir {α:Type} {M:α->Prop} {a b c d x:α} (h:x∈[a,b,c,d]) (h1:M a) (h2:M b) (h3:M c) (h4:M d):M x:=mc h1 (mc h2 (mc h3 (mc h4 λZaa q=>by cases q))) x h
theorem Qm{ah:Bool}{ns nb:Nat}(h:ins.wf ns nb)(hp:wZ ins=true):(gp ah ins).op≠[99,97,108,108]/\(gp ah ins).op≠[114,101,116]:=by
 induction ins with
 |call=>cases hp
 |ret=>cases hp
 |lu k o a b=>
  obtain ⟨hk,_⟩:=h
  show gi k≠[99,97,108,108]/\gi k≠[114,101,116]
  refine mD hk ?_ ?_ ?_ ?_ ?_ ?_ ?_ ?_
  ·decide
  ·decide
  ·decide
  ·decide
  ·decide
  ·decide
  ·decide
  ·decide
 |lz k o a b=>
  obtain ⟨hk,_⟩:=h
  show mQ k≠[99,97,108,108]/\mQ k≠[114,101,116]
  refine pN hk ?_ ?_ ?_ ?_
  ·decide
  ·decide
  ·decide
  ·decide
 |br k a b x y=>
  obtain ⟨hk,_⟩:=h
  show kG ah k≠[99,97,108,108]/\kG ah k≠[114,101,116]
  induction ah
  all_goals (refine pO hk ?_ ?_ ?_ ?_ ?_ ?_<;>first|(decide))
 |_=>exact ⟨by simp only [gp];decide,by simp only [gp];decide⟩
theorem Fq(t:aJ)(r v:Int)(h:st.ay≠[]):(st.cz t r v).ay≠[]:=by
 unfold St.cz
 split
 ·exact h
 ·split
  ·cases hf:st.ay with
   |nil=>exact absurd hf h
   |cons s rr=>simp
  ·exact h
theorem Gr(k:Nat)(h:st.ay≠[]):(st.gS k).ay≠[]:=by
 unfold St.gS
 cases hf:st.ay with
 |nil=>exact absurd hf h
 |cons s rr=>simp
theorem Gs{t:aJ}{aH:List Int}{v:Option Int}(h:st.ay≠[])(e:st.cA t aH v=.ok ak):ak.ay≠[]:=by
 unfold St.cA at e
 split at e
 ·cases e;exact h
 ·cases e
 ·cases e;exact Fq _ _ _ h
theorem OM{v:Option Int}(e:st.iz P v=.ok ak):ak.ay≠[]:=by
 unfold St.iz at e
 cases hf:st.ay with
 |nil=>rw [hf] at e;cases e
 |cons s rest=>
  rw [hf] at e
  simp only at e
  split at e
  ·split at e
   ·cases e
   ·exact Gs (by assumption) e
  ·cases e
theorem Ac{nm:List Nat}{fn:Fn}{aH:List Int}(e:st.enter P nm fn aH=.ok ak):ak.ay≠[]:=by
 unfold St.enter at e
 split at e
 ·cases e
 ·split at e
  ·cases e
  ·cases e;simp
theorem Ar(h:st.ay≠[])(e:P.step st ins=.ok ak):ak.ay≠[]:=by
 have q:=Aq (P:=P) (st:=st) (ins:=ins)
 rw [e] at q
 generalize q2:b8.ok ak=o at q
 induction q with
 |eL=>exact absurd q2 nofun
 |wr=>exact j8 (K:=λx=>x.ay≠[]) q2.symm (Fq _ _ _ h)
 |vE=>exact j8 (K:=λx=>x.ay≠[]) q2.symm h
 |yU=>exact Ac q2.symm
 | @bk aH a b nm x y=>exact Gs (st:={st with trace:=st.trace++[(nm,[x,y])]}) h q2.symm
 |j=>exact j8 (K:=λx=>x.ay≠[]) q2.symm (Gr _ h)
 |br=>exact j8 (K:=λx=>x.ay≠[]) q2.symm (Gr _ h)
 |lv=>exact OM q2.symm
theorem Ft(hf:st.ay=s::rest)(hi:(P.aD s)[s.at_]?=some ins):P.uB st=P.step st.bY ins:=by
 unfold PM.uB;rw [hf];simp only [hi]
theorem ON(hP:P.wf)(args:List Int):VR P.t.bits (ng P.t args):=by
 have f1:∀(l:List (Int×Int)) (r:KV),VR P.t.bits r->VR P.t.bits (l.foldl (λ(r:KV) p=>r.set p.1 (P.t.aU p.2)) r):=by
  intro l;induction l with
  |nil=>intro r h;exact h
  |cons p q ih=>intro r h;exact ih _ (h.set (uc hP _))
 have f2:∀(l:List Int) (r:KV),VR P.t.bits r->VR P.t.bits (l.foldl (λ(r:KV) x=>r.set x (P.t.aU (31*x+5))) r):=by
  intro l;induction l with
  |nil=>intro r h;exact h
  |cons p q ih=>intro r h;exact ih _ (h.set (uc hP _))
 exact f1 _ _ (f2 _ _ λk v e=>by cases e)
noncomputable def St.fresh(P:PM)(st:St)(args:List Int):St:={st with aB:=ng P.t args,ay:=[]}
theorem bZ.fresh(h:bZ P st)(hP:P.wf)(hf:st.ay=[])(args:List Int):bZ P (st.fresh P args):=by
 have h1:=h.jP
 rw [hf] at h1
 exact ⟨⟨h1,λs hs=>(by cases hs),λs hs=>(by cases hs),h.cells,ON hP args,h.vc,h.free⟩,λs hs=>(by cases hs)⟩
theorem xw(P:PM)(st:St)(args:List Int)(aG:Nat):P.run st args aG=match (st.fresh P args).enter P bH (aI P bH) [] with|.ok ak=>P.eY aG ak|o=>o:=rfl
end
inductive Cl where
 |n(k:Nat)|tg(ah:Bool)
noncomputable def Cl.ctorIdx(x:Cl):Nat:=@Cl.casesOn (λZaa=>Nat) x (λZaa=>0) (λZaa=>1)
noncomputable def Cl.num:Cl->Nat
 |.n k=>k
 |.tg ah=>match ah with|true=>495|false=>414
inductive W where
 |aZ|dF(b:Bool)|int(i:Int)|str(s:List Nat)|ref(a:Nat)|ty(s:String)|bU(hi:Int)|lA(a:Nat)
 |af(xs:List W)|aj(xs:List W)|dS(ks:List (List Nat))(vs:List W)|dI(kv:KV)|ins(C:Cl)(ks:List (List Nat))(vs:List W)
noncomputable def W.ctorIdx(x:W):Nat:=@W.casesOn (λZaa=>Nat) x 0 (λZaa=>1) (λZaa=>2) (λZaa=>3) (λZaa=>4) (λZaa=>5) (λZaa=>6) (λZaa=>7) (λZaa=>8) (λZaa=>9) (λZaa Zaa=>10) (λZaa=>11) (λZaa Zaa Zaa=>12)
inductive WO where
 |list(xs:List W)|dJ(xs:List W)|dI(kv:KV)|dS(ks:List (List Nat))(vs:List W)|inst(C:Nat)(ks:List (List Nat))(vs:List W)
noncomputable def WO.ctorIdx(x:WO):Nat:=@WO.casesOn (λZaa=>Nat) x (λZaa=>0) (λZaa=>1) (λZaa=>2) (λZaa Zaa=>3) (λZaa Zaa Zaa=>4)
noncomputable abbrev WH:=Nat->Option WO
noncomputable def WH.ai(H:WH)(a:Nat)(o:WO):WH:=λb=>if b=a then some o else H b
noncomputable def WH.aV(H:WH)(a:Nat):WH:=λb=>if b=a then none else H b
noncomputable abbrev WM:=List (Option W)
inductive WF where
 |next|brk|ret(v:W)
noncomputable def WF.ctorIdx(x:WF):Nat:=@WF.casesOn (λZaa=>Nat) x 0 1 (λZaa=>2)
noncomputable def WF.val:WF->W
 |.ret v=>v
 |_=>.aZ
noncomputable def nx(k:WM->WH->Prop)(Q:WF->WM->WH->Prop)(fl:WF)(m:WM)(H:WH):Prop:=match fl with
 |.next=>k m H
 |.brk=>Q .brk m H
 |.ret v=>Q (.ret v) m H
inductive OS{α:Type}(o:Option α)(k:α->Prop):Prop
 |mk (v:α) (e:o=some v) (h:k v)
inductive BC(p:Prop)(k:Bool->Prop):Prop
 |mk (h1:p->k true) (h2:¬p->k false)
inductive OB{α:Type}(o:Option α)(k:Bool->Prop):Prop
 |mk (h1:∀v,o=some v->k true) (h2:o=none->k false)
inductive OG{α:Type}(o:Option α)(k1:α->Prop)(k2:Prop):Prop
 |mk (h1:∀v,o=some v->k1 v) (h2:o=none->k2)
noncomputable def oW{α:Type}(o:Option α)(k:α->Prop):Prop:=match o with
 |some v=>k v
 |none=>False
noncomputable def iB(c:Bool)(a b:Prop):Prop:=match c with
 |true=>a
 |false=>b
noncomputable def jV:WM->Nat->Option W
 |[],_=>none
 |x::r,i=>match i with|0=>x|i+1=>jV r i
noncomputable def yk:WM->Nat->W->WM
 |[],_,_=>[]
 |x::r,i,v=>match i with|0=>some v::r|i+1=>x::yk r i v
noncomputable def ji:WM->List Nat->Option (List W)
 |_,[]=>some []
 |m,i::r=>match jV m i with
  |none=>none
  |some v=>match ji m r with|none=>none|some vs=>some (v::vs)
noncomputable def bP:List Nat->List Nat->Bool
 |[],[]=>true
 |a::r,b::s=>Bool.and (Nat.beq a b) (bP r s)
 |[],_::_=>false
 |_::_,[]=>false
noncomputable def iD{α:Type}:List (List Nat)->List α->List Nat->Option α
 |[],_,_=>none
 |k::ks,vs,s=>match vs with
  |[]=>none
  |v::vs=>match bP k s with|true=>some v|false=>iD ks vs s
noncomputable def ee:List (List Nat)->List Nat->List (List Nat)
 |[],s=>[s]
 |k::ks,s=>match bP k s with|true=>k::ks|false=>k::ee ks s
noncomputable def fC{α:Type}:List (List Nat)->List α->List Nat->α->List α
 |[],_,_,v=>[v]
 |k::ks,vs,s,v=>match vs with
  |[]=>[]
  |u::vs=>match bP k s with|true=>v::vs|false=>u::fC ks vs s v
noncomputable def lX:List (Nat×List Nat)->Nat->List Nat->Bool
 |[],_,_=>false
 |p::r,C,s=>match Bool.and (Nat.beq p.1 C) (bP p.2 s) with|true=>true|false=>lX r C s
noncomputable def uC:List (Nat×List Nat×Nat)->Nat->List Nat->Option Nat
 |[],_,_=>none
 |p::r,C,s=>match Bool.and (Nat.beq p.1 C) (bP p.2.1 s) with|true=>some p.2.2|false=>uC r C s
noncomputable def Lm(C:Cl)(s:List Nat):Bool:=match C with
 |.n k=>lX cy.jU k s
 |.tg _=>Bool.and (lX cy.jU 414 s) (lX cy.jU 495 s)
noncomputable def CI(C:Cl)(s:List Nat):Option Nat:=match C with
 |.n k=>uC cy.aQ k s
 |.tg ah=>match bP s [109,101,97,110,105,110,103] with|true=>some (match ah with|true=>492|false=>411)|false=>none
noncomputable def j9{α:Type}(xs:List α)(k:Int):Option α:=match k with
 |.ofNat n=>xs[n]?
 |.negSucc n=>(match n with|0=>xs.getLast?|_+1=>none)
noncomputable def kQ{α:Type}(Q:α->WM->WH->Prop)(m:WM)(H:WH)(v:α):Prop:=Q v m H
noncomputable def kV{α:Type}(Q:α->WM->WH->Prop)(m:WM)(v:α)(H:WH):Prop:=Q v m H
noncomputable def kBo(Q:W->WM->WH->Prop)(m:WM)(H:WH)(c:Bool):Prop:=Q (.dF c) m H
noncomputable def BY(k:Bool->Prop)(c:Bool):Prop:=k (!c)
noncomputable def X8(Q:W->Prop)(c:Nat):Prop:=Q (.str [c])
noncomputable def Yb(Q:W->Prop)(i:Int):Prop:=Q (.int i)
noncomputable def iW(v:W)(k:Int->Prop):Prop:=match v with|.int i=>k i|_=>False
noncomputable def sW(v:W)(k:List Nat->Prop):Prop:=match v with|.str i=>k i|_=>False
noncomputable def jW(ys:List W)(k:W->Prop):Prop:=match ys with|[]=>False|y::r=>(match r with|[]=>k y|_::_=>False)
noncomputable def yl(ys:List W)(k:W->W->Prop):Prop:=match ys with|[]=>False|y::r=>jW r (k y)
noncomputable def vF(ys:List W)(k:W->Prop)(k2:W->W->Prop):Prop:=match ys with|[]=>False|y::r=>(match r with|[]=>k y|z::r=>(match r with|[]=>k2 y z|_::_=>False))
noncomputable def W.dG:Option Int->W
 |some i=>.int i
 |none=>.aZ
noncomputable def au(l:List Int):List W:=l.map .int
noncomputable def lB(l:List (Option Int)):List W:=l.map W.dG
noncomputable def sM:List Int->List W->Option KV
 |[],_=>some []
 |k::ks,vs=>match vs with
  |[]=>some []
  |v::vs=>match v with
   |.int i=>(match sM ks vs with|some r=>some ((k,i)::r)|none=>none)
   |_=>none
noncomputable def Iu(op:Operator)(x y:Int)(Q:W->Prop):Prop:=
 match op with
 |.Add=>Q (.int (x+y))
 |.Sub=>Q (.int (x-y))
 |.Mult=>(x.natAbs<2^62/\y.natAbs<2^62)/\Q (.int (x*y))
 |.Mod=>y≠0/\Q (.int (x.fmod y))
 |.FloorDiv=>(y≠0/\y.natAbs<1073741824)/\Q (.int (x.fdiv y))
 |.Pow=>(0<=y/\y<=64/\x.natAbs<2^62)/\Q (.int (x^y.toNat))
 |.BitAnd=>Q (.int (Builtin.bitAnd x y))
 |.BitOr=>Q (.int (Builtin.bitOr x y))
 |.BitXor=>Q (.int (Builtin.bitXor x y))
 |.LShift=>(0<=y/\y<=64/\x.natAbs<2^62)/\Q (.int (x*2^y.toNat))
 |.RShift=>0<=y/\Q (.int (x.fdiv (2^y.toNat)))
 |_=>False
noncomputable def By(op:Operator)(p:Prop):Prop:=match op with|.Add=>p|_=>False
noncomputable def Ut(k:List W->Prop)(o:WO):Prop:=match o with|.list xs=>k xs|_=>False
noncomputable def ym(y:W)(k:List W->Prop)(H:WH):Prop:=match y with
 |.af xs=>k xs
 |.ref a=>OS (H a) (Ut k)
 |_=>False
noncomputable def Yc(op:Operator)(xs:List W)(Q:W->Prop)(ys:List W):Prop:=By op (xs.length+ys.length<=1000000/\Q (.af (xs++ys)))
noncomputable def Jo(op:Operator)(x y:W)(Q:W->Prop)(H:WH):Prop:=
 match x with
 |.int x=>iW y λy=>Iu op x y Q
 |.str s=>sW y λt=>By op (s.length+t.length<=1000000/\Q (.str (s++t)))
 |.af xs=>ym y (Yc op xs Q) H
 |_=>False
noncomputable def bS(b:Bool)(k:Bool->Prop):Prop:=match b with
 |true=>k true
 |false=>k false
noncomputable def yV(a b:W)(k:Bool->Prop):Prop:=
 match a with
 |.int x=>(match b with|.int y=>BC (x=y) k|.aZ=>k false|_=>False)
 |.str x=>(match b with|.str y=>bS (bP x y) k|.aZ=>k false|_=>False)
 |.dF x=>(match b with|.dF y=>k (x==y)|_=>False)
 |.aZ=>(match b with|.aZ=>k true|.int _=>k false|.str _=>k false|_=>False)
 |_=>False
noncomputable def Ln(b:Bool):Option Bool->Option Bool
 |some c=>some (Bool.or b c)
 |none=>none
noncomputable def sD:List W->List Nat->Option Bool
 |[],_=>some false
 |x::r,s=>match x with
  |.str t=>Ln (bP t s) (sD r s)
  |_=>none
noncomputable def BZ(xs:List W)(a:W)(k:Bool->Prop):Prop:=match a with
 |.int i=>∃l,xs=au l/\BC (i∈l) k
 |.str s=>oW (sD xs s) k
 |.aZ=>∃l,xs=lB l/\BC (none∈l) k
 |_=>False
noncomputable def B0(o:WO)(a:W)(k:Bool->Prop):Prop:=match o with
 |.dI kv=>iW a λi=>OB (kv.aE i) k
 |.dS ks vs=>sW a λs=>(match iD ks vs s with|some _=>k true|none=>k false)
 |_=>False
noncomputable def Yd(a:W)(k:Bool->Prop)(o:WO):Prop:=B0 o a k
noncomputable def CJ(a b:W)(k:Bool->Prop)(H:WH):Prop:=match b with
 |.af xs=>BZ xs a k
 |.aj xs=>BZ xs a k
 |.dS ks vs=>B0 (.dS ks vs) a k
 |.ref c=>OS (H c) (Yd a k)
 |_=>False
inductive Fl:Nat->W->Prop
 |aZ {n:Nat}:Fl n .aZ
 |int {n:Nat} (i:Int):Fl n (.int i)
 |str {n:Nat} (s:List Nat):Fl n (.str s)
 |aj {n:Nat} {xs:List W} (h:∀x∈xs,Fl n x):Fl (n+1) (.aj xs)
inductive Jp(p:Prop)(k:Prop):Prop
 |mk (e:p) (h:k)
noncomputable def Lo(a b:W)(k:Bool->Prop)(H:WH):Prop:=match a with
 |.ref x=>(match b with|.ref y=>Jp ((∃xs,H x=some (.list xs)/\H y=some (.list xs)/\∀x∈xs,Fl 4 x)\/∃kv,H x=some (.dI kv)/\H y=some (.dI kv)) (k false)|_=>False)
 |.aj xs=>(match b with|.aj ys=>Jp (xs=ys/\∀x∈xs,Fl 4 x) (k false)|_=>False)
 |a=>yV a b (BY k)
noncomputable def BA(op:CmpOp)(x y:Int)(k:Bool->Prop):Prop:=match op with
 |.Lt=>BC (x<y) k|.LtE=>BC (x<=y) k|.Gt=>BC (y<x) k|.GtE=>BC (y<=x) k
 |_=>False
noncomputable def yo(op:CmpOp)(a b:W)(k:Bool->Prop)(H:WH):Prop:=
 match op with
 |.Eq=>yV a b k
 |.NotEq=>Lo a b k H
 |.Is=>(match b with|.aZ=>(match a with|.aZ=>k true|_=>k false)|_=>False)
 |.In=>CJ a b k H
 |.NotIn=>CJ a b (BY k) H
 |op=>iW a λx=>iW b λy=>BA op x y k
noncomputable def oTr(k:Bool->Prop)(o:WO):Prop:=match o with|.list xs=>xs.length<=1000000/\(match xs with|[]=>k false|_::_=>k true)|_=>False
noncomputable def yW(a:W)(k:Bool->Prop)(H:WH):Prop:=
 match a with
 |.dF b=>k b
 |.int i=>BC (i≠0) k
 |.str s=>s.length<=1000000/\(match s with|[]=>k false|_::_=>k true)
 |.aZ=>k false
 |.af xs=>(match xs with|[]=>k false|_::_=>k true)
 |.ref c=>OS (H c) (oTr k)
 |_=>False
noncomputable def Sa(o:WO)(b:W)(Q:W->Prop):Prop:=match o with
 |.list xs=>iW b λi=>(match i with|.negSucc 0=>OS xs.getLast? Q|_=>False)
 |.dJ xs=>iW b λi=>(match i with|.ofNat n=>n<=1000/\oW xs[n]? Q|_=>False)
 |.dI kv=>iW b λi=>OS (kv.aE i) (Yb Q)
 |.dS ks vs=>sW b λs=>oW (iD ks vs s) Q
 |.inst _ _ _=>False
noncomputable def Uu(b:W)(Q:W->Prop)(o:WO):Prop:=Sa o b Q
noncomputable def Iv(a b:W)(Q:W->Prop)(H:WH):Prop:=
 match a with
 |.af xs=>iW b λi=>OS (j9 xs i) Q
 |.aj xs=>iW b λi=>oW (j9 xs i) Q
 |.dS ks vs=>sW b λs=>oW (iD ks vs s) Q
 |.str s=>iW b λi=>(-1000000<=i/\i<=1000000)/\OS (gP s i) (X8 Q)
 |.ref c=>OS (H c) (Uu b Q)
 |_=>False
noncomputable def Lp(y z:W)(Q:W->Prop):Prop:=match y with
 |.af xs=>iW z λi=>(match i with|.ofNat n=>n<=1000000/\Q (.af (xs.take n))|.negSucc _=>False)
 |_=>False
noncomputable def Jq(y z:W)(Q:W->Prop):Prop:=sW y λs=>iW z λk=>k=-1/\((Builtin.Str.strSliceIndices none (some (-1)) 1 s.length).length==s.length)=false/\(nY s).length<=1000/\Q (.str (nY s))
noncomputable def A0(c:Bool)(ks:List (List Nat))(vs:List W)(nm:List Nat)(Q:W->Prop):Prop:=iB c (oW (iD ks vs nm) Q) False
noncomputable def oAt(nm:List Nat)(Q:W->Prop)(o:WO):Prop:=match o with|.inst C ks vs=>A0 (lX cy.jU C nm) ks vs nm Q|_=>False
noncomputable def Iw(y:W)(nm:List Nat)(Q:W->Prop)(H:WH):Prop:=match y with
 |.ins C ks vs=>A0 (Lm C nm) ks vs nm Q
 |.ref a=>OS (H a) (oAt nm Q)
 |_=>False
noncomputable def Jr(a:Nat)(nm:List Nat)(v:W)(k:WH->Prop)(H:WH)(o:WO):Prop:=match o with|.inst C ks vs=>iB (lX cy.oJ C nm) (iB (Nat.ble ks.length 900) (k (H.ai a (.inst C (ee ks nm) (fC ks vs nm v)))) False) False|_=>False
noncomputable def Iz(y:W)(nm:List Nat)(v:W)(k:WH->Prop)(H:WH):Prop:=match y with
 |.ref a=>OS (H a) (Jr a nm v k H)
 |_=>False
noncomputable def Qn(o:WO)(b v:W)(k:WO->Prop):Prop:=match o with
 |.dI kv=>iW b λi=>iW v λu=>kv.length<=1000000/\k (.dI (kv.set i u))
 |.dS ks vs=>sW b λs=>iB (Nat.ble ks.length 900) (k (.dS (ee ks s) (fC ks vs s v))) False
 |.dJ xs=>iW b λi=>(match i with|.ofNat n=>(n<xs.length/\xs.length<=1000000)/\k (.dJ (xs.set n v))|_=>False)
 |_=>False
noncomputable def Ye(a:Nat)(k:WH->Prop)(H:WH)(o:WO):Prop:=k (H.ai a o)
noncomputable def Js(a:Nat)(b v:W)(k:WH->Prop)(H:WH)(o:WO):Prop:=Qn o b v (Ye a k H)
noncomputable def Hw(a b v:W)(k:WH->Prop)(H:WH):Prop:=match a with
 |.ref a=>OS (H a) (Js a b v k H)
 |_=>False
noncomputable def gY(a b:List Nat):W:=.aj [.str a,.str b]
noncomputable def sT(l:List (List Nat)):List W:=l.map .str
noncomputable def gW(a:Nat):Option W:=match a with
 |419=>some (.dS [[97,100,100],[115,117,98],[109,117,108],[97,110,100],[111,114],[120,111,114],[115,104,108],[115,104,114],[115,97,114],[117,100,105,118],[115,100,105,118],[117,114,101,109],[115,114,101,109],[115,108,116],[115,108,116,117],[115,101,113]] [.int 1,.int 1,.int 1,.int 1,.int 1,.int 1,.int 1,.int 1,.int 1,.int 1,.int 1,.int 1,.int 1,.int 1,.int 1,.int 1])
 |420=>some (.dS [[97,100,100,105],[97,110,100,105],[111,114,105],[120,111,114,105],[115,104,108,105],[115,104,114,105],[115,97,114,105]] [.str [97,100,100],.str [97,110,100],.str [111,114],.str [120,111,114],.str [115,104,108],.str [115,104,114],.str [115,97,114]])
 |421=>some (.dS [[106,101,113],[106,108,116],[106,108,116,117]] [.str [115,101,113],.str [115,108,116],.str [115,108,116,117]])
 |422=>some (.dS [[106,110,101],[106,103,101],[106,103,101,117]] [.str [115,101,113],.str [115,108,116],.str [115,108,116,117]])
 |500=>some (.aj [.str [97,100,100],.str [115,117,98],.str [97,110,100],.str [111,114],.str [120,111,114],.str [109,117,108],.str [115,108,116],.str [115,108,116,117]])
 |515=>some (.aj [.aj [gY [98,101,113] [115,97,109,101],gY [98,110,101] [110,111,116,32,115,97,109,101],gY [98,108,116] [115,108,116],gY [98,103,101] [110,111,116,32,115,108,116],gY [98,108,116,117] [115,108,116,117],gY [98,103,101,117] [110,111,116,32,115,108,116,117]],
   .aj [gY [106,101,113] [115,97,109,101],gY [106,110,101] [110,111,116,32,115,97,109,101],gY [106,108,116] [115,108,116],gY [106,103,101] [110,111,116,32,115,108,116],gY [106,108,116,117] [115,108,116,117],gY [106,103,101,117] [110,111,116,32,115,108,116,117]]])
 |_=>none
noncomputable def wC(v:AV)(k:W->Prop):Prop:=match v with
 |.none=>k .aZ|.bool b=>k (.dF b)|.int i=>k (.int i)|.str s=>k (.str s)
 |.ref a=>(match gW a with|some d=>k d|none=>k (.ref a))
 |.ty s=>k (.ty s)|_=>False
inductive Dp(Z:AH):AV->W->Prop
 |aZ:Dp Z .none .aZ
 |dF (b:Bool):Dp Z (.bool b) (.dF b)
 |int (i:Int):Dp Z (.int i) (.int i)
 |str (s:List Nat):Dp Z (.str s) (.str s)
 |ref (a:Nat):Dp Z (.ref a) (.ref a)
 |ty (s:String):Dp Z (.ty s) (.ty s)
 |bU {a:Nat} {hi:Int} (e:Z a=some (.bU 0 hi)):Dp Z (.ref a) (.bU hi)
 |lA {c d:Nat} (e:Z c=some (.items d)):Dp Z (.ref c) (.lA d)
 |af {a:Nat} {k:LK} {xs:List AV} {ds:List W} (e:Z a=some (.list k xs)) (b:xs.length<=1000000) (l:xs.length=ds.length) (h:∀(i:Nat) x d,xs[i]?=some x->ds[i]?=some d->Dp Z x d):Dp Z (.ref a) (.af ds)
 |aj {a:Nat} {xs:List AV} {ds:List W} (e:Z a=some (.aj xs)) (b:xs.length<=1000000) (l:xs.length=ds.length) (h:∀(i:Nat) x d,xs[i]?=some x->ds[i]?=some d->Dp Z x d):Dp Z (.ref a) (.aj ds)
 |dS {a:Nat} {fz:Bool} {kvs:List (List Nat×AV)} {ds:List W} (e:Z a=some (.bX fz kvs)) (b:kvs.length<=1000000) (l:kvs.length=ds.length) (h:∀(i:Nat) (x:List Nat×AV) d,kvs[i]?=some x->ds[i]?=some d->Dp Z x.2 d):Dp Z (.ref a) (.dS (kvs.map (·.1)) ds)
 |dI {a:Nat} {fz:Bool} {kv:KV} (e:Z a=some (.bz fz (im kv))) (b:kv.length<=1000000):Dp Z (.ref a) (.dI kv)
 |ins {a:Nat} {C:Cl} {fz:Bool} {kvs:List (List Nat×AV)} {ds:List W} (e:Z a=some (.inst fz C.num kvs)) (l:kvs.length=ds.length) (h:∀(i:Nat) (x:List Nat×AV) d,kvs[i]?=some x->ds[i]?=some d->Dp Z x.2 d):Dp Z (.ref a) (.ins C (kvs.map (·.1)) ds)
inductive DL(Z:AH):List AV->List W->Prop
 |nil:DL Z [] []
 |cons {v:AV} {d:W} {xs:List AV} {ds:List W} (h:Dp Z v d) (t:DL Z xs ds):DL Z (v::xs) (d::ds)
noncomputable def OR(Z:AH)(so:AO):WO->Prop
 |.list ds=>∃xs,so=.list .mu xs/\DL Z xs ds
 |.dJ ds=>∃xs,so=.list .dJ xs/\DL Z xs ds
 |.dI kv=>so=.bz false (im kv)
 |.dS ks ds=>∃kvs:List (List Nat×AV),so=.bX false kvs/\kvs.map (·.1)=ks/\DL Z (kvs.map (·.2)) ds
 |.inst C ks ds=>∃kvs:List (List Nat×AV),so=.inst false C kvs/\kvs.map (·.1)=ks/\DL Z (kvs.map (·.2)) ds
structure WR(Z S:AH)(H:WH):Prop where
 z:∀a o,Z a=some o->S a=some o
 g:∀a d,gW a=some d->Dp Z (.ref a) d
 h:∀a o,H a=some o->Z a=none/\∃so,S a=some so/\OR Z so o
inductive DM(Z:AH):MM->WM->Prop
 |nil:DM Z [] []
 |no {u:Option AV} {M:MM} {m:WM} (t:DM Z M m):DM Z (u::M) (none::m)
 |so {v:AV} {d:W} {M:MM} {m:WM} (h:Dp Z v d) (t:DM Z M m):DM Z (some v::M) (some d::m)
noncomputable def ZL(Z Z':AH):Prop:=∀a o,Z a=some o->Z' a=some o
inductive LQ(Z:AH)(Q:W->WH->Prop)(v:AV)(S:AH):Prop
 |mk (Z':AH) (H:WH) (d:W) (z:ZL Z Z') (r:WR Z' S H) (dp:Dp Z' v d) (h:Q d H)
inductive LE(Z:AH)(E:Nat->WH->Prop)(C:Nat)(S:AH):Prop
 |mk (Z':AH) (H:WH) (z:ZL Z Z') (r:WR Z' S H) (h:E C H)
inductive WV(G:Gx)(n:Nat)(f:Nat)(args:List W)(Q:W->WH->Prop)(E:Nat->WH->Prop)(H:WH):Prop
 |mk (run:∀Z S as,WR Z S H->DL Z as args->jO G n f as (LQ Z Q) (LE Z E) S)
noncomputable def GH(H H':WH):Prop:=∀Z S,WR Z S H->∃Z',ZL Z Z'/\WR Z' S H'
inductive FZ(x:Nat)(H:WH)(k:W->WH->Prop):Prop
 |keep (h:k (.ref x) H)
 |ins (C:Cl) (ks:List (List Nat)) (vs:List W) (e:H x=some (.inst C.num ks vs)) (h:k (.ins C ks vs) (H.aV x))
noncomputable def Uv(y:W)(k:W->WH->Prop)(H:WH):Prop:=match y with
 |.dS ks vs=>∀c,H c=none->k (.ref c) (H.ai c (.dS ks vs))
 |.dI kv=>∀c,H c=none->k (.ref c) (H.ai c (.dI kv))
 |_=>False
noncomputable def Yg(k:W->WH->Prop)(H:WH)(o:WO):Prop:=match o with|.list xs=>xs.length<=1000000/\k (.int xs.length) H|_=>False
noncomputable def Yh(k:W->WH->Prop)(H:WH)(o:WO):Prop:=match o with|.dI kv=>kv.length<64/\∀ns:List Int,ns.Perm (kv.map (·.1))->k (.af (au ns)) H|_=>False
noncomputable def Yi(k:W->WH->Prop)(H:WH)(xs:List W):Prop:=xs.length<=1000000/\(k (.af xs) H\/∀c,H c=none->k (.ref c) (H.ai c (.list xs)))
noncomputable def Yj(k:W->WH->Prop)(H:WH)(xs:List W):Prop:=xs.length<=1000000/\k (.aj xs) H
noncomputable def Yk(a:Nat)(x:W)(k:W->WH->Prop)(H:WH)(o:WO):Prop:=match o with|.list xs=>xs.length<=1000000/\k .aZ (H.ai a (.list (xs++[x])))|_=>False
noncomputable def Yl(a:Nat)(k:W->WH->Prop)(H:WH)(o:WO):Prop:=match o with|.list l=>∃xs x,l=xs++[x]/\xs.length<=1000000/\k x (H.ai a (.list xs))|_=>False
noncomputable def Uw(a:Nat)(k:W->WH->Prop)(H:WH)(o:WO):Prop:=match o with|.list l=>(match l with|[]=>False|x::xs=>xs.length<=1000000/\k x (H.ai a (.list xs)))|_=>False
noncomputable def IA(k:W->WH->Prop)(H:WH)(v:Int):Prop:=k (.int v) H
noncomputable def Ux(i:Int)(k:W->WH->Prop)(H:WH)(o:WO):Prop:=match o with|.dI kv=>OG (kv.aE i) (IA k H) (k .aZ H)|_=>False
noncomputable def Uy(i x:Int)(k:W->WH->Prop)(H:WH)(o:WO):Prop:=match o with|.dI kv=>k (.int ((kv.aE i).getD x)) H|_=>False
noncomputable def Uz(a:Nat)(i:Int)(k:W->WH->Prop)(H:WH)(o:WO):Prop:=match o with|.dI kv=>kv.length<=1000000/\OS (kv.aE i) (IA k (H.ai a (.dI (kv.aV i))))|_=>False
noncomputable def UA(a:Nat)(i:Int)(k:W->WH->Prop)(H:WH)(o:WO):Prop:=match o with|.dI kv=>kv.length<=1000000/\k (W.dG (kv.aE i)) (H.ai a (.dI (kv.aV i)))|_=>False
noncomputable def Ym(a:Nat)(k:W->WH->Prop)(H:WH)(o:WO):Prop:=match o with|.dI _=>k (.lA a) H|_=>False
noncomputable def CK(s:String)(p:Prop):Prop:=match s with
 | "tuple"=>p
 |_=>False
noncomputable def Lq(i:Int)(p:Prop):Prop:=match i with
 |.ofNat n=>(match n with|0=>p|_+1=>False)
 |.negSucc _=>False
noncomputable def gZ(b:BI)(ys:List W)(k:W->WH->Prop)(H:WH):Prop:=
 match b with
 |.len=>jW ys λy=>(match y with
  |.af xs=>k (.int xs.length) H
  |.aj xs=>k (.int xs.length) H
  |.ref a=>OS (H a) (Yg k H)
  |_=>False)
 |.max=>vF ys (λy=>(match y with|.af xs=>∃ns,xs=au ns/\ns≠[]/\∀M,M∈ns->(∀x∈ns,x<=M)->k (.int M) H|_=>False)) λx y=>iW x λx=>iW y λy=>k (.int (if y>x then y else x)) H
 |.sum=>jW ys λy=>(match y with|.af xs=>∃ns,xs=au ns/\k (.int ns.sum) H|_=>False)
 |.sorted=>jW ys λy=>(match y with
  |.ref a=>OS (H a) (Yh k H)
  |_=>False)
 |.mZ=>yl ys λx t=>(match t with
  |.ty s=>CK s (match x with
   |.int _=>k (.dF false) H
   |.aj _=>k (.dF true) H
   |_=>False)
  |_=>False)
 |.range=>jW ys λy=>iW y λi=>k (.bU i) H
 |.dict=>jW ys λy=>Uv y k H
 |.list=>jW ys λy=>ym y (Yi k H) H
 |.tuple=>jW ys λy=>ym y (Yj k H) H
 |.int=>jW ys λy=>(match y with|.dF c=>k (.int (match c with|true=>1|false=>0)) H|_=>False)
 |.str=>jW ys λy=>iW y λi=>i.natAbs<2^1900/\k (.str (toString i:Str).cps.toList) H
 |.nZ=>yl ys λl x=>(match l with
  |.ref a=>OS (H a) (Yk a x k H)
  |_=>False)
 |.kN=>vF ys (λl=>(match l with
   |.ref a=>OS (H a) (Yl a k H)
   |_=>False)) λl i=>(match l with
   |.ref a=>iW i λi=>Lq i (OS (H a) (Uw a k H))
   |_=>False)
 |.jk=>(match ys with
  |[]=>False
  |d::r=>(match d with
   |.ref a=>vF r (λy=>iW y λi=>OS (H a) (Ux i k H)) λy x=>iW y λi=>iW x λx=>OS (H a) (Uy i x k H)
   |_=>False))
 |.jT=>(match ys with
  |[]=>False
  |d::r=>(match d with
   |.ref a=>vF r (λy=>iW y λi=>OS (H a) (Uz a i k H)) λy x=>iW y λi=>(match x with|.aZ=>OS (H a) (UA a i k H)|_=>False)
   |_=>False))
 |.rV=>jW ys λy=>(match y with
  |.ref a=>OS (H a) (Ym a k H)
  |_=>False)
 |.kE=>yl ys λs y=>sW s λs=>sW y λy=>y≠[]/\s.length<=1000000/\((Txt.split ⟨s.toArray⟩ ⟨y.toArray⟩).map λx=>W.str x.cps.toList).length<=1000000/\k (.af ((Txt.split ⟨s.toArray⟩ ⟨y.toArray⟩).map λx=>.str x.cps.toList)) H
noncomputable def BB(y:W)(C:Nat)(ks:List (List Nat))(vs:List W)(nm:List Nat)(k:CV->List W->Prop):Prop:=match iD ks vs nm with
 |some v=>(match v with|.ref f=>iB (lX cy.own C nm) (iB (Nat.beq f 586) (k (.fn f) []) False) False|_=>False)
 |none=>oW (uC cy.aQ C nm) λf=>k (.fn f) [y]
noncomputable def A1(y:W)(C:Cl)(ks:List (List Nat))(vs:List W)(nm:List Nat)(k:CV->List W->Prop):Prop:=match iD ks vs nm with
 |some v=>False
 |none=>oW (CI C nm) λf=>k (.fn f) [y]
noncomputable def oMe(a:Nat)(nm:List Nat)(k:CV->List W->Prop)(o:WO):Prop:=match o with
 |.list _=>iB (bP nm zW) (k (.bi .nZ) [.ref a]) (iB (bP nm ur) (k (.bi .kN) [.ref a]) False)
 |.dI _=>iB (bP nm Bt) (k (.bi .jk) [.ref a]) (iB (bP nm wV) (k (.bi .rV) [.ref a]) (iB (bP nm ur) (k (.bi .jT) [.ref a]) False))
 |.inst C ks vs=>BB (.ref a) C ks vs nm k
 |_=>False
noncomputable def IB(y:W)(nm:List Nat)(k:CV->List W->Prop)(H:WH):Prop:=
 match y with
 |.str s=>iB (bP nm Aj) (k (.bi .kE) [.str s]) False
 |.ref a=>OS (H a) (oMe a nm k)
 |.ins C ks vs=>A1 (.ins C ks vs) C ks vs nm k
 |_=>False
noncomputable def Yn(Q:W->WM->WH->Prop)(m:WM)(x:Nat)(v:W)(H:WH):Prop:=v=.aZ/\FZ x H (kV Q m)
noncomputable def BE(G:Gx)(n:Nat)(f:CV)(Q:W->WM->WH->Prop)(E:Nat->WH->Prop)(ys:List W)(m:WM)(H:WH):Prop:=
 match f with
 |.fn f=>WV G n f ys (kV Q m) E H
 |.cls C f=>(match n with
  |0=>False
  |n+1=>∀x,H x=none->WV G n f (.ref x::ys) (Yn Q m x) E (H.ai x (.inst C [] [])))
 |.bi b=>gZ b ys (kV Q m) H
noncomputable def Yo(k:List W->Prop)(o:WO):Prop:=match o with|.dJ ys=>k ys|_=>False
noncomputable def Jt(v:W)(k:List W->Prop)(H:WH):Prop:=match v with
 |.aj ys=>k ys
 |.af ys=>k ys
 |.ref a=>OS (H a) (Yo k)
 |_=>False
inductive WS where
 |l(ds:List W)|r(n:Nat)
noncomputable def WS.ctorIdx(x:WS):Nat:=@WS.casesOn (λZaa=>Nat) x (λZaa=>0) (λZaa=>1)
noncomputable def WS.at:WS->Nat->Option W
 |.l ds,k=>ds[k]?
 |.r n,k=>if k<n then some (.int k) else none
noncomputable def WS.len:WS->Nat
 |.l ds=>ds.length
 |.r n=>n
noncomputable def yp(y:W)(k:WS->Prop):Prop:=match y with
 |.af ds=>k (.l ds)
 |.aj ds=>k (.l ds)
 |.bU i=>(-1000000000<=i/\i<=1000000000)/\k (.r i.toNat)
 |_=>False
inductive WL(s:WS)(az:W->(WM->WH->Prop)->WM->WH->Prop)(lQ:(Bool->WM->WH->Prop)->WM->WH->Prop)(sA:(WM->WH->Prop)->WM->WH->Prop)(Q:WM->WH->Prop)(m:WM)(H:WH):Prop
 |mk (J:Nat->WM->WH->Prop) (h0:J 0 m H) (hs:∀k d m H,s.at k=some d->J k m H->az d (λm H=>lQ (λc m H=>iB c (sA (J (k+1)) m H) (J (k+1) m H)) m H) m H)
   (he:∀m H,J s.len m H->Q m H)
noncomputable def CM(J:WM->WH->Prop)(Q:WF->WM->WH->Prop)(fl:WF)(m:WM)(H:WH):Prop:=match fl with
 |.next=>J m H
 |.brk=>Q .next m H
 |.ret v=>Q (.ret v) m H
inductive oQ(s:WS)(az:W->(WM->WH->Prop)->WM->WH->Prop)(body:(WF->WM->WH->Prop)->WM->WH->Prop)(Q:WF->WM->WH->Prop)(m:WM)(H:WH):Prop
 |mk (J:Nat->WM->WH->Prop) (h0:J 0 m H) (hs:∀k d m H,s.at k=some d->J k m H->az d (λm H=>body (CM (λm H=>∃H',GH H H'/\J (k+1) m H') Q) m H) m H)
   (he:∀m H,J s.len m H->Q .next m H)
inductive UB(d:Nat)(kv:KV)(az:W->(WM->WH->Prop)->WM->WH->Prop)(body:(WF->WM->WH->Prop)->WM->WH->Prop)(Q:WF->WM->WH->Prop)(m:WM)(H:WH):Prop
 |mk (J:Nat->WM->WH->Prop) (h0:J 0 m (H.aV d)) (hs:∀k i v m H,kv[k]?=some (i,v)->J k m H->az (.aj [.int i,.int v]) (λm H=>body (CM (J (k+1)) Q) m H) m H)
   (he:∀m H,J kv.length m H->H d=none/\Q .next m (H.ai d (.dI kv)))
noncomputable def A3(xs:List X):Bool:=match xs with
 |[]=>false
 |x::_=>(match x with|.comp _ _ _ _ _ _=>true|_=>false)
noncomputable abbrev PV:=(W->WM->WH->Prop)->(Nat->WH->Prop)->WM->WH->Prop
noncomputable abbrev CN:=(List W->WM->WH->Prop)->(Nat->WH->Prop)->WM->WH->Prop
noncomputable def k2(f:PV)(g:W->W->WM->WH->Prop)(E:Nat->WH->Prop)(x:W)(m:WM)(H:WH):Prop:=f (g x) E m H
noncomputable def Yp(op:Operator)(Q:W->WM->WH->Prop)(x y:W)(m:WM)(H:WH):Prop:=Jo op x y (kQ Q m H) H
noncomputable def Yq(op:CmpOp)(Q:W->WM->WH->Prop)(x y:W)(m:WM)(H:WH):Prop:=yo op x y (kBo Q m H) H
noncomputable def UC(op:CmpOp)(Q:Bool->WM->WH->Prop)(x y:W)(m:WM)(H:WH):Prop:=yo op x y (kQ Q m H) H
noncomputable def UD(Q:W->WM->WH->Prop)(x y:W)(m:WM)(H:WH):Prop:=Iv x y (kQ Q m H) H
noncomputable def gSl(Q:W->WM->WH->Prop)(x y:W)(m:WM)(H:WH):Prop:=Lp x y (kQ Q m H)
noncomputable def Yr(Q:W->WM->WH->Prop)(x y:W)(m:WM)(H:WH):Prop:=Jq x y (kQ Q m H)
noncomputable def UE(nm:List Nat)(Q:W->WM->WH->Prop)(x:W)(m:WM)(H:WH):Prop:=Iw x nm (kQ Q m H) H
noncomputable def Ys(Q:W->WM->WH->Prop)(x:W)(m:WM)(H:WH):Prop:=iW x λi=>Q (.int (-i)) m H
noncomputable def Lr(a b:WM->WH->Prop)(c:Bool)(m:WM)(H:WH):Prop:=iB c (a m H) (b m H)
noncomputable def Ju(a:WM->WH->Prop)(Q:Bool->WM->WH->Prop)(c:Bool)(m:WM)(H:WH):Prop:=iB c (a m H) (Q false m H)
noncomputable def Yt(a:WM->WH->Prop)(Q:Bool->WM->WH->Prop)(c:Bool)(m:WM)(H:WH):Prop:=iB c (Q true m H) (a m H)
noncomputable def Yu(Q:Bool->WM->WH->Prop)(c:Bool)(m:WM)(H:WH):Prop:=Q (!c) m H
noncomputable def gTr(Q:Bool->WM->WH->Prop)(y:W)(m:WM)(H:WH):Prop:=yW y (kQ Q m H) H
noncomputable def gOr(b:WM->WH->Prop)(Q:W->WM->WH->Prop)(x:W)(m:WM)(H:WH):Prop:=yW x (λc=>iB c (Q x m H) (b m H)) H
noncomputable def kCs(f:CN)(Q:List W->WM->WH->Prop)(E:Nat->WH->Prop)(y:W)(m:WM)(H:WH):Prop:=f (λys m H=>Q (y::ys) m H) E m H
noncomputable def Jv(c:Bool)(Q:W->WM->WH->Prop)(ys:List W)(m:WM)(H:WH):Prop:=iB c (∀a,H a=none->Q (.ref a) m (H.ai a (.dJ ys))) (Q (.af ys) m H)
noncomputable def Jw(Q:W->WM->WH->Prop)(ys:List W)(m:WM)(H:WH):Prop:=Q (.aj ys) m H
noncomputable def Ls(ks:List (List Nat))(Q:W->WM->WH->Prop)(ys:List W)(m:WM)(H:WH):Prop:=Q (.dS ks ys) m H\/∀c,H c=none->Q (.ref c) m (H.ai c (.dS ks ys))
noncomputable def Lu(ks:List Int)(Q:W->WM->WH->Prop)(ys:List W)(m:WM)(H:WH):Prop:=oW (sM ks ys) λkv=>Q (.dI kv) m H
noncomputable def kM2(G:Gx)(n:Nat)(f:CV)(first:List W)(Q:W->WM->WH->Prop)(E:Nat->WH->Prop)(ys:List W)(m:WM)(H:WH):Prop:=BE G n f Q E (first++ys) m H
noncomputable def kM1(G:Gx)(n:Nat)(xs:CN)(Q:W->WM->WH->Prop)(E:Nat->WH->Prop)(m:WM)(H:WH)(f:CV)(first:List W):Prop:=xs (kM2 G n f first Q E) E m H
noncomputable def gMe(G:Gx)(n:Nat)(nm:List Nat)(xs:CN)(Q:W->WM->WH->Prop)(E:Nat->WH->Prop)(y:W)(m:WM)(H:WH):Prop:=IB y nm (kM1 G n xs Q E m H) H
noncomputable def jz(f:W->(WM->WH->Prop)->(Nat->WH->Prop)->WM->WH->Prop)(E:Nat->WH->Prop)(y:W)(Q:WM->WH->Prop)(m:WM)(H:WH):Prop:=f y Q E m H
noncomputable def pQ(f:(Bool->WM->WH->Prop)->(Nat->WH->Prop)->WM->WH->Prop)(E:Nat->WH->Prop)(Q:Bool->WM->WH->Prop)(m:WM)(H:WH):Prop:=f Q E m H
noncomputable def pR(f:Nat->(WM->WH->Prop)->(Nat->WH->Prop)->WM->WH->Prop)(D:Nat)(E:Nat->WH->Prop)(Q:WM->WH->Prop)(m:WM)(H:WH):Prop:=f D Q E m H
noncomputable def Yv(D:Nat)(Q:W->WM->WH->Prop)(m:WM)(H:WH)(o:WO):Prop:=match o with|.list ys=>ys.length<=1000000/\(Q (.af ys) m (H.aV D)\/Q (.ref D) m H)|_=>False
noncomputable def sO(D:Nat)(Q:W->WM->WH->Prop)(m:WM)(mc:WM)(H:WH):Prop:=OS (H D) (Yv D Q m H)
noncomputable def UG(frees:List Nat)(nt:Nat)(a:W->(WM->WH->Prop)->WM->WH->Prop)(t:(Bool->WM->WH->Prop)->WM->WH->Prop)(g:Nat->(WM->WH->Prop)->(Nat->WH->Prop)->WM->WH->Prop)(Q:W->WM->WH->Prop)(E:Nat->WH->Prop)(y:W)(m:WM)(H:WH):Prop:=
 yp y λs=>∀D,H D=none->oW (ji m frees) λvs=>WL s a t (pR g D E) (sO D Q m) (List.replicate nt none++vs.map some) (H.ai D (.list []))
noncomputable def UH(a:W->(WM->WH->Prop)->WM->WH->Prop)(t:(Bool->WM->WH->Prop)->WM->WH->Prop)(g:(WM->WH->Prop)->WM->WH->Prop)(Q:WM->WH->Prop)(y:W)(m:WM)(H:WH):Prop:=yp y λs=>WL s a t g Q m H
noncomputable def Yw(D:Nat)(y:W)(Q:WM->WH->Prop)(m:WM)(H:WH)(o:WO):Prop:=match o with|.list ys=>ys.length<=1000000/\Q m (H.ai D (.list (ys++[y])))|_=>False
noncomputable def Yx(D:Nat)(Q:WM->WH->Prop)(y:W)(m:WM)(H:WH):Prop:=OS (H D) (Yw D y Q m H)
noncomputable def Yy(nm:List Nat)(v:W)(Q:WM->WH->Prop)(y:W)(m:WM)(H:WH):Prop:=Iz y nm v (Q m) H
noncomputable def Yz(v:W)(Q:WM->WH->Prop)(a k:W)(m:WM)(H:WH):Prop:=Hw a k v (Q m) H
mutual
noncomputable def wX(G:Gx)(n:Nat):X->(W->WM->WH->Prop)->(Nat->WH->Prop)->WM->WH->Prop
 |.c v,Q,E,m,H=>wC v (kQ Q m H)
 |.aa i,Q,E,m,H=>oW (jV m i) (kQ Q m H)
 |.aA op a b,Q,E,m,H=>wX G n a (k2 (wX G n b) (Yp op Q) E) E m H
 |.neg a,Q,E,m,H=>wX G n a (Ys Q) E m H
 |.cmp op a b,Q,E,m,H=>wX G n a (k2 (wX G n b) (Yq op Q) E) E m H
 |.aC t a b,Q,E,m,H=>wT G n t (Lr (wX G n a Q E) (wX G n b Q E)) E m H
 |.qU a b,Q,E,m,H=>wX G n a (gOr (wX G n b Q E) Q) E m H
 |.item a b,Q,E,m,H=>wX G n a (k2 (wX G n b) (UD Q) E) E m H
 |.sl a b,Q,E,m,H=>wX G n a (k2 (wX G n b) (gSl Q) E) E m H
 |.qV a b,Q,E,m,H=>wX G n a (k2 (wX G n b) (Yr Q) E) E m H
 |.attr a nm,Q,E,m,H=>wX G n a (UE nm Q) E m H
 |.af xs,Q,E,m,H=>iB xs.isEmpty (Q (.af []) m H\/∀c,H c=none->Q (.ref c) m (H.ai c (.list []))) (iB (Nat.ble xs.length 1000) (kc G n xs (Jv (A3 xs) Q) E m H) False)
 |.aj xs,Q,E,m,H=>iB (Nat.ble xs.length 1000) (kc G n xs (Jw Q) E m H) False
 |.dS ks xs,Q,E,m,H=>iB (Bool.and (Nat.beq ks.length xs.length) (Nat.ble xs.length 1000)) (kc G n xs (Ls ks Q) E m H) False
 |.dI ks xs,Q,E,m,H=>iB (Nat.ble xs.length 1000) (kc G n xs (Lu ks Q) E m H) False
 |.dE,Q,E,m,H=>(∀c,H c=none->Q (.ref c) m (H.ai c (.dI [])))\/∀c,H c=none->Q (.ref c) m (H.ai c (.dS [] []))
 |.call f xs,Q,E,m,H=>kc G n xs (BE G n f Q E) E m H
 |.aQ o nm xs,Q,E,m,H=>wX G n o (gMe G n nm (kc G n xs) Q E) E m H
 |.comp frees nt bM iter ifs g,Q,E,m,H=>wX G n iter (UG frees nt (jz (gH G n bM) E) (pQ (je G n ifs) E) (nO G n g) Q E) E m H
noncomputable def kc(G:Gx)(n:Nat):List X->(List W->WM->WH->Prop)->(Nat->WH->Prop)->WM->WH->Prop
 |[],Q,E,m,H=>Q [] m H
 |x::r,Q,E,m,H=>wX G n x (kCs (kc G n r) Q E) E m H
noncomputable def wT(G:Gx)(n:Nat):T->(Bool->WM->WH->Prop)->(Nat->WH->Prop)->WM->WH->Prop
 |.val x,Q,E,m,H=>wX G n x (gTr Q) E m H
 |.cmp op a b,Q,E,m,H=>wX G n a (k2 (wX G n b) (UC op Q) E) E m H
 |.nt t,Q,E,m,H=>wT G n t (Yu Q) E m H
 |.an t u,Q,E,m,H=>wT G n t (Ju (wT G n u Q E) Q) E m H
 |.j7 t u,Q,E,m,H=>wT G n t (Yt (wT G n u Q E) Q) E m H
noncomputable def je(G:Gx)(n:Nat):List T->(Bool->WM->WH->Prop)->(Nat->WH->Prop)->WM->WH->Prop
 |[],Q,E,m,H=>Q true m H
 |t::r,Q,E,m,H=>wT G n t (Ju (je G n r Q E) Q) E m H
noncomputable def gH(G:Gx)(n:Nat):TG->W->(WM->WH->Prop)->(Nat->WH->Prop)->WM->WH->Prop
 |.nm i,v,Q,E,m,H=>Q (yk m i v) H
 |.attr x nm,v,Q,E,m,H=>wX G n x (Yy nm v Q) E m H
 |.sub x y,v,Q,E,m,H=>wX G n x (k2 (wX G n y) (Yz v Q) E) E m H
 |.aj ts,v,Q,E,m,H=>Jt v (λys=>iB (Nat.beq ys.length ts.length) (B3 G n ts ys Q E m H) False) H
noncomputable def B3(G:Gx)(n:Nat):List TG->List W->(WM->WH->Prop)->(Nat->WH->Prop)->WM->WH->Prop
 |[],ys,Q,E,m,H=>Q m H
 |t::ts,ys,Q,E,m,H=>match ys with
  |[]=>False
  |y::ys=>gH G n t y (B3 G n ts ys Q E) E m H
noncomputable def nO(G:Gx)(n:Nat):GS->Nat->(WM->WH->Prop)->(Nat->WH->Prop)->WM->WH->Prop
 |.elt x,D,Q,E,m,H=>wX G n x (Yx D Q) E m H
 |.more bM iter ifs g,D,Q,E,m,H=>wX G n iter (UH (jz (gH G n bM) E) (pQ (je G n ifs) E) (pR (nO G n g) D E) Q) E m H
end
noncomputable def oR:List W->List W->List W
 |x::xs,y::ys=>.aj [x,y]::oR xs ys
 |_,_=>[]
noncomputable def CP:List Nat->List W->WM->WM
 |i::is,y::ys,m=>yk (CP is ys m) i y
 |_,_,m=>m
noncomputable def Jx(f:W->(WM->WH->Prop)->(Nat->WH->Prop)->WM->WH->Prop)(Q:WF->WM->WH->Prop)(E:Nat->WH->Prop)(y:W)(m:WM)(H:WH):Prop:=f y (Q .next) E m H
noncomputable def YA(is:List Nat)(Q:WF->WM->WH->Prop)(y:W)(m:WM)(H:WH):Prop:=match y with|.aj ys=>iB (Nat.beq ys.length is.length) (Q .next (CP is ys m) H) False|_=>False
noncomputable def YB(Q:WF->WM->WH->Prop)(y:W)(m:WM)(H:WH):Prop:=Q .next m H
noncomputable def YC(Q:WF->WM->WH->Prop)(y:W)(m:WM)(H:WH):Prop:=Q (.ret y) m H
noncomputable def vG(f:(WF->WM->WH->Prop)->(Nat->WH->Prop)->WM->WH->Prop)(E:Nat->WH->Prop)(Q:WF->WM->WH->Prop)(m:WM)(H:WH):Prop:=f Q E m H
noncomputable def UI(a:W->(WM->WH->Prop)->WM->WH->Prop)(b:(WF->WM->WH->Prop)->WM->WH->Prop)(Q:WF->WM->WH->Prop)(y:W)(m:WM)(H:WH):Prop:=yp y λs=>oQ s a b Q m H
noncomputable def YD(a:W->(WM->WH->Prop)->WM->WH->Prop)(b:(WF->WM->WH->Prop)->WM->WH->Prop)(Q:WF->WM->WH->Prop)(u v:W)(m:WM)(H:WH):Prop:=match u with
 |.af us=>(match v with|.af vs=>oQ (.l (oR us vs)) a b Q m H|_=>False)
 |_=>False
noncomputable def YE(d:Nat)(a:W->(WM->WH->Prop)->WM->WH->Prop)(b:(WF->WM->WH->Prop)->WM->WH->Prop)(Q:WF->WM->WH->Prop)(m:WM)(H:WH)(o:WO):Prop:=match o with|.dI kv=>UB d kv a b Q m H|_=>False
noncomputable def YF(a:W->(WM->WH->Prop)->WM->WH->Prop)(b:(WF->WM->WH->Prop)->WM->WH->Prop)(Q:WF->WM->WH->Prop)(y:W)(m:WM)(H:WH):Prop:=match y with
 |.lA d=>OS (H d) (YE d a b Q m H)
 |_=>False
noncomputable def gRs(n C:Nat)(E:Nat->WH->Prop)(y:W)(m:WM)(H:WH):Prop:=sW y λZaa=>4<=n/\E C H
mutual
noncomputable def wS(G:Gx)(n:Nat):S->(WF->WM->WH->Prop)->(Nat->WH->Prop)->WM->WH->Prop
 |.az t x,Q,E,m,H=>wX G n x (Jx (gH G n t) Q E) E m H
 |.kO t x,Q,E,m,H=>wX G n x (Jx (gH G n t) Q E) E m H
 |.lq is x,Q,E,m,H=>wX G n x (YA is Q) E m H
 |.bA x,Q,E,m,H=>wX G n x (YB Q) E m H
 |.ret x,Q,E,m,H=>wX G n x (YC Q) E m H
 |.aC t a b,Q,E,m,H=>wT G n t (Lr (bO G n a Q E) (bO G n b Q E)) E m H
 |.brk,Q,E,m,H=>Q .brk m H
 |.loop t x body,Q,E,m,H=>wX G n x (UI (jz (gH G n t) E) (vG (bO G n body) E) Q) E m H
 |.m9 t x y body,Q,E,m,H=>wX G n x (k2 (wX G n y) (YD (jz (gH G n t) E) (vG (bO G n body) E) Q) E) E m H
 |.sC t x body,Q,E,m,H=>wX G n x (YF (jz (gH G n t) E) (vG (bO G n body) E) Q) E m H
 |.raise C x,Q,E,m,H=>wX G n x (gRs n C E) E m H
noncomputable def bO(G:Gx)(n:Nat):List S->(WF->WM->WH->Prop)->(Nat->WH->Prop)->WM->WH->Prop
 |[],Q,E,m,H=>Q .next m H
 |s::r,Q,E,m,H=>wS G n s (nx (bO G n r Q E) Q) E m H
end
noncomputable def kF(Q:W->WH->Prop)(fl:WF)(m:WM)(H:WH):Prop:=Q fl.val H
section
variable{Z Z' S S':AH}{H H':WH}{v u:AV}{d e:W}{xs ys:List AV}{ds es:List W}
theorem ZL.rf:ZL Z Z:=λZaa Zaa h=>h
theorem ZL.tr{Z1 Z2 Z3:AH}(a:ZL Z1 Z2)(b:ZL Z2 Z3):ZL Z1 Z3:=λx o h=>b x o (a x o h)
theorem Dp.aY(z:ZL Z Z')(h:Dp Z v d):Dp Z' v d:=by
 induction h with
 |aZ=>exact .aZ
 |dF b=>exact .dF b
 |int i=>exact .int i
 |str s=>exact .str s
 |ref a=>exact .ref a
 |ty s=>exact .ty s
 |bU e=>exact .bU (z _ _ e)
 |lA e=>exact .lA (z _ _ e)
 |af e b l h ih=>exact .af (z _ _ e) b l ih
 |aj e b l h ih=>exact .aj (z _ _ e) b l ih
 |dS e b l h ih=>exact .dS (z _ _ e) b l ih
 |dI e b=>exact .dI (z _ _ e) b
 |ins e l h ih=>exact .ins (z _ _ e) l ih
theorem DL.aY(z:ZL Z Z')(h:DL Z xs ds):DL Z' xs ds:=by
 induction h with
 |nil=>exact .nil
 |cons h _ ih=>exact .cons (h.aY z) ih
theorem OR.aY(z:ZL Z Z'){so:AO}{o:WO}(h:OR Z so o):OR Z' so o:=by
 induction o with
 |list ds=>exact ⟨h.choose,h.choose_spec.1,h.choose_spec.2.aY z⟩
 |dJ ds=>exact ⟨h.choose,h.choose_spec.1,h.choose_spec.2.aY z⟩
 |dI kv=>exact h
 |dS ks vs=>exact ⟨h.choose,h.choose_spec.1,h.choose_spec.2.1,h.choose_spec.2.2.aY z⟩
 |inst C ks vs=>exact ⟨h.choose,h.choose_spec.1,h.choose_spec.2.1,h.choose_spec.2.2.aY z⟩
theorem DL.l(h:DL Z xs ds):xs.length=ds.length:=by
 induction h with
 |nil=>rfl
 |cons _ _ ih=>exact congrArg (·+1) ih
theorem DL.h(h:DL Z xs ds):∀(i:Nat) x d,xs[i]?=some x->ds[i]?=some d->Dp Z x d:=by
 induction h with
 |nil=>exact λZaa Zaa Zaa=>nofun
 |cons h _ ih=>exact λi x d e1 e2=>match i with
  |0=>Option.some.inj e1▸Option.some.inj e2▸h
  |i+1=>ih i x d e1 e2
theorem DL.of:∀{xs:List AV},xs.length=ds.length->(∀(i:Nat) x d,xs[i]?=some x->ds[i]?=some d->Dp Z x d)->DL Z xs ds:=by
 induction ds with
 |nil=>
  intro xs l _
  induction xs with
  |nil=>exact .nil
  |cons _ _=>exact absurd l nofun
 |cons d ds ih=>
  intro xs l h
  induction xs with
  |nil=>exact absurd l nofun
  |cons x r=>exact .cons (h 0 _ _ rfl rfl) (ih (Nat.succ.inj l) λi=>h (i+1))
noncomputable def DLV(Z:AH)(P:List AV->Prop)(xs:List AV):List W->Prop
 |[]=>P []->P xs
 |d::ds=>(∀x r,Dp Z x d->DL Z r ds->P (x::r))->P xs
theorem DL.el{P:List AV->Prop}(h:DL Z xs ds):DLV Z P xs ds:=by
 induction h with
 |nil=>exact id
 |cons h t=>exact λk=>k _ _ h t
noncomputable def DLU(Z:AH)(P:List W->Prop)(ds:List W):List AV->Prop
 |[]=>P []->P ds
 |x::xs=>(∀d r,Dp Z x d->DL Z xs r->P (d::r))->P ds
theorem DL.eu{P:List W->Prop}(h:DL Z xs ds):DLU Z P ds xs:=by
 induction h with
 |nil=>exact id
 |cons h t=>exact λk=>k _ _ h t
theorem DL.at(h:DL Z xs ds):∀{i:Nat},ds[i]?=some d->∃x,xs[i]?=some x/\Dp Z x d:=by
 induction h with
 |nil=>exact nofun
 |cons h _ ih=>exact λ{i} e=>match i with
  |0=>⟨_,rfl,Option.some.inj e▸h⟩
  |i+1=>ih (i:=i) e
theorem DL.append(h:DL Z xs ds)(t:DL Z ys es):DL Z (xs++ys) (ds++es):=by
 induction h with
 |nil=>exact t
 |cons h _ ih=>exact .cons h ih
theorem DL.dO(h:Dp Z v d):DL Z [v] [d]:=.cons h .nil
theorem DL.take(h:DL Z xs ds):∀n:Nat,DL Z (xs.take n) (ds.take n):=by
 induction h with
 |nil=>exact λn=>by rw [List.take_nil,List.take_nil];exact .nil
 |cons h _ ih=>exact λn=>match n with
  |0=>.nil
  |n+1=>.cons h (ih n)
theorem DL.set(h:DL Z xs ds)(hv:Dp Z v d):∀n:Nat,DL Z (xs.set n v) (ds.set n d):=by
 induction h with
 |nil=>exact λZaa=>.nil
 |cons h t ih=>exact λn=>match n with
  |0=>.cons hv t
  |n+1=>.cons h (ih n)
theorem DL.yq(h:DL Z xs ds)(e:ds.getLast?=some d):∃x,xs.getLast?=some x/\Dp Z x d:=by
 rw [List.getLast?_eq_getElem?] at e ⊢
 rw [h.l];exact h.at e
theorem DL.map{α:Type}{f:α->W}{g:α->AV}(hf:∀{a v},Dp Z v (f a)->v=g a){l:List α}:∀{xs:List AV},DL Z xs (l.map f)->xs=l.map g:=by
 induction l with
 |nil=>exact λh=>h.el (P:=(·=[])) rfl
 |cons a l ih=>exact λh=>h.el (P:=(·=g a::l.map g)) λx r h t=>by rw [hf h,ih t]
theorem DL.B5{α:Type}{f:α->W}{g:α->AV}(hf:∀a,Dp Z (g a) (f a))(l:List α):DL Z (l.map g) (l.map f):=by
 induction l with
 |nil=>exact .nil
 |cons a l ih=>exact .cons (hf a) ih
theorem DL.snd{kvs:List (List Nat×AV)}(l:kvs.length=ds.length)(h:∀(i:Nat) (x:List Nat×AV) d,kvs[i]?=some x->ds[i]?=some d->Dp Z x.2 d):DL Z (kvs.map (·.2)) ds:=.of (by rw [List.length_map,l]) λi x d e1 e2=>by
 rw [List.getElem?_map] at e1
 obtain ⟨p,hp,rfl⟩:=Option.map_eq_some_iff.mp e1
 exact h i p d hp e2
noncomputable def DpV(Z:AH)(P:AV->Prop)(v:AV):W->Prop
 |.aZ=>P .none->P v
 |.dF b=>P (.bool b)->P v
 |.int i=>P (.int i)->P v
 |.str s=>P (.str s)->P v
 |.ref a=>P (.ref a)->P v
 |.ty s=>P (.ty s)->P v
 |.bU hi=>(∀a,Z a=some (.bU 0 hi)->P (.ref a))->P v
 |.lA d=>(∀a,Z a=some (.items d)->P (.ref a))->P v
 |.af ds=>(∀a k xs,Z a=some (.list k xs)->xs.length<=1000000->DL Z xs ds->P (.ref a))->P v
 |.aj ds=>(∀a xs,Z a=some (.aj xs)->xs.length<=1000000->DL Z xs ds->P (.ref a))->P v
 |.dS ks ds=>(∀a fz kvs,Z a=some (.bX fz kvs)->kvs.length<=1000000->kvs.map (·.1)=ks->DL Z (kvs.map (·.2)) ds->P (.ref a))->P v
 |.dI kv=>(∀a fz,Z a=some (.bz fz (im kv))->kv.length<=1000000->P (.ref a))->P v
 |.ins C ks ds=>(∀a fz kvs,Z a=some (.inst fz C.num kvs)->kvs.map (·.1)=ks->DL Z (kvs.map (·.2)) ds->P (.ref a))->P v
theorem Dp.el{P:AV->Prop}(h:Dp Z v d):DpV Z P v d:=by
 induction h with
 |bU e=>exact λk=>k _ e
 |lA e=>exact λk=>k _ e
 |af e b l h=>exact λk=>k _ _ _ e b (.of l h)
 |aj e b l h=>exact λk=>k _ _ e b (.of l h)
 |dS e b l h=>exact λk=>k _ _ _ e b rfl (.snd l h)
 |dI e b=>exact λk=>k _ _ e b
 |ins e l h=>exact λk=>k _ _ _ e rfl (.snd l h)
 |_=>exact id
section
variable{P:AV->Prop}
theorem Dp.Hy{i:Int}(h:Dp Z v (.int i)):v=.int i:=h.el (P:=(·=.int i)) rfl
theorem Dp.Hz(h:Dp Z v .aZ):v=.none:=h.el (P:=(·=.none)) rfl
theorem Dp.A5{a:Nat}(h:Dp Z v (.ref a)):v=.ref a:=h.el (P:=(·=.ref a)) rfl
@[elab_as_elim] theorem Dp.eN (h:Dp Z v .aZ) (k:P .none):P v:=h.el k
@[elab_as_elim] theorem Dp.eB {b:Bool} (h:Dp Z v (.dF b)) (k:P (.bool b)):P v:=h.el k
@[elab_as_elim] theorem Dp.eI {i:Int} (h:Dp Z v (.int i)) (k:P (.int i)):P v:=h.el k
@[elab_as_elim] theorem Dp.eS {s:List Nat} (h:Dp Z v (.str s)) (k:P (.str s)):P v:=h.el k
@[elab_as_elim] theorem Dp.eR {a:Nat} (h:Dp Z v (.ref a)) (k:P (.ref a)):P v:=h.el k
@[elab_as_elim] theorem Dp.eT {s:String} (h:Dp Z v (.ty s)) (k:P (.ty s)):P v:=h.el k
@[elab_as_elim] theorem Dp.YG {hi:Int} (h:Dp Z v (.bU hi)) (k:∀a,Z a=some (.bU 0 hi)->P (.ref a)):P v:=h.el k
@[elab_as_elim] theorem Dp.YH {d:Nat} (h:Dp Z v (.lA d)) (k:∀a,Z a=some (.items d)->P (.ref a)):P v:=h.el k
@[elab_as_elim] theorem Dp.jm (h:Dp Z v (.af ds)) (k:∀a k xs,Z a=some (.list k xs)->xs.length<=1000000->DL Z xs ds->P (.ref a)):P v:=h.el k
@[elab_as_elim] theorem Dp.jX (h:Dp Z v (.aj ds)) (k:∀a xs,Z a=some (.aj xs)->xs.length<=1000000->DL Z xs ds->P (.ref a)):P v:=h.el k
@[elab_as_elim] theorem Dp.CQ {ks:List (List Nat)} (h:Dp Z v (.dS ks ds)) (k:∀a fz kvs,Z a=some (.bX fz kvs)->kvs.length<=1000000->kvs.map (·.1)=ks->DL Z (kvs.map (·.2)) ds->P (.ref a)):P v:=h.el k
@[elab_as_elim] theorem Dp.eDI {kv:KV} (h:Dp Z v (.dI kv)) (k:∀a fz,Z a=some (.bz fz (im kv))->kv.length<=1000000->P (.ref a)):P v:=h.el k
@[elab_as_elim] theorem Dp.B6 {C:Cl} {ks:List (List Nat)} (h:Dp Z v (.ins C ks ds)) (k:∀a fz kvs,Z a=some (.inst fz C.num kvs)->kvs.map (·.1)=ks->DL Z (kvs.map (·.2)) ds->P (.ref a)):P v:=h.el k
end
theorem DL.xy{kvs:List (List Nat×AV)}(h:DL Z (kvs.map (·.2)) ds):kvs.length=ds.length/\∀(i:Nat) (x:List Nat×AV) d,kvs[i]?=some x->ds[i]?=some d->Dp Z x.2 d:=
 ⟨by have:=h.l;rwa [List.length_map] at this,λi x d e1 e2=>h.h i x.2 d (by rw [List.getElem?_map,e1];rfl) e2⟩
theorem Dp.lO{a:Nat}{k:LK}(e:Z a=some (.list k xs))(b:xs.length<=1000000)(h:DL Z xs ds):Dp Z (.ref a) (.af ds):=.af e b h.l h.h
theorem Dp.kH{a:Nat}(e:Z a=some (.aj xs))(b:xs.length<=1000000)(h:DL Z xs ds):Dp Z (.ref a) (.aj ds):=.aj e b h.l h.h
theorem Dp.IC{a:Nat}{fz:Bool}{kvs:List (List Nat×AV)}{ks:List (List Nat)}(e:Z a=some (.bX fz kvs))(b:kvs.length<=1000000)(hk:kvs.map (·.1)=ks)(h:DL Z (kvs.map (·.2)) ds):Dp Z (.ref a) (.dS ks ds):=hk▸.dS e b h.xy.1 h.xy.2
theorem Dp.xA{a:Nat}{C:Cl}{fz:Bool}{kvs:List (List Nat×AV)}{ks:List (List Nat)}(e:Z a=some (.inst fz C.num kvs))(hk:kvs.map (·.1)=ks)(h:DL Z (kvs.map (·.2)) ds):Dp Z (.ref a) (.ins C ks ds):=hk▸.ins e h.xy.1 h.xy.2
theorem DL.ints{l:List Int}(h:DL Z xs (au l)):xs=il l:=DL.map (f:=W.int) (g:=AV.int) Dp.Hy h
theorem DL.w9(l:List (List Nat)):DL Z (l.map .str) (l.map .str):=.B5 .str l
theorem DL.As(l:List Int):DL Z (il l) (au l):=.B5 .int l
theorem WR.fresh(r:WR Z S H){c:Nat}(hc:S c=none):H c=none/\Z c=none:=by
 constructor
 ·cases q:H c with
  |none=>rfl
  |some o=>exact (r.h c o q).2.elim λso e=>nz hc e.1
 ·cases q:Z c with
  |none=>rfl
  |some o=>exact nz hc (r.z c o q)
theorem HA{c:Nat}(hc:Z c=none)(o:AO):ZL Z (Z.ai c o):=λa p e=>(dj Z c o λq=>nz ((congrArg Z q).trans hc) e).trans e
theorem WR.gT(r:WR Z S H){c:Nat}(hc:S c=none)(o:AO):ZL Z (Z.ai c o)/\WR (Z.ai c o) (S.ai c o) H:=by
 obtain ⟨h1,h2⟩:=r.fresh hc
 have z:=HA h2 o
 refine ⟨z,λa p e=>fT (P:=λa p=>S.ai c o a=some p) e (cR ..) λq e=>(dj _ _ _ q).trans (r.z a p e),λa d e=>(r.g a d e).aY z,λa p e=>?_⟩
 have q:a≠c:=λq=>nz ((congrArg H q).trans h1) e
 have k:=r.h a p e
 exact ⟨(dj _ _ _ q).trans k.1,k.2.imp λso k=>⟨(dj _ _ _ q).trans k.1,k.2.aY z⟩⟩
theorem aN(H:WH)(a:Nat)(o:WO):H.ai a o a=some o:=if_pos rfl
theorem aL(H:WH)(a:Nat)(o:WO){b:Nat}(h:b≠a):H.ai a o b=H b:=if_neg h
theorem WR.Jy(r:WR Z S H){c:Nat}(h2:Z c=none){so:AO}{o:WO}(ho:OR Z so o):WR Z (S.ai c so) (H.ai c o):=by
 refine ⟨λa p e=>(dj _ _ _ λq=>nz ((congrArg Z q).trans h2) e).trans (r.z a p e),r.g,λa p e=>?_⟩
 by_cases q:a=c
 ·subst q;exact Option.some.inj ((aN H a o).symm.trans e)▸⟨h2,so,cR ..,ho⟩
 ·rw [aL _ _ _ q] at e;rw [dj _ _ _ q];exact r.h a p e
theorem WR.kT(r:WR Z S H){c:Nat}(hc:S c=none){so:AO}{o:WO}(ho:OR Z so o):WR Z (S.ai c so) (H.ai c o):=r.Jy (r.fresh hc).2 ho
theorem WR.bL(r:WR Z S H){c:Nat}{o o':WO}(e:H c=some o){so:AO}(ho:OR Z so o'):WR Z (S.ai c so) (H.ai c o'):=r.Jy (r.h c o e).1 ho
theorem WR.list(r:WR Z S H){a:Nat}(e:H a=some (.list ds)):∃xs,S a=some (.list .mu xs)/\DL Z xs ds:=by obtain ⟨_,so,e,xs,rfl,h⟩:=r.h _ _ e;exact ⟨xs,e,h⟩
theorem WR.dJ(r:WR Z S H){a:Nat}(e:H a=some (.dJ ds)):∃xs,S a=some (.list .dJ xs)/\DL Z xs ds:=by obtain ⟨_,so,e,xs,rfl,h⟩:=r.h _ _ e;exact ⟨xs,e,h⟩
theorem WR.dI(r:WR Z S H){a:Nat}{kv:KV}(e:H a=some (.dI kv)):S a=some (.bz false (im kv)):=(r.h _ _ e).2.elim λso k=>k.1.trans (congrArg some k.2)
theorem WR.dS(r:WR Z S H){a:Nat}{ks:List (List Nat)}(e:H a=some (.dS ks ds)):∃kvs,S a=some (.bX false kvs)/\kvs.map (·.1)=ks/\DL Z (kvs.map (·.2)) ds:=by obtain ⟨_,so,e,xs,rfl,h⟩:=r.h _ _ e;exact ⟨xs,e,h⟩
theorem WR.inst(r:WR Z S H){a C:Nat}{ks:List (List Nat)}(e:H a=some (.inst C ks ds)):∃kvs,S a=some (.inst false C kvs)/\kvs.map (·.1)=ks/\DL Z (kvs.map (·.2)) ds:=by obtain ⟨_,so,e,xs,rfl,h⟩:=r.h _ _ e;exact ⟨xs,e,h⟩
theorem ba{a b:Bool}(h:Bool.and a b=true):a=true/\b=true:=an h
theorem jK{x:List Nat}:∀{y:List Nat},bP x y=true->x=y:=by
 induction x with
 |nil=>exact λ{y} h=>match y with
  |[]=>rfl
  |_::_=>ff rfl h
 |cons a r ih=>exact λ{y} h=>match y with
  |[]=>ff rfl h
  |b::s=>by rw [Nat.eq_of_beq_eq_true (ba h).1,ih (ba h).2]
theorem Qo(x:List Nat):bP x x=true:=by
 induction x with
 |nil=>rfl
 |cons a r ih=>show Bool.and (Nat.beq a a) (bP r r)=true;rw [ih,Nat.beq_refl];rfl
theorem Au{x y:List Nat}(h:bP x y=false):x≠y:=λq=>by rw [q,Qo] at h;cases h
theorem xd(x y:List Nat):bP x y=(x==y):=by
 cases q:bP x y with
 |true=>rw [jK q,BEq.rfl]
 |false=>exact (beq_eq_false_iff_ne.mpr (Au q)).symm
theorem iA{c:Bool}{p:Prop}(h:iB c p False):c=true/\p:=by induction c with|true=>exact ⟨rfl,h⟩|false=>exact h.elim
theorem ou{α:Type}{o:Option α}{k:α->Prop}(h:oW o k):∃v,o=some v/\k v:=by induction o with|some v=>exact ⟨v,rfl,h⟩|none=>exact h.elim
theorem rP{C:Nat}{s:List Nat}{l:List (Nat×List Nat)}:lX l C s=true->(C,s)∈l:=by
 induction l with
 |nil=>exact λh=>ff rfl h
 |cons p r ih=>
  intro h
  have h:(match Bool.and (Nat.beq p.1 C) (bP p.2 s) with|true=>true|false=>lX r C s)=true:=h
  cases q:Bool.and (Nat.beq p.1 C) (bP p.2 s) with
  |true=>rw [<-Nat.eq_of_beq_eq_true (ba q).1,<-jK (ba q).2];exact .head _
  |false=>rw [q] at h;exact .tail _ (ih h)
theorem Ad{C:Nat}{s:List Nat}{f:Nat}{l:List (Nat×List Nat×Nat)}:uC l C s=some f->(C,s,f)∈l:=by
 induction l with
 |nil=>exact nofun
 |cons p r ih=>
  intro h
  have h:(match Bool.and (Nat.beq p.1 C) (bP p.2.1 s) with|true=>some p.2.2|false=>uC r C s)=some f:=h
  cases q:Bool.and (Nat.beq p.1 C) (bP p.2.1 s) with
  |true=>rw [q] at h;rw [<-Nat.eq_of_beq_eq_true (ba q).1,<-jK (ba q).2,<-Option.some.inj h];exact .head _
  |false=>rw [q] at h;exact .tail _ (ih h)
theorem Sb{C:Cl}{s:List Nat}(h:Lm C s=true):(C.num,s)∈cy.jU:=by
 induction C with
 |n k=>exact rP h
 |tg ah=>induction ah with
  |true=>exact rP (ba h).2
  |false=>exact rP (ba h).1
theorem Sd{C:Cl}{s:List Nat}{f:Nat}(h:CI C s=some f):(C.num,s,f)∈cy.aQ:=by
 induction C with
 |n k=>exact Ad h
 |tg ah=>
  unfold CI at h
  dsimp only at h
  cases q:bP s [109,101,97,110,105,110,103] with
  |false=>rw [q] at h;cases h
  |true=>
   rw [q] at h
   rw [jK q,<-Option.some.inj h]
   induction ah<;>exact Ad rfl
inductive KG(Z:AH):Option AV->Option W->Prop
 |none:KG Z none none
 |some {v:AV} {d:W} (h:Dp Z v d):KG Z (some v) (some d)
theorem xe{s:List Nat}{kvs:List (List Nat×AV)}:∀{ds:List W},DL Z (kvs.map (·.2)) ds->KG Z (fM kvs s) (iD (kvs.map (·.1)) ds s):=by
 induction kvs with
 |nil=>exact λZaa=>.none
 |cons p r ih=>
  refine λh=>h.eu (P:=λds=>KG Z (fM (p::r) s) (iD ((p::r).map (·.1)) ds s)) λd ds h1 h2=>?_
  show KG Z (if p.1=s then some p.2 else fM r s) (match bP p.1 s with|true=>some d|false=>iD (r.map (·.1)) ds s)
  cases q:bP p.1 s with
  |true=>rw [if_pos (jK q)];exact .some h1
  |false=>rw [if_neg (Au q)];exact ih h2
structure KS(Z:AH)(kvs:List (List Nat×AV))(ks:List (List Nat))(ds:List W):Prop where
 k:kvs.map (·.1)=ks
 h:DL Z (kvs.map (·.2)) ds
theorem Gu{s:List Nat}{v:AV}{d:W}(hd:Dp Z v d){kvs:List (List Nat×AV)}:∀{ds:List W},DL Z (kvs.map (·.2)) ds->KS Z (kM kvs s v) (ee (kvs.map (·.1)) s) (fC (kvs.map (·.1)) ds s d):=by
 induction kvs with
 |nil=>exact λZaa=>⟨rfl,.dO hd⟩
 |cons p r ih=>
  refine λh=>h.eu (P:=λds=>KS Z (kM (p::r) s v) (ee ((p::r).map (·.1)) s) (fC ((p::r).map (·.1)) ds s d)) λe ds h1 h2=>?_
  show KS Z (if p.1=s then (p.1,v)::r else p::kM r s v) (match bP p.1 s with|true=>p.1::r.map (·.1)|false=>p.1::ee (r.map (·.1)) s) (match bP p.1 s with|true=>d::ds|false=>e::fC (r.map (·.1)) ds s d)
  cases q:bP p.1 s with
  |true=>rw [if_pos (jK q)];exact ⟨rfl,.cons hd h2⟩
  |false=>rw [if_neg (Au q)];have i:=ih h2;exact ⟨congrArg (_::·) i.k,.cons h1 i.h⟩
end
section
variable{Z Z' S S':AH}{H H':WH}{v u:AV}{d x y:W}{xs ys:List AV}{ds es:List W}{k:Bool->Prop}{k':Bool->Prop}{Q:W->Prop}{Q':AV->Prop}
theorem fD{P:W->Prop}{k:Int->Prop}(h:iW d k)(q:∀i,k i->P (.int i)):P d:=by induction d using W.casesOn with
 |int i=>exact q i h
 |_=>exact False.elim h
theorem ow{P:W->Prop}{k:List Nat->Prop}(h:sW d k)(q:∀i,k i->P (.str i)):P d:=by induction d using W.casesOn with
 |str i=>exact q i h
 |_=>exact False.elim h
theorem Fv{op:Operator}{p:Prop}(h:By op p):op=.Add/\p:=by induction op with
 |Add=>exact ⟨rfl,h⟩
 |_=>exact False.elim h
theorem qt{p:Prop}[Decidable p](h:BC p k):k (decide p):=by
 by_cases e:p
 ·rw [decide_eq_true e];exact h.casesOn λh1 Zaa=>h1 e
 ·rw [decide_eq_false e];exact h.casesOn λZaa h2=>h2 e
theorem UJ{α:Type}{o:Option α}(h:OB o k):k o.isSome:=by
 induction h with|mk h1 h2=>
 induction o with
 |none=>exact h2 rfl
 |some v=>exact h1 v rfl
theorem OO{op:Operator}{i j:Int}(h:Iu op i j Q)(q:∀i,Q (.int i)->Q' (.int i)):Bm op i j Q':=by
 induction op<;>first|exact q _ h|exact ⟨h.1,q _ h.2⟩|exact False.elim h
inductive LW(Z S:AH)(k:List W->Prop):AV->Prop
 |mk {a:Nat} {kk:LK} {xs:List AV} {ds:List W} (e:S a=some (.list kk xs)) (l:DL Z xs ds) (h:k ds):LW Z S k (.ref a)
theorem Av{k:List W->Prop}(r:WR Z S H)(dy:Dp Z v d)(h:ym d k H):LW Z S k v:=by
 induction d using W.casesOn with
 |ref a=>
  induction h with|mk o e h=>
  induction o with
  |list ds=>exact dy.eR ((r.list e).elim λxs z=>.mk z.1 z.2 h)
  |_=>exact False.elim h
 |af ds=>exact dy.jm λa kk xs e Zaa l=>.mk (r.z _ _ e) l h
 |_=>exact False.elim h
theorem Qp{op:Operator}{Q':AV->AH->Prop}(r:WR Z S H)(dx:Dp Z v x)(dy:Dp Z u y)(h:Jo op x y Q H)(q:∀Z' S' d v,ZL Z Z'->WR Z' S' H->Dp Z' v d->Q d->Q' v S'):nu op Q' S v u:=by
 induction x using W.casesOn with
 |int i=>exact fD (P:=λy=>Dp Z u y->nu op Q' S v u) h (λj h dy=>dx.eI (dy.eI (.int (OO h λi hq=>q _ _ _ _ .rf r (.int i) hq)))) dy
 |str s=>exact ow (P:=λy=>Dp Z u y->nu op Q' S v u) h (λj h dy=>dx.eS (dy.eS (have h:=Fv h;.str h.1 h.2.1 (q _ _ _ _ .rf r (.str _) h.2.2)))) dy
 |af xs=>
  refine dx.jm λa ka xs e b l=>?_
  have y:=Av r dy h
  induction y with| @mk _ kb ys ds e2 l2 h=>
  have h:=Fv h
  have h1:=h.2.1
  rw [<-l.l,<-l2.l] at h1
  exact .af .fz h.1 (r.z _ _ e) e2 h1 λc hc=>have n:=r.gT hc (.list .fz (xs++ys));q _ _ _ _ n.1 n.2 (.lO (cR ..) (by rw [List.length_append];exact h1) ((l.aY n.1).append (l2.aY n.1))) h.2.2
 |_=>exact False.elim h
theorem UK{b:Bool}(h:bS b k):k b:=by induction b<;>exact h
inductive WE(k:Bool->Prop)(v u:AV):Prop
 |mk {c:Bool} (e:SE v u c) (h:k c)
theorem HB(dx:Dp Z v x)(dy:Dp Z u y)(h:yV x y k):WE k v u:=by
 induction x using W.casesOn with
 |aZ=>exact dx.eN (by induction y using W.casesOn with
  |aZ=>exact dy.eN ⟨.NN,h⟩
  |int i=>exact dy.eI ⟨.Ni i,h⟩
  |str s=>exact dy.eS ⟨.Ns s,h⟩
  |_=>exact False.elim h)
 |dF a=>exact dx.eB (by induction y using W.casesOn with
  |dF b=>exact dy.eB ⟨.bb a b,h⟩
  |_=>exact False.elim h)
 |int i=>exact dx.eI (by induction y using W.casesOn with
  |aZ=>exact dy.eN ⟨.iN i,h⟩
  |int j=>exact dy.eI ⟨.ii i j,qt h⟩
  |_=>exact False.elim h)
 |str s=>exact dx.eS (by induction y using W.casesOn with
  |aZ=>exact dy.eN ⟨.sN s,h⟩
  |str t=>exact dy.eS ⟨.ss s t,xd s t▸UK h⟩
  |_=>exact False.elim h)
 |_=>exact False.elim h
structure IL(k:Bool->Prop)(xs:List AV)(a:AV):Prop where
 h1:∀x∈xs,(gn x a).isSome=true
 h2:k (xs.any λx=>gn x a==some true)
theorem any_map{α:Type}[DecidableEq α]{f:α->AV}{a:α}(hf:∀b,gn (f b) (f a)=some (b==a))(l:List α)(h:BC (a∈l) k):IL k (l.map f) (f a):=by
 refine ⟨λx hx=>(List.mem_map.mp hx).elim λb e=>e.2▸congrArg Option.isSome (hf b),?_⟩
 rw [List.any_map,show ((λx=>gn x (f a)==some true)∘f)=λb=>b==a from funext λb=>by
  show (gn (f b) (f a)==some true)=_
  rw [hf];cases (b==a)<;>rfl,List.any_beq',List.contains_eq_mem]
 exact qt h
theorem Qq{s:List Nat}(l:DL Z xs ds):∀{b:Bool},sD ds s=some b->(∀x∈xs,(gn x (.str s)).isSome=true)/\(xs.any λx=>gn x (.str s)==some true)=b:=by
 induction l with
 |nil=>exact λh=>⟨nofun,Option.some.inj h⟩
 | @cons v d xs ds h1 _ ih=>
   intro b h
   induction d using W.casesOn with
   |str t=>
    have h:Ln (bP t s) (sD ds s)=some b:=h
    generalize q:sD ds s=o at h
    induction o with
    |none=>exact nz rfl h
    |some b'=>
     have i:=ih q
     refine h1.eS ⟨List.forall_mem_cons.mpr ⟨rfl,i.1⟩,?_⟩
     rw [List.any_cons,i.2,<-Option.some.inj h,xd]
     show (some (t==s)==some true||b')=Bool.or (t==s) b'
     cases (t==s)<;>rfl
   |_=>exact nz (o:=sD (_::ds) s) rfl h
noncomputable abbrev Lw(o:Option Int):AV:=match o with
 |some i=>.int i
 |none=>.none
theorem Gv(l:DL Z xs ds)(dx:Dp Z v x)(h:BZ ds x k):IL k xs v:=by
 induction x using W.casesOn with
 |aZ=>
  obtain ⟨l0,rfl,h⟩:=h
  have e:xs=l0.map Lw:=DL.map (f:=W.dG) (λ{a v} h=>by induction a with
   |none=>exact h.Hz
   |some i=>exact h.Hy) l
  exact e▸dx.eN (any_map (f:=Lw) (a:=none) (λb=>by induction b<;>rfl) l0 h)
 |int i=>
  obtain ⟨l0,rfl,h⟩:=h
  exact l.ints▸dx.eI (any_map (f:=AV.int) (λZaa=>rfl) l0 h)
 |str s=>
  obtain ⟨b,hb,h⟩:=ou h
  have z:=Qq l hb
  exact dx.eS ⟨z.1,z.2▸h⟩
 |_=>exact False.elim h
theorem Qs(kv:KV)(i:Int):(iC (im kv) i).isSome=(kv.aE i).isSome:=by rw [qi];cases kv.aE i<;>rfl
inductive WI(S:AH)(k:Bool->Prop)(v u:AV):Prop
 |mk {c:Bool} (e:jt S v u c) (h:k c)
theorem Gw{a:Nat}{fz:Bool}{kvs:List (List Nat×AV)}{ks:List (List Nat)}(e:S a=some (.bX fz kvs))(hk:kvs.map (·.1)=ks)(l:DL Z (kvs.map (·.2)) ds)(dx:Dp Z v x)(h:B0 (.dS ks ds) x k):WI S k v (.ref a):=
 ow (P:=λx=>Dp Z v x->WI S k v (.ref a)) h (λs h dx=>dx.eS ⟨.bX s e,by
  have g:=xe (s:=s) l
  rw [hk] at g
  revert h g
  generalize fM kvs s=o1
  generalize iD ks ds s=o2
  intro h g
  induction g<;>exact h⟩) dx
theorem HC(r:WR Z S H)(dx:Dp Z v x)(dy:Dp Z u y)(h:CJ x y k H):WI S k v u:=by
 induction y using W.casesOn with
 |ref c=>
  induction h with|mk o e h=>
  induction o with
  |dI kv=>exact dy.eR (fD (P:=λx=>Dp Z v x->WI S k v (.ref c)) h (λi h dx=>dx.eI ⟨.bz i (r.dI e),Qs kv i▸UJ h⟩) dx)
  |dS ks vs=>exact dy.eR ((r.dS e).elim λkvs z=>Gw z.1 z.2.1 z.2.2 dx h)
  |_=>exact False.elim h
 |af xs=>exact dy.jm λa kk xs e b l=>have i:=Gv l dx h;⟨.list (r.z _ _ e) i.h1,i.h2⟩
 |aj xs=>exact dy.jX λa xs e b l=>have i:=Gv l dx h;⟨.aj (r.z _ _ e) i.h1,i.h2⟩
 |dS ks vs=>exact dy.CQ λa fz kvs e b hk l=>Gw (r.z _ _ e) hk l dx h
 |_=>exact False.elim h
theorem DL.same{R:AV->AV->Prop}(l:DL Z xs ds):∀{ys:List AV},DL Z ys ds->(∀x∈ds,∀{v u},Dp Z v x->Dp Z u x->R v u)->xs.length=ys.length/\∀(i:Nat) u v,xs[i]?=some u->ys[i]?=some v->R u v:=by
 intro ys l2 hf
 refine ⟨l.l.trans l2.l.symm,λi u v h1 h2=>?_⟩
 have hd:=List.getElem?_eq_getElem (l.l▸(List.getElem?_eq_some_iff.mp h1).1)
 exact hf _ (List.mem_of_getElem? hd) (l.h i _ _ h1 hd) (l2.h i _ _ h2 hd)
theorem Gy(r:WR Z S H){n:Nat}(f:Fl n d):∀{v u:AV},Dp Z v d->Dp Z u d->sq S n v u:=by
 induction f with
 |aZ=>exact λa b=>a.eN (b.eN (.xW .NN))
 |int i=>exact λa b=>a.eI (b.eI (.xW (BEq.rfl (a:=i)▸.ii i i)))
 |str s=>exact λa b=>a.eS (b.eS (.xW (BEq.rfl (a:=s)▸.ss s s)))
 |aj _ ih=>exact λa b=>a.jX λx xs e Zaa l=>b.jX λy ys e2 Zaa l2=>have z:=l.same l2 λx hx=>ih x hx;.IY (.aj (r.z _ _ e) (r.z _ _ e2)) z.1 z.2
theorem Se(r:WR Z S H)(dx:Dp Z v x)(dy:Dp Z u y)(h:Lo x y k H):dZ k S .NotEq v u:=by
 have sc:yV x y (BY k)->dZ k S .NotEq v u:=λh=>match HB dx dy h with|.mk e h=>.ne e h
 induction x using W.casesOn with
 |ref a=>
  induction y using W.casesOn with
  |ref b=>
   induction h with|mk h1 h2=>
   refine dx.eR (dy.eR (.u5 ?_ h2))
   rcases h1 with ⟨ds,e1,e2,hf⟩|⟨kv,e1,e2⟩
   ·exact (r.list e1).elim λxs p=>(r.list e2).elim λys q=>have z:=p.2.same q.2 λx hx=>Gy r (hf x hx);.seq (.list p.1 q.1) z.1 z.2
   ·exact .dict (r.dI e1) (r.dI e2) λp hp=>(List.mem_map.mp hp).elim λq z=>z.2▸⟨_,rfl⟩
  |_=>exact False.elim h
 |aj xs=>
  induction y using W.casesOn with
  |aj ys=>
   induction h with|mk h1 h2=>
   obtain ⟨rfl,hf⟩:=h1
   exact dx.jX λa xs e Zaa l=>dy.jX λb ys e2 Zaa l2=>have z:=l.same l2 λx hx=>Gy r (hf x hx);.u5 (.seq (.aj (r.z _ _ e) (r.z _ _ e2)) z.1 z.2) h2
  |_=>exact False.elim h
 |_=>exact sc h
noncomputable def YI:W->Bool
 |.aZ=>true
 |_=>false
theorem Dp.isNone(dx:Dp Z v x)(h:yo .Is x .aZ k H):k (Mine.isNone v):=by
 have e:Mine.isNone v=YI x:=by induction dx<;>rfl
 rw [e];induction x using W.casesOn<;>exact h
theorem Aw{op:CmpOp}(r:WR Z S H)(dx:Dp Z v x)(dy:Dp Z u y)(h:yo op x y k H):dZ k S op v u:=by
 have ii:∀{op:CmpOp},(iW x λa=>iW y λb=>BA op a b k)->(∀i j,BA op i j k->dZ k S op (.int i) (.int j))->dZ k S op v u:=λ{op} h q=>
  fD (P:=λx=>Dp Z v x->dZ k S op v u) h (λi h dx=>fD (P:=λy=>Dp Z u y->dZ k S op v u) h (λj h dy=>dx.eI (dy.eI (q i j h))) dy) dx
 induction op with
 |Eq=>exact match HB dx dy h with|.mk e h=>.eq e h
 |NotEq=>exact Se r dx dy h
 |In=>exact match HC r dx dy h with|.mk e h=>.yw e h
 |NotIn=>exact match HC r dx dy h with|.mk e h=>.yx e h
 |Is=>induction y using W.casesOn with
  |aZ=>exact dy.eN (.is (dx.isNone h))
  |_=>exact False.elim h
 |Lt=>exact ii h λi j h=>.lt (qt h)
 |LtE=>exact ii h λi j h=>.le (qt h)
 |Gt=>exact ii h λi j h=>.gt (qt h)
 |GtE=>exact ii h λi j h=>.ge (qt h)
 |IsNot=>exact ii h λi j h=>False.elim h
theorem DL.vo(l:DL Z xs ds)(h:yW (.af ds) k H):k (!xs.isEmpty):=by induction l<;>exact h
theorem HD(r:WR Z S H)(dx:Dp Z v x)(h:yW x k H):jL k S v:=by
 induction x using W.casesOn with
 |aZ=>exact dx.eN (.none h)
 |dF b=>exact dx.eB (.bool h)
 |int i=>exact dx.eI (.int (show k (i != 0) from (show decide (i≠0)=(i != 0) by rw [Bool.eq_iff_iff,bne_iff_ne,decide_eq_true_eq])▸qt h))
 |str s=>exact dx.eS (.str h.1 (by induction s<;>exact h.2))
 |ref c=>
  induction h with|mk o e h=>
  induction o with
  |list ds=>exact dx.eR ((r.list e).elim λxs z=>.list z.1 (z.2.l▸h.1) (z.2.vo (H:=H) h.2))
  |_=>exact False.elim h
 |af ds=>exact dx.jm λa kk xs e b l=>.list (r.z _ _ e) b (l.vo h)
 |_=>exact False.elim h
theorem EW{α:Type}(xs:List α)(n:Nat):gP xs (n:Int)=xs[n]?:=if_pos (Int.natCast_nonneg n)
theorem Fw{α:Type}(xs:List α):gP xs (-1)=xs.getLast?:=by
 unfold gP
 rw [if_neg (by decide),List.getLast?_eq_getElem?]
 induction xs with
 |nil=>rfl
 |cons x r=>exact (if_pos (Int.neg_le_neg (Int.ofNat_le.mpr (Nat.succ_le_succ (Nat.zero_le r.length))))).trans (congrArg (λn=>(x::r)[n]?) (congrArg Int.toNat (show-1+((r.length+1:Nat):Int)=(r.length:Nat) by lia)))
theorem Lx{n m:Nat}(h:n<m)(b:m<=1000000):-1000000<=(n:Int)/\(n:Int)<=1000000:=⟨by lia,by lia⟩
structure GA(Z:AH)(xs:List AV)(i:Int)(d:W)(v:AV):Prop where
 b:-1000000<=i/\i<=1000000
 g:gP xs i=some v
 d:Dp Z v d
theorem HE{i:Int}(l:DL Z xs ds)(b:xs.length<=1000000)(e:j9 ds i=some d):∃v,GA Z xs i d v:=by
 induction i with
 |ofNat n=>exact (l.at (i:=n) e).elim λx z=>⟨x,Lx (List.getElem?_eq_some_iff.mp z.1).1 b,(EW xs n).trans z.1,z.2⟩
 |negSucc n=>
  induction n with
  |succ n=>cases e
  |zero=>exact (l.yq e).elim λx z=>⟨x,⟨by decide,by decide⟩,(Fw xs).trans z.1,z.2⟩
theorem Ax{p:Prop}{kvs:List (List Nat×AV)}{ks:List (List Nat)}{s:List Nat}(hk:kvs.map (·.1)=ks)(l:DL Z (kvs.map (·.2)) ds)(h:oW (iD ks ds s) Q)(q:∀d v,fM kvs s=some v->Dp Z v d->Q d->p):p:=by
 have g:=xe (s:=s) l
 rw [hk] at g
 revert h g q
 generalize fM kvs s=o1
 generalize iD ks ds s=o2
 intro h q g
 induction g with
 |none=>exact False.elim h
 |some dv=>exact q _ _ rfl dv h
theorem OP(r:WR Z S H)(dx:Dp Z v x)(dy:Dp Z u y)(h:Iv x y Q H)(q:∀d v,Dp Z v d->Q d->Q' v):gQ Q' S v u:=by
 have ii:∀{f:Int->Prop},iW y f->(∀i,f i->gQ Q' S v (.int i))->gQ Q' S v u:=λh q=>fD (P:=λy=>Dp Z u y->gQ Q' S v u) h (λi h dy=>dy.eI (q i h)) dy
 have ss:∀{f:List Nat->Prop},sW y f->(∀i,f i->gQ Q' S v (.str i))->gQ Q' S v u:=λh q=>ow (P:=λy=>Dp Z u y->gQ Q' S v u) h (λi h dy=>dy.eS (q i h)) dy
 induction x using W.casesOn with
 |str s=>exact ii h λi h=>dx.eS (match h.2 with|.mk c e g=>.str h.1 e (q _ _ (.str _) g))
 |ref c=>
  induction h with|mk o e h=>
  induction o with
  |list ds=>exact ii h λi h=>dx.eR ((r.list e).elim λxs z=>by
   induction i with
   |ofNat n=>exact False.elim h
   |negSucc n=>induction n with
    |succ n=>exact False.elim h
    |zero=>induction h with|mk d e h=>exact (z.2.yq e).elim λx w=>.list z.1 ⟨by decide,by decide⟩ ((Fw xs).trans w.1) (q _ _ w.2 h))
  |dJ ds=>exact ii h λi h=>dx.eR ((r.dJ e).elim λxs z=>by
   induction i with
   |negSucc n=>exact False.elim h
   |ofNat n=>
    obtain ⟨d,e,g⟩:=ou h.2
    exact (z.2.at e).elim λx w=>.list z.1 (Lx (Nat.lt_succ_of_le h.1) (by decide)) ((EW xs n).trans w.1) (q _ _ w.2 g))
  |dI kv=>exact ii h λi h=>dx.eR (match h with|.mk w e3 h=>.bz (r.dI e) ((qi kv i).trans (congrArg (Option.map AV.int) e3)) (q _ _ (.int w) h))
  |dS ks vs=>exact ss h λs h=>dx.eR ((r.dS e).elim λkvs z=>Ax z.2.1 z.2.2 h λd v g dv hq=>.bX z.1 g (q _ _ dv hq))
  |inst=>exact False.elim h
 |af ds=>exact ii h λi h=>dx.jm λa kk xs e b l=>match h with|.mk d e2 h=>(HE l b e2).elim λv g=>.list (r.z _ _ e) g.b g.g (q _ _ g.d h)
 |aj ds=>exact ii h λi h=>dx.jX λa xs e b l=>(ou h).elim λd h=>(HE l b h.1).elim λv g=>.aj (r.z _ _ e) g.b g.g (q _ _ g.d h.2)
 |dS ks vs=>exact ss h λs h=>dx.CQ λa fz kvs e b hk l=>Ax hk l h λd v g dv hq=>.bX (r.z _ _ e) g (q _ _ dv hq)
 |_=>exact False.elim h
theorem Sf{Q':AV->AH->Prop}(r:WR Z S H)(dx:Dp Z v x)(dy:Dp Z u y)(h:Lp x y Q)(q:∀Z' S' d v,ZL Z Z'->WR Z' S' H->Dp Z' v d->Q d->Q' v S'):qQ Q' S v u:=by
 induction x using W.casesOn with
 |af ds=>
  refine fD (P:=λy=>Dp Z u y->qQ Q' S v u) h (λi h dy=>dx.jm λa kk xs e b l=>dy.eI ?_) dy
  induction i with
  |negSucc n=>exact False.elim h
  |ofNat n=>exact .mk .fz (r.z _ _ e) b λc hc=>have z:=r.gT hc (.list .fz (xs.take n));q _ _ _ _ z.1 z.2 (.lO (cR ..) (Nat.le_trans (List.length_take_le _ _) h.1) ((l.aY z.1).take n)) h.2
 |_=>exact False.elim h
theorem Qt(dx:Dp Z v x)(dy:Dp Z u y)(h:Jq x y Q)(q:∀d v,Dp Z v d->Q d->Q' v):oF Q' v u:=
 ow (P:=λx=>Dp Z v x->oF Q' v u) h (λs h dx=>fD (P:=λy=>Dp Z u y->oF Q' v u) h (λi h dy=>dx.eS (dy.eI (h.1▸.mk h.2.1 h.2.2.1 (q _ _ (.str _) h.2.2.2)))) dy) dx
noncomputable def YJ:AV->Bool
 |.bi _=>true
 |_=>false
theorem Dp.nb(h:Dp Z v d):∀s,v≠.bi s:=λs q=>by
 have e:YJ v=false:=by induction h<;>rfl
 exact ff e (q▸rfl)
theorem EX{nm:List Nat}{a C:Nat}{fz c:Bool}{kvs:List (List Nat×AV)}{ks:List (List Nat)}(e:S a=some (.inst fz C kvs))(hc:c=true->(C,nm)∈cy.jU)(hk:kvs.map (·.1)=ks)(l:DL Z (kvs.map (·.2)) ds)(h:A0 c ks ds nm Q)(q:∀d v,Dp Z v d->Q d->Q' v):uu cy nm Q' S (.ref a):=
 have h:=iA h;Ax hk l h.2 λd v g dv hq=>.mk e (hc h.1) g dv.nb (q _ _ dv hq)
theorem OQ{nm:List Nat}(r:WR Z S H)(dx:Dp Z v x)(h:Iw x nm Q H)(q:∀d v,Dp Z v d->Q d->Q' v):uu cy nm Q' S v:=by
 induction x using W.casesOn with
 |ref a=>
  induction h with|mk o e h=>
  induction o with
  |inst C ks vs=>exact dx.eR ((r.inst e).elim λkvs z=>EX z.1 rP z.2.1 z.2.2 h q)
  |_=>exact False.elim h
 |ins C ks vs=>exact dx.B6 λa fz kvs e hk l=>EX (r.z _ _ e) Sb hk l h q
 |_=>exact False.elim h
theorem HF{kvs:List (List Nat×AV)}{ks:List (List Nat)}(hk:kvs.map (·.1)=ks)(h:Nat.ble ks.length 900=true):kvs.length<=900:=by rw [<-List.length_map (f:=(·.1)),hk];exact Nat.le_of_ble_eq_true h
theorem OT{nm:List Nat}{K:WH->Prop}{K':AH->Prop}(r:WR Z S H)(dx:Dp Z v x)(dy:Dp Z u y)(h:Iz x nm y K H)(q:∀S' H',WR Z S' H'->K H'->K' S'):xM cy nm u K' S v:=by
 induction x using W.casesOn with
 |ref a=>
  induction h with|mk o e h=>
  induction o with
  |inst C ks vs=>
   have h:=iA h
   have h2:=iA h.2
   exact dx.eR ((r.inst e).elim λkvs z=>.mk z.1 (rP h.1) (HF z.2.1 h2.1) (have k:=Gu (s:=nm) dy z.2.2;q _ _ (r.bL (o':=.inst _ _ _) e ⟨_,rfl,z.2.1▸k.k,z.2.1▸k.h⟩) h2.2))
  |_=>exact False.elim h
 |_=>exact False.elim h
theorem NX{w:AV}{z:W}{K:WH->Prop}{K':AH->Prop}(r:WR Z S H)(dx:Dp Z v x)(dy:Dp Z u y)(dz:Dp Z w z)(h:Hw x y z K H)(q:∀S' H',WR Z S' H'->K H'->K' S'):kD w K' S v u:=by
 induction x using W.casesOn with
 |ref a=>
  induction h with|mk o e h=>
  induction o with
  |dJ ds=>exact fD (P:=λy=>Dp Z u y->kD w K' S v u) h (λi h dy=>dx.eR (dy.eI ((r.dJ e).elim λxs p=>by
   induction i with
   |negSucc n=>exact False.elim h
   |ofNat n=>exact .dJ p.1 (Int.natCast_nonneg n) (Int.ofNat_lt.mpr (p.2.l▸h.1.1)) (p.2.l▸h.1.2) (q _ _ (r.bL (o':=.dJ _) e ⟨_,rfl,p.2.set dz n⟩) h.2)))) dy
  |dI kv=>exact fD (P:=λy=>Dp Z u y->kD w K' S v u) h (λi h dy=>fD (P:=λz=>Dp Z w z->kD w K' S v u) h (λj h dz=>dx.eR (dy.eI (dz.eI (.bz (r.dI e) (rZ kv▸h.1) (q _ _ (r.bL e (F9 kv i j▸rfl)) h.2))))) dz) dy
  |dS ks vs=>exact ow (P:=λy=>Dp Z u y->kD w K' S v u) h (λs h dy=>dx.eR (dy.eS ((r.dS e).elim λkvs p=>have h:=iA h;have k:=Gu (s:=s) dz p.2.2;.bX p.1 (Nat.le_trans (HF p.2.1 h.1) (by decide)) (q _ _ (r.bL (o':=.dS _ _) e ⟨_,rfl,p.2.1▸k.k,p.2.1▸k.h⟩) h.2)))) dy
  |_=>exact False.elim h
 |_=>exact False.elim h
end
section
variable{Z Z' S S':AH}{H H':WH}{v u:AV}{d x y:W}{xs as:List AV}{ds ys:List W}
theorem ku{P:List AV->Prop}{k:W->Prop}(l:DL Z as ys)(h:jW ys k)(q:∀v d,Dp Z v d->k d->P [v]):P as:=by
 induction l with
 |nil=>exact False.elim h
 |cons h1 t=>induction t with
  |nil=>exact q _ _ h1 h
  |cons _ _=>exact False.elim h
theorem Ay{P:List AV->Prop}{k:W->W->Prop}(l:DL Z as ys)(h:yl ys k)(q:∀v u d e,Dp Z v d->Dp Z u e->k d e->P [v,u]):P as:=by
 induction l with
 |nil=>exact False.elim h
 |cons h1 t=>exact ku (P:=λr=>P (_::r)) t h λu e h2 h=>q _ u _ e h1 h2 h
theorem xB{P:List AV->Prop}{k:W->Prop}{k2:W->W->Prop}(l:DL Z as ys)(h:vF ys k k2)(q:∀v d,Dp Z v d->k d->P [v])(q2:∀v u d e,Dp Z v d->Dp Z u e->k2 d e->P [v,u]):P as:=by
 induction l with
 |nil=>exact False.elim h
 |cons h1 t=>induction t with
  |nil=>exact q _ _ h1 h
  |cons h2 t=>induction t with
   |nil=>exact q2 _ _ _ _ h1 h2 h
   |cons _ _=>exact False.elim h
theorem DL.li(l:DL Z xs ds):Dp Z (.int xs.length) (.int ds.length):=l.l▸.int _
theorem Sg{s:String}{p:Prop}(h:CK s p):s="tuple"/\p:=by
 unfold CK at h
 split at h
 ·exact ⟨rfl,h⟩
 ·exact (False.elim h)
theorem Sh{i:Int}{p:Prop}(h:Lq i p):i=0/\p:=by
 induction i with
 |ofNat n=>induction n with
  |zero=>exact ⟨rfl,h⟩
  |succ n=>exact False.elim h
 |negSucc n=>exact False.elim h
theorem DL.init{d:W}(l:DL Z as (ds++[d])):∃xs v,as=xs++[v]/\DL Z xs ds/\Dp Z v d:=by
 revert as
 induction ds with
 |nil=>exact λl=>l.el (P:=λas=>∃xs v,as=xs++[v]/\DL Z xs []/\Dp Z v d) λx r h t=>⟨[],x,t.el (P:=λr=>x::r=[x]) rfl,.nil,h⟩
 |cons e ds ih=>exact λl=>l.el (P:=λas=>∃xs v,as=xs++[v]/\DL Z xs (e::ds)/\Dp Z v d) λx r h t=>let ⟨xs,v,q,a,b⟩:=ih t;⟨x::xs,v,congrArg (x::·) q,.cons h a,b⟩
section
variable{k:W->WH->Prop}{k':AV->AH->Prop}(r:WR Z S H)(q:∀Z' S' H' d v,ZL Z Z'->WR Z' S' H'->Dp Z' v d->k d H'->k' v S')
include r q
theorem Si(l:DL Z as ys)(h:gZ .len ys k H):bK k' S .len as:=ku l h λv d dp h=>by
 induction d using W.casesOn with
 |ref a=>
  induction h with|mk o e h=>
  induction o with
  |list ds=>exact dp.eR ((r.list e).elim λxs z=>.len z.1 (z.2.l▸h.1) (q _ _ _ _ _ .rf r z.2.li h.2))
  |_=>exact False.elim h
 |af ds=>exact dp.jm λa kk xs e b l2=>.len (r.z _ _ e) b (q _ _ _ _ _ .rf r l2.li h)
 |aj ds=>exact dp.jX λa xs e b l2=>.I4 (r.z _ _ e) b (q _ _ _ _ _ .rf r l2.li h)
 |_=>exact False.elim h
theorem Sj(l:DL Z as ys)(h:gZ .max ys k H):bK k' S .max as:=xB l h (λv d dp h=>by
 induction d using W.casesOn with
 |af xs=>
  obtain ⟨ns,rfl,h1,h2⟩:=h
  exact dp.jm λa kk xs e b l2=>.max (l2.ints▸r.z _ _ e) h1 λM m1 m2=>q _ _ _ _ _ .rf r (.int _) (h2 M m1 m2)
 |_=>exact False.elim h) λv u d e dp de h=>fD (P:=λd=>Dp Z v d->bK k' S .max [v,u]) h (λi h dp=>fD (P:=λe=>Dp Z u e->bK k' S .max [v,u]) h (λj h de=>dp.eI (de.eI (.I5 (q _ _ _ _ _ .rf r (.int _) h)))) de) dp
theorem Sk(l:DL Z as ys)(h:gZ .sum ys k H):bK k' S .sum as:=ku l h λv d dp h=>by
 induction d using W.casesOn with
 |af xs=>
  obtain ⟨ns,rfl,h1⟩:=h
  exact dp.jm λa kk xs e b l2=>.sum (l2.ints▸r.z _ _ e) (q _ _ _ _ _ .rf r (.int _) h1)
 |_=>exact False.elim h
theorem NY(l:DL Z as ys)(h:gZ .sorted ys k H):bK k' S .sorted as:=ku l h λv d dp h=>by
 induction d using W.casesOn with
 |ref a=>
  induction h with|mk o e h=>
  induction o with
  |dI kv=>
   refine dp.eR (.sorted (r.dI e) (rZ kv▸h.1) λns c hp hc=>?_)
   have tu:ns.Perm (kv.map (·.1)):=by unfold im at hp;rw [List.map_map] at hp;exact hp
   have z:=r.gT hc (.list .fz (il ns))
   exact q _ _ _ _ _ z.1 z.2 (.lO (cR ..) (by rw [R9,tu.length_eq,List.length_map];exact Nat.le_trans (Nat.le_of_lt h.1) (by decide)) (.As ns)) (h.2 ns tu)
  |_=>exact False.elim h
 |_=>exact False.elim h
theorem OU(l:DL Z as ys)(h:gZ .mZ ys k H):bK k' S .mZ as:=Ay l h λv u d e dp de h=>by
 induction e using W.casesOn with
 |ty s=>
  have h:=Sg h
  refine de.eT (h.1▸?_)
  have h:=h.2
  induction d using W.casesOn with
  |int i=>exact dp.eI (.tupI (q _ _ _ _ _ .rf r (.dF _) h))
  |aj ds=>exact dp.jX λa xs e Zaa Zaa=>.I6 (r.z _ _ e) (q _ _ _ _ _ .rf r (.dF _) h)
  |_=>exact False.elim h
 |_=>exact False.elim h
theorem Qu(l:DL Z as ys)(h:gZ .dict ys k H):bK k' S .dict as:=ku l h λv d dp h=>by
 induction d using W.casesOn with
 |dS ks vs=>exact dp.CQ λa fz kvs e b hk l2=>.Ic false (r.z _ _ e) b λc hc=>q _ _ _ _ _ .rf (r.kT (o:=.dS _ _) hc ⟨_,rfl,hk,l2⟩) (.ref c) (h c (r.fresh hc).1)
 |dI kv=>exact dp.eDI λa fz e b=>.Ib false (r.z _ _ e) (rZ kv▸b) λc hc=>q _ _ _ _ _ .rf (r.kT (o:=.dI _) hc rfl) (.ref c) (h c (r.fresh hc).1)
 |_=>exact False.elim h
theorem Qv(l:DL Z as ys)(h:gZ .list ys k H):bK k' S .list as:=ku l h λv d dp h=>by
 have y:=Av r dp h
 induction y with| @mk a kk xs ds e l2 h=>
 exact h.2.elim (λg=>.list .fz e (l2.l▸h.1) λc hc=>have z:=r.gT hc (.list .fz xs);q _ _ _ _ _ z.1 z.2 (.lO (cR ..) (l2.l▸h.1) (l2.aY z.1)) g)
  λg=>.list .mu e (l2.l▸h.1) λc hc=>q _ _ _ _ _ .rf (r.kT (o:=.list _) hc ⟨_,rfl,l2⟩) (.ref c) (g c (r.fresh hc).1)
theorem OW(l:DL Z as ys)(h:gZ .tuple ys k H):bK k' S .tuple as:=ku l h λv d dp h=>by
 have y:=Av r dp h
 induction y with| @mk a kk xs ds e l2 h=>
 exact .tuple e (l2.l▸h.1) λc hc=>have z:=r.gT hc (.aj xs);q _ _ _ _ _ z.1 z.2 (.kH (cR ..) (l2.l▸h.1) (l2.aY z.1)) h.2
theorem NZ(l:DL Z as ys)(h:gZ .nZ ys k H):bK k' S .nZ as:=Ay l h λv u d e dp de h=>by
 induction d using W.casesOn with
 |ref a=>
  induction h with|mk o e1 h=>
  induction o with
  |list ds=>exact dp.eR ((r.list e1).elim λxs z=>.append z.1 (z.2.l▸h.1) (q _ _ _ _ _ .rf (r.bL (o':=.list _) e1 ⟨_,rfl,z.2.append (.dO de)⟩) .aZ h.2))
  |_=>exact False.elim h
 |_=>exact False.elim h
theorem Sl(l:DL Z as ys)(h:gZ .kN ys k H):bK k' S .kN as:=xB l h (λv d dp h=>by
 induction d using W.casesOn with
 |ref a=>
  induction h with|mk o e h=>
  induction o with
  |list l=>
   obtain ⟨ds,x,rfl,h1,h⟩:=h
   obtain ⟨xs,e2,l2⟩:=r.list e
   obtain ⟨xs,v,rfl,l3,dv⟩:=l2.init
   exact dp.eR (.lg e2 (l3.l▸h1) (q _ _ _ _ _ .rf (r.bL (o':=.list _) e ⟨_,rfl,l3⟩) dv h))
  |_=>exact False.elim h
 |_=>exact False.elim h) λv u d e dp de h=>by
 induction d using W.casesOn with
 |ref a=>
  refine fD (P:=λe=>Dp Z u e->bK k' S .kN [v,u]) h (λi h de=>?_) de
  have h:=Sh h
  refine dp.eR (de.eI (h.1▸?_))
  cases h.2 with|mk o e h=>
  induction o with
  |list l=>
   induction l with
   |nil=>exact False.elim h
   |cons x ds=>
    obtain ⟨xs,e2,l2⟩:=r.list e
    refine l2.el (P:=λxs=>S a=some (.list .mu xs)->bK k' S .kN [.ref a,.int 0]) (λw t dw l3 e2=>?_) e2
    exact .I7 e2 (l3.l▸h.1) (q _ _ _ _ _ .rf (r.bL (o':=.list _) e ⟨_,rfl,l3⟩) dw h.2)
  |_=>exact False.elim h
 |_=>exact False.elim h
theorem Sm(l:DL Z as ys)(h:gZ .jk ys k H):bK k' S .jk as:=by
 induction l with
 |nil=>exact False.elim h
 | @cons _ d _ _ dp t=>induction d using W.casesOn with
   |ref a=>
    refine dp.eR (xB (P:=λr=>bK k' S .jk (.ref a::r)) t h (λv d dp h=>fD (P:=λd=>Dp Z v d->bK k' S .jk [.ref a,v]) h (λi h dp=>?_) dp) λv u d e dp de h=>fD (P:=λd=>Dp Z v d->bK k' S .jk [.ref a,v,u]) h (λi h dp=>fD (P:=λe=>Dp Z u e->bK k' S .jk [.ref a,v,u]) h (λj h de=>?_) de) dp)
    ·induction h with|mk o e h=>
     induction o with
     |dI kv=>
      refine dp.eI (.aE (.bz (r.dI e) ?_))
      rw [qi]
      induction h with|mk h1 h2=>
      cases z:kv.aE i with
      |none=>exact q _ _ _ _ _ .rf r .aZ (h2 z)
      |some w=>exact q _ _ _ _ _ .rf r (.int w) (h1 w z)
     |_=>exact False.elim h
    ·induction h with|mk o e h=>
     induction o with
     |dI kv=>
      refine dp.eI (de.eI (.I8 (.bz (r.dI e) ?_)))
      rw [qi]
      have h:k (.int ((kv.aE i).getD j)) H:=h
      generalize kv.aE i=g at h
      induction g<;>exact q _ _ _ _ _ .rf r (.int _) h
     |_=>exact False.elim h
   |_=>exact False.elim h
theorem Qw(l:DL Z as ys)(h:gZ .jT ys k H):bK k' S .jT as:=by
 induction l with
 |nil=>exact False.elim h
 | @cons _ d _ _ dp t=>induction d using W.casesOn with
   |ref a=>
    refine dp.eR (xB (P:=λr=>bK k' S .jT (.ref a::r)) t h (λv d dp h=>fD (P:=λd=>Dp Z v d->bK k' S .jT [.ref a,v]) h (λi h dp=>?_) dp) λv u d e dp de h=>fD (P:=λd=>Dp Z v d->bK k' S .jT [.ref a,v,u]) h (λi h dp=>?_) dp)
    ·induction h with|mk o e h=>
     induction o with
     |dI kv=>
      cases h.2 with|mk w g h2=>
      exact dp.eI (.uK (r.dI e) (rZ kv▸h.1) ((qi kv i).trans (congrArg (Option.map AV.int) g)) (q _ _ _ _ _ .rf (r.bL (o':=.dI _) e (Ga kv i▸rfl)) (.int w) h2))
     |_=>exact False.elim h
    ·induction e using W.casesOn with
     |aZ=>
      induction h with|mk o e h=>
      induction o with
      |dI kv=>
       refine dp.eI (de.eN (.Ie (r.dI e) (rZ kv▸h.1) (q _ _ _ _ _ .rf (r.bL (o':=.dI _) e (Ga kv i▸rfl)) ?_ h.2)))
       rw [qi]
       cases kv.aE i with
       |none=>exact .aZ
       |some w=>exact .int w
      |_=>exact False.elim h
     |_=>exact False.elim h
   |_=>exact False.elim h
theorem OX(l:DL Z as ys)(h:gZ .kE ys k H):bK k' S .kE as:=Ay l h λv u d e dp de h=>
 ow (P:=λd=>Dp Z v d->bK k' S .kE [v,u]) h (λs h dp=>ow (P:=λe=>Dp Z u e->bK k' S .kE [v,u]) h (λt h de=>dp.eS (de.eS (.split h.1 h.2.1 λkk c hc=>by
  have z:=r.gT hc (.list kk ((Txt.split ⟨s.toArray⟩ ⟨t.toArray⟩).map λx=>.str x.cps.toList))
  exact q _ _ _ _ _ z.1 z.2 (.lO (cR ..) (by rw [List.length_map];exact (List.length_map (as:=Txt.split ⟨s.toArray⟩ ⟨t.toArray⟩) (λx=>W.str x.cps.toList))▸h.2.2.1) (.B5 (f:=λx:Str=>W.str x.cps.toList) (g:=λx=>.str x.cps.toList) (λZaa=>.str _) _)) h.2.2.2))) de) dp
theorem Sn{b:BI}(l:DL Z as ys)(h:gZ b ys k H):bK k' S b as:=by
 induction b with
 |len=>exact Si r q l h
 |max=>exact Sj r q l h
 |sum=>exact Sk r q l h
 |sorted=>exact NY r q l h
 |mZ=>exact OU r q l h
 |range=>exact ku l h λv d dp h=>fD (P:=λd=>Dp Z v d->bK k' S .range [v]) h (λi h dp=>dp.eI (.range λc hc=>have z:=r.gT hc (.bU 0 i);q _ _ _ _ _ z.1 z.2 (.bU (cR ..)) h)) dp
 |dict=>exact Qu r q l h
 |list=>exact Qv r q l h
 |tuple=>exact OW r q l h
 |int=>
  refine ku l h λv d dp h=>?_
  induction d using W.casesOn with
  |dF b=>exact dp.eB (by induction b<;>exact .int (q _ _ _ _ _ .rf r (.int _) h))
  |_=>exact False.elim h
 |str=>exact ku l h λv d dp h=>fD (P:=λd=>Dp Z v d->bK k' S .str [v]) h (λi h dp=>dp.eI (.str h.1 (q _ _ _ _ _ .rf r (.str _) h.2))) dp
 |nZ=>exact NZ r q l h
 |kN=>exact Sl r q l h
 |jk=>exact Sm r q l h
 |jT=>exact Qw r q l h
 |rV=>
  refine ku l h λv d dp h=>?_
  induction d using W.casesOn with
  |ref a=>
   induction h with|mk o e h=>
   induction o with
   |dI kv=>exact dp.eR (.items (r.dI e) λc hc=>have z:=r.gT hc (.items _);q _ _ _ _ _ z.1 z.2 (.lA (cR ..)) h)
   |_=>exact False.elim h
  |_=>exact False.elim h
 |kE=>exact OX r q l h
end
section
variable{nm:List Nat}{k:CV->List W->Prop}{k':CV->List AV->Prop}
theorem OY{a C:Nat}{fz:Bool}{kvs:List (List Nat×AV)}{ks:List (List Nat)}(e:S a=some (.inst fz C kvs))(hk:kvs.map (·.1)=ks)(l:DL Z (kvs.map (·.2)) ds)(h:BB (.ref a) C ks ds nm k)(q:∀f ys as,DL Z as ys->k f ys->k' f as):iY cy nm k' S (.ref a):=by
 have g:=xe (s:=nm) l
 unfold BB at h
 rw [hk] at g
 generalize e1:fM kvs nm=o1 at g
 generalize iD ks ds nm=o2 at h g
 induction g with
 |none=>exact (ou h).elim λf h=>.aQ e e1 (Ad h.1) (q _ _ _ (.dO (.ref a)) h.2)
 | @some v d dv=>
   induction d using W.casesOn with
   |ref f=>
    have h1:=iA h
    have h2:=iA h1.2
    exact .own e (dv.A5▸e1) (rP h1.1) (Nat.eq_of_beq_eq_true h2.1▸.head _) (q _ _ _ .nil h2.2)
   |_=>exact False.elim h
theorem N3{a:Nat}{C:Cl}{fz:Bool}{kvs:List (List Nat×AV)}{ks:List (List Nat)}(e:S a=some (.inst fz C.num kvs))(hk:kvs.map (·.1)=ks)(l:DL Z (kvs.map (·.2)) ds)(dy:Dp Z (.ref a) y)(h:A1 y C ks ds nm k)(q:∀f ys as,DL Z as ys->k f ys->k' f as):iY cy nm k' S (.ref a):=by
 have g:=xe (s:=nm) l
 unfold A1 at h
 rw [hk] at g
 generalize e1:fM kvs nm=o1 at g
 generalize iD ks ds nm=o2 at h g
 induction g with
 |none=>exact (ou h).elim λf h=>.aQ e e1 (Sd h.1) (q _ _ _ (.dO dy) h.2)
 |some _=>exact False.elim h
theorem BF{c:Bool}{p a b:Prop}(h:iB c a b)(q1:c=true->a->p)(q2:b->p):p:=by induction c with
 |true=>exact q1 rfl h
 |false=>exact q2 h
theorem OZ(r:WR Z S H)(dy:Dp Z v y)(h:IB y nm k H)(q:∀f ys as,DL Z as ys->k f ys->k' f as):iY cy nm k' S v:=by
 induction y using W.casesOn with
 |str s=>have h:=iA h;exact dy.eS (.split (jK h.1) (q _ _ _ (.dO (.str _)) h.2))
 |ref a=>
  induction h with|mk o e h=>
  induction o with
  |list ds=>exact dy.eR ((r.list e).elim λxs z=>BF h (λc h=>.append z.1 (jK c) (q _ _ _ (.dO (.ref _)) h)) λh=>have h:=iA h;.lg z.1 (jK h.1) (q _ _ _ (.dO (.ref _)) h.2))
  |dI kv=>exact dy.eR (BF h (λc h=>.aE (r.dI e) (jK c) (q _ _ _ (.dO (.ref _)) h)) λh=>BF h (λc h=>.items (r.dI e) (jK c) (q _ _ _ (.dO (.ref _)) h)) λh=>have h:=iA h;.uK (r.dI e) (jK h.1) (q _ _ _ (.dO (.ref _)) h.2))
  |inst C ks vs=>exact dy.eR ((r.inst e).elim λkvs z=>OY z.1 z.2.1 z.2.2 h q)
  |_=>exact False.elim h
 |ins C ks vs=>exact (dy.B6 (P:=λv=>Dp Z v (.ins C ks vs)->iY cy nm k' S v) λa fz kvs e hk l dy=>N3 (r.z _ _ e) hk l dy h q) dy
 |_=>exact False.elim h
end
end
noncomputable abbrev PP{α β:Type}(Z:AH)(R:AH->β->α->Prop)(Q:α->WM->WH->Prop)(Q':β->MM->AH->Prop):Prop:=∀{Z':AH} {a:α} {m:WM} {H:WH} {b:β} {M:MM} {S:AH},ZL Z Z'->WR Z' S H->DM Z' M m->R Z' b a->Q a m H->Q' b M S
noncomputable abbrev PE(Z:AH)(E:Nat->WH->Prop)(E':Nat->AH->Prop):Prop:=∀{Z':AH} {C:Nat} {H:WH} {S:AH},ZL Z Z'->WR Z' S H->E C H->E' C S
noncomputable abbrev PS(Z:AH)(Q:WM->WH->Prop)(Q':MM->AH->Prop):Prop:=∀{Z':AH} {m:WM} {H:WH} {M:MM} {S:AH},ZL Z Z'->WR Z' S H->DM Z' M m->Q m H->Q' M S
noncomputable abbrev RB:AH->Bool->Bool->Prop:=λZaa a b=>a=b
inductive lC(Z:AH):AF->WF->Prop
 |next:lC Z .next .next
 |brk:lC Z .brk .brk
 |ret {v:AV} {d:W} (h:Dp Z v d):lC Z (.ret v) (.ret d)
section
variable{Z Z' S S':AH}{H H':WH}{M:MM}{m:WM}{v:AV}{d:W}{xs:List AV}{ds:List W}{E:Nat->WH->Prop}{E':Nat->AH->Prop}
theorem PE.up(e:PE Z E E')(z:ZL Z Z'):PE Z' E E':=λz' r h=>e (z.tr z') r h
theorem DM.aY(h:DM Z M m)(z:ZL Z Z'):DM Z' M m:=by
 induction h with
 |nil=>exact .nil
 |no _ ih=>exact .no ih
 |so h _ ih=>exact .so (h.aY z) ih
theorem DM.h(h:DM Z M m):∀(i:Nat) {d:W},jV m i=some d->∃v,M[i]?=some (some v)/\Dp Z v d:=by
 induction h with
 |nil=>exact λZaa Zaa=>nofun
 |no _ ih=>exact λi Zaa e=>match i with
  |0=>nz rfl e
  |i+1=>ih i e
 |so h _ ih=>exact λi Zaa e=>match i with
  |0=>⟨_,rfl,Option.some.inj e▸h⟩
  |i+1=>ih i e
theorem DM.set(h:DM Z M m)(hv:Dp Z v d):∀(i:Nat),DM Z (M.set i (some v)) (yk m i d):=by
 induction h with
 |nil=>exact λZaa=>.nil
 |no t ih=>exact λi=>match i with
  |0=>.so hv t
  |i+1=>.no (ih i)
 |so h t ih=>exact λi=>match i with
  |0=>.so hv t
  |i+1=>.so h (ih i)
inductive GM(Z:AH)(M:MM)(is:List Nat)(vs:List W):Prop
 |mk (as:List AV) (e:is.map (λi=>M[i]?.join)=as.map some) (l:DL Z as vs)
theorem DM.YK(h:DM Z M m){is:List Nat}:∀{vs:List W},ji m is=some vs->GM Z M is vs:=by
 induction is with
 |nil=>exact λe=>⟨[],rfl,Option.some.inj e▸.nil⟩
 |cons i is ih=>
  intro vs e
  have e:(match jV m i with|none=>none|some v=>(match ji m is with|none=>none|some vs=>some (v::vs)))=some vs:=e
  generalize q:jV m i=o at e
  induction o with
  |none=>exact nz rfl e
  |some d=>
   generalize q2:ji m is=o at e
   induction o with
   |none=>exact nz rfl e
   |some ds=>exact (h.h i q).elim λv k=>match ih q2 with|.mk as e3 e4=>Option.some.inj e▸⟨v::as,by rw [List.map_cons,List.map_cons,e3,k.1];rfl,.cons k.2 e4⟩
theorem DM.vals{as:List AV}{ds:List W}(h:DL Z as ds){M:MM}{m:WM}(t:DM Z M m):DM Z (as.map some++M) (ds.map some++m):=by
 induction h with
 |nil=>exact t
 |cons h _ ih=>exact .so h ih
theorem DM.Ly{M:MM}{m:WM}(t:DM Z M m)(n:Nat):DM Z (List.replicate n none++M) (List.replicate n none++m):=by
 induction n with
 |zero=>exact t
 |succ n ih=>rw [List.replicate_succ,List.replicate_succ];exact .no ih
theorem DM.of{as:List AV}{ds:List W}(h:DL Z as ds)(n:Nat):DM Z (List.replicate n none++as.map some) (List.replicate n none++ds.map some):=DM.Ly (by have x:=DM.vals h .nil;rwa [List.append_nil,List.append_nil] at x) n
theorem DM.args{as:List AV}{ds:List W}(h:DL Z as ds)(n:Nat):DM Z (as.map some++List.replicate n none) (ds.map some++List.replicate n none):=DM.vals h (by have x:=DM.Ly (Z:=Z) .nil n;rwa [List.append_nil,List.append_nil] at x)
theorem DM.sw{is:List Nat}:∀{ys:List W} {as:List AV} {m:WM} {M:MM},DM Z M m->DL Z as ys->ys.length=is.length->DM Z ((is.reverse.zip as.reverse).foldl (λm p=>m.set p.1 (some p.2)) M) (CP is ys m):=by
 induction is with
 |nil=>exact λh Zaa Zaa=>h
 |cons i is ih=>
  intro ys as m M h l e
  induction l with
  |nil=>exact absurd e nofun
  |cons h1 h2=>
   have e':=Nat.succ.inj e
   rw [List.reverse_cons,List.reverse_cons,List.zip_append (by rw [List.length_reverse,List.length_reverse,h2.l,e']),List.foldl_append]
   exact (ih h h2 e').set h1 i
inductive nh(Z:AH):eK->WS->Prop
 |list {a:Nat} {k:LK} {xs:List AV} {ds:List W} (e:Z a=some (.list k xs)) (l:DL Z xs ds):nh Z (.list a) (.l ds)
 |aj {a:Nat} {xs:List AV} {ds:List W} (e:Z a=some (.aj xs)) (l:DL Z xs ds):nh Z (.aj a) (.l ds)
 |bU {hi:Int}:nh Z (.bU 0 hi) (.r hi.toNat)
theorem nh.aY{s:eK}{w:WS}(z:ZL Z Z')(h:nh Z s w):nh Z' s w:=by
 induction h with
 |list e l=>exact .list (z _ _ e) (l.aY z)
 |aj e l=>exact .aj (z _ _ e) (l.aY z)
 |bU=>exact .bU
theorem xg{y:W}{k:WS->Prop}{k':eK->Prop}(r:WR Z S H)(dy:Dp Z v y)(h:yp y k)(q:∀s w,nh Z s w->k w->k' s):nA k' S v:=by
 induction y using W.casesOn with
 |bU hi=>exact dy.YG λa e=>.bU (r.z _ _ e) h.1 (q _ _ .bU h.2)
 |af ds=>exact dy.jm λa kk xs e b l=>.list (r.z _ _ e) (q _ _ (.list e l) h)
 |aj ds=>exact dy.jX λa xs e b l=>.aj (r.z _ _ e) (q _ _ (.aj e l) h)
 |_=>exact False.elim h
theorem WS.HG{w:WS}{k:Nat}(h:w.at k=none)(b:k<=w.len):k=w.len:=by
 induction w with
 |l ds=>exact Nat.le_antisymm b (List.getElem?_eq_none_iff.mp h)
 |r n=>exact Nat.le_antisymm b (Nat.not_lt.mp λq=>nz h (if_pos q))
theorem DL.ax(h:DL Z xs ds):∀{i:Nat} {x:AV},xs[i]?=some x->∃d,ds[i]?=some d/\Dp Z x d:=by
 induction h with
 |nil=>exact nofun
 |cons h _ ih=>exact λ{i} _ e=>match i with
  |0=>⟨_,rfl,Option.some.inj e▸h⟩
  |i+1=>ih (i:=i) e
theorem DL.an(h:DL Z xs ds){i:Nat}(e:xs[i]?=none):ds[i]?=none:=List.getElem?_eq_none_iff.mpr (h.l▸List.getElem?_eq_none_iff.mp e)
theorem Gz{s:eK}{w:WS}{k:Nat}{K:AV->AH->Prop}{Ke:Prop}(r:WR Z S H)(hs:nh Z s w)(h1:∀d v,w.at k=some d->Dp Z v d->k<w.len->K v S)(h2:w.at k=none->Ke):kJ S s k K Ke:=by
 induction hs with
 |list e l=>exact .mk (r.z _ _ e) (λx hx=>(l.ax hx).elim λd z=>h1 d x z.1 z.2 (List.getElem?_eq_some_iff.mp z.1).1) λhx=>h2 (l.an hx)
 |aj e l=>exact .mk (r.z _ _ e) (λx hx=>(l.ax hx).elim λd z=>h1 d x z.1 z.2 (List.getElem?_eq_some_iff.mp z.1).1) λhx=>h2 (l.an hx)
 | @bU hi=>
   refine ⟨λq=>?_,λq=>?_⟩
   ·have q2:k<hi.toNat:=by lia
    rw [Int.zero_add]
    exact h1 (.int k) _ (if_pos q2) (.int _) q2
   ·exact h2 (if_neg (by lia))
inductive SW(Z S:AH)(k:List W->Prop)(v:AV):Prop
 |mk (ys:List AV) (ds:List W) (e:uw S ys v) (l:DL Z ys ds) (h:k ds)
theorem Qx{y:W}{k:List W->Prop}(r:WR Z S H)(dy:Dp Z v y)(h:Jt y k H):SW Z S k v:=by
 induction y using W.casesOn with
 |ref a=>
  induction h with|mk o e h=>
  induction o with
  |dJ ds=>exact dy.eR ((r.dJ e).elim λxs z=>⟨xs,_,.list z.1,z.2,h⟩)
  |_=>exact False.elim h
 |af ds=>exact dy.jm λa kk xs e b l=>⟨xs,_,.list (r.z _ _ e),l,h⟩
 |aj ds=>exact dy.jX λa xs e b l=>⟨xs,_,.aj (r.z _ _ e),l,h⟩
 |_=>exact False.elim h
end
section
variable{Z Z' S S':AH}{H H':WH}{M:MM}{m:WM}{v:AV}{d:W}{G:Gx}{n:Nat}{E:Nat->WH->Prop}{E':Nat->AH->Prop}
theorem jL.aY{k k':Bool->Prop}{H:AH}{a:AV}(h:jL k H a)(q:∀c,k c->k' c):jL k' H a:=by
 induction h with
 |bool h=>exact .bool (q _ h)
 |int h=>exact .int (q _ h)
 |str l h=>exact .str l (q _ h)
 |none h=>exact .none (q _ h)
 |list e l h=>exact .list e l (q _ h)
theorem GB{c a:Nat}{o:WO}{P:Prop}(e:H.aV c a=some o)(k:a≠c->H a=some o->P):P:=by
 by_cases q:a=c
 ·exact nz (if_pos q) e
 ·exact k q ((if_neg q).symm.trans e)
theorem WR.uf(r:WR Z S H){c:Nat}{so:AO}(hs:S c=some so)(hz:Z c=none):ZL Z (Z.ai c so)/\WR (Z.ai c so) S (H.aV c):=
 have z:=HA hz so;⟨z,λa p e=>fT (P:=λa p=>S a=some p) e hs λZaa e=>r.z a p e,λa d e=>(r.g a d e).aY z,λa p e=>GB e λq e=>have k:=r.h a p e;⟨(dj _ _ _ q).trans k.1,k.2.imp λso k=>⟨k.1,k.2.aY z⟩⟩⟩
theorem N4{c:Nat}{o:WO}(e:H c=some o):H.ai c o=H:=by
 funext b
 by_cases q:b=c
 ·subst q;exact (aN ..).trans e.symm
 ·exact aL _ _ _ q
theorem WR.fix(r:WR Z S H){c:Nat}{so:AO}{o:WO}(e:H c=some o)(ho:OR Z so o):WR Z (S.ai c so) H:=by
 have h:=r.bL e ho
 rwa [N4 e] at h
theorem WR.aV(r:WR Z S H){c:Nat}{o:WO}(e:H c=some o):WR Z (S.aV c) (H.aV c):=
 have hz:=(r.h c o e).1;⟨λa p e=>(if_neg λq=>nz ((congrArg Z q).trans hz) e).trans (r.z a p e),r.g,λa p e=>GB e λq e=>have k:=r.h a p e;⟨k.1,k.2.imp λso k=>⟨(if_neg q).trans k.1,k.2⟩⟩⟩
theorem Fy{f:CV}{ys:List W}{as:List AV}{Q:W->WM->WH->Prop}{Q':AV->MM->AH->Prop}(r:WR Z S H)(dm:DM Z M m)(l:DL Z as ys)(h:BE G n f Q E ys m H)(q:PP Z Dp Q Q')(e:PE Z E E'):uv G n f as Q' E' M S:=by
 have er:∀{C S'},LE Z E C S'->E' C S':=λx=>by induction x with|mk Z' H' z r' he=>exact e z r' he
 induction f with
 |fn f=>
  induction h with|mk h=>
  exact (h Z S as r l).aY (Nat.le_refl _) (λv S' x=>by induction x with|mk Z' H' d z r' dp hq=>exact q z r' (dm.aY z) dp hq) λC S'=>er
 |cls C f=>
  induction n with
  |zero=>exact False.elim h
  |succ k=>
   intro x hx
   cases h x (r.fresh hx).1 with|mk h=>
   refine (h Z _ (.ref x::as) (r.kT (o:=.inst C [] []) hx ⟨[],rfl,rfl,.nil⟩) (.cons (.ref x) l)).aY (Nat.le_refl _) (λv S' y=>?_) λC S'=>er
   induction y with|mk Z' H' d z r' dp hq=>
   refine ⟨(hq.1▸dp:Dp Z' v .aZ).Hz,?_⟩
   cases hq.2 with
   |keep hq=>exact q z r' (dm.aY z) (.ref x) hq
   |ins C ks vs e1 hq=>exact (r'.inst e1).elim λkvs y=>have f:=r'.uf y.1 (r'.h _ _ e1).1;q (z.tr f.1) f.2 (dm.aY (z.tr f.1)) (.xA (C:=C) (cR ..) y.2.1 (y.2.2.aY f.1)) hq
 |bi b=>exact Sn r (λZ' S' H' d v z r' dp hk=>q z r' (dm.aY z) dp hk) l (show gZ b ys (λv H'=>Q v m H') H from h)
inductive JJ(Z:AH)(J:WM->WH->Prop)(M:MM)(S:AH):Prop
 |mk {Z':AH} {m:WM} {H:WH} (z:ZL Z Z') (r:WR Z' S H) (l:DM Z' M m) (j:J m H)
theorem ID{s:eK}{w:WS}{az:W->(WM->WH->Prop)->WM->WH->Prop}{lQ:(Bool->WM->WH->Prop)->WM->WH->Prop}{sA:(WM->WH->Prop)->WM->WH->Prop}{Q:WM->WH->Prop}
 {uQ:AV->(MM->AH->Prop)->MM->AH->Prop}{HH:(Bool->MM->AH->Prop)->MM->AH->Prop}{HJ:(MM->AH->Prop)->MM->AH->Prop}{Q':MM->AH->Prop}
 (r:WR Z S H)(dm:DM Z M m)(hs:nh Z s w)(h:WL w az lQ sA Q m H)
 (ha:∀{Z' m H M S d v K K'},ZL Z Z'->WR Z' S H->DM Z' M m->Dp Z' v d->az d K m H->PS Z' K K'->uQ v K' M S)
 (ht:∀{Z' m H M S K K'},ZL Z Z'->WR Z' S H->DM Z' M m->lQ K m H->PP Z' RB K K'->HH K' M S)
 (hi:∀{Z' m H M S K K'},ZL Z Z'->WR Z' S H->DM Z' M m->sA K m H->PS Z' K K'->HJ K' M S)
 (hq:PS Z Q Q'):xN s uQ HH HJ Q' M S:=by
 induction h with|mk J h0 h1 h2=>
 refine ⟨w.len,λk M S=>JJ Z (J k) M S,⟨.rf,r,dm,h0⟩,λk M S nP j=>?_⟩
 induction j with| @mk Z' m H z r dm j=>
 refine Gz r (hs.aY z) (λd v e dp hk=>⟨hk,ha z r dm dp (h1 k d m H e j) λz2 r2 tw ht'=>ht (z.tr z2) r2 tw ht' λ{Z3 c m H c' M S} z3 r3 nQ hc hk=>?_⟩) λe=>hq z r dm (h2 m H (WS.HG e nP▸j))
 subst hc
 have again:PS Z3 (J (k+1)) λM S=>JJ Z (J (k+1)) M S:=λz4 r4 q8 hj=>⟨((z.tr z2).tr z3).tr z4,r4,q8,hj⟩
 induction c' with
 |true=>exact hi ((z.tr z2).tr z3) r3 nQ hk again
 |false=>exact again .rf r3 nQ hk
structure DN(k:Nat)(Z:AH)(xs:List AV)(ds:List W):Prop where
 d:DL Z xs ds
 n:xs.length=k
structure KVs(ks:List Int)(xs:List AV)(kv:KV):Prop where
 e:ks.zip xs=im kv
 l:kv.length<=xs.length
theorem Qy{ks:List Int}:∀{xs:List AV} {ds:List W} {kv:KV},DL Z xs ds->sM ks ds=some kv->KVs ks xs kv:=by
 induction ks with
 |nil=>exact λl h=>Option.some.inj h▸⟨rfl,Nat.zero_le _⟩
 |cons k ks ih=>
  intro xs ds kv l h
  induction l with
  |nil=>exact Option.some.inj h▸⟨rfl,Nat.zero_le _⟩
  | @cons v d xs ds h1 h2=>
    induction d using W.casesOn with
    |int i=>
     have h:(match sM ks ds with|some r=>some ((k,i)::r)|none=>none)=some kv:=h
     generalize q:sM ks ds=o at h
     induction o with
     |none=>exact nz rfl h
     |some r=>exact Option.some.inj h▸h1.eI (have t:=ih h2 q;⟨congrArg (_::·) t.e,Nat.succ_le_succ t.l⟩)
    |_=>exact nz (o:=sM (k::ks) (_::ds)) rfl h
noncomputable def bQ(G:Gx)(x:X):Prop:=∀{n:Nat} {Q:W->WM->WH->Prop} {E:Nat->WH->Prop} {m:WM} {H:WH} {Z:AH} {M:MM} {S:AH} {Q':AV->MM->AH->Prop} {E':Nat->AH->Prop},wX G n x Q E m H->WR Z S H->DM Z M m->PP Z Dp Q Q'->PE Z E E'->vX G cy n x Q' E' M S
noncomputable def lY(G:Gx)(xs:List X):Prop:=∀{n:Nat} {Q:List W->WM->WH->Prop} {E:Nat->WH->Prop} {m:WM} {H:WH} {Z:AH} {M:MM} {S:AH} {Q':List AV->MM->AH->Prop} {E':Nat->AH->Prop},kc G n xs Q E m H->WR Z S H->DM Z M m->PP Z (DN xs.length) Q Q'->PE Z E E'->gU G cy n xs Q' E' M S
noncomputable def jA(G:Gx)(t:T):Prop:=∀{n:Nat} {Q:Bool->WM->WH->Prop} {E:Nat->WH->Prop} {m:WM} {H:WH} {Z:AH} {M:MM} {S:AH} {Q':Bool->MM->AH->Prop} {E':Nat->AH->Prop},wT G n t Q E m H->WR Z S H->DM Z M m->PP Z RB Q Q'->PE Z E E'->vT G cy n t Q' E' M S
noncomputable def sP(G:Gx)(ts:List T):Prop:=∀{n:Nat} {Q:Bool->WM->WH->Prop} {E:Nat->WH->Prop} {m:WM} {H:WH} {Z:AH} {M:MM} {S:AH} {Q':Bool->MM->AH->Prop} {E':Nat->AH->Prop},je G n ts Q E m H->WR Z S H->DM Z M m->PP Z RB Q Q'->PE Z E E'->pF G cy n ts Q' E' M S
noncomputable def pS(G:Gx)(t:TG):Prop:=∀{n:Nat} {y:W} {v:AV} {Q:WM->WH->Prop} {E:Nat->WH->Prop} {m:WM} {H:WH} {Z:AH} {M:MM} {S:AH} {Q':MM->AH->Prop} {E':Nat->AH->Prop},gH G n t y Q E m H->WR Z S H->DM Z M m->Dp Z v y->PS Z Q Q'->PE Z E E'->jb G cy n t v Q' E' M S
noncomputable def uR(G:Gx)(ts:List TG):Prop:=∀{n:Nat} {ys:List W} {vs:List AV} {Q:WM->WH->Prop} {E:Nat->WH->Prop} {m:WM} {H:WH} {Z:AH} {M:MM} {S:AH} {Q':MM->AH->Prop} {E':Nat->AH->Prop},B3 G n ts ys Q E m H->WR Z S H->DM Z M m->DL Z vs ys->PS Z Q Q'->PE Z E E'->uL G cy n ts vs Q' E' M S
noncomputable def vH(G:Gx)(g:GS):Prop:=∀{n:Nat} {D:Nat} {Q:WM->WH->Prop} {E:Nat->WH->Prop} {m:WM} {H:WH} {Z:AH} {M:MM} {S:AH} {Q':MM->AH->Prop} {E':Nat->AH->Prop},nO G n g D Q E m H->WR Z S H->DM Z M m->PS Z Q Q'->PE Z E E'->sZ G cy n g D Q' E' M S
theorem PP.up{α β:Type}{R:AH->β->α->Prop}{Q:α->WM->WH->Prop}{Q':β->MM->AH->Prop}(q:PP Z R Q Q')(z:ZL Z Z'):PP Z' R Q Q':=λz2 r l d h=>q (z.tr z2) r l d h
theorem PS.up{Q:WM->WH->Prop}{Q':MM->AH->Prop}(q:PS Z Q Q')(z:ZL Z Z'):PS Z' Q Q':=λz2 r l h=>q (z.tr z2) r l h
section
variable{a b o:X}{xs:List X}{t u:T}{ts:List T}{x:TG}{yX:List TG}{g:GS}{op:Operator}{cp:CmpOp}
theorem k_c{v:AV}:bQ G (.c v):=λ{n Q E m H Z M S Q' E'} h r l q e=>by
 induction v with
 |none=>exact q .rf r l .aZ h
 |bool b=>exact q .rf r l (.dF _) h
 |int i=>exact q .rf r l (.int _) h
 |str s=>exact q .rf r l (.str _) h
 |ref a=>
  have h:(match gW a with|some d=>kQ Q m H d|none=>kQ Q m H (.ref a)):=h
  generalize z:gW a=o at h
  induction o with
  |some d=>exact q .rf r l (r.g a d z) h
  |none=>exact q .rf r l (.ref a) h
 |ty s=>exact q .rf r l (.ty _) h
 |_=>exact False.elim h
theorem UL{i:Nat}:bQ G (.aa i):=λh r l q e=>(ou h).elim λd h=>(l.h i h.1).elim λv z=>⟨v,z.1,q .rf r l z.2 h.2⟩
theorem oz(ha:bQ G a)(hb:bQ G b){n:Nat}{K:W->W->WM->WH->Prop}{K':AV->AV->MM->AH->Prop}{E:Nat->WH->Prop}{E':Nat->AH->Prop}{m:WM}{H:WH}{Z:AH}{M:MM}{S:AH}(h:wX G n a (k2 (wX G n b) K E) E m H)(r:WR Z S H)(l:DM Z M m)(e:PE Z E E')
 (q:∀{Z':AH} {x y:W} {m:WM} {H:WH} {v u:AV} {M:MM} {S:AH},ZL Z Z'->WR Z' S H->DM Z' M m->Dp Z' v x->Dp Z' u y->K x y m H->K' v u M S):vX G cy n a (λv m H=>vX G cy n b (λu m H=>K' v u m H) E' m H) E' M S:=
 ha h r l (λz r l d h=>hb h r l (λz2 r2 l2 d2 h=>q (z.tr z2) r2 l2 (d.aY z2) d2 h) (e.up z)) e
theorem UM(ha:bQ G a)(hb:bQ G b):bQ G (.aA op a b):=λ{n Q E m H Z M S Q' E'} h r l q e=>oz (K':=λv u m H=>nu op (λw H'=>Q' w m H') H v u) ha hb h r l e λz r l d d2 h=>Qp r d d2 h λZ' S' d v z3 r3 dp hq=>q (z.tr z3) r3 (l.aY z3) dp hq
theorem UN(ha:bQ G a):bQ G (.neg a):=λ{n Q E m H Z M S Q' E'} h r l q e=>ha h r l (λ{Z1 x m H v M S} z r l d h=>fD (P:=λx=>Dp Z1 v x->BR (λv=>Q' v M S) v) h (λi h d=>d.eI (.mk (q z r l (.int _) h))) d) e
theorem UO(ha:bQ G a)(hb:bQ G b):bQ G (.cmp cp a b):=λ{n Q E m H Z M S Q' E'} h r l q e=>oz (K':=λv u m H=>dZ (λc=>Q' (.bool c) m H) H cp v u) ha hb h r l e λz r l d d2 h=>(Aw r d d2 h).aY λc hq=>q z r l (.dF c) hq
theorem sE{c:Bool}{A B:WM->WH->Prop}{A' B':Prop}{m:WM}{H:WH}(h:iB c (A m H) (B m H))(ha:A m H->A')(hb:B m H->B'):if c=true then A' else B':=by induction c with
 |true=>exact ha h
 |false=>exact hb h
theorem UP(ht:jA G t)(ha:bQ G a)(hb:bQ G b):bQ G (.aC t a b):=λh r l q e=>ht h r l (λz r l hc h=>hc▸sE (A:=wX G _ a _ _) (B:=wX G _ b _ _) h (λh=>ha h r l (q.up z) (e.up z)) λh=>hb h r l (q.up z) (e.up z)) e
theorem UQ(ha:bQ G a)(hb:bQ G b):bQ G (.qU a b):=λ{n Q E m H Z M S Q' E'} h r l q e=>ha h r l (λ{Z1 x m H v M S} z r l d h=>(HD r d h).aY λc h=>sE (A:=λm H=>Q x m H) (B:=wX G _ b _ _) h (λh=>q z r l d h) λh=>hb h r l (q.up z) (e.up z)) e
theorem So(ha:bQ G a)(hb:bQ G b):bQ G (.item a b):=λ{n Q E m H Z M S Q' E'} h r l q e=>oz (K':=λv u m H=>gQ (λw=>Q' w m H) H v u) ha hb h r l e λz r l d d2 h=>OP r d d2 h λd v dp hq=>q z r l dp hq
theorem YL(ha:bQ G a)(hb:bQ G b):bQ G (.sl a b):=λ{n Q E m H Z M S Q' E'} h r l q e=>oz (K':=λv u m H=>qQ (λw H'=>Q' w m H') H v u) ha hb h r l e λz r l d d2 h=>Sf r d d2 h λZ' S' d v z3 r3 dp hq=>q (z.tr z3) r3 (l.aY z3) dp hq
theorem UR(ha:bQ G a)(hb:bQ G b):bQ G (.qV a b):=λ{n Q E m H Z M S Q' E'} h r l q e=>oz (K':=λv u m H=>oF (λw=>Q' w m H) v u) ha hb h r l e λz r l d d2 h=>Qt d d2 h λd v dp hq=>q z r l dp hq
theorem Sp{nm:List Nat}(ha:bQ G a):bQ G (.attr a nm):=λh r l q e=>ha h r l (λz r l d h=>OQ r d h λd v dp hq=>q z r l dp hq) e
theorem q9{k n:Nat}(h:n=k)(b:Nat.ble k 1000=true):n<=1000000:=h▸Nat.le_trans (Nat.le_of_ble_eq_true b) (by decide)
theorem US(hx:lY G xs):bQ G (.af xs):=λ{n Q E m H Z M S Q' E'} h r l q e=>by
 induction xs with
 |nil=>
  rcases h with h|h
  ·exact ⟨.fz,Nat.zero_le _,λc hc=>have z:=r.gT hc (.list .fz []);q z.1 z.2 (l.aY z.1) (.lO (cR ..) (Nat.zero_le _) .nil) h⟩
  ·exact ⟨.mu,Nat.zero_le _,λc hc=>q .rf (r.kT (o:=.list []) hc ⟨[],rfl,.nil⟩) l (.ref c) (h c (r.fresh hc).1)⟩
 |cons x xs=>
  have h:=iA (p:=kc G n (x::xs) (Jv (A3 (x::xs)) Q) E m H) h
  have b:=h.1
  have h:=h.2
  generalize A3 (x::xs)=c at h
  induction c with
  |true=>exact ⟨.dJ,hx h r l (λz r l d h=>⟨q9 d.n b,λc hc=>q z (r.kT (o:=.dJ _) hc ⟨_,rfl,d.d⟩) l (.ref c) (h c (r.fresh hc).1)⟩) e⟩
  |false=>exact ⟨.fz,hx h r l (λz r l d h=>⟨q9 d.n b,λc hc=>have f:=r.gT hc (.list .fz _);q (z.tr f.1) f.2 (l.aY f.1) (.lO (cR ..) (q9 d.n b) (d.d.aY f.1)) h⟩) e⟩
theorem UT(hx:lY G xs):bQ G (.aj xs):=λ{n Q E m H Z M S Q' E'} h r l q e=>
 have h:=iA (p:=kc G n xs (Jw Q) E m H) h;hx h.2 r l (λz r l d g=>⟨q9 d.n h.1,λc hc=>have f:=r.gT hc (.aj _);q (z.tr f.1) f.2 (l.aY f.1) (.kH (cR ..) (q9 d.n h.1) (d.d.aY f.1)) g⟩) e
theorem YM{ks:List (List Nat)}(hx:lY G xs):bQ G (.dS ks xs):=λ{n Q E m H Z M S Q' E'} h r l q e=>by
 have h:=iA (p:=kc G n xs (Ls ks Q) E m H) h
 have h0:=ba h.1
 have hk:=Nat.eq_of_beq_eq_true h0.1
 refine hx h.2 r l (λ{Z1 ds m1 H1 as M1 S1} z r l d h=>?_) e
 have h1:(ks.zip as).map (·.1)=ks:=List.map_fst_zip (Nat.le_of_eq (hk.trans d.n.symm))
 have h2:(ks.zip as).map (·.2)=as:=List.map_snd_zip (Nat.le_of_eq (d.n.trans hk.symm))
 rcases h with h|h
 ·exact ⟨true,λc hc=>have f:=r.gT hc (.bX true (ks.zip as));q (z.tr f.1) f.2 (l.aY f.1) (.IC (cR ..) (by rw [<-List.length_map (f:=(·.2)),h2];exact q9 d.n h0.2) h1 (h2.symm▸d.d.aY f.1)) h⟩
 ·exact ⟨false,λc hc=>q z (r.kT (o:=.dS _ _) hc ⟨_,rfl,h1,h2.symm▸d.d⟩) l (.ref c) (h c (r.fresh hc).1)⟩
theorem YN{ks:List Int}(hx:lY G xs):bQ G (.dI ks xs):=λ{n Q E m H Z M S Q' E'} h r l q e=>by
 have h:=iA (p:=kc G n xs (Lu ks Q) E m H) h
 exact hx h.2 r l (λz r l d g=>(ou g).elim λkv g=>have t:=Qy d.d g.1;⟨true,λc hc=>by
  rw [t.e]
  have f:=r.gT hc (.bz true (im kv))
  exact q (z.tr f.1) f.2 (l.aY f.1) (.dI (cR ..) (Nat.le_trans t.l (q9 d.n h.1))) g.2⟩) e
theorem YO:bQ G .dE:=λ{n Q E m H Z M S Q' E'} h r l q e=>
 h.elim (λh=>⟨_,.i,λc hc=>q .rf (r.kT (o:=.dI []) hc rfl) l (.ref c) (h c (r.fresh hc).1)⟩) λh=>⟨_,.s,λc hc=>q .rf (r.kT (o:=.dS [] []) hc ⟨[],rfl,rfl,.nil⟩) l (.ref c) (h c (r.fresh hc).1)⟩
theorem Sq{f:CV}(hx:lY G xs):bQ G (.call f xs):=λh r l q e=>hx h r l (λz r l d h=>Fy r l d.d h (q.up z) (e.up z)) e
theorem k_meth{nm:List Nat}(ho:bQ G o)(hx:lY G xs):bQ G (.aQ o nm xs):=λh r l q e=>
 ho h r l (λz r l d h=>OZ r d h λf ys as l1 h=>hx h r l (λz2 r l d h=>Fy r l ((l1.aY z2).append d.d) h (q.up (z.tr z2)) (e.up (z.tr z2))) (e.up z)) e
theorem Ss{frees:List Nat}{nt:Nat}(ha:bQ G a)(hx:pS G x)(ht:sP G ts)(hg:vH G g):bQ G (.comp frees nt x a ts g):=λ{n Q E m H Z M S Q' E'} h r l q e=>
 ha h r l (λ{Z1 y m1 H1 v M1 S1} z1 r1 l1 d h=>xg r1 d h λs w hs h D hD=>by
  obtain ⟨ds,hds,h⟩:=ou (h D (r1.fresh hD).1)
  cases l1.YK hds with|mk as has la=>
  refine ⟨as,has,ID (r1.kT (o:=.list []) hD ⟨[],rfl,.nil⟩) (DM.of la nt) hs h (λz r l d h k=>hx h r l d k (e.up (z1.tr z))) (λz r l h k=>ht h r l k (e.up (z1.tr z))) (λz r l h k=>hg h r l k (e.up (z1.tr z))) λ{Z2 m2 H2 M2 S2} z2 r2 l2 h=>?_⟩
  induction h with|mk o e1 h=>
  induction o with
  |list ds=>
   obtain ⟨xs,e2,lx⟩:=r2.list e1
   have r3:=r2.fix e1 (so:=.list .mu xs) ⟨xs,rfl,lx⟩
   exact h.2.elim (λg=>have f:=r3.uf (cR ..) (r2.h _ _ e1).1;⟨.mu,xs,e2,q (z1.tr (z2.tr f.1)) f.2 (l1.aY (z2.tr f.1)) (.lO (cR ..) (lx.l▸h.1) (lx.aY f.1)) g⟩) λg=>⟨.mu,xs,e2,q (z1.tr z2) r3 (l1.aY z2) (.ref D) g⟩
  |_=>exact False.elim h) e
theorem YQ:lY G []:=λh r l q e=>q .rf r l ⟨.nil,rfl⟩ h
theorem YR(ha:bQ G a)(hx:lY G xs):lY G (a::xs):=λh r l q e=>ha h r l (λz r l d h=>hx h r l (λz2 r l d2 h=>q (z.tr z2) r l ⟨.cons (d.aY z2) d2.d,congrArg (·+1) d2.n⟩ h) (e.up z)) e
theorem UU(ha:bQ G a):jA G (.val a):=λh r l q e=>ha h r l (λz r l d h=>(HD r d h).aY λc h=>q z r l rfl h) e
theorem Su(ha:bQ G a)(hb:bQ G b):jA G (.cmp cp a b):=λ{n Q E m H Z M S Q' E'} h r l q e=>oz (K':=λv u m H=>dZ (λc=>Q' c m H) H cp v u) ha hb h r l e λz r l d d2 h=>(Aw r d d2 h).aY λc hq=>q z r l rfl hq
theorem YS(ht:jA G t):jA G (.nt t):=λh r l q e=>ht h r l (λz r l hc h=>q z r l (congrArg _ hc) h) e
theorem YT(ht:jA G t)(hu:jA G u):jA G (.an t u):=λ{n Q E m H Z M S Q' E'} h r l q e=>ht h r l (λ{Z1 c m H c' M S} z r l hc h=>hc▸sE (A:=wT G _ u _ _) (B:=λm H=>Q false m H) h (λh=>hu h r l (q.up z) (e.up z)) λh=>q z r l rfl h) e
theorem UW(ht:jA G t)(hu:jA G u):jA G (.j7 t u):=λ{n Q E m H Z M S Q' E'} h r l q e=>ht h r l (λ{Z1 c m H c' M S} z r l hc h=>hc▸sE (A:=λm H=>Q true m H) (B:=wT G _ u _ _) h (λh=>q z r l rfl h) λh=>hu h r l (q.up z) (e.up z)) e
theorem YU:sP G []:=λh r l q e=>q .rf r l rfl h
theorem YV(ht:jA G t)(hu:sP G ts):sP G (t::ts):=λ{n Q E m H Z M S Q' E'} h r l q e=>ht h r l (λ{Z1 c m H c' M S} z r l hc h=>hc▸sE (A:=je G _ ts _ _) (B:=λm H=>Q false m H) h (λh=>hu h r l (q.up z) (e.up z)) λh=>q z r l rfl h) e
theorem YW{i:Nat}:pS G (.nm i):=λh r l d q e=>q .rf r (l.set d i) h
theorem YX{nm:List Nat}(ha:bQ G a):pS G (.attr a nm):=λh r l d q e=>ha h r l (λz r l d2 h=>OT r d2 (d.aY z) h λS' H' r2 h=>q z r2 l h) e
theorem YY(ha:bQ G a)(hb:bQ G b):pS G (.sub a b):=λ{n y v Q E m H Z M S Q' E'} h r l d q e=>oz (K':=λx u m H=>kD v (λH'=>Q' m H') H x u) ha hb h r l e λz r l d1 d2 h=>NX r d1 d2 (d.aY z) h λS' H' r2 h=>q z r2 l h
theorem YZ(hx:uR G yX):pS G (.aj yX):=λh r l d q e=>match Qx r d h with|.mk ys ds h1 ld h=>have h:=iA h;⟨ys,h1,ld.l.trans (Nat.eq_of_beq_eq_true h.1),hx h.2 r l ld q e⟩
theorem Y0:uR G []:=λh r l d q e=>q .rf r l h
theorem Y3(hx:pS G x)(hy:uR G yX):uR G (x::yX):=λh r l d q e=>by induction d with
 |nil=>exact False.elim h
 |cons d1 d2=>exact hx h r l d1 (λz r l h=>hy h r l (d2.aY z) (q.up z) (e.up z)) e
theorem UX(ha:bQ G a):vH G (.elt a):=λh r l q e=>ha h r l (λz r l d h=>by
 induction h with|mk o e1 h=>
 induction o with
 |list ds=>exact (r.list e1).elim λxs k=>⟨xs,k.1,k.2.l▸h.1,q z (r.bL (o':=.list _) e1 ⟨_,rfl,k.2.append (.dO d)⟩) l h.2⟩
 |_=>exact False.elim h) e
theorem Sv(hx:pS G x)(ha:bQ G a)(ht:sP G ts)(hg:vH G g):vH G (.more x a ts g):=λh r l q e=>
 ha h r l (λz1 r l d h=>xg r d h λs w hs h=>ID r l hs h (λz r l d h k=>hx h r l d k (e.up (z1.tr z))) (λz r l h k=>ht h r l k (e.up (z1.tr z))) (λz r l h k=>hg h r l k (e.up (z1.tr z))) (q.up z1)) e
end
mutual
theorem cH:∀(x:X),bQ G x
 |.c _=>k_c
 |.aa _=>UL
 |.aA _ a b=>UM (cH a) (cH b)
 |.neg a=>UN (cH a)
 |.cmp _ a b=>UO (cH a) (cH b)
 |.aC t a b=>UP (nj t) (cH a) (cH b)
 |.qU a b=>UQ (cH a) (cH b)
 |.item a b=>So (cH a) (cH b)
 |.sl a b=>YL (cH a) (cH b)
 |.qV a b=>UR (cH a) (cH b)
 |.attr a _=>Sp (cH a)
 |.af xs=>US (oi xs)
 |.aj xs=>UT (oi xs)
 |.dS _ xs=>YM (oi xs)
 |.dI _ xs=>YN (oi xs)
 |.dE=>YO
 |.call _ xs=>Sq (oi xs)
 |.aQ o _ xs=>k_meth (cH o) (oi xs)
 |.comp _ _ x a ts g=>Ss (cH a) (oj x) (A6 ts) (HK g)
theorem oi:∀(xs:List X),lY G xs
 |[]=>YQ
 |x::xs=>YR (cH x) (oi xs)
theorem nj:∀(t:T),jA G t
 |.val x=>UU (cH x)
 |.cmp _ a b=>Su (cH a) (cH b)
 |.nt t=>YS (nj t)
 |.an t u=>YT (nj t) (nj u)
 |.j7 t u=>UW (nj t) (nj u)
theorem A6:∀(ts:List T),sP G ts
 |[]=>YU
 |t::ts=>YV (nj t) (A6 ts)
theorem oj:∀(t:TG),pS G t
 |.nm _=>YW
 |.attr x _=>YX (cH x)
 |.sub a b=>YY (cH a) (cH b)
 |.aj ts=>YZ (GC ts)
theorem GC:∀(ts:List TG),uR G ts
 |[]=>Y0
 |t::ts=>Y3 (oj t) (GC ts)
theorem HK:∀(g:GS),vH G g
 |.elt x=>UX (cH x)
 |.more x a ts g=>Sv (oj x) (cH a) (A6 ts) (HK g)
end
end
section
variable{Z Z' S S':AH}{H H':WH}{M:MM}{m:WM}{v:AV}{d:W}{G:Gx}{n:Nat}{E:Nat->WH->Prop}{E':Nat->AH->Prop}
theorem GD{Z:AH}{J:WM->WH->Prop}{J':MM->AH->Prop}{Q:WF->WM->WH->Prop}{Q':AF->MM->AH->Prop}(hj:PS Z J J')(q:PP Z lC Q Q'):PP Z lC (CM J Q) (xK J' Q'):=λz r l hf h=>by
 induction hf with
 |next=>exact hj z r l h
 |brk=>exact q z r l .next h
 |ret dp=>exact q z r l (.ret dp) h
theorem Qz{us:List W}:∀{vs:List W} {k:Nat},(oR us vs)[k]?=match us[k]?,vs[k]? with|some x,some y=>some (.aj [x,y])|_,_=>none:=by
 induction us with
 |nil=>exact rfl
 |cons u us ih=>
  intro vs k
  induction vs with
  |nil=>show none=_;cases (u::us)[k]?<;>rfl
  |cons v vs=>induction k with
   |zero=>rfl
   |succ k=>exact ih
theorem GF{s:eK}{w:WS}{az:W->(WM->WH->Prop)->WM->WH->Prop}{body:(WF->WM->WH->Prop)->WM->WH->Prop}{Q:WF->WM->WH->Prop}
 {uQ:AV->(MM->AH->Prop)->MM->AH->Prop}{IE:(AF->MM->AH->Prop)->MM->AH->Prop}{Q':AF->MM->AH->Prop}
 (r:WR Z S H)(dm:DM Z M m)(h:oQ w az body Q m H)
 (hn:∀{Z' S H k K Ke},ZL Z Z'->WR Z' S H->(∀Z2 S2 d v,ZL Z' Z2->WR Z2 S2 H->w.at k=some d->Dp Z2 v d->k<w.len->K v S2)->(w.at k=none->Ke)->kJ S s k K Ke)
 (ha:∀{Z' m H M S d v K K'},ZL Z Z'->WR Z' S H->DM Z' M m->Dp Z' v d->az d K m H->PS Z' K K'->uQ v K' M S)
 (hb:∀{Z' m H M S K K'},ZL Z Z'->WR Z' S H->DM Z' M m->body K m H->PP Z' lC K K'->IE K' M S)
 (q:PP Z lC Q Q'):qA s uQ IE Q' M S:=by
 induction h with|mk J h0 h1 h2=>
 refine ⟨w.len,λk M S=>JJ Z (J k) M S,⟨.rf,r,dm,h0⟩,λk M S nP j=>?_⟩
 induction j with| @mk Z' m H z r dm j=>
 exact hn z r (λZ2 S2 d v z2 r2 e dp hk=>⟨hk,ha (z.tr z2) r2 (dm.aY z2) dp (h1 k d m H e j) λz3 r3 nQ nN=>hb ((z.tr z2).tr z3) r3 nQ nN (GD (λ{Z4 m4 H4 M4 S4} z4 r4 q8 ⟨H5,g,hj⟩=>(g _ _ r4).elim λZ5 y=>⟨(((z.tr z2).tr z3).tr z4).tr y.1,y.2,q8.aY y.1,hj⟩) (q.up ((z.tr z2).tr z3)))⟩) λe=>q z r dm .next (h2 m H (WS.HG e nP▸j))
theorem UY{Z:AH}{K:WM->WH->Prop}{K':MM->AH->Prop}{Q:WF->WM->WH->Prop}{Q':AF->MM->AH->Prop}(hk:PS Z K K')(q:PP Z lC Q Q'):PP Z lC (nx K Q) (vn K' Q'):=λz r l hf h=>by
 induction hf with
 |next=>exact hk z r l h
 |brk=>exact q z r l .brk h
 |ret dp=>exact q z r l (.ret dp) h
noncomputable def jB(G:Gx)(s:Mine.S):Prop:=∀{n:Nat} {Q:WF->WM->WH->Prop} {E:Nat->WH->Prop} {m:WM} {H:WH} {Z:AH} {M:MM} {S:AH} {Q':AF->MM->AH->Prop} {E':Nat->AH->Prop},wS G n s Q E m H->WR Z S H->DM Z M m->PP Z lC Q Q'->PE Z E E'->vS G cy n s Q' E' M S
noncomputable def oS(G:Gx)(ss:List Mine.S):Prop:=∀{n:Nat} {Q:WF->WM->WH->Prop} {E:Nat->WH->Prop} {m:WM} {H:WH} {Z:AH} {M:MM} {S:AH} {Q':AF->MM->AH->Prop} {E':Nat->AH->Prop},bO G n ss Q E m H->WR Z S H->DM Z M m->PP Z lC Q Q'->PE Z E E'->iL G cy n ss Q' E' M S
section
variable{x y:X}{t:TG}{c:T}{s:Mine.S}{as bs:List Mine.S}{is:List Nat}{C:Nat}
theorem UZ:jB G (.az t x):=λh r l q e=>cH x h r l (λz r l d h=>oj t h r l d (λz2 r l h=>q (z.tr z2) r l .next h) (e.up z)) e
theorem Sw:jB G (.kO t x):=λh r l q e=>cH x h r l (λz r l d h=>oj t h r l d (λz2 r l h=>q (z.tr z2) r l .next h) (e.up z)) e
theorem U0:jB G (.lq is x):=λ{n Q E m H Z M S Q' E'} h r l q e=>cH x h r l (λ{Z1 y m1 H1 v M1 S1} z r l d h=>by
 induction y using W.casesOn with
 |aj ds=>
  have h:=iA h
  have h0:=Nat.eq_of_beq_eq_true h.1
  exact (d.jX (P:=λv=>BS S1 v is.length λys=>Q' .next ((is.reverse.zip ys.reverse).foldl (λm p=>m.set p.1 (some p.2)) M1) S1) λa xs e b lx=>⟨xs,.aj (r.z _ _ e),lx.l.trans h0,q z r (l.sw lx h0) .next h.2⟩)
 |_=>exact False.elim h) e
theorem U1:jB G (.bA x):=λh r l q e=>cH x h r l (λz r l d h=>q z r l .next h) e
theorem U3:jB G (.ret x):=λh r l q e=>cH x h r l (λz r l d h=>q z r l (.ret d) h) e
theorem U4(ha:oS G as)(hb:oS G bs):jB G (.aC c as bs):=λ{n Q E m H Z M S Q' E'} h r l q e=>nj c h r l (λ{Z2 c m H c' M S} z r l hc h=>hc▸sE (A:=bO G n as Q E) (B:=bO G n bs Q E) h (λh=>ha h r l (q.up z) (e.up z)) λh=>hb h r l (q.up z) (e.up z)) e
theorem U5:jB G .brk:=λh r l q e=>q .rf r l .brk h
theorem Sx(hb:oS G bs):jB G (.loop t x bs):=λ{n Q E m H Z M S Q' E'} h r l q e=>cH x h r l (λz1 r l d h=>xg r d h λs w hs h=>GF r l h
 (λz r h1 h2=>Gz r (hs.aY z) (λd v e dp hk=>h1 _ _ d v .rf r e dp hk) h2)
 (λz r l d h k=>oj t h r l d k (e.up (z1.tr z))) (λz r l h k=>hb h r l k (e.up (z1.tr z))) (q.up z1)) e
theorem Sy{Z':AH}{us vs:List W}{a b k:Nat}{ka kb:LK}{xs ys:List AV}(e1:Z a=some (.list ka xs))(lx:DL Z xs us)(e2:Z b=some (.list kb ys))(ly:DL Z ys vs){K:AV->AH->Prop}{Ke:Prop}(z:ZL Z Z')(r:WR Z' S H)
 (h1:∀Z2 S2 d v,ZL Z' Z2->WR Z2 S2 H->(WS.l (oR us vs)).at k=some d->Dp Z2 v d->k<(WS.l (oR us vs)).len->K v S2)(h2:(WS.l (oR us vs)).at k=none->Ke):kJ S (.zip a b) k K Ke:=by
 have hw:(WS.l (oR us vs)).at k=match us[k]?,vs[k]? with|some x,some y=>some (.aj [x,y])|_,_=>none:=Qz
 refine .mk (r.z _ _ (z _ _ e1)) (r.z _ _ (z _ _ e2)) (λx y hx hy T hT=>?_) λq=>h2 (hw.trans ?_)
 ·obtain ⟨d,q1,d1⟩:=lx.ax hx
  obtain ⟨e,q2,d2⟩:=ly.ax hy
  rw [q1,q2] at hw
  have n:=r.gT hT (.aj [x,y])
  exact h1 _ _ (.aj [d,e]) _ n.1 n.2 hw (.kH (cR ..) (show 2<=1000000 by decide) (.cons (d1.aY (z.tr n.1)) (.dO (d2.aY (z.tr n.1))))) (List.getElem?_eq_some_iff.mp hw).1
 ·rcases q with q|q
  ·rw [lx.an q]
  ·rw [ly.an q];cases us[k]?<;>rfl
theorem QA(hb:oS G bs):jB G (.m9 t x y bs):=λ{n Q E m H Z M S Q' E'} h r l q e=>
 oz (K':=λv u m H=>yd (λa b=>qA (.zip a b) (λy Q m H=>jb G cy n t y Q E' m H) (λQ m H=>iL G cy n bs Q E' m H) Q' m H) H [v,u]) (cH x) (cH y) h r l e λ{Z1 u w m H v1 v2 M S} z r l d1 d2 h=>by
  induction u using W.casesOn with
  |af us=>induction w using W.casesOn with
   |af vs=>
    exact d1.jm λa ka xs e1 b1 lx=>d2.jm λb kb ys e2 b2 ly=>.mk (r.z _ _ e1) (r.z _ _ e2) (GF r l h (λz r h1 h2=>Sy e1 lx e2 ly z r h1 h2) (λz3 r l d h k=>oj t h r l d k (e.up (z.tr z3))) (λz3 r l h k=>hb h r l k (e.up (z.tr z3))) (q.up z))
   |_=>exact False.elim h
  |_=>exact False.elim h
theorem QC(hb:oS G bs):jB G (.sC t x bs):=λ{n Q E m H Z M S Q' E'} h r l q e=>cH x h r l (λ{Z1 u m1 H1 vu M1 S1} z1 r l d1 h=>by
 induction u using W.casesOn with
 |lA d=>
  induction h with|mk o e1 h=>
  induction o with
  |dI kv=>
   induction h with|mk J h0 h1 h2=>
   refine (d1.YH (P:=λv=>ye _ S1 v) λc e2=>.mk (r.z _ _ e2) (r.dI e1) ⟨λk M S=>JJ Z1 (J k) M S,⟨.rf,r.aV e1,l,h0⟩,λk M S nP j=>?_⟩)
   induction j with| @mk Z' m H z r dm j=>
   have hk:(im kv)[k]?=(kv[k]?).map λp=>(p.1,AV.int p.2):=List.getElem?_map ..
   refine ⟨λi v e3 T hT Zaa=>?_,λe3 hd=>?_⟩
   ·obtain ⟨p,hp,e4⟩:=Option.map_eq_some_iff.mp (hk.symm.trans e3)
    cases e4
    have n:=r.gT hT (.aj [.int p.1,.int p.2])
    exact oj t (h1 k p.1 p.2 m H hp j) n.2 (dm.aY n.1) (.kH (cR ..) (show 2<=1000000 by decide) (.cons (.int _) (.dO (.int _)))) (λz5 r5 vI nN=>hb nN r5 vI (GD (λz6 r6 dm6 hj=>⟨((z.tr n.1).tr z5).tr z6,r6,dm6,hj⟩) (q.up (z1.tr ((z.tr n.1).tr z5)))) (e.up (z1.tr ((z.tr n.1).tr z5)))) (e.up (z1.tr (z.tr n.1)))
   ·have e5:k=kv.length:=Nat.le_antisymm (rZ kv▸nP) (List.getElem?_eq_none_iff.mp (Option.map_eq_none_iff.mp (hk.symm.trans e3)))
    exact q (z1.tr z) (r.kT (o:=.dI kv) hd rfl) dm .next (h2 m H (e5▸j)).2
  |_=>exact False.elim h
 |_=>exact False.elim h) e
theorem QD:jB G (.raise C x):=λ{n Q E m H Z M S Q' E'} h r l q e=>cH x h r l (λ{Z1 u m1 H1 v M1 S1} z r l d h=>ow (P:=λu=>Dp Z1 v u->yQ (4<=n/\E' C S1) [v]) h (λs h d=>d.eS (.mk ⟨h.1,e z r h.2⟩)) d) e
theorem SA(ha:jB G s)(hb:oS G bs):oS G (s::bs):=λ{n Q E m H Z M S Q' E'} h r l q e=>ha h r l (UY (K:=bO G n bs Q E) (K':=iL G cy n bs Q' E') (λz r l h=>hb h r l (q.up z) (e.up z)) q) e
end
mutual
theorem U6:∀(s:Mine.S),jB G s
 |.az _ _=>UZ
 |.kO _ _=>Sw
 |.lq _ _=>U0
 |.bA _=>U1
 |.ret _=>U3
 |.aC _ a b=>U4 (jM a) (jM b)
 |.brk=>U5
 |.loop _ _ b=>Sx (jM b)
 |.m9 _ _ _ b=>QA (jM b)
 |.sC _ _ b=>QC (jM b)
 |.raise _ _=>QD
theorem jM:∀(ss:List Mine.S),oS G ss
 |[]=>λh r l q e=>q .rf r l .next h
 |s::ss=>SA (U6 s) (jM ss)
end
theorem aF{f np nt:Nat}{ir:List Mine.S}{args:List W}{Q:W->WH->Prop}(pg:aP G)
 (h:aM G.K [51,63] 60 f=some (np,nt,ir))(hl:args.length=np)(hv:bO G n ir (kF Q) E (args.map some++List.replicate nt none) H):WV G (n+1) f args Q E H:=
 ⟨λZ S as r l=>MF pg.tok pg.b7 h (l.l.trans hl) (jM ir hv r (.args l nt) (λz r l hf h=>by
   induction hf with
   |next=>exact ⟨_,_,_,z,r,.aZ,h⟩
   |brk=>exact ⟨_,_,_,z,r,.aZ,h⟩
   |ret dp=>exact ⟨_,_,_,z,r,dp,h⟩) λz r h=>⟨_,_,z,r,h⟩)⟩
end
theorem rd{α:Type}{o:Option α}{k:α->Prop}{v:α}(e:o=some v)(h:k v):OS o k:=⟨v,e,h⟩
theorem bI{p:Prop}{k:Bool->Prop}(h1:p->k true)(h2:¬p->k false):BC p k:=⟨h1,h2⟩
theorem bT{p:Prop}{k:Bool->Prop}(e:p)(h:k true):BC p k:=⟨λZaa=>h,λq=>absurd e q⟩
theorem bF{p:Prop}{k:Bool->Prop}(e:¬p)(h:k false):BC p k:=⟨λq=>absurd q e,λZaa=>h⟩
theorem gb{b:Bool}{k:Bool->Prop}(e:b=false)(h:k false):bS b k:=e▸h
theorem oB{α:Type}{o:Option α}{k:Bool->Prop}(h1:∀v,o=some v->k true)(h2:o=none->k false):OB o k:=⟨h1,h2⟩
theorem oG{α:Type}{o:Option α}{k1:α->Prop}{k2:Prop}(h1:∀v,o=some v->k1 v)(h2:o=none->k2):OG o k1 k2:=⟨h1,h2⟩
theorem ia{α:Type}{o:Option α}{k:α->Prop}{v:α}(e:o=some v)(h:k v):oW o k:=by rw [e];exact h
noncomputable def cB(H:WH)(L:List (Nat×WO)):Prop:=(L.map (·.1)).Nodup/\∀p∈L,H p.1=some p.2
noncomputable def Fr(F:List Nat)(H H':WH):Prop:=∀a,H a≠none->a∉F->H' a=H a
section
variable{H H' iK:WH}{L L':List (Nat×WO)}{F F':List Nat}{a b c:Nat}{o p:WO}
theorem cB.aE(h:cB H L)(i:Nat)(e:L[i]?=some (a,o)):H a=some o:=h.2 _ (List.mem_of_getElem? e)
theorem cB.ne(h:cB H L)(i j:Nat)(hij:i≠j)(e:L[i]?=some (a,o))(e':L[j]?=some (b,p)):a≠b:=by
 intro q
 have h1:(L.map (·.1))[i]?=some a:=by rw [List.getElem?_map,e];rfl
 have h2:(L.map (·.1))[j]?=some b:=by rw [List.getElem?_map,e'];rfl
 have hi:=(List.getElem?_eq_some_iff.mp h1).1
 exact hij ((List.getElem?_inj hi h.1).mp (by rw [h1,h2,q]))
theorem cB.bL(h:cB H L)(i:Nat)(o':WO)(e:L[i]?=some (a,o)):cB (H.ai a o') (L.set i (a,o')):=by
 have hi:=(List.getElem?_eq_some_iff.mp e).1
 have Y4:(L.set i (a,o')).map (·.1)=L.map (·.1):=by
  rw [List.map_set]
  refine List.ext_getElem? λj=>?_
  by_cases q:j=i
  ·subst q;rw [List.getElem?_set_self (by simpa using hi),List.getElem?_map,e];rfl
  ·rw [List.getElem?_set_ne (Ne.symm q)]
 refine ⟨by rw [Y4];exact h.1,λp hp=>?_⟩
 obtain ⟨j,hj⟩:=List.mem_iff_getElem?.mp hp
 by_cases q:j=i
 ·subst q;rw [List.getElem?_set_self hi] at hj;obtain rfl:=Option.some.inj hj;exact aN ..
 ·rw [List.getElem?_set_ne (Ne.symm q)] at hj
  rw [aL H a o' (h.ne j i q (a:=p.1) (o:=p.2) hj e)];exact h.2 p (List.mem_of_getElem? hj)
theorem cB.new(h:cB H L)(hc:H c=none)(o:WO):cB (H.ai c o) ((c,o)::L):=by
 have hf:∀p∈L,p.1≠c:=λp hp q=>by have:=h.2 p hp;rw [q,hc] at this;cases this
 refine ⟨?_,λp hp=>?_⟩
 ·rw [List.map_cons,List.nodup_cons]
  refine ⟨λhm=>?_,h.1⟩
  obtain ⟨p,hp,e⟩:=List.mem_map.mp hm
  exact hf p hp e
 ·rcases List.mem_cons.mp hp with h|hp
  ·exact h▸aN ..
  ·exact (aL H c o (hf p hp)).trans (h.2 p hp)
theorem cB.sub(h:cB H L)(e:L'.Sublist L):cB H L':=⟨h.1.sublist (e.map _),λp hp=>h.2 p (e.subset hp)⟩
theorem cB.qD(h:cB H L)(e:L.Perm L'):cB H L':=⟨(e.map _).nodup_iff.mp h.1,λp hp=>h.2 p (e.mem_iff.mpr hp)⟩
theorem cB.keep(h:cB H L)(k:Fr F H H')(hd:∀p∈L,p.1∉F):cB H' L:=⟨h.1,λp hp=>(k _ (by rw [h.2 p hp];exact Option.some_ne_none _) (hd p hp)).trans (h.2 p hp)⟩
theorem cB.old(h:cB H L)(hc:H c=none)(o:WO):cB (H.ai c o) L:=(h.new hc o).sub (List.sublist_cons_self ..)
theorem Fr.rf:Fr F H H:=λZaa Zaa Zaa=>rfl
theorem Fr.ai(hm:a∈F)(o:WO):Fr F H (H.ai a o):=λb Zaa hn=>aL H a o λq=>hn (q▸hm)
theorem Fr.new(hc:H c=none)(o:WO):Fr F H (H.ai c o):=λb hb Zaa=>aL H c o λq=>hb (q▸hc)
theorem Fr.trans(x:Fr F H H')(y:Fr F' H' iK)(g:∀a∈F',a∈F\/H a=none):Fr F H iK:=λa ha hn=>by
 have e:=x a ha hn
 exact (y a (by rw [e];exact ha) λhm=>(g a hm).elim hn ha).trans e
theorem Fr.tr(x:Fr F H H')(y:Fr F H' iK):Fr F H iK:=x.trans y λZaa m=>.inl m
theorem Fr.aY(x:Fr F H H')(g:∀a∈F,a∈F'\/H a=none):Fr F' H H':=λa ha hn=>x a ha λhm=>(g a hm).elim hn ha
theorem Fr.at(x:Fr F H H')(e:H a=some o)(hn:a∉F):H' a=some o:=(x a (by rw [e];exact Option.some_ne_none _) hn).trans e
theorem cg(H:WH)(a:Nat)(o p:WO):(H.ai a o).ai a p=H.ai a p:=by
 funext b;unfold WH.ai;split<;>rfl
theorem iu(hc:H c=none)(o:WO):(H.ai c o).aV c=H:=by
 funext b;unfold WH.ai WH.aV
 by_cases q:b=c
 ·show (if b=c then none else if b=c then some o else H b)=H b
  rw [if_pos q,q,hc]
 ·show (if b=c then none else if b=c then some o else H b)=H b
  rw [if_neg q,if_neg q]
end
noncomputable def Jz:vz->W
 |.unit=>.aj []
 |.int i=>.int i
 |.str s=>.str s
 |.uJ x y=>.aj [.int x,.int y]
noncomputable def fO(ah:Bool)(i:bq):W:=.ins (.n 117) [[111,112],[111,117,116,115],[105,110,115],[110,117,109]] [.str (gp ah i).op,.af (au (gp ah i).aH),.af (au (gp ah i).ins),Jz (gp ah i).num]
noncomputable def gB(ah:Bool):Nat->List (List bq)->List W
 |_,[]=>[]
 |k,b::r=>.ins (.n 138) [[110,117,109,98,101,114],[114,111,119,115],[102,111,108,108,111,119,101,114,115]] [.int k,.af (b.map (fO ah)),.af []]::gB ah (k+1) r
noncomputable def pT:List (List Nat):=[[110,97,109,101],[112,97,114,97,109,115],[98,108,111,99,107,115],[115,108,111,116,115],[114,101,103,105,115,116,101,114,115]]
noncomputable def dc(ah:Bool)(nm:List Nat)(fn:Fn):W:=.ins (.n 180) pT [.str nm,.af [],.af (gB ah 0 fn.bD),.af (au fn.slots),.int 72]
noncomputable def U7(ah:Bool):List Nat:=if ah then [116,119,111] else [114,118]
noncomputable def vJ:List (List Nat):=[[110,97,109,101],[98,105,116,115],[122,101,114,111],[97,108,108,111,99,97,116,97,98,108,101],[97,114,103,115],[114,101,115,117,108,116],[115,97,118,101,100],[115,99,114,97,116,99,104],[105,115,95,116,119,111]]
noncomputable def ic(t:aJ):W:=.ins (.tg t.ah) vJ [.str (U7 t.ah),.int t.bits,.int t.zero,.af (au t.alloc),.af (au t.args),.int t.oh,.af (au t.bh),.af (au t.ko),.dF t.ah]
noncomputable def sQ:W:=.dS [[97],[98],[99]] [.int 1,.int 4,.int 3]
structure FA where
 c:Nat
 own:Nat
 aR:Nat
structure RA where
 r:Nat
 mf:Nat
 mem:Nat
 eO:Nat
 aB:Nat
 bf:Nat
 aG:Int
noncomputable def iO:List (List Nat):=[[109,102,117,110,99,115],[116,97,114,103,101,116],[109,97,115,107],[109,101,109,111,114,121],[110,97,109,101,115],[111,117,116,101,114],[115,116,101,112,115],[116,114,97,99,101],[114,101,103,105,115,116,101,114,115],[99,97,108,108,115],[102,114,101,101]]
noncomputable def iP(A:RA)(t:aJ)(free:Int):List W:=[.ref A.mf,ic t,.int (t.jd-1),.ref A.mem,sQ,.ref 586,.int A.aG,.ref A.eO,.ref A.aB,.ref A.bf,.int free]
noncomputable def Lz(fn:Fn):W:=.ins (.n 82) [[119,111,114,100,115],[111,102,102,115,101,116,115]] [.int fn.bu,.af (au (gK 0 fn.slots))]
noncomputable def tB:List (List Nat):=[[109,102,117,110,99],[98,108,111,99,107],[97,116],[111,119,110],[98,97,115,101],[102,114,97,109,101],[107,101,112,116],[111,117,116,115]]
noncomputable def vK(P:PM)(f:FA)(s:bE):List W:=[dc P.t.ah s.fn (aI P s.fn),.int s.dM,.int s.at_,.ref f.own,.int s.base,Lz (aI P s.fn),.ref f.aR,.af (au s.aH)]
noncomputable def eE(p:List Nat×List Int):W:=.aj [.str p.1,.aj (au p.2)]
noncomputable def oU(P:PM):List FA->List bE->List (Nat×WO)
 |f::aq,s::ay=>(f.c,.inst 215 tB (vK P f s))::(f.own,.dI s.own)::(f.aR,.dI s.aR)::oU P aq ay
 |_,_=>[]
noncomputable def i6(A:RA)(P:PM)(st:St)(aq:List FA):List (Nat×WO):=
 (A.r,.inst 330 iO (iP A P.t st.free))::(A.mem,.dI st.cells)::(A.aB,.dI st.aB)::(A.bf,.list (aq.reverse.map λf=>.ref f.c))::(A.eO,.list (st.trace.map eE))::
   (A.mf,.dS [bH,cu] [dc P.t.ah bH P.f,dc P.t.ah cu P.g])::oU P aq st.ay
structure aK(H:WH)(A:RA)(P:PM)(st:St)(aq:List FA):Prop where
 led:cB H (i6 A P st aq)
 len:aq.length=st.ay.length
 cW:∀s∈st.ay,s.fn=bH\/s.fn=cu
noncomputable def fp(A:RA)(aq:List FA):List Nat:=A.r::A.mem::A.aB::A.bf::A.eO::aq.flatMap λf=>[f.c,f.own,f.aR]
section
variable{H H':WH}{A:RA}{P:PM}{st:St}{aq fr:List FA}{f:FA}{s:bE}{rest:List bE}{rg ce:KV}{fe:Int}{tr:List (List Nat×List Int)}
theorem aK.self(h:aK H A P st aq):H A.r=some (.inst 330 iO (iP A P.t st.free)):=h.led.aE 0 rfl
theorem aK.mem(h:aK H A P st aq):H A.mem=some (.dI st.cells):=h.led.aE 1 rfl
theorem aK.aB(h:aK H A P st aq):H A.aB=some (.dI st.aB):=h.led.aE 2 rfl
theorem aK.bf(h:aK H A P st aq):H A.bf=some (.list (aq.reverse.map λf=>.ref f.c)):=h.led.aE 3 rfl
theorem aK.eO(h:aK H A P st aq):H A.eO=some (.list (st.trace.map eE)):=h.led.aE 4 rfl
theorem aK.mf(h:aK H A P st aq):H A.mf=some (.dS [bH,cu] [dc P.t.ah bH P.f,dc P.t.ah cu P.g]):=h.led.aE 5 rfl
theorem aK.fc(h:aK H A P ⟨rg,s::rest,ce,fe,tr⟩ (f::fr)):H f.c=some (.inst 215 tB (vK P f s)):=h.led.aE 6 rfl
theorem aK.own(h:aK H A P ⟨rg,s::rest,ce,fe,tr⟩ (f::fr)):H f.own=some (.dI s.own):=h.led.aE 7 rfl
theorem aK.aR(h:aK H A P ⟨rg,s::rest,ce,fe,tr⟩ (f::fr)):H f.aR=some (.dI s.aR):=h.led.aE 8 rfl
theorem sF:((f::fr).reverse.map λf=>W.ref f.c).getLast?=some (.ref f.c):=by rw [List.reverse_cons,List.map_append,List.getLast?_append];rfl
theorem aK.eG(h:aK H A P st aq)(hne:st.ay≠[]):∃f fr rg s rest ce fe tr,aq=f::fr/\st=⟨rg,s::rest,ce,fe,tr⟩:=by
 obtain ⟨rg,ay,ce,fe,tr⟩:=st
 cases ay with
 |nil=>exact absurd rfl hne
 |cons s rest=>
  cases aq with
  |nil=>cases h.len
  |cons f fr=>exact ⟨f,fr,rg,s,rest,ce,fe,tr,rfl,rfl⟩
@[elab_as_elim] theorem aK.nE {M:St->List FA->Prop} {s:bE} {rest:List bE} (h:aK H A P st aq) (hf:st.ay=s::rest) (k:∀f fr rg ce fe tr,aK H A P ⟨rg,s::rest,ce,fe,tr⟩ (f::fr)->M ⟨rg,s::rest,ce,fe,tr⟩ (f::fr)):M st aq:=by
  obtain ⟨rg,ay,ce,fe,tr⟩:=st
  cases hf
  induction aq with
  |nil=>cases h.len
  |cons f fr=>exact k _ _ _ _ _ _ h
@[elab_as_elim] theorem aK.i7 {M:St->List FA->Prop} (h:aK H A P st aq) (hne:st.ay≠[]) (k:∀f fr rg s rest ce fe tr,aK H A P ⟨rg,s::rest,ce,fe,tr⟩ (f::fr)->(St.mk rg (s::rest) ce fe tr).ay≠[]->M ⟨rg,s::rest,ce,fe,tr⟩ (f::fr)):M st aq:=by
  obtain ⟨rg,ay,ce,fe,tr⟩:=st
  induction ay with
  |nil=>exact absurd rfl hne
  |cons s rest=>exact h.nE rfl λf fr rg ce fe tr h=>k _ _ _ _ _ _ _ _ h (List.cons_ne_nil _ _)
theorem aK.mR(h:aK H A P st aq)(r:KV):aK (H.ai A.aB (.dI r)) A P {st with aB:=r} aq:=⟨h.led.bL 2 (.dI r) rfl,h.len,h.cW⟩
theorem aK.jJ(h:aK H A P st aq)(r:KV):aK (H.ai A.mem (.dI r)) A P {st with cells:=r} aq:=⟨h.led.bL 1 (.dI r) rfl,h.len,h.cW⟩
theorem aK.GI(h:aK H A P st aq)(v:Int):aK (H.ai A.r (.inst 330 iO (iP A P.t v))) A P {st with free:=v} aq:=⟨h.led.bL 0 (.inst 330 iO (iP A P.t v)) rfl,h.len,h.cW⟩
theorem aK.A7(h:aK H A P st aq)(l:List (List Nat×List Int)):aK (H.ai A.eO (.list (l.map eE))) A P {st with trace:=l} aq:=⟨h.led.bL 4 (.list (l.map eE)) rfl,h.len,h.cW⟩
theorem aK.A8(h:aK H A P ⟨rg,s::rest,ce,fe,tr⟩ (f::fr))(r:KV):aK (H.ai f.own (.dI r)) A P ⟨rg,{s with own:=r}::rest,ce,fe,tr⟩ (f::fr):=⟨h.led.bL 7 (.dI r) rfl,h.len,λx hx=>by
 rcases List.mem_cons.mp hx with rfl|hx
 ·exact h.cW s (.head _)
 ·exact h.cW x (.tail _ hx)⟩
theorem aK.A9(h:aK H A P ⟨rg,s::rest,ce,fe,tr⟩ (f::fr))(b a:Nat):aK (H.ai f.c (.inst 215 tB (vK P f {s with dM:=b,at_:=a}))) A P ⟨rg,{s with dM:=b,at_:=a}::rest,ce,fe,tr⟩ (f::fr):=⟨h.led.bL 6 (.inst 215 tB (vK P f {s with dM:=b,at_:=a})) rfl,h.len,λx hx=>by
 rcases List.mem_cons.mp hx with rfl|hx
 ·exact h.cW s (.head _)
 ·exact h.cW x (.tail _ hx)⟩
theorem aK.new(h:aK H A P st aq){c:Nat}(hc:H c=none)(o:WO):aK (H.ai c o) A P st aq:=⟨h.led.old hc o,h.len,h.cW⟩
theorem Fz:∀{aq:List FA} {ay:List bE},∀p∈oU P aq ay,p.1∈aq.flatMap λf=>[f.c,f.own,f.aR]
 |[],_,p,hp=>by cases hp
 |f::aq,[],p,hp=>by cases hp
 |f::aq,s::ay,p,hp=>by
  rw [List.flatMap_cons]
  unfold oU at hp
  rcases List.mem_cons.mp hp with h|hp
  ·exact h▸.head _
  ·rcases List.mem_cons.mp hp with h|hp
   ·exact h▸.tail _ (.head _)
   ·rcases List.mem_cons.mp hp with h|hp
    ·exact h▸.tail _ (.tail _ (.head _))
    ·exact List.mem_append_right _ (Fz p hp)
end
section
variable{G:Gx}{n:Nat}{E:Nat->WH->Prop}{H:WH}{Q:W->WH->Prop}{A:RA}{P:PM}{st:St}{aq fr:List FA}{f:FA}{N:Nat}
theorem zy(pg:aP G){r:Int}(h:BC (64<=r) λb=>Q (.dF b) H):WV G (n+1) 191 [.int r] Q E H:=aF pg pg.Xu rfl h
theorem wU(i:Int)(hi:0<=i/\i<300):(toString i:Str).cps.toList.length<=100:=by
 obtain ⟨h1,h2⟩:=hi
 have h3:∀k:Nat,k<300->(toString (k:Int):Str).cps.toList.length<=100:=by decide+kernel
 obtain ⟨k,rfl⟩:∃k:Nat,i=k:=⟨i.toNat,by lia⟩
 exact h3 k (by lia)
theorem zq(pg:aP G){r:Int}(hr:Rg r)(h:∀s:List Nat,s.length<=101->Q (.str s) H):WV G (n+2) 198 [.int r] Q E H:=by
 obtain ⟨h1,h2⟩:=hr
 refine aF pg pg.Xv rfl (zy pg (bI (λhv=>?_) λhv=>?_))
 ·have:=wU (r-64) ⟨by lia,by lia⟩
  exact ⟨by lia,by rw [List.length_singleton];lia,h _ (by rw [List.length_append,List.length_singleton];lia)⟩
 ·have:=wU r ⟨h1,by lia⟩
  exact ⟨by lia,by rw [List.length_singleton];lia,h _ (by rw [List.length_append,List.length_singleton];lia)⟩
theorem ql(pg:aP G){r:Int}(hR:aK H A P st aq)(hr:Rg r)(hne:st.ay≠[])
 (hq:∀v,st.aT P.t r=some v->Q (.int v) H)(he:st.aT P.t r=none->E 63 H):WV G (n+5) 240 [.ref A.r,.int r] Q E H:=by
 revert hq he
 refine hR.i7 hne λf fr rg s rest ce fe tr hR hne hq he=>?_
 have tC:∀{t:List Nat},t.length<=101->t.length+13<=1000000:=λht=>by lia
 refine aF pg pg.Xy rfl (rd hR.self (bI (λhz=>hq 0 (if_pos hz)) λhz=>zy (n:=n+3) pg (bI (λhv=>?_) λhv=>?_)))
 ·have hg:(St.mk rg (s::rest) ce fe tr).aT P.t r=s.own.aE r:=(if_neg hz).trans (if_pos hv)
  exact rd hR.self (rd hR.bf (rd sF (rd hR.fc (rd hR.own (oB (λv h=>rd hR.own (rd h (hq v (hg.trans h)))) λh=>zq (n:=n+2) pg hr λt ht=>⟨tC ht,Nat.le_add_left ..,he (hg.trans h)⟩)))))
 ·have hg:(St.mk rg (s::rest) ce fe tr).aT P.t r=rg.aE r:=(if_neg hz).trans (if_neg hv)
  exact rd hR.self (rd hR.aB (oB (λv h=>rd hR.aB (rd h (hq v (hg.trans h)))) λh=>zq (n:=n+2) pg hr λt ht=>⟨tC ht,Nat.le_add_left ..,he (hg.trans h)⟩))
structure RK(A:RA)(aq:List FA)(P:PM)(st:St)(H H':WH):Prop where
 r:aK H' A P st aq
 k:Fr (fp A aq) H H'
theorem n6(pg:aP G){r v:Int}(hR:aK H A P st aq)(hne:st.ay≠[])(hsz:st.Sz N)
 (hq:∀H',RK A aq P (st.cz P.t r v) H H'->Q .aZ H'):WV G (n+2) 247 [.ref A.r,.int r,.int v] Q E H:=by
 revert hsz hq
 refine hR.i7 hne λf fr rg s rest ce fe tr hR hne hsz hq=>?_
 have hl:=hsz.le
 refine aF pg pg.Xz rfl (rd hR.self (bI (λhz=>hq H ⟨(Ge hz).symm▸hR,.rf⟩) λhz=>zy (n:=n) pg (bI (λhv=>?_) λhv=>?_)))
 ·exact rd hR.self (rd hR.bf (rd sF (rd hR.fc (rd hR.self (rd hR.own ⟨Nat.le_trans (hsz.own s (.head _)) (by lia),hq _ ⟨by rw [rL,Gf hz hv rfl];exact hR.A8 _,.ai (by simp [fp]) _⟩⟩)))))
 ·exact rd hR.self (rd hR.self (rd hR.aB ⟨Nat.le_trans hsz.aB (by lia),hq _ ⟨by rw [rL,Gg hz hv];exact hR.mR _,.ai (by simp [fp]) _⟩⟩))
theorem HL(pg:aP G)(hP:P.wf){a:Int}(hR:aK H A P st aq)(hq:∀v,st.cells.aE (P.t.aU a)=some v->Q (.int v) H)(he:st.cells.aE (P.t.aU a)=none->E 63 H):WV G (n+5) 254 [.ref A.r,.int a] Q E H:=by
 have hw:=zD hP a
 have hb:=wH hP
 have hm:=rL P.t a
 have ht:=wU (P.t.aU a) ⟨hw.1,by lia⟩
 refine aF pg pg.XA rfl (rd hR.self (rd hR.self (rd hR.mem (oB (λv h=>rd hR.self (rd hR.self (rd hR.mem (rd h (hq v (hm▸h)))))) λh=>rd hR.self ?_))))
 refine ⟨by rw [hm];exact Nat.lt_of_le_of_lt (show _<=256 by lia) (by decide),?_⟩
 exact ⟨by rw [hm];exact Nat.le_trans (Nat.add_le_add_left ht _) (by decide),Nat.le_add_left ..,he (hm▸h)⟩
theorem GJ(pg:aP G)(hP:P.wf){a v:Int}(hR:aK H A P st aq)(hsz:st.Sz N)
 (hq:(st.cells.aE (P.t.aU a)).isSome=true->∀H',RK A aq P {st with cells:=st.cells.set (P.t.aU a) v} H H'->Q .aZ H')(he:st.cells.aE (P.t.aU a)=none->E 63 H):WV G (n+5) 261 [.ref A.r,.int a,.int v] Q E H:=by
 have hw:=zD hP a
 have hb:=wH hP
 have hm:=rL P.t a
 have ht:=wU (P.t.aU a) ⟨hw.1,by lia⟩
 have hl:=hsz.le
 refine aF pg pg.XC rfl (rd hR.self (rd hR.self (rd hR.mem (oB (λu h=>?_) λh=>rd hR.self ?_))))
 ·exact rd hR.self (rd hR.self (rd hR.mem ⟨Nat.le_trans hsz.cells (by lia),hq (by rw [<-hm,h];rfl) _ ⟨by rw [hm];exact hR.jJ _,.ai (by simp [fp]) _⟩⟩))
 ·refine ⟨by rw [hm];exact Nat.lt_of_le_of_lt (show _<=256 by lia) (by decide),?_⟩
  exact ⟨by rw [hm];exact Nat.le_trans (Nat.add_le_add_left ht _) (by decide),Nat.le_add_left ..,he (hm▸h)⟩
theorem Ba(pg:aP G){i:Nat}{s:bE}{rest:List bE}(hf:st.ay=s::rest)(hi:i<(aI P s.fn).slots.length)(hR:aK H A P st aq)(hq:Q (.int (P.dY st i)) H):WV G (n+1) 268 [.ref A.r,.int i] Q E H:=by
 revert hq
 refine hR.nE hf λf fr rg ce fe tr hR hq=>?_
 have ho:(au (gK 0 (aI P s.fn).slots))[i]?=some (.int (0+((aI P s.fn).slots.take i).sum)):=by unfold au;rw [List.getElem?_map,Gh _ _ _ hi];rfl
 rw [Int.zero_add] at ho
 exact aF pg pg.XD rfl (rd hR.self (rd hR.bf (rd sF (rd hR.fc (rd hR.fc (rd ho hq))))))
theorem B7(pg:aP G){k:Nat}(hR:aK H A P st aq)(hne:st.ay≠[])(hq:∀H',RK A aq P (st.gS k) H H'->Q .aZ H'):WV G (n+1) 301 [.ref A.r,.int k] Q E H:=by
 revert hq
 refine hR.i7 hne λf fr rg s rest ce fe tr hR hne hq=>?_
 have r1:=hR.A9 k s.at_
 have r2:=r1.A9 k 0
 rw [cg] at r2
 refine aF pg pg.XG rfl (rd hR.self (rd hR.bf (rd sF (rd hR.fc (rd r1.self (rd r1.bf (rd sF (rd r1.fc ?_))))))))
 exact hq _ ⟨by rw [cg];exact r2,by rw [cg];exact .ai (by simp [fp]) _⟩
theorem GK(ah:Bool):∀(l:List (List bq)) (k i:Nat),(gB ah k l)[i]?=(l[i]?).map λb=>.ins (.n 138) [[110,117,109,98,101,114],[114,111,119,115],[102,111,108,108,111,119,101,114,115]] [.int ((k+i:Nat):Int),.af (b.map (fO ah)),.af []]
 |[],k,i=>by simp [gB]
 |b::r,k,0=>rfl
 |b::r,k,i+1=>by
  have:=GK ah r (k+1) i
  rw [show k+1+i=k+(i+1) by lia] at this
  exact this
theorem Nb(pg:aP G){s:bE}{rest:List bE}{ins:bq}(hf:st.ay=s::rest)(hi:(P.aD s)[s.at_]?=some ins)(hR:aK H A P st aq)
 (hq:∀H',RK A aq P st.bY H H'->Q (fO P.t.ah ins) H'):WV G (n+1) 320 [.ref A.r] Q E H:=by
 revert hq
 refine hR.nE hf λf fr rg ce fe tr hR hq=>?_
 unfold PM.aD at hi
 cases hb:(aI P s.fn).bD[s.dM]? with
 |none=>rw [hb] at hi;cases hi
 |some b=>
  rw [hb] at hi
  have hi:b[s.at_]?=some ins:=hi
  have hl:=(List.getElem?_eq_some_iff.mp hi).1
  have e1:=GK P.t.ah (aI P s.fn).bD 0 s.dM
  rw [hb] at e1
  have e2:(b.map (fO P.t.ah))[s.at_]?=some (fO P.t.ah ins):=by rw [List.getElem?_map,hi];rfl
  have r1:=hR.A9 s.dM (s.at_+1)
  refine aF pg pg.XH rfl (rd hR.self (rd hR.bf (rd sF (rd hR.fc (rd hR.fc (rd e1 (rd hR.fc (bF (by rw [List.length_map];lia) (rd hR.fc (rd hR.fc (rd r1.fc ?_)))))))))))
  have e3:j9 (b.map (fO P.t.ah)) ((((s.at_+1:Nat):Int))-1)=some (fO P.t.ah ins):=by
   rw [show ((s.at_+1:Nat):Int)-1=(s.at_:Int) by lia];exact e2
  exact rd e3 (hq _ ⟨r1,.ai (by simp [fp]) _⟩)
end
inductive J1(f:Option W->WM)(R:WH->Prop)(m:WM)(H:WH):Prop
 |mk (u:Option W) (e:m=f u) (r:R H)
inductive J2(f:Option W->Option W->WM)(R:WH->Prop)(m:WM)(H:WH):Prop
 |mk (u v:Option W) (e:m=f u v) (r:R H)
theorem j1{f:Option W->WM}{R:WH->Prop}{p:WM->WH->Prop}(h:∀u H,R H->p (f u) H){m:WM}{H:WH}:J1 f R m H->p m H:=λ⟨u,e,r⟩=>e▸h u H r
theorem j2{f:Option W->Option W->WM}{R:WH->Prop}{p:WM->WH->Prop}(h:∀u v H,R H->p (f u v) H){m:WM}{H:WH}:J2 f R m H->p m H:=λ⟨u,v,e,r⟩=>e▸h u v H r
theorem dN{α:Type}{K:α->Prop}{a b:α}(e:a=b)(h:K b):K a:=e▸h
theorem GH.rf{H:WH}:GH H H:=λZ S r=>⟨Z,.rf,r⟩
noncomputable def GT(d:W)(H:WH)(d':W)(H':WH):Prop:=∀Z S v,WR Z S H->Dp Z v d->∃Z',ZL Z Z'/\WR Z' S H'/\Dp Z' v d'
inductive GQ(Q:W->WH->Prop)(d:W)(H:WH):Prop
 |mk (d':W) (H':WH) (g:GT d H d' H') (h:Q d' H')
section
variable{G:Gx}{n:Nat}{E:Nat->WH->Prop}{H H':WH}{Q:W->WH->Prop}
theorem WV.gh{f:Nat}{args:List W}(h:WV G n f args (GQ Q) E H):WV G n f args Q E H:=by
 obtain ⟨run⟩:=h
 exact ⟨λZ S as r l=>(run Z S as r l).aY (Nat.le_refl _) (λv S' ⟨Z1,H1,d,z,r1,dp,⟨d',H2,g,hq⟩⟩=>let ⟨Z2,z2,r2,CS⟩:=g _ _ _ r1 dp;⟨Z2,H2,d',z.tr z2,r2,CS,hq⟩) λC S' x=>x⟩
theorem DL.re{Z Z':AH}{xs:List AV}{es:List W}{c:Nat}{d:W}(l:DL Z xs es)(z:ZL Z Z')(hd:Dp Z' (.ref c) d):∀{i:Nat},es[i]?=some (.ref c)->DL Z' xs (es.set i d):=by
 induction l with
 |nil=>exact nofun
 |cons h t ih=>exact λ{i} e=>match i with
  |0=>.cons ((Option.some.inj e▸h).A5▸hd) (t.aY z)
  |i+1=>.cons (h.aY z) (ih (i:=i) e)
theorem FD{Z S:AH}{c:Nat}{ds:List W}(r:WR Z S H)(e:H c=some (.list ds))(b:ds.length<=1000000):∃Z',ZL Z Z'/\WR Z' S (H.aV c)/\Dp Z' (.ref c) (.af ds):=by
 obtain ⟨xs,e2,l⟩:=r.list e
 obtain ⟨z,r2⟩:=r.uf e2 (r.h _ _ e).1
 exact ⟨_,z,r2,.lO (cR ..) (by rw [l.l];exact b) (l.aY z)⟩
theorem Bb{C:Cl}{ks:List (List Nat)}{vs ds:List W}{c:Nat}(i:Nat)(e:H c=some (.list ds))(b:ds.length<=1000000)(hi:vs[i]?=some (.ref c)):GT (.ins C ks vs) H (.ins C ks (vs.set i (.af ds))) (H.aV c):=λZ S v r dp=>by
 obtain ⟨Z',z,r',hd⟩:=FD r e b
 exact dp.B6 λa fz kvs e1 hk l=>⟨Z',z,r',.xA (z _ _ e1) hk (l.re z hd hi)⟩
theorem SD{vs ds:List W}{c:Nat}(i:Nat)(e:H c=some (.list ds))(b:ds.length<=1000000)(hi:vs[i]?=some (.ref c)):GT (.aj vs) H (.aj (vs.set i (.af ds))) (H.aV c):=λZ S v r dp=>by
 obtain ⟨Z',z,r',hd⟩:=FD r e b
 exact dp.jX λa xs e1 b1 l=>⟨Z',z,r',.kH (z _ _ e1) b1 (l.re z hd hi)⟩
end
section
variable{G:Gx}{n:Nat}{E:Nat->WH->Prop}{H:WH}{Q:W->WH->Prop}{A:RA}{P:PM}{st:St}{aq fr:List FA}{f:FA}{N:Nat}
theorem Bc(l:List Int)(k:Nat):(au l)[k]?=(l[k]?).map .int:=List.getElem?_map ..
theorem jf{l:List Int}{k:Nat}{d:W}(h:(au l)[k]?=some d):∃x,d=.int x/\l[k]?=some x:=by
 rw [Bc] at h
 obtain ⟨x,e,rfl⟩:=Option.map_eq_some_iff.mp h
 exact ⟨x,rfl,e⟩
theorem kB(l:List Int):l.length<=(WS.l (au l)).len:=by show _<=(l.map W.int).length;rw [List.length_map];exact Nat.le_refl _
theorem EY:∀(l:List Int) (b w:Int),gK b (l++[w])=gK b l++[b+l.sum]
 |[],b,w=>by simp [gK]
 |x::r,b,w=>by
  show b::gK (b+x) (r++[w])=b::(gK (b+x) r++[b+(x::r).sum])
  rw [EY r,List.sum_cons,Int.add_assoc]
theorem Ae:∀(l:List Int) (b:Int),(gK b l).length=l.length
 |[],b=>rfl
 |x::r,b=>congrArg (·+1) (Ae r _)
theorem Mq(pg:aP G){x:Nat}{w o:W}(hx:H x=some (.inst 82 [] []))(hq:Q .aZ (H.ai x (.inst 82 [[119,111,114,100,115],[111,102,102,115,101,116,115]] [w,o]))):WV G (n+1) 79 [.ref x,w,o] Q E H:=
 aF pg pg.f79 rfl (rd hx (rd (aN ..) (dN (K:=Q .aZ) (cg ..) hq)))
theorem SG(pg:aP G){slots:List Int}(fy:slots.length<=1000)
 (hq:Q (.ins (.n 82) [[119,111,114,100,115],[111,102,102,115,101,116,115]] [.int slots.sum,.af (au (gK 0 slots))]) H):WV G (n+3) 93 [.af (au slots)] Q E H:=by
 refine .gh (aF pg pg.f93 rfl (.inr λc hc=>?_))
 refine ⟨λk=>J1 (λu=>[some (.af (au slots)),some (.ref c),some (.int (slots.take k).sum),u]) (λH1=>H1=H.ai c (.list (au (gK 0 (slots.take k))))),⟨_,rfl,rfl⟩,λk d m H1 hk=>j1 λu H2 e=>?_,λm H1=>j1 λu H2 e=>?_⟩
 ·obtain ⟨x,rfl,hx⟩:=jf hk
  have hlt:=(List.getElem?_eq_some_iff.mp hx).1
  have e1:H2 c=some (.list (au (gK 0 (slots.take k)))):=by rw [e,aN]
  have ht:slots.take (k+1)=slots.take k++[x]:=by rw [List.take_add_one,hx];rfl
  refine rd e1 (rd e1 ⟨by unfold au;rw [List.length_map,Ae,List.length_take];lia,_,.rf,_,by rw [ht,List.sum_append,List.sum_singleton];rfl,?_⟩)
  rw [e,cg,ht,EY,Int.zero_add]
  unfold au
  rw [List.map_append];rfl
 ·rw [List.take_of_length_le (kB slots)] at e ⊢
  intro x hx
  have CT:x≠c:=λq=>by rw [q,e,aN] at hx;cases hx
  refine Mq (n:=n) pg (aN ..) ⟨rfl,.ins (.n 82) _ _ (aN ..) ⟨_,_,Bb (ds:=au (gK 0 slots)) 1 ?_ ?_ rfl,?_⟩⟩
  ·show (if c=x then none else _)=_
   rw [if_neg CT.symm,aL _ _ _ CT.symm,aL _ _ _ CT.symm,e,aN]
  ·unfold au;rw [List.length_map,Ae];lia
  ·have:(((((H2.ai x (.inst 82 [] [])).ai x (.inst 82 [[119,111,114,100,115],[111,102,102,115,101,116,115]] [.int slots.sum,.ref c])).aV x).aV c))=H:=by
    rw [cg,iu hx,e,iu hc]
   exact this.symm▸hq
theorem ML(pg:aP G){x aR:Nat}{aH:W}{ah:Bool}{nm:List Nat}{fn:Fn}{base:Int}(hx:H x=some (.inst 215 [] []))(fy:fn.slots.length<=1000)
 (hq:∀own H',H own=none->H' x=some (.inst 215 tB [dc ah nm fn,.int 0,.int 0,.ref own,.int base,Lz fn,.ref aR,aH])->H' own=some (.dI [])->own≠x->Fr [x] H H'->Q .aZ H'):WV G (n+4) 212 [.ref x,dc ah nm fn,.int base,.ref aR,aH] Q E H:=by
 refine aF pg pg.Xw rfl (rd hx (rd (aN ..) (rd (aN ..) (.inl λown ho=>?_))))
 have vL:own≠x/\H own=none:=by
  have iQ:own≠x:=λq=>by rw [q,aN] at ho;cases ho
  rw [aL _ _ _ iQ,aL _ _ _ iQ,aL _ _ _ iQ] at ho
  exact ⟨iQ,ho⟩
 obtain ⟨iQ,LA⟩:=vL
 refine rd ((aL _ _ _ iQ.symm).trans (aN ..)) (rd (aN ..) (SG (n:=n) pg fy (rd (aN ..) (rd (aN ..) (rd (aN ..) ?_)))))
 refine hq own _ LA (aN ..) ?_ iQ λa ha hn=>?_
 ·rw [aL _ _ _ iQ,aL _ _ _ iQ,aL _ _ _ iQ,aL _ _ _ iQ,aL _ _ _ iQ,aN]
 ·have pU:a≠x:=λq=>hn (q▸.head _)
  have yz:a≠own:=λq=>ha (q▸LA)
  rw [aL _ _ _ pU,aL _ _ _ pU,aL _ _ _ pU,aL _ _ _ pU,aL _ _ _ pU,aL _ _ _ yz,aL _ _ _ pU,aL _ _ _ pU,aL _ _ _ pU]
end
section
variable{G:Gx}{n:Nat}{E:Nat->WH->Prop}{H H':WH}{Q:W->WH->Prop}{A:RA}{P:PM}{st:St}{aq fr:List FA}{f:FA}{N:Nat}
theorem aK.n7(h:aK H A P st aq){a:Nat}(ha:H a=none):∀p∈i6 A P st aq,p.1≠a:=λp hp q=>by
 have:=h.led.2 p hp;rw [q,ha] at this;cases this
theorem cB.cons{H:WH}{L:List (Nat×WO)}{a:Nat}{o:WO}(h:cB H L)(e:H a=some o)(hn:∀p∈L,p.1≠a):cB H ((a,o)::L):=by
 refine ⟨?_,λp hp=>?_⟩
 ·rw [List.map_cons,List.nodup_cons]
  refine ⟨λhm=>?_,h.1⟩
  obtain ⟨p,hp,q⟩:=List.mem_map.mp hm
  exact hn p hp q
 ·rcases List.mem_cons.mp hp with h|hp
  ·exact h▸e
  ·exact h.2 p hp
theorem IF{α:Type}(a b c:α)(l1 l2:List α):(a::b::c::(l1++l2)).Perm (l1++(a::b::c::l2)):=by
 have:=(List.perm_append_comm (l₁:=[a,b,c]) (l₂:=l1)).append_right l2
 rw [List.append_assoc,List.append_assoc] at this
 exact this
theorem aK.push{s:bE}(h:aK H A P st aq)(e1:H f.c=some (.inst 215 tB (vK P f s)))(e2:H f.own=some (.dI s.own))(e3:H f.aR=some (.dI s.aR))(n1:f.c≠f.own)(n2:f.c≠f.aR)(n3:f.own≠f.aR)
 (hn:∀p∈i6 A P st aq,p.1≠f.c/\p.1≠f.own/\p.1≠f.aR)(hs:s.fn=bH\/s.fn=cu):
 aK (H.ai A.bf (.list ((f::aq).reverse.map λf=>.ref f.c))) A P {st with ay:=s::st.ay} (f::aq):=by
 have l1:=((h.led.cons e3 λp hp=>(hn p hp).2.2).cons e2 λp hp=>?_).cons e1 λp hp=>?_
 ·have l2:=l1.qD (IF _ _ _ ((i6 A P st aq).take 6) (oU P aq st.ay))
  exact ⟨l2.bL 3 (.list ((f::aq).reverse.map λf=>.ref f.c)) rfl,congrArg (·+1) h.len,mc hs h.cW⟩
 ·exact mc (P:=λp=>p.1≠_) n3.symm (λp hp=>(hn p hp).2.1) p hp
 ·exact mc (P:=λp=>p.1≠_) n1.symm (mc n2.symm λp hp=>(hn p hp).1) p hp
theorem SH(h:aK H A P st aq):∀a∈fp A aq,H a≠none:=by
 have hf:∀{aq:List FA} {ay:List bE},aq.length=ay.length->∀a∈aq.flatMap (λf=>[f.c,f.own,f.aR]),∃o,(a,o)∈oU P aq ay:=by
  intro aq
  induction aq with
  |nil=>intro ay _ a ha;cases ha
  |cons f aq ih=>
   intro ay e a ha
   induction ay with
   |nil=>cases e
   |cons s ay=>
    rw [List.flatMap_cons] at ha
    rcases List.mem_append.mp ha with ha|ha
    ·exact mc (P:=λa=>∃o,(a,o)∈oU P (f::aq) (s::ay)) ⟨_,.head _⟩ (mc ⟨_,.tail _ (.head _)⟩ (mc ⟨_,.tail _ (.tail _ (.head _))⟩ λZaa q=>by cases q)) a ha
    ·obtain ⟨o,ho⟩:=ih (Nat.succ.inj e) a ha
     exact ⟨o,.tail _ (.tail _ (.tail _ ho))⟩
 intro a ha
 have:∃o,(a,o)∈i6 A P st aq:=by
  unfold fp at ha
  rcases List.mem_cons.mp ha with h|ha
  ·exact h▸⟨_,.head _⟩
  ·rcases List.mem_cons.mp ha with h|ha
   ·exact h▸⟨_,.tail _ (.head _)⟩
   ·rcases List.mem_cons.mp ha with h|ha
    ·exact h▸⟨_,.tail _ (.tail _ (.head _))⟩
    ·rcases List.mem_cons.mp ha with h|ha
     ·exact h▸⟨_,.tail _ (.tail _ (.tail _ (.head _)))⟩
     ·rcases List.mem_cons.mp ha with h|ha
      ·exact h▸⟨_,.tail _ (.tail _ (.tail _ (.tail _ (.head _))))⟩
      ·obtain ⟨o,ho⟩:=hf h.len a ha
       exact ⟨o,.tail _ (.tail _ (.tail _ (.tail _ (.tail _ (.tail _ ho)))))⟩
 obtain ⟨o,ho⟩:=this
 rw [h.led.2 _ ho];exact Option.some_ne_none _
theorem qo{F:List Nat}{H H':WH}{a:Nat}(k:Fr F H H')(ha:H' a=none):a∈F\/H a=none:=by
 by_cases hm:a∈F
 ·exact .inl hm
 ·refine .inr ?_
  cases z:H a with
  |none=>rfl
  |some o=>rw [k a (by rw [z];exact Option.some_ne_none _) hm,z] at ha;cases ha
theorem Bd:∀p∈i6 A P st aq,p.1∈A.mf::fp A aq:=by
 unfold i6 fp
 exact mc (.tail _ (.head _)) (mc (.tail _ (.tail _ (.head _))) (mc (.tail _ (.tail _ (.tail _ (.head _)))) (mc (.tail _ (.tail _ (.tail _ (.tail _ (.head _))))) (mc (.tail _ (.tail _ (.tail _ (.tail _ (.tail _ (.head _)))))) (mc (.head _) λp hp=>.tail _ (.tail _ (.tail _ (.tail _ (.tail _ (.tail _ (Fz p hp)))))))))))
theorem U8{nm:List Nat}(h:nm=bH\/nm=cu):(nm=bH/\aI P nm=P.f)\/(nm=cu/\aI P nm=P.g):=by
 rcases h with rfl|rfl
 ·exact .inl ⟨rfl,rfl⟩
 ·exact .inr ⟨rfl,rfl⟩
theorem aK.keep{F:List Nat}(h:aK H A P st aq)(k:Fr F H H')(hd:∀p∈i6 A P st aq,p.1∉F):aK H' A P st aq:=⟨h.led.keep k hd,h.len,h.cW⟩
theorem EZ(h:aK H A P st aq):(aq.reverse.map λf=>W.ref f.c).length=st.ay.length:=by rw [List.length_map,List.length_reverse,h.len]
noncomputable def kL(t:aJ)(aB:KV)(i:Nat):KV:=(t.bh.take i).filterMap λr=>(aB.aE r).map λv=>(r,v)
theorem zQ(t:aJ)(aB:KV)(i:Nat):(kL t aB i).length<=11:=Nat.le_trans (List.length_filterMap_le ..) (by rw [List.length_take];have:=rM t;lia)
theorem zR(t:aJ)(aB:KV){i:Nat}(h:t.bh.length<=i):kL t aB i=e9 t aB:=by unfold kL e9;rw [List.take_of_length_le h]
theorem WS.kU{n k:Nat}{d:W}(h:(WS.r n).at k=some d):d=.int k/\k<n:=by
 have h:(if k<n then some (W.int k) else none)=some d:=h
 split at h
 ·obtain rfl:=Option.some.inj h;exact ⟨rfl,by assumption⟩
 ·cases h
theorem GL(pg:aP G)(hP:P.wf){nm:List Nat}{aH:List Int}(cF:nm=bH\/nm=cu)(hR:aK H A P st aq)(hsz:st.Sz N)
 (hq:∀H' ak f,st.enter P nm (aI P nm) aH=.ok ak->aK H' A P ak (f::aq)->Fr (fp A aq) H H'->H f.c=none->H f.own=none->H f.aR=none->Q .aZ H')
 (he:∀H',st.enter P nm (aI P nm) aH=.fj st->aK H' A P st aq->Fr (fp A aq) H H'->E 51 H'):WV G (n+6) 275 [.ref A.r,dc P.t.ah nm (aI P nm),.af (au aH)] Q E H:=by
 have hl:=hsz.le
 have kg:=gM hP cF
 have hw:=Am kg
 have jx:=EZ hR
 refine aF pg pg.XE rfl (rd hR.self (rd hR.bf ⟨by rw [jx];exact Nat.le_trans hsz.ay (by decide),bI (λh=>⟨Nat.le_add_left 4 (n+1),he H (if_pos (by rw [jx] at h;lia)) hR .rf⟩) λh64=>.inl λk hk=>?_⟩))
 rw [jx] at h64
 have h64:¬64<=st.ay.length:=by lia
 refine rd (hR.new hk _).self ⟨λi=>J1 (λu=>[some (.ref A.r),some (dc P.t.ah nm (aI P nm)),some (.af (au aH)),some (.ref k),u,none,none]) (λH1=>H1=H.ai k (.dI (kL P.t st.aB i))),⟨_,rfl,rfl⟩,λi d m H1 hi=>j1 λu H2 e=>?_,λm H1=>j1 λu H2 e=>?_⟩
 ·obtain ⟨x,rfl,hx⟩:=jf hi
  have r2:aK H2 A P st aq:=e▸hR.new hk _
  have hs:kL P.t st.aB (i+1)=_:=MJ (MK P.t) hx
  refine rd r2.self (rd r2.aB (oB (λv hv=>?_) λhv=>?_))
  ·rw [hv] at hs
   have e1:H2 k=some (.dI (kL P.t st.aB i)):=by rw [e,aN]
   refine rd r2.self (rd r2.aB (rd hv (rd e1 ⟨Nat.le_trans (zQ ..) (by decide),_,.rf,_,rfl,?_⟩)))
   rw [e,cg,hs];rfl
  ·rw [hv] at hs
   exact ⟨_,.rf,_,rfl,by rw [e,hs];rfl⟩
 rw [zR _ _ (kB _)] at e
 have r2:aK H2 A P st aq:=e▸hR.new hk _
 have k2:Fr (fp A aq) H H2:=e▸.new hk _
 have ek:H2 k=some (.dI (e9 P.t st.aB)):=by rw [e,aN]
 refine rd r2.self λx hx=>ML (n:=n) pg (aN ..) (by have:=kg.slots.1;lia) λown H3 ho e1 e2 iQ k3=>⟨rfl,.keep ?_⟩
 have CU:x≠k:=λq=>by rw [q,ek] at hx;cases hx
 have vq:Fr [x] H2 H3:=(Fr.new hx _).tr k3
 have yr:H2 own=none:=by rw [aL _ _ _ iQ] at ho;exact ho
 have hok:own≠k:=λq=>by rw [q,ek] at yr;cases yr
 have r3:aK H3 A P st aq:=r2.keep vq λp hp hm=>r2.n7 hx p hp (List.mem_singleton.mp hm)
 have kk:H3 k=some (.dI (e9 P.t st.aB)):=vq.at ek λhm=>CU (List.mem_singleton.mp hm).symm
 have yY:H x=none:=by rw [e,aL _ _ _ CU] at hx;exact hx
 have vL:H own=none:=by rw [e,aL _ _ _ hok] at yr;exact yr
 have k4:Fr (fp A aq) H H3:=k2.trans vq λa ha=>.inr (List.mem_singleton.mp ha▸yY)
 have hby:=wH hP
 refine rd e1 (rd e1 (rd r3.self (bI (λnR=>⟨Nat.le_add_left 4 (n+1),he H3 (by unfold St.enter;rw [if_neg h64,if_pos (by lia)]) r3 k4⟩) λnR=>?_)))
 have iJ:st.enter P nm (aI P nm) aH=.ok {st with ay:=⟨nm,0,0,[],st.free,e9 P.t st.aB,aH⟩::st.ay,cells:=dP st.cells st.free (aI P nm).bu.toNat,free:=st.free+(aI P nm).bu}:=by unfold St.enter;rw [if_neg h64,if_neg (by lia)]
 have em:A.mem≠x:=λq=>r2.n7 hx _ (.tail _ (.head _)) q
 refine rd e1 ⟨⟨by show-1000000000<=(aI P nm).bu;lia,by show (aI P nm).bu<=1000000000;lia⟩,λi=>J1 (λv=>[some (.ref A.r),some (dc P.t.ah nm (aI P nm)),some (.af (au aH)),some (.ref k),u,some (.ref x),v]) (λH1=>H1=H3.ai A.mem (.dI (dP st.cells st.free i))),⟨_,rfl,?_⟩,λi d m H1 hi=>j1 λv H4 e4=>?_,λm H1=>j1 λv H4 e4=>?_⟩
 ·funext b
  unfold WH.ai
  by_cases q:b=A.mem
  ·rw [if_pos q,q,r3.mem];rfl
  ·rw [if_neg q]
 ·obtain ⟨rfl,bJ⟩:=WS.kU hi
  have r4:aK H4 A P {st with cells:=dP st.cells st.free i} aq:=e4▸r3.jJ _
  have x4:H4 x=_:=e4▸(aL _ _ _ em.symm).trans e1
  have zl:=wI st.cells st.free i
  have bJ:i<(aI P nm).bu.toNat:=bJ
  have:=hsz.cells
  refine rd r4.self (rd x4 (rd r4.mem ⟨by show (dP st.cells st.free i).length<=_;lia,_,.rf,_,rfl,?_⟩))
  rw [e4,cg,wB]
 ·have e4:H4=H3.ai A.mem (.dI (dP st.cells st.free (aI P nm).bu.toNat)):=e4
  have r4:aK H4 A P {st with cells:=dP st.cells st.free (aI P nm).bu.toNat} aq:=e4▸r3.jJ _
  have k5:Fr (fp A aq) H H4:=e4▸k4.tr (.ai (.tail _ (.head _)) _)
  have x4:H4 x=_:=e4▸(aL _ _ _ em.symm).trans e1
  have r5:=r4.GI (st.free+(aI P nm).bu)
  have er:A.r≠x:=λq=>r2.n7 hx _ (.head _) q
  have x5:=(aL H4 A.r (.inst 330 iO (iP A P.t (st.free+(aI P nm).bu))) er.symm).trans x4
  refine rd x4 (rd x4 (rd r4.self (rd r5.self (rd r5.bf (rd r5.bf ⟨by rw [jx];exact Nat.le_trans hsz.ay (by decide),?_⟩)))))
  have hl2:(aq.reverse.map λf=>W.ref f.c)++[.ref x]=(((⟨x,own,k⟩:FA)::aq).reverse.map λf=>W.ref f.c):=by rw [List.reverse_cons,List.map_append];rfl
  have old:∀{a:Nat},H a=none->∀p∈i6 A P {st with cells:=dP st.cells st.free (aI P nm).bu.toNat,free:=st.free+(aI P nm).bu} aq,p.1≠a:=λ{a} ha p hp q=>by
   obtain ⟨p',tu,e⟩:=List.mem_map.mp (show p.1∈(i6 A P st aq).map (·.1) from List.mem_map_of_mem (f:=(·.1)) hp)
   exact hR.n7 ha p' tu (e.trans q)
  have ri:∀{a:Nat} {o:WO},H a=none->H3 a=some o->(H4.ai A.r (.inst 330 iO (iP A P.t (st.free+(aI P nm).bu)))) a=some o:=λ{a o} ha h=>by
   rw [aL _ _ _ (old ha _ (.head _)).symm,e4,aL _ _ _ (old ha _ (.tail _ (.head _))).symm];exact h
  have rp:=r5.push (f:=⟨x,own,k⟩) (s:=⟨nm,0,0,[],st.free,e9 P.t st.aB,aH⟩) (ri yY e1) (ri vL e2) (ri hk kk) iQ.symm CU hok (λp hp=>⟨old yY p hp,old vL p hp,old hk p hp⟩) cF
  exact hq _ _ ⟨x,own,k⟩ iJ (by rw [hl2];exact rp) ((k5.tr (.ai (.head _) _)).tr (.ai (.tail _ (.tail _ (.tail _ (.head _)))) _)) yY vL hk
end
section
variable{G:Gx}{n:Nat}{E:Nat->WH->Prop}{H H':WH}{Q:W->WH->Prop}{A:RA}{P:PM}{st:St}{aq fr:List FA}{f:FA}{N:Nat}
theorem lJ(a b:List Int):au (a++b)=au a++au b:=List.map_append
noncomputable def spB:List S:=[(.aC (.cmp .NotIn (.aa 3) (.attr (.attr (.aa 0) [116,97,114,103,101,116]) [115,97,118,101,100])) [(.bA (.aQ (.attr (.aa 0) [114,101,103,105,115,116,101,114,115]) [112,111,112] [(.aa 3),(.c .none)]))] [])]
theorem GN{xs:List Int}{rg:KV}{o v:W}{u:Option W}{Q':WF->WM->WH->Prop}(hR:aK H A P {st with aB:=rg} aq)(hl:rg.length<=900000)
 (hq:∀u H',RK A aq P {st with aB:=mW P.t.bh rg xs} H H'->Q' .next [some (.ref A.r),some o,some v,u] H'):oQ (.l (au xs)) (jz (gH G n (.nm 3)) E) (vG (bO G n spB) E) Q' [some (.ref A.r),some o,some v,u] H:=by
 refine ⟨λi=>J1 (λu=>[some (.ref A.r),some o,some v,u]) (RK A aq P {st with aB:=mW P.t.bh rg (xs.take i)} H),⟨_,rfl,hR,.rf⟩,λi d m H1 hi=>j1 λu H2 e=>?_,λm H1=>j1 λu H2 e=>?_⟩
 ·obtain ⟨x,rfl,hx⟩:=jf hi
  have hs:mW P.t.bh rg (xs.take (i+1))=_:=rJ _ rg xs i x hx
  have vh:=EF P.t.bh rg (xs.take i)
  refine rd e.r.self ⟨_,rfl,bI (λh=>?_) λh=>?_⟩
  ·exact ⟨_,.rf,_,rfl,by rw [hs,if_pos h];exact e⟩
  ·exact rd e.r.self (rd e.r.aB (rd e.r.aB ⟨Nat.le_trans (Nat.le_trans vh hl) (by decide),_,.rf,_,rfl,by rw [hs,if_neg h];exact e.r.mR _,e.k.tr (.ai (.tail _ (.tail _ (.head _))) _)⟩))
 ·rw [List.take_of_length_le (kB xs)] at e
  exact hq u H2 e
theorem QE(t:aJ):t.args.length<=8/\t.ko.length<=2:=by unfold aJ.args aJ.ko;split<;>decide
theorem GO(pg:aP G){aH:List Int}{v:Option Int}(hR:aK H A P st aq)(hne:st.ay≠[])(hsz:st.Sz N)
 (hq:∀H' ak,st.cA P.t aH v=.ok ak->RK A aq P ak H H'->Q .aZ H')(he:∀H' ak,st.cA P.t aH v=.bG ak->RK A aq P ak H H'->E 63 H'):WV G (n+5) 282 [.ref A.r,.af (au aH),W.dG v] Q E H:=by
 have h1:=QE P.t
 have h2:=hsz.aB
 have h3:=hsz.le
 have hk:=EF P.t.bh st.aB P.t.alloc
 have l1:(au P.t.args).length<=8:=by unfold au;rw [List.length_map];exact h1.1
 have l2:(au P.t.ko).length<=2:=by unfold au;rw [List.length_map];exact h1.2
 refine aF pg pg.XF rfl (rd hR.self (GN (n:=n+4) (rg:=st.aB) hR (by lia) λu H1 k1=>?_))
 refine rd k1.r.self ⟨by lia,.inl (rd k1.r.self ⟨by lia,.inl ⟨by lia,rd k1.r.self ⟨by rw [List.length_append,List.length_singleton];lia,?_⟩⟩⟩)⟩
 refine dN (K:=λl=>oQ (.l l) _ _ _ _ _) (b:=au (P.t.args++P.t.ko++[P.t.oh])) (by rw [lJ,lJ];rfl) (GN (n:=n+4) (st:=st) (rg:=mW P.t.bh st.aB P.t.alloc) k1.r (by lia) λu2 H2 k2=>?_)
 rw [Na] at k2
 have kk:RK A aq P (st.kK P.t) H H2:=⟨k2.r,k1.k.tr k2.k⟩
 induction aH with
 |nil=>exact hq _ _ (by induction v<;>rfl) kk
 |cons o r=>
  induction v with
  |none=>exact ⟨Nat.le_add_left 4 n,he _ _ rfl kk⟩
  |some v=>
   have hz:(st.kK P.t).Sz N:=wR hsz P.t
   exact rd kk.r.self (rd (v:=.int o) rfl (n6 (n:=n+2) pg kk.r hne hz λH3 k3=>hq _ _ rfl ⟨k3.r,kk.k.tr k3.k⟩))
theorem Fr.aV{c:Nat}:Fr [c] H (H.aV c):=λa Zaa hn=>if_neg λq=>hn (by rw [q];exact .head _)
theorem O0{c:Nat}{o:WO}(e:H c=some o):(H.aV c).ai c o=H:=by
 funext b
 show (if b=c then some o else if b=c then none else H b)=H b
 by_cases q:b=c
 ·rw [if_pos q,q,e]
 ·rw [if_neg q,if_neg q]
theorem aK.lg{s:bE}{rg ce:KV}{rest:List bE}{fe:Int}{tr:List (List Nat×List Int)}(h:aK H A P ⟨rg,s::rest,ce,fe,tr⟩ (f::fr)):aK (H.ai A.bf (.list (fr.reverse.map λf=>.ref f.c))) A P ⟨rg,rest,ce,fe,tr⟩ fr:=
 ⟨(h.led.bL 3 (.list (fr.reverse.map λf=>.ref f.c)) rfl).sub (.cons_cons _ (.cons_cons _ (.cons_cons _ (.cons_cons _ (.cons_cons _ (.cons_cons _ (.cons _ (.cons _ (.cons _ (List.Sublist.refl _)))))))))),Nat.succ.inj h.len,λx hx=>h.cW x (.tail _ hx)⟩
theorem GP:∀a∈fp A fr,a∈fp A (f::fr):=λa ha=>by
 unfold fp at ha ⊢
 rw [List.flatMap_cons]
 rcases List.mem_cons.mp ha with h|ha
 ·exact h▸.head _
 ·rcases List.mem_cons.mp ha with h|ha
  ·exact h▸.tail _ (.head _)
  ·rcases List.mem_cons.mp ha with h|ha
   ·exact h▸.tail _ (.tail _ (.head _))
   ·rcases List.mem_cons.mp ha with h|ha
    ·exact h▸.tail _ (.tail _ (.tail _ (.head _)))
    ·rcases List.mem_cons.mp ha with h|ha
     ·exact h▸.tail _ (.tail _ (.tail _ (.tail _ (.head _))))
     ·exact .tail _ (.tail _ (.tail _ (.tail _ (.tail _ (List.mem_append_right _ ha)))))
theorem QF(pg:aP G)(hP:P.wf){v:List Int}(qO:v.length<=1)(hv:∀r∈v,Rg r)(hR:aK H A P st aq)(hsz:st.Sz N){s:bE}{rest:List bE}(hf:st.ay=s::rest)
 (hkr:∀p∈s.aR,Rg p.1/\0<=p.2)(qE:∀i:Nat,i<(aI P s.fn).bu.toNat->(st.cells.aE (s.base+i)).isSome=true)(hw:0<=(aI P s.fn).bu/\(aI P s.fn).bu<=4)
 (nS:∀H' ak f fr y,aq=f::fr->P.step st (.ret v)=.ok ak->rest≠[]->aK H' A P ak fr->Fr (fp A aq) H H'->Q y H')
 (lD:∀H' ak w,P.step st (.ret v)=.done w ak->rest=[]->aK H' A P ak []->Fr (fp A aq) H H'->Q (W.dG w) H')
 (he:∀H' ak bB,P.step st (.ret v)=.bG ak->aK H' A P ak bB->Fr (fp A aq) H H'->E 63 H'):WV G (n+6) 289 [.ref A.r,fO P.t.ah (.ret v)] Q E H:=by
 revert hsz qE nS lD he
 refine hR.nE hf λf fr rg ce fe tr hR hsz qE nS lD he=>?_
 have hl:=hsz.le
 have iR:fr.length=rest.length:=Nat.succ.inj hR.len
 have z4:=hsz.ay
 have z5:=hsz.cells
 have gq:=hR.cW s (.head _)
 have main:∀w:Option Int,P.step ⟨rg,s::rest,ce,fe,tr⟩ (.ret v)=St.iz P ⟨rg,s::rest,ce,fe,tr⟩ w->bO G (n+5) (wc.drop 1) (kF Q) E [some (.ref A.r),some (fO P.t.ah (.ret v)),some (W.dG w),none,none,none,none] H:=λw hs=>by
  have r1:=hR.lg
  have c3:f.c≠A.bf:=hR.led.ne 6 3 (by decide) rfl rfl
  have k3:f.aR≠A.bf:=hR.led.ne 8 3 (by decide) rfl rfl
  have ck:f.c≠f.aR:=hR.led.ne 6 8 (by decide) rfl rfl
  have cm:f.c≠A.mem:=hR.led.ne 6 1 (by decide) rfl rfl
  have cr:f.c≠A.r:=hR.led.ne 6 0 (by decide) rfl rfl
  have nk:∀p∈i6 A P ⟨rg,rest,ce,fe,tr⟩ fr,p.1≠f.aR:=λp hp q=>by
   obtain ⟨i,hi⟩:=List.mem_iff_getElem?.mp hp
   rcases i with _|_|_|_|_|_|i
   ·obtain rfl:=Option.some.inj hi;exact hR.led.ne 0 8 (by decide) rfl rfl q
   ·obtain rfl:=Option.some.inj hi;exact hR.led.ne 1 8 (by decide) rfl rfl q
   ·obtain rfl:=Option.some.inj hi;exact hR.led.ne 2 8 (by decide) rfl rfl q
   ·obtain rfl:=Option.some.inj hi;exact hR.led.ne 3 8 (by decide) rfl rfl q
   ·obtain rfl:=Option.some.inj hi;exact hR.led.ne 4 8 (by decide) rfl rfl q
   ·obtain rfl:=Option.some.inj hi;exact hR.led.ne 5 8 (by decide) rfl rfl q
   ·exact hR.led.ne (i+9) 8 (by lia) (show (i6 A P ⟨rg,s::rest,ce,fe,tr⟩ (f::fr))[i+9]?=some (p.1,p.2) from hi) rfl q
  have f1:(H.ai A.bf (.list (fr.reverse.map λf=>.ref f.c))) f.c=_:=(aL _ _ _ c3).trans hR.fc
  have q1:(H.ai A.bf (.list (fr.reverse.map λf=>.ref f.c))) f.aR=_:=(aL _ _ _ k3).trans hR.aR
  have x1:Fr (fp A (f::fr)) H (H.ai A.bf (.list (fr.reverse.map λf=>.ref f.c))):=.ai (.tail _ (.tail _ (.tail _ (.head _)))) _
  refine rd hR.self (rd hR.bf (rd hR.bf ⟨fr.reverse.map λf=>.ref f.c,.ref f.c,by rw [List.reverse_cons,List.map_append];rfl,by rw [List.length_map,List.length_reverse,iR];exact Nat.le_trans (Nat.le_of_succ_le z4) (by decide),?_⟩))
  generalize H.ai A.bf (.list (fr.reverse.map λf=>.ref f.c))=H1 at*
  refine rd f1 (rd q1 (rd q1 (rd q1 ⟨λi=>J2 (λx y=>[some (.ref A.r),some (fO P.t.ah (.ret v)),some (W.dG w),some (.ref f.c),x,y,none]) (λH2=>H2=H1.aV f.aR/\∀j k v,j<i->s.aR[j]?=some (k,v)->rg.aE k=some v),⟨_,_,rfl,rfl,λj k v hj=>(by cases hj)⟩,λi k1 v1 m H2 hi=>j2 λx y H2 e=>?_,λm H2 hj=>?_⟩)))
  ·obtain ⟨rfl,hall⟩:=e
   have r2:aK (H1.aV f.aR) A P ⟨rg,rest,ce,fe,tr⟩ fr:=r1.keep .aV λp hp hm=>nk p hp (List.mem_singleton.mp hm)
   have x2:Fr (fp A (f::fr)) H (H1.aV f.aR):=x1.trans .aV λa ha=>.inl (List.mem_singleton.mp ha▸.tail _ (.tail _ (.tail _ (.tail _ (.tail _ (.tail _ (.tail _ (.head _))))))))
   have f2:(H1.aV f.aR) f.c=_:=(if_neg ck).trans f1
   have LC:=hkr (k1,v1) (List.mem_of_getElem? hi)
   refine rd r2.self (rd r2.aB (rd r2.aB (bI (λheq=>?_) λhne=>?_)))
   ·refine ⟨_,_,rfl,rfl,λj k v hj nT=>?_⟩
    by_cases vA:j<i
    ·exact hall j k v vA nT
    ·have:j=i:=by lia
     subst this
     rw [hi] at nT;cases nT
     cases hg:rg.aE k1 with
     |none=>rw [hg] at heq;have:(-1:Int)=v1:=heq;have:=LC.2;lia
     |some u=>rw [hg] at heq;exact congrArg some heq
   ·refine zq (n:=n+3) pg LC.1 λtx htx=>⟨by rw [show ([32,105,115,32,110,111,116,32,103,105,118,101,110,32,98,97,99,107,32,105,110,32]:List Nat).length=22 from rfl];lia,rd f2 ⟨?_,Nat.le_add_left 4 (n+1),he _ _ fr (hs.trans ?_) r2 x2⟩⟩
    ·have cF:s.fn.length=1:=by rcases gq with e|e<;>rw [e]<;>rfl
     rw [List.length_append,cF,show ([32,105,115,32,110,111,116,32,103,105,118,101,110,32,98,97,99,107,32,105,110,32]:List Nat).length=22 from rfl];lia
    ·exact if_neg λhk=>hne (by rw [EU hk hi];rfl)
  ·obtain ⟨x,y,rfl,rfl,hall⟩:=hj
   have hk:xu rg s.aR=true:=List.all_eq_true.mpr λp hp=>by
    obtain ⟨j,hj⟩:=List.mem_iff_getElem?.mp hp
    exact decide_eq_true (hall j p.1 p.2 (List.getElem?_eq_some_iff.mp hj).1 hj)
   have fR:P.step ⟨rg,s::rest,ce,fe,tr⟩ (.ret v)=if rest=[] then .done w ⟨rg,rest,dh ce s.base (aI P s.fn).bu.toNat,s.base,tr⟩ else (St.mk rg rest (dh ce s.base (aI P s.fn).bu.toNat) s.base tr).cA P.t s.aH w:=hs.trans (if_pos hk)
   refine ⟨if_pos rfl,dN (K:=nx (bO G (n+5) (wc.drop 3) (kF Q) E) (kF Q) .next _) (O0 q1) ?_⟩
   refine rd f1 ⟨⟨by show-1000000000<=(aI P s.fn).bu;lia,by show (aI P s.fn).bu<=1000000000;lia⟩,λi=>J1 (λv'=>[some (.ref A.r),some (fO P.t.ah (.ret v)),some (W.dG w),some (.ref f.c),x,y,v']) (λH3=>H3=H1.ai A.mem (.dI (dh ce s.base i))),⟨_,rfl,?_⟩,λi d m Hx hi=>j1 λv' H4 e4=>?_,λm Hx=>j1 λv' H4 e4=>?_⟩
   ·funext b
    unfold WH.ai
    by_cases q:b=A.mem
    ·rw [if_pos q,q,r1.mem];rfl
    ·rw [if_neg q]
   ·obtain ⟨rfl,bJ⟩:=WS.kU hi
    have bJ:i<(aI P s.fn).bu.toNat:=bJ
    have r4:aK H4 A P ⟨rg,rest,dh ce s.base i,fe,tr⟩ fr:=e4▸r1.jJ _
    have f4:H4 f.c=_:=e4▸(aL _ _ _ cm).trans f1
    have ul:=rH ce s.base i
    have hg:(dh ce s.base i).aE (s.base+i)=ce.aE (s.base+i):=by rw [tU,if_neg (by lia)]
    obtain ⟨u,hu⟩:=Option.isSome_iff_exists.mp (qE i bJ)
    refine rd r4.self (rd r4.mem (rd f4 (rd r4.mem ⟨Nat.le_trans ul (Nat.le_trans z5 (Nat.le_trans hl (by decide))),rd (hg.trans hu) ⟨_,.rf,_,rfl,?_⟩⟩)))
    rw [e4,cg,wo]
   ·have e4:H4=H1.ai A.mem (.dI (dh ce s.base (aI P s.fn).bu.toNat)):=e4
    have r4:aK H4 A P ⟨rg,rest,dh ce s.base (aI P s.fn).bu.toNat,fe,tr⟩ fr:=e4▸r1.jJ _
    have f4:H4 f.c=_:=e4▸(aL _ _ _ cm).trans f1
    have r5:=r4.GI s.base
    have f5:=(aL H4 A.r (.inst 330 iO (iP A P.t s.base)) cr).trans f4
    have x5:Fr (fp A (f::fr)) H (H4.ai A.r (.inst 330 iO (iP A P.t s.base))):=(e4▸x1.tr (.ai (.tail _ (.head _)) _):Fr (fp A (f::fr)) H H4).tr (.ai (.head _) _)
    refine rd f4 (rd r4.self ?_)
    clear hR nk r1 x1 r4
    induction fr with
    |nil=>
     have hr:rest=[]:=List.length_eq_zero_iff.mp iR.symm
     exact rd r5.self (rd r5.bf ⟨Nat.zero_le _,lD _ _ w (fR.trans (if_pos hr)) hr (hr▸r5) x5⟩)
    |cons g gs=>
     have hr:rest≠[]:=λq=>by rw [q] at iR;cases iR
     obtain ⟨y1,ys,hy⟩:∃y ys,((g::gs).reverse.map λf=>W.ref f.c)=y::ys:=by
      cases h:((g::gs).reverse.map λf=>W.ref f.c) with
      |nil=>have:=congrArg List.length h;rw [List.length_map,List.length_reverse] at this;cases this
      |cons y ys=>exact ⟨y,ys,rfl⟩
     have rj:(y1::ys).length<=1000000:=by rw [<-hy,List.length_map,List.length_reverse,iR];exact Nat.le_trans (Nat.le_of_succ_le z4) (by decide)
     have hb:∀{o},(St.mk rg rest (dh ce s.base (aI P s.fn).bu.toNat) s.base tr).cA P.t s.aH w=o->P.step ⟨rg,s::rest,ce,fe,tr⟩ (.ret v)=o:=λe=>fR.trans ((if_neg hr).trans e)
     have hz:(St.mk rg rest (dh ce s.base (aI P s.fn).bu.toNat) s.base tr).Sz N:=⟨hsz.aB,Nat.le_trans (rH ..) z5,hsz.trace,Nat.le_of_succ_le z4,λx hx=>hsz.own x (.tail _ hx),hsz.le⟩
     have xf:∀a∈fp A (g::gs),a∈fp A (f::g::gs)\/H a=none:=λa ha=>.inl (GP a ha)
     have c5:=r5.bf
     rw [hy] at c5
     refine rd r5.self (rd c5 ⟨rj,rd r5.self (rd f5 (GO (n:=n) pg r5 hr hz (λH6 ak e k=>?_) λH6 ak e k=>?_))⟩)
     ·exact nS _ ak f _ _ rfl (hb e) hr k.r (x5.trans k.k xf)
     ·exact he _ ak _ (hb e) k.r (x5.trans k.k xf)
 clear nS lD
 revert hv he main
 refine Iq qO (λhv he main=>?_) λr hv he main=>?_
 ·exact aF pg pg.Jg rfl (main none rfl)
 ·
  refine aF pg pg.Jg rfl (rd hR.self (rd (v:=.int r) rfl (ql (n:=n) pg hR (hv r (.head _)) (List.cons_ne_nil _ _) (λw hw=>main (some w) ?_) λhw=>?_)))
  ·show St.dQ _ _ _ _=_
   unfold St.dQ;rw [hw]
  ·refine he H _ _ ?_ hR .rf
   show St.dQ _ _ _ _=_
   unfold St.dQ;rw [hw]
end
section
variable{G:Gx}{n:Nat}{E:Nat->WH->Prop}{H H':WH}{Q:W->WH->Prop}{A:RA}{P:PM}{st:St}{aq fr:List FA}{f:FA}{N:Nat}
theorem Az(pg:aP G){xs:List Int}{m:WM}{Q:W->WM->WH->Prop}(k7:∀x∈xs,Rg x)(fy:xs.length<=1000)(hR:aK H A P st aq)(hne:st.ay≠[])(hm:jV m 0=some (.ref A.r))
 (hq:∀ys,cj P.t st xs=some ys->Q (.af (au ys)) m H)(he:cj P.t st xs=none->∀H',RK A aq P st H H'->E 63 H'):
 ∀D,H D=none->oW (ji m [0]) λvs=>WL (.l (au xs)) (jz (gH G (n+5) (.nm 0)) E) (pQ (je G (n+5) []) E) (pR (nO G (n+5) (.elt (.aQ (.aa 1) [114,101,97,100] [(.aa 0)]))) D E) (sO D Q m) (List.replicate 1 none++vs.map some) (H.ai D (.list [])):=λD hD=>by
 refine ia (v:=[.ref A.r]) (by unfold ji;rw [hm];rfl) ⟨λi=>J1 (λu=>[u,some (.ref A.r)]) (λH2=>∃ys,cj P.t st (xs.take i)=some ys/\H2=H.ai D (.list (au ys))),⟨_,rfl,[],rfl,rfl⟩,λi d m' H1 hi=>j1 λu H2 e=>?_,λm' H1=>j1 λu H2 e=>?_⟩
 ·obtain ⟨ys,hy,rfl⟩:=e
  obtain ⟨x,rfl,hx⟩:=jf hi
  have r2:=hR.new hD (.list (au ys))
  have rj:=zE hy
  refine rd r2.self (ql (n:=n) pg r2 (k7 x (List.mem_of_getElem? hx)) hne (λv hv=>?_) λhv=>he (Eb hv (List.mem_of_getElem? hx)) _ ⟨r2,.new hD _⟩)
  refine rd (aN ..) ⟨by unfold au;rw [List.length_map,rj,List.length_take];lia,_,rfl,ys++[v],?_,?_⟩
  ·rw [List.take_add_one,hx];exact Ea hv hy
  ·rw [cg,lJ];rfl
 ·obtain ⟨ys,hy,rfl⟩:=e
  rw [List.take_of_length_le (kB xs)] at hy
  have rj:=zE hy
  exact rd (aN ..) ⟨by unfold au;rw [List.length_map,rj];lia,.inl (dN (K:=Q _ m) (iu hD _) (hq ys hy))⟩
theorem GR(pg:aP G){nm:List Nat}{x y:Int}{c:Nat}{a:W}(ha:a=.aj [.int x,.int y]\/a=.af [.int x,.int y])(cF:nm∈([[103],[104],[110],[102]]:List (List Nat)))(hx:x.natAbs<2^60)(hc:c<2^60)
 (hq:Q (W.dG (n5 nm x y c)) H):WV G (n+1) 586 [.str nm,a,.int c] Q E H:=by
 have b1:x.natAbs<2^62:=Nat.lt_of_lt_of_le hx (by decide)
 have b2:(c:Int).natAbs<2^62:=Nat.lt_of_lt_of_le hc (by decide)
 have b3:(3:Int).natAbs<2^62:=by decide
 have b5:(5:Int).natAbs<2^62:=by decide
 rcases List.mem_cons.mp cF with rfl|cF
 ·rcases ha with rfl|rfl
  ·exact aF pg pg.qB rfl ⟨⟨b1,b3⟩,⟨b5,b2⟩,hq⟩
  ·exact aF pg pg.qB rfl (rd rfl ⟨⟨b1,b3⟩,rd rfl ⟨⟨b5,b2⟩,hq⟩⟩)
 rcases List.mem_cons.mp cF with rfl|cF
 ·rcases ha with rfl|rfl
  ·exact aF pg pg.qB rfl ⟨⟨b1,b3⟩,⟨b5,b2⟩,hq⟩
  ·exact aF pg pg.qB rfl (rd rfl ⟨⟨b1,b3⟩,rd rfl ⟨⟨b5,b2⟩,hq⟩⟩)
 rcases List.mem_cons.mp cF with rfl|cF
 ·exact aF pg pg.qB rfl hq
 rw [List.mem_singleton.mp cF] at hq ⊢
 rcases ha with rfl|rfl
 ·exact aF pg pg.qB rfl ⟨⟨b1,b3⟩,⟨b5,b2⟩,hq⟩
 ·exact aF pg pg.qB rfl (rd rfl ⟨⟨b1,b3⟩,rd rfl ⟨⟨b5,b2⟩,hq⟩⟩)
noncomputable def vM(A:RA)(aq bB:List FA)(H:WH):Prop:=∀a∈fp A bB,a∈fp A aq\/H a=none
theorem vM.rf:vM A aq aq H:=λa h=>.inl h
theorem SI(pg:aP G)(hP:P.wf){aH:List Int}{a b:Int}{nm:List Nat}(ha:Rg a)(hb:Rg b)(hR:aK H A P st aq)(hne:st.ay≠[])(hsz:st.Sz N)(hN:N<900000)
 (cF:nm∈([[103],[104],[110],[102]]:List (List Nat)))(qF:∀r v,st.aT P.t r=some v->v.natAbs<2^60)
 (hq:∀H' ak bB,P.step st (.call aH a b nm)=.ok ak->aK H' A P ak bB->Fr (fp A aq) H H'->vM A aq bB H->Q .aZ H')
 (rm:∀H' ak,P.step st (.call aH a b nm)=.bG ak->RK A aq P ak H H'->E 63 H')
 (pV:∀H' ak,P.step st (.call aH a b nm)=.fj ak->RK A aq P ak H H'->E 51 H'):WV G (n+7) 294 [.ref A.r,fO P.t.ah (.call aH a b nm)] Q E H:=by
 have yes:∀{Q':W->WH->Prop},(∀H',Q .aZ H'->Q' .aZ H')->nm=bH\/nm=cu->P.fF nm=some (aI P nm)->WV G (n+6) 275 [.ref A.r,dc P.t.ah nm (aI P nm),.af (au aH)] Q' E H:=λhQ h1 h2=>by
  have hs:P.step st (.call aH a b nm)=st.enter P nm (aI P nm) aH:=by show (match P.fF nm with|some fn=>_|none=>_)=_;rw [h2]
  refine GL (n:=n) pg hP h1 hR hsz (λH' ak f e r k n1 n2 n3=>hQ _ (hq H' ak _ (hs.trans e) r k λx hx=>?_)) λH' e r k=>pV H' _ (hs.trans e) ⟨r,k⟩
  unfold fp at hx ⊢
  rw [List.flatMap_cons] at hx
  rcases List.mem_cons.mp hx with h|hx
  ·exact .inl (h▸.head _)
  ·rcases List.mem_cons.mp hx with h|hx
   ·exact .inl (h▸.tail _ (.head _))
   ·rcases List.mem_cons.mp hx with h|hx
    ·exact .inl (h▸.tail _ (.tail _ (.head _)))
    ·rcases List.mem_cons.mp hx with h|hx
     ·exact .inl (h▸.tail _ (.tail _ (.tail _ (.head _))))
     ·rcases List.mem_cons.mp hx with h|hx
      ·exact .inl (h▸.tail _ (.tail _ (.tail _ (.tail _ (.head _)))))
      ·rcases List.mem_cons.mp hx with h|hx
       ·exact .inr (h▸n1)
       ·rcases List.mem_cons.mp hx with h|hx
        ·exact .inr (h▸n2)
        ·rcases List.mem_cons.mp hx with h|hx
         ·exact .inr (h▸n3)
         ·exact .inl (.tail _ (.tail _ (.tail _ (.tail _ (.tail _ hx)))))
 have z1:=hsz.trace
 have z3:=hsz.le
 have no:P.fF nm=none->bO G (n+6) (zu.drop 1) (kF Q) E [some (.ref A.r),some (fO P.t.ah (.call aH a b nm)),none,none] H:=λh2=>by
  have hs:P.step st (.call aH a b nm)=st.cU P.t a b λx y=>({st with trace:=st.trace++[(nm,[x,y])]}:St).cA P.t aH (n5 nm x y st.trace.length):=by show (match P.fF nm with|some fn=>_|none=>_)=_;rw [h2]
  refine Az (n:=n+1) pg (λx hx=>by rcases List.mem_cons.mp hx with rfl|hx;exact ha;rw [List.mem_singleton.mp hx];exact hb) (show 2<=1000 by decide) hR hne rfl (λys hy=>?_) λhn H' k=>rm H' st (hs.trans ?_) k
  ·have hy:cj P.t st [a,b]=some ys:=hy
   rw [jI] at hy
   cases e1:st.aT P.t a with
   |none=>rw [e1] at hy;cases hy
   |some x=>
    cases e2:st.aT P.t b with
    |none=>rw [e1,e2] at hy;cases hy
    |some y=>
     rw [e1,e2] at hy;obtain rfl:=Option.some.inj hy
     have fR:P.step st (.call aH a b nm)=({st with trace:=st.trace++[(nm,[x,y])]}:St).cA P.t aH (n5 nm x y st.trace.length):=hs.trans (by unfold St.cU;rw [e1,e2])
     have hl:(st.trace.map eE).length<=1000000:=by rw [List.length_map];lia
     rw [<-List.length_map (f:=eE)] at fR
     have rt:=hR.A7 (st.trace++[(nm,[x,y])])
     have hz:({st with trace:=st.trace++[(nm,[x,y])]}:St).Sz (N+1):=⟨Nat.le_trans hsz.aB (Nat.le_succ _),Nat.le_trans hsz.cells (Nat.le_succ _),by rw [List.length_append];exact Nat.succ_le_succ z1,hsz.ay,λf hf=>Nat.le_trans (hsz.own f hf) (Nat.le_succ _),by lia⟩
     refine ⟨show 2<=1000000 by decide,rd hR.self (rd hR.self (rd hR.self (rd hR.eO ⟨hl,GR (n:=n+5) (c:=(st.trace.map eE).length) pg (.inl rfl) cF (qF a x e1) (by lia) ?_⟩)))⟩
     rw [List.map_append] at rt
     have kt:Fr (fp A aq) H (H.ai A.eO (.list (st.trace.map eE++[(nm,[x,y])].map eE))):=.ai (.tail _ (.tail _ (.tail _ (.tail _ (.head _))))) _
     exact rd hR.self (rd hR.eO (rd hR.eO ⟨hl,rd rt.self (GO (n:=n+1) pg rt hne hz (λH' ak e k=>hq H' ak _ (fR.trans e) k.r (kt.tr k.k) .rf) λH' ak e k=>rm H' ak (fR.trans e) ⟨k.r,kt.tr k.k⟩)⟩))
  ·have hn:cj P.t st [a,b]=none:=hn
   rw [jI] at hn
   unfold St.cU
   cases e1:st.aT P.t a with
   |none=>rfl
   |some x=>
    cases e2:st.aT P.t b with
    |none=>rfl
    |some y=>rw [e1,e2] at hn;cases hn
 clear hq rm pV
 rcases List.mem_cons.mp cF with h|hm
 ·clear cF no;subst h;exact aF pg pg.yi rfl (rd hR.self (rd hR.mf (rd hR.self (rd hR.self (rd hR.mf (yes (λZaa h=>h) (.inr rfl) rfl))))))
 clear cF
 rcases List.mem_cons.mp hm with h|hn
 ·clear hm yes;subst h;exact aF pg pg.yi rfl (rd hR.self (rd hR.mf (no rfl)))
 clear hm
 rcases List.mem_cons.mp hn with h|hm
 ·clear hn yes;subst h;exact aF pg pg.yi rfl (rd hR.self (rd hR.mf (no rfl)))
 have h:=List.mem_singleton.mp hm
 clear hn hm no
 subst h;exact aF pg pg.yi rfl (rd hR.self (rd hR.mf (rd hR.self (rd hR.self (rd hR.mf (yes (λZaa h=>h) (.inl rfl) rfl))))))
end
section
variable{G:Gx}{n:Nat}{E:Nat->WH->Prop}{H H':WH}{Q:W->WH->Prop}{b k:Nat}{x y:Int}
theorem nX(pg:aP G)(hb:3<=b/\b<=8)(hx:Wd b x)(hq:Q (.int (gV b x)) H):WV G (n+1) 341 [.int x,.int b] Q E H:=by
 have hs:=OI hb hx
 have e2:(1:Int)*2^((b:Int)).toNat=2^b:=by rw [Int.toNat_natCast,Int.one_mul]
 refine aF pg pg.XJ rfl ⟨by lia,bI (λh=>⟨⟨by lia,by lia,by decide⟩,dN (K:=λi=>Q (.int i) H) ?_ hq⟩) λh=>dN (K:=λi=>Q (.int i) H) ?_ hq⟩
 ·rw [e2];unfold gV;rw [if_pos (by have:=mt hs.mpr h;lia)]
 ·unfold gV;rw [if_neg (hs.mp (Decidable.not_not.mp h))]
theorem Af(pg:aP G){op:List Nat}(fK:op∈([[115,108,116,117],[98,108,116,117],[98,103,101,117]]:List (List Nat)))(hq:BC (x<y) λc=>Q (.dF (c==!(bP op [98,103,101,117]))) H):WV G (n+2) 369 [.str op,.int x,.int y,.int b] Q E H:=by
 rcases List.mem_cons.mp fK with rfl|fK
 ·exact aF pg pg.oM rfl hq
 rcases List.mem_cons.mp fK with rfl|fK
 ·exact aF pg pg.oM rfl hq
 rw [List.mem_singleton.mp fK] at hq ⊢
 exact aF pg pg.oM rfl hq
theorem AA(pg:aP G){op:List Nat}(hb:3<=b/\b<=8)(hx:Wd b x)(hy:Wd b y)(fK:op∈([[115,108,116],[98,108,116],[98,103,101]]:List (List Nat)))(hq:BC (gV b x<gV b y) λc=>Q (.dF (c==!(bP op [98,103,101]))) H):WV G (n+2) 369 [.str op,.int x,.int y,.int b] Q E H:=by
 rcases List.mem_cons.mp fK with rfl|fK
 ·exact aF pg pg.oM rfl (nX (n:=n) pg hb hx (nX (n:=n) pg hb hy hq))
 rcases List.mem_cons.mp fK with rfl|fK
 ·exact aF pg pg.oM rfl (nX (n:=n) pg hb hx (nX (n:=n) pg hb hy hq))
 rw [List.mem_singleton.mp fK] at hq ⊢
 exact aF pg pg.oM rfl (nX (n:=n) pg hb hx (nX (n:=n) pg hb hy hq))
theorem FE(pg:aP G){op:List Nat}(fK:op∈([[98,101,113],[98,110,101]]:List (List Nat)))(hq:BC (x=y) λc=>Q (.dF (c==bP op [98,101,113])) H):WV G (n+2) 369 [.str op,.int x,.int y,.int b] Q E H:=by
 rcases List.mem_cons.mp fK with rfl|fK
 ·exact aF pg pg.oM rfl hq
 rw [List.mem_singleton.mp fK] at hq ⊢
 exact aF pg pg.oM rfl hq
noncomputable def iE(c:Bool):Int:=match c with|true=>1|false=>0
theorem jQ{c:Bool}{c':Bool}(e:c=c')(hq:Q (.int (iE c)) H):Q (.int (iE c')) H:=e▸hq
theorem GU(pg:aP G)(hb:3<=b/\b<=8)(hx:Wd b x)(hy:Wd b y)(hk:k<8)(hq:∀w,w%2^b=cN b k x y->Q (.int w) H):WV G (n+3) 376 [.str (gi k),.int x,.int y,.int b] Q E H:=by
 have h8:=gA hb
 obtain ⟨x0,x1⟩:=id hx
 obtain ⟨y0,y1⟩:=id hy
 have hr:∀k,cN b k x y%2^b=cN b k x y:=λk=>Hv (EV hb hx hy)
 have dO:(1:Int)%2^b=1:=Int.emod_eq_of_lt (by decide) (by lia)
 have zero:(0:Int)%2^b=0:=Int.zero_emod _
 revert hq
 exact mD hk (λhq=>aF pg pg.iZ rfl (hq _ rfl)) (λhq=>aF pg pg.iZ rfl (hq _ rfl)) (λhq=>aF pg pg.iZ rfl (hq _ (hr 2))) (λhq=>aF pg pg.iZ rfl (hq _ (hr 3))) (λhq=>aF pg pg.iZ rfl (hq _ (hr 4)))
  (λhq=>aF pg pg.iZ rfl ⟨⟨by lia,by lia⟩,hq _ rfl⟩) (λhq=>aF pg pg.iZ rfl (AA (n:=n) pg hb hx hy (.head _) (bI (λh=>hq 1 (dO.trans (if_pos h).symm)) λh=>hq 0 (zero.trans (if_neg h).symm))))
  λhq=>aF pg pg.iZ rfl (Af (n:=n) pg (.head _) (bI (λh=>hq 1 (dO.trans (if_pos h).symm)) λh=>hq 0 (zero.trans (if_neg h).symm)))
theorem xQ{i j:Int}(h:i=j):(i==j)=true:=beq_iff_eq.mpr h
theorem xR{i j:Int}(h:¬i=j):(i==j)=false:=beq_eq_false_iff_ne.mpr h
theorem QG(pg:aP G)(hb:3<=b/\b<=8)(hx:Wd b x)(hy:Wd b y)(hk:k<6)(hq:Q (.int (iE (gX b k x y))) H):WV G (n+3) 376 [.str (kG false k),.int x,.int y,.int b] Q E H:=by
 revert hq
 exact pO hk (λhq=>aF pg pg.iZ rfl (FE (n:=n) pg (.head _) (bI (λh=>jQ (c':=true) (xQ h) hq) λh=>jQ (c':=false) (xR h) hq)))
  (λhq=>aF pg pg.iZ rfl (FE (n:=n) pg (.tail _ (.head _)) (bI (λh=>jQ (c':=false) (congrArg not (xQ h)) hq) λh=>jQ (c':=true) (congrArg not (xR h)) hq)))
  (λhq=>aF pg pg.iZ rfl (AA (n:=n) pg hb hx hy (.tail _ (.head _)) (bI (λh=>jQ (c':=true) (decide_eq_true h) hq) λh=>jQ (c':=false) (decide_eq_false h) hq)))
  (λhq=>aF pg pg.iZ rfl (AA (n:=n) pg hb hx hy (.tail _ (.tail _ (.head _))) (bI (λh=>jQ (c':=false) (congrArg not (decide_eq_true h)) hq) λh=>jQ (c':=true) (congrArg not (decide_eq_false h)) hq)))
  (λhq=>aF pg pg.iZ rfl (Af (n:=n) pg (.tail _ (.head _)) (bI (λh=>jQ (c':=true) (decide_eq_true h) hq) λh=>jQ (c':=false) (decide_eq_false h) hq)))
  λhq=>aF pg pg.iZ rfl (Af (n:=n) pg (.tail _ (.tail _ (.head _))) (bI (λh=>jQ (c':=false) (congrArg not (decide_eq_true h)) hq) λh=>jQ (c':=true) (congrArg not (decide_eq_false h)) hq))
theorem HM(b:Nat):(2:Int)^((b:Int)).toNat=2^b:=by rw [Int.toNat_natCast]
theorem ug(hb:3<=b/\b<=8):0<=(b:Int)/\(b:Int)<=64/\(2:Int).natAbs<2^62:=⟨by lia,by lia,by decide⟩
theorem uh(hb:3<=b/\b<=8):(2:Int)^((b:Int)).toNat≠0:=by have:=gA hb;rw [HM];lia
theorem rq(b:Nat)(w:Int):w.fmod ((2:Int)^((b:Int)).toNat)=w%2^b:=by rw [HM,vB]
theorem q1{i j:Int}(e:i=j)(hq:Q (.af [.int j]) H):Q (.af [.int i]) H:=e▸hq
theorem U9(pg:aP G){u:W}(hb:3<=b/\b<=8)(hx:Wd b x)(hy:Wd b y)(hk:k<8)(hq:Q (.af [.int (cN b k x y)]) H):WV G (n+4) 383 [.str (gi k),.af [.int x,.int y],u,.int b] Q E H:=by
 have p:=ug hb
 have m:=uh hb
 have f:∀w,w%2^b=cN b k x y->w.fmod ((2:Int)^((b:Int)).toNat)=cN b k x y:=λw h=>(rq b w).trans h
 have v:∀{Q':W->WH->Prop},(∀w,w%2^b=cN b k x y->Q' (.int w) H)->WV G (n+3) 376 [.str (gi k),.int x,.int y,.int b] Q' E H:=GU pg hb hx hy hk
 revert hq f v
 refine mD hk ?_ ?_ ?_ ?_ ?_ ?_ ?_ ?_<;>exact λhq f v=>aF pg pg.BX rfl ⟨p,.inl (rd rfl (rd rfl (v λw h=>⟨m,q1 (f w h) hq⟩)))⟩
theorem Va(pg:aP G){v:Int}(hb:3<=b/\b<=8)(hx:Wd b x)(hk:k<4)(hq:Q (.af [.int (cN b (gj k) x (v%2^b))]) H):WV G (n+4) 383 [.str (mQ k),.af [.int x],.int v,.int b] Q E H:=by
 have p:=ug hb
 have m:=uh hb
 have h8:=gA hb
 have hv:Wd b (v%2^b):=⟨Int.emod_nonneg _ (by lia),Int.emod_lt_of_pos _ (by lia)⟩
 have f:∀w,w%2^b=cN b (gj k) x (v%2^b)->w.fmod ((2:Int)^((b:Int)).toNat)=cN b (gj k) x (v%2^b):=λw h=>(rq b w).trans h
 have g:gj k<8:=pN hk (by decide) (by decide) (by decide) (by decide)
 have c:∀{Q':W->WH->Prop},(∀w,w%2^b=cN b (gj k) x (v%2^b)->Q' (.int w) H)->WV G (n+3) 376 [.str (gi (gj k)),.int x,.int (v.fmod ((2:Int)^((b:Int)).toNat)),.int b] Q' E H:=by rw [rq];exact GU pg hb hx hv g
 revert hq f c
 refine pN hk ?_ ?_ ?_ ?_<;>exact λhq f c=>aF pg pg.BX rfl ⟨p,.inl (rd rfl ⟨m,c λw h=>⟨m,q1 (f w h) hq⟩⟩)⟩
theorem Vb(pg:aP G){u:W}(hb:3<=b/\b<=8)(hx:Wd b x)(hy:Wd b y)(hk:k<6)(hq:Q (.af [.int (iE (gX b k x y))]) H):WV G (n+4) 383 [.str (kG false k),.af [.int x,.int y],u,.int b] Q E H:=by
 have p:=ug hb
 have m:=uh hb
 have h8:=gA hb
 have f:(iE (gX b k x y)).fmod ((2:Int)^((b:Int)).toNat)=iE (gX b k x y):=by
  rw [rq]
  cases gX b k x y with
  |true=>exact Int.emod_eq_of_lt (by decide) (by show (1:Int)<_;lia)
  |false=>exact Int.zero_emod _
 have v:∀{Q':W->WH->Prop},Q' (.int (iE (gX b k x y))) H->WV G (n+3) 376 [.str (kG false k),.int x,.int y,.int b] Q' E H:=QG pg hb hx hy hk
 revert hq f v
 refine pO hk ?_ ?_ ?_ ?_ ?_ ?_<;>exact λhq f v=>aF pg pg.BX rfl ⟨p,.inl (rd rfl (rd rfl (v ⟨m,q1 f hq⟩)))⟩
end
section
variable{G:Gx}{n:Nat}{E:Nat->WH->Prop}{H H':WH}{Q:W->WH->Prop}{b k:Nat}{x y:Int}
theorem oA(pg:aP G){op:List Nat}{p:Prop}(hb:3<=b/\b<=8)(hx:Wd b x)(hy:Wd b y)(fK:(op=[115,101,113]/\p=(x=y))\/(op=[115,108,116]/\p=(gV b x<gV b y))\/op=[115,108,116,117]/\p=(x<y))(hq:BC p λc=>Q (.int (iE c)) H):WV G (n+3) 443 [.str op,.int x,.int y,.int b] Q E H:=by
 rcases fK with ⟨rfl,rfl⟩|⟨rfl,rfl⟩|⟨rfl,rfl⟩
 ·exact aF pg pg.nC rfl hq
 ·exact aF pg pg.nC rfl (nX (n:=n+1) pg hb hx (nX (n:=n+1) pg hb hy hq))
 ·exact aF pg pg.nC rfl hq
theorem GV(pg:aP G)(hb:3<=b/\b<=8)(hx:Wd b x)(hy:Wd b y)(hk:k<8)(hq:∀w,w%2^b=cN b k x y->Q (.int w) H):WV G (n+3) 443 [.str (gi k),.int x,.int y,.int b] Q E H:=by
 have h8:=gA hb
 obtain ⟨x0,x1⟩:=id hx
 obtain ⟨y0,y1⟩:=id hy
 have hr:∀k,cN b k x y%2^b=cN b k x y:=λk=>Hv (EV hb hx hy)
 have dO:(1:Int)%2^b=1:=Int.emod_eq_of_lt (by decide) (by lia)
 have zero:(0:Int)%2^b=0:=Int.zero_emod _
 revert hq
 exact mD hk (λhq=>aF pg pg.nC rfl (hq _ rfl)) (λhq=>aF pg pg.nC rfl (hq _ rfl)) (λhq=>aF pg pg.nC rfl (hq _ (hr 2))) (λhq=>aF pg pg.nC rfl (hq _ (hr 3))) (λhq=>aF pg pg.nC rfl (hq _ (hr 4)))
  (λhq=>aF pg pg.nC rfl ⟨⟨by lia,by lia⟩,hq _ rfl⟩) (λhq=>oA pg hb hx hy (.inr (.inl ⟨rfl,rfl⟩)) (bI (λh=>hq 1 (dO.trans (if_pos h).symm)) λh=>hq 0 (zero.trans (if_neg h).symm)))
  λhq=>oA pg hb hx hy (.inr (.inr ⟨rfl,rfl⟩)) (bI (λh=>hq 1 (dO.trans (if_pos h).symm)) λh=>hq 0 (zero.trans (if_neg h).symm))
theorem SJ(pg:aP G){u:W}(hb:3<=b/\b<=8)(hx:Wd b x)(hy:Wd b y)(hk:k<8)(hq:Q (.af [.int (cN b k x y)]) H):WV G (n+4) 450 [.str (gi k),.af [.int x,.int y],u,.int b] Q E H:=by
 have p:=ug hb
 have m:=uh hb
 have f:∀w,w%2^b=cN b k x y->w.fmod ((2:Int)^((b:Int)).toNat)=cN b k x y:=λw h=>(rq b w).trans h
 have v:∀{Q':W->WH->Prop},(∀w,w%2^b=cN b k x y->Q' (.int w) H)->WV G (n+3) 443 [.str (gi k),.int x,.int y,.int b] Q' E H:=GV pg hb hx hy hk
 revert hq f v
 refine mD hk ?_ ?_ ?_ ?_ ?_ ?_ ?_ ?_<;>exact λhq f v=>aF pg pg.oN rfl (rd rfl (rd rfl (v λw h=>⟨p,m,q1 (f w h) hq⟩)))
theorem SK(pg:aP G){v:Int}(hb:3<=b/\b<=8)(hx:Wd b x)(hk:k<4)(hq:Q (.af [.int (cN b (gj k) x (v%2^b))]) H):WV G (n+4) 450 [.str (mQ k),.af [.int x],.int v,.int b] Q E H:=by
 have p:=ug hb
 have m:=uh hb
 have h8:=gA hb
 have hv:Wd b (v%2^b):=⟨Int.emod_nonneg _ (by lia),Int.emod_lt_of_pos _ (by lia)⟩
 have f:∀w,w%2^b=cN b (gj k) x (v%2^b)->w.fmod ((2:Int)^((b:Int)).toNat)=cN b (gj k) x (v%2^b):=λw h=>(rq b w).trans h
 have g:gj k<8:=pN hk (by decide) (by decide) (by decide) (by decide)
 have c:∀{Q':W->WH->Prop},(∀w,w%2^b=cN b (gj k) x (v%2^b)->Q' (.int w) H)->WV G (n+3) 443 [.str (gi (gj k)),.int x,.int (v.fmod ((2:Int)^((b:Int)).toNat)),.int b] Q' E H:=by rw [rq];exact GV pg hb hx hv g
 revert hq f c
 refine pN hk ?_ ?_ ?_ ?_<;>exact λhq f c=>aF pg pg.oN rfl (rd rfl ⟨p,m,c λw h=>⟨p,m,q1 (f w h) hq⟩⟩)
theorem tD{c c':Bool}(e:c=c')(hq:Q (.af [.int (iE c)]) H):Q (.af [.int (iE c')]) H:=e▸hq
theorem tE{c c':Bool}(e:c=!c')(hq:Q (.af [.int (iE c)]) H):Q (.af [.int (1-iE c')]) H:=by subst e;induction c'<;>exact hq
theorem SM(pg:aP G){u:W}(hb:3<=b/\b<=8)(hx:Wd b x)(hy:Wd b y)(hk:k<6)(hq:Q (.af [.int (iE (gX b k x y))]) H):WV G (n+4) 450 [.str (kG true k),.af [.int x,.int y],u,.int b] Q E H:=by
 revert hq
 exact pO hk (λhq=>aF pg pg.oN rfl (rd rfl (rd rfl (oA (n:=n) pg hb hx hy (.inl ⟨rfl,rfl⟩) (bI (λh=>tD (c':=true) (xQ h) hq) λh=>tD (c':=false) (xR h) hq)))))
  (λhq=>aF pg pg.oN rfl (rd rfl (rd rfl (oA (n:=n) pg hb hx hy (.inl ⟨rfl,rfl⟩) (bI (λh=>tE (c':=true) (congrArg not (xQ h)) hq) λh=>tE (c':=false) (congrArg not (xR h)) hq)))))
  (λhq=>aF pg pg.oN rfl (rd rfl (rd rfl (oA (n:=n) pg hb hx hy (.inr (.inl ⟨rfl,rfl⟩)) (bI (λh=>tD (c':=true) (decide_eq_true h) hq) λh=>tD (c':=false) (decide_eq_false h) hq)))))
  (λhq=>aF pg pg.oN rfl (rd rfl (rd rfl (oA (n:=n) pg hb hx hy (.inr (.inl ⟨rfl,rfl⟩)) (bI (λh=>tE (c':=true) (congrArg not (decide_eq_true h)) hq) λh=>tE (c':=false) (congrArg not (decide_eq_false h)) hq)))))
  (λhq=>aF pg pg.oN rfl (rd rfl (rd rfl (oA (n:=n) pg hb hx hy (.inr (.inr ⟨rfl,rfl⟩)) (bI (λh=>tD (c':=true) (decide_eq_true h) hq) λh=>tD (c':=false) (decide_eq_false h) hq)))))
  λhq=>aF pg pg.oN rfl (rd rfl (rd rfl (oA (n:=n) pg hb hx hy (.inr (.inr ⟨rfl,rfl⟩)) (bI (λh=>tE (c':=true) (congrArg not (decide_eq_true h)) hq) λh=>tE (c':=false) (congrArg not (decide_eq_false h)) hq))))
noncomputable def tF(ah:Bool):Nat:=match ah with|true=>492|false=>411
theorem Be(pg:aP G){t:aJ}{op ins u:W}(h:WV G (n+4) (match t.ah with|true=>450|false=>383) [op,ins,u,.int t.bits] Q E H):WV G (n+5) (tF t.ah) [ic t,op,ins,u] Q E H:=by
 obtain ⟨ah,bits⟩:=t
 induction ah
 ·exact aF pg pg.XM rfl h
 ·exact aF pg pg.XO rfl h
theorem N5(pg:aP G){t:aJ}{u:W}(hb:3<=t.bits/\t.bits<=8)(hx:Wd t.bits x)(hy:Wd t.bits y)(hk:k<8)(hq:Q (.af [.int (cN t.bits k x y)]) H):WV G (n+5) (tF t.ah) [ic t,.str (gi k),.af [.int x,.int y],u] Q E H:=
 Be pg (by cases t.ah;exact U9 pg hb hx hy hk hq;exact SJ pg hb hx hy hk hq)
theorem Nc(pg:aP G){t:aJ}{v:Int}(hb:3<=t.bits/\t.bits<=8)(hx:Wd t.bits x)(hk:k<4)(hq:Q (.af [.int (cN t.bits (gj k) x (v%2^t.bits))]) H):WV G (n+5) (tF t.ah) [ic t,.str (mQ k),.af [.int x],.int v] Q E H:=
 Be pg (by cases t.ah;exact Va pg hb hx hk hq;exact SK pg hb hx hk hq)
theorem N6(pg:aP G){t:aJ}{u:W}(hb:3<=t.bits/\t.bits<=8)(hx:Wd t.bits x)(hy:Wd t.bits y)(hk:k<6)(hq:Q (.af [.int (iE (gX t.bits k x y))]) H):WV G (n+5) (tF t.ah) [ic t,.str (kG t.ah k),.af [.int x,.int y],u] Q E H:=
 Be pg (by cases t.ah;exact Vb pg hb hx hy hk hq;exact SM pg hb hx hy hk hq)
end
section
variable{G:Gx}{n:Nat}{E:Nat->WH->Prop}{H H':WH}{Q:W->WH->Prop}{A:RA}{P:PM}{st:St}{aq fr:List FA}{f:FA}{N:Nat}
noncomputable def qG:List (List Nat):=[[111,112],[111,117,116,115],[105,110,115],[110,117,109]]
theorem Ec(pg:aP G){op:List Nat}{o:Int}{xs:List Int}{u:W}{r:List Int->Int}(hu:(∃i,u=.int i)\/u=.aj [])(ho:Rg o)(k7:∀x∈xs,Rg x)(LD:xs.length<=2)(hR:aK H A P st aq)(hne:st.ay≠[])(hsz:st.Sz N)
 (hm:∀{ys:List Int} {Q':W->WH->Prop},cj P.t st xs=some ys->Q' (.af [.int (r ys)]) H->WV G (n+5) (tF P.t.ah) [ic P.t,.str op,.af (au ys),u] Q' E H)
 (hq:∀ys H',cj P.t st xs=some ys->RK A aq P (st.cz P.t o (r ys)) H H'->Q .aZ H')(he:cj P.t st xs=none->∀H',RK A aq P st H H'->E 63 H'):WV G (n+6) 313 [.ref A.r,.ins (.n 117) qG [.str op,.af (au [o]),.af (au xs),u]] Q E H:=by
 have main:∀ys,cj P.t st xs=some ys->∀c:Bool,bO G (n+5) (zp.drop 2) (kF Q) E [some (.ref A.r),some (.ins (.n 117) qG [.str op,.af (au [o]),.af (au xs),u]),none,some (.af [.int (r ys)]),none] H:=λys hy c=>by
  refine bT rfl ⟨λi=>J2 (λa b=>[some (.ref A.r),some (.ins (.n 117) qG [.str op,.af (au [o]),.af (au xs),u]),a,some (.af [.int (r ys)]),b]) (λH1=>(i=0/\H1=H)\/i=1/\RK A aq P (st.cz P.t o (r ys)) H H1),⟨_,_,rfl,.inl ⟨rfl,rfl⟩⟩,λi d m H1 hi=>j2 λa b H2 e=>?_,λm H1 hj=>?_⟩
  ·rcases i with _|i
   ·obtain rfl:=Option.some.inj hi
    rcases e with ⟨_,rfl⟩|⟨e,_⟩
    ·exact rd hR.self (n6 (n:=n+3) pg hR hne hsz λH3 k=>⟨_,.rf,_,_,rfl,.inr ⟨rfl,k⟩⟩)
    ·cases e
   ·cases hi
  ·obtain ⟨a,b,rfl,e⟩:=hj
   rcases e with ⟨e,_⟩|⟨_,e⟩
   ·cases e
   ·exact hq ys H1 hy e
 refine aF pg pg.Jh rfl (rd hR.self (Az (n:=n) pg k7 (by lia) hR hne rfl (λys hy=>hm hy ?_) he))
 rcases hu with ⟨i,rfl⟩|rfl
 ·exact main ys hy true
 ·exact bF (by decide) (main ys hy true)
theorem MN(pg:aP G){op:List Nat}{xs:List Int}{x y:Nat}{c:List Int->Bool}(k7:∀x∈xs,Rg x)(LD:xs.length<=2)(hR:aK H A P st aq)(hne:st.ay≠[])
 (hm:∀{ys:List Int} {Q':W->WH->Prop},cj P.t st xs=some ys->Q' (.af [.int (iE (c ys))]) H->WV G (n+5) (tF P.t.ah) [ic P.t,.str op,.af (au ys),.aj [.int x,.int y]] Q' E H)
 (hq:∀ys H',cj P.t st xs=some ys->RK A aq P (st.gS (if c ys then x else y)) H H'->Q .aZ H')(he:cj P.t st xs=none->∀H',RK A aq P st H H'->E 63 H'):WV G (n+6) 313 [.ref A.r,.ins (.n 117) qG [.str op,.af (au []),.af (au xs),.aj [.int x,.int y]]] Q E H:=by
 refine aF pg pg.Jh rfl (rd hR.self (Az (n:=n) pg k7 (by lia) hR hne rfl (λys hy=>hm hy (bT rfl (rd hR.self (rd rfl (bI (λh=>?_) λh=>?_))))) he))
 ·exact B7 (n:=n+4) (k:=x) pg hR hne λH1 k=>hq ys H1 hy (by cases z:c ys with|true=>exact k|false=>rw [z] at h;exact absurd h (by decide))
 ·exact B7 (n:=n+4) (k:=y) pg hR hne λH1 k=>hq ys H1 hy (by cases z:c ys with|false=>exact k|true=>rw [z] at h;exact absurd rfl h)
theorem zS(pg:aP G){op:List Nat}{a b u:W}(fK:(∃k,k<8/\op=gi k)\/(∃k,k<4/\op=mQ k)\/∃ah k,k<6/\op=kG ah k)(hR:aK H A P st aq)
 (h:∀{Q':W->WH->Prop},(∀H',Q .aZ H'->Q' .aZ H')->WV G n 313 [.ref A.r,.ins (.n 117) qG [.str op,a,b,u]] Q' E H):WV G (n+1) 308 [.ref A.r,.ins (.n 117) qG [.str op,a,b,u]] Q E H:=by
 rcases fK with ⟨k,hk,rfl⟩|⟨k,hk,rfl⟩|⟨ah,k,hk,rfl⟩
 ·revert h
  refine mD hk ?_ ?_ ?_ ?_ ?_ ?_ ?_ ?_<;>exact λh=>aF pg pg.jl rfl (rd hR.self (h λZaa q=>q))
 ·revert h
  refine pN hk ?_ ?_ ?_ ?_<;>exact λh=>aF pg pg.jl rfl (rd hR.self (h λZaa q=>q))
 ·revert h
  induction ah<;>refine pO hk ?_ ?_ ?_ ?_ ?_ ?_<;>exact λh=>aF pg pg.jl rfl (rd hR.self (h λZaa q=>q))
theorem QH(pg:aP G)(hP:P.wf){ins:bq}{nb:Nat}{s:bE}{rest:List bE}(hf:st.ay=s::rest)(bV:ins.wf (aI P s.fn).slots.length nb)(hp:wZ ins=true)(hR:aK H A P st aq)(hsz:st.Sz N)
 (qF:∀r v,st.aT P.t r=some v->Wd P.t.bits v)(IG:∀i,i<(aI P s.fn).slots.length->P.t.aU (P.dY st i)=P.dY st i)
 (hq:∀H' ak,P.step st ins=.ok ak->RK A aq P ak H H'->Q .aZ H')(he:∀H' ak,P.step st ins=.bG ak->RK A aq P ak H H'->E 63 H'):WV G (n+7) 308 [.ref A.r,fO P.t.ah ins] Q E H:=by
 have hne:st.ay≠[]:=by rw [hf];exact List.cons_ne_nil _ _
 have hb:=hP.bits
 have rk:RK A aq P st H H:=⟨hR,.rf⟩
 have r1:∀{r:Int} {k:Int->b8} {v:Int},st.aT P.t r=some v->st.dQ P.t r k=k v:=λe=>by unfold St.dQ;rw [e]
 have pW:∀{r:Int} {k:Int->b8},st.aT P.t r=none->st.dQ P.t r k=.bG st:=λe=>by unfold St.dQ;rw [e]
 have r2:∀{a b:Int} {k:Int->Int->b8} {v u:Int},st.aT P.t a=some v->st.aT P.t b=some u->st.cU P.t a b k=k v u:=λe e2=>by unfold St.cU;rw [e,e2]
 have r2n:∀{a b:Int} {k:Int->Int->b8},st.aT P.t b=none->st.cU P.t a b k=.bG st:=λ{a b k} e=>by unfold St.cU;rw [e];cases st.aT P.t a<;>rfl
 have r2m:∀{a b:Int} {k:Int->Int->b8},st.aT P.t a=none->st.cU P.t a b k=.bG st:=λe=>by unfold St.cU;rw [e]
 have ah:∀{a b:Int} {ys:List Int},cj P.t st [a,b]=some ys->∃x y,ys=[x,y]/\st.aT P.t a=some x/\st.aT P.t b=some y:=λ{a b ys} h=>by
  rw [jI] at h
  cases e1:st.aT P.t a with
  |none=>rw [e1] at h;cases h
  |some x=>
   cases e2:st.aT P.t b with
   |none=>rw [e1,e2] at h;cases h
   |some y=>rw [e1,e2] at h;obtain rfl:=Option.some.inj h;exact ⟨x,y,rfl,rfl,rfl⟩
 have JA:∀{a b:Int} {k:Int->Int->b8},cj P.t st [a,b]=none->st.cU P.t a b k=.bG st:=λ{a b k} h=>by
  rw [jI] at h
  unfold St.cU
  cases e1:st.aT P.t a with
  |none=>rfl
  |some x=>
   cases e2:st.aT P.t b with
   |none=>rfl
   |some y=>rw [e1,e2] at h;cases h
 have R2:∀{a b:Int},Rg a->Rg b->∀x∈[a,b],Rg x:=λha hb x hx=>by
  rcases List.mem_cons.mp hx with h|hx
  ·exact h▸ha
  ·rw [List.mem_singleton.mp hx];exact hb
 induction ins with
 |call=>cases hp
 |ret=>cases hp
 |lu k o a b=>
  obtain ⟨hk,ho,ha,nN⟩:=bV
  refine zS pg (.inl ⟨k,hk,rfl⟩) hR λhQ=>Ec (n:=n) (u:=.aj []) (r:=λys=>cN P.t.bits k ys[0]! ys[1]!) pg (.inr rfl) ho (R2 ha nN) (Nat.le_refl _) hR hne hsz (λhy h=>?_) (λys H' hy k'=>hQ _ (hq H' _ ?_ k')) λhn H' k'=>he H' st (JA hn) k'
  ·obtain ⟨x,y,rfl,e1,e2⟩:=ah hy
   exact N5 pg hb (qF _ _ e1) (qF _ _ e2) hk h
  ·obtain ⟨x,y,rfl,e1,e2⟩:=ah hy
   exact r2 e1 e2
 |lz k o a v=>
  obtain ⟨hk,ho,ha,_⟩:=bV
  refine zS pg (.inr (.inl ⟨k,hk,rfl⟩)) hR λhQ=>Ec (n:=n) (u:=.int v) (r:=λys=>cN P.t.bits (gj k) ys[0]! (v%2^P.t.bits)) pg (.inl ⟨v,rfl⟩) ho (λx hx=>List.mem_singleton.mp hx▸ha) (show 1<=2 by decide) hR hne hsz (λ{ys Q'} hy h=>?_) (λys H' hy k'=>hQ _ (hq H' _ ?_ k')) λhn H' k'=>he H' st ?_ k'
  ·have hy:cj P.t st [a]=some ys:=hy
   rw [qf] at hy
   cases e1:st.aT P.t a with
   |none=>rw [e1] at hy;cases hy
   |some x=>rw [e1] at hy;obtain rfl:=Option.some.inj hy;exact Nc pg hb (qF _ _ e1) hk h
  ·have hy:cj P.t st [a]=some ys:=hy
   rw [qf] at hy
   cases e1:st.aT P.t a with
   |none=>rw [e1] at hy;cases hy
   |some x=>rw [e1] at hy;obtain rfl:=Option.some.inj hy;exact r1 e1
  ·have hn:cj P.t st [a]=none:=hn
   rw [qf] at hn
   cases e1:st.aT P.t a with
   |none=>exact pW e1
   |some x=>rw [e1] at hn;cases hn
 |br k a b x y=>
  obtain ⟨hk,ha,nN,_⟩:=bV
  refine zS pg (.inr (.inr ⟨_,k,hk,rfl⟩)) hR λhQ=>MN (n:=n) (x:=x) (y:=y) (c:=λys=>gX P.t.bits k ys[0]! ys[1]!) pg (R2 ha nN) (Nat.le_refl _) hR hne (λhy h=>?_) (λys H' hy k'=>hQ _ (hq H' _ ?_ k')) λhn H' k'=>he H' st (JA hn) k'
  ·obtain ⟨x,y,rfl,e1,e2⟩:=ah hy
   exact N6 pg hb (qF _ _ e1) (qF _ _ e2) hk h
  ·obtain ⟨x,y,rfl,e1,e2⟩:=ah hy
   exact r2 e1 e2
 |mv o a=>exact aF pg pg.jl rfl (rd hR.self (rd (v:=.int o) rfl (rd hR.self (rd (v:=.int a) rfl (ql (n:=n+1) pg hR bV.2 hne (λv e=>n6 (n:=n+4) pg hR hne hsz λH' k=>hq H' _ (r1 e) k) λe=>he H st (pW e) rk)))))
 |li o v=>exact aF pg pg.jl rfl (rd hR.self (rd (v:=.int o) rfl (n6 (n:=n+4) pg hR hne hsz λH' k=>hq H' _ rfl k)))
 |j k=>exact aF pg pg.jl rfl (rd hR.self (B7 (n:=n+5) pg hR hne λH' k=>hq H' _ rfl k))
 |lw o a v=>
  exact aF pg pg.jl rfl (rd hR.self (rd (v:=.int o) rfl (rd hR.self (rd hR.self (rd (v:=.int a) rfl (ql (n:=n+1) pg hR bV.2.1 hne (λx e=>HL (n:=n+1) pg hP hR (λu e2=>n6 (n:=n+4) pg hR hne hsz λH' k=>hq H' _ ((r1 e).trans (by show (match st.cells.aE (P.t.aU (x+v)) with|some v=>_|none=>_)=_;rw [e2])) k)
   λe2=>he H st ((r1 e).trans (by show (match st.cells.aE (P.t.aU (x+v)) with|some v=>_|none=>_)=_;rw [e2])) rk) λe=>he H st (pW e) rk))))))
 |sw u a v=>
  refine aF pg pg.jl rfl (rd hR.self (rd hR.self (rd (v:=.int a) rfl (ql (n:=n+1) pg hR bV.2.1 hne (λy e2=>rd hR.self (rd (v:=.int u) rfl (ql (n:=n+1) pg hR bV.1 hne (λx e1=>GJ (n:=n+1) pg hP hR hsz (λe3 H' k=>hq H' _ ((r2 e1 e2).trans ?_) k)
   λe3=>he H st ((r2 e1 e2).trans ?_) rk) λe1=>he H st (r2m e1) rk))) λe2=>he H st (r2n e2) rk))))
  ·obtain ⟨z,hz⟩:=Option.isSome_iff_exists.mp e3
   show (match st.cells.aE (P.t.aU (y+v)) with|some _=>_|none=>_)=_
   rw [hz]
  ·show (match st.cells.aE (P.t.aU (y+v)) with|some _=>_|none=>_)=_
   rw [e3]
 |pL o i=>
  have hw:=IG i bV.2
  refine aF pg pg.jl rfl (rd hR.self (rd (v:=.int o) rfl (rd hR.self (rd hR.self (Ba (n:=n+5) pg hf bV.2 hR (HL (n:=n+1) pg hP hR (λu e2=>n6 (n:=n+4) pg hR hne hsz λH' k=>hq H' _ ?_ k) λe2=>he H st ?_ rk))))))
  ·rw [hw] at e2
   show (match st.cells.aE (P.dY st i) with|some v=>_|none=>_)=_
   rw [e2]
  ·rw [hw] at e2
   show (match st.cells.aE (P.dY st i) with|some v=>_|none=>_)=_
   rw [e2]
 |gG u i=>
  have hw:=IG i bV.2
  refine aF pg pg.jl rfl (rd hR.self (rd hR.self (Ba (n:=n+5) pg hf bV.2 hR (rd hR.self (rd (v:=.int u) rfl (ql (n:=n+1) pg hR bV.1 hne (λx e1=>GJ (n:=n+1) pg hP hR hsz (λe3 H' k=>hq H' {st with cells:=st.cells.set (P.dY st i) x} ((r1 e1).trans ?_) (by rw [hw] at k;exact k)) λe3=>he H st ((r1 e1).trans ?_) rk) λe1=>he H st (pW e1) rk))))))
  ·rw [hw] at e3
   obtain ⟨z,hz⟩:=Option.isSome_iff_exists.mp e3
   show (match st.cells.aE (P.dY st i) with|some _=>_|none=>_)=_
   rw [hz]
  ·rw [hw] at e3
   show (match st.cells.aE (P.dY st i) with|some _=>_|none=>_)=_
   rw [e3]
 |pM o i=>exact aF pg pg.jl rfl (rd hR.self (rd (v:=.int o) rfl (rd hR.self (Ba (n:=n+5) pg hf bV.2 hR (n6 (n:=n+4) pg hR hne hsz λH' k=>hq H' _ rfl k)))))
 |la o nm=>
  obtain ⟨ho,hn⟩:=bV
  clear hp
  revert hq he
  refine Ir hn ?_ ?_ ?_ (λhq he=>aF pg pg.jl rfl (rd hR.self ⟨show 11<=1000000 by decide,Nat.le_add_left 4 (n+2),he H st rfl rk⟩))<;>exact λhq he=>aF pg pg.jl rfl (rd hR.self (rd hR.self (rd (v:=.int o) rfl (rd hR.self (n6 (n:=n+4) pg hR hne hsz λH' k=>hq H' _ rfl k)))))
end
inductive J4(f:Option W->Option W->Option W->Option W->WM)(R:WH->Prop)(m:WM)(H:WH):Prop
 |mk (u v w z:Option W) (e:m=f u v w z) (r:R H)
theorem j4{f:Option W->Option W->Option W->Option W->WM}{R:WH->Prop}{p:WM->WH->Prop}(h:∀u v w z H,R H->p (f u v w z) H){m:WM}{H:WH}:J4 f R m H->p m H:=λ⟨u,v,w,z,e,r⟩=>e▸h u v w z H r
section
variable{G:Gx}{n:Nat}{E:Nat->WH->Prop}{H H':WH}{Q:W->WH->Prop}{A:RA}{P:PM}{st:St}{aq fr:List FA}{f:FA}{N:Nat}
theorem aK.Vc{c1 c2:Nat}(h:aK H A P st [])(hf:st.ay=[])(h1:H c1=some (.list []))(h2:H c2=some (.dI []))(n1:∀p∈i6 A P st [],p.1≠c1)(n2:∀p∈i6 A P st [],p.1≠c2)(n3:c1≠c2):
 aK (H.ai A.r (.inst 330 iO (iP {A with bf:=c1,aB:=c2} P.t st.free))) {A with bf:=c1,aB:=c2} P {st with aB:=[],ay:=[]} []:=by
 have l1:=(h.led.cons h1 n1).cons h2 λp hp=>by
  rcases List.mem_cons.mp hp with h|hp
  ·exact h▸n3
  ·exact n2 p hp
 have l2:=l1.bL 2 (.inst 330 iO (iP {A with bf:=c1,aB:=c2} P.t st.free)) rfl
 have l3:=l2.sub (L':=(c2,.dI [])::(c1,.list [])::(A.r,.inst 330 iO (iP {A with bf:=c1,aB:=c2} P.t st.free))::(A.mem,.dI st.cells)::(A.eO,.list (st.trace.map eE))::[(A.mf,.dS [bH,cu] [dc P.t.ah bH P.f,dc P.t.ah cu P.g])]) (by
  show List.Sublist _ ((c2,WO.dI [])::(c1,.list [])::(A.r,_)::(A.mem,_)::(A.aB,_)::(A.bf,_)::(A.eO,_)::(A.mf,_)::oU P [] st.ay)
  exact .cons_cons _ (.cons_cons _ (.cons_cons _ (.cons_cons _ (.cons _ (.cons _ (.cons_cons _ (.cons_cons _ (List.nil_sublist _)))))))))
 refine ⟨l3.qD ?_,rfl,λs hs=>by cases hs⟩
 show List.Perm _ ((A.r,_)::(A.mem,_)::(c2,_)::(c1,_)::(A.eO,_)::(A.mf,_)::[])
 exact ((List.perm_append_comm (l₁:=[(c2,WO.dI []),(c1,.list [])]) (l₂:=[(A.r,.inst 330 iO (iP {A with bf:=c1,aB:=c2} P.t st.free)),(A.mem,.dI st.cells)])).append_right [(A.eO,.list (st.trace.map eE)),(A.mf,.dS [bH,cu] [dc P.t.ah bH P.f,dc P.t.ah cu P.g])])
theorem AB:∀(a b:List Int),oR (au a) (au b)=(a.zip b).map λp=>.aj [.int p.1,.int p.2]
 |[],b=>by induction b<;>rfl
 |x::a,[]=>rfl
 |x::a,y::b=>congrArg _ (AB a b)
inductive RI(A:RA)(P:PM)(cD:St)(aG N:Nat)(F0:List Nat)(H0:WH)(i:Nat)(H:WH):Prop
 |mk (s:St) (fs:List FA) (r:aK H A P s fs) (pX:bZ P s) (sz:s.Sz (N+24+8*i)) (ne:s.ay≠[]) (run:P.eY (aG-i) s=P.eY aG cD) (k:Fr F0 H0 H) (x:∀a∈fp A fs,a∈F0\/H0 a=none)
theorem Fr.none{F:List Nat}{a:Nat}(k:Fr F H H')(hF:∀b∈F,H' b≠none)(ha:H' a=none):H a=none:=by
 cases z:H a with
 |none=>rfl
 |some o=>
  by_cases hm:a∈F
  ·exact absurd ha (hF a hm)
  ·rw [k a (by rw [z];exact Option.some_ne_none _) hm,z] at ha;cases ha
theorem SN(pg:aP G)(hP:P.wf){cD:St}{aG i:Nat}{F0:List Nat}{H0:WH}{m0 m1:W}{u v w:Option W}{K:WF->WM->WH->Prop}(hi:i<aG)(CW:aG<=1000)(hN:N+20000<=900000)(hJ:RI A P cD aG N F0 H0 i H)
 (next:∀v z H',RI A P cD aG N F0 H0 (i+1) H'->K .next [some (.ref A.r),some m0,some m1,u,v,w,z] H')
 (done:∀v m H' ak,P.eY aG cD=.done v ak->aK H' A P ak []->Fr F0 H0 H'->bZ P ak->ak.ay=[]->ak.Sz (N+10000)->K (.ret (W.dG v)) m H')
 (rm:∀H' ak bB,P.eY aG cD=.bG ak->aK H' A P ak bB->Fr F0 H0 H'->E 63 H')
 (pV:∀H' ak bB,P.eY aG cD=.fj ak->aK H' A P ak bB->Fr F0 H0 H'->E 51 H')(z0:Option W):
 bO G (n+8) [(.az (.nm 6) (.aQ (.aa 0) [110,101,120,116,95,114,111,119] [])),
 (.aC (.cmp .Eq (.attr (.aa 6) [111,112]) (.c (.str [99,97,108,108]))) [
   (.bA (.aQ (.aa 0) [99,97,108,108] [(.aa 6)]))] [
   (.aC (.cmp .Eq (.attr (.aa 6) [111,112]) (.c (.str [114,101,116]))) [
     (.az (.nm 4) (.aQ (.aa 0) [108,101,97,118,101] [(.aa 6)])),
     (.aC (.nt (.val (.attr (.aa 0) [99,97,108,108,115]))) [
       (.ret (.aa 4))] [])] [
     (.bA (.aQ (.aa 0) [112,108,97,105,110] [(.aa 6)]))])])] K E [some (.ref A.r),some m0,some m1,u,v,w,z0] H:=by
 obtain ⟨kh,uS,rI,iI,zI,yZ,sR,kI,jC⟩:=hJ
 obtain ⟨s,rest,jc⟩:∃s rest,kh.ay=s::rest:=by
  cases h:kh.ay with
  |nil=>exact absurd h yZ
  |cons s rest=>exact ⟨s,rest,rfl⟩
 have y9:=iI.ay s (by rw [jc];exact .head _)
 obtain ⟨ins,i8⟩:=iI.head s (by rw [jc];rfl)
 obtain ⟨bV,fB,LF⟩:=y9.row hP i8
 have kg:=gM hP y9.fn
 refine rd rI.self (Nb (n:=n+7) pg jc i8 rI λHa kA=>?_)
 have rA:=kA.r
 have sS:kh.bY.ay={s with at_:=s.at_+1}::rest:=Ao jc
 have uT:kh.bY.ay≠[]:=by rw [sS];exact List.cons_ne_nil _ _
 have CX:=AZ zI
 have bW:=iI.todU.bY
 have vN:=kI.trans kA.k jC
 obtain ⟨tG,oV⟩:=iI.step hP jc i8
 obtain ⟨ru,sU⟩:=Gq (ins:=ins) hP zI (by lia)
 have b7:=Ft jc i8
 have fG:P.eY aG cD=match P.step kh.bY ins with|.ok ak=>P.eY (aG-(i+1)) ak|o=>o:=by
  rw [<-sR,show aG-i=(aG-(i+1))+1 by lia]
  show (match P.uB kh with|.ok ak=>P.eY _ ak|o=>o)=_
  rw [b7]
 have CY:∀{bB:List FA},vM A uS bB Ha->∀a∈fp A bB,a∈F0\/H0 a=none:=λhx a ha=>by
  rcases hx a ha with h|h
  ·exact jC a h
  ·by_cases hm:a∈F0
   ·exact .inl hm
   ·refine .inr ?_
    cases z:H0 a with
    |none=>rfl
    |some o=>rw [vN a (by rw [z];exact Option.some_ne_none _) hm,z] at h;cases h
 have tH:∀{bB:List FA} {ak:St} {Hb:WH},P.step kh.bY ins=.ok ak->aK Hb A P ak bB->Fr (fp A uS) Ha Hb->vM A uS bB Ha->RI A P cD aG N F0 H0 (i+1) Hb:=λe r k hx=>
  ⟨_,_,r,tG _ e,Sz.up (ru _ e) (by lia) (by lia),Ar uT e,by rw [fG,e],vN.trans k jC,CY hx⟩
 have eL:∀{bB:List FA} {ak:St} {Hb:WH},P.step kh.bY ins=.bG ak->aK Hb A P ak bB->Fr (fp A uS) Ha Hb->E 63 Hb:=λe r k=>rm _ _ _ (by rw [fG,e]) r (vN.trans k jC)
 have II:∀r v,kh.bY.aT P.t r=some v->Wd P.t.bits v:=λr v e=>bW.aT hP e
 have h8:=gA hP.bits
 by_cases hp:wZ ins=true
 ·obtain ⟨o1,o2⟩:=Qm (ah:=P.t.ah) bV hp
  have p1:bP (gp P.t.ah ins).op [99,97,108,108]=false:=by rw [xd];exact beq_eq_false_iff_ne.mpr o1
  have p2:bP (gp P.t.ah ins).op [114,101,116]=false:=by rw [xd];exact beq_eq_false_iff_ne.mpr o2
  exact gb p1 (gb p2 (rd rA.self (QH (n:=n+1) pg hP sS bV hp rA CX II (λi hi=>(bW.slot hP sS hi).2.2) (λHb ak e k=>next _ _ _ (tH e k.r k.k .rf)) λHb ak e k=>eL e k.r k.k)))
 ·clear i8 LF b7 fB
  revert bV tG oV ru sU fG tH eL
  refine npE hp (λaH a b nm bV tG oV ru sU fG tH eL=>?_) λv0 bV tG oV ru sU fG tH eL=>?_
  ·obtain ⟨g1,g2,g3,g4,g5⟩:=bV
   exact rd rA.self (SI (n:=n+1) pg hP g3 g4 rA uT CX (by lia) g5 (λr v e=>by have:=II r v e;unfold Wd at this;lia) (λHb ak bB e r k hx=>next _ _ _ (tH e r k hx)) (λHb ak e k=>eL e k.r k.k) λHb ak e k=>pV _ _ _ (by rw [fG,e]) k.r (vN.trans k.k jC))
  ·obtain ⟨g1,g2⟩:=bV
   have LG:=bW.ay _ (by rw [sS];exact .head _)
   refine rd rA.self (QF (n:=n+2) pg hP g1 g2 rA CX sS LG.aR.2 (bW.Jm hP sS) (rN (gM hP LG.fn)) (λHb ak f fr y ef e hr r k=>?_) (λHb ak w e hr r k=>?_) λHb ak bB e r k=>eL e r k)
   ·have Y5:=Ar uT e
    have hz:=(ru ak e).ay
    have hl:=EZ r
    have c5:=r.bf
    cases hc:(fr.reverse.map λf=>W.ref f.c) with
    |nil=>rw [hc] at hl;exact absurd (List.length_eq_zero_iff.mp hl.symm) Y5
    |cons y1 ys=>
     rw [hc] at c5 hl
     exact rd r.self (rd c5 ⟨by rw [hl];exact Nat.le_trans hz (by decide),next _ _ _ (tH e r k λa h=>.inl (by rw [ef];exact GP a h))⟩)
   ·exact rd r.self (rd r.bf ⟨Nat.zero_le _,done w _ Hb ak (by rw [fG,e]) r (vN.trans k jC) (oV w ak e).1 (oV w ak e).2 (Sz.up (sU w ak e) (by lia) (by lia))⟩)
end
section
variable{G:Gx}{n:Nat}{E:Nat->WH->Prop}{H H':WH}{Q:W->WH->Prop}{A:RA}{P:PM}{st:St}{aq fr:List FA}{f:FA}{N:Nat}
noncomputable def uU(A A':RA)(H:WH):Prop:=∃r c,A'={A with aB:=r,bf:=c}/\H r=none/\H c=none
structure LH(A:RA)(P:PM)(st:St)(F:List Nat)(H:WH)(n:Nat)(H1:WH):Prop where
 r:aK H1 A P st []
 k:Fr F H H1
 l:st.aB.length<=n
theorem Vd(pg:aP G)(hP:P.wf){x y:Int}(HN:0<=A.aG/\A.aG<=1000)(hR:aK H A P st [])(hI:bZ P st)(hf:st.ay=[])(hsz:st.Sz N)(hN:N+20000<=900000)
 (hq:∀H' A' ak v,P.run st [x,y] A.aG.toNat=.done v ak->uU A A' H->aK H' A' P ak []->Fr (fp A []) H H'->bZ P ak->ak.ay=[]->ak.Sz (N+10000)->Q (W.dG v) H')
 (rm:∀H' A' ak bB,P.run st [x,y] A.aG.toNat=.bG ak->uU A A' H->aK H' A' P ak bB->Fr (fp A []) H H'->E 63 H')
 (pV:∀H' A' ak bB,P.run st [x,y] A.aG.toNat=.fj ak->uU A A' H->aK H' A' P ak bB->Fr (fp A []) H H'->E 51 H'):WV G (n+9) 327 [.ref A.r,.str bH,.af [.int x,.int y]] Q E H:=by
 have hal:3<=P.t.args.length/\P.t.args.length<=8:=by unfold aJ.args;split<;>decide
 have Y6:((au P.t.args).length:Int)=P.t.args.length:=by unfold au;rw [List.length_map]
 refine aF pg pg.XI rfl (rd hR.self (rd hR.mf (rd hR.self (bF ?_ (.inr λc1 h1=>.inl λc2 h2=>?_)))))
 ·show ¬((au P.t.args).length:Int)<2
  rw [Y6];lia
 have r1:=hR.new h1 (.list [])
 have w1:(H.ai c1 (.list [])) c1=some (.list []):=aN ..
 have CZ:c1≠c2:=λq=>by rw [<-q,w1] at h2;cases h2
 have ry:H c2=none:=by rw [aL _ _ _ CZ.symm] at h2;exact h2
 have r2:=r1.new h2 (.dI [])
 have w2:((H.ai c1 (.list [])).ai c2 (.dI [])) c1=some (.list []):=(aL _ _ _ CZ).trans w1
 have k2:Fr (fp A []) H ((H.ai c1 (.list [])).ai c2 (.dI [])):=(Fr.new h1 _).tr (.new h2 _)
 have r3:=r2.Vc hf w2 (aN ..) (λp hp=>hR.n7 h1 p hp) (λp hp=>hR.n7 ry p hp) CZ
 have k3:=k2.tr (.ai (a:=A.r) (.head _) (.inst 330 iO (iP {A with bf:=c1,aB:=c2} P.t st.free)))
 rw [<-cg _ _ (.inst 330 iO (iP {A with bf:=c1} P.t st.free))] at r3 k3
 refine rd r2.self (rd (aN ..) ?_)
 have a1:∀a∈fp {A with bf:=c1,aB:=c2} [],a∈fp A []\/H a=none:=mc (.inl (.head _)) (mc (.inl (.tail _ (.head _))) (mc (.inr ry) (mc (.inr h1) (mc (.inl (.tail _ (.tail _ (.tail _ (.tail _ (.head _)))))) λZaa q=>by cases q))))
 have nt:uU A {A with bf:=c1,aB:=c2} H:=⟨c2,c1,rfl,ry,h1⟩
 refine rd r3.self ⟨λi=>J1 (λu=>[some (.ref A.r),some (.str bH),some (.af [.int x,.int y]),u,none,none,none]) (LH {A with bf:=c1,aB:=c2} P {st with aB:=(P.t.bh.take i).foldl (λr x=>r.set x (P.t.aU (31*x+5))) [],ay:=[]} (fp A []) H i),⟨_,rfl,r3,k3,Nat.le_refl _⟩,λi d m H1 hi=>j1 λu H2 e=>?_,λm H1=>j1 λu H2 e=>?_⟩
 ·obtain ⟨z,rfl,hz⟩:=jf hi
  have hs:=rJ (λ(r:KV) x=>r.set x (P.t.aU (31*x+5))) [] P.t.bh i z hz
  have C0:=Ff P.t z (List.mem_of_getElem? hz)
  have mE:=(List.getElem?_eq_some_iff.mp hz).1
  have d8:=rM P.t
  have r4:=e.r.mR (((P.t.bh.take i).foldl (λ(r:KV) x=>r.set x (P.t.aU (31*x+5))) []).set z (P.t.aU (31*z+5)))
  have l4:=KV.mP ((P.t.bh.take i).foldl (λ(r:KV) x=>r.set x (P.t.aU (31*x+5))) []) z (P.t.aU (31*z+5))
  rw [<-hs] at r4 l4
  obtain ⟨z1,z2⟩:=C0
  have b1:(31:Int).natAbs<2^62:=by decide
  have b2:z.natAbs<2^62:=by lia
  refine ⟨⟨b1,b2⟩,rd e.r.self (rd e.r.self (rd e.r.aB ⟨Nat.le_trans e.l (by lia),_,.rf,_,rfl,?_⟩))⟩
  rw [rL,<-hs]
  exact ⟨r4,e.k.trans (.ai (.tail _ (.tail _ (.head _))) _) a1,Nat.le_trans l4 (Nat.succ_le_succ e.l)⟩
 obtain ⟨r4,k4,l4⟩:=e
 rw [List.take_of_length_le (kB P.t.bh)] at r4 l4
 have l4:(P.t.bh.foldl (λ(r:KV) x=>r.set x (P.t.aU (31*x+5))) []).length<=P.t.bh.length:=by
  have:(WS.l (au P.t.bh)).len=P.t.bh.length:=by show (au _).length=_;unfold au;rw [List.length_map]
  rw [this] at l4;exact l4
 have d8:=rM P.t
 generalize C3:P.t.bh.foldl (λ(r:KV) x=>r.set x (P.t.aU (31*x+5))) []=rS at*
 refine rd r4.self (dN (K:=λl=>oQ (.l l) _ _ _ _ _) (AB P.t.args [x,y]) ⟨λi=>J2 (λu v=>[some (.ref A.r),some (.str bH),some (.af [.int x,.int y]),u,v,none,none]) (LH {A with bf:=c1,aB:=c2} P {st with aB:=((P.t.args.zip [x,y]).take i).foldl (λr p=>r.set p.1 (P.t.aU p.2)) rS,ay:=[]} (fp A []) H (11+i)),⟨_,_,rfl,r4,k4,Nat.le_trans l4 d8⟩,λi d m H1 hi=>j2 λu v H2 e=>?_,λm H1 hj=>?_⟩)
 ·have hi:((P.t.args.zip [x,y]).map λp=>W.aj [.int p.1,.int p.2])[i]?=some d:=hi
  rw [List.getElem?_map] at hi
  obtain ⟨p,hp,rfl⟩:=Option.map_eq_some_iff.mp hi
  have hs:=rJ (λ(r:KV) (p:Int×Int)=>r.set p.1 (P.t.aU p.2)) rS (P.t.args.zip [x,y]) i p hp
  have mE:=(List.getElem?_eq_some_iff.mp hp).1
  rw [List.length_zip] at mE
  have r5:=e.r.mR ((((P.t.args.zip [x,y]).take i).foldl (λ(r:KV) p=>r.set p.1 (P.t.aU p.2)) rS).set p.1 (P.t.aU p.2))
  have l5:=KV.mP (((P.t.args.zip [x,y]).take i).foldl (λ(r:KV) p=>r.set p.1 (P.t.aU p.2)) rS) p.1 (P.t.aU p.2)
  rw [<-hs] at r5 l5
  have il:i<2:=Nat.lt_of_lt_of_le mE (Nat.min_le_right _ _)
  refine rd e.r.self (rd e.r.self (rd e.r.aB ⟨Nat.le_trans e.l (by lia),_,.rf,_,_,rfl,?_⟩))
  rw [rL,<-hs]
  exact ⟨r5,e.k.trans (.ai (.tail _ (.tail _ (.head _))) _) a1,Nat.le_trans l5 (Nat.succ_le_succ e.l)⟩
 induction hj with|mk u3 u4 em hj=>
 subst em
 obtain ⟨r5,k5,l5⟩:=hj
 have C4:(WS.l ((P.t.args.zip [x,y]).map λp=>W.aj [.int p.1,.int p.2])).len=(P.t.args.zip [x,y]).length:=List.length_map ..
 have hz2:(P.t.args.zip [x,y]).length<=2:=by rw [List.length_zip];exact Nat.min_le_right _ _
 rw [C4,List.take_length] at r5 l5
 have er:(P.t.args.zip [x,y]).foldl (λ(r:KV) p=>r.set p.1 (P.t.aU p.2)) rS=ng P.t [x,y]:=by unfold ng;rw [C3]
 rw [er] at r5 l5
 have r5:aK H1 {A with bf:=c1,aB:=c2} P (st.fresh P [x,y]) []:=r5
 have C5:=hI.fresh hP hf [x,y]
 have vO:(st.fresh P [x,y]).Sz (N+20):=⟨by show (ng P.t [x,y]).length<=_;lia,Nat.le_trans hsz.cells (by lia),Nat.le_trans hsz.trace (by lia),by show 0<=64;decide,λfr h=>(by cases h),by lia⟩
 refine rd r5.self (rd r5.self (rd r5.mf (.inl (GL (A:={A with bf:=c1,aB:=c2}) (n:=n+2) (aH:=[]) pg hP (.inl rfl) r5 vO (λH8 cD f hen r8 k8 n1 n2 n3=>?_) λH8 hen r8 k8=>pV H8 _ _ [] (by rw [xw,hen]) nt r8 (k5.trans k8 a1)))))
 have fG:P.run st [x,y] A.aG.toNat=P.eY A.aG.toNat cD:=by rw [xw,hen]
 have C6:=C5.enter hP (.inl rfl) ⟨Nat.zero_le _,λo ho=>(by cases ho)⟩ hen
 have C7:=Ab hP vO (by lia) (.inl rfl) hen
 have B8:=Ac hen
 have k9:=k5.trans k8 a1
 have a8:∀a∈fp {A with bf:=c1,aB:=c2} [f],a∈fp A []\/H a=none:=λa ha=>by
  have ha:a∈fp {A with bf:=c1,aB:=c2} []++[f.c,f.own,f.aR]:=ha
  exact (List.mem_append.mp ha).elim (a1 a) (mc (P:=λa=>a∈fp A []\/H a=none) (qo k5 n1) (mc (qo k5 n2) (mc (qo k5 n3) λZaa q=>by cases q)) a)
 refine rd r8.self ⟨⟨by show-1000000000<=A.aG;lia,by show A.aG<=1000000000;lia⟩,λi=>J4 (λu v w z=>[some (.ref A.r),some (.str bH),some (.af [.int x,.int y]),u,v,w,z]) (RI {A with bf:=c1,aB:=c2} P cD A.aG.toNat N (fp A []) H i),⟨_,_,_,_,rfl,cD,[f],r8,C6,Sz.up C7 (by lia) (by lia),B8,rfl,k9,a8⟩,λi d m H2 hi=>j4 λu v w z H3 e=>?_,λm H2 hj=>?_⟩
 ·obtain ⟨rfl,bJ⟩:=WS.kU hi
  have bJ:i<A.aG.toNat:=bJ
  exact SN (A:={A with bf:=c1,aB:=c2}) (n:=n) pg hP bJ (by lia) hN e (λv' z' H' j=>⟨_,.rf,_,_,_,_,rfl,j⟩) (λv' m' H' ak h r k i f z=>hq H' _ ak v' (fG.trans h) nt r k i f z) (λH' ak bB h r k=>rm H' _ ak bB (fG.trans h) nt r k) (λH' ak bB h r k=>pV H' _ ak bB (fG.trans h) nt r k) z
 ·obtain ⟨u,v,w,z,rfl,sI,fs,rI,iI,zI,nI,sR,kI,xI⟩:=hj
  refine ⟨Nat.le_add_left 4 (n+4),pV H2 _ sI fs (fG.trans ?_) nt rI kI⟩
  have:(WS.r A.aG.toNat).len=A.aG.toNat:=rfl
  rw [this,Nat.sub_self] at sR
  exact sR.symm
end
theorem nU{c:Bool}{a b:Prop}(e:c=true)(h:a):iB c a b:=e▸h
noncomputable def aJ.plain(t:aJ):List Int:=if t.ah then [3,1,6] else [7,28,5]
structure b9 where
 c:Nat
 own:Nat
 aD:Nat
structure cO where
 w:Nat
 fr:Nat
 sh:Nat
 ce:Nat
 tr:Nat
noncomputable def aW(ah:Bool)(i:bq):W:=.aj [.str (gp ah i).op,.af (au (gp ah i).aH),.af (au (gp ah i).ins),Jz (gp ah i).num]
noncomputable def fk(ah:Bool)(b:List bq):W:=.af (b.map (aW ah))
noncomputable def pY(ah:Bool)(fn:Fn):W:=.aj [.af (au fn.slots),.af (fn.bD.map (fk ah))]
noncomputable def eU(g:Option W):List (List Nat):=[98,105,116,115]::[122,101,114,111]::[107,101,112,116]::[97,114,103,115]::[115,112,111,105,108,101,100]::[112,108,97,105,110]::[102,117,110,99,115]::[110,97,109,101,115]::[99,101,108,108,115]::[102,114,101,101]::[116,114,97,99,101]::[102,114,97,109,101,115]::[115,104,97,114,101,100]::(match g with|none=>[]|some _=>[[103,97,118,101]])
noncomputable def fS(A:cO)(P:PM)(free:Int)(g:Option W):List W:=.int P.t.bits::.int P.t.zero::.af (au P.t.bh)::.af (au P.t.args)::.af (au P.t.d9)::.af (au P.t.plain)::.dS [bH,cu] [pY P.t.ah P.f,pY P.t.ah P.g]::sQ::.ref A.ce::.int free::.ref A.tr::.ref A.fr::.ref A.sh::(match g with|none=>[]|some v=>[v])
noncomputable def lR(p:Int×Int):W:=.aj [.int p.1,.int p.2]
noncomputable def jD:List (List Nat):=[[98,108,111,99,107,115],[114,111,119,115],[111,119,110],[98,97,115,101],[115,108,111,116,115],[100,117,101],[111,117,116,115]]
noncomputable def jE(P:PM)(f:b9)(s:bE):List W:=[.af ((aI P s.fn).bD.map (fk P.t.ah)),.ref f.aD,.ref f.own,.int s.base,.af (au (aI P s.fn).slots),.af (s.aR.map lR),.af (au s.aH)]
noncomputable def uV(P:PM):List b9->List bE->List (Nat×WO)
 |f::aq,s::ay=>(f.c,.dS jD (jE P f s))::(f.own,.dI s.own)::(f.aD,.list (((P.aD s).drop s.at_).map (aW P.t.ah)))::uV P aq ay
 |_,_=>[]
noncomputable def jY(A:cO)(P:PM)(g:Option W)(st:St)(aq:List b9):List (Nat×WO):=
 (A.w,.dS (eU g) (fS A P st.free g))::(A.ce,.dI st.cells)::(A.sh,.dI st.aB)::(A.fr,.list (aq.reverse.map λf=>.ref f.c))::(A.tr,.list (st.trace.map eE))::uV P aq st.ay
structure aO(H:WH)(A:cO)(P:PM)(g:Option W)(st:St)(aq:List b9):Prop where
 led:cB H (jY A P g st aq)
 len:aq.length=st.ay.length
 cW:∀s∈st.ay,s.fn=bH\/s.fn=cu
noncomputable def dg(A:cO)(aq:List b9):List Nat:=A.w::A.ce::A.sh::A.fr::A.tr::aq.flatMap λf=>[f.c,f.own,f.aD]
section
variable{H H':WH}{A:cO}{P:PM}{g:Option W}{st:St}{aq fr:List b9}{f:b9}{s:bE}{rest:List bE}{rg ce:KV}{fe:Int}{tr:List (List Nat×List Int)}
theorem aO.self(h:aO H A P g st aq):H A.w=some (.dS (eU g) (fS A P st.free g)):=h.led.aE 0 rfl
theorem aO.mem(h:aO H A P g st aq):H A.ce=some (.dI st.cells):=h.led.aE 1 rfl
theorem aO.aB(h:aO H A P g st aq):H A.sh=some (.dI st.aB):=h.led.aE 2 rfl
theorem aO.bf(h:aO H A P g st aq):H A.fr=some (.list (aq.reverse.map λf=>.ref f.c)):=h.led.aE 3 rfl
theorem aO.eO(h:aO H A P g st aq):H A.tr=some (.list (st.trace.map eE)):=h.led.aE 4 rfl
theorem aO.fc(h:aO H A P g ⟨rg,s::rest,ce,fe,tr⟩ (f::fr)):H f.c=some (.dS jD (jE P f s)):=h.led.aE 5 rfl
theorem aO.own(h:aO H A P g ⟨rg,s::rest,ce,fe,tr⟩ (f::fr)):H f.own=some (.dI s.own):=h.led.aE 6 rfl
theorem aO.aD(h:aO H A P g ⟨rg,s::rest,ce,fe,tr⟩ (f::fr)):H f.aD=some (.list (((P.aD s).drop s.at_).map (aW P.t.ah))):=h.led.aE 7 rfl
theorem gw:((f::fr).reverse.map λf=>W.ref f.c).getLast?=some (.ref f.c):=by rw [List.reverse_cons,List.map_append,List.getLast?_append];rfl
theorem aO.eG(h:aO H A P g st aq)(hne:st.ay≠[]):∃f fr rg s rest ce fe tr,aq=f::fr/\st=⟨rg,s::rest,ce,fe,tr⟩:=by
 obtain ⟨rg,ay,ce,fe,tr⟩:=st
 cases ay with
 |nil=>exact absurd rfl hne
 |cons s rest=>
  cases aq with
  |nil=>cases h.len
  |cons f fr=>exact ⟨f,fr,rg,s,rest,ce,fe,tr,rfl,rfl⟩
@[elab_as_elim] theorem aO.nE {M:St->List b9->Prop} {s:bE} {rest:List bE} (h:aO H A P g st aq) (hf:st.ay=s::rest) (k:∀f fr rg ce fe tr,aO H A P g ⟨rg,s::rest,ce,fe,tr⟩ (f::fr)->M ⟨rg,s::rest,ce,fe,tr⟩ (f::fr)):M st aq:=by
  obtain ⟨rg,ay,ce,fe,tr⟩:=st
  cases hf
  induction aq with
  |nil=>cases h.len
  |cons f fr=>exact k _ _ _ _ _ _ h
@[elab_as_elim] theorem aO.i7 {M:St->List b9->Prop} (h:aO H A P g st aq) (hne:st.ay≠[]) (k:∀f fr rg s rest ce fe tr,aO H A P g ⟨rg,s::rest,ce,fe,tr⟩ (f::fr)->(St.mk rg (s::rest) ce fe tr).ay≠[]->M ⟨rg,s::rest,ce,fe,tr⟩ (f::fr)):M st aq:=by
  obtain ⟨rg,ay,ce,fe,tr⟩:=st
  induction ay with
  |nil=>exact absurd rfl hne
  |cons s rest=>exact h.nE rfl λf fr rg ce fe tr h=>k _ _ _ _ _ _ _ _ h (List.cons_ne_nil _ _)
theorem aO.mR(h:aO H A P g st aq)(r:KV):aO (H.ai A.sh (.dI r)) A P g {st with aB:=r} aq:=⟨h.led.bL 2 (.dI r) rfl,h.len,h.cW⟩
theorem aO.jJ(h:aO H A P g st aq)(r:KV):aO (H.ai A.ce (.dI r)) A P g {st with cells:=r} aq:=⟨h.led.bL 1 (.dI r) rfl,h.len,h.cW⟩
theorem aO.AD(h:aO H A P g st aq)(v:Int)(g':Option W):aO (H.ai A.w (.dS (eU g') (fS A P v g'))) A P g' {st with free:=v} aq:=⟨h.led.bL 0 (.dS (eU g') (fS A P v g')) rfl,h.len,h.cW⟩
theorem aO.A7(h:aO H A P g st aq)(l:List (List Nat×List Int)):aO (H.ai A.tr (.list (l.map eE))) A P g {st with trace:=l} aq:=⟨h.led.bL 4 (.list (l.map eE)) rfl,h.len,h.cW⟩
theorem B9{s s':bE}(e:s'.fn=s.fn)(h:∀x∈s::rest,x.fn=bH\/x.fn=cu):∀x∈s'::rest,x.fn=bH\/x.fn=cu:=λx hx=>by
 rcases List.mem_cons.mp hx with rfl|hx
 ·exact e▸h s (.head _)
 ·exact h x (.tail _ hx)
theorem aO.A8(h:aO H A P g ⟨rg,s::rest,ce,fe,tr⟩ (f::fr))(r:KV):aO (H.ai f.own (.dI r)) A P g ⟨rg,{s with own:=r}::rest,ce,fe,tr⟩ (f::fr):=⟨h.led.bL 6 (.dI r) rfl,h.len,B9 (s:=s) (s':={s with own:=r}) rfl h.cW⟩
theorem aO.new(h:aO H A P g st aq){c:Nat}(hc:H c=none)(o:WO):aO (H.ai c o) A P g st aq:=⟨h.led.old hc o,h.len,h.cW⟩
theorem aO.keep{F:List Nat}(h:aO H A P g st aq)(k:Fr F H H')(hd:∀p∈jY A P g st aq,p.1∉F):aO H' A P g st aq:=⟨h.led.keep k hd,h.len,h.cW⟩
theorem aO.n7(h:aO H A P g st aq){a:Nat}(ha:H a=none):∀p∈jY A P g st aq,p.1≠a:=λp hp q=>by
 have:=h.led.2 p hp;rw [q,ha] at this;cases this
theorem Nd(h:aO H A P g st aq):(aq.reverse.map λf=>W.ref f.c).length=st.ay.length:=by rw [List.length_map,List.length_reverse,h.len]
structure WK(A:cO)(aq:List b9)(P:PM)(g:Option W)(st:St)(H H':WH):Prop where
 r:aO H' A P g st aq
 k:Fr (dg A aq) H H'
theorem AE(t:aJ)(v:Int):v.fmod (2^t.bits)=t.aU v:=vB v t.bits
end
section
variable{G:Gx}{n:Nat}{E:Nat->WH->Prop}{H:WH}{Q:W->WH->Prop}{A:cO}{P:PM}{g:Option W}{st:St}{aq fr:List b9}{f:b9}{N:Nat}
theorem HO(pg:aP G){r:Int}(hR:aO H A P g st aq)(hne:st.ay≠[])(hq:Q (W.dG (st.aT P.t r)) H):WV G (n+1) 593 [.ref A.w,.int r] Q E H:=by
 revert hq
 refine hR.i7 hne λf fr rg s rest ce fe tr hR hne hq=>?_
 refine aF pg pg.X0 rfl (rd hR.self (bI (λhz=>?_) λhz=>bI (λhv=>?_) λhv=>?_))
 ·exact dN (K:=λv=>Q (W.dG v) H) (if_pos hz:(St.mk rg (s::rest) ce fe tr).aT P.t r=_).symm hq
 ·have hg:(St.mk rg (s::rest) ce fe tr).aT P.t r=s.own.aE r:=(if_neg hz).trans (if_pos (by lia))
  rw [hg] at hq
  exact rd hR.self (rd hR.bf (rd gw (rd hR.fc (rd hR.own (rd hR.own (oG (λv h=>by rw [h] at hq;exact hq) λh=>by rw [h] at hq;exact hq))))))
 ·have hg:(St.mk rg (s::rest) ce fe tr).aT P.t r=rg.aE r:=(if_neg hz).trans (if_neg (by lia))
  rw [hg] at hq
  exact rd hR.self (rd hR.aB (rd hR.aB (oG (λv h=>by rw [h] at hq;exact hq) λh=>by rw [h] at hq;exact hq)))
theorem mS(pg:aP G)(hP:P.wf){r v:Int}(hR:aO H A P g st aq)(hne:st.ay≠[])(hsz:st.Sz N)
 (hq:∀H',WK A aq P g (st.cz P.t r v) H H'->Q .aZ H'):WV G (n+1) 600 [.ref A.w,.int r,.int v] Q E H:=by
 revert hsz hq
 refine hR.i7 hne λf fr rg s rest ce fe tr hR hne hsz hq=>?_
 have hl:=hsz.le
 have hb:=hP.bits
 have h8:=gA hb
 have pw:(0:Int)<=P.t.bits/\(P.t.bits:Int)<=64/\(2:Int).natAbs<2^62:=⟨by lia,by lia,by decide⟩
 have tK:(2:Int)^P.t.bits≠0:=by lia
 refine aF pg pg.X3 rfl (rd hR.self (bI (λhz=>hq H ⟨(Ge hz).symm▸hR,.rf⟩) λhz=>bI (λhv=>?_) λhv=>?_))
 ·exact rd hR.self (rd hR.bf (rd gw (rd hR.fc (rd hR.self ⟨pw,tK,rd hR.own ⟨Nat.le_trans (hsz.own s (.head _)) (by lia),hq _ ⟨by rw [show (v.fmod (2^(P.t.bits:Int).toNat))=P.t.aU v from AE ..];have q:=hR.A8 (s.own.set r (P.t.aU v));have w:=Gf (v:=v) (st:=St.mk rg (s::rest) ce fe tr) hz (show 64<=r by lia) rfl;rw [w];exact q,.ai (by simp [dg]) _⟩⟩⟩))))
 ·exact rd hR.self (rd hR.self ⟨pw,tK,rd hR.aB ⟨Nat.le_trans hsz.aB (by lia),hq _ ⟨by rw [show (v.fmod (2^(P.t.bits:Int).toNat))=P.t.aU v from AE ..];have q:=hR.mR (rg.set r (P.t.aU v));have w:=Gg (v:=v) (st:=St.mk rg (s::rest) ce fe tr) hz (show ¬64<=r by lia);rw [w];exact q,.ai (by simp [dg]) _⟩⟩⟩)
end
section
variable{G:Gx}{n:Nat}{E:Nat->WH->Prop}{H:WH}{Q:W->WH->Prop}{b:Nat}{x y:Int}
theorem qu{b:Nat}(hb:b<=8):(0:Int)<=b/\(b:Int)<=64/\(2:Int).natAbs<2^62:=⟨by lia,by lia,by decide⟩
theorem FF(pg:aP G)(hb:3<=b/\b<=8)(hx:Wd b x)(hq:Q (.int (gV b x)) H):WV G (n+1) 574 [.int x,.int b] Q E H:=by
 have h8:=gA hb
 obtain ⟨h1,h2⟩:=hx
 have pw:=qu hb.2
 refine aF pg pg.XZ rfl ⟨⟨by decide,by lia⟩,pw,bI (λh=>⟨pw,?_⟩) λh=>?_⟩
 ·exact dN (K:=λv=>Q (.int v) H) (if_pos h:gV b x=_).symm hq
 ·exact dN (K:=λv=>Q (.int v) H) (if_neg h:gV b x=_).symm hq
theorem N7{i b:Nat}(h:i<b)(hb:b<=8):(1:Int)<=2^i/\(2:Int)^i<=128:=
 (by decide:∀i:Fin 8,(1:Int)<=2^i.1/\(2:Int)^i.1<=128) ⟨i,Nat.lt_of_lt_of_le h hb⟩
theorem Bf{op:List Nat}{ws:List Int}{c:Int->Bool}{K:WF->WM->WH->Prop}(hb:3<=b/\b<=8)(hc:∀s,s∈ws↔c s=true)(hq:K (.ret (.int (yj c b x y))) [some (.str op),some (.int b),some (.int x),some (.int y),some (.aj (au ws))] H):
 bO G n [(.ret (.call (.bi .sum) [(.comp [2,3,4] 1 (.nm 0) (.call (.bi .range) [(.aa 1)]) [(.cmp .In (.aA .Add (.aA .Mod (.aA .FloorDiv (.aa 1) (.aA .Pow (.c (.int 2)) (.aa 0))) (.c (.int 2))) (.aA .Mod (.aA .FloorDiv (.aa 2) (.aA .Pow (.c (.int 2)) (.aa 0))) (.c (.int 2)))) (.aa 3))] (.elt (.aA .Pow (.c (.int 2)) (.aa 0))))]))] K E [some (.str op),some (.int b),some (.int x),some (.int y),some (.aj (au ws))] H:=by
 refine ⟨⟨by show-1000000000<=(b:Int);lia,by show (b:Int)<=1000000000;lia⟩,λD hD=>⟨λi=>J1 (λz=>[z,some (.int x),some (.int y),some (.aj (au ws))]) (λH1=>H1=H.ai D (.list (au ((List.range i).filterMap (fN c x y))))),⟨_,rfl,rfl⟩,λi d m H1 hi=>j1 λz H2 e=>?_,λm H1=>j1 λz H2 e=>?_⟩⟩
 ·obtain ⟨rfl,bJ⟩:=WS.kU hi
  have bJ:i<b:=bJ
  obtain ⟨p1,p2⟩:=N7 bJ hb.2
  have pw:=qu (b:=i) (by lia)
  have nz:(2:Int)^i≠0/\((2:Int)^i).natAbs<1073741824:=⟨by lia,by lia⟩
  have e1:H2 D=some (.list (au ((List.range i).filterMap (fN c x y)))):=by rw [e,aN]
  have hl:((List.range i).filterMap (fN c x y)).length<=i:=Nat.le_trans (List.length_filterMap_le ..) (by rw [List.length_range];exact Nat.le_refl _)
  have fe:∀v:Int,(v.fdiv (2^i)).fmod 2=v/2^i%2:=λv=>by rw [Int.fdiv_eq_ediv_of_nonneg _ (by lia),fm _ (by decide)]
  have iJ:(List.range (i+1)).filterMap (fN c x y)=(List.range i).filterMap (fN c x y)++(fN c x y i).toList:=by
   rw [List.range_succ,List.filterMap_append]
   rfl
  refine ⟨pw,nz,by decide,pw,nz,by decide,ws,rfl,bI (λh=>?_) λh=>?_⟩
  ·have h:(x.fdiv (2^i)).fmod 2+(y.fdiv (2^i)).fmod 2∈ws:=h
   rw [fe,fe,hc] at h
   have hf:fN c x y i=some (2^i):=if_pos h
   refine ⟨pw,rd e1 ⟨by unfold au;rw [List.length_map];lia,_,rfl,?_⟩⟩
   rw [e,cg,iJ,hf];unfold au;rw [List.map_append];rfl
  ·have h:¬(x.fdiv (2^i)).fmod 2+(y.fdiv (2^i)).fmod 2∈ws:=h
   rw [fe,fe,hc] at h
   have hf:fN c x y i=none:=if_neg h
   refine ⟨_,rfl,?_⟩
   rw [e,iJ,hf];exact (congrArg (λl=>H.ai D (.list (au l))) (List.append_nil _)).symm
 ·have hl:((List.range b).filterMap (fN c x y)).length<=b:=Nat.le_trans (List.length_filterMap_le ..) (by rw [List.length_range];exact Nat.le_refl _)
  have e1:H2 D=some (.list (au ((List.range b).filterMap (fN c x y)))):=by rw [e,aN];rfl
  have hd:H2.aV D=H:=by rw [e,iu hD]
  exact rd e1 ⟨by unfold au;rw [List.length_map];lia,.inl ⟨_,rfl,dN (K:=λh=>K (.ret (.int (yj c b x y))) [some (.str op),some (.int b),some (.int x),some (.int y),some (.aj (au ws))] h) hd hq⟩⟩
theorem CG(s:Int):s∈([2]:List Int)↔lW s=true:=by unfold lW;rw [decide_eq_true_eq];exact List.mem_singleton
theorem in1(s:Int):s∈([1]:List Int)↔sL s=true:=by unfold sL;rw [decide_eq_true_eq];exact List.mem_singleton
theorem Y7(s:Int):s∈([1,2]:List Int)↔tn s=true:=by unfold tn;simp
theorem lZ(pg:aP G){k:Nat}(hk:k<8)(hb:3<=b/\b<=8)(hx:Wd b x)(hy:Wd b y)(hq:Q (.int (cN b k x y)) H):WV G (n+2) 579 [.str (gi k),.int b,.int x,.int y] Q E H:=by
 have h8:=gA hb
 have pw:=qu hb.2
 have tK:(2:Int)^b≠0:=by lia
 obtain ⟨x0,x1⟩:=id hx
 obtain ⟨y0,y1⟩:=id hy
 have xs:x.natAbs<2^62/\y.natAbs<2^62:=⟨by lia,by lia⟩
 obtain ⟨b1,b2,b3⟩:=Gj b x y hx hy
 revert hq
 refine mD hk ?_ ?_ ?_ ?_ ?_ ?_ ?_ ?_<;>intro hq
 ·exact aF pg pg.nD rfl ⟨xs,.inl ⟨pw,tK,dN (K:=λv=>Q (.int v) H) (vB _ b) hq⟩⟩
 ·exact aF pg pg.nD rfl ⟨xs,.inl ⟨pw,tK,dN (K:=λv=>Q (.int v) H) (vB _ b) hq⟩⟩
 ·exact aF pg pg.nD rfl (.inl (Bf (ws:=[2]) hb CG (dN (K:=λv=>Q (.int v) H) ((wJ lW b x y).trans b1.symm) hq)))
 ·exact aF pg pg.nD rfl (.inl (Bf (ws:=[1,2]) hb Y7 (dN (K:=λv=>Q (.int v) H) ((wJ tn b x y).trans b2.symm) hq)))
 ·exact aF pg pg.nD rfl (.inl (Bf (ws:=[1]) hb in1 (dN (K:=λv=>Q (.int v) H) ((wJ sL b x y).trans b3.symm) hq)))
 ·exact aF pg pg.nD rfl ⟨xs,.inl ⟨pw,tK,dN (K:=λv=>Q (.int v) H) (vB _ b) hq⟩⟩
 ·exact aF pg pg.nD rfl (FF (n:=n) pg hb hx (FF (n:=n) pg hb hy (bI (λh=>dN (K:=λv=>Q (.int v) H) (if_pos h:cN b 6 x y=_).symm hq) λh=>dN (K:=λv=>Q (.int v) H) (if_neg h:cN b 6 x y=_).symm hq)))
 ·exact aF pg pg.nD rfl (bI (λh=>dN (K:=λv=>Q (.int v) H) (if_pos h:cN b 7 x y=_).symm hq) λh=>dN (K:=λv=>Q (.int v) H) (if_neg h:cN b 7 x y=_).symm hq)
theorem xC(pg:aP G)(hq:Q (.int (if x=y then 1 else 0)) H):WV G (n+2) 579 [.str [115,97,109,101],.int b,.int x,.int y] Q E H:=
 aF pg pg.nD rfl (bI (λh=>dN (K:=λv=>Q (.int v) H) (if_pos h:(if x=y then (1:Int) else 0)=_).symm hq) λh=>dN (K:=λv=>Q (.int v) H) (if_neg h:(if x=y then (1:Int) else 0)=_).symm hq)
end
section
variable{G:Gx}{n:Nat}{E:Nat->WH->Prop}{H:WH}{Q:W->WH->Prop}{A:cO}{P:PM}{g:Option W}{st:St}{aq fr:List b9}{f:b9}{N:Nat}
noncomputable def gv:List Nat:=[102,97,117,108,116]
theorem WK.tr{cD jw:St}{H1 H2:WH}(k:WK A aq P g cD H H1)(k2:WK A aq P g jw H1 H2):WK A aq P g jw H H2:=⟨k2.r,k.k.tr k2.k⟩
theorem HP(pg:aP G)(hP:P.wf){aH:List Int}{v:Option Int}(vP:aH.length<=1)(hR:aO H A P g st aq)(hne:st.ay≠[])(hsz:st.Sz N)
 (hq:∀H' ak,st.cA P.t aH v=.ok ak->WK A aq P g ak H H'->Q (.str []) H')(he:∀H' ak,st.cA P.t aH v=.bG ak->WK A aq P g ak H H'->Q (.str gv) H'):WV G (n+2) 612 [.ref A.w,.af (au aH),W.dG v] Q E H:=by
 have hl:=hsz.le
 refine aF pg pg.X4 rfl (rd hR.self ⟨λi=>J1 (λu=>[some (.ref A.w),some (.af (au aH)),some (W.dG v),u]) (WK A aq P g {st with aB:=(P.t.d9.take i).foldl KV.aV st.aB} H),⟨_,rfl,hR,.rf⟩,λi d m H1 hi=>j1 λu H2 e=>?_,λm H1=>j1 λu H2 e=>?_⟩)
 ·obtain ⟨x,rfl,hx⟩:=jf hi
  have hs:=rJ KV.aV st.aB P.t.d9 i x hx
  have hl1:=Aa (P.t.d9.take i) st.aB
  have:=hsz.aB
  refine rd e.r.self (rd e.r.aB (rd e.r.aB ⟨by show ((P.t.d9.take i).foldl KV.aV st.aB).length<=_;lia,_,.rf,_,rfl,?_⟩))
  rw [hs]
  exact ⟨e.r.mR _,e.k.tr (.ai (.tail _ (.tail _ (.head _))) _)⟩
 rw [List.take_of_length_le (kB P.t.d9)] at e
 have hz7:(st.kK P.t).Sz N:=wR hsz P.t
 cases aH with
 |nil=>exact hq H2 _ rfl e
 |cons o l=>
  cases l with
  |cons _ _=>exact absurd vP (by simp)
  |nil=>
   cases v with
   |none=>exact he H2 _ rfl e
   |some v=>exact rd (v:=.int o) rfl (mS (n:=n) pg hP e.r hne hz7 λH3 k=>hq H3 _ rfl (e.tr k))
theorem t7(t:aJ)(v:Int):v.fmod (2^(t.bits:Int).toNat)=t.aU v:=AE t v
theorem uW{P:PM}(hP:P.wf):((0:Int)<=P.t.bits/\(P.t.bits:Int)<=64/\(2:Int).natAbs<2^62)/\(2:Int)^(P.t.bits:Int).toNat≠0:=by
 have h8:8<=(2:Int)^P.t.bits/\_:=gA hP.bits
 exact ⟨qu hP.bits.2,by show (2:Int)^P.t.bits≠0;lia⟩
theorem Y8(pg:aP G)(hP:P.wf){o a v x:Int}(hR:aO H A P g st aq)(hne:st.ay≠[])(hsz:st.Sz N)
 (hq:∀H' u,st.cells.aE (P.t.aU (x+v))=some u->WK A aq P g (st.cz P.t o u) H H'->Q (.str []) H')(he:st.cells.aE (P.t.aU (x+v))=none->Q (.str gv) H):WV G (n+2) 624 [.ref A.w,aW P.t.ah (.lw o a v),.af [.int x]] Q E H:=by
 revert hsz hq he
 refine hR.i7 hne λf fr rg s rest ce fe tr hR hne hsz hq he=>?_
 have pw:=uW hP
 have hw:=t7 P.t (x+v)
 exact aF pg pg.qC rfl (rd hR.self (rd hR.bf (rd gw (rd (v:=.int x) rfl (rd hR.self ⟨pw.1,pw.2,rd hR.self (rd hR.mem (oB (λu h=>rd (v:=.int o) rfl (rd hR.self (rd hR.mem (rd h (mS (n:=n) pg hP hR hne hsz λH2 k=>hq H2 u (hw▸h) k))))) λh=>he (hw▸h)))⟩)))))
theorem Y9(pg:aP G)(hP:P.wf){u a v x y:Int}(hR:aO H A P g st aq)(hne:st.ay≠[])(hsz:st.Sz N)
 (hq:∀H' w,st.cells.aE (P.t.aU (y+v))=some w->WK A aq P g {st with cells:=st.cells.set (P.t.aU (y+v)) x} H H'->Q (.str []) H')(he:st.cells.aE (P.t.aU (y+v))=none->Q (.str gv) H):WV G (n+2) 624 [.ref A.w,aW P.t.ah (.sw u a v),.af [.int x,.int y]] Q E H:=by
 revert hsz hq he
 refine hR.i7 hne λf fr rg s rest ce fe tr hR hne hsz hq he=>?_
 have pw:=uW hP
 have hw:=t7 P.t (y+v)
 have hl:=hsz.le
 exact aF pg pg.qC rfl (rd hR.self (rd hR.bf (rd gw (rd (v:=.int y) rfl (rd hR.self ⟨pw.1,pw.2,rd hR.self (rd hR.mem (oB (λw h=>rd (v:=.int x) rfl (rd hR.self (rd hR.mem ⟨Nat.le_trans hsz.cells (by lia),hq _ w (hw▸h) ⟨by rw [hw];exact hR.jJ _,.ai (.tail _ (.head _)) _⟩⟩))) λh=>he (hw▸h)))⟩)))))
theorem qg(l:List Int)(i:Nat):(au l).take i=au (l.take i):=List.map_take.symm
theorem Ve(pg:aP G)(hP:P.wf){o:Int}{i:Nat}(hi:i<=1000)(hR:aO H A P g st aq)(hne:st.ay≠[])(hsz:st.Sz N)
 (hq:∀H' u,st.cells.aE (P.dY st i)=some u->WK A aq P g (st.cz P.t o u) H H'->Q (.str []) H')(he:st.cells.aE (P.dY st i)=none->Q (.str gv) H):WV G (n+2) 624 [.ref A.w,aW P.t.ah (.pL o i),.af []] Q E H:=by
 revert hsz hq he
 refine hR.i7 hne λf fr rg s rest ce fe tr hR hne hsz hq he=>?_
 exact aF pg pg.qC rfl (rd hR.self (rd hR.bf (rd gw (rd hR.fc (rd hR.fc ⟨by lia,_,qg ..,rd hR.self (rd hR.mem (oB (λu h=>rd (v:=.int o) rfl (rd hR.self (rd hR.mem (rd h (mS (n:=n) pg hP hR hne hsz λH2 k=>hq H2 u h k))))) λh=>he h))⟩)))))
theorem Vf(pg:aP G)(hP:P.wf){u x:Int}{i:Nat}(hi:i<=1000)(hR:aO H A P g st aq)(hne:st.ay≠[])(hsz:st.Sz N)
 (hq:∀H' w,st.cells.aE (P.dY st i)=some w->WK A aq P g {st with cells:=st.cells.set (P.dY st i) x} H H'->Q (.str []) H')(he:st.cells.aE (P.dY st i)=none->Q (.str gv) H):WV G (n+2) 624 [.ref A.w,aW P.t.ah (.gG u i),.af [.int x]] Q E H:=by
 revert hsz hq he
 refine hR.i7 hne λf fr rg s rest ce fe tr hR hne hsz hq he=>?_
 have hl:=hsz.le
 exact aF pg pg.qC rfl (rd hR.self (rd hR.bf (rd gw (rd hR.fc (rd hR.fc ⟨by lia,_,qg ..,rd hR.self (rd hR.mem (oB (λw h=>rd (v:=.int x) rfl (rd hR.self (rd hR.mem ⟨Nat.le_trans hsz.cells (by lia),hq _ w h ⟨hR.jJ _,.ai (.tail _ (.head _)) _⟩⟩))) λh=>he h))⟩)))))
theorem Vg(pg:aP G)(hP:P.wf){o:Int}{i:Nat}(hi:i<=1000)(hR:aO H A P g st aq)(hne:st.ay≠[])(hsz:st.Sz N)
 (hq:∀H',WK A aq P g (st.cz P.t o (P.dY st i)) H H'->Q (.str []) H'):WV G (n+2) 624 [.ref A.w,aW P.t.ah (.pM o i),.af []] Q E H:=by
 revert hsz hq
 refine hR.i7 hne λf fr rg s rest ce fe tr hR hne hsz hq=>?_
 exact aF pg pg.qC rfl (rd hR.self (rd hR.bf (rd gw (rd hR.fc (rd hR.fc ⟨by lia,_,qg ..,rd (v:=.int o) rfl (mS (n:=n) pg hP hR hne hsz λH' k=>hq H' k)⟩)))))
theorem Za(pg:aP G)(hP:P.wf){o:Int}{nm:List Nat}(hn:nm∈([[97],[98],[99],[113]]:List (List Nat)))(hR:aO H A P g st aq)(hne:st.ay≠[])(hsz:st.Sz N)
 (hq:∀H' v,qj nm=some v->WK A aq P g (st.cz P.t o v) H H'->Q (.str []) H')(he:qj nm=none->Q (.str gv) H):WV G (n+2) 624 [.ref A.w,aW P.t.ah (.la o nm),.af []] Q E H:=by
 revert hsz hq
 refine hR.i7 hne λf fr rg s rest ce fe tr hR hne hsz hq=>?_
 revert hq he
 refine Ir hn ?_ ?_ ?_ (λhe hq=>aF pg pg.qC rfl (rd hR.self (rd hR.bf (rd gw (rd hR.self (he rfl))))))<;>exact λhe hq=>aF pg pg.qC rfl (rd hR.self (rd hR.bf (rd gw (rd hR.self (rd (v:=.int o) rfl (rd hR.self (mS (n:=n) pg hP hR hne hsz λH' k=>hq H' _ rfl k)))))))
end
section
variable{G:Gx}{n:Nat}{E:Nat->WH->Prop}{H:WH}{Q:W->WH->Prop}{A:cO}{P:PM}{g:Option W}{st:St}{aq fr:List b9}{f:b9}{N:Nat}
noncomputable def lI:List Nat:=[108,105,109,105,116]
theorem bSt{b:Bool}{k:Bool->Prop}(e:b=true)(h:k true):bS b k:=e▸h
theorem aO.push{s:bE}(h:aO H A P g st aq)(e1:H f.c=some (.dS jD (jE P f s)))(e2:H f.own=some (.dI s.own))(e3:H f.aD=some (.list (((P.aD s).drop s.at_).map (aW P.t.ah))))(n1:f.c≠f.own)(n2:f.c≠f.aD)(n3:f.own≠f.aD)
 (hn:∀p∈jY A P g st aq,p.1≠f.c/\p.1≠f.own/\p.1≠f.aD)(hs:s.fn=bH\/s.fn=cu):
 aO (H.ai A.fr (.list ((f::aq).reverse.map λf=>.ref f.c))) A P g {st with ay:=s::st.ay} (f::aq):=by
 have l1:=((h.led.cons e3 λp hp=>(hn p hp).2.2).cons e2 λp hp=>?_).cons e1 λp hp=>?_
 ·have l2:=l1.qD (IF _ _ _ ((jY A P g st aq).take 5) (uV P aq st.ay))
  exact ⟨l2.bL 3 (.list ((f::aq).reverse.map λf=>.ref f.c)) rfl,congrArg (·+1) h.len,mc hs h.cW⟩
 ·exact mc (P:=λp=>p.1≠_) n3.symm (λp hp=>(hn p hp).2.1) p hp
 ·exact mc (P:=λp=>p.1≠_) n1.symm (mc n2.symm λp hp=>(hn p hp).1) p hp
theorem w_enter(pg:aP G)(hP:P.wf){nm:List Nat}{aH:List Int}{b0:List bq}(cF:nm=bH\/nm=cu)(fQ:(aI P nm).bD[0]?=some b0)(fH:b0.length<=100)(hR:aO H A P g st aq)(hsz:st.Sz N)
 (hq:∀H' ak f,st.enter P nm (aI P nm) aH=.ok ak->aO H' A P g ak (f::aq)->Fr (dg A aq) H H'->H f.c=none->H f.own=none->H f.aD=none->Q (.str []) H')
 (he:st.enter P nm (aI P nm) aH=.fj st->Q (.str lI) H):WV G (n+1) 605 [.ref A.w,.str nm,.af (au aH)] Q E H:=by
 have hl:=hsz.le
 have kg:=gM hP cF
 have hw:=Am kg
 have jx:=Nd hR
 have pw:=uW hP
 have vh:11<=1000000:=by decide
 have main:bO G n (wz.drop 1) (kF Q) E [some (.ref A.w),some (.str nm),some (.af (au aH)),some (.af (au (aI P nm).slots)),some (.af ((aI P nm).bD.map (fk P.t.ah))),none,none,none,none] H:=by
  refine rd hR.self (rd hR.self (rd hR.bf ⟨by rw [jx];exact Nat.le_trans hsz.ay (by decide),bI (λh=>he (if_pos (by rw [jx] at h;lia))) λh64=>⟨_,rfl,rd hR.self ⟨pw.1,bI (λh=>?_) λnR=>?_⟩⟩⟩))
  ·have h:st.free+(aI P nm).bu>P.t.jd:=h
   refine he ?_
   unfold St.enter;rw [if_pos h];exact ite_self _
  have nR:¬st.free+(aI P nm).bu>P.t.jd:=nR
  rw [jx] at h64
  have h64:¬64<=st.ay.length:=by lia
  have iJ:st.enter P nm (aI P nm) aH=.ok {st with ay:=⟨nm,0,0,[],st.free,e9 P.t st.aB,aH⟩::st.ay,cells:=dP st.cells st.free (aI P nm).bu.toNat,free:=st.free+(aI P nm).bu}:=by unfold St.enter;rw [if_neg h64,if_neg nR]
  refine rd hR.self λD hD=>⟨λi=>J1 (λz=>[z,some (.ref A.w)]) (λH1=>H1=H.ai D (.list ((kL P.t st.aB i).map lR))),⟨_,rfl,rfl⟩,λi d m H1 hi=>j1 λz H2 e=>?_,λm H1=>j1 λz H2 e=>?_⟩
  ·obtain ⟨x,rfl,hx⟩:=jf hi
   have r2:aO H2 A P g st aq:=e▸hR.new hD _
   have e1:H2 D=some (.list ((kL P.t st.aB i).map lR)):=by rw [e,aN]
   have hs:kL P.t st.aB (i+1)=kL P.t st.aB i++((st.aB.aE x).map λv=>(x,v)).toList:=by
    unfold kL
    rw [List.take_add_one,hx,List.filterMap_append]
    rfl
   refine rd r2.self (rd r2.aB (oB (λv hv=>?_) λhv=>?_))
   ·rw [hv] at hs
    refine rd r2.self (rd r2.aB (rd hv (rd e1 ⟨by rw [List.length_map];exact Nat.le_trans (zQ ..) (by decide),_,rfl,?_⟩)))
    rw [e,cg,hs,List.map_append];rfl
   ·rw [hv] at hs
    refine ⟨_,rfl,?_⟩
    rw [e,hs];exact (congrArg (λl=>H.ai D (.list (l.map lR))) (List.append_nil _)).symm
  rw [zR _ _ (kB _)] at e
  have ek:H2 D=some (.list ((e9 P.t st.aB).map lR)):=by rw [e,aN]
  have hd:H2.aV D=H:=by rw [e,iu hD]
  have nP:=zQ P.t st.aB P.t.bh.length
  rw [zR _ _ (Nat.le_refl _)] at nP
  refine rd ek ⟨by rw [List.length_map];exact Nat.le_trans nP (by decide),.inl ?_⟩
  rw [hd]
  have eb:((aI P nm).bD.map (fk P.t.ah))[0]?=some (fk P.t.ah b0):=by rw [List.getElem?_map,fQ];rfl
  refine rd eb ⟨by rw [List.length_map];lia,.inr λcr vQ=>.inl λco hco=>.inr λc hc=>?_⟩
  have yt:co≠cr:=λq=>by rw [q,aN] at hco;cases hco
  have Ca:c≠co:=λq=>by rw [q,aN] at hc;cases hc
  have Cb:H co=none:=by rw [aL _ _ _ yt] at hco;exact hco
  have Cc:c≠cr:=λq=>by rw [q,aL _ _ _ yt.symm,aN] at hc;cases hc
  have C8:H c=none:=by rw [aL _ _ _ Ca,aL _ _ _ Cc] at hc;exact hc
  have r3:=((hR.new vQ (.list (b0.map (aW P.t.ah)))).new hco (.dI [])).new hc (.dS jD (jE P ⟨c,co,cr⟩ ⟨nm,0,0,[],st.free,e9 P.t st.aB,aH⟩))
  have k3:Fr (dg A aq) H _:=((Fr.new vQ (.list (b0.map (aW P.t.ah)))).tr (.new hco (.dI []))).tr (.new hc (.dS jD (jE P ⟨c,co,cr⟩ ⟨nm,0,0,[],st.free,e9 P.t st.aB,aH⟩)))
  have c1:=aN (((H.ai cr (.list (b0.map (aW P.t.ah)))).ai co (.dI []))) c (.dS jD (jE P ⟨c,co,cr⟩ ⟨nm,0,0,[],st.free,e9 P.t st.aB,aH⟩))
  have c2:=(aL ((H.ai cr (.list (b0.map (aW P.t.ah)))).ai co (.dI [])) c (.dS jD (jE P ⟨c,co,cr⟩ ⟨nm,0,0,[],st.free,e9 P.t st.aB,aH⟩)) Ca.symm).trans (aN ..)
  have c3:=(aL ((H.ai cr (.list (b0.map (aW P.t.ah)))).ai co (.dI [])) c (.dS jD (jE P ⟨c,co,cr⟩ ⟨nm,0,0,[],st.free,e9 P.t st.aB,aH⟩)) Cc.symm).trans ((aL _ _ _ yt.symm).trans (aN ..))
  generalize hH3:((H.ai cr (.list (b0.map (aW P.t.ah)))).ai co (.dI [])).ai c (.dS jD (jE P ⟨c,co,cr⟩ ⟨nm,0,0,[],st.free,e9 P.t st.aB,aH⟩))=H3 at r3 k3 c1 c2 c3
  refine dN (K:=nx (bO G n (wz.drop 5) (kF Q) E) (kF Q) .next [some (.ref A.w),some (.str nm),some (.af (au aH)),some (.af (au (aI P nm).slots)),some (.af ((aI P nm).bD.map (fk P.t.ah))),some (.int st.free),some (.af ((e9 P.t st.aB).map lR)),some (.ref c),none]) hH3 ?_
  refine ⟨_,rfl,⟨⟨by show-1000000000<=(aI P nm).bu;lia,by show (aI P nm).bu<=1000000000;lia⟩,λi=>J1 (λv=>[some (.ref A.w),some (.str nm),some (.af (au aH)),some (.af (au (aI P nm).slots)),some (.af ((aI P nm).bD.map (fk P.t.ah))),some (.int st.free),some (.af ((e9 P.t st.aB).map lR)),some (.ref c),v]) (λH1=>H1=H3.ai A.ce (.dI (dP st.cells st.free i))),⟨_,rfl,?_⟩,λi d m H1 hi=>j1 λv H4 e4=>?_,λm H1=>j1 λv H4 e4=>?_⟩⟩
  ·funext b
   unfold WH.ai
   by_cases q:b=A.ce
   ·rw [if_pos q,q,r3.mem];rfl
   ·rw [if_neg q]
  ·obtain ⟨rfl,bJ⟩:=WS.kU hi
   have r4:aO H4 A P g {st with cells:=dP st.cells st.free i} aq:=e4▸r3.jJ _
   have zl:=wI st.cells st.free i
   have bJ:i<(aI P nm).bu.toNat:=bJ
   have:=hsz.cells
   refine rd r4.self (rd r4.mem ⟨by show (dP st.cells st.free i).length<=_;lia,_,.rf,_,rfl,?_⟩)
   rw [e4,cg,wB]
  ·have e4:H4=H3.ai A.ce (.dI (dP st.cells st.free (aI P nm).bu.toNat)):=e4
   have r4:aO H4 A P g {st with cells:=dP st.cells st.free (aI P nm).bu.toNat} aq:=e4▸r3.jJ _
   have k5:Fr (dg A aq) H H4:=e4▸k3.tr (.ai (.tail _ (.head _)) _)
   have r5:=r4.AD (st.free+(aI P nm).bu) g
   refine ⟨_,rfl,rd r4.self (nU (by clear hR hq r3 r4 r5;induction g<;>rfl) (rd r5.self (rd r5.bf (rd r5.bf ⟨by rw [jx];exact Nat.le_trans hsz.ay (by decide),?_⟩))))⟩
   have hl2:(aq.reverse.map λf=>W.ref f.c)++[.ref c]=(((⟨c,co,cr⟩:b9)::aq).reverse.map λf=>W.ref f.c):=by rw [List.reverse_cons,List.map_append];rfl
   have old:∀{a:Nat},H a=none->∀p∈jY A P g {st with cells:=dP st.cells st.free (aI P nm).bu.toNat,free:=st.free+(aI P nm).bu} aq,p.1≠a:=λ{a} ha p hp q=>by
    obtain ⟨p',tu,e⟩:=List.mem_map.mp (show p.1∈(jY A P g st aq).map (·.1) from List.mem_map_of_mem (f:=(·.1)) hp)
    exact hR.n7 ha p' tu (e.trans q)
   have ri:∀{a:Nat} {o:WO},H a=none->H3 a=some o->(H4.ai A.w (.dS (eU g) (fS A P (st.free+(aI P nm).bu) g))) a=some o:=λ{a o} ha h=>by
    rw [aL _ _ _ (old ha _ (.head _)).symm,e4,aL _ _ _ (old ha _ (.tail _ (.head _))).symm];exact h
   have hrw:(P.aD ⟨nm,0,0,[],st.free,e9 P.t st.aB,aH⟩).drop 0=b0:=by
    show ((aI P nm).bD[0]?).getD []=b0
    rw [fQ];rfl
   have rp:=r5.push (f:=⟨c,co,cr⟩) (s:=⟨nm,0,0,[],st.free,e9 P.t st.aB,aH⟩) (ri C8 c1) (ri Cb c2) (by rw [hrw];exact ri vQ c3) Ca Cc yt (λp hp=>⟨old C8 p hp,old Cb p hp,old vQ p hp⟩) cF
   exact hq _ _ ⟨c,co,cr⟩ iJ (by rw [hl2];exact rp) ((k5.tr (.ai (.head _) _)).tr (.ai (.tail _ (.tail _ (.tail _ (.head _)))) _)) C8 Cb vQ
 clear hq he kg hw fQ
 rcases U8 cF with ⟨rfl,e⟩|⟨rfl,e⟩
 ·rw [e] at main
  exact aF pg pg.Jj rfl (rd hR.self main)
 ·rw [e] at main
  exact aF pg pg.Jj rfl (rd hR.self main)
end
section
variable{G:Gx}{n:Nat}{E:Nat->WH->Prop}{H:WH}{Q:W->WH->Prop}{A:cO}{P:PM}{g:Option W}{st:St}{aq fr:List b9}{f:b9}{N:Nat}
noncomputable def xh:List Nat:=[100,111,110,101]
theorem FG:∀a∈dg A fr,a∈dg A (f::fr):=λa ha=>by
 unfold dg at ha ⊢
 rw [List.flatMap_cons]
 rcases List.mem_cons.mp ha with h|ha
 ·exact h▸.head _
 ·rcases List.mem_cons.mp ha with h|ha
  ·exact h▸.tail _ (.head _)
  ·rcases List.mem_cons.mp ha with h|ha
   ·exact h▸.tail _ (.tail _ (.head _))
   ·rcases List.mem_cons.mp ha with h|ha
    ·exact h▸.tail _ (.tail _ (.tail _ (.head _)))
    ·rcases List.mem_cons.mp ha with h|ha
     ·exact h▸.tail _ (.tail _ (.tail _ (.tail _ (.head _))))
     ·exact .tail _ (.tail _ (.tail _ (.tail _ (.tail _ (List.mem_append_right _ ha)))))
theorem aO.lg{s:bE}{rg ce:KV}{rest:List bE}{fe:Int}{tr:List (List Nat×List Int)}(h:aO H A P g ⟨rg,s::rest,ce,fe,tr⟩ (f::fr)):aO (H.ai A.fr (.list (fr.reverse.map λf=>.ref f.c))) A P g ⟨rg,rest,ce,fe,tr⟩ fr:=
 ⟨(h.led.bL 3 (.list (fr.reverse.map λf=>.ref f.c)) rfl).sub (.cons_cons _ (.cons_cons _ (.cons_cons _ (.cons_cons _ (.cons_cons _ (.cons _ (.cons _ (.cons _ (List.Sublist.refl _))))))))),Nat.succ.inj h.len,λx hx=>h.cW x (.tail _ hx)⟩
theorem gvK(g:Option W)(w:Option Int):ee (eU g) [103,97,118,101]=eU (some (W.dG w)):=by induction g<;>rfl
theorem gvV(A:cO)(P:PM)(b:Int)(g:Option W)(w:Option Int):fC (eU g) (fS A P b g) [103,97,118,101] (W.dG w)=fS A P b (some (W.dG w)):=by induction g<;>rfl
inductive JB(H1:WH)(D:Nat)(kp rg:KV)(i:Nat)(H2:WH):Prop
 |mk (l:List W) (e:H2=H1.ai D (.list l)) (n:l.length<=i) (q:l=[]↔∀j k v,j<i->kp[j]?=some (k,v)->rg.aE k=some v)
theorem w_left(pg:aP G)(hP:P.wf){v:List Int}(qO:v.length<=1)(hR:aO H A P g st aq)(hsz:st.Sz N){s:bE}{rest:List bE}(hf:st.ay=s::rest)
 (nP:s.aR.length<=1000)(vP:s.aH.length<=1)(qE:∀i:Nat,i<(aI P s.fn).bu.toNat->(st.cells.aE (s.base+i)).isSome=true)(hw:0<=(aI P s.fn).bu/\(aI P s.fn).bu<=4)
 (nS:∀H' ak f fr g',aq=f::fr->P.step st (.ret v)=.ok ak->rest≠[]->aO H' A P g' ak fr->Fr (dg A aq) H H'->Q (.str []) H')
 (lD:∀H' ak w,P.step st (.ret v)=.done w ak->rest=[]->aO H' A P (some (W.dG w)) ak []->Fr (dg A aq) H H'->Q (.str xh) H')
 (he:∀H' ak bB g',P.step st (.ret v)=.bG ak->aO H' A P g' ak bB->Fr (dg A aq) H H'->Q (.str gv) H'):WV G (n+3) 617 [.ref A.w,aW P.t.ah (.ret v)] Q E H:=by
 revert hsz qE nS lD he
 refine hR.nE hf λf fr rg ce fe tr hR hsz qE nS lD he=>?_
 have hl:=hsz.le
 have iR:fr.length=rest.length:=Nat.succ.inj hR.len
 have z4:=hsz.ay
 have z5:=hsz.cells
 have main:∀w:Option Int,P.step ⟨rg,s::rest,ce,fe,tr⟩ (.ret v)=St.iz P ⟨rg,s::rest,ce,fe,tr⟩ w->bO G (n+2) (zM.drop 2) (kF Q) E [some (.ref A.w),some (aW P.t.ah (.ret v)),some (W.dG w),none,none] H:=λw hs=>by
  have r1:=hR.lg
  have c3:f.c≠A.fr:=hR.led.ne 5 3 (by decide) rfl rfl
  have cm:f.c≠A.ce:=hR.led.ne 5 1 (by decide) rfl rfl
  have cr:f.c≠A.w:=hR.led.ne 5 0 (by decide) rfl rfl
  have f1:(H.ai A.fr (.list (fr.reverse.map λf=>.ref f.c))) f.c=_:=(aL _ _ _ c3).trans hR.fc
  have x1:Fr (dg A (f::fr)) H (H.ai A.fr (.list (fr.reverse.map λf=>.ref f.c))):=.ai (.tail _ (.tail _ (.tail _ (.head _)))) _
  refine rd hR.self (rd hR.bf (rd hR.bf ⟨fr.reverse.map λf=>.ref f.c,.ref f.c,by rw [List.reverse_cons,List.map_append];rfl,by rw [List.length_map,List.length_reverse,iR];exact Nat.le_trans (Nat.le_of_succ_le z4) (by decide),?_⟩))
  generalize H.ai A.fr (.list (fr.reverse.map λf=>.ref f.c))=H1 at*
  refine rd f1 λD hD=>⟨λi=>J2 (λx y=>[x,y,some (.ref A.w)]) (JB H1 D s.aR rg i),⟨_,_,rfl,[],(by funext b;rfl),Nat.le_refl _,⟨λZaa j k v hj=>(by cases hj),λZaa=>rfl⟩⟩,λi d m H2 hi=>j2 λx y H2 e=>?_,λm H2=>j2 λx y H2 e=>?_⟩
  ·have hi:(s.aR.map lR)[i]?=some d:=hi
   rw [List.getElem?_map] at hi
   obtain ⟨⟨k1,v1⟩,pK,rfl⟩:=Option.map_eq_some_iff.mp hi
   obtain ⟨l,e,gr,hall⟩:=e
   have mE:=(List.getElem?_eq_some_iff.mp pK).1
   have r2:aO H2 A P g ⟨rg,rest,ce,fe,tr⟩ fr:=e▸r1.new hD _
   have e1:H2 D=some (.list l):=by rw [e,aN]
   have tC:rg.aE k1≠some v1->J2 (λx y=>[x,y,some (.ref A.w)]) (JB H1 D s.aR rg (i+1)) [some (.int k1),some (.int v1),some (.ref A.w)] (H2.ai D (.list (l++[.int k1]))):=λhne=>
    ⟨_,_,rfl,l++[.int k1],by rw [e,cg],by rw [List.length_append,List.length_singleton];lia,⟨λh=>absurd h (by simp),λh=>absurd (h i k1 v1 (by lia) pK) hne⟩⟩
   refine rd r2.self (rd r2.aB (rd r2.aB (oG (λu hu=>bI (λheq=>?_) λhne=>?_) λhu=>?_)))
   ·refine ⟨_,_,rfl,l,e,by lia,hall.trans ⟨λh j k v hj nT=>?_,λh j k v hj nT=>h j k v (by lia) nT⟩⟩
    by_cases vA:j<i
    ·exact h j k v vA nT
    ·have:j=i:=by lia
     clear h tC gr hall e e1 r2 hj vA mE
     subst this
     rw [pK] at nT;cases nT
     exact hu.trans (congrArg some heq)
   ·exact rd e1 ⟨by lia,tC λq=>hne (Option.some.inj (hu.symm.trans q))⟩
   ·exact rd e1 ⟨by lia,tC λq=>by rw [hu] at q;cases q⟩
  obtain ⟨l,e,gr,hall⟩:=e
  have gr:l.length<=(s.aR.map lR).length:=gr
  rw [List.length_map] at gr
  have e1:H2 D=some (.list l):=by rw [e,aN]
  have hd:H2.aV D=H1:=by rw [e,iu hD]
  refine rd e1 ⟨by lia,.inl ?_⟩
  rw [hd]
  have hlen:(WS.l (s.aR.map lR)).len=s.aR.length:=List.length_map ..
  rw [hlen] at hall
  clear e e1 gr
  clear gr
  induction l with
  |cons a l=>
   refine he _ _ fr g (hs.trans (if_neg λhk=>?_)) r1 x1
   have:=hall.mpr λj k v Zaa hj=>EU hk hj
   cases this
  |nil=>
  have hall:=hall.mp rfl
  have hk:xu rg s.aR=true:=List.all_eq_true.mpr λp hp=>by
   obtain ⟨j,hj⟩:=List.mem_iff_getElem?.mp hp
   exact decide_eq_true (hall j p.1 p.2 (List.getElem?_eq_some_iff.mp hj).1 hj)
  have fR:P.step ⟨rg,s::rest,ce,fe,tr⟩ (.ret v)=if rest=[] then .done w ⟨rg,rest,dh ce s.base (aI P s.fn).bu.toNat,s.base,tr⟩ else (St.mk rg rest (dh ce s.base (aI P s.fn).bu.toNat) s.base tr).cA P.t s.aH w:=hs.trans (if_pos hk)
  refine rd f1 ⟨_,rfl,⟨⟨by show-1000000000<=(aI P s.fn).bu;lia,by show (aI P s.fn).bu<=1000000000;lia⟩,λi=>J1 (λv'=>[some (.ref A.w),some (aW P.t.ah (.ret v)),some (W.dG w),some (.ref f.c),v']) (λH3=>H3=H1.ai A.ce (.dI (dh ce s.base i))),⟨_,rfl,?_⟩,λi d m Hx hi=>j1 λv' H4 e4=>?_,λm Hx=>j1 λv' H4 e4=>?_⟩⟩
  ·funext b
   unfold WH.ai
   by_cases q:b=A.ce
   ·rw [if_pos q,q,r1.mem];rfl
   ·rw [if_neg q]
  ·obtain ⟨rfl,bJ⟩:=WS.kU hi
   have bJ:i<(aI P s.fn).bu.toNat:=bJ
   have r4:aO H4 A P g ⟨rg,rest,dh ce s.base i,fe,tr⟩ fr:=e4▸r1.jJ _
   have f4:H4 f.c=_:=e4▸(aL _ _ _ cm).trans f1
   have ul:=rH ce s.base i
   have hg:(dh ce s.base i).aE (s.base+i)=ce.aE (s.base+i):=by rw [tU,if_neg (by lia)]
   obtain ⟨u,hu⟩:=Option.isSome_iff_exists.mp (qE i bJ)
   refine rd r4.self (rd r4.mem (rd f4 (rd r4.mem ⟨Nat.le_trans ul (Nat.le_trans z5 (Nat.le_trans hl (by decide))),rd (hg.trans hu) ⟨_,.rf,_,rfl,?_⟩⟩)))
   rw [e4,cg,wo]
  ·have e4:H4=H1.ai A.ce (.dI (dh ce s.base (aI P s.fn).bu.toNat)):=e4
   have r4:aO H4 A P g ⟨rg,rest,dh ce s.base (aI P s.fn).bu.toNat,fe,tr⟩ fr:=e4▸r1.jJ _
   have f4:H4 f.c=_:=e4▸(aL _ _ _ cm).trans f1
   have r5:=r4.AD s.base g
   have za:=gvK g w
   have zb:=gvV A P s.base g w
   have r6:aO ((H4.ai A.w (.dS (eU g) (fS A P s.base g))).ai A.w (.dS (ee (eU g) [103,97,118,101]) (fC (eU g) (fS A P s.base g) [103,97,118,101] (W.dG w)))) A P (some (W.dG w)) ⟨rg,rest,dh ce s.base (aI P s.fn).bu.toNat,s.base,tr⟩ fr:=by
    rw [za,zb];exact r5.AD s.base (some (W.dG w))
   have f6:=(aL (H4.ai A.w (.dS (eU g) (fS A P s.base g))) A.w (.dS (ee (eU g) [103,97,118,101]) (fC (eU g) (fS A P s.base g) [103,97,118,101] (W.dG w))) cr).trans ((aL H4 A.w (.dS (eU g) (fS A P s.base g)) cr).trans f4)
   have x6:Fr (dg A (f::fr)) H ((H4.ai A.w (.dS (eU g) (fS A P s.base g))).ai A.w (.dS (ee (eU g) [103,97,118,101]) (fC (eU g) (fS A P s.base g) [103,97,118,101] (W.dG w)))):=((e4▸x1.tr (.ai (.tail _ (.head _)) _):Fr (dg A (f::fr)) H H4).tr (.ai (.head _) _)).tr (.ai (.head _) _)
   refine rd f4 (rd r4.self (nU (by clear hR r1 r4 r5 r6 f6 x6 za zb;induction g<;>rfl) (rd r5.self (nU (by clear hR r1 r4 r5 r6 f6 x6 za zb;induction g<;>rfl) ?_))))
   clear hR r1 x1 r4 r5 za zb
   induction fr with
   |nil=>
    have hr:rest=[]:=List.length_eq_zero_iff.mp iR.symm
    exact rd r6.self (rd r6.bf ⟨Nat.zero_le _,lD _ _ w (fR.trans (if_pos hr)) hr (hr▸r6) x6⟩)
   |cons g1 gs=>
    have hr:rest≠[]:=λq=>by rw [q] at iR;cases iR
    obtain ⟨y1,ys,hy⟩:∃y ys,((g1::gs).reverse.map λf=>W.ref f.c)=y::ys:=by
     cases h:((g1::gs).reverse.map λf=>W.ref f.c) with
     |nil=>have:=congrArg List.length h;rw [List.length_map,List.length_reverse] at this;cases this
     |cons y ys=>exact ⟨y,ys,rfl⟩
    have rj:(y1::ys).length<=1000000:=by rw [<-hy,List.length_map,List.length_reverse,iR];exact Nat.le_trans (Nat.le_of_succ_le z4) (by decide)
    have hb:∀{o},(St.mk rg rest (dh ce s.base (aI P s.fn).bu.toNat) s.base tr).cA P.t s.aH w=o->P.step ⟨rg,s::rest,ce,fe,tr⟩ (.ret v)=o:=λe=>fR.trans ((if_neg hr).trans e)
    have hz:(St.mk rg rest (dh ce s.base (aI P s.fn).bu.toNat) s.base tr).Sz N:=⟨hsz.aB,Nat.le_trans (rH ..) z5,hsz.trace,Nat.le_of_succ_le z4,λx hx=>hsz.own x (.tail _ hx),hsz.le⟩
    have xf:∀a∈dg A (g1::gs),a∈dg A (f::g1::gs)\/H a=none:=λa ha=>.inl (FG a ha)
    have c5:=r6.bf
    rw [hy] at c5
    refine rd r6.self (rd c5 ⟨rj,rd f6 (HP (n:=n) pg hP vP r6 hr hz (λH7 ak e k=>?_) λH7 ak e k=>?_)⟩)
    ·exact nS _ ak f _ _ rfl (hb e) hr k.r (x6.trans k.k xf)
    ·exact he _ ak _ _ (hb e) k.r (x6.trans k.k xf)
 clear nS lD
 revert he main
 refine Iq qO (λhe main=>?_) λr he main=>?_
 ·exact aF pg pg.Jk rfl (main none rfl)
 ·
  refine aF pg pg.Jk rfl (rd (v:=.int r) rfl (HO (n:=n+1) pg hR (List.cons_ne_nil _ _) ?_))
  cases hw:St.aT P.t ⟨rg,s::rest,ce,fe,tr⟩ r with
  |some w=>
   refine main (some w) ?_
   show St.dQ _ _ _ _=_
   unfold St.dQ;rw [hw]
  |none=>
   refine he H _ _ g ?_ hR .rf
   show St.dQ _ _ _ _=_
   unfold St.dQ;rw [hw]
end
section
variable{G:Gx}{n:Nat}{E:Nat->WH->Prop}{H:WH}{Q:W->WH->Prop}{A:cO}{P:PM}{g:Option W}{st:St}{aq fr:List b9}{f:b9}{N:Nat}
theorem aO.qH{s:bE}{rg ce:KV}{rest:List bE}{fe:Int}{tr:List (List Nat×List Int)}{k c:Nat}{b:List bq}(h:aO H A P g ⟨rg,s::rest,ce,fe,tr⟩ (f::fr))(hc:H c=none)(hb:(aI P s.fn).bD[k]?=some b):
 aO ((H.ai c (.list (b.map (aW P.t.ah)))).ai f.c (.dS jD (jE P {f with aD:=c} {s with dM:=k,at_:=0}))) A P g ⟨rg,{s with dM:=k,at_:=0}::rest,ce,fe,tr⟩ ({f with aD:=c}::fr):=by
 have hr:((P.aD {s with dM:=k,at_:=0}).drop 0)=b:=by show ((aI P s.fn).bD[k]?).getD []=b;rw [hb];rfl
 have l1:=h.led.new hc (.list (b.map (aW P.t.ah)))
 have l2:=l1.qD (L':=(jY A P g ⟨rg,s::rest,ce,fe,tr⟩ (f::fr)).take 7++(c,.list (b.map (aW P.t.ah)))::(jY A P g ⟨rg,s::rest,ce,fe,tr⟩ (f::fr)).drop 7) (by
  have:=List.perm_middle (a:=(c,WO.list (b.map (aW P.t.ah)))) (l₁:=(jY A P g ⟨rg,s::rest,ce,fe,tr⟩ (f::fr)).take 7) (l₂:=(jY A P g ⟨rg,s::rest,ce,fe,tr⟩ (f::fr)).drop 7)
  rw [List.take_append_drop] at this
  exact this.symm)
 have l3:=l2.bL 5 (.dS jD (jE P {f with aD:=c} {s with dM:=k,at_:=0})) rfl
 refine ⟨l3.sub (L':=jY A P g ⟨rg,{s with dM:=k,at_:=0}::rest,ce,fe,tr⟩ ({f with aD:=c}::fr)) ?_,h.len,B9 (s:=s) (s':={s with dM:=k,at_:=0}) rfl h.cW⟩
 have hm:(({f with aD:=c}:b9)::fr).reverse.map (λf=>W.ref f.c)=(f::fr).reverse.map λf=>W.ref f.c:=by rw [List.reverse_cons,List.reverse_cons,List.map_append,List.map_append];rfl
 show List.Sublist ((A.w,_)::(A.ce,_)::(A.sh,_)::(A.fr,.list ((({f with aD:=c}:b9)::fr).reverse.map (λf=>W.ref f.c)))::(A.tr,_)::(f.c,_)::(f.own,_)::(c,.list (((P.aD {s with dM:=k,at_:=0}).drop 0).map (aW P.t.ah)))::uV P fr rest) ((A.w,_)::(A.ce,_)::(A.sh,_)::(A.fr,_)::(A.tr,_)::(f.c,_)::(f.own,_)::(c,_)::(f.aD,_)::uV P fr rest)
 rw [hr,hm]
 exact .cons_cons _ (.cons_cons _ (.cons_cons _ (.cons_cons _ (.cons_cons _ (.cons_cons _ (.cons_cons _ (.cons_cons _ (.cons _ (List.Sublist.refl _)))))))))
noncomputable def oX(A:cO)(aq bB:List b9)(H:WH):Prop:=∀a∈dg A bB,a∈dg A aq\/H a=none
theorem oX.rf:oX A aq aq H:=λa h=>.inl h
theorem oX.qH{c:Nat}(hc:H c=none):oX A (f::fr) ({f with aD:=c}::fr) H:=λx hx=>by
 unfold dg at hx ⊢
 rw [List.flatMap_cons] at hx ⊢
 rcases List.mem_cons.mp hx with h|hx
 ·exact .inl (h▸.head _)
 ·rcases List.mem_cons.mp hx with h|hx
  ·exact .inl (h▸.tail _ (.head _))
  ·rcases List.mem_cons.mp hx with h|hx
   ·exact .inl (h▸.tail _ (.tail _ (.head _)))
   ·rcases List.mem_cons.mp hx with h|hx
    ·exact .inl (h▸.tail _ (.tail _ (.tail _ (.head _))))
    ·rcases List.mem_cons.mp hx with h|hx
     ·exact .inl (h▸.tail _ (.tail _ (.tail _ (.tail _ (.head _)))))
     ·rcases List.mem_cons.mp hx with h|hx
      ·exact .inl (h▸.tail _ (.tail _ (.tail _ (.tail _ (.tail _ (.head _))))))
      ·rcases List.mem_cons.mp hx with h|hx
       ·exact .inl (h▸.tail _ (.tail _ (.tail _ (.tail _ (.tail _ (.tail _ (.head _)))))))
       ·rcases List.mem_cons.mp hx with h|hx
        ·exact .inr (h▸hc)
        ·exact .inl (.tail _ (.tail _ (.tail _ (.tail _ (.tail _ (.tail _ (.tail _ (.tail _ hx))))))))
theorem oX.push{f:b9}(n1:H f.c=none)(n2:H f.own=none)(n3:H f.aD=none):oX A aq (f::aq) H:=λx hx=>by
 unfold dg at hx ⊢
 rw [List.flatMap_cons] at hx
 rcases List.mem_cons.mp hx with h|hx
 ·exact .inl (h▸.head _)
 ·rcases List.mem_cons.mp hx with h|hx
  ·exact .inl (h▸.tail _ (.head _))
  ·rcases List.mem_cons.mp hx with h|hx
   ·exact .inl (h▸.tail _ (.tail _ (.head _)))
   ·rcases List.mem_cons.mp hx with h|hx
    ·exact .inl (h▸.tail _ (.tail _ (.tail _ (.head _))))
    ·rcases List.mem_cons.mp hx with h|hx
     ·exact .inl (h▸.tail _ (.tail _ (.tail _ (.tail _ (.head _)))))
     ·rcases List.mem_cons.mp hx with h|hx
      ·exact .inr (h▸n1)
      ·rcases List.mem_cons.mp hx with h|hx
       ·exact .inr (h▸n2)
       ·rcases List.mem_cons.mp hx with h|hx
        ·exact .inr (h▸n3)
        ·exact .inl (.tail _ (.tail _ (.tail _ (.tail _ (.tail _ hx)))))
theorem SO(ys:List Int):au ys=lB (ys.map some):=by unfold au lB;rw [List.map_map];rfl
theorem EG{t:aJ}{st:St}:∀{l:List Int},(∃ys,cj t st l=some ys/\lB (l.map (st.aT t))=au ys)\/(cj t st l=none/\none∈l.map (st.aT t))
 |[]=>.inl ⟨[],rfl,rfl⟩
 |x::r=>by
  unfold cj
  cases h:st.aT t x with
  |none=>exact .inr ⟨rfl,by rw [List.map_cons,h];exact .head _⟩
  |some v=>
   rcases EG (t:=t) (st:=st) (l:=r) with ⟨ys,e1,e2⟩|⟨e1,e2⟩
   ·exact .inl ⟨v::ys,by rw [e1],by unfold lB au at*;rw [List.map_cons,List.map_cons,List.map_cons,e2,h];rfl⟩
   ·exact .inr ⟨by rw [e1],.tail _ e2⟩
theorem jg(pg:aP G){xs:List Int}{row op aH num:W}(k7:xs.length<=1000)(hR:aO H A P g st aq)(hne:st.ay≠[])
 (hq:∀ys,cj P.t st xs=some ys->bO G (n+1) (tW.drop 5) (kF Q) E [some (.ref A.w),some row,some op,some aH,some (.af (au xs)),some num,some (.af (au ys)),none,none,none,none] H)
 (he:cj P.t st xs=none->Q (.str gv) H):bO G (n+1) (tW.drop 3) (kF Q) E [some (.ref A.w),some row,some op,some aH,some (.af (au xs)),some num,none,none,none,none,none] H:=by
 refine λD hD=>⟨λi=>J1 (λu=>[u,some (.ref A.w)]) (λH2=>H2=H.ai D (.list (lB ((xs.take i).map (st.aT P.t))))),⟨_,rfl,rfl⟩,λi d m' H1 hi=>j1 λu H2 e=>?_,λm' H1=>j1 λu H2 e=>?_⟩
 ·obtain ⟨x,rfl,hx⟩:=jf hi
  have r2:aO H2 A P g st aq:=e▸hR.new hD _
  have e1:H2 D=some (.list (lB ((xs.take i).map (st.aT P.t)))):=by rw [e,aN]
  refine HO (n:=n) pg r2 hne (rd e1 ⟨by unfold lB;rw [List.length_map,List.length_map,List.length_take];lia,_,rfl,?_⟩)
  rw [e,cg,List.take_add_one,hx]
  unfold lB
  rw [List.map_append,List.map_append];rfl
 ·rw [List.take_of_length_le (kB xs)] at e
  have e1:H2 D=some (.list (lB (xs.map (st.aT P.t)))):=by rw [e,aN]
  have hd:H2.aV D=H:=by rw [e,iu hD]
  refine rd e1 ⟨by unfold lB;rw [List.length_map,List.length_map];lia,.inl ?_⟩
  rw [hd]
  rcases EG (t:=P.t) (st:=st) (l:=xs) with ⟨ys,e1,e2⟩|⟨e1,e2⟩
  ·rw [e2]
   exact ⟨_,SO ys,bF (λh=>by obtain ⟨y,_,hy⟩:=List.mem_map.mp h;cases hy) (hq ys e1)⟩
  ·exact ⟨_,rfl,bT e2 (he e1)⟩
noncomputable def iS:Bool->List (List Nat×List Nat)
 |false=>[([98,101,113],[115,97,109,101]),([98,110,101],[110,111,116,32,115,97,109,101]),([98,108,116],[115,108,116]),([98,103,101],[110,111,116,32,115,108,116]),([98,108,116,117],[115,108,116,117]),([98,103,101,117],[110,111,116,32,115,108,116,117])]
 |true=>[([106,101,113],[115,97,109,101]),([106,110,101],[110,111,116,32,115,97,109,101]),([106,108,116],[115,108,116]),([106,103,101],[110,111,116,32,115,108,116]),([106,108,116,117],[115,108,116,117]),([106,103,101,117],[110,111,116,32,115,108,116,117])]
noncomputable def pZ(l:List (List Nat×List Nat)):List W:=l.map λp=>gY p.1 p.2
noncomputable def fL(op:List Nat)(p:List Nat×List Nat):Option (List Nat):=if bP p.1 op=true then some p.2 else none
theorem HQ{op:List Nat}{D:Nat}{l:List (List Nat×List Nat)}(hl:l.length<=1000){acc:List (List Nat)}(ha:acc.length<=1000){fo x y:Option W}{Q:WM->WH->Prop}{H0:WH}(hH:H=H0.ai D (.list (sT acc)))
 (hq:∀x y,Q [fo,x,y,some (.str op)] (H0.ai D (.list (sT (acc++l.filterMap (fL op)))))):
 WL (.l (pZ l)) (jz (gH G n (.aj [(.nm 1),(.nm 2)])) E) (pQ (je G n [(.cmp .Eq (.aa 1) (.aa 3))]) E) (pR (nO G n (.elt (.aa 2))) D E) Q [fo,x,y,some (.str op)] H:=by
 refine ⟨λi=>J2 (λx y=>[fo,x,y,some (.str op)]) (λH2=>H2=H0.ai D (.list (sT (acc++(l.take i).filterMap (fL op))))),⟨_,_,rfl,hH.trans (congrArg (λl=>H0.ai D (.list (sT l))) (List.append_nil _).symm)⟩,λi d m' H1 hi=>j2 λu v H2 e=>?_,λm' H1=>j2 λu v H2 e=>?_⟩
 ·have hi:(l.map λp=>gY p.1 p.2)[i]?=some d:=hi
  rw [List.getElem?_map] at hi
  obtain ⟨p,hp,rfl⟩:=Option.map_eq_some_iff.mp hi
  have hs:(l.take (i+1)).filterMap (fL op)=(l.take i).filterMap (fL op)++(fL op p).toList:=by
   rw [List.take_add_one,hp,List.filterMap_append];rfl
  have gr:((l.take i).filterMap (fL op)).length<=l.length:=Nat.le_trans (List.length_filterMap_le ..) (by rw [List.length_take];lia)
  cases h:bP p.1 op with
  |false=>
   have C9:fL op p=none:=by unfold fL;rw [h];rfl
   rw [C9] at hs
   refine gb h ⟨_,_,rfl,?_⟩
   rw [e,hs];exact congrArg (λl=>H0.ai D (.list (sT (acc++l)))) (List.append_nil _).symm
  |true=>
   have C9:fL op p=some p.2:=by unfold fL;rw [h];rfl
   rw [C9] at hs
   have e1:H2 D=some (.list (sT (acc++(l.take i).filterMap (fL op)))):=by rw [e,aN]
   refine bSt h (rd e1 ⟨by unfold sT;rw [List.length_map,List.length_append];lia,_,_,rfl,?_⟩)
   have ha:sT (acc++((l.take i).filterMap (fL op)++(some p.2).toList))=sT (acc++(l.take i).filterMap (fL op))++[.str p.2]:=by unfold sT;rw [<-List.append_assoc,List.map_append];rfl
   rw [e,cg,hs,ha]
 ·have hlen:(WS.l (pZ l)).len=l.length:=List.length_map ..
  rw [hlen,List.take_length] at e
  exact e▸hq u v
end
structure SQ(Q:W->WH->Prop)(A:cO)(P:PM)(st:St)(ins:bq)(aq:List b9)(H:WH):Prop where
 ok:∀H' ak bB g',P.step st ins=.ok ak->aO H' A P g' ak bB->Fr (dg A aq) H H'->oX A aq bB H->Q (.str []) H'
 bG:∀H' ak bB g',P.step st ins=.bG ak->aO H' A P g' ak bB->Fr (dg A aq) H H'->Q (.str gv) H'
 fj:∀H' ak bB g',P.step st ins=.fj ak->aO H' A P g' ak bB->Fr (dg A aq) H H'->Q (.str lI) H'
 done:∀H' ak w,P.step st ins=.done w ak->aO H' A P (some (W.dG w)) ak []->Fr (dg A aq) H H'->Q (.str xh) H'
theorem lE{c:Bool}{a b:Prop}(e:c=false)(h:b):iB c a b:=e▸h
noncomputable def l7:List (List Nat)->List Nat->Bool
 |[],_=>false
 |t::r,s=>Bool.or (bP t s) (l7 r s)
noncomputable def Bg:List (List Nat):=[[108,97],[108,119],[115,119],[108,100,115,108,111,116],[115,116,115,108,111,116],[115,108,111,116,97,100,100,114]]
noncomputable def Cd:List (List Nat):=[[109,118],[108,105]]
noncomputable def BG:List (List Nat):=[[97,100,100],[115,117,98],[97,110,100],[111,114],[120,111,114],[109,117,108],[115,108,116],[115,108,116,117]]
section
variable{G:Gx}{n:Nat}{E:Nat->WH->Prop}{H:WH}{Q:W->WH->Prop}{A:cO}{P:PM}{g:Option W}{st:St}{aq fr:List b9}{f:b9}{N:Nat}{rg ce:KV}{s:bE}{rest:List bE}{fe:Int}{tr:List (List Nat×List Int)}
theorem GW{op w:List Nat}{m:WM}{Q:W->WM->WH->Prop}(hm:jV m 2=some (.str op))(hw:(iS false).filterMap (fL op)++(iS true).filterMap (fL op)=[w])(hl:((iS false).filterMap (fL op)).length<=1000)(hq:Q (.af [.str w]) m H):
 ∀D,H D=none->oW (ji m [2]) λvs=>WL (.l [.aj (pZ (iS false)),.aj (pZ (iS true))]) (jz (gH G n (.nm 0)) E) (pQ (je G n []) E) (pR (nO G n (.more (.aj [(.nm 1),(.nm 2)]) (.aa 0) [(.cmp .Eq (.aa 1) (.aa 3))] (.elt (.aa 2)))) D E) (sO D Q m) (List.replicate 3 none++vs.map some) (H.ai D (.list [])):=λD hD=>by
 refine ia (v:=[.str op]) (by unfold ji;rw [hm];rfl) ⟨λi m H1=>∃u v z acc,m=[u,v,z,some (.str op)]/\H1=H.ai D (.list (sT acc))/\(i=0/\acc=[]\/i=1/\acc=(iS false).filterMap (fL op)\/i=2/\acc=[w]),⟨_,_,_,[],rfl,rfl,.inl ⟨rfl,rfl⟩⟩,λi d m' H1 hi e=>?_,λm' H1 e=>?_⟩
 ·obtain ⟨u,v,z,acc,rfl,e,h⟩:=e
  rcases h with ⟨rfl,rfl⟩|⟨rfl,rfl⟩|⟨rfl,_⟩
  ·obtain rfl:=Option.some.inj hi
   exact HQ (l:=iS false) (by decide) (by decide) e λx y=>⟨_,_,_,_,rfl,rfl,.inr (.inl ⟨rfl,rfl⟩)⟩
  ·obtain rfl:=Option.some.inj hi
   exact HQ (l:=iS true) (by decide) hl e λx y=>⟨_,_,_,_,rfl,rfl,.inr (.inr ⟨rfl,hw⟩)⟩
  ·cases hi
 ·obtain ⟨u,v,z,acc,rfl,e,h⟩:=e
  rcases h with ⟨h,_⟩|⟨h,_⟩|⟨_,rfl⟩
  ·cases h
  ·cases h
  ·have hd:H1.aV D=H:=by rw [e,iu hD]
   have e1:H1 D=some (.list (sT [w])):=by rw [e,aN]
   refine rd e1 ⟨show 1<=1000000 by decide,.inl ?_⟩
   rw [hd];exact hq
theorem N8(pg:aP G)(hP:P.wf){k:Nat}{o a b:Int}{op:List Nat}(hk:k<8)(fK:op=gi k)(c1:bP op [114,101,116]=false)(c2:bP op [99,97,108,108]=false)(c3:l7 Bg op=false)
 (c4:bP op [106]=false)(c5:l7 Cd op=false)(c6:l7 BG op=true)
 (hR:aO H A P g st aq)(hne:st.ay≠[])(bW:dU P st)(hsz:st.Sz N)(S:SQ Q A P st (.lu k o a b) aq H):WV G (n+5) 629 [.ref A.w,.aj [.str op,.af (au [o]),.af (au [a,b]),.aj []]] Q E H:=by
 revert bW hsz S
 refine hR.i7 hne λf fr rg s rest ce fe tr hR hne bW hsz S=>?_
 refine aF pg pg.gy rfl (gb c1 (gb c2 (jg (n:=n+3) (xs:=[a,b]) pg (show 2<=1000 by decide) hR hne (λys hy=>?_) λhn=>?_)))
 ·rw [jI] at hy
  cases e1:St.aT P.t ⟨rg,s::rest,ce,fe,tr⟩ a with
  |none=>rw [e1] at hy;cases hy
  |some x=>
   cases e2:St.aT P.t ⟨rg,s::rest,ce,fe,tr⟩ b with
   |none=>rw [e1,e2] at hy;cases hy
   |some y=>
    rw [e1,e2] at hy;obtain rfl:=Option.some.inj hy
    have hs:P.step ⟨rg,s::rest,ce,fe,tr⟩ (.lu k o a b)=.ok (St.cz P.t ⟨rg,s::rest,ce,fe,tr⟩ o (cN P.t.bits k x y)):=by show St.cU _ _ _ _ _=_;unfold St.cU;rw [e1,e2]
    subst fK
    exact gb c2 (lE c3 (rd hR.self (rd hR.bf (rd gw (gb c4 (lE c5 (nU c6 (rd (v:=.int o) rfl (rd hR.self (rd (v:=.int x) rfl (rd (v:=.int y) rfl (lZ (n:=n+2) pg hk hP.bits (bW.aT hP e1) (bW.aT hP e2) (mS (n:=n+3) pg hP hR hne hsz λH' k=>S.ok H' _ _ _ hs k.r k.k .rf)))))))))))))
 ·rw [jI] at hn
  refine S.bG H _ _ _ ?_ hR .rf
  show St.cU _ _ _ _ _=_
  unfold St.cU
  cases e1:St.aT P.t ⟨rg,s::rest,ce,fe,tr⟩ a with
  |none=>rfl
  |some x=>
   cases e2:St.aT P.t ⟨rg,s::rest,ce,fe,tr⟩ b with
   |none=>rfl
   |some y=>rw [e1,e2] at hn;cases hn
theorem Nf(pg:aP G)(hP:P.wf){k:Nat}{o a v:Int}{op:List Nat}(hk:k<4)(c1:bP op [114,101,116]=false)(c2:bP op [99,97,108,108]=false)(c3:l7 Bg op=false)
 (c4:bP op [106]=false)(c5:l7 Cd op=false)(c6:l7 BG op=false)
 (c7:gP op (-1)=some 105)(c8:((Builtin.Str.strSliceIndices none (some (-1)) 1 op.length).length==op.length)=false)(c9:(nY op).length<=1000)(c10:nY op=gi (gj k))(vt:gj k<8)
 (hR:aO H A P g st aq)(hne:st.ay≠[])(bW:dU P st)(hsz:st.Sz N)(S:SQ Q A P st (.lz k o a v) aq H):WV G (n+5) 629 [.ref A.w,.aj [.str op,.af (au [o]),.af (au [a]),.int v]] Q E H:=by
 revert bW hsz S
 refine hR.i7 hne λf fr rg s rest ce fe tr hR hne bW hsz S=>?_
 refine aF pg pg.gy rfl (gb c1 (gb c2 (jg (n:=n+3) (xs:=[a]) pg (show 1<=1000 by decide) hR hne (λys hy=>?_) λhn=>?_)))
 ·rw [qf] at hy
  cases e1:St.aT P.t ⟨rg,s::rest,ce,fe,tr⟩ a with
  |none=>rw [e1] at hy;cases hy
  |some x=>
   rw [e1] at hy;obtain rfl:=Option.some.inj hy
   have hs:P.step ⟨rg,s::rest,ce,fe,tr⟩ (.lz k o a v)=.ok (St.cz P.t ⟨rg,s::rest,ce,fe,tr⟩ o (cN P.t.bits (gj k) x (P.t.aU v))):=by show St.dQ _ _ _ _=_;unfold St.dQ;rw [e1]
   have pw:=uW hP
   refine gb c2 (lE c3 (rd hR.self (rd hR.bf (rd gw (gb c4 (lE c5 (lE c6 ⟨⟨by decide,by decide⟩,rd c7 (rd (v:=.int o) rfl ⟨rfl,c8,c9,rd hR.self (rd (v:=.int x) rfl (rd hR.self ⟨pw.1,pw.2,?_⟩))⟩)⟩)))))))
   rw [c10,t7]
   exact lZ (n:=n+2) pg vt hP.bits (bW.aT hP e1) (uc hP v) (mS (n:=n+3) pg hP hR hne hsz λH' k=>S.ok H' _ _ _ hs k.r k.k .rf)
 ·rw [qf] at hn
  refine S.bG H _ _ _ ?_ hR .rf
  show St.dQ _ _ _ _=_
  unfold St.dQ
  cases e1:St.aT P.t ⟨rg,s::rest,ce,fe,tr⟩ a with
  |none=>rfl
  |some x=>rw [e1] at hn;cases hn
end
section
variable{G:Gx}{n:Nat}{E:Nat->WH->Prop}{H:WH}{Q:W->WH->Prop}{A:cO}{P:PM}{g:Option W}{st:St}{aq fr:List b9}{f:b9}{N:Nat}{rg ce:KV}{s:bE}{rest:List bE}{fe:Int}{tr:List (List Nat×List Int)}
theorem Ag(hP:P.wf)(h:s.fn=bH\/s.fn=cu){k:Nat}{b:List bq}(hb:(aI P s.fn).bD[k]?=some b):b.length<=100:=((gM hP h).aD b (List.mem_of_getElem? hb)).2.1
theorem um{ah:Bool}{l:List (List bq)}{k:Nat}{b:List bq}(hb:l[k]?=some b):(l.map (fk ah))[k]?=some (fk ah b):=by rw [List.getElem?_map,hb];rfl
theorem jH(pg:aP G)(hP:P.wf){k:Nat}{a b:Int}{i j:Nat}{op w lw:List Nat}{ch:Nat}(neg:Bool){R:Int->Int->Int}(c1:bP op [114,101,116]=false)(c2:bP op [99,97,108,108]=false)(c3:l7 Bg op=false)
 (c4:bP op [106]=false)(c5:l7 Cd op=false)(c6:l7 BG op=false)(c7:gP op (-1)=some ch)(c8:bP [ch] [105]=false)(hw:(iS false).filterMap (fL op)++(iS true).filterMap (fL op)=[w])(hl:((iS false).filterMap (fL op)).length<=1000)(zc:w.length<=1000000)
 (hs:((Txt.split ⟨w.toArray⟩ ⟨([32]:List Nat).toArray⟩).map λx=>W.str x.cps.toList)=if neg then [.str [110,111,116],.str lw] else [.str lw])
 (wk:∀x y,Wd P.t.bits x->Wd P.t.bits y->∀{Q':W->WH->Prop},Q' (.int (R x y)) H->WV G (n+4) 579 [.str lw,.int P.t.bits,.int x,.int y] Q' E H)(ht:∀x y,R x y=(if neg then 0 else 1)↔gX P.t.bits k x y=true)
 {bi bj:List bq}(hf:st.ay=s::rest)(hi:(aI P s.fn).bD[i]?=some bi)(hj:(aI P s.fn).bD[j]?=some bj)
 (hR:aO H A P g st aq)(bW:dU P st)(S:SQ Q A P st (.br k a b i j) aq H):WV G (n+5) 629 [.ref A.w,.aj [.str op,.af (au []),.af (au [a,b]),.aj [.int i,.int j]]] Q E H:=by
 revert bW S
 refine hR.nE hf λf fr rg ce fe tr hR bW S=>?_
 have gq:=hR.cW s (.head _)
 refine aF pg pg.gy rfl (gb c1 (gb c2 (jg (n:=n+3) (xs:=[a,b]) pg (show 2<=1000 by decide) hR (List.cons_ne_nil _ _) (λys hy=>?_) λhn=>?_)))
 ·rw [jI] at hy
  cases e1:St.aT P.t ⟨rg,s::rest,ce,fe,tr⟩ a with
  |none=>rw [e1] at hy;cases hy
  |some x=>
   cases e2:St.aT P.t ⟨rg,s::rest,ce,fe,tr⟩ b with
   |none=>rw [e1,e2] at hy;cases hy
   |some y=>
    rw [e1,e2] at hy;obtain rfl:=Option.some.inj hy
    have iJ:P.step ⟨rg,s::rest,ce,fe,tr⟩ (.br k a b i j)=.ok (St.gS ⟨rg,s::rest,ce,fe,tr⟩ (if gX P.t.bits k x y then i else j)):=by show St.cU _ _ _ _ _=_;unfold St.cU;rw [e1,e2]
    have yes:gX P.t.bits k x y=true->∀{c:Nat},H c=none->Q (.str []) ((H.ai c (.list (bi.map (aW P.t.ah)))).ai f.c (.dS jD (jE P {f with aD:=c} {s with dM:=i,at_:=0}))):=λh {c} hc=>
     S.ok _ _ _ g (iJ.trans (by rw [h];rfl)) (hR.qH hc hi) ((Fr.new hc _).tr (.ai (.tail _ (.tail _ (.tail _ (.tail _ (.tail _ (.head _)))))) _)) (.qH hc)
    have no:¬gX P.t.bits k x y=true->∀{c:Nat},H c=none->Q (.str []) ((H.ai c (.list (bj.map (aW P.t.ah)))).ai f.c (.dS jD (jE P {f with aD:=c} {s with dM:=j,at_:=0}))):=λh {c} hc=>
     S.ok _ _ _ g (iJ.trans (by rw [if_neg h];rfl)) (hR.qH hc hj) ((Fr.new hc _).tr (.ai (.tail _ (.tail _ (.tail _ (.tail _ (.tail _ (.head _)))))) _)) (.qH hc)
    have li:(bi.map (aW P.t.ah)).length<=1000000:=by rw [List.length_map];exact Nat.le_trans (Ag hP gq hi) (by decide)
    have lj:(bj.map (aW P.t.ah)).length<=1000000:=by rw [List.length_map];exact Nat.le_trans (Ag hP gq hj) (by decide)
    have ht:=ht x y
    have wx:=bW.aT hP e1
    have wy:=bW.aT hP e2
    induction neg with
    |false=>
     have hs:((Txt.split ⟨w.toArray⟩ ⟨([32]:List Nat).toArray⟩).map λx=>W.str x.cps.toList)=[.str lw]:=hs
     have ht:R x y=1↔gX P.t.bits k x y=true:=ht
     refine gb c2 (lE c3 (rd hR.self (rd hR.bf (rd gw (gb c4 (lE c5 (lE c6 ⟨⟨by decide,by decide⟩,rd c7 (gb c8 (GW (n:=n+4) rfl hw hl (rd (v:=.str w) rfl ⟨by decide,zc,by rw [hs];exact show 1<=1000000 by decide,?_⟩)))⟩)))))))
     rw [hs]
     exact rd (v:=.str lw) rfl (rd hR.self (rd (v:=.int x) rfl (rd (v:=.int y) rfl (wk x y wx wy (bT rfl (bI (λh=>rd hR.fc (rd (um hi) ⟨li,.inr λc hc=>rd (hR.new hc _).fc (yes (ht.mp h) hc)⟩)) λh=>rd hR.fc (rd (um hj) ⟨lj,.inr λc hc=>rd (hR.new hc _).fc (no (λq=>h (ht.mpr q)) hc)⟩)))))))
    |true=>
     have hs:((Txt.split ⟨w.toArray⟩ ⟨([32]:List Nat).toArray⟩).map λx=>W.str x.cps.toList)=[.str [110,111,116],.str lw]:=hs
     have ht:R x y=0↔gX P.t.bits k x y=true:=ht
     refine gb c2 (lE c3 (rd hR.self (rd hR.bf (rd gw (gb c4 (lE c5 (lE c6 ⟨⟨by decide,by decide⟩,rd c7 (gb c8 (GW (n:=n+4) rfl hw hl (rd (v:=.str w) rfl ⟨by decide,zc,by rw [hs];exact show 2<=1000000 by decide,?_⟩)))⟩)))))))
     rw [hs]
     exact rd (v:=.str lw) rfl (rd hR.self (rd (v:=.int x) rfl (rd (v:=.int y) rfl (wk x y wx wy (bF (show ¬(2:Int)=1 by decide) (bI (λh=>rd hR.fc (rd (um hi) ⟨li,.inr λc hc=>rd (hR.new hc _).fc (yes (ht.mp h) hc)⟩)) λh=>rd hR.fc (rd (um hj) ⟨lj,.inr λc hc=>rd (hR.new hc _).fc (no (λq=>h (ht.mpr q)) hc)⟩)))))))
 ·rw [jI] at hn
  refine S.bG H _ _ _ ?_ hR .rf
  show St.cU _ _ _ _ _=_
  unfold St.cU
  cases e1:St.aT P.t ⟨rg,s::rest,ce,fe,tr⟩ a with
  |none=>rfl
  |some x=>
   cases e2:St.aT P.t ⟨rg,s::rest,ce,fe,tr⟩ b with
   |none=>rfl
   |some y=>rw [e1,e2] at hn;cases hn
end
section
variable{G:Gx}{n:Nat}{E:Nat->WH->Prop}{H:WH}{Q:W->WH->Prop}{A:cO}{P:PM}{g:Option W}{st:St}{aq fr:List b9}{f:b9}{N:Nat}{rg ce:KV}{s:bE}{rest:List bE}{fe:Int}{tr:List (List Nat×List Int)}
theorem r9{w:List Nat}(h:Txt.split ⟨w.toArray⟩ ⟨([32]:List Nat).toArray⟩=[⟨w.toArray⟩]):((Txt.split ⟨w.toArray⟩ ⟨([32]:List Nat).toArray⟩).map λx=>W.str x.cps.toList)=[.str w]:=by rw [h];rfl
theorem se{w lw:List Nat}(h:Txt.split ⟨w.toArray⟩ ⟨([32]:List Nat).toArray⟩=[⟨#[110,111,116]⟩,⟨lw.toArray⟩]):((Txt.split ⟨w.toArray⟩ ⟨([32]:List Nat).toArray⟩).map λx=>W.str x.cps.toList)=[.str [110,111,116],.str lw]:=by rw [h];rfl
theorem ki{p:Prop}[Decidable p]:((if p then (1:Int) else 0)=1↔p)/\((if p then (1:Int) else 0)=0↔¬p):=by
 by_cases h:p
 ·rw [if_pos h];exact ⟨⟨λZaa=>h,λZaa=>rfl⟩,⟨λq=>(by cases q),λq=>absurd h q⟩⟩
 ·rw [if_neg h];exact ⟨⟨λq=>(by cases q),λq=>absurd q h⟩,⟨λZaa=>h,λZaa=>rfl⟩⟩
theorem nd{p:Prop}[Decidable p]:(!decide p)=true↔¬p:=by by_cases h:p<;>simp [h]
theorem Ng(pg:aP G)(hP:P.wf){k:Nat}{a b:Int}{i j:Nat}(hk:k<6){bi bj:List bq}(hf:st.ay=s::rest)(hi:(aI P s.fn).bD[i]?=some bi)(hj:(aI P s.fn).bD[j]?=some bj)
 (hR:aO H A P g st aq)(bW:dU P st)(S:SQ Q A P st (.br k a b i j) aq H):WV G (n+5) 629 [.ref A.w,.aj [.str (kG P.t.ah k),.af (au []),.af (au [a,b]),.aj [.int i,.int j]]] Q E H:=by
 have hb:=hP.bits
 revert S
 cases P.t.ah<;>refine pO hk ?_ ?_ ?_ ?_ ?_ ?_<;>intro S
 ·exact jH (w:=[115,97,109,101]) (ch:=113) pg hP false rfl rfl rfl rfl rfl rfl rfl rfl rfl (by decide) (by decide) (r9 (by decide+kernel)) (λx y _ _ {Q'} h=>xC (n:=n+2) pg h) (λx y=>ki.1.trans (by show _↔(x==y)=true;exact beq_iff_eq.symm)) hf hi hj hR bW S
 ·exact jH (w:=[110,111,116,32,115,97,109,101]) (ch:=101) pg hP true rfl rfl rfl rfl rfl rfl rfl rfl rfl (by decide) (by decide) (se (by decide+kernel)) (λx y _ _ {Q'} h=>xC (n:=n+2) pg h) (λx y=>ki.2.trans (by show _↔(!(x==y))=true;rw [Bool.not_eq_true',beq_eq_false_iff_ne])) hf hi hj hR bW S
 ·exact jH (w:=[115,108,116]) (ch:=116) pg hP false rfl rfl rfl rfl rfl rfl rfl rfl rfl (by decide) (by decide) (r9 (by decide+kernel)) (λx y hx hy {Q'} h=>lZ (k:=6) (n:=n+2) pg (by decide) hb hx hy h) (λx y=>ki.1.trans decide_eq_true_iff.symm) hf hi hj hR bW S
 ·exact jH (w:=[110,111,116,32,115,108,116]) (ch:=101) pg hP true rfl rfl rfl rfl rfl rfl rfl rfl rfl (by decide) (by decide) (se (by decide+kernel)) (λx y hx hy {Q'} h=>lZ (k:=6) (n:=n+2) pg (by decide) hb hx hy h) (λx y=>ki.2.trans nd.symm) hf hi hj hR bW S
 ·exact jH (w:=[115,108,116,117]) (ch:=117) pg hP false rfl rfl rfl rfl rfl rfl rfl rfl rfl (by decide) (by decide) (r9 (by decide+kernel)) (λx y hx hy {Q'} h=>lZ (k:=7) (n:=n+2) pg (by decide) hb hx hy h) (λx y=>ki.1.trans decide_eq_true_iff.symm) hf hi hj hR bW S
 ·exact jH (w:=[110,111,116,32,115,108,116,117]) (ch:=117) pg hP true rfl rfl rfl rfl rfl rfl rfl rfl rfl (by decide) (by decide) (se (by decide+kernel)) (λx y hx hy {Q'} h=>lZ (k:=7) (n:=n+2) pg (by decide) hb hx hy h) (λx y=>ki.2.trans nd.symm) hf hi hj hR bW S
 ·exact jH (w:=[115,97,109,101]) (ch:=113) pg hP false rfl rfl rfl rfl rfl rfl rfl rfl rfl (by decide) (by decide) (r9 (by decide+kernel)) (λx y _ _ {Q'} h=>xC (n:=n+2) pg h) (λx y=>ki.1.trans (by show _↔(x==y)=true;exact beq_iff_eq.symm)) hf hi hj hR bW S
 ·exact jH (w:=[110,111,116,32,115,97,109,101]) (ch:=101) pg hP true rfl rfl rfl rfl rfl rfl rfl rfl rfl (by decide) (by decide) (se (by decide+kernel)) (λx y _ _ {Q'} h=>xC (n:=n+2) pg h) (λx y=>ki.2.trans (by show _↔(!(x==y))=true;rw [Bool.not_eq_true',beq_eq_false_iff_ne])) hf hi hj hR bW S
 ·exact jH (w:=[115,108,116]) (ch:=116) pg hP false rfl rfl rfl rfl rfl rfl rfl rfl rfl (by decide) (by decide) (r9 (by decide+kernel)) (λx y hx hy {Q'} h=>lZ (k:=6) (n:=n+2) pg (by decide) hb hx hy h) (λx y=>ki.1.trans decide_eq_true_iff.symm) hf hi hj hR bW S
 ·exact jH (w:=[110,111,116,32,115,108,116]) (ch:=101) pg hP true rfl rfl rfl rfl rfl rfl rfl rfl rfl (by decide) (by decide) (se (by decide+kernel)) (λx y hx hy {Q'} h=>lZ (k:=6) (n:=n+2) pg (by decide) hb hx hy h) (λx y=>ki.2.trans nd.symm) hf hi hj hR bW S
 ·exact jH (w:=[115,108,116,117]) (ch:=117) pg hP false rfl rfl rfl rfl rfl rfl rfl rfl rfl (by decide) (by decide) (r9 (by decide+kernel)) (λx y hx hy {Q'} h=>lZ (k:=7) (n:=n+2) pg (by decide) hb hx hy h) (λx y=>ki.1.trans decide_eq_true_iff.symm) hf hi hj hR bW S
 ·exact jH (w:=[110,111,116,32,115,108,116,117]) (ch:=117) pg hP true rfl rfl rfl rfl rfl rfl rfl rfl rfl (by decide) (by decide) (se (by decide+kernel)) (λx y hx hy {Q'} h=>lZ (k:=7) (n:=n+2) pg (by decide) hb hx hy h) (λx y=>ki.2.trans nd.symm) hf hi hj hR bW S
end
section
variable{G:Gx}{n:Nat}{E:Nat->WH->Prop}{H:WH}{Q:W->WH->Prop}{A:cO}{P:PM}{g:Option W}{st:St}{aq fr:List b9}{f:b9}{N:Nat}{rg ce:KV}{s:bE}{rest:List bE}{fe:Int}{tr:List (List Nat×List Int)}
theorem Nh(pg:aP G)(hP:P.wf){k:Nat}{o a b:Int}(hk:k<8)(hR:aO H A P g st aq)(hne:st.ay≠[])(bW:dU P st)(hsz:st.Sz N)(S:SQ Q A P st (.lu k o a b) aq H):WV G (n+5) 629 [.ref A.w,.aj [.str (gi k),.af (au [o]),.af (au [a,b]),.aj []]] Q E H:=by
 revert S
 refine mD hk ?_ ?_ ?_ ?_ ?_ ?_ ?_ ?_<;>exact λS=>N8 pg hP (by decide) rfl rfl rfl rfl rfl rfl rfl hR hne bW hsz S
theorem MO(pg:aP G)(hP:P.wf){k:Nat}{o a v:Int}(hk:k<4)(hR:aO H A P g st aq)(hne:st.ay≠[])(bW:dU P st)(hsz:st.Sz N)(S:SQ Q A P st (.lz k o a v) aq H):WV G (n+5) 629 [.ref A.w,.aj [.str (mQ k),.af (au [o]),.af (au [a]),.int v]] Q E H:=by
 revert S
 refine pN hk ?_ ?_ ?_ ?_<;>exact λS=>Nf pg hP (by decide) rfl rfl rfl rfl rfl rfl rfl (by decide+kernel) (by decide+kernel) (by decide+kernel) (by decide) hR hne bW hsz S
theorem MP(pg:aP G)(hP:P.wf){aH:List Int}{a b:Int}{nm:List Nat}(vP:aH.length<=1)(cF:nm∈([[103],[104],[110],[102]]:List (List Nat)))(hR:aO H A P g st aq)(hne:st.ay≠[])(bW:dU P st)(hsz:st.Sz N)(hN:N<900000)
 (S:SQ Q A P st (.call aH a b nm) aq H):WV G (n+5) 629 [.ref A.w,aW P.t.ah (.call aH a b nm)] Q E H:=by
 have h8:=gA hP.bits
 have z1:=hsz.trace
 have z3:=hsz.le
 have yes:∀{Q':W->WH->Prop},(∀t H',Q (.str t) H'->Q' (.str t) H')->nm=bH\/nm=cu->P.fF nm=some (aI P nm)->WV G (n+4) 605 [.ref A.w,.str nm,.af (au aH)] Q' E H:=λhQ h1 h2=>by
  have hs:P.step st (.call aH a b nm)=st.enter P nm (aI P nm) aH:=by show (match P.fF nm with|some fn=>_|none=>_)=_;rw [h2]
  have kg:=gM hP h1
  obtain ⟨b0,fQ⟩:∃b0,(aI P nm).bD[0]?=some b0:=by
   cases h:(aI P nm).bD with
   |nil=>exact absurd h kg.bD.1
   |cons b0 r=>exact ⟨b0,rfl⟩
  exact w_enter (n:=n+3) pg hP h1 fQ (kg.aD b0 (List.mem_of_getElem? fQ)).2.1 hR hsz (λH' ak f e r k n1 n2 n3=>hQ _ _ (S.ok H' ak _ _ (hs.trans e) r k (.push n1 n2 n3))) λe=>hQ _ _ (S.fj H _ _ _ (hs.trans e) hR .rf)
 have no:P.fF nm=none->bO G (n+4) (tW.drop 3) (kF Q) E [some (.ref A.w),some (aW P.t.ah (.call aH a b nm)),some (.str [99,97,108,108]),some (.af (au aH)),some (.af (au [a,b])),some (.str nm),none,none,none,none,none] H:=λh2=>by
  have hs:P.step st (.call aH a b nm)=st.cU P.t a b λx y=>({st with trace:=st.trace++[(nm,[x,y])]}:St).cA P.t aH (n5 nm x y st.trace.length):=by show (match P.fF nm with|some fn=>_|none=>_)=_;rw [h2]
  refine jg (n:=n+3) (xs:=[a,b]) pg (show 2<=1000 by decide) hR hne (λys hy=>?_) λhn=>?_
  ·rw [jI] at hy
   cases e1:st.aT P.t a with
   |none=>rw [e1] at hy;cases hy
   |some x=>
    cases e2:st.aT P.t b with
    |none=>rw [e1,e2] at hy;cases hy
    |some y=>
     rw [e1,e2] at hy;obtain rfl:=Option.some.inj hy
     have hx:=bW.aT hP e1
     have hx:x.natAbs<2^60:=by unfold Wd at hx;lia
     have fR:P.step st (.call aH a b nm)=({st with trace:=st.trace++[(nm,[x,y])]}:St).cA P.t aH (n5 nm x y st.trace.length):=hs.trans (by unfold St.cU;rw [e1,e2])
     have hl:(st.trace.map eE).length<=1000000:=by rw [List.length_map];lia
     rw [<-List.length_map (f:=eE)] at fR
     have rt:=hR.A7 (st.trace++[(nm,[x,y])])
     have hz:({st with trace:=st.trace++[(nm,[x,y])]}:St).Sz (N+1):=⟨Nat.le_trans hsz.aB (Nat.le_succ _),Nat.le_trans hsz.cells (Nat.le_succ _),by rw [List.length_append];exact Nat.succ_le_succ z1,hsz.ay,λf hf=>Nat.le_trans (hsz.own f hf) (Nat.le_succ _),by lia⟩
     rw [List.map_append] at rt
     have kt:Fr (dg A aq) H (H.ai A.tr (.list (st.trace.map eE++[(nm,[x,y])].map eE))):=.ai (.tail _ (.tail _ (.tail _ (.tail _ (.head _))))) _
     exact rd hR.self (rd hR.eO ⟨hl,GR (n:=n+3) (c:=(st.trace.map eE).length) pg (.inr rfl) cF hx (by lia) (rd hR.self (rd hR.eO ⟨show 2<=1000000 by decide,rd hR.eO ⟨hl,HP (n:=n+2) pg hP vP rt hne hz (λH' ak e k=>S.ok H' ak _ _ (fR.trans e) k.r (kt.tr k.k) .rf) λH' ak e k=>S.bG H' ak _ _ (fR.trans e) k.r (kt.tr k.k)⟩⟩))⟩)
  ·rw [jI] at hn
   refine S.bG H _ _ _ (hs.trans ?_) hR .rf
   unfold St.cU
   cases e1:st.aT P.t a with
   |none=>rfl
   |some x=>
    cases e2:st.aT P.t b with
    |none=>rfl
    |some y=>rw [e1,e2] at hn;cases hn
 clear S
 rcases List.mem_cons.mp cF with h|hm
 ·clear cF no;subst h;exact aF pg pg.gy rfl (rd hR.self (yes (λZaa Zaa h=>h) (.inr rfl) rfl))
 clear cF
 rcases List.mem_cons.mp hm with h|hn
 ·clear hm yes;subst h;exact aF pg pg.gy rfl (rd hR.self (no rfl))
 clear hm
 rcases List.mem_cons.mp hn with h|hm
 ·clear hn yes;subst h;exact aF pg pg.gy rfl (rd hR.self (no rfl))
 have h:=List.mem_singleton.mp hm
 clear hn hm no
 subst h;exact aF pg pg.gy rfl (rd hR.self (yes (λZaa Zaa h=>h) (.inl rfl) rfl))
theorem SP(pg:aP G)(hP:P.wf){ins:bq}(hf:st.ay=s::rest)(bV:ins.wf (aI P s.fn).slots.length (aI P s.fn).bD.length)(hR:aO H A P g st aq)(bW:dU P st)(hsz:st.Sz N)(hN:N<900000)(S:SQ Q A P st ins aq H):WV G (n+5) 629 [.ref A.w,aW P.t.ah ins] Q E H:=by
 have hne:st.ay≠[]:=by rw [hf];exact List.cons_ne_nil _ _
 have hB:=bW.ay s (by rw [hf];exact .head _)
 have gq:=hB.fn
 have fY:=(gM hP gq).slots.1
 have dM:∀{k:Nat},k<(aI P s.fn).bD.length->∃b,(aI P s.fn).bD[k]?=some b:=λh=>⟨_,List.getElem?_eq_getElem h⟩
 revert bW hsz S
 refine hR.nE hf λf fr rg ce fe tr hR bW hsz S=>?_
 have hne:(St.mk rg (s::rest) ce fe tr).ay≠[]:=List.cons_ne_nil _ _
 have Bh:∀{xs:List Int} {o:b8},(cj P.t ⟨rg,s::rest,ce,fe,tr⟩ xs=none->o=.bG ⟨rg,s::rest,ce,fe,tr⟩)->P.step ⟨rg,s::rest,ce,fe,tr⟩ ins=o->cj P.t ⟨rg,s::rest,ce,fe,tr⟩ xs=none->Q (.str gv) H:=λh1 h2 h3=>S.bG H _ _ _ (h2.trans (h1 h3)) hR .rf
 have pW:∀{a:Int} {k:Int->b8},cj P.t ⟨rg,s::rest,ce,fe,tr⟩ [a]=none->St.dQ P.t ⟨rg,s::rest,ce,fe,tr⟩ a k=.bG ⟨rg,s::rest,ce,fe,tr⟩:=λ{a k} h=>by
  rw [qf] at h
  unfold St.dQ
  cases e1:St.aT P.t ⟨rg,s::rest,ce,fe,tr⟩ a with
  |none=>rfl
  |some x=>rw [e1] at h;cases h
 have r1:∀{a:Int} {ys:List Int},cj P.t ⟨rg,s::rest,ce,fe,tr⟩ [a]=some ys->∃x,ys=[x]/\∀{k:Int->b8},St.dQ P.t ⟨rg,s::rest,ce,fe,tr⟩ a k=k x:=λ{a ys} h=>by
  rw [qf] at h
  unfold St.dQ
  cases e1:St.aT P.t ⟨rg,s::rest,ce,fe,tr⟩ a with
  |none=>rw [e1] at h;cases h
  |some x=>rw [e1] at h;obtain rfl:=Option.some.inj h;exact ⟨x,rfl,rfl⟩
 induction ins with
 |lu k o a b=>exact Nh pg hP bV.1 hR hne bW hsz S
 |lz k o a v=>exact MO pg hP bV.1 hR hne bW hsz S
 |call aH a b nm=>exact MP pg hP bV.1 bV.2.2.2.2 hR hne bW hsz hN S
 |br k a b i j=>
  obtain ⟨bi,hi⟩:=dM bV.2.2.2.1
  obtain ⟨bj,hj⟩:=dM bV.2.2.2.2
  exact Ng pg hP bV.1 rfl hi hj hR bW S
 |ret v=>
  exact aF pg pg.gy rfl (w_left (n:=n+1) pg hP bV.1 hR hsz rfl hB.aR.1 hB.aH.1 (bW.Jm hP rfl) (rN (gM hP gq)) (λH' ak f' fr' g' ef e hr r k=>S.ok H' ak _ _ e r k (by cases ef;exact λa h=>.inl (FG a h))) (λH' ak w e hr r k=>S.done H' ak w e r k) λH' ak bB g' e r k=>S.bG H' ak bB g' e r k)
 |j k=>
  obtain ⟨b,hb⟩:=dM bV
  have lb:(b.map (aW P.t.ah)).length<=1000000:=by rw [List.length_map];exact Nat.le_trans (Ag hP gq hb) (by decide)
  exact aF pg pg.gy rfl (jg (n:=n+3) (xs:=[]) pg (Nat.zero_le _) hR hne (λys hy=>by
   obtain rfl:=Option.some.inj hy
   exact rd hR.self (rd hR.bf (rd gw (rd hR.fc (rd (um hb) ⟨lb,.inr λc hc=>rd (hR.new hc _).fc (S.ok _ _ _ g rfl (hR.qH hc hb) ((Fr.new hc _).tr (.ai (.tail _ (.tail _ (.tail _ (.tail _ (.tail _ (.head _)))))) _)) (.qH hc))⟩))))) λhn=>(by cases hn))
 |mv o a=>
  exact aF pg pg.gy rfl (jg (n:=n+3) (xs:=[a]) pg (show 1<=1000 by decide) hR hne (λys hy=>by
   obtain ⟨x,rfl,e⟩:=r1 hy
   exact rd hR.self (rd hR.bf (rd gw (rd (v:=.int o) rfl (rd (v:=.int x) rfl (mS (n:=n+3) pg hP hR hne hsz λH' k=>S.ok H' _ _ _ e k.r k.k .rf)))))) (Bh pW rfl))
 |li o v=>
  exact aF pg pg.gy rfl (jg (n:=n+3) (xs:=[]) pg (Nat.zero_le _) hR hne (λys hy=>by
   obtain rfl:=Option.some.inj hy
   exact rd hR.self (rd hR.bf (rd gw (rd (v:=.int o) rfl (mS (n:=n+3) pg hP hR hne hsz λH' k=>S.ok H' _ _ _ rfl k.r k.k .rf))))) λhn=>(by cases hn))
 |la o nm=>
  exact aF pg pg.gy rfl (jg (n:=n+3) (xs:=[]) pg (Nat.zero_le _) hR hne (λys hy=>by
   obtain rfl:=Option.some.inj hy
   exact Za (n:=n+2) pg hP bV.2 hR hne hsz (λH' v e k=>S.ok H' _ _ _ (by show (match qj nm with|some v=>_|none=>_)=_;rw [e]) k.r k.k .rf) λe=>S.bG H _ _ _ (by show (match qj nm with|some v=>_|none=>_)=_;rw [e]) hR .rf) λhn=>(by cases hn))
 |lw o a v=>
  exact aF pg pg.gy rfl (jg (n:=n+3) (xs:=[a]) pg (show 1<=1000 by decide) hR hne (λys hy=>by
   obtain ⟨x,rfl,e⟩:=r1 hy
   exact Y8 (n:=n+2) (o:=o) (a:=a) (v:=v) (x:=x) pg hP hR hne hsz (λH' u h k=>S.ok H' _ _ _ (e.trans (by show (match KV.aE ce (P.t.aU (x+v)) with|some v=>_|none=>_)=_;rw [show KV.aE ce (P.t.aU (x+v))=_ from h])) k.r k.k .rf) λh=>S.bG H _ _ _ (e.trans (by show (match KV.aE ce (P.t.aU (x+v)) with|some v=>_|none=>_)=_;rw [show KV.aE ce (P.t.aU (x+v))=_ from h])) hR .rf) (Bh pW rfl))
 |sw u a v=>
  exact aF pg pg.gy rfl (jg (n:=n+3) (xs:=[u,a]) pg (show 2<=1000 by decide) hR hne (λys hy=>by
   rw [jI] at hy
   cases e1:St.aT P.t ⟨rg,s::rest,ce,fe,tr⟩ u with
   |none=>rw [e1] at hy;cases hy
   |some x=>
    cases e2:St.aT P.t ⟨rg,s::rest,ce,fe,tr⟩ a with
    |none=>rw [e1,e2] at hy;cases hy
    |some y=>
     rw [e1,e2] at hy;obtain rfl:=Option.some.inj hy
     have e:P.step ⟨rg,s::rest,ce,fe,tr⟩ (.sw u a v)=match KV.aE ce (P.t.aU (y+v)) with|some _=>.ok ⟨rg,s::rest,KV.set ce (P.t.aU (y+v)) x,fe,tr⟩|none=>.bG ⟨rg,s::rest,ce,fe,tr⟩:=by show St.cU _ _ _ _ _=_;unfold St.cU;rw [e1,e2]<;>rfl
     exact Y9 (n:=n+2) (u:=u) (a:=a) (v:=v) (x:=x) (y:=y) pg hP hR hne hsz (λH' w h k=>S.ok H' _ _ _ (e.trans (by rw [show KV.aE ce (P.t.aU (y+v))=_ from h])) k.r k.k .rf) λh=>S.bG H _ _ _ (e.trans (by rw [show KV.aE ce (P.t.aU (y+v))=_ from h])) hR .rf) λhn=>by
   rw [jI] at hn
   refine S.bG H _ _ _ ?_ hR .rf
   show St.cU _ _ _ _ _=_
   unfold St.cU
   cases e1:St.aT P.t ⟨rg,s::rest,ce,fe,tr⟩ u with
   |none=>rfl
   |some x=>
    cases e2:St.aT P.t ⟨rg,s::rest,ce,fe,tr⟩ a with
    |none=>rfl
    |some y=>rw [e1,e2] at hn;cases hn)
 |pL o i=>
  have hi:i<(aI P s.fn).slots.length:=bV.2
  exact aF pg pg.gy rfl (jg (n:=n+3) (xs:=[]) pg (Nat.zero_le _) hR hne (λys hy=>by
   obtain rfl:=Option.some.inj hy
   exact Ve (n:=n+2) pg hP (by lia) hR hne hsz (λH' u h k=>S.ok H' _ _ _ (by show (match KV.aE ce _ with|some v=>_|none=>_)=_;rw [show KV.aE ce _=_ from h]) k.r k.k .rf) λh=>S.bG H _ _ _ (by show (match KV.aE ce _ with|some v=>_|none=>_)=_;rw [show KV.aE ce _=_ from h]) hR .rf) λhn=>(by cases hn))
 |gG u i=>
  have hi:i<(aI P s.fn).slots.length:=bV.2
  exact aF pg pg.gy rfl (jg (n:=n+3) (xs:=[u]) pg (show 1<=1000 by decide) hR hne (λys hy=>by
   obtain ⟨x,rfl,e⟩:=r1 hy
   exact Vf (n:=n+2) (u:=u) pg hP (by lia) hR hne hsz (λH' w h k=>S.ok H' _ _ _ (e.trans (by show (match KV.aE ce _ with|some v=>_|none=>_)=_;rw [show KV.aE ce _=_ from h])) k.r k.k .rf) λh=>S.bG H _ _ _ (e.trans (by show (match KV.aE ce _ with|some v=>_|none=>_)=_;rw [show KV.aE ce _=_ from h])) hR .rf) (Bh pW rfl))
 |pM o i=>
  have hi:i<(aI P s.fn).slots.length:=bV.2
  exact aF pg pg.gy rfl (jg (n:=n+3) (xs:=[]) pg (Nat.zero_le _) hR hne (λys hy=>by
   obtain rfl:=Option.some.inj hy
   exact Vg (n:=n+2) pg hP (by lia) hR hne hsz λH' k=>S.ok H' _ _ _ rfl k.r k.k .rf) λhn=>(by cases hn))
end
noncomputable def ie:List Nat:=[102,114,97,109,101,115]
noncomputable def tL:List Nat:=[115,104,97,114,101,100]
structure vR(H:WH)(A:cO)(P:PM)(g:Option W)(st:St)(ks:List (List Nat))(vs:List W):Prop where
 led:cB H [(A.w,.dS ks vs),(A.ce,.dI st.cells),(A.tr,.list (st.trace.map eE))]
 l1:Nat.ble ks.length 900=true
 l2:Nat.ble (ee ks ie).length 900=true
 k:ee (ee ks ie) tL=eU g
 v:∀a b,fC (ee ks ie) (fC ks vs ie (.ref a)) tL (.ref b)=fS {A with fr:=a,sh:=b} P st.free g
inductive vU(A:cO)(P:PM)(cD:St)(aG N:Nat)(F0:List Nat)(H0:WH)(i:Nat)(H:WH)(t:List Nat):Prop
 |run (s:St) (fs:List b9) (g:Option W) (e:t=[]) (r:aO H A P g s fs) (pX:bZ P s) (sz:s.Sz (N+24+8*i)) (ne:s.ay≠[]) (run:P.eY (aG-i) s=P.eY aG cD) (k:Fr F0 H0 H) (x:∀a∈dg A fs,a∈F0\/H0 a=none)
 |bG (s:St) (fs:List b9) (g:Option W) (e:t=gv) (r:aO H A P g s fs) (run:P.eY aG cD=.bG s) (k:Fr F0 H0 H)
 |fj (s:St) (fs:List b9) (g:Option W) (e:t=lI) (r:aO H A P g s fs) (run:P.eY aG cD=.fj s) (k:Fr F0 H0 H)
 |done (s:St) (w:Option Int) (e:t=xh) (r:aO H A P (some (W.dG w)) s []) (run:P.eY aG cD=.done w s) (pX:bZ P s) (nf:s.ay=[]) (sz:s.Sz (N+10000)) (k:Fr F0 H0 H)
section
variable{G:Gx}{n:Nat}{E:Nat->WH->Prop}{H:WH}{Q:W->WH->Prop}{A:cO}{P:PM}{g:Option W}{st:St}{aq fr:List b9}{f:b9}{N:Nat}
theorem aO.bY{s:bE}{rg ce:KV}{rest:List bE}{fe:Int}{tr:List (List Nat×List Int)}(h:aO H A P g ⟨rg,s::rest,ce,fe,tr⟩ (f::fr)):aO (H.ai f.aD (.list (((P.aD s).drop (s.at_+1)).map (aW P.t.ah)))) A P g (St.bY ⟨rg,s::rest,ce,fe,tr⟩) (f::fr):=
 ⟨h.led.bL 7 (.list (((P.aD s).drop (s.at_+1)).map (aW P.t.ah))) rfl,h.len,B9 (s:=s) (s':={s with at_:=s.at_+1}) rfl h.cW⟩
noncomputable def Vh:List S:=(match tX.drop 4 with|.loop _ _ b::_=>b|_=>[])
theorem SX(pg:aP G)(hP:P.wf){cD:St}{aG i:Nat}{F0:List Nat}{H0:WH}{m0 m1 m2:W}{u v w:Option W}{t:List Nat}{K:WF->WM->WH->Prop}(hi:i<aG)(CW:aG<=1000)(hN:N+20000<=900000)(hJ:vU A P cD aG N F0 H0 i H t)
 (next:∀t H',vU A P cD aG N F0 H0 (i+1) H' t->K .next [some (.ref A.w),some m1,some m2,u,v,some (.str t),w] H')(brk:t≠[]->K .brk [some (.ref A.w),some m1,some m2,u,v,some (.str t),w] H):
 bO G (n+6) Vh K E [some (.ref A.w),some m1,some m2,u,v,some (.str t),w] H:=by
 induction hJ with
 |bG s fs g e=>subst e;exact brk (by decide)
 |fj s fs g e=>subst e;exact brk (by decide)
 |done s w e=>subst e;exact brk (by decide)
 |run kh uS g e rI iI zI yZ sR kI jC=>
 subst e
 obtain ⟨s,rest,jc⟩:∃s rest,kh.ay=s::rest:=by
  cases h:kh.ay with
  |nil=>exact absurd h yZ
  |cons s rest=>exact ⟨s,rest,rfl⟩
 have y9:=iI.ay s (by rw [jc];exact .head _)
 obtain ⟨ins,i8⟩:=iI.head s (by rw [jc];rfl)
 obtain ⟨bV,fB,LF⟩:=y9.row hP i8
 obtain ⟨f,fr,rg,s',aae,ce,fe,tr,rfl,rfl⟩:=rI.eG yZ
 cases jc
 have rA:=rI.bY
 have uT:(St.bY ⟨rg,s::rest,ce,fe,tr⟩).ay≠[]:=List.cons_ne_nil _ _
 have bW:=iI.todU.bY
 obtain ⟨tG,oV⟩:=iI.step hP rfl i8
 obtain ⟨ru,sU⟩:=Gq (ins:=ins) hP zI (by lia)
 have b7:=Ft (P:=P) (st:=⟨rg,s::rest,ce,fe,tr⟩) rfl i8
 have fG:P.eY aG cD=match P.step (St.bY ⟨rg,s::rest,ce,fe,tr⟩) ins with|.ok ak=>P.eY (aG-(i+1)) ak|o=>o:=by
  rw [<-sR,show aG-i=(aG-(i+1))+1 by lia]
  show (match P.uB _ with|.ok ak=>P.eY _ ak|o=>o)=_
  rw [b7]
 have hd:(P.aD s).drop s.at_=ins::(P.aD s).drop (s.at_+1):=by
  have hlt:=(List.getElem?_eq_some_iff.mp i8).1
  rw [List.drop_eq_getElem_cons hlt]
  congr 1
  exact (List.getElem?_eq_some_iff.mp i8).2
 have hr:=rI.aD
 rw [hd] at hr
 have fy:(((P.aD s).drop (s.at_+1)).map (aW P.t.ah)).length<=1000000:=by rw [List.length_map,List.length_drop];lia
 have kA:Fr F0 H0 (H.ai f.aD (.list (((P.aD s).drop (s.at_+1)).map (aW P.t.ah)))):=kI.trans (.ai (a:=f.aD) (F:=[f.aD]) (.head _) _) λa ha=>by
  rw [List.mem_singleton.mp ha]
  exact jC f.aD (.tail _ (.tail _ (.tail _ (.tail _ (.tail _ (.tail _ (.tail _ (.head _))))))))
 have CY:∀{bB:List b9},oX A (f::fr) bB (H.ai f.aD (.list (((P.aD s).drop (s.at_+1)).map (aW P.t.ah))))->∀a∈dg A bB,a∈F0\/H0 a=none:=λhx a ha=>by
  rcases hx a ha with h|h
  ·exact jC a h
  ·by_cases hm:a∈F0
   ·exact .inl hm
   ·refine .inr ?_
    cases z:H0 a with
    |none=>rfl
    |some o=>rw [kA a (by rw [z];exact Option.some_ne_none _) hm,z] at h;cases h
 refine rd rI.self (rd rI.bf (rd gw (rd rI.fc (rd hr (rd hr ⟨fy,SP (n:=n+1) (s:={s with at_:=s.at_+1}) (rest:=rest) pg hP rfl bV rA bW (AZ zI) (by lia) ⟨λH' ak bB g' e r k x=>?_,λH' ak bB g' e r k=>?_,λH' ak bB g' e r k=>?_,λH' ak w' e r k=>?_⟩⟩)))))
 ·exact next [] H' (.run _ _ g' rfl r (tG _ e) (Sz.up (ru _ e) (by lia) (by lia)) (Ar uT e) (by rw [fG,e]) (kA.trans k jC) (CY x))
 ·exact next gv H' (.bG _ _ g' rfl r (by rw [fG,e]) (kA.trans k jC))
 ·exact next lI H' (.fj _ _ g' rfl r (by rw [fG,e]) (kA.trans k jC))
 ·exact next xh H' (.done _ w' rfl r (by rw [fG,e]) (oV w' ak e).1 (oV w' ak e).2 (Sz.up (sU w' ak e) (by lia) (by lia)) (kA.trans k jC))
end
section
variable{G:Gx}{n:Nat}{E:Nat->WH->Prop}{H:WH}{Q:W->WH->Prop}{A:cO}{P:PM}{g:Option W}{st:St}{aq fr:List b9}{f:b9}{N:Nat}
noncomputable def FH:List Nat:=[118,97,108,117,101]
noncomputable def uX(A A':cO):Prop:=A'.w=A.w/\A'.ce=A.ce/\A'.tr=A.tr
inductive JL(f:List Nat->Option W->WM)(R:Nat->WH->List Nat->Prop)(i:Nat):WM->WH->Prop
 |mk (t:List Nat) (u:Option W) (H:WH) (h:R i H t):JL f R i (f t u) H
structure RL(A:cO)(P:PM)(g:Option W)(st:St)(F:List Nat)(H:WH)(n:Nat)(H1:WH):Prop where
 r:aO H1 A P g st []
 k:Fr F H H1
 l:st.aB.length<=n
theorem Vi(pg:aP G)(hP:P.wf){ks:List (List Nat)}{vs:List W}{x y:Int}{aG:Nat}(CW:aG<=1000)(hp:vR H A P g st ks vs)(hI:bZ P st)(hf:st.ay=[])(hsz:st.Sz N)(hN:N+20000<=900000)
 (lD:∀H' A' ak v,P.run st [x,y] aG=.done v ak->uX A A'->aO H' A' P (some (W.dG v)) ak []->Fr [A.w,A.ce,A.tr] H H'->bZ P ak->ak.ay=[]->ak.Sz (N+10000)->Q (.aj [.str FH,W.dG v]) H')
 (hqf:∀H' A' ak g' bB,P.run st [x,y] aG=.bG ak->uX A A'->aO H' A' P g' ak bB->Fr [A.w,A.ce,A.tr] H H'->Q (.aj [.str gv]) H')
 (zd:∀H' A' ak g' bB,P.run st [x,y] aG=.fj ak->uX A A'->aO H' A' P g' ak bB->Fr [A.w,A.ce,A.tr] H H'->Q (.aj [.str lI]) H'):WV G (n+7) 636 [.ref A.w,.af [.int x,.int y],.int aG] Q E H:=by
 have pw:=uW hP
 have e0:=hp.led.aE 0 rfl
 refine aF pg pg.X5 rfl (.inr λc1 h1=>.inl λc2 h2=>?_)
 have wc1:A.w≠c1:=λq=>by rw [<-q,e0] at h1;cases h1
 have ry:c2≠c1/\H c2=none:=by
  have q1:c2≠c1:=λq=>by rw [q,aN] at h2;cases h2
  rw [aL _ _ _ q1] at h2;exact ⟨q1,h2⟩
 have wc2:A.w≠c2:=λq=>by rw [<-q,e0] at ry;cases ry.2
 have l2:=(hp.led.new h1 (.list [])).new h2 (.dI [])
 have a1:((H.ai c1 (.list [])).ai c2 (.dI [])) A.w=some (.dS ks vs):=l2.aE 2 rfl
 have r3:aO ((((H.ai c1 (.list [])).ai c2 (.dI [])).ai A.w (.dS (ee ks ie) (fC ks vs ie (.ref c1)))).ai A.w (.dS (ee (ee ks ie) tL) (fC (ee ks ie) (fC ks vs ie (.ref c1)) tL (.ref c2)))) {A with fr:=c1,sh:=c2} P g {st with aB:=[],ay:=[]} []:=by
  rw [hp.k,hp.v]
  refine ⟨((l2.bL 2 (.dS (ee ks ie) (fC ks vs ie (.ref c1))) rfl).bL 2 (.dS (eU g) (fS {A with fr:=c1,sh:=c2} P st.free g)) rfl).qD ?_,rfl,λs hs=>by cases hs⟩
  exact (List.perm_append_comm (l₁:=[(c2,WO.dI []),(c1,.list [])]) (l₂:=[(A.w,.dS (eU g) (fS {A with fr:=c1,sh:=c2} P st.free g)),(A.ce,.dI st.cells)])).append_right [(A.tr,.list (st.trace.map eE))]
 have k3:Fr [A.w,A.ce,A.tr] H ((((H.ai c1 (.list [])).ai c2 (.dI [])).ai A.w (.dS (ee ks ie) (fC ks vs ie (.ref c1)))).ai A.w (.dS (ee (ee ks ie) tL) (fC (ee ks ie) (fC ks vs ie (.ref c1)) tL (.ref c2)))):=(((Fr.new h1 _).tr (.new h2 _)).tr (.ai (.head _) _)).tr (.ai (.head _) _)
 refine rd a1 (nU hp.l1 (rd (aN ..) (nU hp.l2 ?_)))
 have na:uX A {A with fr:=c1,sh:=c2}:=⟨rfl,rfl,rfl⟩
 have x1:∀a∈dg {A with fr:=c1,sh:=c2} [],a∈[A.w,A.ce,A.tr]\/H a=none:=mc (.inl (.head _)) (mc (.inl (.tail _ (.head _))) (mc (.inr ry.2) (mc (.inr h1) (mc (.inl (.tail _ (.tail _ (.head _)))) λZaa q=>by cases q))))
 refine rd r3.self ⟨λi=>J1 (λu=>[some (.ref A.w),some (.af [.int x,.int y]),some (.int aG),u,none,none,none]) (RL {A with fr:=c1,sh:=c2} P g {st with aB:=(P.t.bh.take i).foldl (λr x=>r.set x (P.t.aU (31*x+5))) [],ay:=[]} [A.w,A.ce,A.tr] H i),⟨_,rfl,r3,k3,Nat.le_refl _⟩,λi d m H1 hi=>j1 λu H2 e=>?_,λm H1=>j1 λu H2 e=>?_⟩
 ·obtain ⟨z,rfl,hz⟩:=jf hi
  have hs:=rJ (λ(r:KV) x=>r.set x (P.t.aU (31*x+5))) [] P.t.bh i z hz
  have C0:=Ff P.t z (List.mem_of_getElem? hz)
  have mE:=(List.getElem?_eq_some_iff.mp hz).1
  have d8:=rM P.t
  have r4:=e.r.mR (((P.t.bh.take i).foldl (λ(r:KV) x=>r.set x (P.t.aU (31*x+5))) []).set z (P.t.aU (31*z+5)))
  have l4:=KV.mP ((P.t.bh.take i).foldl (λ(r:KV) x=>r.set x (P.t.aU (31*x+5))) []) z (P.t.aU (31*z+5))
  rw [<-hs] at r4 l4
  obtain ⟨z1,z2⟩:=C0
  have b1:(31:Int).natAbs<2^62:=by decide
  have b2:z.natAbs<2^62:=by lia
  refine ⟨⟨b1,b2⟩,rd e.r.self ⟨pw.1,pw.2,rd e.r.self (rd e.r.aB ⟨Nat.le_trans e.l (by lia),_,.rf,_,rfl,?_⟩)⟩⟩
  rw [t7,<-hs]
  exact ⟨r4,e.k.trans (.ai (F:=dg {A with fr:=c1,sh:=c2} []) (.tail _ (.tail _ (.head _))) _) x1,Nat.le_trans l4 (Nat.succ_le_succ e.l)⟩
 obtain ⟨r4,k4,l4⟩:=e
 rw [List.take_of_length_le (kB P.t.bh)] at r4 l4
 have l4:(P.t.bh.foldl (λ(r:KV) x=>r.set x (P.t.aU (31*x+5))) []).length<=P.t.bh.length:=by
  have:(WS.l (au P.t.bh)).len=P.t.bh.length:=by show (au _).length=_;unfold au;rw [List.length_map]
  rw [this] at l4;exact l4
 have d8:=rM P.t
 generalize C3:P.t.bh.foldl (λ(r:KV) x=>r.set x (P.t.aU (31*x+5))) []=rS at*
 refine rd r4.self (dN (K:=λl=>oQ (.l l) _ _ _ _ _) (AB P.t.args [x,y]) ⟨λi=>J2 (λu v=>[some (.ref A.w),some (.af [.int x,.int y]),some (.int aG),u,v,none,none]) (RL {A with fr:=c1,sh:=c2} P g {st with aB:=((P.t.args.zip [x,y]).take i).foldl (λr p=>r.set p.1 (P.t.aU p.2)) rS,ay:=[]} [A.w,A.ce,A.tr] H (11+i)),⟨_,_,rfl,r4,k4,Nat.le_trans l4 d8⟩,λi d m H1 hi=>j2 λu v H2 e=>?_,λm H1 hj=>?_⟩)
 ·have hi:((P.t.args.zip [x,y]).map λp=>W.aj [.int p.1,.int p.2])[i]?=some d:=hi
  rw [List.getElem?_map] at hi
  obtain ⟨p,hp,rfl⟩:=Option.map_eq_some_iff.mp hi
  have hs:=rJ (λ(r:KV) (p:Int×Int)=>r.set p.1 (P.t.aU p.2)) rS (P.t.args.zip [x,y]) i p hp
  have mE:=(List.getElem?_eq_some_iff.mp hp).1
  rw [List.length_zip] at mE
  have aav:i<2:=Nat.lt_of_lt_of_le mE (Nat.min_le_right _ _)
  have r5:=e.r.mR ((((P.t.args.zip [x,y]).take i).foldl (λ(r:KV) p=>r.set p.1 (P.t.aU p.2)) rS).set p.1 (P.t.aU p.2))
  have l5:=KV.mP (((P.t.args.zip [x,y]).take i).foldl (λ(r:KV) p=>r.set p.1 (P.t.aU p.2)) rS) p.1 (P.t.aU p.2)
  rw [<-hs] at r5 l5
  refine rd e.r.self ⟨pw.1,pw.2,rd e.r.self (rd e.r.aB ⟨Nat.le_trans e.l (by lia),_,.rf,_,_,rfl,?_⟩)⟩
  rw [t7,<-hs]
  exact ⟨r5,e.k.trans (.ai (F:=dg {A with fr:=c1,sh:=c2} []) (.tail _ (.tail _ (.head _))) _) x1,Nat.le_trans l5 (Nat.succ_le_succ e.l)⟩
 induction hj with|mk u3 u4 em hj=>
 subst em
 obtain ⟨r5,k5,l5⟩:=hj
 have C4:(WS.l ((P.t.args.zip [x,y]).map λp=>W.aj [.int p.1,.int p.2])).len=(P.t.args.zip [x,y]).length:=List.length_map ..
 have hz2:(P.t.args.zip [x,y]).length<=2:=by rw [List.length_zip];exact Nat.min_le_right _ _
 rw [C4,List.take_length] at r5 l5
 have er:(P.t.args.zip [x,y]).foldl (λ(r:KV) p=>r.set p.1 (P.t.aU p.2)) rS=ng P.t [x,y]:=by unfold ng;rw [C3]
 rw [er] at r5 l5
 have r5:aO H1 {A with fr:=c1,sh:=c2} P g (st.fresh P [x,y]) []:=r5
 have C5:=hI.fresh hP hf [x,y]
 have vO:(st.fresh P [x,y]).Sz (N+20):=⟨by show (ng P.t [x,y]).length<=_;lia,Nat.le_trans hsz.cells (by lia),Nat.le_trans hsz.trace (by lia),by show 0<=64;decide,λfr h=>(by cases h),by lia⟩
 have kg:=gM hP (.inl rfl:bH=bH\/bH=cu)
 obtain ⟨b0,fQ⟩:∃b0,(aI P bH).bD[0]?=some b0:=by
  cases h:(aI P bH).bD with
  |nil=>exact absurd h kg.bD.1
  |cons b0 r=>exact ⟨b0,rfl⟩
 have fin:∀{cD:St} {t:List Nat} {u3 u4 u:Option W} {i:Nat} {H2:WH},P.run st [x,y] aG=P.eY aG cD->vU {A with fr:=c1,sh:=c2} P cD aG N [A.w,A.ce,A.tr] H i H2 t->(t=[]->aG<=i)->bO G (n+6) (tX.drop 5) (kF Q) E [some (.ref A.w),some (.af [.int x,.int y]),some (.int aG),u3,u4,some (.str t),u] H2:=λ{cD t u3 u4 u i H2} hr hJ hti=>by
  induction hJ with
  |run s fs g' e r _ _ _ run k=>
   subst e
   have:=hti rfl
   rw [Nat.sub_eq_zero_of_le this] at run
   exact ⟨Nat.zero_le _,zd _ _ s g' fs (hr.trans run.symm) na r k⟩
  |bG s fs g' e r run k=>subst e;exact ⟨show 5<=1000000 by decide,hqf _ _ s g' fs (hr.trans run) na r k⟩
  |fj s fs g' e r run k=>subst e;exact ⟨show 5<=1000000 by decide,zd _ _ s g' fs (hr.trans run) na r k⟩
  |done s w e r run pX nf sz k=>subst e;exact rd r.self (lD _ _ s w (hr.trans run) na r k pX nf sz)
 have loop:∀{cD:St} {t:List Nat} {H2:WH},P.run st [x,y] aG=P.eY aG cD->vU {A with fr:=c1,sh:=c2} P cD aG N [A.w,A.ce,A.tr] H 0 H2 t->bO G (n+6) (tX.drop 4) (kF Q) E [some (.ref A.w),some (.af [.int x,.int y]),some (.int aG),u3,u4,some (.str t),none] H2:=λ{cD t H2} hr hJ=>by
  refine ⟨⟨by show-1000000000<=(aG:Int);lia,by show (aG:Int)<=1000000000;lia⟩,JL (λt u=>[some (.ref A.w),some (.af [.int x,.int y]),some (.int aG),u3,u4,some (.str t),u]) (vU {A with fr:=c1,sh:=c2} P cD aG N [A.w,A.ce,A.tr] H),.mk _ _ _ hJ,λi d m H3 hi e=>?_,λm H3 e=>?_⟩
  ·obtain ⟨rfl,bJ⟩:=WS.kU hi
   have bJ:i<aG:=bJ
   induction e with|mk t u H3 hJ=>
   exact SX (A:={A with fr:=c1,sh:=c2}) (n:=n) (m0:=.aZ) pg hP bJ CW hN hJ (λt' H' j=>⟨_,.rf,.mk _ _ _ j⟩) λht=>fin hr hJ λq=>absurd q ht
  ·induction e with|mk t u H3 hJ=>
   exact fin hr hJ λZaa=>Nat.le_refl _
 refine .inl (w_enter (A:={A with fr:=c1,sh:=c2}) (n:=n+5) (nm:=bH) (aH:=[]) pg hP (.inl rfl) fQ (kg.aD b0 (List.mem_of_getElem? fQ)).2.1 r5 vO (λH8 cD f hen r8 k8 n1 n2 n3=>?_) λhen=>?_)
 ·have fG:P.run st [x,y] aG=P.eY aG cD:=by rw [xw,hen]
  have C6:=C5.enter hP (.inl rfl) ⟨Nat.zero_le _,λo ho=>(by cases ho)⟩ hen
  have C7:=Ab hP vO (by lia) (.inl rfl) hen
  have B8:=Ac hen
  refine loop fG (.run cD [f] g rfl r8 C6 (Sz.up C7 (by lia) (by lia)) B8 rfl (k5.trans k8 x1) λa ha=>?_)
  have ha:a∈dg {A with fr:=c1,sh:=c2} []++[f.c,f.own,f.aD]:=ha
  exact (List.mem_append.mp ha).elim (x1 a) (mc (P:=λa=>a∈[A.w,A.ce,A.tr]\/H a=none) (qo k5 n1) (mc (qo k5 n2) (mc (qo k5 n3) λZaa q=>by cases q)) a)
 ·have hz:P.run st [x,y] aG=.fj (st.fresh P [x,y]):=by rw [xw,hen]
  refine ⟨⟨by show-1000000000<=(aG:Int);lia,by show (aG:Int)<=1000000000;lia⟩,λi m H3=>∃u,m=[some (.ref A.w),some (.af [.int x,.int y]),some (.int aG),u3,u4,some (.str lI),u]/\H3=H1,⟨_,rfl,rfl⟩,λi d m H3 hi e=>?_,λm H3 e=>?_⟩
  ·obtain ⟨rfl,bJ⟩:=WS.kU hi
   obtain ⟨u,rfl,rfl⟩:=e
   exact ⟨show 5<=1000000 by decide,zd _ _ _ g [] hz na r5 k5⟩
  ·obtain ⟨u,rfl,rfl⟩:=e
   exact ⟨show 5<=1000000 by decide,zd _ _ _ g [] hz na r5 k5⟩
end
inductive Well(H:WH)(we:Nat):Prop
 |mk (ns:List Int) (p s:Int) (e:H we=some (.dJ [.af (au ns),.int p,.int s])) (h1:ns.length<=63) (h2:∀x∈ns,0<=x/\x<2147483647) (h3:0<=p) (h4:0<=s) (h5:s<65537)
noncomputable def gc(we:Nat)(H H':WH):Prop:=∀a,a≠we->H' a=H a
theorem gc.tr{we:Nat}{H H' iK:WH}(a:gc we H H')(b:gc we H' iK):gc we H iK:=λx h=>(b x h).trans (a x h)
theorem gc.rf{we:Nat}{H:WH}:gc we H H:=λx h=>rfl
noncomputable def cC(t:aJ):W:=.dS [[98,105,116,115],[122,101,114,111],[107,101,112,116],[97,114,103,115],[115,112,111,105,108,101,100],[112,108,97,105,110]] [.int t.bits,.int t.zero,.af (au t.bh),.af (au t.args),.af (au t.d9),.af (au t.plain)]
section
variable{G:Gx}{n:Nat}{E:Nat->WH->Prop}{H:WH}{Q:W->WH->Prop}{we:Nat}{t:aJ}
theorem cG(pg:aP G){size:Int}(hw:Well H we)(hs:0<size)(hq:∀H' v,0<=v->v<size->Well H' we->gc we H H'->Q (.int v) H'):WV G (n+1) 522 [.ref we,.int size] Q E H:=by
 obtain ⟨ns,p,s,e,h1,h2,h3,h4,h5⟩:=hw
 have bU:∀x:Int,0<=x.fmod 65537/\x.fmod 65537<65537:=λx=>by rw [fm x (by decide)];lia
 have JC:∀x:Int,0<=x.fmod size/\x.fmod size<size:=λx=>by rw [fm x (by lia)];exact ⟨Int.emod_nonneg _ (by lia),Int.emod_lt_of_pos _ hs⟩
 have hsz:size≠0:=by lia
 have b1:s.natAbs<2^62:=by lia
 have b2:(75:Int).natAbs<2^62:=by decide
 have ah:∀v r:Int,0<=r->r<65537->Q (.int (v.fmod size)) ((H.ai we (.dJ [.af (au ns),.int (p+1),.int s])).ai we (.dJ [.af (au ns),.int (p+1),.int r])):=λv r r1 r2=>by
  rw [cg]
  exact hq _ _ (JC v).1 (JC v).2 ⟨ns,p+1,r,aN ..,h1,h2,by lia,r1,r2⟩ λa ha=>aL _ _ _ ha
 have ar:(1<3/\3<=1000000)/\(2<3/\3<=1000000):=by decide
 have nz:(65537:Int)≠0:=by decide
 have fy:(au ns).length=ns.length:=List.length_map ..
 refine aF pg pg.XQ rfl (rd e (bI (λhp=>?_) λhp=>?_))
 ·obtain ⟨pn,rfl⟩:=Int.eq_ofNat_of_zero_le h3
  have yR:pn<ns.length:=by rw [fy] at hp;lia
  have e1:(au ns)[pn]?=some (.int ns[pn]):=by rw [Bc,List.getElem?_eq_getElem yR];rfl
  exact rd e1 ⟨⟨b1,b2⟩,nz,rd e ⟨ar.1,rd (aN ..) ⟨ar.2,hsz,ah _ _ (bU _).1 (bU _).2⟩⟩⟩
 ·exact ⟨⟨b1,b2⟩,nz,rd e ⟨ar.1,rd (aN ..) ⟨ar.2,rd (aN ..) ⟨by decide,hsz,ah _ _ (bU _).1 (bU _).2⟩⟩⟩⟩
theorem QI(pg:aP G){b:Nat}(ah:Bool)(hq:Q (cC ⟨ah,b⟩) H):WV G (n+1) 529 [.int (if ah then 1 else 0),.int b] Q E H:=by
 induction ah with
 |false=>exact aF pg pg.Ji rfl (bT rfl ⟨by decide,.inl hq⟩)
 |true=>exact aF pg pg.Ji rfl (bF (by decide) (.inl hq))
theorem xD{l:List Int}{i:Int}(h0:0<=i)(h1:i<l.length):∃x,x∈l/\j9 (au l) i=some (.int x):=by
 obtain ⟨k,rfl⟩:=Int.eq_ofNat_of_zero_le h0
 have hk:k<l.length:=by lia
 exact ⟨_,List.getElem_mem hk,by show (au l)[k]?=_;rw [Bc,List.getElem?_eq_getElem hk];rfl⟩
theorem FI(t:aJ):(∀x∈t.args,Rg x)/\(∀x∈t.plain,Rg x)/\(∀x∈t.bh,Rg x):=by
 unfold aJ.args aJ.plain aJ.bh;cases t.ah<;>(unfold Rg;decide)
theorem Zb(t:aJ):((au t.args).take 3++(au t.plain).take 2)=au (t.args.take 3++t.plain.take 2)/\(t.args.take 3++t.plain.take 2).length=5/\∀x∈t.args.take 3++t.plain.take 2,Rg x:=by
 unfold aJ.args aJ.plain;cases t.ah<;>(unfold Rg;exact ⟨rfl,rfl,by decide⟩)
theorem l8(pg:aP G){l:List Int}(hw:Well H we)(hl:l≠[])(hr:∀x∈l,Rg x)(hq:∀H' r,Rg r->Well H' we->gc we H H'->Q (.int r) H'):WV G (n+2) 536 [.ref we,cC t,.af (au l)] Q E H:=by
 have gr:0<l.length:=List.length_pos_iff.mpr hl
 have h0:(0:Int)<(au l).length:=by unfold au;rw [List.length_map];lia
 refine aF pg pg.XR rfl (cG (n:=n) pg hw (by decide) λH1 v v0 v1 w1 k1=>bI (λhv=>?_) λhv=>?_)
 ·refine cG (n:=n) pg w1 (by decide) λH2 z z0 z1 w2 k2=>bI (λhz=>?_) λhz=>?_
  ·exact hq _ _ (by unfold Rg;lia) w2 (k1.tr k2)
  ·obtain ⟨a1,a2,a3⟩:=Zb t
   obtain ⟨x,hx,ex⟩:=xD (l:=t.args.take 3++t.plain.take 2) (i:=z-5) (by lia) (by lia)
   rw [<-a1] at ex
   exact ⟨by decide,by decide,Nat.le_trans (Nat.add_le_add (List.length_take_le ..) (List.length_take_le ..)) (by decide),rd ex (hq _ _ (a3 x hx) w2 (k1.tr k2))⟩
 ·refine cG (n:=n) pg w1 h0 λH2 z z0 z1 w2 k2=>?_
  obtain ⟨x,hx,ex⟩:=xD (l:=l) z0 (by unfold au at z1;rw [List.length_map] at z1;exact z1)
  exact rd ex (hq _ _ (hr x hx) w2 (k1.tr k2))
theorem xS(pg:aP G){cP:Int}(hw:Well H we)(hh:cP<100)(hq:∀H' r,Rg r->Well H' we->gc we H H'->Q (.int r) H'):WV G (n+2) 543 [.ref we,cC t,.int cP] Q E H:=by
 refine aF pg pg.XT rfl (cG (n:=n) pg hw (by decide) λH1 v v0 v1 w1 k1=>bI (λhv=>?_) λhv=>bI (λnM=>?_) λnM=>bI (λDc=>?_) λDc=>bI (λLL=>?_) λLL=>?_)
 ·refine ⟨by decide,hq _ _ ?_ w1 k1⟩
  unfold Rg;rw [fm v (by decide)];lia
 ·refine cG (n:=n) pg w1 (by decide) λH2 z z0 z1 w2 k2=>?_
  obtain ⟨x,hx,ex⟩:=xD (l:=t.plain) z0 (by unfold aJ.plain;cases t.ah<;>exact z1)
  exact rd ex (hq _ _ ((FI t).2.1 x hx) w2 (k1.tr k2))
 ·refine cG (n:=n) pg w1 (by decide) λH2 z z0 z1 w2 k2=>bI (λhz=>?_) λhz=>?_
  ·have e0:(au t.args)[0]?=some (.int (if t.ah then 0 else 10)):=by unfold aJ.args;cases t.ah<;>rfl
   exact rd e0 (hq _ _ (by unfold Rg aJ.zero;cases t.ah<;>decide) w2 (k1.tr k2))
  ·exact hq _ _ (by unfold Rg aJ.zero;cases t.ah<;>decide) w2 (k1.tr k2)
 ·exact hq _ _ ⟨LL,hh⟩ w1 k1
 ·refine cG (n:=n) pg w1 (by decide) λH2 z z0 z1 w2 k2=>bI (λhz=>?_) λhz=>?_
  ·obtain ⟨x,hx,ex⟩:=xD (l:=t.bh) (i:=1) (by decide) (by unfold aJ.bh;cases t.ah<;>decide)
   exact rd ex (hq _ _ ((FI t).2.2 x hx) w2 (k1.tr k2))
  ·exact hq _ _ (by unfold Rg;decide) w2 (k1.tr k2)
end
noncomputable def mX(ns:Nat)(ins:bq):Prop:=ins.oO=false/\∀nb,ins.wf ns nb
inductive BD(we ra:Nat)(ah:Bool)(ns:Nat)(aD:List bq)(H0 H:WH):Prop
 |mk (w:Well H we) (r:H ra=some (.list (aD.map (aW ah)))) (k:∀a,a≠we->a≠ra->H a=H0 a) (ok:∀i∈aD,mX ns i) (ne:we≠ra)
noncomputable def aJ.a0(t:aJ):Int:=if t.ah then 0 else 10
noncomputable def aJ.a1(t:aJ):Int:=if t.ah then 1 else 11
noncomputable def aJ.k0(t:aJ):Int:=if t.ah then 4 else 9
theorem IJ(t:aJ):t.args.take 2=[t.a0,t.a1]/\Rg t.a0/\Rg t.a1/\(au t.args)[0]?=some (.int t.a0):=by
 unfold aJ.args aJ.a0 aJ.a1;cases t.ah<;>(unfold Rg;exact ⟨rfl,by decide,by decide,rfl⟩)
theorem HS(t:aJ):t.k0∉t.args.take 2/\t.k0∉t.d9:=by
 unfold aJ.k0 aJ.args aJ.d9;cases t.ah<;>decide
structure Kn(t:aJ)(l:List Int):Prop where
 k0:t.k0∈l
 rg:∀x∈l,Rg x
theorem Kn.ne{t:aJ}{l:List Int}(h:Kn t l):l≠[]:=λe=>by have:=h.k0;rw [e] at this;cases this
theorem LM{b:Bool}{k:Bool->Prop}(h1:b=true->k true)(h2:b=false->k false):bS b k:=by
 induction b with
 |true=>exact h1 rfl
 |false=>exact h2 rfl
section
variable{G:Gx}{n:Nat}{E:Nat->WH->Prop}{H H0 H1:WH}{Q:W->WH->Prop}{we ra:Nat}{ah:Bool}{ns:Nat}{aD:List bq}{t:aJ}
theorem BD.w(h:BD we ra ah ns aD H0 H):Well H we:=by induction h;assumption
theorem BD.r(h:BD we ra ah ns aD H0 H):H ra=some (.list (aD.map (aW ah))):=by induction h;assumption
theorem BD.step(h:BD we ra ah ns aD H0 H)(w:Well H1 we)(k:gc we H H1):BD we ra ah ns aD H0 H1:=by
 induction h with
 |mk _ r k' ok ne=>exact ⟨w,(k ra ne.symm).trans r,λa h1 h2=>(k a h1).trans (k' a h1 h2),ok,ne⟩
theorem BD.add(h:BD we ra ah ns aD H0 H)(i:bq)(ho:mX ns i):BD we ra ah ns (aD++[i]) H0 (H.ai ra (.list (aD.map (aW ah)++[aW ah i]))):=by
 induction h with
 |mk w r k ok ne=>
  obtain ⟨l,p,s,e,w1,w2,w3,w4,w5⟩:=w
  refine ⟨⟨l,p,s,(aL _ _ _ ne).trans e,w1,w2,w3,w4,w5⟩,by rw [aN,List.map_append];rfl,λa h1 h2=>(aL _ _ _ h2).trans (k a h1 h2),λj hj=>?_,ne⟩
  rcases List.mem_append.mp hj with hj|hj
  ·exact ok j hj
  ·rw [List.mem_singleton.mp hj];exact ho
theorem BD.jF(h:BD we ra ah ns aD H0 H)(hl:aD.length<=901):(aD.map (aW ah)).length<=1000000:=by rw [List.length_map];lia
noncomputable def HT:List S:=zx.drop 2
theorem Zc{v:Int}(h0:0<=v)(h1:v<8):∃nm,nm∈([[97],[98],[99],[113]]:List (List Nat))/\j9 [W.str [97],.str [98],.str [97],.str [98],.str [97],.str [99],.str [98],.str [113]] v=some (.str nm):=by
 obtain ⟨k,rfl⟩:=Int.eq_ofNat_of_zero_le h0
 exact mD (k:=k) (by lia) ⟨_,.head _,rfl⟩ ⟨_,.tail _ (.head _),rfl⟩ ⟨_,.head _,rfl⟩ ⟨_,.tail _ (.head _),rfl⟩ ⟨_,.head _,rfl⟩ ⟨_,.tail _ (.tail _ (.head _)),rfl⟩ ⟨_,.tail _ (.head _),rfl⟩ ⟨_,.tail _ (.tail _ (.tail _ (.head _))),rfl⟩
theorem GX(pg:aP G){l:List Int}{a5:Int}{u b:Option W}(hb:BD we ra t.ah ns aD H0 H)(hk:Kn t l)(fB:aD.length<=901)
 (hq:∀H' r i,-1<=r->r<100->BD we ra t.ah ns (aD++[i]) H0 H'->Q (.int r) H'):bO G (n+2) HT (kF Q) E [some (.ref we),some (cC t),some (.af (au l)),b,some (.ref ra),some (.int a5),u] H:=by
 refine cG (n:=n+1) pg hb.w (by decide) λH1 v v0 v1 w1 k1=>bI (λhv=>?_) λhv=>?_
 ·have b1:=hb.step w1 k1
  refine rd b1.r (cG (n:=n+1) pg w1 (by decide) λH2 z z0 z1 w2 k2=>?_)
  have b2:=b1.step w2 k2
  exact rd b2.r ⟨b2.jF (by lia),hq _ 65 (.lw 65 68 z) (by decide) (by decide) (b2.add (.lw 65 68 z) ⟨rfl,λnb=>⟨⟨by decide,by decide⟩,⟨by decide,by decide⟩,by unfold Im;lia⟩⟩)⟩
 ·have b1:=hb.step w1 k1
  refine rd b1.r (.inl (l8 (n:=n) pg w1 hk.ne hk.rg λH2 r vV w2 k2=>cG (n:=n+1) pg w2 (by decide) λH3 z z0 z1 w3 k3=>?_))
  have b2:=(b1.step w2 k2).step w3 k3
  exact rd b2.r ⟨b2.jF (by lia),hq _ (-1) (.sw r 68 z) (by decide) (by decide) (b2.add (.sw r 68 z) ⟨rfl,λnb=>⟨vV,⟨by decide,by decide⟩,by unfold Im;lia⟩⟩)⟩
theorem O1(pg:aP G){l sl:List Int}(hb:BD we ra t.ah sl.length aD H0 H)(hk:Kn t l)(d8:sl.length<=2)(fB:aD.length<=900)
 (hq:∀H' r new,-1<=r->r<100->BD we ra t.ah sl.length (aD++new) H0 H'->new.length<=2->Q (.int r) H'):WV G (n+3) 550 [.ref we,cC t,.af (au l),.af (au sl),.ref ra] Q E H:=by
 have yI:∀i H' r j,-1<=r->r<100->BD we ra t.ah sl.length (aD++[i]++[j]) H0 H'->Q (.int r) H':=λi H' r j h1 h2 h3=>hq H' r [i,j] h1 h2 (by rw [List.append_assoc] at h3;exact h3) (Nat.le_refl _)
 refine aF pg pg.XU rfl (cG (n:=n+1) pg hb.w (by decide) λH1 v v0 v1 w1 k1=>?_)
 have b1:=hb.step w1 k1
 have la:∀j:bq,(aD++[j]).length<=901:=λj=>by rw [List.length_append,List.length_singleton];lia
 obtain ⟨nm,n1,n2⟩:=Zc v0 v1
 have fa:bO G (n+2) (.bA (.aQ (.aa 4) [97,112,112,101,110,100] [(.aj [(.c (.str [108,97])),(.af [(.c (.int 68))]),(.af []),(.item (.aj [(.c (.str [97])),(.c (.str [98])),(.c (.str [97])),(.c (.str [98])),(.c (.str [97])),(.c (.str [99])),(.c (.str [98])),(.c (.str [113]))]) (.aa 5))])])::HT) (kF Q) E [some (.ref we),some (cC t),some (.af (au l)),some (.af (au sl)),some (.ref ra),some (.int v),none] H1:=
  rd b1.r (.inl (ia n2 (rd b1.r ⟨b1.jF (by lia),GX pg (b1.add (.la 68 nm) ⟨rfl,λnb=>⟨⟨by decide,by decide⟩,n1⟩⟩) hk (la _) λH' r i h1 h2 h3=>yI _ H' r i h1 h2 h3⟩)))
 induction sl with
 |nil=>exact fa
 |cons x r=>
  refine bI (λh3=>?_) λh3=>fa
  refine cG (n:=n+1) pg w1 (by show (0:Int)<((au (x::r)).length:Int);unfold au;rw [List.length_map,List.length_cons];lia) λH2 i i0 i1 w2 k2=>?_
  have b2:=b1.step w2 k2
  obtain ⟨ix,rfl⟩:=Int.eq_ofNat_of_zero_le i0
  have v2:0<=v.fmod 2/\v.fmod 2<2:=by rw [fm v (by decide)];lia
  have nM:Rg (64+v.fmod 2):=by unfold Rg;lia
  have Dd:ix<(x::r).length:=by unfold au at i1;rw [List.length_map] at i1;lia
  refine bI (λh5=>?_) λh5=>bI (λh6=>?_) λh6=>?_
  ·exact rd b2.r ⟨by decide,.inl (rd b2.r ⟨b2.jF (by lia),by decide,hq _ _ [.pL (64+v.fmod 2) ix] (by lia) (by lia) (b2.add _ ⟨rfl,λnb=>⟨nM,Dd⟩⟩) (show 1<=2 by decide)⟩)⟩
  ·refine rd b2.r (.inl (l8 (n:=n) pg w2 hk.ne hk.rg λH3 r vV w3 k3=>?_))
   have b3:=b2.step w3 k3
   exact rd b3.r ⟨b3.jF (by lia),hq _ _ [.gG r ix] (by decide) (by decide) (b3.add _ ⟨rfl,λnb=>⟨vV,Dd⟩⟩) (show 1<=2 by decide)⟩
  ·exact rd b2.r (.inl (rd b2.r ⟨b2.jF (by lia),GX pg (b2.add (.pM 68 ix) ⟨rfl,λnb=>⟨⟨by decide,by decide⟩,Dd⟩⟩) hk (la _) λH' r i h1 h2 h3=>yI _ H' r i h1 h2 h3⟩))
end
section
variable{G:Gx}{n:Nat}{E:Nat->WH->Prop}{H H0 H1:WH}{we ra:Nat}{ah:Bool}{ns:Nat}{aD:List bq}{t:aJ}
theorem MQ{l:List Int}{p:Int->Bool}{i:Nat}{x:Int}(h:l[i]?=some x):(l.take (i+1)).filter p=(l.take i).filter p++(if p x=true then [x] else []):=by
 rw [List.take_add_one,List.filter_append,h]
 congr 1
 show [x].filter p=_
 rw [List.filter_cons];rfl
theorem Bj{l:List Int}(fy:l.length<=1000){fx:W}{p:Int->Bool}{ts:List T}{m:WM}{Q:W->WM->WH->Prop}{D:Nat}(hD:H D=none)(ht:∀(x:Int) (K:Bool->WM->WH->Prop) (H:WH),K (p x) [some (.int x),some fx] H->je G n ts K E [some (.int x),some fx] H)(hq:Q (.af (au (l.filter p))) m H):
 WL (.l (au l)) (jz (gH G n (.nm 0)) E) (pQ (je G n ts) E) (pR (nO G n (.elt (.aa 0))) D E) (sO D Q m) [none,some fx] (H.ai D (.list [])):=by
 refine ⟨λi=>J1 (λu=>[u,some fx]) (λH1=>H1=H.ai D (.list (au ((l.take i).filter p)))),⟨_,rfl,rfl⟩,λi d m' H1 hi=>j1 λu H2 e=>?_,λm' H1=>j1 λu H2 e=>?_⟩
 ·obtain ⟨x,rfl,hx⟩:=jf hi
  have hs:=MQ (p:=p) hx
  have hl:((l.take i).filter p).length<=l.length:=Nat.le_trans (List.length_filter_le ..) (List.length_take_le' ..)
  refine ht x _ H2 ?_
  cases h:p x with
  |true=>
   rw [h] at hs
   have e1:H2 D=some (.list (au ((l.take i).filter p))):=by rw [e,aN]
   refine rd e1 ⟨by unfold au;rw [List.length_map];lia,_,rfl,?_⟩
   rw [e,cg,hs,if_pos rfl,lJ];rfl
  |false=>
   rw [h] at hs
   refine ⟨_,rfl,?_⟩
   rw [e,hs];exact (congrArg (λl=>H.ai D (.list (au l))) (List.append_nil _)).symm
 ·rw [List.take_of_length_le (kB l)] at e
  have e1:H2 D=some (.list (au (l.filter p))):=by rw [e,aN]
  have hd:H2.aV D=H:=by rw [e,iu hD]
  have hl:(l.filter p).length<=l.length:=List.length_filter_le ..
  refine rd e1 ⟨by unfold au;rw [List.length_map];lia,.inl ?_⟩
  rw [hd];exact hq
theorem SY(x:Int)(K:Bool->WM->WH->Prop)(H:WH)(h:K (decide (x∉t.args.take 2)) [some (.int x),some (cC t)] H):je G n [(.cmp .NotIn (.aa 0) (.sl (.item (.aa 1) (.c (.str [97,114,103,115]))) (.c (.int 2))))] K E [some (.int x),some (cC t)] H:=by
 refine ⟨by decide,_,qg ..,bI (λq=>?_) λq=>?_⟩
 ·have q:x∈t.args.take 2:=q
  rw [decide_eq_false (λz=>z q)] at h;exact h
 ·have q:x∉t.args.take 2:=q
  rw [decide_eq_true q] at h;exact h
theorem IK(x:Int)(K:Bool->WM->WH->Prop)(H:WH)(h:K (decide (x∉t.d9)) [some (.int x),some (cC t)] H):je G n [(.cmp .NotIn (.aa 0) (.item (.aa 1) (.c (.str [115,112,111,105,108,101,100]))))] K E [some (.int x),some (cC t)] H:=by
 refine ⟨_,rfl,bI (λq=>?_) λq=>?_⟩
 ·have q:x∈t.d9:=q
  rw [decide_eq_false (λz=>z q)] at h;exact h
 ·have q:x∉t.d9:=q
  rw [decide_eq_true q] at h;exact h
variable{Q:W->WH->Prop}
theorem xT(pg:aP G){l:List Int}{nm:List Nat}{u v:Option W}{b:Bool}(hb:BD we ra t.ah ns aD H0 H)(hk:Kn t l)(fy:l.length<=900)(fB:aD.length<=900)(cF:nm∈([[103],[104],[110],[102]]:List (List Nat)))
 (hq:∀H' l' ins,Kn t l'->l'.length<=l.length+1->BD we ra t.ah ns (aD++[ins]) H0 H'->Q (.af (au l')) H'):bO G (n+3) (tV.drop 4) (kF Q) E [some (.ref we),some (cC t),some (.af (au l)),some (.ref ra),some (.str nm),u,v,some (.dF b),none] H:=by
 have k2:∀l',l'.length<=1->(∀x∈l',Rg x)->Kn t (l.filter (λx=>decide (x∉t.d9))++l'):=λl' Zaa h=>⟨List.mem_append_left _ (List.mem_filter.mpr ⟨hk.k0,decide_eq_true (HS t).2⟩),λx hx=>by
  rcases List.mem_append.mp hx with hx|hx
  ·exact hk.rg x (List.mem_filter.mp hx).1
  ·exact h x hx⟩
 have lf:(l.filter (λx=>decide (x∉t.d9))).length<=l.length:=List.length_filter_le ..
 have lf2:(au (l.filter (λx=>decide (x∉t.d9)))).length<=l.length:=by unfold au;rw [List.length_map];exact lf
 obtain ⟨a1,a2,a3,a4⟩:=IJ t
 have a5:(au t.args).take 2=au [t.a0,t.a1]:=by rw [qg,a1]
 induction b with
 |true=>
  refine rd hb.r (rd a4 ⟨by decide,?_⟩)
  rw [a5]
  have b1:=hb.add (.call [t.a0] t.a0 t.a1 nm) ⟨rfl,λnb=>⟨Nat.le_refl _,λo ho=>List.mem_singleton.mp ho▸a2,a2,a3,cF⟩⟩
  refine rd hb.r ⟨hb.jF (by lia),λD hD=>Bj (n:=n+3) (by lia) hD IK (rd a4 ⟨?_,?_⟩)⟩
  ·show (au (l.filter (λx=>decide (x∉t.d9)))).length+1<=1000000;lia
  ·have:=hq _ _ _ (k2 [t.a0] (Nat.le_refl _) λx hx=>List.mem_singleton.mp hx▸a2) (by rw [List.length_append,List.length_singleton];lia) b1
   rw [lJ] at this;exact this
 |false=>
  refine rd hb.r (.inl ⟨by decide,?_⟩)
  rw [a5]
  have b1:=hb.add (.call [] t.a0 t.a1 nm) ⟨rfl,λnb=>⟨Nat.zero_le _,λo ho=>(by cases ho),a2,a3,cF⟩⟩
  refine rd hb.r ⟨hb.jF (by lia),λD hD=>Bj (n:=n+3) (by lia) hD IK (.inl ⟨?_,?_⟩)⟩
  ·show (au (l.filter (λx=>decide (x∉t.d9)))).length+0<=1000000;lia
  ·have:=hq _ _ _ (k2 [] (Nat.zero_le _) λx hx=>(by cases hx)) (by rw [List.append_nil];lia) b1
   rw [lJ] at this;exact this
theorem Vj(pg:aP G){l:List Int}{nm:List Nat}{u v w:Option W}(hb:BD we ra t.ah ns aD H0 H)(hk:Kn t l)(fy:l.length<=900)(fB:aD.length<=900)(cF:nm∈([[103],[104],[110],[102]]:List (List Nat)))
 (hq:∀H' l' ins,Kn t l'->l'.length<=l.length+1->BD we ra t.ah ns (aD++[ins]) H0 H'->Q (.af (au l')) H'):bO G (n+3) (tV.drop 3) (kF Q) E [some (.ref we),some (cC t),some (.af (au l)),some (.ref ra),some (.str nm),u,v,w,none] H:=by
 refine LM (λh=>?_) λh=>?_
 ·exact cG (n:=n+2) pg hb.w (by decide) λH2 z z0 z1 w2 k2=>bI (λhz=>xT (n:=n) (b:=true) pg (hb.step w2 k2) hk fy fB cF hq) λhz=>xT (n:=n) (b:=false) pg (hb.step w2 k2) hk fy fB cF hq
 ·exact cG (n:=n+2) pg hb.w (by decide) λH2 z z0 z1 w2 k2=>bI (λhz=>xT (n:=n) (b:=false) pg (hb.step w2 k2) hk fy fB cF hq) λhz=>xT (n:=n) (b:=true) pg (hb.step w2 k2) hk fy fB cF hq
theorem Zd{v:Int}(h0:0<=v)(h1:v<6):∃nm,nm∈([[103],[104],[110],[102]]:List (List Nat))/\j9 [W.str [103],.str [104],.str [103],.str [110],.str [102],.str [104]] v=some (.str nm):=by
 obtain ⟨k,rfl⟩:=Int.eq_ofNat_of_zero_le h0
 exact pO (k:=k) (by lia) ⟨_,.head _,rfl⟩ ⟨_,.tail _ (.head _),rfl⟩ ⟨_,.head _,rfl⟩ ⟨_,.tail _ (.tail _ (.head _)),rfl⟩ ⟨_,.tail _ (.tail _ (.tail _ (.head _))),rfl⟩ ⟨_,.tail _ (.head _),rfl⟩
noncomputable def caB:List S:=[(.bA (.aQ (.aa 3) [97,112,112,101,110,100] [(.aj [(.c (.str [109,118])),(.af [(.aa 6)]),(.af [(.call (.fn 536) [(.aa 0),(.aa 1),(.aa 5)])]),(.aj [])])]))]
theorem zT(pg:aP G){l re xs:List Int}{nm:List Nat}{K:WF->WM->WH->Prop}(hb:BD we ra t.ah ns aD H0 H)(hre:re≠[])(vV:∀x∈re,Rg x)(hx:∀x∈xs,Rg x)(LD:xs.length<=2)(fB:aD.length<=890)
 (hq:∀H' new u,new.length<=2->BD we ra t.ah ns (aD++new) H0 H'->K .next [some (.ref we),some (cC t),some (.af (au l)),some (.ref ra),some (.str nm),some (.af (au re)),u,none,none] H'):
 oQ (.l (au xs)) (jz (gH G (n+3) (.nm 6)) E) (vG (bO G (n+3) caB) E) K [some (.ref we),some (cC t),some (.af (au l)),some (.ref ra),some (.str nm),some (.af (au re)),none,none,none] H:=by
 refine ⟨λi=>J1 (λu=>[some (.ref we),some (cC t),some (.af (au l)),some (.ref ra),some (.str nm),some (.af (au re)),u,none,none]) (λH1=>∃new,new.length<=i/\BD we ra t.ah ns (aD++new) H0 H1),⟨_,rfl,[],Nat.le_refl _,by rw [List.append_nil];exact hb⟩,λi d m' H1 hi=>j1 λu H2 e=>?_,λm' H1=>j1 λu H2 e=>?_⟩
 ·obtain ⟨x,rfl,LN⟩:=jf hi
  obtain ⟨new,hn,b1⟩:=e
  have mE:=(List.getElem?_eq_some_iff.mp LN).1
  refine rd b1.r (l8 (n:=n+1) pg b1.w hre vV λH3 r hr w3 k3=>?_)
  have b2:=b1.step w3 k3
  refine rd b2.r ⟨b2.jF (by rw [List.length_append];lia),_,.rf,_,rfl,new++[.mv x r],by rw [List.length_append,List.length_singleton];lia,?_⟩
  rw [<-List.append_assoc]
  exact b2.add (.mv x r) ⟨rfl,λnb=>⟨hx x (List.mem_of_getElem? LN),hr⟩⟩
 ·obtain ⟨new,hn,b1⟩:=e
  have:(WS.l (au xs)).len=xs.length:=by show (au xs).length=_;unfold au;rw [List.length_map]
  exact hq H2 new u (by lia) b1
theorem S0(pg:aP G){l:List Int}(hb:BD we ra t.ah ns aD H0 H)(hk:Kn t l)(fy:l.length<=900)(fB:aD.length<=890)
 (hq:∀H' l' new,Kn t l'->l'.length<=l.length+1->BD we ra t.ah ns (aD++new) H0 H'->new.length<=3->Q (.af (au l')) H'):WV G (n+4) 555 [.ref we,cC t,.af (au l),.ref ra] Q E H:=by
 have kr:Kn t (l.filter λx=>decide (x∉t.args.take 2)):=⟨List.mem_filter.mpr ⟨hk.k0,decide_eq_true (HS t).1⟩,λx hx=>hk.rg x (List.mem_filter.mp hx).1⟩
 obtain ⟨a1,a2,a3,a4⟩:=IJ t
 have a5:(au t.args).take 2=au [t.a0,t.a1]:=by rw [qg,a1]
 have fin:∀{H':WH} {nm:List Nat} {new:List bq} {u v w:Option W},nm∈([[103],[104],[110],[102]]:List (List Nat))->new.length<=2->BD we ra t.ah ns (aD++new) H0 H'->bO G (n+3) (tV.drop 3) (kF Q) E [some (.ref we),some (cC t),some (.af (au l)),some (.ref ra),some (.str nm),u,v,w,none] H':=λ{H' nm new u v w} cF hnl b=>
  Vj (n:=n) pg b hk fy (by rw [List.length_append];lia) cF λiK l' ins k' h' b'=>hq iK l' (new++[ins]) k' h' (by rw [<-List.append_assoc];exact b') (by rw [List.length_append,List.length_singleton];lia)
 refine aF pg pg.XW rfl (cG (n:=n+2) pg hb.w (by decide) λH1 v v0 v1 w1 k1=>?_)
 have b1:=hb.step w1 k1
 obtain ⟨nm,cF,en⟩:=Zd v0 v1
 refine ia en λD hD=>Bj (n:=n+3) (by lia) hD SY (LM (λh=>?_) λh=>?_)
 ·refine cG (n:=n+2) pg b1.w (by decide) λH2 z z0 z1 w2 k2=>bI (λhz=>?_) λhz=>?_
  ·refine ⟨by decide,?_⟩
   rw [a5]
   exact zT (n:=n) pg (b1.step w2 k2) kr.ne kr.rg (λx hx=>by rcases List.mem_cons.mp hx with rfl|hx;exact a2;rw [List.mem_singleton.mp hx];exact a3) (Nat.le_refl _) fB λH' new u hn b=>fin cF hn b
  ·exact .inl (zT (n:=n) (xs:=[]) pg (b1.step w2 k2) kr.ne kr.rg (λx hx=>by cases hx) (Nat.zero_le _) fB λH' new u hn b=>fin cF hn b)
 ·refine ⟨by decide,?_⟩
  rw [a5]
  exact zT (n:=n) pg b1 kr.ne kr.rg (λx hx=>by rcases List.mem_cons.mp hx with rfl|hx;exact a2;rw [List.mem_singleton.mp hx];exact a3) (Nat.le_refl _) fB λH' new u hn b=>fin cF hn b
end
section
variable{G:Gx}{n:Nat}{E:Nat->WH->Prop}{H H0 H1:WH}{we ra:Nat}{ah:Bool}{ns:Nat}{aD:List bq}{t:aJ}{Q:W->WH->Prop}
theorem xj{i:bq}:((aD++[i]).map (aW ah)).getLast?=some (aW ah i):=by rw [List.map_append,List.getLast?_append];rfl
theorem S6{l:List Int}{K:WF->WM->WH->Prop}{a3 a4 a5 a6 a7 a8:Option W}{f:Int}(hk:Kn t l)(hf:-1<=f/\f<100)(fy:l.length<=1000)
 (hq:∀l',Kn t l'->l'.length<=l.length+1->K .next [some (.ref we),some (cC t),some (.af (au l')),a3,a4,a5,a6,a7,a8,some (.int f)] H):
 bO G n [(.az (.nm 2) (.aA .Add (.aa 2) (.aC (.an (.cmp .GtE (.aa 9) (.c (.int 0))) (.cmp .NotIn (.aa 9) (.aa 2))) (.af [(.aa 9)]) (.af []))))] K E [some (.ref we),some (cC t),some (.af (au l)),a3,a4,a5,a6,a7,a8,some (.int f)] H:=by
 have hl:(au l).length=l.length:=List.length_map ..
 have same:K .next [some (.ref we),some (cC t),some (.af (au l++[])),a3,a4,a5,a6,a7,a8,some (.int f)] H:=by rw [List.append_nil];exact hq l hk (Nat.le_succ _)
 refine bI (λh=>⟨_,rfl,bI (λh2=>.inl ⟨by rw [hl];exact Nat.le_trans fy (by decide),same⟩) λh2=>⟨by rw [hl,List.length_singleton];lia,?_⟩⟩) λh=>.inl ⟨by rw [hl];exact Nat.le_trans fy (by decide),same⟩
 have:=hq (l++[f]) ⟨List.mem_append_left _ hk.k0,λx hx=>?_⟩ (by rw [List.length_append,List.length_singleton];exact Nat.le_refl _)
 ·rw [lJ] at this;exact this
 ·rcases List.mem_append.mp hx with hx|hx
  ·exact hk.rg x hx
  ·rw [List.mem_singleton.mp hx];exact ⟨h,hf.2⟩
theorem Ze{v:Int}(h0:0<=v)(h1:v<8):∃k,k<8/\j9 [W.str [97,100,100],.str [115,117,98],.str [97,110,100],.str [111,114],.str [120,111,114],.str [109,117,108],.str [115,108,116],.str [115,108,116,117]] v=some (.str (gi k)):=by
 obtain ⟨k,rfl⟩:=Int.eq_ofNat_of_zero_le h0
 exact mD (k:=k) (by lia) ⟨0,by decide,rfl⟩ ⟨1,by decide,rfl⟩ ⟨2,by decide,rfl⟩ ⟨3,by decide,rfl⟩ ⟨4,by decide,rfl⟩ ⟨5,by decide,rfl⟩ ⟨6,by decide,rfl⟩ ⟨7,by decide,rfl⟩
theorem Vk{v:Int}(h0:0<=v)(h1:v<4):∃k,k<4/\j9 [W.str [97,100,100,105],.str [120,111,114,105],.str [97,110,100,105],.str [111,114,105]] v=some (.str (mQ k)):=by
 obtain ⟨k,rfl⟩:=Int.eq_ofNat_of_zero_le h0
 exact pN (k:=k) (by lia) ⟨0,by decide,rfl⟩ ⟨1,by decide,rfl⟩ ⟨2,by decide,rfl⟩ ⟨3,by decide,rfl⟩
noncomputable def JE:List S:=(match zL.drop 1 with|.loop _ _ b::_=>b|_=>[])
theorem S7(pg:aP G){l sl:List Int}{cP many:Int}{K:WF->WM->WH->Prop}{a7 a8 a9:Option W}(hb:BD we ra t.ah sl.length aD H0 H)(hk:Kn t l)(d8:sl.length<=2)(hh:cP<100)(fy:l.length<=800)(fB:aD.length<=800)
 (hq:∀H' l' new a8 a9,Kn t l'->l'.length<=l.length+2->BD we ra t.ah sl.length (aD++new) H0 H'->new.length<=3->K .next [some (.ref we),some (cC t),some (.af (au l')),some (.af (au sl)),some (.int cP),some (.int many),some (.ref ra),a7,a8,a9] H'):
 bO G (n+4) JE K E [some (.ref we),some (cC t),some (.af (au l)),some (.af (au sl)),some (.int cP),some (.int many),some (.ref ra),a7,a8,a9] H:=by
 have q1:∀{H':WH} {l':List Int} {new:List bq} {a8:Option W} {f:Int},-1<=f/\f<100->Kn t l'->l'.length<=l.length+1->BD we ra t.ah sl.length (aD++new) H0 H'->new.length<=3->bO G (n+4) (JE.drop 3) K E [some (.ref we),some (cC t),some (.af (au l')),some (.af (au sl)),some (.int cP),some (.int many),some (.ref ra),a7,a8,some (.int f)] H':=
  λ{H' l' new a8 f} hf vW i9 b hn=>S6 vW hf (by lia) λl2 k2 hl2=>hq H' l2 new _ _ k2 (by lia) b hn
 refine cG (n:=n+3) pg hb.w (by decide) λH1 v v0 v1 w1 k1=>?_
 have b1:=hb.step w1 k1
 refine bI (λh=>?_) λh=>bI (λh=>?_) λh=>bI (λh=>?_) λh=>bI (λh=>?_) λh=>bI (λh=>?_) λh=>?_
 ·refine rd b1.r (cG (n:=n+3) pg w1 (by decide) λH2 z z0 z1 w2 k2=>?_)
  obtain ⟨k,hk8,ek⟩:=Ze z0 z1
  refine ia ek (xS (n:=n+2) pg w2 hh λH3 o ho w3 k3=>l8 (n:=n+2) pg w3 hk.ne hk.rg λH4 x hx w4 k4=>l8 (n:=n+2) pg w4 hk.ne hk.rg λH5 y hy w5 k5=>?_)
  have b5:=(((b1.step w2 k2).step w3 k3).step w4 k4).step w5 k5
  have b6:=b5.add (.lu k o x y) ⟨rfl,λnb=>⟨hk8,ho,hx,hy⟩⟩
  exact rd b5.r ⟨b5.jF (by lia),rd b6.r (rd xj (rd (v:=.int o) rfl (q1 ⟨by have:=ho.1;lia,ho.2⟩ hk (Nat.le_succ _) b6 (show 1<=3 by decide))))⟩
 ·refine rd b1.r (cG (n:=n+3) pg w1 (by decide) λH2 z z0 z1 w2 k2=>?_)
  obtain ⟨k,hk4,ek⟩:=Vk z0 z1
  refine ia ek (xS (n:=n+2) pg w2 hh λH3 o ho w3 k3=>l8 (n:=n+2) pg w3 hk.ne hk.rg λH4 x hx w4 k4=>cG (n:=n+3) pg w4 (by decide) λH5 y y0 y1 w5 k5=>?_)
  have b5:=(((b1.step w2 k2).step w3 k3).step w4 k4).step w5 k5
  have b6:=b5.add (.lz k o x (y-20)) ⟨rfl,λnb=>⟨hk4,ho,hx,by unfold Im;lia⟩⟩
  exact rd b5.r ⟨b5.jF (by lia),rd b6.r (rd xj (rd (v:=.int o) rfl (q1 ⟨by have:=ho.1;lia,ho.2⟩ hk (Nat.le_succ _) b6 (show 1<=3 by decide))))⟩
 ·refine rd b1.r (xS (n:=n+2) pg w1 hh λH3 o ho w3 k3=>l8 (n:=n+2) pg w3 hk.ne hk.rg λH4 x hx w4 k4=>?_)
  have b5:=(b1.step w3 k3).step w4 k4
  have b6:=b5.add (.mv o x) ⟨rfl,λnb=>⟨ho,hx⟩⟩
  exact rd b5.r ⟨b5.jF (by lia),rd b6.r (rd xj (rd (v:=.int o) rfl (q1 ⟨by have:=ho.1;lia,ho.2⟩ hk (Nat.le_succ _) b6 (show 1<=3 by decide))))⟩
 ·refine rd b1.r (xS (n:=n+2) pg w1 hh λH3 o ho w3 k3=>.inl (cG (n:=n+3) pg w3 (by decide) λH4 y y0 y1 w4 k4=>?_))
  have b5:=(b1.step w3 k3).step w4 k4
  have b6:=b5.add (.li o (y-300)) ⟨rfl,λnb=>⟨ho,by unfold Im;lia⟩⟩
  exact rd b5.r ⟨b5.jF (by lia),rd b6.r (rd xj (rd (v:=.int o) rfl (q1 ⟨by have:=ho.1;lia,ho.2⟩ hk (Nat.le_succ _) b6 (show 1<=3 by decide))))⟩
 ·exact O1 (n:=n+1) pg b1 hk d8 (by lia) λH2 r new r0 r1 b2 hn=>q1 ⟨r0,r1⟩ hk (Nat.le_succ _) b2 (by lia)
 ·exact S0 (n:=n) pg b1 hk (by lia) (by lia) λH2 l' new k2 i9 b2 hn=>q1 ⟨by decide,by decide⟩ k2 i9 b2 hn
inductive JD(t:aJ)(we ra nl ns:Nat)(H:WH)(f:List Int->Option W->Option W->Option W->WM)(i:Nat):WM->WH->Prop
 |mk (H1:WH) (l:List Int) (aD:List bq) (a b c:Option W) (bd:BD we ra t.ah ns aD H H1) (hr:aD.length<=3*i) (hk:Kn t l) (hl:l.length<=nl+2*i):JD t we ra nl ns H f i (f l a b c) H1
theorem HU(pg:aP G){l sl:List Int}{cP many:Int}(hw:Well H we)(hk:Kn t l)(d8:sl.length<=2)(hh:cP<100)(hm:0<=many/\many<=5)(fy:l.length<=100)
 (hq:∀H' ra aD l',BD we ra t.ah sl.length aD H H'->H ra=none->aD.length<=15->Kn t l'->l'.length<=l.length+10->Q (.aj [.ref ra,.af (au l')]) H'):WV G (n+5) 562 [.ref we,cC t,.af (au l),.af (au sl),.int cP,.int many] Q E H:=by
 refine aF pg pg.XX rfl (.inr λra lF=>?_)
 have hwr:we≠ra:=λq=>by obtain ⟨_,_,_,e,_⟩:=hw;rw [q,lF] at e;cases e
 obtain ⟨ns,p,s,e,h1,h2,h3,h4,h5⟩:=id hw
 have b0:BD we ra t.ah sl.length [] H (H.ai ra (.list [])):=⟨⟨ns,p,s,(aL _ _ _ hwr).trans e,h1,h2,h3,h4,h5⟩,aN ..,λa Zaa h=>aL _ _ _ h,λi hi=>(by cases hi),hwr⟩
 refine ⟨⟨by lia,by lia⟩,JD t we ra l.length sl.length H (λl' a7 a8 a9=>[some (.ref we),some (cC t),some (.af (au l')),some (.af (au sl)),some (.int cP),some (.int many),some (.ref ra),a7,a8,a9]),.mk _ _ [] _ _ _ b0 (Nat.zero_le _) hk (Nat.le_refl _),λi d m H1 hi e=>?_,λm H1 e=>?_⟩
 ·obtain ⟨rfl,bJ⟩:=WS.kU hi
  induction e with|mk H1 l' aD a7 a8 a9 b hr vW i9=>
  exact S7 (n:=n) pg b vW d8 hh (by lia) (by lia) λH' l2 new a8 a9 k2 hl2 b2 hn=>⟨_,.rf,.mk _ l2 (aD++new) _ _ _ b2 (by rw [List.length_append];lia) k2 (by lia)⟩
 ·induction e with|mk H1 l' aD a7 a8 a9 b hr vW i9=>
  have hlen:(WS.r many.toNat).len=many.toNat:=rfl
  exact hq H1 ra aD l' b lF (by lia) vW (by lia)
end
structure uD(ns nb:Nat)(e:List bq):Prop where
 ne:e≠[]
 len:e.length<=3
 wf:∀ins∈e,ins.wf ns nb
 yq:∀i ins,e[i]?=some ins->ins.oO=false->i+1<e.length
theorem QJ{ns nb:Nat}{pre e:List bq}(hp:∀ins∈pre,mX ns ins)(hl:pre.length<=90)(he:uD ns nb e):wY ns nb (pre++e):=by
 have hne:0<e.length:=List.length_pos_iff.mpr he.ne
 have h3:=he.len
 refine ⟨λq=>he.ne (List.append_eq_nil_iff.mp q).2,by rw [List.length_append];lia,λins hi=>?_,λi ins hi ht=>?_⟩
 ·rcases List.mem_append.mp hi with h|h
  ·exact (hp ins h).2 nb
  ·exact he.wf ins h
 ·rw [List.length_append]
  by_cases q:i<pre.length
  ·lia
  ·rw [List.getElem?_append_right (by lia)] at hi
   have:=he.yq _ _ hi ht
   lia
theorem AG{ns nb:Nat}{ins:bq}(h:ins.wf ns nb)(ht:ins.oO=true):uD ns nb [ins]:=by
 refine ⟨List.cons_ne_nil _ _,show 1<=3 by decide,λi hi=>by rw [List.mem_singleton.mp hi];exact h,λi aaw hi hf=>?_⟩
 induction i with
 |zero=>cases hi;rw [ht] at hf;cases hf
 |succ i=>cases hi
theorem GY{ns nb:Nat}{dH:List bq}{v:List Int}(hlo:∀ins∈dH,mX ns ins)(gr:dH.length<=1)(hv:v.length<=1/\∀r∈v,Rg r):uD ns nb (dH++[.ret v]):=by
 refine ⟨λq=>(by cases (List.append_eq_nil_iff.mp q).2),by rw [List.length_append,List.length_singleton];lia,λins hi=>?_,λi ins hi hf=>?_⟩
 ·rcases List.mem_append.mp hi with h|h
  ·exact (hlo ins h).2 nb
  ·rw [List.mem_singleton.mp h];exact hv
 ·rw [List.length_append]
  by_cases q:i<dH.length
  ·rw [List.length_singleton];lia
  ·rw [List.getElem?_append_right (by lia)] at hi
   have:i-dH.length=0:=by
    cases z:i-dH.length with
    |zero=>rfl
    |succ k=>rw [z] at hi;cases hi
   rw [this] at hi
   cases hi;cases hf
section
variable{G:Gx}{n:Nat}{E:Nat->WH->Prop}{H H0 H1:WH}{we ra:Nat}{ah:Bool}{ns:Nat}{aD:List bq}{t:aJ}{Q:W->WH->Prop}
theorem gc.fr{H':WH}(h:gc we H H'):Fr [we] H H':=λa Zaa hn=>h a λq=>hn (q▸.head _)
theorem Well.old(h:Well H we){c:Nat}(hc:c≠we)(o:WO):Well (H.ai c o) we:=by
 obtain ⟨ns,p,s,e,w1,w2,w3,w4,w5⟩:=h
 exact ⟨ns,p,s,(aL _ _ _ hc.symm).trans e,w1,w2,w3,w4,w5⟩
theorem Well.aV(h:Well H we){c:Nat}(hc:c≠we):Well (H.aV c) we:=by
 obtain ⟨ns,p,s,e,w1,w2,w3,w4,w5⟩:=h
 exact ⟨ns,p,s,(if_neg hc.symm).trans e,w1,w2,w3,w4,w5⟩
theorem Well.ne(h:Well H we){c:Nat}(hc:H c=none):c≠we:=λq=>by obtain ⟨_,_,_,e,_⟩:=h;rw [<-q,hc] at e;cases e
theorem QK(pg:aP G){m:WM}{QX:W->WM->WH->Prop}(hw:Well H we)(m0:jV m 0=some (.ref we)){size:Int}(hs:0<=size/\size<=2)
 (hq:∀H' sl,sl.length<=2->(∀s∈sl,1<=s/\s<=2)->Well H' we->gc we H H'->QX (.af (au sl)) m H'):
 ∀D,H D=none->oW (ji m [0]) λvs=>WL (.r size.toNat) (jz (gH G (n+1) (.nm 0)) E) (pQ (je G (n+1) []) E) (pR (nO G (n+1) (.elt (.aA .Add (.c (.int 1)) (.call (.fn 522) [(.aa 1),(.c (.int 2))])))) D E) (sO D QX m) (List.replicate 1 none++vs.map some) (H.ai D (.list [])):=λD hD=>by
 have ze:D≠we:=hw.ne hD
 refine ia (v:=[.ref we]) (by unfold ji;rw [m0];rfl) ⟨λi=>J1 (λu=>[u,some (.ref we)]) (λH1=>∃sl,sl.length=i/\(∀s∈sl,1<=s/\s<=2)/\Well H1 we/\H1 D=some (.list (au sl))/\∀a,a≠we->a≠D->H1 a=H a),⟨_,rfl,[],rfl,λs hs=>(by cases hs),hw.old ze _,aN ..,λa Zaa h=>aL _ _ _ h⟩,λi d m' H1 hi=>j1 λu H2 e=>?_,λm' H1=>j1 λu H2 e=>?_⟩
 ·obtain ⟨sl,h1,h2,h3,h4,h5⟩:=e
  obtain ⟨rfl,bJ⟩:=WS.kU hi
  refine cG (n:=n) pg h3 (by decide) λH3 v v0 v1 w3 k3=>rd ((k3 D ze).trans h4) ⟨by unfold au;rw [List.length_map];lia,_,rfl,sl++[1+v],by rw [List.length_append,h1];rfl,λs hs=>?_,w3.old ze _,?_,λa ha hb=>(aL _ _ _ hb).trans ((k3 a ha).trans (h5 a ha hb))⟩
  ·rcases List.mem_append.mp hs with h|h
   ·exact h2 s h
   ·rw [List.mem_singleton.mp h];lia
  ·rw [aN,lJ];rfl
 ·obtain ⟨sl,h1,h2,h3,h4,h5⟩:=e
  have h1:sl.length=size.toNat:=h1
  refine rd h4 ⟨by unfold au;rw [List.length_map];lia,.inl (hq _ sl (by lia) h2 (h3.aV ze) λa ha=>?_)⟩
  show (if a=D then none else H2 a)=H a
  by_cases q:a=D
  ·rw [if_pos q,q,hD]
  ·rw [if_neg q];exact h5 a ha q
theorem Zf{ah:Bool}{v:Int}(h0:0<=v)(h1:v<6):∃k w,k<6/\j9 (pZ (iS ah)) v=some (gY (kG ah k) w):=by
 obtain ⟨k,rfl⟩:=Int.eq_ofNat_of_zero_le h0
 induction ah<;>exact pO (k:=k) (by lia) ⟨0,_,by decide,rfl⟩ ⟨1,_,by decide,rfl⟩ ⟨2,_,by decide,rfl⟩ ⟨3,_,by decide,rfl⟩ ⟨4,_,by decide,rfl⟩ ⟨5,_,by decide,rfl⟩
noncomputable def zf:List S:=(match rF.drop 6 with|.loop _ _ b::_=>b|_=>[])
theorem Vl{l l2:List Int}{a1 a3 a4 a5 a8 cK cL fu:Option W}{bl i ns nb:Nat}{fW nF:List bq}{eZ:List (List bq)}{K:WF->WM->WH->Prop}(fH:H bl=some (.list (eZ.map (fk ah))))(hr:H ra=some (.list (aD.map (aW ah))))(hl:fW.length<=1/\aD.length<=15/\nF.length<=3/\eZ.length<=3)
 (hq:∀l' b,b=(if i=0 then fW else [])++aD++nF->(l'=l\/l'=l2)->K .next [some (.ref we),a1,some (cC t),a3,a4,a5,some (.af (au l')),some (.af (fW.map (aW ah))),a8,some (.ref bl),some (.int i),some (.ref ra),some (.af (au l2)),cK,cL,fu,some (.af (nF.map (aW ah)))] (H.ai bl (.list ((eZ++[b]).map (fk ah))))):
 bO G n (zf.drop 4) K E [some (.ref we),a1,some (cC t),a3,a4,a5,some (.af (au l)),some (.af (fW.map (aW ah))),a8,some (.ref bl),some (.int i),some (.ref ra),some (.af (au l2)),cK,cL,fu,some (.af (nF.map (aW ah)))] H:=by
 have l1:(eZ.map (fk ah)).length<=1000000:=by rw [List.length_map];lia
 have mp:∀b:List bq,(eZ++[b]).map (fk ah)=eZ.map (fk ah)++[.af (b.map (aW ah))]:=λb=>List.map_append
 have m1:∀f:List bq,(f.map (aW ah)++aD.map (aW ah))++nF.map (aW ah)=(f++aD++nF).map (aW ah):=λf=>by rw [List.map_append,List.map_append]
 refine rd fH (bI (λh=>?_) λh=>?_)
 ·have hi:i=0:=by lia
  refine rd hr ⟨by rw [List.length_map,List.length_map];lia,by rw [List.length_append,List.length_map,List.length_map,List.length_map];lia,rd fH ⟨l1,bT h ?_⟩⟩
  rw [m1,<-mp]
  exact hq l2 _ (by rw [if_pos hi]) (.inr rfl)
 ·have hi:¬i=0:=by lia
  refine .inl (rd hr ⟨by rw [List.length_map];exact Nat.le_trans (Nat.add_le_add (Nat.le_refl 0) hl.2.1) (by decide),by rw [List.length_append,List.length_map,List.length_map];show 0+aD.length+nF.length<=1000000;lia,rd fH ⟨l1,bF h ?_⟩⟩)
  have e:([]++aD.map (aW ah))++nF.map (aW ah)=([]++aD++nF).map (aW ah):=m1 []
  rw [e,<-mp]
  exact hq l _ (by rw [if_neg hi]) (.inl rfl)
end
section
variable{G:Gx}{n:Nat}{E:Nat->WH->Prop}{H H0 H1:WH}{we:Nat}{t:aJ}{Q:W->WH->Prop}
theorem IM(pg:aP G){l2:List Int}{ns nb:Nat}{dH:List bq}{K:WF->WM->WH->Prop}{a1 a3 a4 a5 a6 a7 a9 mw iM cK cL fu jG:Option W}(hw:Well H we)(hk:Kn t l2)(hlo:∀ins∈dH,mX ns ins)(gr:dH.length<=1)
 (hq:∀H' e,uD ns nb e->Well H' we->gc we H H'->K .next [some (.ref we),a1,some (cC t),a3,a4,a5,a6,a7,some (.af (dH.map (aW t.ah))),a9,mw,iM,some (.af (au l2)),cK,cL,fu,some (.af (e.map (aW t.ah)))] H'):
 bO G (n+2) [(.az (.nm 16) (.aA .Add (.aa 8) (.af [(.aj [(.c (.str [114,101,116])),(.af []),(.aC (.cmp .Eq (.call (.fn 522) [(.aa 0),(.c (.int 6))]) (.c (.int 5))) (.af []) (.af [(.call (.fn 536) [(.aa 0),(.aa 2),(.aa 12)])])),(.aj [])])])))] K E [some (.ref we),a1,some (cC t),a3,a4,a5,a6,a7,some (.af (dH.map (aW t.ah))),a9,mw,iM,some (.af (au l2)),cK,cL,fu,jG] H:=by
 have hl:(dH.map (aW t.ah)).length+1<=1000000:=by rw [List.length_map];lia
 have mp:∀v,dH.map (aW t.ah)++[aW t.ah (.ret v)]=(dH++[bq.ret v]).map (aW t.ah):=λv=>(List.map_append (l₁:=dH) (l₂:=[bq.ret v])).symm
 refine .inl (cG (n:=n+1) pg hw (by decide) λH1 v v0 v1 w1 k1=>bI (λh=>.inl ⟨hl,?_⟩) λh=>l8 (n:=n) pg w1 hk.ne hk.rg λH2 r hr w2 k2=>⟨hl,?_⟩)
 ·have:=hq H1 _ (GY (nb:=nb) (v:=[]) hlo gr ⟨Nat.zero_le _,λr h=>(by cases h)⟩) w1 k1
  rw [<-mp] at this
  exact this
 ·have:=hq H2 _ (GY (nb:=nb) (v:=[r]) hlo gr ⟨Nat.le_refl _,λx h=>List.mem_singleton.mp h▸hr⟩) w2 (k1.tr k2)
  rw [<-mp] at this
  exact this
theorem Vm(pg:aP G){l sl:List Int}{cP:Int}{bl i nb:Nat}{fW dH:List bq}{eZ:List (List bq)}{K:WF->WM->WH->Prop}{iM cE cK cL fu jG:Option W}(hw:Well H we)(hk:Kn t l)(fy:l.length<=60)(d8:sl.length<=2)(hh:cP<100)
 (De:∀ins∈fW,mX sl.length ins)(iR:fW.length<=1)(hlo:∀ins∈dH,mX sl.length ins)(gr:dH.length<=1)(fH:H bl=some (.list (eZ.map (fk t.ah))))(lG:bl≠we)(hbk:eZ.length=i)(hi:i<nb)(hnb:nb<=3)
 (hq:∀H' l' b iM cE cK cL fu jG,Kn t l'->l'.length<=l.length+10->wY sl.length nb b->Well H' we->H' bl=some (.list ((eZ++[b]).map (fk t.ah)))->Fr [we,bl] H H'->K .next [some (.ref we),some (.int (if t.ah then 1 else 0)),some (cC t),some (.af (au sl)),some (.int nb),some (.int cP),some (.af (au l')),some (.af (fW.map (aW t.ah))),some (.af (dH.map (aW t.ah))),some (.ref bl),some (.int i),iM,cE,cK,cL,fu,jG] H'):
 bO G (n+5) zf K E [some (.ref we),some (.int (if t.ah then 1 else 0)),some (cC t),some (.af (au sl)),some (.int nb),some (.int cP),some (.af (au l)),some (.af (fW.map (aW t.ah))),some (.af (dH.map (aW t.ah))),some (.ref bl),some (.int i),iM,cE,cK,cL,fu,jG] H:=by
 have cont:∀{H1:WH} {ra:Nat} {aD:List bq} {l2:List Int},BD we ra t.ah sl.length aD H H1->H ra=none->aD.length<=15->Kn t l2->l2.length<=l.length+10->bO G (n+5) (zf.drop 1) K E [some (.ref we),some (.int (if t.ah then 1 else 0)),some (cC t),some (.af (au sl)),some (.int nb),some (.int cP),some (.af (au l)),some (.af (fW.map (aW t.ah))),some (.af (dH.map (aW t.ah))),some (.ref bl),some (.int i),some (.ref ra),some (.af (au l2)),cK,cL,fu,jG] H1:=λ{H1 ra aD l2} b lF fB k2 hl2=>by
  obtain ⟨w1,r1,f1,Cu,ne1⟩:=b
  have hbr:bl≠ra:=λq=>by rw [q,lF] at fH;cases fH
  have fin:∀{H2:WH} {e:List bq} {cK cL fu:Option W},uD sl.length nb e->Well H2 we->gc we H1 H2->bO G (n+5) (zf.drop 4) K E [some (.ref we),some (.int (if t.ah then 1 else 0)),some (cC t),some (.af (au sl)),some (.int nb),some (.int cP),some (.af (au l)),some (.af (fW.map (aW t.ah))),some (.af (dH.map (aW t.ah))),some (.ref bl),some (.int i),some (.ref ra),some (.af (au l2)),cK,cL,fu,some (.af (e.map (aW t.ah)))] H2:=λ{H2 e cK cL fu} he w2 o2=>by
   have e1:H2 bl=some (.list (eZ.map (fk t.ah))):=(o2 bl lG).trans ((f1 bl lG hbr).trans fH)
   refine Vl (ns:=sl.length) (nb:=nb) e1 ((o2 ra ne1.symm).trans r1) ⟨iR,fB,he.len,by lia⟩ λl' b hb i9=>hq _ l' b _ _ _ _ _ _ (by rcases i9 with rfl|rfl;exact hk;exact k2) (by rcases i9 with rfl|rfl<;>lia) ?_ (w2.old lG _) (aN ..) λa ha hn=>?_
   ·rw [hb]
    refine QJ (λins hm=>?_) ?_ he
    ·rcases List.mem_append.mp hm with h|h
     ·split at h
      ·exact De ins h
      ·cases h
     ·exact Cu ins h
    ·rw [List.length_append]
     split
     ·lia
     ·show 0+aD.length<=90;lia
   ·have n1:a≠we:=λq=>hn (q▸.head _)
    have n2:a≠bl:=λq=>hn (q▸.tail _ (.head _))
    exact (aL _ _ _ n2).trans ((o2 a n1).trans (f1 a n1 λq=>ha (q▸lF)))
  have hfk:j9 [W.aj (pZ (iS false)),.aj (pZ (iS true))] (if t.ah then 1 else 0)=some (.aj (pZ (iS t.ah))):=by cases t.ah<;>rfl
  refine bI (λh=>?_) λh=>?_
  ·have h:(i:Int)<nb-1:=h
   refine cG (n:=n+4) pg w1 (by decide) λH2 v v0 v1 w2 o2=>bT h (cG (n:=n+4) pg w2 (by lia) λH3 gg g0 g1 w3 o3=>?_)
   obtain ⟨gk,rfl⟩:=Int.eq_ofNat_of_zero_le g0
   refine bI (λhv=>?_) λhv=>bI (λDc=>?_) λDc=>?_
   ·refine ia hfk (cG (n:=n+4) pg w3 (by decide) λH4 z z0 z1 w4 o4=>?_)
    obtain ⟨k,w,LO,ek⟩:=Zf (ah:=t.ah) z0 z1
    refine ia ek (.inl (l8 (n:=n+3) pg w4 k2.ne k2.rg λH5 x hx w5 o5=>l8 (n:=n+3) pg w5 k2.ne k2.rg λH6 y hy w6 o6=>bI (λh0=>?_) λh0=>?_))
    ·exact rd (v:=.int ((i+1:Nat):Int)) rfl (rd (v:=.int gk) rfl (fin (e:=[.br k x y (i+1) gk]) (AG ⟨LO,hx,hy,by lia,by lia⟩ rfl) w6 ((((o2.tr o3).tr o4).tr o5).tr o6)))
    ·exact rd (v:=.int gk) rfl (rd (v:=.int ((i+1:Nat):Int)) rfl (fin (e:=[.br k x y gk (i+1)]) (AG ⟨LO,hx,hy,by lia,by lia⟩ rfl) w6 ((((o2.tr o3).tr o4).tr o5).tr o6)))
   ·exact .inl (.inl (rd (v:=.int ((i+1:Nat):Int)) rfl (fin (e:=[.j (i+1)]) (AG (show i+1<nb by lia) rfl) w3 (o2.tr o3))))
   ·exact IM (n:=n+3) (nb:=nb) pg w3 k2 hlo gr λH4 e he w4 o4=>fin he w4 ((o2.tr o3).tr o4)
  ·exact bF h (.inl (bF (by decide) (bF (by decide) (IM (n:=n+3) (nb:=nb) pg w1 k2 hlo gr λH4 e he w4 o4=>fin he w4 o4))))
 refine bI (λh=>?_) λh=>?_
 ·exact cG (n:=n+4) pg hw (by decide) λH1 v v0 v1 w1 o1=>HU (n:=n) pg w1 hk d8 hh ⟨v0,by lia⟩ (by lia) λH2 ra aD l2 b lF fB k2 hl2=>by
   have hwr:ra≠we:=w1.ne lF
   exact cont (match b with|⟨w,r,k,ok,ne⟩=>⟨w,r,λa h1 h2=>(k a h1 h2).trans (o1 a h1),ok,ne⟩) ((o1 ra hwr).symm.trans lF) fB k2 hl2
 ·exact cG (n:=n+4) pg hw (by decide) λH1 v v0 v1 w1 o1=>HU (n:=n) pg w1 hk d8 hh ⟨v0,by lia⟩ (by lia) λH2 ra aD l2 b lF fB k2 hl2=>by
   have hwr:ra≠we:=w1.ne lF
   exact cont (match b with|⟨w,r,k,ok,ne⟩=>⟨w,r,λa h1 h2=>(k a h1 h2).trans (o1 a h1),ok,ne⟩) ((o1 ra hwr).symm.trans lF) fB k2 hl2
end
section
variable{G:Gx}{n:Nat}{E:Nat->WH->Prop}{H H0 H1:WH}{we:Nat}{t:aJ}{Q:W->WH->Prop}
theorem kn0(t:aJ):((au t.args).take 2++(au t.bh).take 2)++[.int 0]=au (t.args.take 2++t.bh.take 2++[0])/\Kn t (t.args.take 2++t.bh.take 2++[0])/\((au t.args).take 2++(au t.bh).take 2)++[]=au (t.args.take 2++t.bh.take 2)/\Kn t (t.args.take 2++t.bh.take 2)/\(t.args.take 2++t.bh.take 2).length=4:=by
 unfold aJ.args aJ.bh
 cases h:t.ah
 ·exact ⟨rfl,⟨by unfold aJ.k0;rw [h];decide,by unfold Rg;decide⟩,rfl,⟨by unfold aJ.k0;rw [h];decide,by unfold Rg;decide⟩,rfl⟩
 ·exact ⟨rfl,⟨by unfold aJ.k0;rw [h];decide,by unfold Rg;decide⟩,rfl,⟨by unfold aJ.k0;rw [h];decide,by unfold Rg;decide⟩,rfl⟩
theorem HV(t:aJ):(au t.bh)[0]?=some (.int t.k0)/\Rg t.k0:=by
 unfold aJ.bh aJ.k0 Rg;cases t.ah<;>exact ⟨rfl,by decide⟩
inductive JF(t:aJ)(we:Nat)(H:WH)(ns nb bl:Nat)(f:List Int->Option W->Option W->Option W->Option W->Option W->Option W->Option W->WM)(i:Nat):WM->WH->Prop
 |mk (H5:WH) (l:List Int) (eZ:List (List bq)) (mw iM cE cK cL fu jG:Option W) (k:Kn t l) (hl:l.length<=5+10*i) (bk:eZ.length=i) (bw:∀b∈eZ,wY ns nb b) (w:Well H5 we) (b5:H5 bl=some (.list (eZ.map (fk t.ah)))) (f5:Fr [we] H H5):JF t we H ns nb bl f i (f l mw iM cE cK cL fu jG) H5
theorem EH(pg:aP G)(hw:Well H we)
 (hq:∀H' fn,fn.wf->Well H' we->Fr [we] H H'->Q (pY t.ah fn) H'):WV G (n+6) 567 [.ref we,.int (if t.ah then 1 else 0),cC t] Q E H:=by
 refine .gh (aF pg pg.XY rfl (cG (n:=n+4) pg hw (by decide) λH1 v v0 v1 w1 o1=>⟨⟨by lia,by lia⟩,QK (n:=n+4) pg w1 rfl ⟨v0,by lia⟩ λH2 sl d8 hsv w2 o2=>cG (n:=n+4) pg w2 (by decide) λH3 m m0 m1 w3 o3=>?_⟩))
 have o3:=(o1.tr o2).tr o3
 have IP:∀{H4:WH} {cP:Int} {l:List Int} {fW dH:List bq},Well H4 we->gc we H H4->cP<100->Kn t l->l.length<=5->(∀ins∈fW,mX sl.length ins)->fW.length<=1->(∀ins∈dH,mX sl.length ins)->dH.length<=1->
  bO G (n+5) (rF.drop 5) (kF (GQ Q)) E [some (.ref we),some (.int (if t.ah then 1 else 0)),some (cC t),some (.af (au sl)),some (.int (1+m)),some (.int cP),some (.af (au l)),some (.af (fW.map (aW t.ah))),some (.af (dH.map (aW t.ah))),none,none,none,none,none,none,none,none] H4:=λ{H4 cP l fW dH} w4 o4 hh hk hl De iR hlo gr=>by
  obtain ⟨mk,rfl⟩:=Int.eq_ofNat_of_zero_le m0
  refine .inr λbl fH=>?_
  have lG:bl≠we:=w4.ne fH
  have fQ:H bl=none:=(o4 bl lG).symm.trans fH
  refine ⟨⟨by lia,by lia⟩,JF t we H sl.length (1+mk) bl (λl' mw iM cE cK cL fu jG=>[some (.ref we),some (.int (if t.ah then 1 else 0)),some (cC t),some (.af (au sl)),some (.int (1+(mk:Int))),some (.int cP),some (.af (au l')),some (.af (fW.map (aW t.ah))),some (.af (dH.map (aW t.ah))),some (.ref bl),mw,iM,cE,cK,cL,fu,jG]),
   .mk _ l [] _ _ _ _ _ _ _ hk (by lia) rfl (λb hb=>(by cases hb)) (w4.old lG _) (aN ..) (o4.fr.tr (.new fH _)),λi d mm H5 hi e=>?_,λmm H5 e=>?_⟩
  ·obtain ⟨rfl,bJ⟩:=WS.kU hi
   induction e with|mk H5 l' eZ mw iM cE cK cL fu jG k5 l5 bk bw w5 b5 f5=>
   have j3:i<1+mk:=by have:i<(1+(mk:Int)).toNat:=bJ;lia
   have e1:(1+(mk:Int))=((1+mk:Nat):Int):=by lia
   rw [e1]
   refine Vm (n:=n) pg w5 k5 (by lia) d8 hh De iR hlo gr b5 lG bk j3 (by lia) λH6 l6 b iM cE cK cL fu jG k6 l6' bw6 w6 b6 f6=>⟨_,.rf,.mk _ l6 (eZ++[b]) _ _ _ _ _ _ _ k6 (by lia) (by rw [List.length_append,bk];rfl) (λx hx=>?_) w6 b6 (f5.trans f6 λa ha=>?_)⟩
   ·rcases List.mem_append.mp hx with h|h
    ·exact bw x h
    ·rw [List.mem_singleton.mp h];exact bw6
   ·rcases List.mem_cons.mp ha with h|h
    ·exact .inl (h▸.head _)
    ·exact .inr (List.mem_singleton.mp h▸fQ)
  ·induction e with|mk H5 l' eZ mw iM cE cK cL fu jG k5 l5 bk bw w5 b5 f5=>
   have bk:eZ.length=(1+(mk:Int)).toNat:=bk
   refine ⟨_,_,SD (vs:=[.af (au sl),.ref bl]) 1 b5 (by rw [List.length_map];lia) rfl,hq _ ⟨sl,eZ⟩ ⟨⟨d8,hsv⟩,⟨λq=>by have q:eZ=[]:=q;rw [q] at bk;have:0=(1+(mk:Int)).toNat:=bk;lia,by show eZ.length<=3;lia⟩,λb hb=>?_⟩ (w5.aV lG) λa ha hn=>?_⟩
   ·have:=bw b hb
    have e2:1+mk=eZ.length:=by lia
    rw [e2] at this;exact this
   ·have n2:a≠bl:=λq=>ha (q▸fQ)
    exact (if_neg n2).trans (f5 a ha hn)
 have IQ:∀{H4:WH} {cP:Int} {l:List Int},Well H4 we->gc we H H4->-1<=cP/\cP<100->Kn t l->l.length<=5->
  bO G (n+5) (rF.drop 3) (kF (GQ Q)) E [some (.ref we),some (.int (if t.ah then 1 else 0)),some (cC t),some (.af (au sl)),some (.int (1+m)),some (.int cP),some (.af (au l)),none,none,none,none,none,none,none,none,none,none] H4:=λ{H4 cP l} w4 o4 hh hk hl=>by
  refine bI (λh=>bT h (IP (fW:=[.mv 70 cP]) (dH:=[.mv cP 70]) w4 o4 hh.2 hk hl (λins hi=>?_) (Nat.le_refl _) (λins hi=>?_) (Nat.le_refl _))) λh=>.inl (bF h (.inl (IP (fW:=[]) (dH:=[]) w4 o4 hh.2 hk hl (λins hi=>(by cases hi)) (Nat.zero_le _) (λins hi=>(by cases hi)) (Nat.zero_le _))))
  ·rw [List.mem_singleton.mp hi];exact ⟨rfl,λnb=>⟨⟨by decide,by decide⟩,⟨h,hh.2⟩⟩⟩
  ·rw [List.mem_singleton.mp hi];exact ⟨rfl,λnb=>⟨⟨h,hh.2⟩,⟨by decide,by decide⟩⟩⟩
 have rest:∀{H4:WH} {cP:Int},Well H4 we->gc we H H4->-1<=cP/\cP<100->
  bO G (n+5) (rF.drop 2) (kF (GQ Q)) E [some (.ref we),some (.int (if t.ah then 1 else 0)),some (cC t),some (.af (au sl)),some (.int (1+m)),some (.int cP),none,none,none,none,none,none,none,none,none,none,none] H4:=λ{H4 cP} w4 o4 hh=>by
  obtain ⟨k1,k2,k3,k4,k5⟩:=kn0 t
  have l1:((au t.args).take 2++(au t.bh).take 2).length<=4:=by rw [List.length_append];exact Nat.add_le_add (List.length_take_le ..) (List.length_take_le ..)
  refine ⟨by decide,by decide,Nat.le_trans (Nat.add_le_add (List.length_take_le ..) (List.length_take_le ..)) (by decide),bI (λh=>⟨Nat.le_trans (Nat.add_le_add l1 (Nat.le_refl 1)) (by decide),?_⟩) λh=>.inl ⟨Nat.le_trans (Nat.add_le_add l1 (Nat.le_refl 0)) (by decide),?_⟩⟩
  ·rw [k1];exact IQ w4 o4 hh k2 (by rw [List.length_append,k5];exact Nat.le_refl _)
  ·rw [k3];exact IQ w4 o4 hh k4 (by lia)
 refine cG (n:=n+4) pg w3 (by decide) λH4 z z0 z1 w4 o4=>bI (λh=>rd (HV t).1 (rest w4 (o3.tr o4) ?_)) λh=>rest w4 (o3.tr o4) (by decide)
 have:=(HV t).2
 exact ⟨by have:=this.1;lia,this.2⟩
end
section
variable{G:Gx}{n:Nat}{E:Nat->WH->Prop}{H H0 H1:WH}{Q:W->WH->Prop}{ah:Bool}
theorem WR.re{Z S:AH}{a:Nat}{o o':WO}{so:AO}(r:WR Z S H)(e:H a=some o)(hs:S a=some so)(ho:OR Z so o'):WR Z S (H.ai a o'):=⟨r.z,r.g,λb p hp=>by
 by_cases q:b=a
 ·subst q
  have hp:(if b=b then some o' else H b)=some p:=hp
  rw [if_pos rfl] at hp
  obtain rfl:=Option.some.inj hp
  exact ⟨(r.h _ _ e).1,so,hs,ho⟩
 ·rw [aL _ _ _ q] at hp;exact r.h b p hp⟩
theorem QL{bl x:Nat}{C:Cl}{ks:List (List Nat)}{vs xs:List W}(hb:H bl=some (.list (xs++[.ref x])))(hx:H x=some (.inst C.num ks vs))(hn:bl≠x):GH H ((H.aV x).ai bl (.list (xs++[.ins C ks vs]))):=λZ S r=>by
 obtain ⟨l,e2,dl⟩:=r.list hb
 obtain ⟨kvs,e3,hk,d3⟩:=r.inst hx
 obtain ⟨z,r2⟩:=r.uf e3 (r.h _ _ hx).1
 have s9:(H.aV x) bl=some (.list (xs++[.ref x])):=(if_neg hn).trans hb
 refine ⟨_,z,r2.re s9 e2 ⟨l,rfl,?_⟩⟩
 have:=dl.re (i:=xs.length) z (Dp.xA (cR ..) hk (d3.aY z)) (by rw [List.getElem?_append_right (Nat.le_refl _),Nat.sub_self];rfl)
 rw [List.set_append_right _ _ (Nat.le_refl _),Nat.sub_self] at this
 exact this
theorem GT.tr{d d' LP:W}{H H' iK:WH}(a:GT d H d' H')(b:GT d' H' LP iK):GT d H LP iK:=λZ S v r dp=>by
 obtain ⟨Z1,z1,r1,dp1⟩:=a Z S v r dp
 obtain ⟨Z2,z2,r2,CS⟩:=b Z1 S v r1 dp1
 exact ⟨Z2,z1.tr z2,r2,CS⟩
theorem QM{x:Nat}{C:Cl}{ks:List (List Nat)}{vs:List W}(hx:H x=some (.inst C.num ks vs)):GT (.ref x) H (.ins C ks vs) (H.aV x):=λZ S v r dp=>by
 obtain ⟨kvs,e3,hk,d3⟩:=r.inst hx
 obtain ⟨z,r2⟩:=r.uf e3 (r.h _ _ hx).1
 exact ⟨_,z,r2,by rw [dp.A5];exact Dp.xA (cR ..) hk (d3.aY z)⟩
noncomputable def rz:List (List Nat):=[[110,117,109,98,101,114],[114,111,119,115],[102,111,108,108,111,119,101,114,115]]
theorem Nj(pg:aP G){x:Nat}{a b c d:W}(hx:H x=some (.inst 117 [] []))(hq:Q .aZ (H.ai x (.inst 117 qG [a,b,c,d]))):WV G (n+1) 107 [.ref x,a,b,c,d] Q E H:=
 aF pg pg.Xo rfl (rd hx (rd (aN ..) (rd (aN ..) (rd (aN ..) (dN (K:=Q .aZ) (by rw [cg,cg,cg];rfl) hq)))))
theorem Mj(pg:aP G){x:Nat}{a:W}(hx:H x=some (.inst 138 [] []))(hq:Q .aZ (H.ai x (.inst 138 rz [a,.af [],.af []]))):WV G (n+1) 135 [.ref x,a] Q E H:=
 aF pg pg.Xp rfl (rd hx (.inl (rd (aN ..) (.inl (rd (aN ..) (dN (K:=Q .aZ) (by rw [cg,cg];rfl) hq))))))
theorem N9{ah:Bool}{ns nb:Nat}{ins:bq}(h:ins.wf ns nb):(gp ah ins).aH.length<=2/\(gp ah ins).ins.length<=2:=by
 induction ins with
 |call aH a b nm=>exact ⟨Nat.le_trans h.1 (by decide),Nat.le_refl _⟩
 |ret v=>exact ⟨Nat.zero_le _,Nat.le_trans h.1 (by decide)⟩
 |_=>exact ⟨Nat.le_of_ble_eq_true rfl,Nat.le_of_ble_eq_true rfl⟩
theorem O2(pg:aP G){aD:List bq}{m:WM}{QX:W->WM->WH->Prop}{ns nb:Nat}(hl:aD.length<=1000)(hw:∀ins∈aD,ins.wf ns nb)(hq:QX (.af (aD.map (fO ah))) m H):
 ∀D,H D=none->oW (ji m []) λvs=>WL (.l (aD.map (aW ah))) (jz (gH G (n+2) (.aj [(.nm 0),(.nm 1),(.nm 2),(.nm 3)])) E) (pQ (je G (n+2) []) E) (pR (nO G (n+2) (.elt (.call (.cls 117 107) [(.aa 0),(.call (.bi .list) [(.aa 1)]),(.call (.bi .list) [(.aa 2)]),(.aa 3)]))) D E) (sO D QX m) (List.replicate 4 none++vs.map some) (H.ai D (.list [])):=λD hD=>by
 refine ia (v:=[]) (by unfold ji;rfl) ⟨λi=>J4 (λu v w z=>[u,v,w,z]) (λH1=>H1=H.ai D (.list ((aD.take i).map (fO ah)))),⟨_,_,_,_,rfl,rfl⟩,λi d m' H1 hi=>j4 λu v w z H2 e=>?_,λm' H1=>j4 λu v w z H2 e=>?_⟩
 ·have hi:(aD.map (aW ah))[i]?=some d:=hi
  rw [List.getElem?_map] at hi
  obtain ⟨ins,i8,rfl⟩:=Option.map_eq_some_iff.mp hi
  obtain ⟨s1,s2⟩:=N9 (ah:=ah) (hw ins (List.mem_of_getElem? i8))
  have l1:(au (gp ah ins).aH).length<=1000000:=by unfold au;rw [List.length_map];lia
  have l2:(au (gp ah ins).ins).length<=1000000:=by unfold au;rw [List.length_map];lia
  have e1:H2 D=some (.list ((aD.take i).map (fO ah))):=by rw [e,aN]
  refine ⟨l1,.inl ⟨l2,.inl λx hx=>Nj (n:=n) pg (aN ..) ⟨rfl,.ins (.n 117) _ _ (aN ..) ?_⟩⟩⟩
  rw [cg,iu hx]
  refine rd e1 ⟨by rw [List.length_map,List.length_take];lia,_,_,_,_,rfl,?_⟩
  rw [e,cg,List.take_add_one,i8,List.map_append];rfl
 ·have hlen:(WS.l (aD.map (aW ah))).len=aD.length:=List.length_map ..
  rw [hlen,List.take_length] at e
  have e1:H2 D=some (.list (aD.map (fO ah))):=by rw [e,aN]
  have hd:H2.aV D=H:=by rw [e,iu hD]
  refine rd e1 ⟨by rw [List.length_map];lia,.inl ?_⟩
  rw [hd];exact hq
theorem E1(ah:Bool):∀(l:List (List bq)) (k:Nat) (b:List bq),gB ah k (l++[b])=gB ah k l++[.ins (.n 138) rz [.int ((k+l.length:Nat):Int),.af (b.map (fO ah)),.af []]]
 |[],k,b=>rfl
 |c::l,k,b=>by
  have:=E1 ah l (k+1) b
  rw [show k+1+l.length=k+(c::l).length by rw [List.length_cons];lia] at this
  exact congrArg _ this
theorem Ah(ah:Bool):∀(l:List (List bq)) (k:Nat),(gB ah k l).length=l.length
 |[],k=>rfl
 |c::l,k=>congrArg (·+1) (Ah ah l (k+1))
theorem Mr(pg:aP G){x:Nat}{nm:List Nat}(hx:H x=some (.inst 180 [] []))
 (hq:∀bl sl H',H' x=some (.inst 180 pT [.str nm,.af [],.ref bl,.ref sl,.int 64])->H' bl=some (.list [])->H' sl=some (.list [])->H bl=none->H sl=none->bl≠sl->bl≠x->sl≠x->(∀a,a≠x->a≠bl->a≠sl->H' a=H a)->Q .aZ H'):WV G (n+1) 156 [.ref x,.str nm] Q E H:=by
 refine aF pg pg.Xq rfl (rd hx (.inl (rd (aN ..) (.inr λbl fH=>?_))))
 have b1:bl≠x:=λq=>by rw [q,aN] at fH;cases fH
 have b2:H bl=none:=by rw [aL _ _ _ b1,aL _ _ _ b1] at fH;exact fH
 refine rd ((aL _ _ _ b1.symm).trans (aN ..)) (.inr λsl d8=>?_)
 have s1:sl≠x:=λq=>by rw [q,aN] at d8;cases d8
 have s2:sl≠bl:=λq=>by rw [q,aL _ _ _ b1,aN] at d8;cases d8
 have s3:H sl=none:=by rw [aL _ _ _ s1,aL _ _ _ s2,aL _ _ _ s1,aL _ _ _ s1] at d8;exact d8
 refine rd ((aL _ _ _ s1.symm).trans (aN ..)) (rd (aN ..) (hq bl sl _ (aN ..) ?_ ?_ b2 s3 s2.symm b1 s1 λa h1 h2 h3=>?_))
 ·rw [aL _ _ _ b1,aL _ _ _ b1,aL _ _ _ s2.symm,aL _ _ _ b1,aN]
 ·rw [aL _ _ _ s1,aL _ _ _ s1,aN]
 ·rw [aL _ _ _ h1,aL _ _ _ h1,aL _ _ _ h3,aL _ _ _ h1,aL _ _ _ h2,aL _ _ _ h1,aL _ _ _ h1]
theorem Nk(pg:aP G){f bl sl:Nat}{nm:List Nat}{xs:List W}{v:W}(hf:H f=some (.inst 180 pT [.str nm,.af [],.ref bl,.ref sl,.int 64]))(hs:H sl=some (.list xs))(hn:f≠sl)(hl:xs.length<=1000)(hq:∀w,Q w (H.ai sl (.list (xs++[v])))):WV G (n+1) 170 [.ref f,v] Q E H:=
 aF pg pg.Xr rfl (rd hf (rd hs (rd hs ⟨by lia,rd ((aL _ _ _ hn).trans hf) (rd (aN ..) ⟨by rw [List.length_append,List.length_singleton];lia,hq _⟩)⟩)))
theorem MR(pg:aP G){f bl sl:Nat}{nm:List Nat}{xs:List W}(hf:H f=some (.inst 180 pT [.str nm,.af [],.ref bl,.ref sl,.int 64]))(hb:H bl=some (.list xs))(hn:f≠bl)(hl:xs.length<=1000)
 (hq:∀x,H x=none->Q (.ref x) ((H.ai x (.inst 138 rz [.int xs.length,.af [],.af []])).ai bl (.list (xs++[.ref x])))):WV G (n+3) 177 [.ref f] Q E H:=by
 refine aF pg pg.Xs rfl (rd hf (rd hb ⟨by lia,λx hx=>Mj (n:=n) pg (aN ..) ⟨rfl,.keep ?_⟩⟩))
 have fx:f≠x:=λq=>by rw [<-q,hf] at hx;cases hx
 have bx:bl≠x:=λq=>by rw [<-q,hb] at hx;cases hx
 have s9:((H.ai x (.inst 138 [] [])).ai x (.inst 138 rz [.int xs.length,.af [],.af []])) bl=some (.list xs):=(aL _ _ _ bx).trans ((aL _ _ _ bx).trans hb)
 refine rd ((aL _ _ _ fx).trans ((aL _ _ _ fx).trans hf)) (rd s9 (rd s9 ⟨by lia,?_⟩))
 have:=hq x hx
 rw [<-cg H x (.inst 138 [] [])] at this
 exact this
structure MI(H:WH)(f bl sl:Nat)(nm:List Nat)(bs ss:List W)(H2:WH):Prop where
 a:H2 f=some (.inst 180 pT [.str nm,.af [],.ref bl,.ref sl,.int 64])
 b:H2 bl=some (.list bs)
 c:H2 sl=some (.list ss)
 d:∀a,a≠f->a≠bl->a≠sl->H2 a=H a
theorem GZ(pg:aP G){nm:List Nat}{fn:Fn}(bV:fn.wf)(hq:Q (dc ah nm fn) H):WV G (n+4) 641 [.str nm,pY ah fn] Q E H:=by
 refine .gh (aF pg pg.X6 rfl λf hf=>Mr (n:=n+1) pg (aN ..) λbl sl H1 e1 e2 e3 b0 s0 zg tM vY hfr=>⟨rfl,.keep ?_⟩)
 have b0:H bl=none:=by rw [aL _ _ _ tM] at b0;exact b0
 have s0:H sl=none:=by rw [aL _ _ _ vY] at s0;exact s0
 have hfr:∀a,a≠f->a≠bl->a≠sl->H1 a=H a:=λa h1 h2 h3=>(hfr a h1 h2 h3).trans (aL _ _ _ h1)
 have fR:=bV.slots.1
 have hb3:=bV.bD.2
 refine ⟨λi=>J1 (λu=>[some (.str nm),some (pY ah fn),some (.af (au fn.slots)),some (.af (fn.bD.map (fk ah))),some (.ref f),u,none,none]) (MI H f bl sl nm [] (au (fn.slots.take i))),⟨_,rfl,e1,e2,e3,hfr⟩,λi d m H2 hi=>j1 λu H3 e=>?_,λm H2=>j1 λu H3 e=>?_⟩
 ·obtain ⟨x,rfl,hx⟩:=jf hi
  obtain ⟨g1,g2,g3,g4⟩:=e
  refine rd g1 (Nk (n:=n+2) pg g1 g3 vY.symm (by unfold au;rw [List.length_map,List.length_take];lia) λw=>⟨_,.rf,_,rfl,(aL _ _ _ vY.symm).trans g1,(aL _ _ _ zg).trans g2,?_,λa h1 h2 h3=>(aL _ _ _ h3).trans (g4 a h1 h2 h3)⟩)
  rw [aN,List.take_add_one,hx,lJ];rfl
 obtain ⟨g1,g2,g3,g4⟩:=e
 rw [List.take_of_length_le (kB fn.slots)] at g3
 refine ⟨λi=>J2 (λv w=>[some (.str nm),some (pY ah fn),some (.af (au fn.slots)),some (.af (fn.bD.map (fk ah))),some (.ref f),u,v,w]) (MI H f bl sl nm (gB ah 0 (fn.bD.take i)) (au fn.slots)),⟨_,_,rfl,g1,g2,g3,g4⟩,λi d m H2 hi=>j2 λv w H4 e=>?_,λm H2 hj=>?_⟩
 ·have hi:(fn.bD.map (fk ah))[i]?=some d:=hi
  rw [List.getElem?_map] at hi
  obtain ⟨b,hb,rfl⟩:=Option.map_eq_some_iff.mp hi
  obtain ⟨g1,g2,g3,g4⟩:=e
  have hlt:=(List.getElem?_eq_some_iff.mp hb).1
  have lG:=bV.aD b (List.mem_of_getElem? hb)
  have hlb:(gB ah 0 (fn.bD.take i)).length=i:=by rw [Ah,List.length_take];lia
  refine rd g1 (MR (n:=n) pg g1 g2 tM.symm (by lia) λx hx=>?_)
  have xf:x≠f:=λq=>by rw [q,g1] at hx;cases hx
  have xb:x≠bl:=λq=>by rw [q,g2] at hx;cases hx
  have xs:x≠sl:=λq=>by rw [q,g3] at hx;cases hx
  have ex:((H4.ai x (.inst 138 rz [.int (gB ah 0 (fn.bD.take i)).length,.af [],.af []])).ai bl (.list (gB ah 0 (fn.bD.take i)++[.ref x]))) x=some (.inst 138 rz [.int (gB ah 0 (fn.bD.take i)).length,.af [],.af []]):=(aL _ _ _ xb).trans (aN ..)
  refine O2 (n:=n+1) pg (ah:=ah) (aD:=b) (ns:=fn.slots.length) (nb:=fn.bD.length) (by have:=lG.2.1;lia) lG.2.2.1 (rd ex ?_)
  refine ⟨_,QL (bl:=bl) (x:=x) (C:=.n 138) (ks:=rz) (vs:=[.int (gB ah 0 (fn.bD.take i)).length,.af (b.map (fO ah)),.af []]) (xs:=gB ah 0 (fn.bD.take i)) ((aL _ _ _ xb.symm).trans (aN ..)) (aN ..) xb.symm,_,_,rfl,?_,?_,?_,λa h1 h2 h3=>?_⟩
  ·rw [aL _ _ _ tM.symm];show (if f=x then none else _)=_
   rw [if_neg xf.symm,aL _ _ _ xf.symm,aL _ _ _ tM.symm,aL _ _ _ xf.symm];exact g1
  ·rw [aN,List.take_add_one,hb]
   show _=some (WO.list (gB ah 0 (fn.bD.take i++[b])))
   rw [E1,hlb,List.length_take,Nat.zero_add,Nat.min_eq_left (Nat.le_of_lt hlt)]
  ·rw [aL _ _ _ zg.symm];show (if sl=x then none else _)=_
   rw [if_neg xs.symm,aL _ _ _ xs.symm,aL _ _ _ zg.symm,aL _ _ _ xs.symm];exact g3
  ·rw [aL _ _ _ h2]
   show (if a=x then none else _)=_
   by_cases q:a=x
   ·rw [if_pos q,q];exact hx.symm.trans (g4 x xf xb xs)
   ·rw [if_neg q,aL _ _ _ q,aL _ _ _ h2,aL _ _ _ q];exact g4 a h1 h2 h3
 ·induction hj with|mk v w em hj=>
  subst em
  obtain ⟨g1,g2,g3,g4⟩:=hj
  have hlen:(WS.l (fn.bD.map (fk ah))).len=fn.bD.length:=List.length_map ..
  rw [hlen,List.take_length] at g2
  have hd:((((H2.ai f (.inst 180 pT [.str nm,.af [],.ref bl,.ref sl,.int 72])).aV f).aV bl).aV sl)=H:=by
   funext a
   show (if a=sl then none else if a=bl then none else if a=f then none else if a=f then _ else H2 a)=H a
   by_cases h3:a=sl
   ·rw [if_pos h3,h3,s0]
   ·by_cases h2:a=bl
    ·rw [if_neg h3,if_pos h2,h2,b0]
    ·by_cases h1:a=f
     ·rw [if_neg h3,if_neg h2,if_pos h1,h1,hf]
     ·rw [if_neg h3,if_neg h2,if_neg h1,if_neg h1];exact g4 a h1 h2 h3
  have i1:((H2.ai f (.inst 180 pT [.str nm,.af [],.ref bl,.ref sl,.int 72])).aV f) bl=some (.list (gB ah 0 fn.bD)):=(if_neg tM).trans ((aL _ _ _ tM).trans g2)
  have i2:(((H2.ai f (.inst 180 pT [.str nm,.af [],.ref bl,.ref sl,.int 72])).aV f).aV bl) sl=some (.list (au fn.slots)):=(if_neg zg.symm).trans ((if_neg vY).trans ((aL _ _ _ vY).trans g3))
  refine rd g1 ⟨_,_,((QM (C:=.n 180) (aN ..)).tr (Bb (ds:=gB ah 0 fn.bD) 2 i1 (by rw [Ah];lia) rfl)).tr (Bb (ds:=au fn.slots) 3 i2 (by unfold au;rw [List.length_map];lia) rfl),?_⟩
  exact dN (K:=Q (dc ah nm fn)) hd hq
end
section
variable{G:Gx}{n:Nat}{E:Nat->WH->Prop}{H H0 H1:WH}{Q:W->WH->Prop}
theorem IS{H:WH}{x:Nat}{a b c d e f g h i:WO}:((((((((H.ai x a).ai x b).ai x c).ai x d).ai x e).ai x f).ai x g).ai x h).ai x i=H.ai x i:=by
 rw [cg,cg,cg,cg,cg,cg,cg,cg]
theorem Oa(pg:aP G){x b:Nat}{v:List W}(hx:H x=some (.inst 414 [] []))(hv:ic ⟨false,b⟩=.ins (.tg false) vJ v)(hq:Q .aZ (H.ai x (.inst 414 vJ v))):WV G (n+1) 397 [.ref x,.int b] Q E H:=by
 cases hv
 exact aF pg pg.XK rfl (rd hx (rd (aN ..) (rd (aN ..) (rd (aN ..) (rd (aN ..) (rd (aN ..) (rd (aN ..) (rd (aN ..) (rd (aN ..) (dN (K:=Q .aZ) IS hq))))))))))
theorem Nl(pg:aP G){x b:Nat}{v:List W}(hx:H x=some (.inst 495 [] []))(hv:ic ⟨true,b⟩=.ins (.tg true) vJ v)(hq:Q .aZ (H.ai x (.inst 495 vJ v))):WV G (n+1) 464 [.ref x,.int b] Q E H:=by
 cases hv
 exact aF pg pg.XN rfl (rd hx (rd (aN ..) (rd (aN ..) (rd (aN ..) (rd (aN ..) (rd (aN ..) (rd (aN ..) (rd (aN ..) (rd (aN ..) (dN (K:=Q .aZ) IS hq))))))))))
theorem Vn{α:Type}(a b c d e f:α):[a,b,c,d,e,f].Perm [f,d,b,a,c,e]:=
 (List.perm_append_comm (l₁:=[a,b,c,d,e]) (l₂:=[f])).trans (.cons f ((List.perm_middle (l₁:=[a,b,c]) (a:=d) (l₂:=[e])).trans (.cons d (.swap b a [c,e]))))
theorem gz{K:WH->Prop}{L:List (Nat×WO)}{F:List Nat}{H0 H:WH}(l:cB H L)(k:Fr F H0 H)(h:∀H,cB H L->Fr F H0 H->K H):K H:=h H l k
theorem sa{a C:Nat}{nm:List Nat}{v:W}{k:WH->Prop}{ks:List (List Nat)}{vs:List W}{L:List (Nat×WO)}{F:List Nat}{H0 H:WH}{i:Nat}(l:cB H L)(kf:Fr F H0 H)(hF:a∈F)(e:L[i]?=some (a,.inst C ks vs))(h1:lX cy.oJ C nm=true)(h2:Nat.ble ks.length 900=true)
 (h:∀H,cB H (L.set i (a,.inst C (ee ks nm) (fC ks vs nm v)))->Fr F H0 H->k H):OS (H a) (Jr a nm v k H):=
 rd (l.aE i e) (nU h1 (nU h2 (h _ (l.bL i _ e) (kf.tr (.ai hF _)))))
theorem Mk(pg:aP G){t:aJ}{f g:Fn}{cM:KV}{x:Nat}{aG:Int}(hb:t.bits<=8)(hx:H x=some (.inst 330 [] []))(hc:cM.map (·.1)=[1,2,4])
 (hq:∀H' A,A.r=x->A.aG=aG->aK H' A ⟨t,f,g⟩ ⟨[],[],cM,5,[]⟩ []->(∀a∈fp A [],a=x\/H a=none)->H A.mf=none->Fr [x] H H'->Q .aZ H'):
 WV G (n+1) 233 [.ref x,.af [dc t.ah bH f,dc t.ah cu g],ic t,.dI cM,sQ,.ref 586,.int aG] Q E H:=by
 have l0:cB H [(x,.inst 330 [] [])]:=⟨List.nodup_cons.mpr ⟨λh=>(by cases h),List.nodup_nil⟩,λp hp=>by rw [List.mem_singleton.mp hp];exact hx⟩
 refine aF pg pg.Xx rfl (.inr λmf qa=>?_)
 have l1:=l0.new qa (.dS [] [])
 refine rd (l1.aE 1 rfl) ?_
 have l2:=l1.bL 1 (.inst 330 [[109,102,117,110,99,115]] [.ref mf]) rfl
 have k2:Fr [x] H _:=(Fr.new qa (.dS [] [])).tr (.ai (a:=x) (.head _) (.inst 330 [[109,102,117,110,99,115]] [.ref mf]))
 refine ⟨λi=>J1 (λu=>[some (.ref x),some (.af [dc t.ah bH f,dc t.ah cu g]),some (ic t),some (.dI cM),some sQ,some (.ref 586),some (.int aG),u]) (λH2=>cB H2 [(mf,.dS ([bH,cu].take i) ([dc t.ah bH f,dc t.ah cu g].take i)),(x,.inst 330 [[109,102,117,110,99,115]] [.ref mf])]/\Fr [x] H H2),⟨_,rfl,l2,k2⟩,λi d m H2 hi=>j1 λu H2 e=>?_,λm H2=>j1 λu H2 e=>?_⟩
 ·obtain ⟨l,k⟩:=e
  rcases i with _|_|i
  ·obtain rfl:=Option.some.inj hi
   exact rd (l.aE 1 rfl) (rd (l.aE 0 rfl) ⟨_,.rf,_,rfl,l.bL 0 (.dS [bH] [dc t.ah bH f]) rfl,k.trans (.ai (F:=[mf]) (.head _) _) λa ha=>.inr (List.mem_singleton.mp ha▸qa)⟩)
  ·obtain rfl:=Option.some.inj hi
   exact rd (l.aE 1 rfl) (rd (l.aE 0 rfl) ⟨_,.rf,_,rfl,l.bL 0 (.dS [bH,cu] [dc t.ah bH f,dc t.ah cu g]) rfl,k.trans (.ai (F:=[mf]) (.head _) _) λa ha=>.inr (List.mem_singleton.mp ha▸qa)⟩)
  ·cases hi
 ·obtain ⟨l,k⟩:=e
  clear l0 l1 l2 k2
  have pw:=qu hb
  have old:∀{H':WH} {a:Nat},Fr [x] H H'->H' a=none->a=x\/H a=none:=λk h=>(qo k h).imp List.mem_singleton.mp id
  have hc3:cM.length=3:=by rw [<-List.length_map (f:=(·.1)),hc];rfl
  refine sa (i:=1) l k (.head _) rfl rfl rfl λH2 l k=>⟨⟨pw.1,pw.2.1,by decide⟩,?_⟩
  refine sa (i:=1) l k (.head _) rfl rfl rfl λH2 l k mem lU=>?_
  have om:=old k lU
  refine gz (l.new lU (.dI cM)) (k.tr (.new lU _)) λH2 l k=>?_
  refine sa (i:=2) l k (.head _) rfl rfl rfl λH2 l k=>?_
  refine sa (i:=2) l k (.head _) rfl rfl rfl λH2 l k=>?_
  refine sa (i:=2) l k (.head _) rfl rfl rfl λH2 l k=>?_
  refine sa (i:=2) l k (.head _) rfl rfl rfl λH2 l k=>?_
  refine .inr λeO Ce=>?_
  have ot:=old k Ce
  refine gz (l.new Ce (.list [])) (k.tr (.new Ce _)) λH2 l k=>?_
  refine sa (i:=3) l k (.head _) rfl rfl rfl λH2 l k=>?_
  refine .inl λrg Df=>?_
  have og:=old k Df
  refine gz (l.new Df (.dI [])) (k.tr (.new Df _)) λH2 l k=>?_
  refine sa (i:=4) l k (.head _) rfl rfl rfl λH2 l k=>?_
  refine .inr λca Dg=>?_
  have oc:=old k Dg
  refine gz (l.new Dg (.list [])) (k.tr (.new Dg _)) λH2 l k=>?_
  refine sa (i:=5) l k (.head _) rfl rfl rfl λH2 l k=>?_
  refine rd (l.aE 5 rfl) (rd (l.aE 3 rfl) ⟨by lia,λns fY=>?_⟩)
  rw [hc] at fY
  have hnl:ns.length=3:=fY.length_eq
  refine ⟨by show 1+(au ns).length<=1000000;unfold au;rw [List.length_map];lia,0::ns,rfl,List.cons_ne_nil _ _,λM hM JG=>?_⟩
  have hM4:M=4:=by
   have h4:(4:Int)<=M:=JG 4 (.tail _ (fY.mem_iff.mpr (by decide)))
   rcases List.mem_cons.mp hM with h|h
   ·lia
   ·have h:=fY.mem_iff.mp h
    have:∀y∈([1,2,4]:List Int),y<=4:=by decide
    have:=this M h
    lia
  clear hM JG
  subst hM4
  refine rd (l.aE 5 rfl) ?_
  have em:(1:Int)*2^(t.bits:Int).toNat-1=t.jd-1:=by rw [Int.one_mul];rfl
  rw [em]
  exact hq _ ⟨x,mf,mem,eO,rg,ca,aG⟩ rfl rfl ⟨(l.bL 5 (.inst 330 iO (iP ⟨x,mf,mem,eO,rg,ca,aG⟩ t 5)) rfl).qD (Vn ..),rfl,λs hs=>(by cases hs)⟩ (mc (.inl rfl) (mc om (mc og (mc oc (mc ot λZaa q=>by cases q))))) qa (k.tr (.ai (.head _) _))
end
structure LB(H:WH)(we:Nat)(A:RA)(B:cO)(P:PM)(st:St)(N:Nat):Prop where
 qI:Well H we
 run:aK H A P st []
 wp:∃g ks vs,vR H B P g st ks vs
 wf:P.wf
 pX:bZ P st
 ay:st.ay=[]
 sz:st.Sz N
 rD:∀a∈[B.w,B.ce,B.tr],a∉A.mf::fp A []
 wn:we∉[B.w,B.ce,B.tr]/\we∉A.mf::fp A []
noncomputable def fP(sc:W)(we:Nat)(P:PM)(dr cl:W)(aG:Int)(r w:Nat)(cE cK cL:Option W):WM:=[some sc,some (.ref we),some (.int (if P.t.ah then 1 else 0)),some (.int P.t.bits),some (cC P.t),some (ic P.t),some dr,some cl,some sQ,some (.int aG),some (.ref r),some (.ref w),cE,cK,cL]
noncomputable def Vo:S:=match oq with|s::_=>s|[]=>.brk
section
variable{G:Gx}{n:Nat}{E:Nat->WH->Prop}{H:WH}{Q:W->WH->Prop}
theorem S8{ns:List Int}{rest:List S}{K:WF->WM->WH->Prop}{ms:WM}(hq:∀we H',Well H' we->Fr [] H H'->H we=none->bO G n rest K E (some (.af (au ns))::some (.ref we)::ms) H'):
 bO G n (Vo::rest) K E (some (.af (au ns))::none::ms) H:=by
 refine ⟨by decide,?_⟩
 rw [qg]
 refine λD hD=>⟨λi=>J1 (λu=>[u]) (λH1=>∃l:List Int,H1=H.ai D (.list (au l))/\l.length=i/\∀x∈l,0<=x/\x<2147483647),⟨_,rfl,[],rfl,rfl,λx hx=>(by cases hx)⟩,λi d m H1 hi=>j1 λu H2 e=>?_,λm H1=>j1 λu H2 e=>?_⟩
 ·obtain ⟨x,rfl,hx⟩:=jf hi
  obtain ⟨l,e,hl,hr⟩:=e
  have hlt:=(List.getElem?_eq_some_iff.mp hx).1
  rw [List.length_take] at hlt
  have hlt:i<63:=Nat.lt_of_lt_of_le hlt (Nat.min_le_left ..)
  have e1:H2 D=some (.list (au l)):=by rw [e,aN]
  refine ⟨by decide,rd e1 ⟨by unfold au;rw [List.length_map];lia,_,rfl,l++[x.fmod 2147483647],?_,by rw [List.length_append,hl];rfl,λy hy=>?_⟩⟩
  ·rw [e,cg,lJ];rfl
  ·rcases List.mem_append.mp hy with h|h
   ·exact hr y h
   ·rw [List.mem_singleton.mp h,fm x (by decide)];lia
 ·obtain ⟨l,e,hl,hr⟩:=e
  have hl2:l.length<=63:=by
   have:(WS.l (au (ns.take 63))).len=(ns.take 63).length:=by show (au _).length=_;unfold au;rw [List.length_map]
   rw [this,List.length_take] at hl;lia
  have e1:H2 D=some (.list (au l)):=by rw [e,aN]
  have hd:H2.aV D=H:=by rw [e,iu hD]
  refine rd e1 ⟨by unfold au;rw [List.length_map];lia,.inl ?_⟩
  rw [hd]
  exact λa ha=>hq a _ ⟨l,0,0,aN ..,hl2,hr,Int.le_refl _,Int.le_refl _,by decide⟩ (.new ha _) ha
end
section
variable{G:Gx}{n:Nat}{E:Nat->WH->Prop}{H:WH}{Q:W->WH->Prop}
noncomputable def Dh(ah:Bool)(f g:Fn):W:=.dS [bH,cu] [pY ah f,pY ah g]
theorem Fr.qI{F:List Nat}{H H':WH}{we:Nat}(k:Fr F H H')(w:Well H we)(hn:we∉F):Well H' we:=by
 obtain ⟨ns,p,s,e,a1,a2,a3,a4,a5⟩:=w
 exact ⟨ns,p,s,(k we (by rw [e];exact Option.some_ne_none _) hn).trans e,a1,a2,a3,a4,a5⟩
theorem sd{a:Nat}{s:List Nat}{v:W}{k:WH->Prop}{ks:List (List Nat)}{vs:List W}{L:List (Nat×WO)}{F:List Nat}{H0 H:WH}{i:Nat}(l:cB H L)(kf:Fr F H0 H)(hF:a∈F)(e:L[i]?=some (a,.dS ks vs))(h2:Nat.ble ks.length 900=true)
 (h:∀H,cB H (L.set i (a,.dS (ee ks s) (fC ks vs s v)))->Fr F H0 H->k H):OS (H a) (Js a (.str s) v k H):=
 rd (l.aE i e) (nU h2 (h _ (l.bL i _ e) (kf.tr (.ai hF _))))
theorem g3{K:WH->Prop}{L:List (Nat×WO)}{A:RA}{P:PM}{st:St}{we:Nat}{H:WH}(l:cB H L)(r:aK H A P st [])(w:Well H we)(h:∀H,cB H L->aK H A P st []->Well H we->K H):K H:=h H l r w
noncomputable def k6:List (List Nat):=[[98,105,116,115],[122,101,114,111],[107,101,112,116],[97,114,103,115],[115,112,111,105,108,101,100],[112,108,97,105,110]]
noncomputable def v6(P:PM):List W:=[.int P.t.bits,.int P.t.zero,.af (au P.t.bh),.af (au P.t.args),.af (au P.t.d9),.af (au P.t.plain)]
theorem O3(pg:aP G){we:Nat}{sc:W}{P:PM}{cM:KV}{aG:Int}{K:WF->WM->WH->Prop}(hw:Well H we)(hP:P.wf)(hc:cM.map (·.1)=[1,2,4])(hI:bZ P ⟨[],[],cM,5,[]⟩)
 (hq:∀H' A B,LB H' we A B P ⟨[],[],cM,5,[]⟩ 100->A.aG=aG->K .next (fP sc we P (Dh P.t.ah P.f P.g) (.dI cM) aG A.r B.w none none none) H'):
 bO G (n+9) ((oq.take 10).drop 7) K E [some sc,some (.ref we),some (.int (if P.t.ah then 1 else 0)),some (.int P.t.bits),some (cC P.t),some (ic P.t),some (Dh P.t.ah P.f P.g),some (.dI cM),some sQ,some (.int aG),none,none,none,none,none] H:=by
 refine λD hD=>⟨λi=>J1 (λu=>[u,some (Dh P.t.ah P.f P.g)]) (λH1=>H1=H.ai D (.list ([dc P.t.ah bH P.f,dc P.t.ah cu P.g].take i))),⟨_,rfl,rfl⟩,λi d m H1 hi=>j1 λu H1 e=>?_,λm H1=>j1 λu H1 e=>?_⟩
 ·have e1:H1 D=some (.list ([dc P.t.ah bH P.f,dc P.t.ah cu P.g].take i)):=by rw [e,aN]
  rcases i with _|_|i
  ·obtain rfl:=Option.some.inj hi
   exact GZ (n:=n+5) pg hP.f (rd e1 ⟨Nat.zero_le _,_,rfl,by rw [e,cg];rfl⟩)
  ·obtain rfl:=Option.some.inj hi
   exact GZ (n:=n+5) pg hP.g (rd e1 ⟨show 1<=1000000 by decide,_,rfl,by rw [e,cg];rfl⟩)
  ·cases hi
 have e1:H1 D=some (.list [dc P.t.ah bH P.f,dc P.t.ah cu P.g]):=by rw [e,aN];rfl
 have hd:H1.aV D=H:=by rw [e,iu hD]
 refine rd e1 ⟨show 2<=1000000 by decide,.inl ?_⟩
 rw [hd]
 clear e e1 hd
 intro x hx
 have zh:x≠we:=hw.ne hx
 refine Mk (n:=n+7) pg hP.bits.2 (aN ..) hc λH2 A hAr hAs hR LR qa hk=>⟨rfl,.keep ?_⟩
 have w1:Well (H.ai x (.inst 330 [] [])) we:=hw.old zh _
 have w2:Well H2 we:=hk.qI w1 λh=>zh (List.mem_singleton.mp h).symm
 have wnA:we∉A.mf::fp A []:=λhm=>by
  rcases List.mem_cons.mp hm with h|h
  ·exact w1.ne qa h.symm
  ·rcases LR we h with h|h
   ·exact zh h.symm
   ·exact w1.ne h rfl
 have old:∀{a:Nat} {H':WH},aK H' A P ⟨[],[],cM,5,[]⟩ []->H' a=none->a∉A.mf::fp A []:=λ{a H'} r ha hm=>by
  rcases List.mem_cons.mp hm with h|h
  ·rw [h,r.mf] at ha;cases ha
  ·exact SH r a h ha
 have hR:aK H2 A P ⟨[],[],cM,5,[]⟩ []:=hR
 clear hx zh LR qa hk w1
 subst hAr
 intro w tN ce tO
 refine .inr λtr tP=>?_
 have R1:=hR.new tN (.dS k6 (v6 P))
 have R2:=R1.new tO (.dI cM)
 have q3:=w2.old (w2.ne tN) (.dS k6 (v6 P))
 have q4:=q3.old (q3.ne tO) (.dI cM)
 have nw:=old hR tN
 have rD:∀a∈[w,ce,tr],a∉A.mf::fp A []:=mc nw (mc (old R1 tO) (mc (old R2 tP) λZaa q=>by cases q))
 have m0:we≠w:=(w2.ne tN).symm
 have wn:we∉[w,ce,tr]:=λh=>by
  rcases List.mem_cons.mp h with h|h
  ·exact m0 h
  ·rcases List.mem_cons.mp h with h|h
   ·exact q3.ne tO h.symm
   ·exact q4.ne tP (List.mem_singleton.mp h).symm
 refine g3 ((((show cB H2 [] from ⟨List.nodup_nil,λp hp=>(by cases hp)⟩).new tN (.dS k6 (v6 P))).new tO (.dI cM)).new tP (.list [])) (R2.new tP (.list [])) (q4.old (q4.ne tP) (.list [])) λH5 l r q=>?_
 clear R1 R2 q3 q4 old tP tO tN hR w2
 refine sd (i:=2) l (F:=[w]) .rf (.head _) rfl rfl λH6 l k=>?_
 refine sd (i:=2) l k (.head _) rfl rfl λH6 l k=>?_
 refine sd (i:=2) l k (.head _) rfl rfl λH6 l k=>?_
 refine sd (i:=2) l k (.head _) rfl rfl λH6 l k=>?_
 refine sd (i:=2) l k (.head _) rfl rfl λH6 l k=>?_
 exact hq _ A ⟨w,0,0,ce,tr⟩ ⟨k.qI q λh=>m0 (List.mem_singleton.mp h),r.keep k λp hp hm=>nw (List.mem_singleton.mp hm▸Bd p hp),⟨none,_,_,l.qD (List.reverse_perm [_,_,_]).symm,rfl,rfl,rfl,λa b=>rfl⟩,hP,hI,rfl,⟨Nat.zero_le _,by rw [<-List.length_map (f:=(·.1)),hc];decide,Nat.zero_le _,Nat.zero_le _,λf hf=>(by cases hf),by decide⟩,rD,wn,wnA⟩ hAs
end
section
variable{G:Gx}{n:Nat}{E:Nat->WH->Prop}{H:WH}{Q:W->WH->Prop}
theorem Zg{P:PM}(hP:P.wf){a b c:Int}(ha:Wd P.t.bits a)(hb:Wd P.t.bits b)(hc:Wd P.t.bits c):bZ P ⟨[],[],[(1,a),(2,b),(4,c)],5,[]⟩:=by
 have h8:=gA hP.bits
 refine ⟨⟨rfl,λs hs=>(by cases hs),λs hs=>(by cases hs),λx h1 h2=>?_,λk v e=>(by cases e),λk v e=>?_,?_⟩,λs hs=>(by cases hs)⟩
 ·have h2:x<5:=h2
  lia
 ·unfold KV.aE at e
  split at e
  ·obtain rfl:=Option.some.inj e;exact ha
  ·unfold KV.aE at e
   split at e
   ·obtain rfl:=Option.some.inj e;exact hb
   ·unfold KV.aE at e
    split at e
    ·obtain rfl:=Option.some.inj e;exact hc
    ·cases e
 ·show (5:Int)<=2^P.t.bits;lia
theorem QN(pg:aP G){we:Nat}{sc:W}{K:WF->WM->WH->Prop}(hw:Well H we)
 (hq:∀H' A B P cM dr aG,LB H' we A B P ⟨[],[],cM,5,[]⟩ 100->A.aG=aG->20<=aG->aG<140->K .next (fP sc we P dr (.dI cM) aG A.r B.w none none none) H'):
 bO G (n+9) ((oq.take 10).drop 1) K E [some sc,some (.ref we),none,none,none,none,none,none,none,none,none,none,none,none,none] H:=by
 refine cG (n:=n+8) pg hw (by decide) λH1 v v0 v1 w1 o1=>cG (n:=n+8) pg w1 (by decide) λH2 b b0 b1 w2 o2=>?_
 obtain ⟨bk,rfl⟩:=Int.eq_ofNat_of_zero_le b0
 obtain ⟨ah,rfl⟩:∃ah:Bool,v=if ah then 1 else 0:=by
  by_cases h:v=1
  ·exact ⟨true,h⟩
  ·exact ⟨false,by show v=0;lia⟩
 have hb:3<=3+bk/\3+bk<=8:=by lia
 refine QI (n:=n+8) (b:=3+bk) pg ah (λx hx=>Oa (n:=n+7) (b:=3+bk) pg (aN ..) rfl ⟨rfl,.ins (.tg false) _ _ (aN ..) ?_⟩)
 rw [cg,iu hx]
 intro x hx
 refine Nl (n:=n+7) (b:=3+bk) pg (aN ..) rfl ⟨rfl,.ins (.tg true) _ _ (aN ..) ?_⟩
 rw [cg,iu hx]
 have zj:j9 [ic ⟨false,3+bk⟩,ic ⟨true,3+bk⟩] (if ah then 1 else 0)=some (ic ⟨ah,3+bk⟩):=by induction ah<;>rfl
 refine ia zj ?_
 refine EH (n:=n+3) (t:=⟨ah,3+bk⟩) pg w2 λH3 f hf w3 k3=>EH (n:=n+3) (t:=⟨ah,3+bk⟩) pg w3 λH4 g hg w4 k4=>.inl ?_
 have hP:(⟨⟨ah,3+bk⟩,f,g⟩:PM).wf:=⟨hb,hf,hg⟩
 have pw:=qu (b:=3+bk) hb.2
 have h8:8<=(2:Int)^(3+bk)/\_:=gA hb
 have hp:(0:Int)<2^(3+bk):=by lia
 refine ⟨pw,cG (n:=n+8) pg w4 hp λH5 a a0 a1 w5 o5=>⟨pw,cG (n:=n+8) pg w5 hp λH6 b b0 b1 w6 o6=>⟨pw,cG (n:=n+8) pg w6 hp λH7 c c0 c1 w7 o7=>.inl (cG (n:=n+8) pg w7 (by decide) λH8 s s0 s1 w8 o8=>?_)⟩⟩⟩
 exact O3 (n:=n) (P:=⟨⟨ah,3+bk⟩,f,g⟩) (cM:=[(1,a),(2,b),(4,c)]) pg w8 hP rfl (Zg hP ⟨a0,a1⟩ ⟨b0,b1⟩ ⟨c0,c1⟩) λH' A B L hs=>hq H' A B _ _ _ _ L hs (by lia) (by lia)
end
section
set_option backward.match.sparseCases true
section
variable{G:Gx}{tb:cQ}{n:Nat}{fx:Fx}{E:Addr->AH->Prop}{m:MM}{H:AH}{Q:AF->MM->AH->Prop}{QB:Bool->MM->AH->Prop}{QX:AV->MM->AH->Prop}
noncomputable abbrev LS(G:Gx)(n:Nat)(fx:Fx)(rest:List Stmt)(Q:AF->MM->AH->Prop)(E:Addr->AH->Prop):AF->MM->AH->Prop:=vn (λm H=>AW G n fx (execs rest fx.env) RF Q E m H) Q
theorem AI{st:Stmt}{rest:List Stmt}(h:AW G n fx (exec st fx.env) RF (LS G n fx rest Q E) E m H):AW G n fx (execs (st::rest) fx.env) RF Q E m H:=wM h λZaa Zaa x=>x
theorem HW{c:CE}{ex:List Nat}(k:Ok G tb c fx)(b7:∀C∈ex,mO G C){rest:List Stmt}{gG:List Stmt}{xs:List S}(h:A2 (SS c ex) gG xs):∀{m:MM} {H:AH},iL G tb n xs (LS G n fx rest Q E) E m H->AW G n fx (execs (gG++rest) fx.env) RF Q E m H:=by
 induction h with
 |nil=>exact λhv=>hv
 |cons h1 _ ih=>
  intro m H hv
  refine AI (mK (h1 _ _ _ _ k b7 _ _ _ _ hv) (λfl m1 H1 q=>?_) λZaa Zaa q=>q)
  induction fl with
  |next=>exact ih q
  |_=>exact q
theorem Vp{test:Expr}{th el:List Stmt}{pos:Pos}(h:AW G n fx (isTrue test fx.env (eval test fx.env)) VB (λc m H=>if c=true then AW G n fx (execs th fx.env) RF Q E m H else AW G n fx (execs el fx.env) RF Q E m H) E m H):
 AW G n fx (exec (.If test th el pos) fx.env) RF Q E m H:=λb hh tk ok r=>
 wpAny_If (qm (h b hh tk ok r) (λZaa Zaa x=>x) λv h' bg m' H' y r' l q=>by
  induction l
  induction v with
  |true=>exact q b h' bg ok r'
  |false=>exact q b h' bg ok r')
theorem S9{c:CE}{l:Expr}{es:List Expr}{u:T}{pos:Pos}(k:Ok G tb c fx)(h2:pG c .Or es u)
 (h:AW G n fx (isTrue l fx.env (eval l fx.env)) VB (λc m H=>if c=true then QB true m H else vT G tb n u QB E m H) E m H):
 AW G n fx (isTrue (.BoolOp .Or (l::es) pos) fx.env (eval (.BoolOp .Or (l::es) pos) fx.env)) VB QB E m H:=by
 rw [arm_isTrue_BoolOp]
 show AW G n fx (isTrue l fx.env (eval l fx.env) >>= λt=>match BoolOp.Or,t with|.And,false=>pure false|.Or,true=>pure true|_,_=>allTrue .Or es fx.env) VB QB E m H
 refine cS h λv y m1 H1 e1 q=>?_
 induction e1
 induction v
 ·exact h2 _ _ _ _ k _ _ _ _ q
 ·exact iT rfl q
theorem QO{c:CE}{l r:Expr}{xr:X}{pos:Pos}{op:CmpOp}(k:Ok G tb c fx)(hm:behindInMarks op r=false)(h2:XS c r xr)
 (h:AW G n fx (eval l fx.env) VA (λx m H=>vX G tb n xr (λy m H=>dZ (λc=>QB c m H) H op x y) E m H) E m H):
 AW G n fx (isTrue (.Compare l [op] [r] pos) fx.env (eval (.Compare l [op] [r] pos) fx.env)) VB QB E m H:=λbb hh tk ok rr=>
 wpAny_isTrue_Compare1 (qm (h bb hh tk ok rr) (λZaa Zaa x=>x) λv j6 eg m1 H1 y r1 l1 q1=>qm (h2 _ _ _ _ k _ _ _ _ q1 bb j6 eg ok r1) (λZaa Zaa x=>x) λu pD ja m2 H2 z r2 l2 q2=>
  qm (Bo (Q:=λv m H=>Cy (λc=>QB c m H) v) l1 l2 (q2.aY λc h=>.mk h) bb pD ja ok r2) (λZaa Zaa x=>x) λv h3 sY m3 H3 z3 r3 l3 q3=>by
   induction q3 with|mk q3=>exact eB l3 (wpAny_truthy_bool (qn r3 rfl q3))) hm
theorem O4{c:CE}{F0:Nat}{y:Str}{p cp:Pos}{es:List Expr}{xs:List X}(k:Ok G tb c fx)(hn:jh y=true)(hp:es.all bR=true)(hk:c.sc.names.lookup y=some .globalImplicit)(h3:iw c.K y=some (.ref F0))(h4:uM c.K (.ref F0)=some (.fn F0))(h:A2 (XS c) es xs)
 (hv:gU G tb n xs (λys m1 H1=>∀vs,vs.map er=ys->AW G n fx (call (.ref F0) vs []) VA QX E m1 H1) E m H):AW G n fx (eval (.Call (.Name y p) es [] cp) fx.env) VA QX E m H:=by
 rw [k.ce.K] at h3 h4
 rw [arm_eval_Call_Name']
 exact qh (rl:=λa (_:Unit)=>a=Value.ref F0) (λb hh tk ok r=>t9 (uz k.ce hk) (qW hn).1 h3 ok r (qn (y:=()) r rfl λv e1=>e1▸wA hp (CV.keeps (F2 h4).2) (qk h k hp hv)))
theorem l9{α:Type}{P:α->Prop}{o:Option {x // P x}}{x:α}(h:o.map (·.1)=some x):P x:=by
 obtain ⟨y,-,rfl⟩:=Option.map_eq_some_iff.mp h
 exact y.2
end
end
noncomputable def iF:b8->List W
 |.done v _=>[.str FH,W.dG v]
 |.bG _=>[.str gv]
 |.fj _=>[.str lI]
 |.ok _=>[]
noncomputable def b8.st:b8->St
 |.done _ st=>st
 |.bG st=>st
 |.fj st=>st
 |.ok st=>st
noncomputable def Cf:b8->Bool
 |.ok _=>true
 |_=>false
inductive TQ(A:RA)(P:PM)(N:Nat)(o:b8)(H H':WH):Prop
 |mk (A':RA) (aq:List FA) (r:aK H' A' P o.st aq) (nt:uU A A' H) (k:Fr (fp A []) H H') (d:∀v ak,o=.done v ak->aq=[]/\bZ P ak/\ak.ay=[]/\ak.Sz (N+10000))
inductive WQ(B:cO)(P:PM)(N:Nat)(o:b8)(H H':WH):Prop
 |mk (B':cO) (g:Option W) (aq:List b9) (r:aO H' B' P g o.st aq) (nt:uX B B') (k:Fr [B.w,B.ce,B.tr] H H') (ok:Cf o=false) (d:∀v ak,o=.done v ak->aq=[]/\bZ P ak/\ak.ay=[]/\ak.Sz (N+10000))
noncomputable def uo:List S:=[.ret (.aj [.c (.str [118,97,108,117,101]),.aQ (.aa 0) [114,117,110] [.c (.str [102]),.aa 1]])]
section
variable{G:Gx}{n:Nat}{E:Nat->WH->Prop}{H:WH}{Q:W->WH->Prop}
theorem Tc(pg:aP G){A:RA}{P:PM}{st:St}{x y:Int}{N:Nat}{o:b8}(ho:P.run st [x,y] A.aG.toNat=o)(hP:P.wf)(HN:0<=A.aG/\A.aG<=1000)(hR:aK H A P st [])(hI:bZ P st)(hf:st.ay=[])(hsz:st.Sz N)(hN:N+20000<=900000):
 bO G (n+9) uo (λfl m H'=>fl=.ret (.aj (iF o))/\TQ A P N o H H') (λC H'=>(C=63\/C=51)/\iF o=[.str (if C=63 then gv else lI)]/\TQ A P N o H H') [some (.ref A.r),some (.af [.int x,.int y])] H:=by
 subst ho
 refine rd hR.self (Vd (n:=n) pg hP HN hR hI hf hsz hN (λH' A' ak v h nt r k i f z=>?_) (λH' A' ak bB h nt r k=>?_) λH' A' ak bB h nt r k=>?_)
 ·rw [h];exact ⟨rfl,A',[],r,nt,k,λv ak e=>by cases e;exact ⟨rfl,i,f,z⟩⟩
 ·rw [h];exact ⟨.inl rfl,rfl,A',bB,r,nt,k,λv ak e=>by cases e⟩
 ·rw [h];exact ⟨.inr rfl,rfl,A',bB,r,nt,k,λv ak e=>by cases e⟩
noncomputable def Bk:List S:=[
 (.az (.nm 13) (.af [(.call (.fn 522) [(.aa 1),(.aA .Pow (.c (.int 2)) (.aa 3))]),(.call (.fn 522) [(.aa 1),(.aA .Add (.aA .Pow (.c (.int 2)) (.aa 3)) (.c (.int 3)))])])),
 (.az (.nm 14) (.call (.fn 636) [(.aa 11),(.aa 13),(.aa 9)]))]
theorem vR.keep{H':WH}{F:List Nat}{B:cO}{P:PM}{g:Option W}{st:St}{ks:List (List Nat)}{vs:List W}(h:vR H B P g st ks vs)(k:Fr F H H')(hd:∀a∈[B.w,B.ce,B.tr],a∉F):vR H' B P g st ks vs:=⟨h.led.keep k λp hp=>hd p.1 (List.mem_map_of_mem (f:=(·.1)) hp),h.l1,h.l2,h.k,h.v⟩
theorem LB.draw{H':WH}{we:Nat}{A:RA}{B:cO}{P:PM}{st:St}{N:Nat}(h:LB H we A B P st N)(w:Well H' we)(o:gc we H H'):LB H' we A B P st N:=by
 obtain ⟨g,ks,vs,p⟩:=h.wp
 exact ⟨w,h.run.keep o.fr λp hp hm=>h.wn.2 (List.mem_singleton.mp hm▸Bd p hp),⟨g,ks,vs,p.keep o.fr λa ha hm=>h.wn.1 (List.mem_singleton.mp hm▸ha)⟩,h.wf,h.pX,h.ay,h.sz,h.rD,h.wn⟩
theorem Vq(pg:aP G){sc dr cl:W}{we:Nat}{A:RA}{B:cO}{P:PM}{st:St}{N:Nat}{aG:Nat}{cE cK cL:Option W}{K:WF->WM->WH->Prop}(hB:LB H we A B P st N)(hs:aG<=1000)(hN:N+20000<=900000)
 (hq:∀H1 H' x y,LB H1 we A B P st N->WQ B P N (P.run st [x,y] aG) H1 H'->K .next (fP sc we P dr cl aG A.r B.w cE (some (.af [.int x,.int y])) (some (.aj (iF (P.run st [x,y] aG))))) H'):
 bO G (n+10) Bk K E (fP sc we P dr cl aG A.r B.w cE cK cL) H:=by
 have pw:=qu (b:=P.t.bits) hB.wf.bits.2
 have h8:8<=(2:Int)^P.t.bits/\_:=gA hB.wf.bits
 have hp:(0:Int)<2^P.t.bits:=by lia
 refine ⟨pw,cG (n:=n+9) pg hB.qI hp λH1 x x0 x1 w1 o1=>⟨pw,cG (n:=n+9) pg w1 (by show (0:Int)<2^P.t.bits+3;lia) λH2 y y0 y1 w2 o2=>?_⟩⟩
 have B2:=(hB.draw w1 o1).draw w2 o2
 obtain ⟨g,ks,vs,p⟩:=B2.wp
 refine Vi (n:=n+3) pg B2.wf hs p B2.pX B2.ay B2.sz hN (λH' A' ak v h nt r k i f z=>?_) (λH' A' ak g' bB h nt r k=>?_) λH' A' ak g' bB h nt r k=>?_
 ·have:=hq H2 H' x y B2 (by rw [h];exact ⟨A',_,[],r,nt,k,rfl,λv ak e=>by cases e;exact ⟨rfl,i,f,z⟩⟩)
  rw [h] at this;exact this
 ·have:=hq H2 H' x y B2 (by rw [h];exact ⟨A',g',bB,r,nt,k,rfl,λv ak e=>by cases e⟩)
  rw [h] at this;exact this
 ·have:=hq H2 H' x y B2 (by rw [h];exact ⟨A',g',bB,r,nt,k,rfl,λv ak e=>by cases e⟩)
  rw [h] at this;exact this
noncomputable def BH:List S:=[
 (.aC (.cmp .NotEq (.item (.aa 14) (.c (.int 0))) (.c (.str [118,97,108,117,101]))) [
   (.ret (.c (.bool true)))] [])]
theorem Zh{o:b8}{m:WM}{K:WF->WM->WH->Prop}(hm:jV m 14=some (.aj (iF o)))(ok:Cf o=false)(h1:(∃v ak,o=.done v ak)->K .next m H)(h2:K (.ret (.dF true)) m H):bO G n BH K E m H:=by
 refine ia hm ?_
 induction o with
 |ok s=>cases ok
 |bG s=>exact h2
 |fj s=>exact h2
 |done v s=>exact h1 ⟨v,s,rfl⟩
theorem Vr(l:List (List Nat×List Int)):∀x∈l.map eE,Fl 4 x:=λx hx=>by
 obtain ⟨p,_,rfl⟩:=List.mem_map.mp hx
 refine .aj λy hy=>?_
 rcases List.mem_cons.mp hy with h|hy
 ·exact h▸.str _
 ·rw [List.mem_singleton.mp hy]
  refine .aj λz hz=>?_
  obtain ⟨i,_,rfl⟩:=List.mem_map.mp hz
  exact .int i
theorem Td(o:b8):∀x∈iF o,Fl 4 x:=λx hx=>by
 induction o with
 |ok s=>cases hx
 |bG s=>rw [List.mem_singleton.mp hx];exact .str _
 |fj s=>rw [List.mem_singleton.mp hx];exact .str _
 |done v s=>
  rcases List.mem_cons.mp hx with h|hx
  ·exact h▸.str _
  ·rw [List.mem_singleton.mp hx]
   induction v with
   |none=>exact .aZ
   |some i=>exact .int i
end
section
variable{G:Gx}{n:Nat}{H H1 H2:WH}{we:Nat}{A:RA}{B:cO}{P:PM}{st:St}{N:Nat}{o:b8}
theorem IT(hL:LB H1 we A B P st N)(hW:WQ B P N o H1 H):aK H A P st []/\Well H we:=by
 obtain ⟨B',g,aq,r,nt,k,ok,d⟩:=hW
 exact ⟨hL.run.keep k λp hp hm=>hL.rD _ hm (Bd p hp),k.qI hL.qI hL.wn.1⟩
theorem Te{ak:St}{v:Option Int}(hL:LB H1 we A B P st N)(hW:WQ B P N o H1 H)(hT:TQ A P N o H H2)(ho:o=.done v ak)(hN:N+10000<=900000):
 ∃A' B',LB H2 we A' B' P ak (N+10000)/\A'.r=A.r/\A'.aG=A.aG/\B'.w=B.w:=by
 obtain ⟨hR,hw⟩:=IT hL hW
 obtain ⟨B',g,aq,r,⟨n1,n2,n3⟩,k,ok,d⟩:=hW
 obtain ⟨A',bB,r',⟨ra,ca,rfl,h1,h2⟩,k',d'⟩:=hT
 obtain ⟨rfl,i1,f1,z1⟩:=d v ak ho
 obtain ⟨rfl,_,_,_⟩:=d' v ak ho
 subst ho
 have vZ:∀a∈[B.w,B.ce,B.tr],a∉fp A []:=λa ha hm=>hL.rD a ha (.tail _ hm)
 have al:∀a∈[B'.w,B'.ce,B'.tr],H a≠none:=λa ha q=>by
  rcases List.mem_cons.mp ha with rfl|ha
  ·rw [r.self] at q;cases q
  ·rcases List.mem_cons.mp ha with rfl|ha
   ·rw [r.mem] at q;cases q
   ·rw [List.mem_singleton.mp ha,r.eO] at q;cases q
 have l3:cB H [(B'.w,.dS (eU g) (fS B' P ak.free g)),(B'.ce,.dI ak.cells),(B'.tr,.list (ak.trace.map eE))]:=r.led.sub (.cons_cons _ (.cons_cons _ (.cons _ (.cons _ (.cons_cons _ (List.nil_sublist _))))))
 rw [n1,n2,n3] at al l3
 have nf:∀a,H a≠none->a∉A.mf::fp A []->a∉A.mf::fp {A with aB:=ra,bf:=ca} []:=λa ha hn hm=>by
  rcases List.mem_cons.mp hm with h|hm
  ·exact hn (h▸.head _)
  ·rcases List.mem_cons.mp hm with h|hm
   ·exact hn (h▸.tail _ (.head _))
   ·rcases List.mem_cons.mp hm with h|hm
    ·exact hn (h▸.tail _ (.tail _ (.head _)))
    ·rcases List.mem_cons.mp hm with h|hm
     ·exact ha (h▸h1)
     ·rcases List.mem_cons.mp hm with h|hm
      ·exact ha (h▸h2)
      ·rcases List.mem_cons.mp hm with h|hm
       ·exact hn (h▸.tail _ (.tail _ (.tail _ (.tail _ (.tail _ (.head _))))))
       ·cases hm
 have hwe:H we≠none:=by obtain ⟨_,_,_,e,_⟩:=hw;rw [e];exact Option.some_ne_none _
 refine ⟨_,B',⟨k'.qI hw λhm=>hL.wn.2 (.tail _ hm),r',⟨g,eU g,fS B' P ak.free g,?_,by clear r l3;induction g<;>rfl,by clear r l3;induction g<;>rfl,by clear r l3;induction g<;>rfl,λa b=>by clear r l3;induction g<;>rfl⟩,hL.wf,i1,f1,z1,?_,?_⟩,rfl,rfl,n1⟩
 ·rw [n1,n2,n3]
  exact l3.keep k' λp hp hm=>vZ p.1 (List.mem_map_of_mem (f:=(·.1)) hp) hm
 ·rw [n1,n2,n3]
  exact λa ha=>nf a (al a ha) (hL.rD a ha)
 ·rw [n1,n2,n3]
  exact ⟨hL.wn.1,nf we hwe hL.wn.2⟩
theorem Tf{m:WM}{K:Bool->WM->WH->Prop}{E:Nat->WH->Prop}(hL:LB H1 we A B P st N)(hW:WQ B P N o H1 H)(hT:TQ A P N o H H2)(LU:jV m 10=some (.ref A.r))(LV:jV m 11=some (.ref B.w))(hq:K false m H2):
 wT G n (.j7 (.cmp .NotEq (.attr (.aa 10) [116,114,97,99,101]) (.item (.aa 11) (.c (.str [116,114,97,99,101])))) (.cmp .NotEq (.attr (.aa 10) [109,101,109,111,114,121]) (.item (.aa 11) (.c (.str [99,101,108,108,115]))))) K E m H2:=by
 obtain ⟨B',g,aq,r,⟨n1,n2,n3⟩,k,ok,d⟩:=hW
 obtain ⟨A',bB,r',⟨ra,ca,rfl,h1,h2⟩,k',d'⟩:=hT
 have vZ:∀a∈[B.w,B.ce,B.tr],a∉fp A []:=λa ha hm=>hL.rD a ha (.tail _ hm)
 have e1:H2 B.w=some (.dS (eU g) (fS B' P o.st.free g)):=k'.at (n1▸r.self) (vZ _ (.head _))
 have e2:H2 B'.ce=some (.dI o.st.cells):=k'.at r.mem (n2▸vZ _ (.tail _ (.head _)))
 have e3:H2 B'.tr=some (.list (o.st.trace.map eE)):=k'.at r.eO (n3▸vZ _ (.tail _ (.tail _ (.head _))))
 exact ia LU (rd r'.self (ia LV (rd e1 ⟨.inl ⟨_,r'.eO,e3,Vr _⟩,ia LU (rd r'.self (ia LV (rd e1 ⟨.inr ⟨_,r'.mem,e2⟩,hq⟩)))⟩)))
end
structure mh(G:Gx)(c:CE)(ex:List Nat) where
 pre:List Stmt
 bM:Expr
 iter:Expr
 b1:Stmt
 b2:Stmt
 y:Str
 p:Pos
 cp:Pos
 es:List Expr
 d:Expr
 u2:Expr
 u3:Expr
 qp:Pos
 bp:Pos
 ip:Pos
 fp:Pos
 th:List Stmt
 b4:Stmt
 ret:Stmt
 yu:A2 (SS c ex) pre (oq.take 10)
 hit:XS c iter (.call (.bi .range) [(.c (.int 2))])
 fZ:bR iter=true
 zj:ez c bM (.nm 12)
 JH:A2 (SS c ex) [b1,b2] Bk
 hy:jh y=true
 pB:es.all bR=true
 LX:c.sc.names.lookup y=some .globalImplicit
 LY:iw c.K y=some (.ref 648)
 bN:uM c.K (.ref 648)=some (.fn 648)
 IU:A2 (XS c) es [(.aa 10),(.aa 13)]
 JI:XS c d (.aa 14)
 LZ:behindInMarks .NotEq d=false
 h2:TS c u2 (.cmp .NotEq (.attr (.aa 10) [116,114,97,99,101]) (.item (.aa 11) (.c (.str [116,114,97,99,101]))))
 h3:TS c u3 (.cmp .NotEq (.attr (.aa 10) [109,101,109,111,114,121]) (.item (.aa 11) (.c (.str [99,101,108,108,115]))))
 L2:A2 (SS c ex) [b4] BH
 JK:A2 (SS c ex) [ret] [(.ret (.c (.bool true)))]
noncomputable def mh.L4{G:Gx}{c:CE}{ex:List Nat}(X:mh G c ex):Stmt:=.If (.BoolOp .Or [.Compare (.Call (.Name X.y X.p) X.es [] X.cp) [.NotEq] [X.d] X.qp,X.u2,X.u3] X.bp) X.th [] X.ip
noncomputable def mh.turn{G:Gx}{c:CE}{ex:List Nat}(X:mh G c ex):List Stmt:=[X.b1,X.b2]++[X.L4,X.b4]
noncomputable def mh.body{G:Gx}{c:CE}{ex:List Nat}(X:mh G c ex):List Stmt:=X.pre++[.For X.bM X.iter X.turn [] X.fp,X.ret]
noncomputable def xE(G:Gx):Prop:=∀(n:Nat) (fx:Fx) (m:MM) (H:AH) (args:List AV) (vs:List Value) (Q:AV->AH->Prop) (E:Addr->AH->Prop),fx.outer=[]->fx.env.locals=fx.Lf->vs.map er=args->args.length=2->
 iL G cy n uo (λfl m' H'=>∃v,fl=.ret v/\Q v H') (λC H'=>(C=63\/C=51)/\∀T,H' T=none->Q (.ref T) (H'.ai T (.aj [.str (if C=63 then gv else lI)]))) (args.map some) H->
 AW G (n+1) fx (call (.ref 648) vs []) VA (λv m' H'=>m'=m/\Q v H') E m H
inductive zk{α:Type}(a0:α)(m0:WM)(H0:WH):α->WM->WH->Prop
 |mk:zk a0 m0 H0 a0 m0 H0
inductive TP(Z:AH)(A:RA)(P:PM)(N:Nat)(o:b8)(H:WH)(v:AV)(S:AH):Prop
 |mk (Z':AH) (H':WH) (z:ZL Z Z') (r:WR Z' S H') (d:Dp Z' v (.aj (iF o))) (t:TQ A P N o H H')
inductive B4(o:b8)(m0:WM)(H0:WH):WF->WM->WH->Prop
 |fin (m:WM) (H:WH):B4 o m0 H0 (.ret (.dF true)) m H
 |go (v:Option Int) (st:St) (h:o=.done v st):B4 o m0 H0 .next m0 H0
theorem JM{N:Nat}(h:N+21000<=900000):N+20000<=900000/\N+10000<=900000:=by lia
section
variable{G:Gx}{n:Nat}{fx:Fx}{c:CE}{K:AF->MM->AH->Prop}{E:Nat->AH->Prop}{Z S:AH}{M:MM}{H H1:WH}{we:Nat}{A:RA}{B:cO}{P:PM}{st:St}{N:Nat}
theorem Tg(pg:aP G)(uY:xE G)(X:mh G c [51,63])(k:fV G c fx)(ho:fx.outer=[])(hl:fx.env.locals=fx.Lf){sc dr cl:W}{x y:Int}{cE:Option W}{o:b8}(fG:P.run st [x,y] A.aG.toNat=o)
 (r:WR Z S H)(dm:DM Z M (fP sc we P dr cl A.aG A.r B.w cE (some (.af [.int x,.int y])) (some (.aj (iF o)))))(hL:LB H1 we A B P st N)(hW:WQ B P N o H1 H)(hs:0<=A.aG/\A.aG<=1000)(hN:N+21000<=900000)
 (hK:∀Z' S' M' H' A' B' ak cE cK cL,ZL Z Z'->WR Z' S' H'->DM Z' M' (fP sc we P dr cl A'.aG A'.r B'.w cE cK cL)->LB H' we A' B' P ak (N+10000)->A'.aG=A.aG->K .next M' S')
 (hend:∀M' S',K (.ret (.bool true)) M' S'):AW G (n+10) fx (execs [X.L4,X.b4] fx.env) RF K E M S:=by
 have kk:Ok G cy c fx:=⟨pg.tok,k⟩
 obtain ⟨hR,hw⟩:=IT hL hW
 have hok:Cf o=false:=by obtain ⟨_,_,_,_,_,_,ok,_⟩:=hW;exact ok
 refine AI (Vp (S9 kk (Ii X.h2 (Hj X.h3)) (QO kk X.LZ X.JI (O4 kk X.hy X.pB X.LX X.LY X.bN X.IU ?_))))
 refine oi [.aa 10,.aa 13] (Q:=zk [.ref A.r,.af [.int x,.int y]] (fP sc we P dr cl A.aG A.r B.w cE (some (.af [.int x,.int y])) (some (.aj (iF o)))) H) (E:=λZaa Zaa=>False) (H:=H) (m:=fP sc we P dr cl A.aG A.r B.w cE (some (.af [.int x,.int y])) (some (.aj (iF o)))) .mk r dm (λ{Z1 ys m1 H1' as M1 S1} z1 r1 tQ hd he vs dD=>?_) λZaa Zaa h=>h.elim
 induction he
 have hd:=hd.d
 cases hd with| @cons a1 _ _ _ d1 l1=>
 cases l1 with| @cons a2 _ _ _ d2 l2=>
 cases l2
 refine mK (uY (n+9) fx M1 S1 [a1,a2] vs (TP Z1 A P N o H) E ho hl dD rfl (jM uo (Tc (n:=n) pg fG hL.wf hs hR hL.pX hL.ay hL.sz (JM hN).1) r1 (DM.of (n:=0) (.cons d1 (.dO d2))) (λz2 r2 tw hf ⟨e,hT⟩=>?_) λz2 r2 ⟨hC,hd,hT⟩=>⟨hC,λT hT'=>?_⟩)) (λv m' S' ⟨em,hp⟩=>?_) λZaa Zaa q=>q
 ·subst e
  cases hf with|ret dp=>exact ⟨_,rfl,_,_,z2,r2,dp,hT⟩
 ·obtain ⟨z3,r3⟩:=r2.gT hT' (.aj [.str (if _=63 then gv else lI)])
  exact ⟨_,_,z2.tr z3,r3,by rw [hd];exact .kH (cR ..) (show 1<=1000000 by decide) (.dO (.str _)),hT⟩
 obtain ⟨Z2,H2,z2,r2,dv,hT⟩:=hp
 subst em
 have tw:=tQ.aY z2
 refine cH (.aa 14) (Q:=zk (.aj (iF o)) (fP sc we P dr cl A.aG A.r B.w cE (some (.af [.int x,.int y])) (some (.aj (iF o)))) H2) (E:=λZaa Zaa=>False) (H:=H2) (m:=fP sc we P dr cl A.aG A.r B.w cE (some (.af [.int x,.int y])) (some (.aj (iF o)))) .mk r2 tw (λ{Z3 d3 m3 H3 v3 M3 S3} z3 r3 nQ hd he=>?_) λZaa Zaa h=>h.elim
 induction he
 refine (Aw (op:=.NotEq) (k:=λc=>c=false) r3 (dv.aY z3) hd ⟨⟨rfl,Td o⟩,rfl⟩).aY λc hc=>?_
 subst hc
 refine (if_neg Bool.false_ne_true).mpr ?_
 refine nj _ (Tf (K:=zk false (fP sc we P dr cl A.aG A.r B.w cE (some (.af [.int x,.int y])) (some (.aj (iF o)))) H2) (E:=λZaa Zaa=>False) hL hW hT rfl rfl .mk) r3 nQ (λ{Z4 c4 m4 H4 c4' M4 S4} z4 r4 q8 hc he=>?_) λZaa Zaa h=>h.elim
 induction he
 cases hc
 refine (if_neg Bool.false_ne_true).mpr λb hh tk ok r=>wpAny_execs_nil (qn (y:=AF.next) r .next ?_)
 show AW G (n+10) fx (execs [X.b4] fx.env) RF K E _ _
 refine mV X.L2 kk pg.b7 (jM BH (Zh (K:=B4 o (fP sc we P dr cl A.aG A.r B.w cE (some (.af [.int x,.int y])) (some (.aj (iF o)))) H2) (E:=λZaa Zaa=>False) rfl hok (λ⟨v,ak,hd⟩=>.go v ak hd) (.fin _ _)) r4 q8 (λ{Z5 fl m5 H5 Dj M5 S5} z5 r5 vI hf h=>?_) λZaa Zaa h=>h.elim)
 induction h with
 |fin=>
  cases hf with|ret dp=>exact dp.eB (hend _ _)
 |go v ak hd=>
  cases hf
  obtain ⟨A',B',hL',e1,e2,e3⟩:=Te hL hW hT hd (JM hN).2
  rw [<-e2,<-e1,<-e3] at vI
  exact hK _ _ _ _ A' B' ak _ _ _ (z1.tr (z2.tr (z3.tr (z4.tr z5)))) r5 vI hL' e2
end
inductive L0(we:Nat)(A:RA)(B:cO)(P:PM)(st:St)(N:Nat)(sc dr cl:W)(cE:Option W)(fl:WF)(m:WM)(H:WH):Prop
 |mk (H1:WH) (x y:Int) (ef:fl=.next) (em:m=fP sc we P dr cl (A.aG.toNat:Nat) A.r B.w cE (some (.af [.int x,.int y])) (some (.aj (iF (P.run st [x,y] A.aG.toNat))))) (h1:LB H1 we A B P st N) (h2:WQ B P N (P.run st [x,y] A.aG.toNat) H1 H)
inductive L1(ns:List Int)(fl:WF)(m:WM)(H:WH):Prop
 |mk (we:Nat) (A:RA) (B:cO) (P:PM) (cM:KV) (dr:W) (ef:fl=.next) (em:m=fP (.af (au ns)) we P dr (.dI cM) A.aG A.r B.w none none none) (hL:LB H we A B P ⟨[],[],cM,5,[]⟩ 100) (hs:0<=A.aG/\A.aG<=1000)
inductive LJ(Z:AH)(sc:W)(we:Nat)(P:PM)(dr cl:W)(N:Nat)(aG:Int)(M:MM)(S:AH):Prop
 |mk (Z':AH) (H:WH) (A:RA) (B:cO) (st:St) (cE cK cL:Option W) (r:WR Z' S H) (dm:DM Z' M (fP sc we P dr cl A.aG A.r B.w cE cK cL)) (hL:LB H we A B P st N) (e:A.aG=aG)
theorem Zi{i:Nat}(h:i<2):100+10000*i+21000<=900000:=by lia
theorem lt2{i:Nat}{hi:Int}(h:0+(i:Int)<hi)(e:hi.toNat=2):i<2:=by lia
theorem Zj{N:Nat}(h:N+21000<=900000):N+20000<=900000:=by lia
theorem toN{i:Int}(h:i<=1000):i.toNat<=1000:=by lia
section
variable{G:Gx}{n:Nat}{fx:Fx}{c:CE}{K:AF->MM->AH->Prop}{E:Nat->AH->Prop}{Z S:AH}{M:MM}{H H1:WH}{we:Nat}{A:RA}{B:cO}{P:PM}{st:St}{N:Nat}
theorem O5(pg:aP G)(uY:xE G)(X:mh G c [51,63])(k:fV G c fx)(ho:fx.outer=[])(hl:fx.env.locals=fx.Lf){sc dr cl:W}{cE cK cL:Option W}
 (r:WR Z S H)(dm:DM Z M (fP sc we P dr cl A.aG A.r B.w cE cK cL))(hB:LB H we A B P st N)(hs:0<=A.aG/\A.aG<=1000)(hN:N+21000<=900000)
 (hK:∀Z' S' M' H' A' B' ak cE cK cL,ZL Z Z'->WR Z' S' H'->DM Z' M' (fP sc we P dr cl A'.aG A'.r B'.w cE cK cL)->LB H' we A' B' P ak (N+10000)->A'.aG=A.aG->K .next M' S')
 (hend:∀M' S',K (.ret (.bool true)) M' S'):AW G (n+10) fx (execs X.turn fx.env) RF K E M S:=by
 have kk:Ok G cy c fx:=⟨pg.tok,k⟩
 have e:((A.aG.toNat:Nat):Int)=A.aG:=Int.toNat_of_nonneg hs.1
 have dm':DM Z M (fP sc we P dr cl (A.aG.toNat:Nat) A.r B.w cE cK cL):=by rw [e];exact dm
 refine HW kk pg.b7 X.JH (jM Bk (Vq (n:=n) (K:=L0 we A B P st N sc dr cl cE) (E:=λZaa Zaa=>False) pg hB (toN hs.2) (Zj hN) λH1 H' x y h1 h2=>⟨H1,x,y,rfl,rfl,h1,h2⟩) r dm' (λ{Z1 fl m1 H1 Dj M1 S1} z1 r1 tQ hf h=>?_) λZaa Zaa h=>h.elim)
 obtain ⟨H0,x,y,rfl,rfl,h1,h2⟩:=h
 cases hf
 rw [e] at tQ
 exact Tg (n:=n) pg uY X k ho hl rfl r1 tQ h1 h2 hs hN (λZ' S' M' H' A' B' ak cE cK cL z=>hK Z' S' M' H' A' B' ak cE cK cL (z1.tr z)) hend
theorem Th(pg:aP G)(uY:xE G)(X:mh G c [51,63])(k:fV G c fx)(ho:fx.outer=[])(hl:fx.env.locals=fx.Lf){sc:Nat}{ns:List Int}(r:WR Z S λZaa=>none)(hs:Dp Z (.ref sc) (.af (au ns))):
 AW G (n+10) fx (execs X.body fx.env) RF (λfl Zaa Zaa=>fl=.ret (.bool true)) E [some (.ref sc),none,none,none,none,none,none,none,none,none,none,none,none,none,none] S:=by
 have kk:Ok G cy c fx:=⟨pg.tok,k⟩
 have dm0:DM Z [some (.ref sc),none,none,none,none,none,none,none,none,none,none,none,none,none,none] [some (.af (au ns)),none,none,none,none,none,none,none,none,none,none,none,none,none,none]:=DM.args (.dO hs) 14
 refine HW kk pg.b7 X.yu (jM (oq.take 10) (Q:=L1 ns) (E:=λZaa Zaa=>False)
  (S8 (rest:=(oq.take 10).drop 1) λwe H' w Zaa Zaa=>QN (n:=n+1) pg w λH' A B P cM dr aG hL e1 e2 e3=>e1▸⟨we,A,B,P,cM,dr,rfl,rfl,hL,by lia⟩) r dm0 (λ{Z1 fl m1 H1 Dj M1 S1} z1 r1 tQ hf h=>?_) λZaa Zaa h=>h.elim)
 obtain ⟨we,A,B,P,cM,dr,rfl,rfl,hL,Zk⟩:=h
 cases hf
 show AW G (n+10) fx (execs (.For X.bM X.iter X.turn [] X.fp::[X.ret]) fx.env) RF _ E _ _
 refine AI (Hp X.fZ (az:=λy K m H=>jb G cy (n+10) (.nm 12) y K E m H) (bd:=λK m H=>∀l,AW G (n+10) (fx.keeps l) (execs X.turn fx.env) RF K E m H) (X.hit _ _ _ _ kk _ _ _ _ ?_) (λl v y K m H e q=>X.zj _ _ _ _ (kk.keeps l) _ _ _ _ _ _ e q) λl K m H q=>q l)
 refine cH (.call (.bi .range) [.c (.int 2)]) (Q:=λd m' H'=>d=.bU 2/\m'=fP (.af (au ns)) we P dr (.dI cM) A.aG A.r B.w none none none/\H'=H1) (E:=λZaa Zaa=>False) (H:=H1) (m:=fP (.af (au ns)) we P dr (.dI cM) A.aG A.r B.w none none none) ⟨rfl,rfl,rfl⟩ r1 tQ (λ{Z2 d m2 H2 v M2 S2} z2 r2 tw dv ⟨e1,e2,e3⟩=>?_) λZaa Zaa h=>h.elim
 subst e1 e2 e3
 refine xg r2 dv (k:=λw=>w=.r 2) ⟨⟨by decide,by decide⟩,rfl⟩ λs w Cg hw=>?_
 subst hw
 revert Cg
 generalize nR:WS.r 2=w2
 intro Cg
 induction Cg with
 |list=>cases nR
 |aj=>cases nR
 | @bU hi=>
 have bJ:hi.toNat=2:=by injection nR with e;exact e.symm
 refine .mk 2 (λi=>LJ Z2 (.af (au ns)) we P dr (.dI cM) (100+10000*i) A.aG) ⟨Z2,H2,A,B,_,_,_,_,r2,tw,hL,rfl⟩ λi M3 S3 j3 hj=>?_
 obtain ⟨Z3,H3,A',B',ak,cE,cK,cL,r3,nQ,hL3,iJ⟩:=hj
 refine ⟨λhlt=>?_,λhlt=>?_⟩
 ·have L5:=lt2 hlt bJ
  refine ⟨L5,λl=>?_⟩
  exact O5 (n:=n) pg uY X (k.keeps l) ho hl r3 (nQ.set (.int (0+(i:Int))) 12) hL3 (iJ▸Zk) (Zi L5) (λZ4 S4 M4 H4 A4 B4 st4 b12 b13 b14 z4 r4 q8 hL4 Zl=>⟨Z4,H4,A4,B4,st4,b12,b13,b14,r4,q8,hL4,Zl.trans iJ⟩) λM4 S4=>rfl
 ·show AW G (n+10) fx (execs [X.ret] fx.env) RF _ E _ _
  exact mV X.JK kk pg.b7 (jM [.ret (.c (.bool true))] (Q:=λfl m' H'=>fl=.ret (.dF true)) (E:=λZaa Zaa=>False) rfl r3 nQ (λ{Z5 fl m5 H5 Dj M5 S5} z5 r5 vI hf h=>by subst h;cases hf with|ret dp=>exact dp.eB rfl) λZaa Zaa h=>h.elim)
end
noncomputable abbrev sv(s:String)(t:Nat):Value:=.str (Str.ofString s) t
noncomputable abbrev en(P:Params)(s:String)(t:Nat)(v:Value):DictEntry:=⟨PyData.keyHash P (Str.ofString s),.str (Str.ofString s) t,v⟩
noncomputable def aS(i:Nat):Stmt:=PySem.Challenge.pw_no0490_01.main.body.getD i (.Pass default)
noncomputable def sub(s:Stmt)(j:Nat):Stmt:=match s with
 |.ClassDef _ _ _ b ..=>b.getD j (.Pass default)
 |_=>s
noncomputable def v5:Stmt->Arguments
 |.FunctionDef _ a ..=>a
 |_=>default
noncomputable def mF:Stmt->FuncBody
 |.FunctionDef _ _ b ..=>.stmts b
 |_=>default
noncomputable def rE:Stmt->Scope
 |.FunctionDef _ _ _ _ _ _ s ..=>s
 |_=>default
noncomputable def cp:String:="/claim/cut.py"
noncomputable def cd(a:Nat)(s s2:String)(t l n k u:Nat):Addr×Obj:=(a,⟨.type "code",none,(.fields #[sv s t,sv s2 (t+1),sv cp (t+2),.int l 0,.int n 0,.int 0 0,.int 0 0,.int k 0,.ref (a-5),.bool true,.int 181 0,.ref (a-4),.none,.ref (a-3),.ref (a-2),.ref (a-1),.int u 0,.int l 0,sv cp (u+1)]),#[]⟩)
noncomputable def ce(a:Nat)(s s2:String)(t l n k u:Nat):Addr×Obj:=(a,⟨.type "code",none,(.fields #[sv s t,sv s2 (t+1),sv cp (t+2),.int l 0,.int n 0,.int 0 0,.int 0 0,.int k 0,.ref (a-3),.bool true,.int 181 0,.ref (a-2),.none,.none,.none,.ref (a-1),.int u 0,.int l 0,sv cp (u+1)]),#[]⟩)
noncomputable def fw(a:Nat)(s s2:String)(x:Stmt)(k:Nat)(m:Value):Addr×Obj:=(a,⟨.type "function",none,(.func ⟨s,s2,v5 x,mF x,rE x,k,[],.none,.none,.none,m,none,.ref (a-1),.none,0⟩),#[]⟩)
noncomputable def KH(P:Params):Frag:=[
(2,⟨.none,none,(.dict #[en P "type.__subclasses__.Exception.0" 221 (.int 38 0),en P "type.__subclasses__.Exception.n" 222 (.int 1 0)] 2),#[]⟩),
(3,⟨.type "dict",none,(.dict #[en P "__name__" 165 (sv "law_no0490_01" 1031),en P "__doc__" 166 .none,en P "__package__" 167 .none,en P "__loader__" 168 (.builtin "__main__.__loader__#opaque"),en P "__spec__" 169 .none,en P "__annotations__" 170 (.ref 6),en P "__builtins__" 171 (.ref 4),en P "__file__" 173 (sv "/claim/cut.py" 172),en P "__cached__" 174 .none,en P "_wall" 193 (.ref 21),en P "MillFault" 224 (.ref 38),en P "Limit" 240 (.ref 51),en P "BackFault" 256 (.ref 63),en P "Frame" 289 (.ref 82),en P "laid" 299 (.ref 93),en P "FIRST_VIRTUAL" 303 (.int 64 302),en P "MOVE" 305 (sv "mv" 304),en P "NUMBER" 307 (sv "li" 306),en P "JUMP" 309 (sv "j" 308),en P "CALL" 311 (sv "call" 310),en P "GIVE" 313 (sv "ret" 312),en P "LOAD_SLOT" 315 (sv "ldslot" 314),en P "STORE_SLOT" 317 (sv "stslot" 316),en P "SLOT_ADDRESS" 319 (sv "slotaddr" 318),en P "Row" 361 (.ref 117),en P "MBlock" 392 (.ref 138),en P "MFunc" 448 (.ref 180),en P "is_virtual" 455 (.ref 191),en P "register_text" 462 (.ref 198),en P "MOST_DEEP" 466 (.int 64 465),en P "LOAD" 468 (sv "lw" 467),en P "STORE" 470 (sv "sw" 469),en P "GLOBAL" 472 (sv "la" 471),en P "Call" 511 (.ref 215),en P "MRunner" 688 (.ref 330),en P "signed" 698 (.ref 341),en P "LOW" 702 (.int 4096 701),en P "power_over" 710 (.ref 348),en P "quotient" 723 (.ref 429),en P "quotient_targetrv" 724 (.ref 355),en P "shifted" 735 (.ref 436),en P "shifted_targetrv" 736 (.ref 362),en P "is_true" 746 (.ref 369),en P "plain_worked" 756 (.ref 376),en P "rv_meaning" 768 (.ref 383),en P "RvTarget" 822 (.ref 414),en P "OVER_TWO" 873 (.ref 419),en P "OVER_NUMBERS" 895 (.ref 420),en P "BRANCHES" 905 (.ref 421),en P "TURNED" 915 (.ref 422),en P "quotient_targettwo" 929 (.ref 429),en P "shifted_targettwo" 940 (.ref 436),en P "worked_two" 950 (.ref 443),en P "two_meaning" 960 (.ref 450),en P "TwoTarget" 1030 (.ref 495),en P "_law_ops" 1041 (.ref 500),en P "_law_forks" 1066 (.ref 515),en P "_law_draw" 1079 (.ref 522),en P "_law_facts" 1089 (.ref 529),en P "_law_in" 1099 (.ref 536),en P "_law_out" 1109 (.ref 543),en P "_law_access" 1122 (.ref 550),en P "_law_call" 1128 (.ref 555),en P "_law_rows" 1144 (.ref 562),en P "_law_function" 1150 (.ref 567),en P "_law_signed" 1158 (.ref 574),en P "_law_worked" 1164 (.ref 579),en P "_law_outer" 1173 (.ref 586),en P "_law_read" 1181 (.ref 593),en P "_law_write" 1191 (.ref 600),en P "_law_enter" 1197 (.ref 605),en P "_law_back" 1207 (.ref 612),en P "_law_left" 1213 (.ref 617),en P "_law_cell" 1228 (.ref 624),en P "_law_step" 1234 (.ref 629),en P "_law_run" 1247 (.ref 636),en P "_law_mfunc" 1253 (.ref 641),en P "_law_told" 1261 (.ref 648),en P "law" 1267 (.ref 653)] 79),#[]⟩),
cd 20 "_wall" "_wall" 187 1 1 3 191,
fw 21 "_wall" "_wall" (aS 0) 3 (sv "__main__" 164),
cd 34 "__init__" "MillFault.__init__" 208 7 2 3 213,
fw 35 "__init__" "MillFault.__init__" (sub (aS 2) 0) 3 (sv "ssamill.errors" 194),
(37,⟨.type "dict",none,(.dict #[en P "__module__" 203 (sv "ssamill.errors" 194),en P "__firstlineno__" 207 (.int 5 206),en P "__init__" 215 (.ref 35),en P "__static_attributes__" 217 (.ref 36),en P "__weakref__" 219 (.ref 39),en P "__doc__" 220 .none] 3),#[]⟩),
(38,⟨.type "type",none,(.cls ⟨"MillFault",[.type "Exception"],[.ref 38,.type "Exception",.type "BaseException",.type "object"],37,"MillFault",true,[],[.ref 51,.ref 63],false,none,false⟩),#[some (.ref 22),none,some (sv "MillFault" 196),some (sv "MillFault" 204),some (.builtin "Exception.__new__"),some (.bool true)]⟩),
(50,⟨.type "dict",none,(.dict #[en P "__module__" 232 (sv "ssamill.errors" 194),en P "__firstlineno__" 236 (.int 10 235),en P "__static_attributes__" 237 (.ref 49),en P "__doc__" 238 .none] 2),#[]⟩),
(51,⟨.type "type",none,(.cls ⟨"Limit",[.ref 38],[.ref 51,.ref 38,.type "Exception",.type "BaseException",.type "object"],50,"Limit",true,[],[],false,none,false⟩),#[some (.ref 42),none,some (sv "Limit" 225),some (sv "Limit" 233),some (.builtin "Exception.__new__"),some (.bool true)]⟩),
(62,⟨.type "dict",none,(.dict #[en P "__module__" 248 (sv "ssamill.errors" 194),en P "__firstlineno__" 252 (.int 12 251),en P "__static_attributes__" 253 (.ref 61),en P "__doc__" 254 .none] 2),#[]⟩),
(63,⟨.type "type",none,(.cls ⟨"BackFault",[.ref 38],[.ref 63,.ref 38,.type "Exception",.type "BaseException",.type "object"],62,"BackFault",true,[],[],false,none,false⟩),#[some (.ref 54),none,some (sv "BackFault" 241),some (sv "BackFault" 249),some (.builtin "Exception.__new__"),some (.bool true)]⟩),
cd 78 "__init__" "Frame.__init__" 271 17 3 3 277,
fw 79 "__init__" "Frame.__init__" (sub (aS 6) 0) 3 (sv "ssamill.frame" 257),
(81,⟨.type "dict",none,(.dict #[en P "__module__" 266 (sv "ssamill.frame" 257),en P "__firstlineno__" 270 (.int 15 269),en P "__init__" 279 (.ref 79),en P "__static_attributes__" 282 (.ref 80),en P "__dict__" 284 (.ref 83),en P "__weakref__" 286 (.ref 84),en P "__doc__" 287 .none] 4),#[]⟩),
(82,⟨.type "type",none,(.cls ⟨"Frame",[.type "object"],[.ref 82,.type "object"],81,"Frame",true,[],[],false,none,false⟩),#[none,none,some (sv "Frame" 259),some (sv "Frame" 267),some (.builtin "object.__new__"),some (.bool true)]⟩),
cd 92 "laid" "laid" 290 20 1 3 297,
fw 93 "laid" "laid" (aS 7) 3 (sv "ssamill.frame" 257),
cd 106 "__init__" "Row.__init__" 332 38 5 3 340,
fw 107 "__init__" "Row.__init__" (sub (aS 18) 0) 3 (sv "ssamill.mir" 300),
cd 113 "copy" "Row.copy" 343 44 1 3 347,
fw 114 "copy" "Row.copy" (sub (aS 18) 1) 3 (sv "ssamill.mir" 300),
(116,⟨.type "dict",none,(.dict #[en P "__module__" 327 (sv "ssamill.mir" 300),en P "__firstlineno__" 331 (.int 36 330),en P "__init__" 342 (.ref 107),en P "copy" 349 (.ref 114),en P "__static_attributes__" 354 (.ref 115),en P "__dict__" 356 (.ref 118),en P "__weakref__" 358 (.ref 119),en P "__doc__" 359 .none] 4),#[]⟩),
(117,⟨.type "type",none,(.cls ⟨"Row",[.type "object"],[.ref 117,.type "object"],116,"Row",true,[],[],false,none,false⟩),#[none,none,some (sv "Row" 320),some (sv "Row" 328),some (.builtin "object.__new__"),some (.bool true)]⟩),
cd 134 "__init__" "MBlock.__init__" 374 48 2 3 379,
fw 135 "__init__" "MBlock.__init__" (sub (aS 19) 0) 3 (sv "ssamill.mir" 300),
(137,⟨.type "dict",none,(.dict #[en P "__module__" 369 (sv "ssamill.mir" 300),en P "__firstlineno__" 373 (.int 46 372),en P "__init__" 381 (.ref 135),en P "__static_attributes__" 385 (.ref 136),en P "__dict__" 387 (.ref 139),en P "__weakref__" 389 (.ref 140),en P "__doc__" 390 .none] 4),#[]⟩),
(138,⟨.type "type",none,(.cls ⟨"MBlock",[.type "object"],[.ref 138,.type "object"],137,"MBlock",true,[],[],false,none,false⟩),#[none,none,some (sv "MBlock" 362),some (sv "MBlock" 370),some (.builtin "object.__new__"),some (.bool true)]⟩),
cd 155 "__init__" "MFunc.__init__" 405 54 2 3 410,
fw 156 "__init__" "MFunc.__init__" (sub (aS 20) 0) 3 (sv "ssamill.mir" 300),
cd 162 "new_register" "MFunc.new_register" 413 61 1 3 417,
fw 163 "new_register" "MFunc.new_register" (sub (aS 20) 1) 3 (sv "ssamill.mir" 300),
cd 169 "new_slot" "MFunc.new_slot" 420 64 2 3 425,
fw 170 "new_slot" "MFunc.new_slot" (sub (aS 20) 2) 3 (sv "ssamill.mir" 300),
cd 176 "new_block" "MFunc.new_block" 428 68 1 3 433,
fw 177 "new_block" "MFunc.new_block" (sub (aS 20) 3) 3 (sv "ssamill.mir" 300),
(179,⟨.type "dict",none,(.dict #[en P "__module__" 400 (sv "ssamill.mir" 300),en P "__firstlineno__" 404 (.int 52 403),en P "__init__" 412 (.ref 156),en P "new_register" 419 (.ref 163),en P "new_slot" 427 (.ref 170),en P "new_block" 435 (.ref 177),en P "__static_attributes__" 441 (.ref 178),en P "__dict__" 443 (.ref 181),en P "__weakref__" 445 (.ref 182),en P "__doc__" 446 .none] 4),#[]⟩),
(180,⟨.type "type",none,(.cls ⟨"MFunc",[.type "object"],[.ref 180,.type "object"],179,"MFunc",true,[],[],false,none,false⟩),#[none,none,some (sv "MFunc" 393),some (sv "MFunc" 401),some (.builtin "object.__new__"),some (.bool true)]⟩),
cd 190 "is_virtual" "is_virtual" 449 72 1 3 453,
fw 191 "is_virtual" "is_virtual" (aS 21) 3 (sv "ssamill.mir" 300),
cd 197 "register_text" "register_text" 456 74 1 3 460,
fw 198 "register_text" "register_text" (aS 22) 3 (sv "ssamill.mir" 300),
cd 211 "__init__" "Call.__init__" 485 83 5 3 493,
fw 212 "__init__" "Call.__init__" (sub (aS 28) 0) 3 (sv "ssamill.runmir" 463),
(214,⟨.type "dict",none,(.dict #[en P "__module__" 480 (sv "ssamill.runmir" 463),en P "__firstlineno__" 484 (.int 81 483),en P "__init__" 495 (.ref 212),en P "__static_attributes__" 504 (.ref 213),en P "__dict__" 506 (.ref 216),en P "__weakref__" 508 (.ref 217),en P "__doc__" 509 .none] 4),#[]⟩),
(215,⟨.type "type",none,(.cls ⟨"Call",[.type "object"],[.ref 215,.type "object"],214,"Call",true,[],[],false,none,false⟩),#[none,none,some (sv "Call" 473),some (sv "Call" 481),some (.builtin "object.__new__"),some (.bool true)]⟩),
cd 232 "__init__" "MRunner.__init__" 524 94 7 3 535,
fw 233 "__init__" "MRunner.__init__" (sub (aS 29) 0) 3 (sv "ssamill.runmir" 463),
cd 239 "read" "MRunner.read" 538 109 2 3 544,
fw 240 "read" "MRunner.read" (sub (aS 29) 1) 3 (sv "ssamill.runmir" 463),
cd 246 "write" "MRunner.write" 547 117 3 3 554,
fw 247 "write" "MRunner.write" (sub (aS 29) 2) 3 (sv "ssamill.runmir" 463),
cd 253 "load" "MRunner.load" 557 122 2 3 562,
fw 254 "load" "MRunner.load" (sub (aS 29) 3) 3 (sv "ssamill.runmir" 463),
cd 260 "store" "MRunner.store" 565 127 3 3 571,
fw 261 "store" "MRunner.store" (sub (aS 29) 4) 3 (sv "ssamill.runmir" 463),
cd 267 "slot" "MRunner.slot" 574 132 2 3 580,
fw 268 "slot" "MRunner.slot" (sub (aS 29) 5) 3 (sv "ssamill.runmir" 463),
cd 274 "enter" "MRunner.enter" 583 136 3 3 593,
fw 275 "enter" "MRunner.enter" (sub (aS 29) 6) 3 (sv "ssamill.runmir" 463),
cd 281 "spoil" "MRunner.spoil" 596 151 3 3 603,
fw 282 "spoil" "MRunner.spoil" (sub (aS 29) 7) 3 (sv "ssamill.runmir" 463),
cd 288 "leave" "MRunner.leave" 606 163 2 3 616,
fw 289 "leave" "MRunner.leave" (sub (aS 29) 8) 3 (sv "ssamill.runmir" 463),
ce 293 "call" "MRunner.call" 619 176 2 3 622,
fw 294 "call" "MRunner.call" (sub (aS 29) 9) 3 (sv "ssamill.runmir" 463),
cd 300 "go" "MRunner.go" 625 187 2 3 630,
fw 301 "go" "MRunner.go" (sub (aS 29) 10) 3 (sv "ssamill.runmir" 463),
cd 307 "plain" "MRunner.plain" 633 191 2 3 639,
fw 308 "plain" "MRunner.plain" (sub (aS 29) 11) 3 (sv "ssamill.runmir" 463),
ce 312 "worked" "MRunner.worked" 642 216 2 3 645,
fw 313 "worked" "MRunner.worked" (sub (aS 29) 12) 3 (sv "ssamill.runmir" 463),
cd 319 "next_row" "MRunner.next_row" 648 226 1 3 654,
fw 320 "next_row" "MRunner.next_row" (sub (aS 29) 13) 3 (sv "ssamill.runmir" 463),
cd 326 "run" "MRunner.run" 657 234 3 3 667,
fw 327 "run" "MRunner.run" (sub (aS 29) 14) 3 (sv "ssamill.runmir" 463),
(329,⟨.type "dict",none,(.dict #[en P "__module__" 519 (sv "ssamill.runmir" 463),en P "__firstlineno__" 523 (.int 92 522),en P "__init__" 537 (.ref 233),en P "read" 546 (.ref 240),en P "write" 556 (.ref 247),en P "load" 564 (.ref 254),en P "store" 573 (.ref 261),en P "slot" 582 (.ref 268),en P "enter" 595 (.ref 275),en P "spoil" 605 (.ref 282),en P "leave" 618 (.ref 289),en P "call" 624 (.ref 294),en P "go" 632 (.ref 301),en P "plain" 641 (.ref 308),en P "worked" 647 (.ref 313),en P "next_row" 656 (.ref 320),en P "run" 669 (.ref 327),en P "__static_attributes__" 681 (.ref 328),en P "__dict__" 683 (.ref 331),en P "__weakref__" 685 (.ref 332),en P "__doc__" 686 .none] 4),#[]⟩),
(330,⟨.type "type",none,(.cls ⟨"MRunner",[.type "object"],[.ref 330,.type "object"],329,"MRunner",true,[],[],false,none,false⟩),#[none,none,some (sv "MRunner" 512),some (sv "MRunner" 520),some (.builtin "object.__new__"),some (.bool true)]⟩),
cd 340 "signed" "signed" 691 255 2 3 696,
fw 341 "signed" "signed" (aS 31) 3 (sv "ssamill.kinds" 689),
cd 347 "power_over" "power_over" 703 259 1 3 708,
fw 348 "power_over" "power_over" (aS 34) 3 (sv "ssamill.targetrv" 699),
cd 354 "quotient" "quotient" 711 264 4 3 721,
fw 355 "quotient" "quotient" (aS 35) 3 (sv "ssamill.targetrv" 699),
cd 361 "shifted" "shifted" 725 277 4 3 733,
fw 362 "shifted" "shifted" (aS 37) 3 (sv "ssamill.targetrv" 699),
cd 368 "is_true" "is_true" 737 283 4 3 744,
fw 369 "is_true" "is_true" (aS 39) 3 (sv "ssamill.targetrv" 699),
cd 375 "plain_worked" "plain_worked" 747 289 4 3 754,
fw 376 "plain_worked" "plain_worked" (aS 40) 3 (sv "ssamill.targetrv" 699),
cd 382 "rv_meaning" "rv_meaning" 757 309 4 3 766,
fw 383 "rv_meaning" "rv_meaning" (aS 41) 3 (sv "ssamill.targetrv" 699),
cd 396 "__init__" "RvTarget.__init__" 781 323 2 3 786,
fw 397 "__init__" "RvTarget.__init__" (sub (aS 42) 0) 3 (sv "ssamill.targetrv" 699),
cd 403 "tiles" "RvTarget.tiles" 789 334 1 3 793,
fw 404 "tiles" "RvTarget.tiles" (sub (aS 42) 1) 3 (sv "ssamill.targetrv" 699),
cd 410 "meaning" "RvTarget.meaning" 796 337 4 3 803,
fw 411 "meaning" "RvTarget.meaning" (sub (aS 42) 2) 3 (sv "ssamill.targetrv" 699),
(413,⟨.type "dict",none,(.dict #[en P "__module__" 776 (sv "ssamill.targetrv" 699),en P "__firstlineno__" 780 (.int 321 779),en P "__init__" 788 (.ref 397),en P "tiles" 795 (.ref 404),en P "meaning" 805 (.ref 411),en P "__static_attributes__" 815 (.ref 412),en P "__dict__" 817 (.ref 415),en P "__weakref__" 819 (.ref 416),en P "__doc__" 820 .none] 4),#[]⟩),
(414,⟨.type "type",none,(.cls ⟨"RvTarget",[.type "object"],[.ref 414,.type "object"],413,"RvTarget",true,[],[],false,none,false⟩),#[none,none,some (sv "RvTarget" 769),some (sv "RvTarget" 777),some (.builtin "object.__new__"),some (.bool true)]⟩),
(419,⟨.type "dict",none,(.dict #[en P "add" 825 (.int 1 826),en P "sub" 828 (.int 1 829),en P "mul" 831 (.int 1 832),en P "and" 834 (.int 1 835),en P "or" 837 (.int 1 838),en P "xor" 840 (.int 1 841),en P "shl" 843 (.int 1 844),en P "shr" 846 (.int 1 847),en P "sar" 849 (.int 1 850),en P "udiv" 852 (.int 1 853),en P "sdiv" 855 (.int 1 856),en P "urem" 858 (.int 1 859),en P "srem" 861 (.int 1 862),en P "slt" 864 (.int 1 865),en P "sltu" 867 (.int 1 868),en P "seq" 870 (.int 1 871)] 16),#[]⟩),
(420,⟨.type "dict",none,(.dict #[en P "addi" 874 (sv "add" 875),en P "andi" 876 (sv "and" 877),en P "ori" 878 (sv "or" 879),en P "xori" 880 (sv "xor" 881),en P "shli" 882 (sv "shl" 883),en P "shri" 884 (sv "shr" 885),en P "sari" 886 (sv "sar" 887)] 7),#[]⟩),
(421,⟨.type "dict",none,(.dict #[en P "jeq" 896 (sv "seq" 897),en P "jlt" 898 (sv "slt" 899),en P "jltu" 900 (sv "sltu" 901)] 3),#[]⟩),
(422,⟨.type "dict",none,(.dict #[en P "jne" 906 (sv "seq" 907),en P "jge" 908 (sv "slt" 909),en P "jgeu" 910 (sv "sltu" 911)] 3),#[]⟩),
cd 428 "quotient" "quotient" 916 344 4 3 926,
fw 429 "quotient" "quotient" (aS 48) 3 (sv "ssamill.targettwo" 823),
cd 435 "shifted" "shifted" 930 356 4 3 937,
fw 436 "shifted" "shifted" (aS 50) 3 (sv "ssamill.targettwo" 823),
cd 442 "worked_two" "worked_two" 941 362 4 3 948,
fw 443 "worked_two" "worked_two" (aS 52) 3 (sv "ssamill.targettwo" 823),
cd 449 "two_meaning" "two_meaning" 951 384 4 3 958,
fw 450 "two_meaning" "two_meaning" (aS 53) 3 (sv "ssamill.targettwo" 823),
cd 463 "__init__" "TwoTarget.__init__" 973 406 2 3 978,
fw 464 "__init__" "TwoTarget.__init__" (sub (aS 54) 0) 3 (sv "ssamill.targettwo" 823),
cd 470 "is_tied" "TwoTarget.is_tied" 981 417 2 3 986,
fw 471 "is_tied" "TwoTarget.is_tied" (sub (aS 54) 1) 3 (sv "ssamill.targettwo" 823),
cd 477 "commutes" "TwoTarget.commutes" 989 420 2 3 994,
fw 478 "commutes" "TwoTarget.commutes" (sub (aS 54) 2) 3 (sv "ssamill.targettwo" 823),
cd 484 "tiles" "TwoTarget.tiles" 997 423 1 3 1001,
fw 485 "tiles" "TwoTarget.tiles" (sub (aS 54) 3) 3 (sv "ssamill.targettwo" 823),
cd 491 "meaning" "TwoTarget.meaning" 1004 426 4 3 1011,
fw 492 "meaning" "TwoTarget.meaning" (sub (aS 54) 4) 3 (sv "ssamill.targettwo" 823),
(494,⟨.type "dict",none,(.dict #[en P "__module__" 968 (sv "ssamill.targettwo" 823),en P "__firstlineno__" 972 (.int 404 971),en P "__init__" 980 (.ref 464),en P "is_tied" 988 (.ref 471),en P "commutes" 996 (.ref 478),en P "tiles" 1003 (.ref 485),en P "meaning" 1013 (.ref 492),en P "__static_attributes__" 1023 (.ref 493),en P "__dict__" 1025 (.ref 496),en P "__weakref__" 1027 (.ref 497),en P "__doc__" 1028 .none] 4),#[]⟩),
(495,⟨.type "type",none,(.cls ⟨"TwoTarget",[.type "object"],[.ref 495,.type "object"],494,"TwoTarget",true,[],[],false,none,false⟩),#[none,none,some (sv "TwoTarget" 961),some (sv "TwoTarget" 969),some (.builtin "object.__new__"),some (.bool true)]⟩),
(500,⟨.type "tuple",none,(.seq #[sv "add" 1033,sv "sub" 1034,sv "and" 1035,sv "or" 1036,sv "xor" 1037,sv "mul" 1038,sv "slt" 1039,sv "sltu" 1040] 0),#[]⟩),
(501,⟨.type "tuple",none,(.seq #[sv "beq" 1042,sv "same" 1043] 0),#[]⟩),
(502,⟨.type "tuple",none,(.seq #[sv "bne" 1044,sv "not same" 1045] 0),#[]⟩),
(503,⟨.type "tuple",none,(.seq #[sv "blt" 1046,sv "slt" 1047] 0),#[]⟩),
(504,⟨.type "tuple",none,(.seq #[sv "bge" 1048,sv "not slt" 1049] 0),#[]⟩),
(505,⟨.type "tuple",none,(.seq #[sv "bltu" 1050,sv "sltu" 1051] 0),#[]⟩),
(506,⟨.type "tuple",none,(.seq #[sv "bgeu" 1052,sv "not sltu" 1053] 0),#[]⟩),
(507,⟨.type "tuple",none,(.seq #[.ref 501,.ref 502,.ref 503,.ref 504,.ref 505,.ref 506] 0),#[]⟩),
(508,⟨.type "tuple",none,(.seq #[sv "jeq" 1054,sv "same" 1055] 0),#[]⟩),
(509,⟨.type "tuple",none,(.seq #[sv "jne" 1056,sv "not same" 1057] 0),#[]⟩),
(510,⟨.type "tuple",none,(.seq #[sv "jlt" 1058,sv "slt" 1059] 0),#[]⟩),
(511,⟨.type "tuple",none,(.seq #[sv "jge" 1060,sv "not slt" 1061] 0),#[]⟩),
(512,⟨.type "tuple",none,(.seq #[sv "jltu" 1062,sv "sltu" 1063] 0),#[]⟩),
(513,⟨.type "tuple",none,(.seq #[sv "jgeu" 1064,sv "not sltu" 1065] 0),#[]⟩),
(514,⟨.type "tuple",none,(.seq #[.ref 508,.ref 509,.ref 510,.ref 511,.ref 512,.ref 513] 0),#[]⟩),
(515,⟨.type "tuple",none,(.seq #[.ref 507,.ref 514] 0),#[]⟩),
cd 521 "_law_draw" "_law_draw" 1067 431 2 3 1077,
fw 522 "_law_draw" "_law_draw" (aS 58) 3 (sv "law_no0490_01" 1031),
cd 528 "_law_facts" "_law_facts" 1080 437 2 3 1087,
fw 529 "_law_facts" "_law_facts" (aS 59) 3 (sv "law_no0490_01" 1031),
cd 535 "_law_in" "_law_in" 1090 443 3 3 1097,
fw 536 "_law_in" "_law_in" (aS 60) 3 (sv "law_no0490_01" 1031),
cd 542 "_law_out" "_law_out" 1100 448 3 3 1107,
fw 543 "_law_out" "_law_out" (aS 61) 3 (sv "law_no0490_01" 1031),
cd 549 "_law_access" "_law_access" 1110 457 5 3 1120,
fw 550 "_law_access" "_law_access" (aS 62) 3 (sv "law_no0490_01" 1031),
ce 554 "_law_call" "_law_call" 1123 475 4 3 1126,
fw 555 "_law_call" "_law_call" (aS 63) 3 (sv "law_no0490_01" 1031),
cd 561 "_law_rows" "_law_rows" 1129 484 6 3 1142,
fw 562 "_law_rows" "_law_rows" (aS 64) 3 (sv "law_no0490_01" 1031),
ce 566 "_law_function" "_law_function" 1145 507 3 3 1148,
fw 567 "_law_function" "_law_function" (aS 65) 3 (sv "law_no0490_01" 1031),
cd 573 "_law_signed" "_law_signed" 1151 529 2 3 1156,
fw 574 "_law_signed" "_law_signed" (aS 66) 3 (sv "law_no0490_01" 1031),
ce 578 "_law_worked" "_law_worked" 1159 531 4 3 1162,
fw 579 "_law_worked" "_law_worked" (aS 67) 3 (sv "law_no0490_01" 1031),
cd 585 "_law_outer" "_law_outer" 1165 540 3 3 1171,
fw 586 "_law_outer" "_law_outer" (aS 68) 3 (sv "law_no0490_01" 1031),
cd 592 "_law_read" "_law_read" 1174 542 2 3 1179,
fw 593 "_law_read" "_law_read" (aS 69) 3 (sv "law_no0490_01" 1031),
cd 599 "_law_write" "_law_write" 1182 546 3 3 1189,
fw 600 "_law_write" "_law_write" (aS 70) 3 (sv "law_no0490_01" 1031),
ce 604 "_law_enter" "_law_enter" 1192 550 3 3 1195,
fw 605 "_law_enter" "_law_enter" (aS 71) 3 (sv "law_no0490_01" 1031),
cd 611 "_law_back" "_law_back" 1198 562 3 3 1205,
fw 612 "_law_back" "_law_back" (aS 72) 3 (sv "law_no0490_01" 1031),
ce 616 "_law_left" "_law_left" 1208 570 2 3 1211,
fw 617 "_law_left" "_law_left" (aS 73) 3 (sv "law_no0490_01" 1031),
cd 623 "_law_cell" "_law_cell" 1214 582 3 3 1226,
fw 624 "_law_cell" "_law_cell" (aS 74) 3 (sv "law_no0490_01" 1031),
ce 628 "_law_step" "_law_step" 1229 600 2 3 1232,
fw 629 "_law_step" "_law_step" (aS 75) 3 (sv "law_no0490_01" 1031),
cd 635 "_law_run" "_law_run" 1235 629 3 3 1245,
fw 636 "_law_run" "_law_run" (aS 76) 3 (sv "law_no0490_01" 1031),
ce 640 "_law_mfunc" "_law_mfunc" 1248 641 2 3 1251,
fw 641 "_law_mfunc" "_law_mfunc" (aS 77) 3 (sv "law_no0490_01" 1031),
cd 647 "_law_told" "_law_told" 1254 651 2 3 1259,
fw 648 "_law_told" "_law_told" (aS 78) 3 (sv "law_no0490_01" 1031),
ce 652 "law" "law" 1262 658 1 3 1265,
fw 653 "law" "law" (aS 79) 3 (sv "law_no0490_01" 1031)
]
noncomputable def L6:List Addr:=[2,3,20,21,34,35,37,38,50,51,62,63,78,79,81,82,92,93,106,107,113,114,116,117,134,135,137,138,155,156,162,163,169,170,176,177,179,180,190,191,197,198,211,212,214,215,232,233,239,240,246,247,253,254,260,261,267,268,274,275,281,282,288,289,293,294,300,301,307,308,312,313,319,320,326,327,329,330,340,341,347,348,354,355,361,362,368,369,375,376,382,383,396,397,403,404,410,411,413,414,419,420,421,422,428,429,435,436,442,443,449,450,463,464,470,471,477,478,484,485,491,492,494,495,500,501,502,503,504,505,506,507,508,509,510,511,512,513,514,515,521,522,528,529,535,536,542,543,549,550,554,555,561,562,566,567,573,574,578,579,585,586,592,593,599,600,604,605,611,612,616,617,623,624,628,629,635,636,640,641,647,648,652,653]
theorem Ti(P:Params):L6=(KH P).map (·.1):=by kernel_rfl
section
open PySem.W.Fast
noncomputable def uZ(st:SharedT->Thread->Option (SharedT×Thread))(ok:Thread->Bool):Nat->SharedT->Thread->Option SharedT
 |0,_,_=>none
 |n+1,s,t=>match through t with
  |true=>some s
  |false=>match ok t with
   |false=>none
   |true=>match st s t with
    |some (s',t')=>uZ st ok n s' t'
    |none=>none
theorem G0{tb:String->Option Builtin}{p:Program}{w:World}{n₀:Nat}{ann:Option Value}:∀(N:Nat) (s:SharedT) (t:Thread) (s':SharedT),uZ (stepT (denote tb) p w) (stepOk n₀ ann) N s t=some s'->topRun tb p w n₀ ann N s.abs t=some s'.abs
 |0,_,_,_,h=>by cases h
 |n+1,s,t,s',h=>by
  unfold uZ at h
  unfold topRun
  cases h1:through t with
  |true=>rw [h1] at h;cases h;rfl
  |false=>
   rw [h1] at h
   cases h2:stepOk n₀ ann t with
   |false=>rw [h2] at h;cases h
   |true=>
    rw [h2] at h
    cases h3:stepT (denote tb) p w s t with
    |none=>rw [h3] at h;cases h
    |some r=>
     obtain ⟨s2,t2⟩:=r
     rw [h3] at h
     dsimp only at h ⊢
     rw [stepT_spec h3]
     exact G0 n s2 t2 s' h
noncomputable def sf:List Obj->Nat->BT->BT
 |[],_,t=>t
 |o::r,i,t=>sf r (i+1) (t.ins i o)
noncomputable def IV(p q:Program)(loose:List Str)(Xt:Shared->Bool){α:Type}(Yf:Shared->α)(P:Params)(s:Shared):=
 ((staticsOk (importedModules p.main.body) (boot_heap P) s.heap&&namesBound p s.heap&&gensDone s&&laidKept (boot_heap P) s.heap),openSeen q loose (importedModules p.main.body) Xt true s,Yf s)
theorem QS{p q:Program}{loose:List Str}{Xt:Shared->Bool}{α:Type}{Yf:Shared->α}{Ya:World->α}{N n₀:Nat}{ann:Option Value}{life:Life}(e:opening p=plainProg p.main.scope.names)(hN:Nat.ble 600 N=true)(f:∀s,fenceModules? p s=some s)
 (hT:∀P,absHeap (sf (boot_heap P).objs.toList 0 .nil) n₀ life=boot_heap P)(hn:∀P,((boot_heap P).isNs mainGlobals,(boot_heap P).objs.size,(boot_heap P).nsMap mainGlobals "__annotations__")=(true,n₀,ann))
 (main:∀(w:World) (os:OsState),(uZ (stepT (denote treeTable) p w) (stepOk n₀ ann) N ⟨sf (boot_heap w.params).objs.toList 0 .nil,n₀,life,#[],boot_drawn,boot_toks,os⟩ (topStub p)).map (λs=>IV p q loose Xt Yf w.params s.abs)=some (true,openGood q loose,Ya w)):
 LeftO p q loose Xt Yf Ya N:=λw=>by
 obtain ⟨⟨h,gs,d,k,os⟩,e1,e2⟩:=Option.map_eq_some_iff.mp (boot_open e hN f w)
 obtain ⟨rfl,rfl,rfl,rfl⟩:h=boot_heap w.params/\gs=#[]/\d=boot_drawn/\k=boot_toks:=by simpa using e2
 obtain ⟨z1,z2,z3⟩:_/\_/\_:=by simpa only [Prod.mk.injEq] using hn w.params
 obtain ⟨s',m1,m2⟩:=Option.map_eq_some_iff.mp (main w os)
 have r:=G0 _ _ _ _ m1
 have ea:SharedT.abs ⟨sf (boot_heap w.params).objs.toList 0 .nil,n₀,life,#[],boot_drawn,boot_toks,os⟩=⟨boot_heap w.params,#[],boot_drawn,boot_toks,os⟩:=by
  show Shared.mk _ _ _ _ _=_
  rw [hT]
 rw [ea] at r
 obtain ⟨l1,l2⟩:=Prod.mk.inj m2
 have t:topFrom treeTable p w N ⟨boot_heap w.params,#[],boot_drawn,boot_toks,os⟩=some s'.abs:=by
  unfold topFrom
  dsimp only
  rw [z1,z2,z3,r]
  show (match staticsOk (importedModules p.main.body) (boot_heap w.params) s'.abs.heap&&namesBound p s'.abs.heap&&gensDone s'.abs&&laidKept (boot_heap w.params) s'.abs.heap with|true=>_|false=>_)=_
  rw [l1]
 unfold openEnds
 rw [e1]
 show (topFrom treeTable p w N _).map _=_
 rw [t]
 exact congrArg some l2
noncomputable abbrev pw:Program:=PySem.Challenge.pw_no0490_01
noncomputable def qw:Program:=view pw [79]
noncomputable def qq:List Str:=(["_wall","MillFault","Limit","BackFault","Frame","laid","FIRST_VIRTUAL","MOVE","NUMBER","JUMP","CALL","GIVE","LOAD_SLOT","STORE_SLOT","SLOT_ADDRESS","Row","MBlock","MFunc","is_virtual","register_text","MOST_DEEP","LOAD","STORE","GLOBAL","Call","MRunner","signed","LOW","power_over","quotient","quotient_targetrv","shifted","shifted_targetrv","is_true","plain_worked","rv_meaning","RvTarget","OVER_TWO","OVER_NUMBERS","BRANCHES","TURNED","quotient_targettwo","shifted_targettwo","worked_two","two_meaning","TwoTarget","_law_ops","_law_forks","_law_draw","_law_facts","_law_in","_law_out","_law_access","_law_call","_law_rows","_law_function","_law_signed","_law_worked","_law_outer","_law_read","_law_write","_law_enter","_law_back","_law_left","_law_cell","_law_step","_law_run","_law_mfunc","_law_told"]:List String).map Str.ofString
noncomputable def xt:Shared->Bool:=λs=>xlAt qw [] s&&recOk [] s
theorem Tj:∀P,((boot_heap P).isNs mainGlobals,(boot_heap P).objs.size,(boot_heap P).nsMap mainGlobals "__annotations__")=(true,11,some (.ref 6)):=by intro P;kernel_rfl
theorem Tn:∀P,absHeap (sf (boot_heap P).objs.toList 0 .nil) 11 {}=boot_heap P:=by intro P;kernel_rfl
end
section
open PySem.W.Fast
noncomputable abbrev lH:Hook:=kHook KH L6 Ti
noncomputable def xU(w:World):Prop:=∀os:OsState,(uZ (stepT (denote treeTable) pw w) (stepOk 11 (some (.ref 6))) 10544 ⟨sf (boot_heap w.params).objs.toList 0 .nil,11,{},#[],boot_drawn,boot_toks,os⟩ (topStub pw)).map (λs=>IV pw qw qq xt lH.obs w.params s.abs)=some (true,openGood qw qq,lH.val w)
theorem Vs(w:World):xU (w.withFollow "special-get-raises" false):=by
 intro os
 rw [te10156331382660048174,te11892475500146522536,te14364793385576792824,te6613529449190102663]
 kernel_rfl
theorem Vt(w:World):xU (w.withFollow "special-get-raises" true):=by
 intro os
 rw [te10156331382660048174,te11892475500146522536,te14364793385576792824,te6613529449190102663]
 kernel_rfl
theorem Vu(w:World):xU w:=byRow2 "special-get-raises" (P:=xU) Vs Vt w
end
section
open PySem.W.Fast
theorem ln1:opening pw=plainProg pw.main.scope.names:=by kernel_rfl
theorem ln2:∀s,fenceModules? pw s=some s:=by intro s;kernel_rfl
theorem Vv:LeftO pw qw qq xt lH.obs lH.val 10544:=QS ln1 (by kernel_rfl) ln2 Tn Tj Vu
end
section
open PySem.W.Fast
noncomputable abbrev lN:OpenLaw:=PySem.Challenge.rw_no0490_01
theorem lo1:(sreFenced lN.prog.main&&((moduleNames lN.prog.main.body).isEmpty||lookedIntoSs (moduleNames lN.prog.main.body) lN.prog.main.body))=true:=by kernel_rfl
theorem lo2:namesResolve lN.prog=true:=by rw [te8377067652309620493];kernel_rfl
theorem lo3:lN.prog.boundNames.all (λn=>!worldNames.contains n)=true:=by kernel_rfl
theorem lo4:noRoadLSs {strict:=!(importedModules lN.prog.main.body).all cThrough.contains,foot:=none,bare:=(["vars","dir","locals"]:List Str).filter (readsOut lN.prog lN.prog.main.body)} lN.prog.main.body=true:=by kernel_rfl
theorem lo5:namesMeet lN.prog lN.prog.main.body (λZaa n=>attrL n)=true:=by kernel_rfl
theorem lo:looksOpen lN.row.prog=true:=look_both (look_both (look_both (look_both lo1 lo2) lo3) lo4) lo5
theorem ps:lN.row.partSaid=true:=by
 unfold OpenRow.partSaid
 rw [lo]
 kernel_rfl
theorem p5:(lN.row.prog.boundNames.contains lN.row.name&&!startupNames.contains lN.row.name)=true:=by kernel_rfl
theorem ws1:lN.row.wellSaid=true:=by
 unfold OpenRow.wellSaid
 rw [ps,Bool.true_and]
 exact p5
theorem Vx:lN.wellSaid=true:=by
 unfold OpenLaw.wellSaid
 rw [ws1]
 kernel_rfl
end
theorem O6{G:Gx}{f:Addr}{fd:FuncData}{body:List Stmt}{ps ns:List Str}{args:List AV}{vs:List Value}{Q:AV->Prop}{H:AH}{s:Shared}(hf:jS G.K f=some (fd,body))
 (hb:bindArgs fd ⟨vs,[]⟩=pure (ps.zip vs))(fY:ps <+: ns)(e8:ns.Nodup)
 (hkind:∀x∈ps,fd.scope.names.lookup x=some .local\/fd.scope.names.lookup x=some .cell)(hlen:args.length=ps.length)(dD:vs.map er=args)
 (e0:G.b0=s.heap)(e1:G.g=s.gens)(e2:G.d=s.drawn)(e3:G.os=s.os)(cJ:G.K.In s.heap)(eG:Top G.p G.loose G.mean G.mg G.mb s.heap)(hr:HR G.prog G.w G.b0 s.heap s.heap.objs.size H id [] s.heap)
 (h:∀fx,Bq fx fd.scope ns->fx.outer=[]->fx.env.locals=fx.Lf->AW G 12 fx (execs body fx.env) RF (λfl Zaa Zaa=>Q fl.val) (λZaa Zaa=>False) (args.map some++List.replicate (ns.length-ps.length) none) H):
 wpAny G.M callerA (call (.ref f) vs []) (λv s'=>Q (er v)/\(∀b o,s.heap.get? b=some o->s'.heap.get? b=some o)/\s'.os=s.os/\s'.gens=s.gens) (λZaa Zaa=>False) s:=by
 cases FQ hf with|mk of Cr Cs hbody hc=>
 obtain ⟨hc,Br⟩:=an hc
 obtain ⟨hc,hgen⟩:=an hc
 obtain ⟨hc,hco⟩:=an hc
 obtain ⟨hc,nH⟩:=an hc
 obtain ⟨hc,fH⟩:=an hc
 obtain ⟨hclo,Bs⟩:=an hc
 have Dk:∀a,s.heap.objs.size<=a->s.heap.get? a=none:=λa e=>mH (λa o e=>Heap.lt_size e) e
 refine wpAny_call (codeAny_mono (R:=λrr s'=>∃v,rr=.ok (.ret v)/\Q (er v)/\(∀b o,s.heap.get? b=some o->s'.heap.get? b=some o)/\s'.os=s.os/\s'.gens=s.gens) (codeAny_call_cells (by decide) (cJ f of Cr) Cs eG.nolimit (codeRec_of cJ Br) hbody hb (List.isEmpty_iff.mp hclo) (λx hx=>(hkind x.1 (List.of_mem_zip (by exact hx:(x.1,x.2)∈_)).1).imp_right λe=>⟨e,wg e⟩) (λs₁ x=>?_) (Bool.not_eq_true' _▸hco) (Bool.not_eq_true' _▸hgen) (of_decide_eq_true nH)) λrr s' q=>?_)
 ·obtain ⟨h₁,mY,rfl,uq⟩:=x.done
  have es:∀hh tk,({heap:=hh,gens:=s.gens,drawn:=s.drawn,toks:=tk,os:=s.os}:Shared)=G.sh hh tk:=λhh tk=>by
   show _=Shared.mk _ _ _ _ _
   rw [e1,e2,e3]
  have hA:=h ⟨callerA.deeper (callEnvC fd s.heap.objs.size f),[],callEnvC fd s.heap.objs.size f,callEnvC fd s.heap.objs.size f,λi=>ns[i]?,true,s.heap.objs.size,[]⟩ ⟨rfl,λZaa=>rfl,e8,rfl⟩ rfl rfl s.heap h₁ mY {
   cJ:=cJ
   eG:=eG
   dB:=λa o e=>e0▸e
   frames:=trivial
   stack:=Around.frames_deeper rfl
   eW:=rfl
   depth:=by show callerA.depth+1+12<_;decide
   units:=by show callerA.units+3+16*12+16<_;decide
   gf:=rfl
   sj:=of_decide_eq_true nH
   jN:=of_decide_eq_true nH
   mT:=rfl
   sG:=eq_of_beq Bs
   uF:=eq_of_beq fH
   lS:=by rw [e0];exact Dk _ (Nat.le_refl _)
   cM:=λy c e=>by rw [e0];exact Dk c (Nat.le_of_lt (x.above y c (mem_of_lookup e)))
   here:=.inl rfl} (EL fY e8 rfl hkind hlen dD x uq (Nat.le_refl _) (hr.keeps uq) λa e=>⟨List.not_mem_nil,hr.fresh (Dk a e)⟩)
  rw [<-es] at hA
  refine wpAny_mono hA (λfl s' q=>?_) λe s' q=>by induction q with|mk _ _ _ _ _ _ _ _ hE=>exact hE.elim
  induction q with|mk h' bg m' H' y e r hl hq=>
  subst e
  induction r with|mk _ _ _ r=>
  exact ⟨yD fl,rfl,show Q (er (yD fl)) from hl.val▸hq,r.F.keep,e3,e1⟩
 ·obtain ⟨v,rfl,q⟩:=q
  exact q
theorem xF{x:Str}{l:List Nat}(h:x.cps.toList=l):x=⟨l.toArray⟩:=by cases x;subst h;simp
noncomputable def Ci(K:Frag)(tb:cQ):Bool:=
 (tb.aQ.all λp=>AL K p.1 ⟨p.2.1.toArray⟩ p.2.2&&keepIn K (.ref p.2.2))&&(tb.jU.all λp=>sr K p.1 ⟨p.2.toArray⟩)&&(tb.oJ.all λp=>Bp K p.1 ⟨p.2.toArray⟩)&&
 (tb.own.all λp=>sr K p.1 ⟨p.2.toArray⟩&&decide (findIn K (.ref p.1) ⟨p.2.toArray⟩=some none))&&(tb.cW.all λf=>keepIn K (.ref f))
theorem QT{G:Gx}{tb:cQ}(h:Ci G.K tb=true):m8 G tb:=by
 unfold Ci at h
 simp only [Bool.and_eq_true,List.all_eq_true,decide_eq_true_eq] at h
 obtain ⟨⟨⟨⟨h1,h2⟩,h3⟩,h4⟩,h5⟩:=h
 exact ⟨λp hp x hx=>by rw [xF hx];exact h1 p hp,λp hp x hx=>by rw [xF hx];exact h2 p hp,λp hp x hx=>by rw [xF hx];exact h3 p hp,λp hp x hx=>by rw [xF hx];exact h4 p hp,h5⟩
theorem To(P:Params):Ci (KH P) cy=true:=by kernel_rfl
theorem Zm(P:Params):aM (KH P) [51,63] 60 79=some (3,0,D0):=by kernel_rfl
theorem Zn(P:Params):aM (KH P) [51,63] 60 93=some (1,3,Hu):=by kernel_rfl
theorem Vy(P:Params):aM (KH P) [51,63] 60 107=some (5,0,EA):=by kernel_rfl
theorem Vz(P:Params):aM (KH P) [51,63] 60 135=some (2,0,DT):=by kernel_rfl
theorem VD(P:Params):aM (KH P) [51,63] 60 156=some (2,0,D3):=by kernel_rfl
theorem VE(P:Params):aM (KH P) [51,63] 60 170=some (2,0,Du):=by kernel_rfl
theorem VF(P:Params):aM (KH P) [51,63] 60 177=some (1,1,Dt):=by kernel_rfl
theorem VG(P:Params):aM (KH P) [51,63] 60 191=some (1,0,D4):=by kernel_rfl
theorem VH(P:Params):aM (KH P) [51,63] 60 198=some (1,0,Dw):=by kernel_rfl
theorem VJ(P:Params):aM (KH P) [51,63] 60 212=some (5,0,Em):=by kernel_rfl
theorem VK(P:Params):aM (KH P) [51,63] 60 233=some (7,1,DI):=by kernel_rfl
theorem VM(P:Params):aM (KH P) [51,63] 60 240=some (2,1,DJ):=by kernel_rfl
theorem VN(P:Params):aM (KH P) [51,63] 60 247=some (3,1,Dy):=by kernel_rfl
theorem VO(P:Params):aM (KH P) [51,63] 60 254=some (2,0,DK):=by kernel_rfl
theorem VP(P:Params):aM (KH P) [51,63] 60 261=some (3,0,Dz):=by kernel_rfl
theorem VQ(P:Params):aM (KH P) [51,63] 60 268=some (2,1,DO):=by kernel_rfl
theorem VS(P:Params):aM (KH P) [51,63] 60 275=some (3,4,DA):=by kernel_rfl
theorem VT(P:Params):aM (KH P) [51,63] 60 282=some (3,1,DB):=by kernel_rfl
theorem VV(P:Params):aM (KH P) [51,63] 60 289=some (2,5,wc):=by kernel_rfl
theorem VW(P:Params):aM (KH P) [51,63] 60 294=some (2,2,zu):=by kernel_rfl
theorem VX(P:Params):aM (KH P) [51,63] 60 301=some (2,0,D5):=by kernel_rfl
theorem VY(P:Params):aM (KH P) [51,63] 60 308=some (2,1,DC):=by kernel_rfl
theorem VZ(P:Params):aM (KH P) [51,63] 60 313=some (2,3,zp):=by kernel_rfl
theorem V0(P:Params):aM (KH P) [51,63] 60 320=some (1,2,Dr):=by kernel_rfl
theorem V1(P:Params):aM (KH P) [51,63] 60 327=some (3,4,DU):=by kernel_rfl
theorem V2(P:Params):aM (KH P) [51,63] 60 341=some (2,0,Fd):=by kernel_rfl
theorem V3(P:Params):aM (KH P) [51,63] 60 369=some (4,0,ES):=by kernel_rfl
theorem V4(P:Params):aM (KH P) [51,63] 60 376=some (4,0,DP):=by kernel_rfl
theorem V5(P:Params):aM (KH P) [51,63] 60 383=some (4,2,D6):=by kernel_rfl
theorem V6(P:Params):aM (KH P) [51,63] 60 397=some (2,0,DE):=by kernel_rfl
theorem V7(P:Params):aM (KH P) [51,63] 60 411=some (4,0,Ds):=by kernel_rfl
theorem V8(P:Params):aM (KH P) [51,63] 60 443=some (4,0,D7):=by kernel_rfl
theorem V9(P:Params):aM (KH P) [51,63] 60 450=some (4,0,DV):=by kernel_rfl
theorem Wa(P:Params):aM (KH P) [51,63] 60 464=some (2,0,Dv):=by kernel_rfl
theorem Wb(P:Params):aM (KH P) [51,63] 60 492=some (4,0,Dq):=by kernel_rfl
theorem Wc(P:Params):aM (KH P) [51,63] 60 522=some (2,5,EB):=by kernel_rfl
theorem We(P:Params):aM (KH P) [51,63] 60 529=some (2,2,En):=by kernel_rfl
theorem Wf(P:Params):aM (KH P) [51,63] 60 536=some (3,1,Fe):=by kernel_rfl
theorem Wg(P:Params):aM (KH P) [51,63] 60 543=some (3,1,ET):=by kernel_rfl
theorem Wh(P:Params):aM (KH P) [51,63] 60 550=some (5,2,zx):=by kernel_rfl
theorem Wi(P:Params):aM (KH P) [51,63] 60 555=some (4,5,tV):=by kernel_rfl
theorem Wj(P:Params):aM (KH P) [51,63] 60 562=some (6,4,zL):=by kernel_rfl
theorem Wk(P:Params):aM (KH P) [51,63] 60 567=some (3,14,rF):=by kernel_rfl
theorem Wl(P:Params):aM (KH P) [51,63] 60 574=some (2,0,D8):=by kernel_rfl
theorem Wm(P:Params):aM (KH P) [51,63] 60 579=some (4,1,D9):=by kernel_rfl
theorem Wn(P:Params):aM (KH P) [51,63] 60 586=some (3,0,Eo):=by kernel_rfl
theorem Wo(P:Params):aM (KH P) [51,63] 60 593=some (2,0,EC):=by kernel_rfl
theorem Wq(P:Params):aM (KH P) [51,63] 60 600=some (3,1,Ep):=by kernel_rfl
theorem Wr(P:Params):aM (KH P) [51,63] 60 605=some (3,6,wz):=by kernel_rfl
theorem Ws(P:Params):aM (KH P) [51,63] 60 612=some (3,1,ED):=by kernel_rfl
theorem Wt(P:Params):aM (KH P) [51,63] 60 617=some (2,3,zM):=by kernel_rfl
theorem Wu(P:Params):aM (KH P) [51,63] 60 624=some (3,6,EE):=by kernel_rfl
theorem Wv(P:Params):aM (KH P) [51,63] 60 629=some (2,9,tW):=by kernel_rfl
theorem Ww(P:Params):aM (KH P) [51,63] 60 636=some (3,4,tX):=by kernel_rfl
theorem Wx(P:Params):aM (KH P) [51,63] 60 641=some (2,6,Es):=by kernel_rfl
theorem Wy(P:Params):aM (KH P) [51,63] 60 653=some (1,14,oq):=by kernel_rfl
theorem Tp{G:Gx}{P:Params}(e:G.K=KH P)(b7:∀C∈[51,63],mO G C):aP G:=
 ⟨QT (by rw [e];exact To P),b7,(by rw [e];exact Zm P),(by rw [e];exact Zn P),(by rw [e];exact Vy P),(by rw [e];exact Vz P),(by rw [e];exact VD P),(by rw [e];exact VE P),(by rw [e];exact VF P),(by rw [e];exact VG P),(by rw [e];exact VH P),(by rw [e];exact VJ P),(by rw [e];exact VK P),(by rw [e];exact VM P),(by rw [e];exact VN P),(by rw [e];exact VO P),(by rw [e];exact VP P),(by rw [e];exact VQ P),(by rw [e];exact VS P),(by rw [e];exact VT P),(by rw [e];exact VV P),(by rw [e];exact VW P),(by rw [e];exact VX P),(by rw [e];exact VY P),(by rw [e];exact VZ P),(by rw [e];exact V0 P),(by rw [e];exact V1 P),(by rw [e];exact V2 P),(by rw [e];exact V3 P),(by rw [e];exact V4 P),(by rw [e];exact V5 P),(by rw [e];exact V6 P),(by rw [e];exact V7 P),(by rw [e];exact V8 P),(by rw [e];exact V9 P),(by rw [e];exact Wa P),(by rw [e];exact Wb P),(by rw [e];exact Wc P),(by rw [e];exact We P),(by rw [e];exact Wf P),(by rw [e];exact Wg P),(by rw [e];exact Wh P),(by rw [e];exact Wi P),(by rw [e];exact Wj P),(by rw [e];exact Wk P),(by rw [e];exact Wl P),(by rw [e];exact Wm P),(by rw [e];exact Wn P),(by rw [e];exact Wo P),(by rw [e];exact Wq P),(by rw [e];exact Wr P),(by rw [e];exact Ws P),(by rw [e];exact Wt P),(by rw [e];exact Wu P),(by rw [e];exact Wv P),(by rw [e];exact Ww P),(by rw [e];exact Wx P),(by rw [e];exact Wy P)⟩
section
variable{G:Gx}{P:Params}
noncomputable def v7:FuncData:=⟨"__init__","MillFault.__init__",v5 (sub (aS 2) 0),mF (sub (aS 2) 0),rE (sub (aS 2) 0),3,[],.none,.none,.none,sv "ssamill.errors" 194,none,.ref 34,.none,0⟩
noncomputable def ob:Expr->Pos
 |.Call _ _ _ p=>p
 |.Attribute _ _ p=>p
 |.Name _ p=>p
 |_=>default
noncomputable def fF0:Stmt:=match mF (sub (aS 2) 0) with
 |.stmts (s::_)=>s
 |_=>.Pass default
noncomputable def fF1:Stmt:=match mF (sub (aS 2) 0) with
 |.stmts (_::s::_)=>s
 |_=>.Pass default
noncomputable def tR:Pos×Pos×Pos×Pos×Pos×Pos:=match fF0 with
 |.Expr (.Call (.Attribute a _ p2) [b,c] _ p5) p6=>(ob a,p2,ob b,ob c,p5,p6)
 |_=>default
noncomputable def zm:Pos×Pos×Pos×Pos:=match fF1 with
 |.Assign [.Attribute a _ p8] b vp=>(ob a,p8,ob b,vp)
 |_=>default
theorem IW:jS (KH P) 35=some (v7,[.Expr (.Call (.Attribute (.Name "Exception" tR.1) "__init__" tR.2.1) [.Name "self" tR.2.2.1,.Name "word" tR.2.2.2.1] [] tR.2.2.2.2.1) tR.2.2.2.2.2,.Assign [.Attribute (.Name "self" zm.1) "word" zm.2.1] (.Name "word" zm.2.2.1) zm.2.2.2]):=by kernel_rfl
theorem xm(e:G.K=KH P):kR G 51 38 35/\kR G 63 38 35:=by
 refine ⟨⟨?_,?_,?_,?_,?_,?_,?_,?_,?_⟩,⟨?_,?_,?_,?_,?_,?_,?_,?_,?_⟩⟩<;>rw [e]
 ·exact ⟨"Limit","Limit",50,[.ref 38],[],[],false,none,none,some (.ref 42),none,some (sv "Limit" 225),some (sv "Limit" 233),some (.bool true),by kernel_rfl⟩
 ·kernel_rfl
 ·kernel_rfl
 ·exact ⟨⟨.type "function",none,.func v7,#[]⟩,by kernel_rfl,rfl⟩
 ·kernel_rfl
 ·kernel_rfl
 ·kernel_rfl
 ·kernel_rfl
 ·exact ⟨v7,_,_,_,_,_,_,_,_,_,_,IW,by kernel_rfl,by kernel_rfl,by kernel_rfl,by kernel_rfl,by kernel_rfl,by kernel_rfl,by kernel_rfl,by kernel_rfl⟩
 ·exact ⟨"BackFault","BackFault",62,[.ref 38],[],[],false,none,none,some (.ref 54),none,some (sv "BackFault" 241),some (sv "BackFault" 249),some (.bool true),by kernel_rfl⟩
 ·kernel_rfl
 ·kernel_rfl
 ·exact ⟨⟨.type "function",none,.func v7,#[]⟩,by kernel_rfl,rfl⟩
 ·kernel_rfl
 ·kernel_rfl
 ·kernel_rfl
 ·kernel_rfl
 ·exact ⟨v7,_,_,_,_,_,_,_,_,_,_,IW,by kernel_rfl,by kernel_rfl,by kernel_rfl,by kernel_rfl,by kernel_rfl,by kernel_rfl,by kernel_rfl,by kernel_rfl⟩
theorem Dl(e:G.K=KH P):aP G:=Tp e λC hC=>by
 simp only [List.mem_cons,List.not_mem_nil,or_false] at hC
 rcases hC with rfl|rfl
 ·exact F7 (xm e).1
 ·exact F7 (xm e).2
noncomputable def L7:FuncData:=⟨"_law_told","_law_told",v5 (aS 78),mF (aS 78),rE (aS 78),3,[],.none,.none,.none,sv "law_no0490_01" 1031,none,.ref 647,.none,0⟩
noncomputable def L8:List Stmt:=match mF (aS 78) with
 |.stmts [.Try b _ _ _ _]=>b
 |_=>[]
noncomputable def Ma:List ExceptHandler:=match mF (aS 78) with
 |.stmts [.Try _ h _ _ _]=>h
 |_=>[]
noncomputable def tdP:Pos:=match mF (aS 78) with
 |.stmts [.Try _ _ _ _ p]=>p
 |_=>default
noncomputable def Mb:ExceptHandler->Pos×Pos×Pos×Pos×Pos
 |.ExceptHandler (some (.Name _ q1)) _ [.Return (some (.Tuple [.Constant _ _ r1] _ t1)) u1] v1=>(q1,r1,t1,u1,v1)
 |_=>default
noncomputable def h1:Pos×Pos×Pos×Pos×Pos:=match Ma with
 |a::_=>Mb a
 |_=>default
noncomputable def h2:Pos×Pos×Pos×Pos×Pos:=match Ma with
 |_::a::_=>Mb a
 |_=>default
theorem Wz:jS (KH P) 648=some (L7,[.Try L8 [.ExceptHandler (some (.Name "BackFault" h1.1)) none [.Return (some (.Tuple [.Constant (.str "fault") 0 h1.2.1] 0 h1.2.2.1)) h1.2.2.2.1] h1.2.2.2.2,.ExceptHandler (some (.Name "Limit" h2.1)) none [.Return (some (.Tuple [.Constant (.str "limit") 0 h2.2.1] 0 h2.2.2.1)) h2.2.2.2.1] h2.2.2.2.2] [] [] tdP]):=by kernel_rfl
theorem QU:(qX 60 ⟨KH P,L7.scope,["runner","args"],true⟩ [51,63] L8).map (·.1)=some uo:=by kernel_rfl
theorem QV(e:G.K=KH P)(K0:G.K.In G.b0):xE G:=λn fx m H args vs Q E ho hl hv hlen h=>by
 refine M9 (ns:=["runner","args"]) (F:=60) (ex:=[51,63]) (ir:=uo) (Dl e).tok (Dl e).b7 K0 (xm e).2 (xm e).1 (by decide) (by decide) (e▸Wz) (by kernel_rfl) (by kernel_rfl) (by decide+kernel) ?_ hlen (by kernel_rfl) (by kernel_rfl) (by rw [e];kernel_rfl) (by kernel_rfl) (by kernel_rfl) (by rw [e];kernel_rfl) (e▸QU) ho hl hv ?_
 ·intro x hx
  simp only [List.mem_cons,List.not_mem_nil,or_false] at hx
  rcases hx with rfl|rfl<;>kernel_rfl
 ·have q:∀C:Nat,(if C=63 then Str.ofString "fault" else Str.ofString "limit").cps.toList=if C=63 then [102,97,117,108,116] else [108,105,109,105,116]:=λC=>by split<;>kernel_rfl
  simp only [q]
  exact h
noncomputable def oY:List Stmt:=match mF (aS 79) with
 |.stmts b=>b
 |_=>[]
noncomputable def uE:List Str:=((rE (aS 79)).names.filter λp=>p.2==.local||p.2==.cell).map (·.1)
noncomputable def jZ:Expr×Expr×List Stmt×Pos:=match oY.getD 10 (.Pass default) with
 |.For t i b _ p=>(t,i,b,p)
 |_=>(.Name "x" default,.Name "x" default,[],default)
noncomputable def iG:Str×Pos×List Expr×Pos×Expr×Pos×Expr×Expr×Pos×List Stmt×Pos:=match jZ.2.2.1.getD 2 (.Pass default) with
 |.If (.BoolOp .Or [.Compare (.Call (.Name y p) es [] cp) [.NotEq] [d] qp,u2,u3] bp) th [] ip=>(y,p,es,cp,d,qp,u2,u3,bp,th,ip)
 |_=>("x",default,[],default,.Name "x" default,default,.Name "x" default,.Name "x" default,default,[],default)
noncomputable def kW(P:Params):CE:=⟨KH P,rE (aS 79),uE,true⟩
noncomputable def JN(G:Gx)(P:Params):mh G (kW P) [51,63] where
 pre:=oY.take 10
 bM:=jZ.1
 iter:=jZ.2.1
 b1:=jZ.2.2.1.getD 0 (.Pass default)
 b2:=jZ.2.2.1.getD 1 (.Pass default)
 y:=iG.1
 p:=iG.2.1
 cp:=iG.2.2.2.1
 es:=iG.2.2.1
 d:=iG.2.2.2.2.1
 u2:=iG.2.2.2.2.2.2.1
 u3:=iG.2.2.2.2.2.2.2.1
 qp:=iG.2.2.2.2.2.1
 bp:=iG.2.2.2.2.2.2.2.2.1
 ip:=iG.2.2.2.2.2.2.2.2.2.2
 fp:=jZ.2.2.2
 th:=iG.2.2.2.2.2.2.2.2.2.1
 b4:=jZ.2.2.1.getD 3 (.Pass default)
 ret:=oY.getD 11 (.Pass default)
 yu:=l9 (o:=qX 60 (kW P) [51,63] (oY.take 10)) (by kernel_rfl)
 hit:=l9 (o:=cX 60 (kW P) jZ.2.1) (by kernel_rfl)
 fZ:=by kernel_rfl
 zj:=l9 (o:=cTG 60 (kW P) jZ.1) (by kernel_rfl)
 JH:=l9 (o:=qX 60 (kW P) [51,63] [jZ.2.2.1.getD 0 (.Pass default),jZ.2.2.1.getD 1 (.Pass default)]) (by kernel_rfl)
 hy:=by kernel_rfl
 pB:=by kernel_rfl
 LX:=by kernel_rfl
 LY:=by kernel_rfl
 bN:=by kernel_rfl
 IU:=l9 (o:=cXs 60 (kW P) iG.2.2.1) (by kernel_rfl)
 JI:=l9 (o:=cX 60 (kW P) iG.2.2.2.2.1) (by kernel_rfl)
 LZ:=by kernel_rfl
 h2:=l9 (o:=cT 60 (kW P) iG.2.2.2.2.2.2.1) (by kernel_rfl)
 h3:=l9 (o:=cT 60 (kW P) iG.2.2.2.2.2.2.2.1) (by kernel_rfl)
 L2:=l9 (o:=qX 60 (kW P) [51,63] [jZ.2.2.1.getD 3 (.Pass default)]) (by kernel_rfl)
 JK:=l9 (o:=qX 60 (kW P) [51,63] [oY.getD 11 (.Pass default)]) (by kernel_rfl)
theorem Oc(G:Gx)(P:Params):(JN G P).body=oY:=by kernel_rfl
theorem FJ:uE.Nodup:=by decide+kernel
end
noncomputable def WA:Stmt->Pos
 |.FunctionDef _ _ _ _ _ _ _ _ _ p=>p
 |_=>default
noncomputable def mj:DefRec:=⟨"law",v5 (aS 79),oY,rE (aS 79),WA (aS 79)⟩
abbrev jn:OpenRow:=PySem.Challenge.rw_no0490_01.row
theorem CD:defOf qw jn.name=some (mj,[]):=by kernel_rfl
theorem s8:jn.prog.theDef jn.name=some (mj.params,mj.body,mj.scope):=by kernel_rfl
theorem yN:kwWritten? mj.params.kwonlyargs mj.params.kw_defaults=some []:=by kernel_rfl
theorem yO:(chainsOk qw&&opensWell jn.prog&&(frees jn.toRowW&&jn.within.isEmpty))=true:=by kernel_rfl
theorem hh5:jn.prog.bare:=⟨rfl,rfl,rfl,rfl,rfl,by decide+kernel⟩
theorem head(hw:jn.toRowW.promised)(hc:WalkO qw qq (XL qw []) lH.says jn.toRowW mj [] λf vs=>call f vs):PySem.Challenge.rw_no0490_01.Holds:=by
 refine holds_law Vx λZo=>?_
 exact PySem.W.holds_open (r:=jn) (q:=qw) (loose:=qq) (Xt:=xt) (XP:=XL qw []) (Yf:=lH.obs) (Ya:=lH.val) (YP:=lH.says) (N:=10544) (d:=mj) (kwd:=[]) Vv lH.of lH.keeps (λs e=>xl_of s (Bool.and_eq_true_iff.mp e).1) XL.keeps CD s8 yN (λs e=>recFacts_of (Bool.and_eq_true_iff.mp e).2) (by kernel_rfl) Zo yO hh5 hw hc
theorem hwN:jn.toRowW.promised:=by w_witness2
section
variable{G:Gx}{prog:Program}{w:World}{D:Addr->Addr}{h:Heap}{P:Params}
theorem xo{a:Addr}{l:List (String×Nat×Value)}{ep:Nat}(e:h.get? a=some ⟨.type "dict",none,.dict (l.map λp=>en w.params p.1 p.2.1 p.2.2).toArray ep,#[]⟩)(nd:(l.map λp=>Str.ofString p.1).Nodup):
 cY prog w D h a (.bX true (l.map λp=>((Str.ofString p.1).cps.toList,er p.2.2))):=by
 refine ⟨l.map λp=>(Str.ofString p.1,p.2.2),⟨_,_,_,e,⟨rfl,rfl,rfl⟩,rfl,λx hx=>?_,?_,?_⟩,?_⟩
 ·rw [List.mem_toArray] at hx
  obtain ⟨p,_,rfl⟩:=List.mem_map.mp hx
  exact ⟨Str.ofString p.1,by simp [PySem.strKind,Value.isStrOf],rfl⟩
 ·show Pairs _ (List.map _ l) _
  clear e nd
  induction l with
  |nil=>exact .nil
  |cons p r ih=>exact .cons (by simp [PySem.strKind,Value.isStrOf]) rfl ih
 ·rw [List.map_map];exact nd
 ·rw [List.map_map];rfl
theorem gO{a:Addr}{l:List Value}(e:h.get? a=some ⟨.type "tuple",none,.seq l.toArray 0,#[]⟩):cY prog w D h a (.aj (l.map er)):=⟨l,⟨_,e,rfl,0,rfl⟩,rfl⟩
end
noncomputable def JO:List (String×Nat×Value):=[("add",825,.int 1 826),("sub",828,.int 1 829),("mul",831,.int 1 832),("and",834,.int 1 835),("or",837,.int 1 838),("xor",840,.int 1 841),("shl",843,.int 1 844),("shr",846,.int 1 847),("sar",849,.int 1 850),("udiv",852,.int 1 853),("sdiv",855,.int 1 856),("urem",858,.int 1 859),("srem",861,.int 1 862),("slt",864,.int 1 865),("sltu",867,.int 1 868),("seq",870,.int 1 871)]
theorem Zp(P:Params):(KH P).lookup 419=some ⟨.type "dict",none,.dict (JO.map λp=>en P p.1 p.2.1 p.2.2).toArray 16,#[]⟩:=by kernel_rfl
noncomputable def JP:List (String×Nat×Value):=[("addi",874,sv "add" 875),("andi",876,sv "and" 877),("ori",878,sv "or" 879),("xori",880,sv "xor" 881),("shli",882,sv "shl" 883),("shri",884,sv "shr" 885),("sari",886,sv "sar" 887)]
theorem Zq(P:Params):(KH P).lookup 420=some ⟨.type "dict",none,.dict (JP.map λp=>en P p.1 p.2.1 p.2.2).toArray 7,#[]⟩:=by kernel_rfl
noncomputable def JQ:List (String×Nat×Value):=[("jeq",896,sv "seq" 897),("jlt",898,sv "slt" 899),("jltu",900,sv "sltu" 901)]
theorem Zr(P:Params):(KH P).lookup 421=some ⟨.type "dict",none,.dict (JQ.map λp=>en P p.1 p.2.1 p.2.2).toArray 3,#[]⟩:=by kernel_rfl
noncomputable def JR:List (String×Nat×Value):=[("jne",906,sv "seq" 907),("jge",908,sv "slt" 909),("jgeu",910,sv "sltu" 911)]
theorem Zs(P:Params):(KH P).lookup 422=some ⟨.type "dict",none,.dict (JR.map λp=>en P p.1 p.2.1 p.2.2).toArray 3,#[]⟩:=by kernel_rfl
noncomputable def JS:List Value:=[sv "add" 1033,sv "sub" 1034,sv "and" 1035,sv "or" 1036,sv "xor" 1037,sv "mul" 1038,sv "slt" 1039,sv "sltu" 1040]
theorem Zt(P:Params):(KH P).lookup 500=some ⟨.type "tuple",none,.seq JS.toArray 0,#[]⟩:=by kernel_rfl
noncomputable def JT:List Value:=[sv "beq" 1042,sv "same" 1043]
theorem Zu(P:Params):(KH P).lookup 501=some ⟨.type "tuple",none,.seq JT.toArray 0,#[]⟩:=by kernel_rfl
noncomputable def JU:List Value:=[sv "bne" 1044,sv "not same" 1045]
theorem Zv(P:Params):(KH P).lookup 502=some ⟨.type "tuple",none,.seq JU.toArray 0,#[]⟩:=by kernel_rfl
noncomputable def JV:List Value:=[sv "blt" 1046,sv "slt" 1047]
theorem Zw(P:Params):(KH P).lookup 503=some ⟨.type "tuple",none,.seq JV.toArray 0,#[]⟩:=by kernel_rfl
noncomputable def JW:List Value:=[sv "bge" 1048,sv "not slt" 1049]
theorem Zx(P:Params):(KH P).lookup 504=some ⟨.type "tuple",none,.seq JW.toArray 0,#[]⟩:=by kernel_rfl
noncomputable def JX:List Value:=[sv "bltu" 1050,sv "sltu" 1051]
theorem Zy(P:Params):(KH P).lookup 505=some ⟨.type "tuple",none,.seq JX.toArray 0,#[]⟩:=by kernel_rfl
noncomputable def JY:List Value:=[sv "bgeu" 1052,sv "not sltu" 1053]
theorem Zz(P:Params):(KH P).lookup 506=some ⟨.type "tuple",none,.seq JY.toArray 0,#[]⟩:=by kernel_rfl
noncomputable def JZ:List Value:=[.ref 501,.ref 502,.ref 503,.ref 504,.ref 505,.ref 506]
theorem ZA(P:Params):(KH P).lookup 507=some ⟨.type "tuple",none,.seq JZ.toArray 0,#[]⟩:=by kernel_rfl
noncomputable def J0:List Value:=[sv "jeq" 1054,sv "same" 1055]
theorem ZC(P:Params):(KH P).lookup 508=some ⟨.type "tuple",none,.seq J0.toArray 0,#[]⟩:=by kernel_rfl
noncomputable def J3:List Value:=[sv "jne" 1056,sv "not same" 1057]
theorem ZD(P:Params):(KH P).lookup 509=some ⟨.type "tuple",none,.seq J3.toArray 0,#[]⟩:=by kernel_rfl
noncomputable def J5:List Value:=[sv "jlt" 1058,sv "slt" 1059]
theorem ZE(P:Params):(KH P).lookup 510=some ⟨.type "tuple",none,.seq J5.toArray 0,#[]⟩:=by kernel_rfl
noncomputable def J6:List Value:=[sv "jge" 1060,sv "not slt" 1061]
theorem ZF(P:Params):(KH P).lookup 511=some ⟨.type "tuple",none,.seq J6.toArray 0,#[]⟩:=by kernel_rfl
noncomputable def J7:List Value:=[sv "jltu" 1062,sv "sltu" 1063]
theorem ZG(P:Params):(KH P).lookup 512=some ⟨.type "tuple",none,.seq J7.toArray 0,#[]⟩:=by kernel_rfl
noncomputable def J8:List Value:=[sv "jgeu" 1064,sv "not sltu" 1065]
theorem ZH(P:Params):(KH P).lookup 513=some ⟨.type "tuple",none,.seq J8.toArray 0,#[]⟩:=by kernel_rfl
noncomputable def J9:List Value:=[.ref 508,.ref 509,.ref 510,.ref 511,.ref 512,.ref 513]
theorem ZI(P:Params):(KH P).lookup 514=some ⟨.type "tuple",none,.seq J9.toArray 0,#[]⟩:=by kernel_rfl
noncomputable def Ka:List Value:=[.ref 507,.ref 514]
theorem ZJ(P:Params):(KH P).lookup 515=some ⟨.type "tuple",none,.seq Ka.toArray 0,#[]⟩:=by kernel_rfl
noncomputable def kX:List (Nat×AO):=[(419,.bX true (JO.map λp=>((Str.ofString p.1).cps.toList,er p.2.2))),(420,.bX true (JP.map λp=>((Str.ofString p.1).cps.toList,er p.2.2))),(421,.bX true (JQ.map λp=>((Str.ofString p.1).cps.toList,er p.2.2))),(422,.bX true (JR.map λp=>((Str.ofString p.1).cps.toList,er p.2.2))),(500,.aj (JS.map er)),(501,.aj (JT.map er)),(502,.aj (JU.map er)),(503,.aj (JV.map er)),(504,.aj (JW.map er)),(505,.aj (JX.map er)),(506,.aj (JY.map er)),(507,.aj (JZ.map er)),(508,.aj (J0.map er)),(509,.aj (J3.map er)),(510,.aj (J5.map er)),(511,.aj (J6.map er)),(512,.aj (J7.map er)),(513,.aj (J8.map er)),(514,.aj (J9.map er)),(515,.aj (Ka.map er))]
theorem HX{α:Type}{l:List (Nat×α)}{a:Nat}{o:α}(h:l.lookup a=some o):(a,o)∈l:=by
 induction l with
 |nil=>cases h
 |cons p r ih=>
  rw [List.lookup_cons] at h
  split at h
  ·rename_i q;cases h;rw [beq_iff_eq.mp q];exact List.mem_cons_self
  ·exact List.mem_cons_of_mem _ (ih h)
theorem Od{prog:Program}{w:World}{D:Addr->Addr}{h:Heap}(X:(KH w.params).In h):∀p∈kX,cY prog w D h p.1 p.2:=by
 intro p hp
 simp only [kX,List.mem_cons,List.not_mem_nil,or_false] at hp
 rcases hp with rfl|rfl|rfl|rfl|rfl|rfl|rfl|rfl|rfl|rfl|rfl|rfl|rfl|rfl|rfl|rfl|rfl|rfl|rfl|rfl
 ·exact xo (X _ _ (Zp _)) (by decide+kernel)
 ·exact xo (X _ _ (Zq _)) (by decide+kernel)
 ·exact xo (X _ _ (Zr _)) (by decide+kernel)
 ·exact xo (X _ _ (Zs _)) (by decide+kernel)
 ·exact gO (X _ _ (Zt _))
 ·exact gO (X _ _ (Zu _))
 ·exact gO (X _ _ (Zv _))
 ·exact gO (X _ _ (Zw _))
 ·exact gO (X _ _ (Zx _))
 ·exact gO (X _ _ (Zy _))
 ·exact gO (X _ _ (Zz _))
 ·exact gO (X _ _ (ZA _))
 ·exact gO (X _ _ (ZC _))
 ·exact gO (X _ _ (ZD _))
 ·exact gO (X _ _ (ZE _))
 ·exact gO (X _ _ (ZF _))
 ·exact gO (X _ _ (ZG _))
 ·exact gO (X _ _ (ZH _))
 ·exact gO (X _ _ (ZI _))
 ·exact gO (X _ _ (ZJ _))
theorem FL:∀p∈kX,p.2.mut=false/\p.2.eF=false:=by
 intro p hp
 simp only [kX,List.mem_cons,List.not_mem_nil,or_false] at hp
 rcases hp with rfl|rfl|rfl|rfl|rfl|rfl|rfl|rfl|rfl|rfl|rfl|rfl|rfl|rfl|rfl|rfl|rfl|rfl|rfl|rfl<;>exact ⟨rfl,rfl⟩
theorem FN(P:Params):(kX.all λp=>match (KH P).lookup p.1 with|some o=>o.cls != .type "list"|none=>false)=true:=by kernel_rfl
noncomputable def H0(sc:Nat)(ns:List Int):AH:=λa=>if a=sc then some (.list .fz (il ns)) else kX.lookup a
theorem xV{Z:AH}{a:Nat}{ks:List (List Nat)}{vs:List AV}{ds:List W}(e:Z a=some (.bX true (ks.zip vs)))(hl:ks.length=vs.length)(b:ks.length<=1000000)(h:DL Z vs ds):Dp Z (.ref a) (.dS ks ds):=
 .IC e (by rw [List.length_zip];exact Nat.le_trans (Nat.min_le_left ..) b) (List.map_fst_zip (Nat.le_of_eq hl)) (by rw [List.map_snd_zip (Nat.le_of_eq hl.symm)];exact h)
theorem jR{Z:AH}{a:Nat}{x y:List Nat}(e:Z a=some (.aj [.str x,.str y])):Dp Z (.ref a) (gY x y):=.kH e (show 2<=1000000 by decide) (.cons (.str _) (.dO (.str _)))
theorem WB{sc:Nat}{ns:List Int}(hn:∀p∈kX,p.1≠sc):WR (H0 sc ns) (H0 sc ns) λZaa=>none:=by
 have q:∀a o,kX.lookup a=some o->H0 sc ns a=some o:=λa o e=>by
  unfold H0
  rw [if_neg (hn _ (HX e))];exact e
 refine ⟨λa o e=>e,λa d h=>?_,λa o e=>(by cases e)⟩
 unfold gW at h
 split at h<;>cases h
 ·exact xV (vs:=il (List.replicate 16 1)) (q _ _ (by kernel_rfl)) rfl (by decide) (DL.As (List.replicate 16 1))
 ·exact xV (vs:=[[97,100,100],[97,110,100],[111,114],[120,111,114],[115,104,108],[115,104,114],[115,97,114]].map .str) (q _ _ (by kernel_rfl)) rfl (by decide) (DL.w9 _)
 ·exact xV (vs:=[[115,101,113],[115,108,116],[115,108,116,117]].map .str) (q _ _ (by kernel_rfl)) rfl (by decide) (DL.w9 _)
 ·exact xV (vs:=[[115,101,113],[115,108,116],[115,108,116,117]].map .str) (q _ _ (by kernel_rfl)) rfl (by decide) (DL.w9 _)
 ·exact Dp.kH (xs:=[[97,100,100],[115,117,98],[97,110,100],[111,114],[120,111,114],[109,117,108],[115,108,116],[115,108,116,117]].map .str) (q _ _ (by kernel_rfl)) (by decide) (DL.w9 [[97,100,100],[115,117,98],[97,110,100],[111,114],[120,111,114],[109,117,108],[115,108,116],[115,108,116,117]])
 ·exact Dp.kH (xs:=[.ref 507,.ref 514]) (q _ _ (by kernel_rfl)) (by decide) (.cons
   (.kH (xs:=[.ref 501,.ref 502,.ref 503,.ref 504,.ref 505,.ref 506]) (q _ _ (by kernel_rfl)) (by decide) (.cons (jR (q _ _ (by kernel_rfl))) (.cons (jR (q _ _ (by kernel_rfl))) (.cons (jR (q _ _ (by kernel_rfl))) (.cons (jR (q _ _ (by kernel_rfl))) (.cons (jR (q _ _ (by kernel_rfl))) (.dO (jR (q _ _ (by kernel_rfl))))))))))
   (.dO (.kH (xs:=[.ref 508,.ref 509,.ref 510,.ref 511,.ref 512,.ref 513]) (q _ _ (by kernel_rfl)) (by decide) (.cons (jR (q _ _ (by kernel_rfl))) (.cons (jR (q _ _ (by kernel_rfl))) (.cons (jR (q _ _ (by kernel_rfl))) (.cons (jR (q _ _ (by kernel_rfl))) (.cons (jR (q _ _ (by kernel_rfl))) (.dO (jR (q _ _ (by kernel_rfl))))))))))))
section
set_option tactic.hygienic true
theorem WC(P:Params):nsIn (KH P) mainGlobals "law"=some (some (.ref 653)):=by kernel_rfl
noncomputable def zo:FuncData:=⟨"law","law",v5 (aS 79),mF (aS 79),rE (aS 79),3,[],.none,.none,.none,sv "law_no0490_01" 1031,none,.ref 652,.none,0⟩
theorem WD(P:Params):jS (KH P) 653=some (zo,oY):=by kernel_rfl
noncomputable def v8:List Str:=zo.params.args.map (·.arg)
theorem Tq:v8=[Str.ofString "script"]:=by kernel_rfl
theorem QW:v8 <+: uE:=List.isPrefixOf_iff_prefix.mp (by kernel_rfl)
theorem O7:∀x∈v8,zo.scope.names.lookup x=some .local\/zo.scope.names.lookup x=some .cell:=λx hx=>by
 rw [Tq,List.mem_singleton] at hx
 subst hx
 exact .inl (by kernel_rfl)
theorem O8:uE.length-v8.length=14:=by kernel_rfl
theorem QY{vs:List Value}{ns:List Int}(h:IntsAre vs ns):vs.map er=il ns:=by
 induction h with
 |nil=>rfl
 |cons n t _ ih=>rw [List.map_cons,ih];rfl
theorem hr0{prog:Program}{w:World}{h:Heap}{sc:Nat}{vs:List Value}{ns:List Int}(X:(KH w.params).In h)(hL:h.IsList sc vs.toArray)(hI:IntsAre vs ns)(hn:∀p∈kX,p.1≠sc)(hy:sc≠sysModules):
 HR prog w h h h.objs.size (H0 sc ns) id [] h:=by
 have xG:∀a o,H0 sc ns a=some o->(a=sc/\o=.list .fz (il ns))\/(a,o)∈kX:=λa o e=>by
  unfold H0 at e
  split at e
  ·rename_i q;cases e;exact .inl ⟨q,rfl⟩
  ·exact .inr (HX e)
 refine ⟨λa ha=>(by cases ha),λa o e=>?_,λa o e hm=>?_,λa o e=>?_,?_,λa o e hi=>?_⟩
 ·rcases xG a o e with ⟨rfl,rfl⟩|q
  ·exact ⟨vs,⟨hL,λq=>by cases q⟩,QY hI⟩
  ·exact Od X _ q
 ·rcases xG a o e with ⟨rfl,rfl⟩|q
  ·cases hm
  ·rw [(FL _ q).1] at hm;cases hm
 ·refine .inr ?_
  rcases xG a o e with ⟨rfl,rfl⟩|q
  ·obtain ⟨ob,ho,_⟩:=hL;rw [ho];rfl
  ·have:=List.all_eq_true.mp (FN w.params) _ q
   split at this
   ·rename_i ob hk;rw [X _ _ hk];rfl
   ·cases this
 ·unfold H0
  rw [if_neg (Ne.symm hy)]
  rfl
 ·rcases xG a o e with ⟨rfl,rfl⟩|q
  ·cases hi
  ·rw [(FL _ q).2] at hi;cases hi
theorem QZ{P:Params}{h:Heap}{sc:Nat}{xs:Array Value}(X:(KH P).In h)(hL:h.IsList sc xs):∀p∈kX,p.1≠sc:=λp hp q=>by
 have hh:=List.all_eq_true.mp (FN P) _ hp
 obtain ⟨ob,ho,hc,_⟩:=hL
 split at hh
 ·rename_i qS hk
  have:=X _ _ hk
  rw [q,ho] at this
  cases this
  rw [hc] at hh
  exact absurd hh (by decide)
 ·cases hh
theorem WG:WalkO qw qq (XL qw []) lH.says jn.toRowW mj [] λf vs=>call f vs:=by
 intro w s₀ s₁ mg mb G Y fa o pm cd doc dV kV ho hd hcd hD Dm hg args vals as yu ZK hrd zc hlo
 have KX:=kIn_of Y
 refine Ground.open G ?_
 intro T B D TE TW
 have ZM:=mg_of KX T.g (WC _)
 rw [show mj.name=("law":Str) from rfl] at Dm
 rw [ZM] at Dm
 cases Dm
 have ZN:=hlo
 wrow_args yu ZK hrd zc hlo
 rename_i ns h1 h2 h3 h4 h5 a4 a3 sc vs a0 hL ra w1 r0 hI hr hc1 Cm
 have jr:sc≠sysModules:=by
  have:sc∈a4:=by cases r0;simp
  have:=ZN sc (by simp [this])
  simpa using this
 have hne:=QZ KX hL
 let GG:Gx:=⟨jn.prog,w,KH w.params,qw,looseW qw qq,ExcName.means s₀.heap,mg,mb,s₁.heap,s₁.gens,s₁.drawn,s₁.os⟩
 have A:=O6 (G:=GG) (f:=653) (ps:=v8) (ns:=uE) (args:=[.ref sc]) (vs:=[.ref sc]) (Q:=λv=>v=.bool true) (H:=H0 sc ns) (s:=s₁) (WD _) (wu (by kernel_rfl) (by decide+kernel) rfl) QW FJ O7 rfl rfl rfl rfl rfl rfl KX T (hr0 KX hL hI hne jr) (λfx F ho hl=>by
  rw [O8]
  have L:=Th (n:=2) (E:=λZaa Zaa=>False) (Dl (G:=GG) (P:=w.params) rfl) (QV (G:=GG) rfl KX) (JN GG w.params) ⟨rfl,F.sc,F.nm,FJ,λZaa=>F.wr⟩ ho hl (WB (ns:=ns) hne) (Dp.lO (k:=.fz) (xs:=il ns) (show H0 sc ns sc=some (.list .fz (il ns)) from if_pos rfl) (by unfold il;rw [List.length_map];omega) (DL.As ns))
  rw [Oc] at L
  exact mK L (λy Zaa Zaa q=>by rw [q];rfl) λZaa Zaa q=>q)
 refine wpAny_mono A (λv s' q=>?_) λZaa Zaa q=>q.elim
 obtain ⟨q1,q2,q3,q4⟩:=q
 cases FO q1
 exact GoodW.toG ⟨.inl ⟨_,.bool true,[],rfl,λZaa=>rfl,.bool true,by kernel_rfl,unshared_nil⟩,q2,q3,q4.trans hg⟩
theorem holds:PySem.Challenge.rw_no0490_01.Holds:=head hwN WG
end
end Mine
theorem PySem.Challenge.cw_no0490_01_holds : PySem.Challenge.rw_no0490_01.Holds :=
 Mine.holds
