/- Helper lemmas, part 5: what the steps of the program do in the model; each holds under its own hypotheses. -/
import Derived.Test.YtgahemdblfapeaaGreatDoorA02
set_option maxRecDepth 100000
set_option maxHeartbeats 4000000
set_option linter.all false
namespace Go.Proofs.YtgahemdblfapeaaGreatDoor
open Go.Conc
open _root_.Array renaming ext_getElem?→zB,getD_eq_getD_getElem?→nJ,getElem?_eq_some_iff→iy,getElem?_modify→Gm,getElem?_push→Gn,getElem?_setIfInBounds→uF,getElem?_setIfInBounds_ne→iK,getElem?_setIfInBounds_self_of_lt→kJ,getElem?_toList→Cy,replicate→qa
open _root_.Bool renaming and_eq_true→gT,false→Y,false_eq_true→hZ,true→U
open Go renaming Addr→aU,CallKind→dQ,Code→bH,Deferred→cz,Frame→aA,Func→dK,FuncId→cH,Item→aJ,Oper→bq,Operand→iP,Program→aD,TypeId→aK,Value→ag,World→ax,eqGuard→lF,execOp→cN,getObj→j4,goInt→ai,stepG→aE,undef→aB
open Go.Frame renaming enter→bO,eval→bR,finish→jw
open Go.Next renaming value→mR
open Go.Proofs.Tryz renaming prog→ak
open Go.Region renaming noSelect→Em,ready→nK,wanted→wO
open Go.Result renaming andThen→fy
open Go.Sem renaming pure→qi,run→bP,runT_eq→jN,run_bind'→zI
open Go.World renaming frozen?→qj,shape?→fF
open Go.stepG renaming exec→cf
open _root_.List renaming all_eq_true→Ei,append_assoc→iL,eq_nil_of_length_eq_zero→zC,filter_cons→Ej,flatMap_append→IE,flatMap_cons→vp,getElem?_append_left→LZ,getElem?_append_right→Ma,getElem?_cons_zero→qe,getElem?_eq_getElem→eI,getElem?_eq_some_iff→dq,getElem?_map→fW,getElem?_modify→Gs,getElem?_set_ne→uH,getElem?_set_self→zD,length_append→oe,length_cons→jY,length_map→jM,length_nil→uI,length_pos_of_mem→IG,length_set→wJ,length_take→CF,map_cons→fw,mem_append_left→IJ,mem_append_right→IK,mem_cons→bM,mem_cons_of_mem→eK,mem_cons_self→eX,mem_map→og,mem_map_of_mem→jg,mem_of_getElem?→jZ,mem_singleton→my,mem_toArray→ko,nodup_cons→oO,not_mem_nil→gV,pairwise_append→CH,pairwise_cons→mQ,perm_append_comm→lD,perm_middle→qf,range→qh
open _root_.List.Pairwise renaming nil→Eh
open _root_.List.Perm renaming swap→CC
open _root_.Nat renaming eq_of_beq_eq_true→CI,le_of_ble_eq_true→zH,le_refl→dt,le_succ_of_le→El,le_trans→rU,lt_of_lt_of_le→pA,mul_one→x9,zero_add→uJ,zero_le→gJ
open _root_.Option renaming bind_eq_some_iff→nj,bind_some→wN,getD_some→rV,isSome_iff_exists→A7,map_eq_some_iff→fX,map_some→jE,none→I,some→Z,some→iQ
open _root_.Option.some renaming inj→ee,injEq→gB
open _root_.Prod.mk renaming injEq→fN
section
variable {N i k:Nat}{n:Next}{p:Prop}{s:Sem Next}{V α:Type}{P:aD}{a:aj Tmp}{w:ax}{o:bq}{f:cH}
section
section
variable {P Q:aD}{t:aK}
theorem fK{α β}(s)(k:α->Sem β)(w):(s>>=k).run P w=(s.run P w).andThen λa b=>(k a).run P b:=zI _ s k _
theorem azw(h:P.underlying t=Q.underlying t)(w):bP P (underlying t) w=bP Q (underlying t) w:=by
 show bP P (match P.underlying t with
  |some d=>pure d
  |none=>stuck "no such type") w=bP Q (match Q.underlying t with
  |some d=>pure d
  |none=>stuck "no such type") w
 rw[h];cases Q.underlying t<;>rfl
theorem aal(h:P.info? t=Q.info? t)(w):bP P (typeInfo t) w=bP Q (typeInfo t) w:=by
 show bP P (match P.info? t with
  |some d=>pure d
  |none=>stuck "no such type") w=bP Q (match Q.info? t with
  |some d=>pure d
  |none=>stuck "no such type") w
 rw[h];cases Q.info? t<;>rfl
theorem avA(h:P.info? t=Q.info? t)(w):bP P (sizeOf t) w=bP Q (sizeOf t) w:=by
 unfold sizeOf;rw[fK,fK,aal h];cases bP Q (typeInfo t) w<;>simp only[fy]<;>rfl
theorem az1(h:P.info? t=Q.info? t)(w):bP P (zeroValue t) w=bP Q (zeroValue t) w:=by
 unfold zeroValue;rw[fK,fK,aal h];cases bP Q (typeInfo t) w with
 |ok i a=>
  simp only[fy];cases i.zero
  ·rfl
  ·rfl
 |halt=>simp only[fy]
theorem afL(h:P.underlying t=Q.underlying t)(w):bP P (isAgg t) w=bP Q (isAgg t) w:=by
 unfold isAgg;rw[fK,fK,azw h];cases bP Q (underlying t) w with
 |ok d a=>
  simp only[fy];cases d<;>rfl
 |halt=>simp only[fy]
end
noncomputable def Sv:aD:={ak with funcs:=fs}
theorem pD(t):Sv.underlying t=Tryz.prog.underlying t:=al
theorem Sv.inf(t):Sv.info? t=Tryz.prog.info? t:=al
attribute [irreducible] Sv
@[simp] theorem qn(t)(w):bP Sv (sizeOf t) w=bP ak (sizeOf t) w:=avA (Sv.inf t) w
@[simp] theorem qo(t)(w):bP Sv (zeroValue t) w=bP ak (zeroValue t) w:=az1 (Sv.inf t) w
@[simp] theorem ql(t)(w):bP Sv (isAgg t) w=bP ak (isAgg t) w:=afL (pD t) w
end
section
variable {P:aD}
theorem aee{m:Mode}{a:aU}{v x:ag}{k:Sem α}{w:ax}(b:v.oneCell'=U)(c:w.cell? a=Z x)(d:w.frozen? a=Y):(Sem.store m a v k).run P w=k.run P (w.setCell a v):=by
 cases v<;>first|(simp[Value.oneCell']at b;done)|simp[bP,c,d]
end
section
variable {P:aD}{X:af bq}{Q:Exit->Act->ax->Prop}
end
section
variable {P:aD}{X:af bq}{Q:Exit->Act->ax->Prop}{W:Region.Mode}{S:ax->Prop}{n:Nat}
def Gk(P:aD)(W:Region.Mode)(X:af bq)(Q:Exit->Act->ax->Prop)(S:ax->Prop)(n:Nat)(L:af Bool->Act->ax->Prop):Nat->af Bool->Act->ax->Prop
 |0,listed,a,w=>L listed a w
 |f+1,listed,a,w=>nK W X listed≠[]/\∀i∈nK W X listed,i<n/\wpOp P X Q i (λc b=>S b/\Gk P W X Q S n L f (listed.setIfInBounds i U) c b) a w
theorem aeS{g:Nat}{L:af Bool->Act->ax->Prop}(b:∀listed a w,L listed a w->wpAny P W X Q g listed a w):∀(f:Nat)(listed:af Bool)(a:Act)(w:ax),Gk P W X Q S n L f listed a w->wpAny P W X Q (f+g) listed a w
 |0,listed,a,w,h=>by rw[uJ];exact b _ _ _ h
 |f+1,listed,a,w,h=>by
  rw[show f+1+g=(f+g)+1 by omega];exact⟨λe=>absurd e h.1,λi j=>wpOp_mono (λc k d=>aeS b f _ c k d.2) (h.2 i j).2⟩
theorem azU{i:Nat}{q:bq}{v:ag}{L:af Bool->Act->ax->Prop}(G:X[i]?=Z q)(V:∀(j:Nat)(o:bq)s b,X[j]?=Z o->o.op≠.select s b)
  (hQ:∀c a w,Q (.panic c) (a.put q.dst v) w->Q (.panic c) a w)
  (T:Region.sinkB W X n=U)(O:Region.chainB W X n=U)(R:n<X.size)(oz:i<n)(Ho:∀listed a w,L listed a w->∀j∈nK W X listed,n<=j):
  ∀(f:Nat)(listed:af Bool)(a:Act)(w:ax),HeadInv W X n listed->
   (∀j r,X[j]?=Z r->j≠i->listed.getD j U=Y->(∀e∈r.after,Region.binds W e=U->e.on≠i)->q.apart X r=U)->
   i∈nK W X listed->YieldsIf P X S q v a->S w->
   Gk P W X Q S n L f (listed.setIfInBounds i U) (a.put q.dst v) w->Gk P W X Q S n L (f+1) listed a w:=by
 intro f;induction f with
 |zero=>
  intro listed a w d _ g A t H;have m:=(mem_ready.1 g).1;refine⟨λh=>(by rw[h]at g;cases g),λj p=>?_⟩;have x:j<n:=by
   rcases Nat.lt_or_ge j n with h|h
   ·exact h
   ·exact absurd p (tail_waits T O R d _ i rfl oz m j h)
  refine⟨x,?_⟩;by_cases l:j=i
  ·subst l;exact A.wpOp G t ⟨t,H⟩
  ·have:=Ho _ _ _ H j (ready_mono p l)
   omega
 |succ f ih=>
  intro listed a w d M g A t H;have m:=(mem_ready.1 g).1;refine⟨λh=>(by rw[h]at g;cases g),λj p=>?_⟩;have x:j<n:=by
   rcases Nat.lt_or_ge j n with h|h
   ·exact h
   ·exact absurd p (tail_waits T O R d _ i rfl oz m j h)
  refine⟨x,?_⟩;by_cases l:j=i
  ·subst l;exact A.wpOp G t ⟨t,H⟩
  ·have y:=(H.2 j (ready_mono p l)).2
   obtain⟨N,r,B,j7⟩:=mem_ready.1 p;have D:∀e∈r.after,Region.binds W e=U->e.on≠i:=λe he hb E=>by
    have y:=j7 e he hb;rw[E,getD_both m]at y;cases y
   have h2:=wpOp_putIf B (M j r B l N D) (λs b=>V i q s b G) (λs b=>V j r s b B) hQ A y;have C:∀k u,X[k]?=Z u->k≠i->(listed.setIfInBounds j U).getD k U=Y->(∀e∈u.after,Region.binds W e=U->e.on≠i)->q.apart X u=U:=λk u hk J m cL=>by
    refine M k u hk J ?_ cL;by_cases K:j=k
    ·subst K;exact N
    ·rw[getD_set_ne U K]at m;exact m
   refine wpOp_mono (λa' w' z=>⟨z.2.1,ih (listed.setIfInBounds j U) a' w' (d.set p x) C (ready_mono g (Ne.symm l)) z.1 z.2.1 ?_⟩) h2;rw[Array.setIfInBounds_comm _ _ l];exact z.2.2
def marks(a:ae Nat)(listed:af Bool):af Bool:=a.foldl (λl i=>l.setIfInBounds i U) listed
def wB(W:Region.Mode)(X:af bq)(n:Nat):ae Nat->af Bool->Bool
 |[],_=>U
 |i::a,listed=>(nK W X listed).contains i&&Region.free W X listed i&&decide (i<n)&&wB W X n a (listed.setIfInBounds i U)
abbrev I2(P:aD)(W:Region.Mode)(X:af bq)(Q:Exit->Act->ax->Prop)(n:Nat)(listed:af Bool)(a:Act)(w:ax):Prop:=Region.seqB W X (X.size-n) n listed=U/\wpOps P X Q (List.range' n (X.size-n)) a w
end
section
variable {P:aD}{X:af bq}{Q:Exit->Act->ax->Prop}{a:Act}{w:ax}{K:Act->ax->Prop}{i:Nat}{o:bq}
end
section
open Go.Conc (G)
section
variable {P:aD}{S:cH}{V:af ag}{Q:ae cz}{W:dQ}{cs:ae aA}{w:ax}{K:ax->Prop}
theorem OW{X a:aA}{d:ax}(c:eV P (G X [])=Z s)(j:∀cs,mj P (G X cs) n=Z (G a cs))(l:s.run P w=.ok n d)(cs:ae aA):step P (lone X cs w)=.next (lone a cs d):=by
 have f:eV P (G X cs)=Z s:=by
  obtain⟨S,V,m,i,rest,k,b,W,g,o,e,p,t,r,q⟩:=ze c;cases e;unfold eV at c⊢;simp only[G]at c⊢;exact c
 have h:s.runT P w #[]=(.ok n d,s.events P w #[]):=by rw[jN,l]
 exact fe (AO (main:=U) f (j cs) h).2
theorem acf{X:aA}(v:ag)(cs:ae aA):mj P (G X cs) (.value v)=Z (G (X.finish v) cs):=rfl
theorem ash{X:aA}(cs:ae aA):mj P (G X cs) .skip=Z (G (X.finish aB) cs):=rfl
theorem asg{X:aA}(d:cz)(cs:ae aA):mj P (G X cs) (.defer d)=Z (G ({X with defers:=d::X.defers}.finish aB) cs):=rfl
end
def Rn(P:aD)(X:aA)(cs:ae aA)(w:ax)(T:aA->ax->Prop):Prop:=∃a b,Steps P (lone X cs w) (lone a cs b)/\T a b
section
variable {P:aD}{X:aA}{cs:ae aA}{w:ax}{T:aA->ax->Prop}
theorem Rn.done(h:T X w):Rn P X cs w T:=⟨X,w,.refl _ _,h⟩
theorem Rn.steps{e:aA}{f:ax}(h:Steps P (lone X cs w) (lone e cs f))(k:Rn P e cs f T):Rn P X cs w T:=let⟨a,b,c,d⟩:=k;⟨a,b,h.trans c,d⟩
theorem Rn.code{c:bH}{k:ae aJ}{V:af ag}{Q:ae cz}{S:cH}{W:dQ}(h:c.wp P (λe a b=>e=.normal/\Rn P ⟨S,a.tmps,k,a.defers,.run,W,I⟩ cs b T) ⟨V,Q⟩ w):Rn P ⟨S,V,.code c::k,Q,.run,W,I⟩ cs w T:=by
 obtain⟨e,a,b,⟨rfl,d⟩,f⟩:=h ⟨S,V,[],Q,.run,W,I⟩ k cs;exact Rn.steps f d
def Fn(P:aD)(f:cH)(a:af ag)(w:ax)(R:ag->ax->Prop):Prop:=Calls P f a w λe b=>∃v,e=.returned v/\R v b
theorem Fn.mono{f:cH}{a:af ag}{R b:ag->ax->Prop}(h:Fn P f a w R)(c:∀v w,R v w->b v w):Fn P f a w b:=Calls.mono h λ_ _⟨v,e,d⟩=>⟨v,e,c v _ d⟩
theorem Fn.of{f:cH}{b:af ag}{R:ag->ax->Prop}(h:∀cs,Rn P (bO P f b .normal) cs w λa c=>a.fn=f/\∃v,a.leaving P c (.returned v)/\R v c):Fn P f b w R:=λcs=>by
 obtain⟨a,c,d,e,v,g,i⟩:=h cs;exact⟨.returned v,c,a,⟨v,F,i⟩,d,e,g⟩
end
end
section
open Go.Conc (G)
abbrev Hp:=af Obj
def oT(H:Hp)(a:aU):aj ag:=match H[a.block]? with
 |some (.cells c _ _)=>if a.spot.isSome then I else c[a.off]?
 |_=>I
def sP(H:Hp)(r:Nat):aj (aK×Nat):=match H[r]? with
 |some (.cells c b _)=>Z (b,c.size)
 |_=>I
def Zn(H:Hp)(a:aU):Bool:=match H[a.block]? with
 |some (.cells _ _ (c,b))=>c<=a.off&&a.off<b
 |_=>Y
def lq(H:Hp)(a:aU)(v:ag):Hp:=H.modify a.block λ
 |.cells c b frozen=>.cells (if a.spot.isSome then c else c.setIfInBounds a.off v) b frozen
 |o=>o
def Rh(P:aD)(W:aA)(X:ae aA)(H:Hp)(V:aA->Hp->Prop):Prop:=∀w:ax,w.heap=H->Rn P W X w λb c=>c.os=w.os/\c.output=w.output/\V b c.heap
def Fh(P:aD)(f:cH)(b:af ag)(H:Hp)(R:ag->Hp->Prop):Prop:=∀w:ax,w.heap=H->Fn P f b w λv c=>c.os=w.os/\c.output=w.output/\R v c.heap
section
variable {P:aD}{W:aA}{X:ae aA}{H:Hp}{V:aA->Hp->Prop}
theorem Rh.done(h:V W H):Rh P W X H V:=λw e=>.done ⟨F,F,e▸h⟩
theorem Rn.post{V e:aA->ax->Prop}(h:Rn P W X w V)(f:∀W w,V W w->e W w):Rn P W X w e:=let⟨a,b,c,d⟩:=h;⟨a,b,c,f a b d⟩
theorem Rh.at{b:ax}(h:Rh P W X b.heap V)(e:b.os=w.os)(f:b.output=w.output):Rn P W X b λc d=>d.os=w.os/\d.output=w.output/\V c d.heap:=
 (h b F).post λ_ _⟨g,j,q3⟩=>⟨g.trans e,j.trans f,q3⟩
theorem Fh.of{b:af ag}{R:ag->Hp->Prop}(h:∀X,Rh P (bO P f b .normal) X H λc d=>c.fn=f/\∃v,(∀w:ax,w.heap=d->c.leaving P w (.returned v))/\R v d):Fh P f b H R:=λw e=>Fn.of λX=>(h X w e).post λ_ m⟨g,j,q3,v,k,l⟩=>⟨q3,v,k m F,g,j,l⟩
end
section
variable {P:aD}{T:af bq}{a:Act}{H:Hp}{K:Act->Hp->Prop}{i:Nat}{o:bq}
end
section
variable {P:aD}{W:aA}{X:ae aA}{H:Hp}{V:aA->Hp->Prop}
end
end
section
variable {H W:Hp}{b i:Nat}{X:af ag}{t:aK}{v x:ag}
theorem aC{o}(h:H[b]?=Z o):b<H.size:=(iy.1 h).1
theorem vK{c}(h:H[b]?=Z (.cells X t c))(d:X[i]?=Z x):oT H ⟨b,i,I⟩=Z x:=by
 unfold oT;simp only[h];exact d
theorem Si(h:H[b]?=Z (.cells X t))(i):Zn H ⟨b,i,I⟩=Y:=by
 unfold Zn;simp[h]
theorem Z5(h:H[b]?=Z (.cells X t))(i)(v):lq H ⟨b,i,I⟩ v=H.setIfInBounds b (.cells (X.setIfInBounds i v) t):=by
 unfold lq;apply zB;intro j;rw[Gm,uF];by_cases e:b=j
 ·grind
 ·simp_all
theorem Z6(h:H[b]?=Z (.cells X t))(i)(v):(lq H ⟨b,i,I⟩ v)[b]?=Z (.cells (X.setIfInBounds i v) t):=by
 rw[Z5 h,kJ (aC h)]
theorem Tc(h:H[b]?=Z (.cells X t)){j}(c:b≠j)(i)(v):(lq H ⟨b,i,I⟩ v)[j]?=H[j]?:=by
 rw[Z5 h,iK c]
theorem Kr(a)(v):(lq H a v).size=H.size:=by simp[lq]
theorem ase{o}:(H.push o)[H.size]?=Z o:=by simp
end
def Row(H:Hp)(e:aK)(c:Nat)(v:ag)(n:Nat)(h:ae ag):Prop:=h.length=n*c/\((v=.slice I 0 0/\n=0)\/∃g d f,v=.slice (Z ⟨g,0,I⟩) n d/\H[g]?=Z (.cells f e)/\n<=d/\d<=maxLen/\f.size=d*c/\f.toList.take (n*c)=h)
theorem acO{e}{h}{v}{n}{o}:Row w.heap e h v n o↔w.ownsRow 0 e h v n o:=by
 constructor
 ·rintro⟨l,m⟩
  exact⟨l,m.imp id λ⟨g,j,k,a,b,c,d,e,f⟩=>⟨g,j,k,a,gJ _,b,c,d,e,f⟩⟩
 ·rintro⟨l,m⟩
  exact⟨l,m.imp id λ⟨g,j,k,a,_,b,c,d,e,f⟩=>⟨g,j,k,a,b,c,d,e,f⟩⟩
theorem Row.lt{H}{e}{c}{v}{n}{l}(h:Row H e c v n l){b}(d:v.ownBlock=Z b):b<H.size:=by
 rcases h.2 with⟨rfl,_⟩|⟨g,f,j,rfl,k,_⟩
 ·cases d
 ·cases d;exact aC k
theorem Row.keep{H W}{e}{c}{v}{n}{j}(h:Row H e c v n j)(l:∀b,v.ownBlock=Z b->W[b]?=H[b]?):Row W e c v n j:=by
 refine⟨h.1,h.2.imp id ?_⟩;rintro⟨g,d,f,rfl,k,r⟩;exact⟨g,d,f,F,by rw[l g F];exact k,r⟩
section
variable {P:aD}{V:af bq}{a:Act}{H:Hp}{K:Act->Hp->Prop}{i:Nat}
end
section
open Go.Conc (G)
inductive En
 |ob (b:Nat) (o:Obj)
 |row (e:aK) (size:Nat) (g:aj Nat) (n cap:Nat) (xs:ae ag)
 |ro (S:Hp) (ex:ae Nat)
abbrev sv(g:aj Nat)(n a:Nat):ag:=.slice (g.map λb=>⟨b,0,I⟩) n a
def En.own:En->Nat->Prop
 |.ob b _,x=>x=b
 |.row _ _ g .. ,x=>g=Z x
 |.ro S a,x=>x<S.size/\x≠8/\x≠10/\x∉a
def En.holds(H:Hp):En->Prop
 |.ob b o=>H[b]?=Z o
 |.row e a g n c f=>Row H e a (sv g n c) n f
 |.ro S d=>S.size<=H.size/\∀x,x<S.size->x≠8->x≠10->x∉d->H[x]?=S[x]?
def Apart(a b:En):Prop:=∀x,a.own x->¬b.own x
structure Kn(L:ae En)(H:Hp):Prop where
 sat:∀e∈L,e.holds H
 nd:L.Pairwise Apart
theorem PU{g}{n a}:(sv g n a).ownBlock=g:=by cases g<;>rfl
theorem En.lt{H}{e:En}{x}(h:e.holds H)(a:e.own x):x<H.size:=by
 cases e with
 |ob b o=>cases a;exact aC h
 |row e c g n d i=>exact Row.lt h (by rw[PU];exact a)
 |ro S f=>exact pA a.1 h.1
theorem En.keep{H a}{e:En}(h:e.holds H)(p:H.size<=a.size)(c:∀x,e.own x->a[x]?=H[x]?):e.holds a:=by
 cases e with
 |ob b o=>exact(c b F).trans h
 |row e l g n m r=>exact Row.keep h λb k=>c b (by rw[PU]at k;exact k)
 |ro S q=>exact⟨rU h.1 p,λx d f i j=>(c x ⟨d,f,i,j⟩).trans (h.2 x d f i j)⟩
theorem Qy{a b}(h:Apart a b):Apart b a:=λx c d=>h x d c
theorem Kn.perm{L L'}{H}(h:Kn L H)(p:L.Perm L'):Kn L' H:=⟨λe a=>h.sat e (p.mem_iff.2 a),(p.pairwise_iff λh=>Qy h).1 h.nd⟩
theorem Kn.left{A B}{H}(h:Kn (A++B) H):Kn A H:=⟨λe a=>h.sat e (IJ _ a),(CH.1 h.nd).1⟩
theorem Kn.set{A B}{e e'}{H d}(h:Kn (A++e::B) H)(w:e'.holds d)(p:∀x,e'.own x->e.own x\/H.size<=x)(u:H.size<=d.size)(s:∀x,x<H.size->¬e.own x->d[x]?=H[x]?):Kn (A++e'::B) d:=by
 have j:=h.nd;rw[CH,mQ]at j;obtain⟨l,⟨m,n⟩,o⟩:=j;have q:=λa f=>o a f e (eX ..);have v:∀a,a∈A\/a∈B->a.holds d/\Apart a e':=λa f=>by
  have k:=f.elim (q a) λc=>Qy (m a c);have i:=h.sat a (by
   grind)
  exact⟨En.keep i u λx g=>s x (En.lt i g) (k x g),λx g r=>(p x r).elim (k x g) λt=>absurd (En.lt i g) (Nat.not_lt.2 t)⟩
 refine⟨λa f=>?_,?_⟩
 ·grind
 ·rw[CH,mQ]
  refine⟨l,⟨λb c=>Qy (v b (.inr c)).2,n⟩,λa f b c=>?_⟩;rcases bM.1 c with rfl|c
  ·simp_all
  ·simp_all
theorem PN{L}{i}{e:En}(h:L[i]?=Z e):∃A B,L=A++e::B/\∀a,L.set i a=A++a::B:=by
 obtain⟨c,b⟩:=dq.1 h;refine⟨L.take i,L.drop (i+1),?_,λa=>?_⟩
 ·rw[<-b,List.getElem_cons_drop,List.take_append_drop]
 ·rw[List.set_eq_take_append_cons_drop,if_pos c]
theorem yf{L c}{i}{e b}{H a}(h:Kn (L++c) H)(g:L[i]?=Z e)(d:b.holds a)(f:∀x,b.own x->e.own x\/H.size<=x)(k:H.size<=a.size)(j:∀x,x<H.size->¬e.own x->a[x]?=H[x]?):Kn (L.set i b++c) a:=by
 obtain⟨A,B,rfl,lq⟩:=PN g;rw[lq];rw[iL]at h⊢;exact Kn.set h d f k j
theorem Kn.at{L a}{e}{H}(h:Kn (L++a) H)(b:L[i]?=Z e):e.holds H:=h.sat e (IJ _ (jZ b))
theorem Kn.push{L c}{H}(h:Kn (L++c) H)(o):Kn (L++[.ob H.size o]++c) (H.push o):=by
 refine Kn.perm ?_ (by simpa using(qf).symm);refine⟨λe a=>?_,mQ.2 ⟨λe a x b d=>?_,h.nd⟩⟩
 ·rcases bM.1 a with rfl|a
  ·exact ase
  ·refine En.keep (h.sat e a) ba λx b=>?_
   rw[Gn,if_neg (Nat.ne_of_lt (En.lt (h.sat e a) b))]
 ·cases b
  exact Nat.lt_irrefl _ (En.lt (h.sat e a) d)
inductive Aw(P:aD):Type
 |k (i:Nat)
 |r (i:Nat) (xs:ae ag) (j:Nat) (x:ag) (p:xs[j]?=Z x)
 |d
 |e (x y:ag) (p:x=y)
 |s (x:Sem Next) (n:Next) (p:∀w,x.run P w=.ok n w)
 |m (i:Nat) (b:Nat) (o:Obj) (x:Sem Next) (n:Next) (p:∀w:ax,w.heap[b]?=Z o->x.run P w=.ok n w)
 |u (i:Nat) (b:Nat) (o o':Obj) (x:Sem Next) (n:Next) (p:∀w:ax,w.heap[b]?=Z o->x.run P w=.ok n {w with heap:=w.heap.setIfInBounds b o'})
 |g
 |x
instance{P:aD}{n:Nat}:OfNat (Aw P) n:=⟨.k n⟩
inductive Pr
 |n (x y:Nat)
 |v (x y:ag)
 |b (x y:Bool)
 |s (x y:Sem Next)
 |g (x y:aj Nat)
 |l (x y:ae ag)
 |o (x y:Obj)
def Pr.rf:Pr->Pr
 |.n x _=>.n x x
 |.v x _=>.v x x
 |.b x _=>.b x x
 |.s x _=>.s x x
 |.g x _=>.g x x
 |.l x _=>.l x x
 |.o x _=>.o x x
def Pr.ok:Pr->Prop
 |.n x y=>x=y
 |.v x y=>x=y
 |.b x y=>x=y
 |.s x y=>x=y
 |.g x y=>x=y
 |.l x y=>x=y
 |.o x y=>x=y
theorem ae9{p:Pr}(h:p=p.rf):p.ok:=by cases p<;>(simp only[Pr.rf]at h;cases h;rfl)
theorem zh{c:ae Pr}(h:c=c.map Pr.rf):∀p∈c,p.ok:=by
 induction c with
 |nil=>intro p b;cases b
 |cons a c d=>
  simp only[fw,List.cons.injEq]at h;intro p b;rcases bM.1 b with rfl|b
  ·exact ae9 h.1
  ·exact d h.2 p b
inductive Md
 |r
 |w
 |n (z:Nat)
def Md.wr:Md->Bool
 |.r=>Y
 |_=>U
def sE{α}(P):Sem α->Md->ae En->ae (Aw P)->ae Pr->aj (α×Md×ae En×ae (Aw P)×ae Pr)
 |.pure x,z,L,d,f=>Z (x,z,L,d,f)
 |.program k,z,L,d,f=>sE P (k P) z L d f
 |.mark _ k,z,L,d,f=>sE P k z L d f
 |.new o k,.n z,L,d,f=>sE P (k z) (.n (z+1)) (L++[.ob z o]) d f
 |.load _ a k,z,L,.k i::d,f=>
  match L[i]?,a with
  |some (.ob b (.cells c .. )),⟨l,h,I⟩=>
   match c[h]? with
   |some x=>sE P (k x) z L d (.n l b::f)
   |none=>I
  |_,_=>I
 |.load _ a k,z,L,.r i m j x _::d,f=>
  match L[i]?,a with
  |some (.row _ _ g _ _ p),⟨l,h,I⟩=>sE P (k x) z L d (.g (Z l) g::.n h j::.l p m::f)
  |some (.ob b (.cells c .. )),⟨l,h,I⟩=>sE P (k x) z L d (.n l b::.n h j::.l c.toList m::f)
  |_,_=>I
 |.store _ a v k,z,L,.k i::d,f=>
  match L[i]?,a,z.wr with
  |some (.ob b (.cells c t (0,0))),⟨l,h,I⟩,U=>
   match c[h]? with
   |some _=>sE P k z (L.set i (.ob b (.cells (c.setIfInBounds h v) t))) d (.n l b::.b v.oneCell' U::f)
   |none=>I
  |_,_,_=>I
 |.store _ a v k,z,L,.r i m j .. ::d,f=>
  match L[i]?,a,z.wr with
  |some (.row e s g n q p),⟨l,h,I⟩,U=>sE P k z (L.set i (.row e s g n q (p.set j v))) d (.g (Z l) g::.n h j::.l p m::.b v.oneCell' U::f)
  |_,_,_=>I
 |.shape r k,z,L,.k i::d,f=>
  match L[i]? with
  |some (.ob b (.cells c t _))=>sE P (k (Z (t,c.size))) z L d (.n r b::f)
  |_=>I
 |.frozen a k,z,L,.k i::d,f=>
  match L[i]? with
  |some (.ob b (.cells _ _ (0,0)))=>sE P (k Y) z L d (.n a.block b::f)
  |_=>I
 |.getObj r k,z,L,.k i::d,f=>
  match L[i]? with
  |some (.ob _ (.cells ..))=>I
  |some (.ob b o)=>sE P (k o) z L d (.n r b::f)
  |_=>I
 |.setObj r o k,z,L,.k i::d,f=>
  match L[i]?,z.wr with
  |some (.ob _ (.cells ..)),_=>I
  |some (.ob b _),U=>sE P k z (L.set i (.ob b o)) d (.n r b::f)
  |_,_=>I
 |_,_,_,_,_=>I
theorem Pg{H}{e}{b}{g}{n c j f:Nat}{d}{x}(h:Row H e b (sv g n c) n d)(l:Z f=g)(s:d[j]?=Z x):∃a,H[f]?=Z (.cells a e)/\a[j]?=Z x/\a.toList.take (n*b)=d/\c<=maxLen/\n<=c/\a.size=c*b:=by
 subst l;rcases h.2 with⟨k,_⟩|⟨g,i,a,k,m,o,p,q,r⟩
 ·cases k
 ·grind
theorem acP{H}{e}{b}{g}{n c j d}{f}{x}(h:Row H e b (sv g n c) n f)(k:Z d=g)(q:f[j]?=Z x)(v):∃a,H[d]?=Z (.cells a e)/\a[j]?=Z x/\Row (lq H ⟨d,j,I⟩ v) e b (sv g n c) n (f.set j v):=by
 obtain⟨a,i,l,m,o,p,r⟩:=Pg h k q;subst k;refine⟨a,i,l,by rw[wJ];exact h.1,.inr ⟨d,c,a.setIfInBounds j v,F,Z6 i j v,p,o,by simp_all,?_⟩⟩;rw[Array.toList_setIfInBounds,List.take_set,m]
theorem AS:∀(s:Sem α)(z V:Md)(L S O:ae En)(C gm:ae (Aw P))(ps W:ae Pr)(y:α)(w:ax),sE P s z L C ps=Z (y,V,S,gm,W)->(∀p∈W,p.ok)->Kn (L++O) w.heap->(∀x,z=.n x->w.heap.size=x)->∃d,s.run P w=.ok y d/\d.os=w.os/\d.output=w.output/\Kn (S++O) d.heap/\(∀x,V=.n x->d.heap.size=x)/\(∀p∈ps,p.ok):=by
 intro s;induction s with
 |pure x=>intro z V L S O C gm ps W y w h l q M;cases h;exact⟨w,F,F,F,q,M,l⟩
 |program k R=>intro z V L S O C gm ps W y w h l q M;exact R P z _ L _ _ _ _ _ _ y w h l q M
 |mark m k R=>intro z V L S O C gm ps W y w h l q M;exact R z _ L _ _ _ _ _ _ y w h l q M
 |new o k R=>
  intro z V L S O C gm ps W y w h l q M;cases z with
  |r=>simp[sE]at h
  |w=>simp[sE]at h
  |n x=>
   have e:=M x F;subst e;obtain⟨d,E,G,H,J⟩:=R _ _ _ _ _ _ _ _ _ _ y {w with heap:=w.heap.push o} h l (Kn.push q o) (λx e=>by cases e;simp);exact⟨d,E,G,H,J⟩
 |load m a k R=>
  intro z V L S O C gm ps W y w h l q M;have go:∀(x:ag)(C:ae (Aw P))(rM:ae Pr),w.cell? a=Z x->sE P (k x) z L C rM=Z (y,V,S,gm,W)->∃d,(Sem.load m a k).run P w=.ok y d/\d.os=w.os/\d.output=w.output/\Kn (S++O) d.heap/\(∀x,V=.n x->d.heap.size=x)/\(∀p∈rM,p.ok):=λx C rM hc h=>by
   obtain⟨d,E,G⟩:=R x z _ L _ _ _ _ _ _ y w h l q M;exact⟨d,by simp only[bP,hc];exact E,G⟩
  have ε:∀(x:ag)(C:ae (Aw P))(rM:ae Pr),sE P (k x) z L C rM=Z (y,V,S,gm,W)->∀p∈rM,p.ok:=λx C rM h=>by
   grind
  cases C with
  |nil=>simp[sE]at h
  |cons a0 C=>
   cases a0<;>first|(simp[sE]at h;done)|simp only[sE]at h|unfold sE at h
   ·split at h
    ·rename_i b c t f ab N D
     split at h
     ·rename_i x K
      have dS:=ε x _ _ h;have e:ab=b:=dS _ (eX ..);subst e;have hb:w.heap[ab]?=Z (.cells c t f):=q.at D;obtain⟨d,E,G,H,J,Q,u⟩:=go x _ _ (by
       show oT w.heap ⟨ab,N,I⟩=Z x;exact vK hb K) h
      exact⟨d,E,G,H,J,Q,λp l=>u p (eK _ l)⟩
     ·cases h
    ·cases h
   ·rename_i i xs j x xq
    split at h
    ·rename_i g n β T ab N D
     have dS:=ε x _ _ h;have X:=dS _ (eX ..);have e2:=dS _ (eK _ (eX ..));have e3:=dS _ (eK _ (eK _ (eX ..)));simp only[Pr.ok]at X e2 e3;subst e2 e3;obtain⟨δ,q1,q2,_⟩:=Pg (q.at D) X xq;obtain⟨d,E,G,H,J,Q,u⟩:=go x _ _ (vK q1 q2) h;exact⟨d,E,G,H,J,Q,λp l=>u p (by simp[l])⟩
    ·rename_i b c t f ab N D
     have dS:=ε x _ _ h;have X:=dS _ (eX ..);have e2:=dS _ (eK _ (eX ..));have e3:=dS _ (eK _ (eK _ (eX ..)));simp only[Pr.ok]at X e2 e3;subst X e2 e3;have hb:w.heap[ab]?=Z (.cells c t f):=q.at D;obtain⟨d,E,G,H,J,Q,u⟩:=go x _ _ (vK hb (by simp_all)) h;exact⟨d,E,G,H,J,Q,λp l=>u p (by simp[l])⟩
    ·cases h
 |store m a v k R=>
  intro z V L S O C gm ps W y w h l q M;cases C with
  |nil=>simp[sE]at h
  |cons a0 C=>
   cases a0<;>first|(simp[sE]at h;done)|simp only[sE]at h|unfold sE at h
   ·rename_i i
    split at h
    ·rename_i b c t ab N D uh
     split at h
     ·rename_i x K
      have qJ:w.heap[b]?=Z (.cells c t):=q.at D;have hK:Kn (L.set i (.ob b (.cells (c.setIfInBounds N v) t))++O) (lq w.heap ⟨b,N,I⟩ v):=by
       refine yf q D (Z6 qJ _ v) (λx K=>.inl K) (by rw[Kr];exact dt _) λx _ K=>?_;exact Tc qJ (λe=>K e.symm) _ v
      obtain⟨d,E,G,H,J,Q,u⟩:=R z _ _ _ _ _ _ _ _ y (w.setCell ⟨b,N,I⟩ v) h l hK (λx e=>by
       simp_all)
      have e:ab=b:=u _ (eX ..);have X:v.oneCell'=U:=u _ (eK _ (eX ..));subst e;refine⟨d,?_,G,H,J,Q,λp l=>u p (by simp[l])⟩;rw[aee X (vK qJ K) (Si qJ _)];exact E
     ·cases h
    ·cases h
   ·rename_i i xs j x xq
    split at h
    ·rename_i e sz g n β T ab N D uh
     have γ:∀H',Kn (L.set i (.row e sz g n β (T.set j v))++O) H'->H'.size=w.heap.size->∃d,k.run P {w with heap:=H'}=.ok y d/\d.os=w.os/\d.output=w.output/\Kn (S++O) d.heap/\(∀x,V=.n x->d.heap.size=x)/\(∀p∈(Pr.g (Z ab) g::.n N j::.l T xs::.b v.oneCell' U::ps),p.ok):=λH' hK hs=>
      R z _ _ _ _ _ _ _ _ y _ h l hK (λx e=>by simp_all)
     cases g with
     |none=>
      have hr:Row w.heap e sz (sv I n β) n T:=q.at D;rcases hr.2 with⟨_,hn⟩|⟨g,ζ,δ,X,_⟩
      ·have hl:=hr.1
       rw[hn,Nat.zero_mul]at hl;have SS:T=[]:=zC hl;subst SS;have RG:L.set i (.row e sz I n β ([].set j v))=L:=by
        obtain⟨A,B,eL,lq⟩:=PN D;rw[lq,eL];rfl
       obtain⟨d,_,_,_,_,_,u⟩:=γ _ (by rw[RG];exact q) rfl;have X:=u _ (eX ..);simp[Pr.ok]at X
      ·simp[sv]at X
     |some g=>
      have hr:Row w.heap e sz (sv (Z g) n β) n T:=q.at D;by_cases hy:T[j]?=Z x
      ·obtain⟨δ,q1,q2,q3⟩:=acP hr F hy v
       obtain⟨d,E,G,H,J,Q,u⟩:=γ _ (yf q D q3 (λx K=>.inl K) (by rw[Kr];exact dt _) λx _ K=>Tc q1 (λe=>K (by rw[<-e];rfl)) j v) (by rw[Kr]);have X:=u _ (eX ..);have e2:=u _ (eK _ (eX ..));have e4:v.oneCell'=U:=u (.b v.oneCell' U) ba;simp only[Pr.ok,gB]at X e2;subst X e2;refine⟨d,?_,G,H,J,Q,λp l=>u p (by simp[l])⟩;rw[aee e4 (vK q1 q2) (Si q1 _)];exact E
      ·have hj:T.length<=j\/j<T.length:=Nat.lt_or_ge j _|>.symm
       rcases hj with hj|hj
       ·have hs:T.set j v=T:=List.set_eq_of_length_le hj
        have RG:L.set i (.row e sz (Z g) n β (T.set j v))=L:=by
         obtain⟨A,B,eL,lq⟩:=PN D;rw[lq,eL,hs]
        obtain⟨d,_,_,_,_,_,u⟩:=γ _ (by rw[RG];exact q) rfl;have e3:T=xs:=u (.l T xs) ba;subst e3;exact absurd xq hy
       ·obtain⟨x0,nG⟩:∃x0,T[j]?=Z x0:=⟨_,eI hj⟩
        obtain⟨δ,q1,q2,q3⟩:=acP hr rfl nG v;obtain⟨d,E,G,H,J,Q,u⟩:=γ _ (yf q D q3 (λx K=>.inl K) (by rw[Kr];exact dt _) λx _ K=>Tc q1 (λe=>K (by rw[<-e];rfl)) j v) (by rw[Kr]);have e3:T=xs:=u (.l T xs) ba;subst e3;exact absurd xq hy
    ·cases h
 |shape r k R=>
  intro z V L S O C gm ps W y w h l q M;cases C with
  |nil=>simp[sE]at h
  |cons a0 C=>
   cases a0<;>first|(simp[sE]at h;done)|simp only[sE]at h|unfold sE at h
   split at h
   ·rename_i b c t f D
    obtain⟨d,E,G,H,J,Q,u⟩:=R _ z _ L _ _ _ _ _ _ y w h l q M;have e:r=b:=u _ (eX ..);subst e;have hb:w.heap[r]?=Z (.cells c t f):=q.at D;refine⟨d,?_,G,H,J,Q,λp l=>u p (eK _ l)⟩;have hs:w.shape? r=Z (t,c.size):=by unfold fF;rw[hb]
    simp only[bP,hs];exact E
   ·cases h
 |frozen a k R=>
  intro z V L S O C gm ps W y w h l q M;cases C with
  |nil=>simp[sE]at h
  |cons a0 C=>
   cases a0<;>first|(simp[sE]at h;done)|simp only[sE]at h|unfold sE at h
   split at h
   ·rename_i b c t D
    obtain⟨d,E,G,H,J,Q,u⟩:=R _ z _ L _ _ _ _ _ _ y w h l q M;have e:a.block=b:=u _ (eX ..);have hb:w.heap[b]?=Z (.cells c t):=q.at D;refine⟨d,?_,G,H,J,Q,λp l=>u p (eK _ l)⟩;have hs:w.frozen? a=Y:=by unfold qj;rw[e,hb];simp
    simp only[bP,hs];exact E
   ·cases h
 |getObj r k R=>
  intro z V L S O C gm ps W y w h l q M;cases C with
  |nil=>simp[sE]at h
  |cons a0 C=>
   cases a0<;>first|(simp[sE]at h;done)|simp only[sE]at h|unfold sE at h
   split at h
   ·cases h
   ·rename_i b o cL D
    obtain⟨d,E,G,H,J,Q,u⟩:=R o z _ L _ _ _ _ _ _ y w h l q M;have e:r=b:=u _ (eX ..);subst e;have hb:w.heap[r]?=Z o:=q.at D;refine⟨d,?_,G,H,J,Q,λp l=>u p (eK _ l)⟩;cases o<;>first|exact absurd rfl (cL _ _ _ _)|exact absurd rfl (cL _ _ _)|(simp only[bP,hb];exact E)
   ·cases h
 |setObj r o k R=>
  intro z V L S O C gm ps W y w h l q M;cases C with
  |nil=>simp[sE]at h
  |cons a0 C=>
   cases a0<;>first|(simp[sE]at h;done)|simp only[sE]at h|unfold sE at h
   rename_i i;split at h
   ·cases h
   ·rename_i b o0 cL D uh
    have hb:w.heap[b]?=Z o0:=q.at D;have hK:Kn (L.set i (.ob b o)++O) (w.heap.setIfInBounds b o):=yf q D (by show(w.heap.setIfInBounds b o)[b]?=Z o;rw[kJ (aC hb)]) (λx K=>.inl K) ba λx _ K=>by
     rw[iK (λe=>K e.symm)]
    obtain⟨d,E,G,H,J,Q,u⟩:=R z _ _ _ _ _ _ _ _ y {w with heap:=w.heap.setIfInBounds b o} h l hK (λx e=>by simpa using M x e);have e:r=b:=u _ (eX ..);subst e;refine⟨d,?_,G,H,J,Q,λp l=>u p (eK _ l)⟩;cases o0<;>first|exact absurd rfl (cL _ _ _ _)|exact absurd rfl (cL _ _ _)|(simp only[bP,hb];exact E)
   ·cases h
 |_=>intro z V L S O C gm ps W y w h l q M;simp[sE]at h
theorem AT{α}{P}:∀(s:Sem α)(z)(L)(a)(c)(r),sE P s z L a c=Z r->∀p∈c,p∈r.2.2.2.2:=by
 intro s;induction s with
 |pure x=>intro z L a c r h p d;cases h;exact d
 |program k b=>intro z L a c r h;exact b P z L _ _ r h
 |mark m k b=>intro z L a c r h;exact b z L _ _ r h
 |new o k b=>
  intro z L a c r h;cases z with
  |r=>simp[sE]at h
  |w=>simp[sE]at h
  |n x=>exact b _ _ _ _ _ r h
 |_=>
  rename_i b;intro z L a c r h p d;cases a with
  |nil=>simp[sE]at h
  |cons a0 a=>
   cases a0<;>first|(done)|simp only[]at h|unfold sE at h
   all_goals
    repeat'(split at h)
    all_goals first
     |(cases h;done)
     |exact b _ _ _ _ _ _ h p (by simp[d])
     |exact b _ _ _ _ _ h p (by simp[d])
theorem F7{α}{P}:∀(s:Sem α)(L)(l)(B)(r)(w z),sE P s .r L l B=Z r->s.run P w=.ok r.1 z->Kn L w.heap->(∀p∈r.2.2.2.2,p.ok)->z=w/\r.2.1=.r/\r.2.2.1=L:=by
 intro s;induction s with
 |pure x=>intro L l B r w z h d u q;cases h;cases d;exact⟨F,F,F⟩
 |program k y=>intro L l B r w z h d;exact y P L _ _ r w _ h d
 |mark m k y=>intro L l B r w z h d;exact y L _ _ r w _ h d
 |new o k y=>intro L l B r w z h;simp[sE]at h
 |load m a k y=>
  intro L l B r w z h d u q;cases l with
  |nil=>simp[sE]at h
  |cons a0 l=>
   cases a0<;>first|(simp[sE]at h;done)|simp only[]at h|unfold sE at h
   · repeat'(split at h)
     all_goals first|(cases h;done)|skip
     rename_i b c t f E v A _ x T;have C:=AT _ _ _ _ _ _ h;have e:=q _ (C _ (eX ..));subst e;have D:=u.sat _ (jZ A);have K:w.cell? ⟨E,v,I⟩=Z x:=vK D T;simp only[bP,K]at d;exact y x L _ _ r w _ h d u q
   ·rename_i i Q j x O
    repeat'(split at h)
    all_goals first|(cases h;done)|skip
    ·rename_i e sz g n R ys E v A
     have C:=AT _ _ _ _ _ _ h;have G:=q _ (C _ (eX ..));have H:=q (.n v j) (C _ ba);have J:=q (.l ys Q) (C _ ba);simp only[Pr.ok]at G H J;subst H J;obtain⟨S,V,W,_⟩:=Pg (u.sat _ (jZ A)) G O;have K:w.cell? ⟨E,v,I⟩=Z x:=vK V W;simp only[bP,K]at d;exact y x L _ _ r w _ h d u q
    ·rename_i b c t f E v A
     have C:=AT _ _ _ _ _ _ h;have G:=q _ (C _ (eX ..));have H:=q (.n v j) (C _ ba);have J:=q (.l c.toList Q) (C _ ba);simp only[Pr.ok]at G H J;subst G H J;have D:w.heap[E]?=Z (.cells c t f):=u.sat _ (jZ A);have K:w.cell? ⟨E,v,I⟩=Z x:=vK D (by rw[<-Cy];exact O);simp only[bP,K]at d;exact y x L _ _ r w _ h d u q
 |shape rr k y=>
  intro L l B r w z h d u q;cases l with
  |nil=>simp[sE]at h
  |cons a0 l=>
   cases a0<;>first|(simp[sE]at h;done)|simp only[sE]at h|unfold sE at h
   repeat'(split at h)
   all_goals first|(cases h;done)|skip
   rename_i b c t f A;have e:rr=b:=q _ (AT _ _ _ _ _ _ h _ (eX ..));subst e;have D:w.heap[rr]?=Z (.cells c t f):=u.sat _ (jZ A);have M:w.shape? rr=Z (t,c.size):=by unfold fF;rw[D]
   simp only[bP,M]at d;exact y _ L _ _ r w _ h d u q
 |frozen a k y=>
  intro L l B r w z h d u q;cases l with
  |nil=>simp[sE]at h
  |cons a0 l=>
   cases a0<;>first|(simp[sE]at h;done)|simp only[sE]at h|unfold sE at h
   repeat'(split at h)
   all_goals first|(cases h;done)|skip
   rename_i b c t A;have e:a.block=b:=q _ (AT _ _ _ _ _ _ h _ (eX ..));have D:w.heap[b]?=Z (.cells c t):=u.sat _ (jZ A);have M:w.frozen? a=Y:=by unfold qj;rw[e,D];simp
   simp only[bP,M]at d;exact y _ L _ _ r w _ h d u q
 |getObj rr k y=>
  intro L l B r w z h d u q;cases l with
  |nil=>simp[sE]at h
  |cons a0 l=>
   cases a0<;>first|(simp[sE]at h;done)|simp only[sE]at h|unfold sE at h
   repeat'(split at h)
   all_goals first|(cases h;done)|skip
   rename_i b o N A;have e:rr=b:=q _ (AT _ _ _ _ _ _ h _ (eX ..));subst e;have D:w.heap[rr]?=Z o:=u.sat _ (jZ A);have X:(k o).run P w=.ok r.1 z:=by
    cases o<;>first|exact absurd rfl (N _ _ _ _)|exact absurd rfl (N _ _ _)|(simp only[bP,D]at d;exact d)
   exact y _ L _ _ r w _ h X u q
 |_=>
  intro L l B r w z h;cases l with
  |nil=>simp[sE]at h
  |cons a0 l=>
   cases a0<;>first|(simp[sE]at h;done)|simp only[sE]at h|unfold sE at h
   all_goals simp only[Md.wr]at h
   all_goals repeat'(split at h)
   all_goals first|(cases h;done)|simp_all
end
variable {L:ae En}{R:ag->ae En->Prop}
section
open Go.Conc (G)
abbrev Env:=ae (Nat×ag)
def lk:Env->Nat->aj ag
 |[],_=>I
 |(k,v)::l,t=>match Nat.beq k t with
  |true=>Z v
  |false=>lk l t
def JB(env:Env):iP->aj ag
 |.tmp t=>lk env t
 |.const v=>Z v
 |.global g=>Z (.pointer (Z ⟨g,0,I⟩))
 |.func f=>Z (.func (.func f) #[] #[])
def pY(env:Env)(o:iP):ag:=match JB env o with
 |some v=>v
 |none=>aB
def HY:Op->Bool
 |.select .. =>Y
 |_=>U
def rI(env:Env)(o:bq):Bool:=HY o.op&&o.op.operands.toList.all λx=>(JB env x).isSome
def wD(e:af bq)(env:Env)(o:bq):aj Bool:=match o.guard with
 |none=>Z U
 |some (j,a)=>match(e[j]?).bind (·.dst)with
  |none=>Z Y
  |some d=>match lk env d with
   |some (.bool b)=>Z (b==a)
   |some _=>Z Y
   |none=>I
def F2(N:Nat)(env:Env)(a:aj Tmp)(v:ag):aj Env:=match a with
 |none=>Z env
 |some d=>match Nat.ble (d+1) N with
  |true=>Z ((d,v)::env)
  |false=>I
structure gK(N:Nat)(env:Env)(tmps:af ag):Prop where
 size:tmps.size=N
 get:∀t v,lk env t=Z v->tmps.getD t aB=v
section
variable {N:Nat}{env V:Env}{tmps:af ag}
theorem G7{fr:aA}(h:gK N env fr.tmps){o:iP}{v:ag}(a:JB env o=Z v):fr.eval o=v:=by
 cases o with
 |tmp t=>exact h.get t v a
 |const x=>cases a;rfl
 |global g=>cases a;rfl
 |func f=>cases a;rfl
theorem Ll{fr:aA}(h:gK N env fr.tmps)(a:rI env o=U):∀x∈o.op.operands,fr.eval x=pY env x:=λx d=>by
 unfold rI at a;rw[gT,Ei]at a;have:=a.2 x (by simpa using d);obtain⟨v,b⟩:=A7.1 this;rw[G7 h b];unfold pY;rw[b]
theorem zz{e:af bq}{b:Bool}(h:gK N env tmps)(a:wD e env o=Z b):wO o (yielded e tmps)=b:=by
 unfold wD at a;unfold wO;split at a
 ·rename_i g;rw[g];cases a;rfl
 ·rename_i j k g
  rw[g];dsimp only
  unfold yielded;split at a
  ·rename_i f
   rw[f];cases a;rfl
  ·rename_i d f
   rw[f];split at a
   ·rename_i x i
    have:=h.get d _ i;cases a;cases ht:tmps[d]? with
    |none=>rw[nJ,ht]at this;cases this
    |some y=>
     rw[nJ,ht]at this;simp only[rV]at this;subst this;simp[ht]
   ·rename_i v l i
    have:=h.get d _ i;cases a;cases ht:tmps[d]? with
    |none=>simp[ht]
    |some y=>
     rw[nJ,ht]at this;simp only[rV]at this;subst this;simp only[wN,ht];cases y<;>first|rfl|exact absurd rfl (l _)
   ·cases a
theorem TQ{d t:Nat}{v:ag}:lk ((d,v)::env) t=if d=t then Z v else lk env t:=by
 show(match Nat.beq d t with
  |true=>Z v
  |false=>lk env t)=_
 cases h:Nat.beq d t with
 |true=>rw[if_pos (CI h)]
 |false=>rw[if_neg (Nat.ne_of_beq_eq_false h)]
def AY(tmps:af ag)(a:aj Tmp)(v:ag):af ag:=match a with
 |some d=>tmps.setIfInBounds d v
 |none=>tmps
theorem oL{dst:aj Tmp}{v:ag}(h:gK N env tmps)(a:F2 N env dst v=Z V):gK N V (AY tmps dst v):=by
 cases dst with
 |none=>cases a;exact h
 |some d=>
  simp only[F2]at a;split at a
  ·rename_i f
   cases a;have f:d<N:=zH f;refine⟨by simp[AY,h.size],λt x b=>?_⟩;rw[TQ]at b;simp only[AY];split at b
   ·rename_i e
    cases b;subst e;rw[nJ,kJ (by rw[h.size];exact f)];rfl
   ·rename_i e
    rw[nJ,iK e,<-nJ];exact h.get t x b
  ·cases a
end
def abv:Op->Bool
 |.indexAddr .. |.index .. |.slice .. |.lookup .. |.mapUpdate .. |.mapEntry .. |.entryStore .. |.insert .. |.binOp .. =>U
 |.call c=>match c.callee with
  |.builtin .len=>Y
  |_=>U
 |_=>Y
def ctl:ae aJ->aj (ae aJ)
 |.code .skip::k|.code (.label _)::k|.inBlock _::k|.inScope _::k|.inRegion _ []::k=>Z k
 |.code (.seq a b)::k=>Z (.code a::.code b::k)
 |.code (.block id d)::k=>Z (.code d::.inBlock id::k)
 |.code (.scope d)::k=>Z (.code d::.inScope d::k)
 |.code (.exit id)::k=>exitTo id k
 |.code (.region _ e Y)::k=>Z (.inRegion e (qh e.size)::k)
 |_=>I
structure Cf(P:aD)where
 todo:ae aJ
 ds:ae cz
 env:Env
 L:ae En
 z:Md
 an:ae (Aw P)
 ps:ae Pr
section
variable {P:aD}
def fin(N:Nat)(c:Cf P)(a:aj Tmp)(v:ag)(t:ae aJ):aj (Cf P):=match F2 N c.env a v with
 |some env=>Z ⟨t,c.ds,env,c.L,c.z,c.an,c.ps⟩
 |none=>I
def xL(N:Nat)(c:Cf P)(a:aj Tmp)(n:Next)(t:ae aJ):aj (Cf P):=match n with
 |.value v=>fin N c a v t
 |.skip=>fin N c a aB t
 |.defer d=>fin N ⟨c.todo,d::c.ds,c.env,c.L,c.z,c.an,c.ps⟩ a aB t
 |_=>I
def F6(c:Cf P)(s:Sem Next)(a:ae (Aw P)):aj (Next×Cf P):=match sE P s c.z c.L a c.ps with
 |some (n,z,L,a,b)=>Z (n,⟨c.todo,c.ds,c.env,L,z,a,b⟩)
 |none=>I
def Ca(N:Nat)(c:Cf P)(o:bq)(t:ae aJ):aj (Cf P):=
 let s:=cN (pY c.env) o
 match abv o.op,c.an with
 |false,a=>match F6 c s a with
  |some (n,c)=>xL N c o.dst n t
  |none=>I
 |true,.d::a=>match F6 c s a with
  |some (n,c)=>xL N c o.dst n t
  |none=>I
 |true,.e x y _::a=>match F6 c s a with
  |some (.value v,c)=>fin N ⟨c.todo,c.ds,c.env,c.L,c.z,c.an,.v v x::c.ps⟩ o.dst y t
  |_=>I
 |true,.s x n _::a=>xL N ⟨c.todo,c.ds,c.env,c.L,c.z,a,.s s x::c.ps⟩ o.dst n t
 |true,.m i b f x n _::a=>match c.L[i]? with
  |some (.ob d e)=>xL N ⟨c.todo,c.ds,c.env,c.L,c.z,a,.s s x::.n d b::.o e f::c.ps⟩ o.dst n t
  |_=>I
 |true,.u i b f g x n _::a=>match c.L[i]? with
  |some (.ob d e)=>xL N ⟨c.todo,c.ds,c.env,c.L.set i (.ob b g),c.z,a,.s s x::.n d b::.o e f::c.ps⟩ o.dst n t
  |_=>I
 |_,_=>I
def mS(N:Nat)(c:Cf P):aj (Cf P):=
 match c.todo with
 |.inRegion a (i::rest)::k=>
  match a[i]? with
  |none=>I
  |some o=>match wD a c.env o with
   |none=>I
   |some Y=>fin N c o.dst aB (.inRegion a rest::k)
   |some U=>match rI c.env o with
    |false=>I
    |true=>Ca N c o (.inRegion a rest::k)
 |.code (.cond q x y)::k=>match JB c.env q with
  |some (.bool U)=>Z ⟨.code x::k,c.ds,c.env,c.L,c.z,c.an,c.ps⟩
  |some (.bool Y)=>Z ⟨.code y::k,c.ds,c.env,c.L,c.z,c.an,c.ps⟩
  |_=>I
 |.code (.loop b)::k=>match c.an with
  |.g::e=>Z ⟨.code b::.inLoop b::k,c.ds,c.env,c.L,c.z,e,c.ps⟩
  |_=>I
 |.inLoop b::k=>match c.an with
  |.g::e=>Z ⟨.code b::.inLoop b::k,c.ds,c.env,c.L,c.z,e,c.ps⟩
  |_=>I
 |d=>match ctl d with
  |some t=>Z ⟨t,c.ds,c.env,c.L,c.z,c.an,c.ps⟩
  |none=>I
def PR:ae (Aw P)->Bool
 |[.x]=>U
 |_=>Y
def mE(N:Nat):Nat->Cf P->Cf P
 |0,c=>c
 |n+1,c=>match PR c.an with
  |true=>⟨c.todo,c.ds,c.env,c.L,c.z,[],c.ps⟩
  |false=>match mS N c with
   |none=>c
   |some W=>mE N n W
structure At(N:Nat)(L2:ae En)(c:Cf P)(tmps:af ag)(w:ax):Prop where
 env:gK N c.env tmps
 kn:Kn (c.L++L2) w.heap
 z:∀x,c.z=.n x->w.heap.size=x
def Cf.sF(c:Cf P):Prop:=∀p∈c.ps,p.ok
abbrev EE(fn:cH)(X:dQ)(c:Cf P)(tmps:af ag):aA:=⟨fn,tmps,c.todo,c.ds,.run,X,I⟩
section
variable {N:Nat}{L2:ae En}{c W:Cf P}{tmps:af ag}{w:ax}{fn:cH}{X:dQ}{cs:ae aA}
def Qq(P:aD)(N:Nat)(L2:ae En)(fn:cH)(X:dQ)(cs:ae aA)(d:aA)(w:ax)(W:Cf P):Prop:=∃b a,step P (lone d cs w)=.next (lone (EE fn X W b) cs a)/\a.os=w.os/\a.output=w.output/\At N L2 W b a
theorem U3{b:ae (Aw P)}(h:F6 c s b=Z (n,W))(l:W.sF)(m:Kn (c.L++L2) w.heap)(p:∀x,c.z=.n x->w.heap.size=x):∃a,s.run P w=.ok n a/\a.os=w.os/\a.output=w.output/\Kn (W.L++L2) a.heap/\(∀x,W.z=.n x->a.heap.size=x)/\W.todo=c.todo/\W.ds=c.ds/\W.env=c.env/\c.sF:=by
 unfold F6 at h;split at h
 ·rename_i q z L d r o
  cases h;obtain⟨a,e,f,g,i,j,k⟩:=AS s _ _ _ _ L2 _ _ _ _ _ w o l m p;exact⟨a,e,f,g,i,j,F,F,F,k⟩
 ·cases h
theorem asi{b:af bq}{i:Nat}{rest:ae Nat}{k:ae aJ}{g:Cf P}{f:ax}(z:b[i]?=Z o)(t:eV P (G ⟨fn,tmps,.inRegion b (i::rest)::k,g.ds,.run,X,I⟩ [])=Z s)(r:s.run P w=.ok n f)
  (a:xL N g o.dst n (.inRegion b rest::k)=Z W)(j:f.os=w.os)(y:f.output=w.output)(p:gK N g.env tmps)(q:Kn (g.L++L2) f.heap)(u:∀x,g.z=.n x->f.heap.size=x):
  Qq P N L2 fn X cs ⟨fn,tmps,.inRegion b (i::rest)::k,g.ds,.run,X,I⟩ w W/\W.ps=g.ps:=by
 have m:∀(v:ag)(l:ae cz),jw ⟨fn,tmps,.inRegion b (i::rest)::k,l,.run,X,I⟩ v=⟨fn,AY tmps o.dst v,.inRegion b rest::k,l,.run,X,I⟩:=λv l=>by
  simp only[jw,z,wN];cases o.dst<;>rfl
 unfold xL at a;split at a
 ·rename_i v
  unfold fin at a;split at a
  ·rename_i env h
   cases a;have e:=OW (cs:=cs) t (λcs=>acf v cs) r;rw[m]at e;exact⟨⟨_,f,e,j,y,oL p h,q,u⟩,F⟩
  ·cases a
 ·unfold fin at a
  split at a
  ·rename_i env h
   cases a;have e:=OW (cs:=cs) t (λcs=>ash cs) r;rw[m]at e;exact⟨⟨_,f,e,j,y,oL p h,q,u⟩,F⟩
  ·cases a
 ·rename_i d
  unfold fin at a;split at a
  ·rename_i env h
   cases a;have e:=OW (cs:=cs) t (λcs=>asg d cs) r;rw[m]at e;exact⟨⟨_,f,e,j,y,oL p h,q,u⟩,F⟩
  ·cases a
 ·cases a
theorem G'{v:ag}{t:ae aJ}(h:fin N c a v t=Z W):W.ps=c.ps:=by
 unfold fin at h;split at h<;>first|(cases h;done)|(cases h;rfl)
theorem F3{t:ae aJ}(h:xL N c a n t=Z W):W.ps=c.ps:=by
 unfold xL at h;split at h<;>first|(cases h;done)|exact G' h|exact(G' h).trans rfl
theorem UA{t:ae aJ}(h:Ca N c o t=Z W)(f:W.sF)(l:Kn (c.L++L2) w.heap)(m:∀x,c.z=.n x->w.heap.size=x):∃n k a,(cN (pY c.env) o).run P w=.ok n k/\xL N a o.dst n t=Z W/\k.os=w.os/\k.output=w.output/\a.env=c.env/\a.ds=c.ds/\Kn (a.L++L2) k.heap/\(∀x,a.z=.n x->k.heap.size=x)/\c.sF:=by
 unfold Ca at h;dsimp only at h;split at h
 ·split at h
  ·rename_i n a r
   obtain⟨k,z,A,q3,B,C,Q,D,E,G⟩:=U3 (L2:=L2) (w:=w) r (λp i=>f p (by rw[F3 h];exact i)) l m;exact⟨n,k,a,z,h,A,q3,E,D,B,C,G⟩
  ·cases h
 ·split at h
  ·rename_i n a r
   obtain⟨k,z,A,q3,B,C,Q,D,E,G⟩:=U3 (L2:=L2) (w:=w) r (λp i=>f p (by rw[F3 h];exact i)) l m;exact⟨n,k,a,z,h,A,q3,E,D,B,C,G⟩
  ·cases h
 ·rename_i x y p J _ _
  split at h
  ·rename_i v a r
   have d:=G' h;obtain⟨k,z,A,q3,B,C,Q,D,E,G⟩:=U3 (L2:=L2) (w:=w) r (λp i=>f p (by rw[d];exact eK _ i)) l m;have S:v=x:=f (.v v x) (by rw[d];exact eX ..);subst S p;exact⟨.value v,k,⟨a.todo,a.ds,a.env,a.L,a.z,a.an,.v v v::a.ps⟩,z,h,A,q3,E,D,B,C,G⟩
  ·cases h
 ·rename_i x n p J _ _
  have d:=F3 h;have e:cN (pY c.env) o=x:=f (.s _ x) (by rw[d];exact eX ..);exact⟨n,w,_,by rw[e];exact p w,h,F,F,F,F,l,m,λp i=>f p (by rw[d];exact eK _ i)⟩
 ·rename_i j b s x n p J _ _
  split at h
  ·rename_i g q H
   have d:=F3 h;have e:cN (pY c.env) o=x:=f (.s _ x) (by rw[d];simp);have K:g=b:=f (.n g b) (by rw[d];simp);have L:q=s:=f (.o q s) (by rw[d];simp);subst K L;exact⟨n,w,_,by rw[e];exact p w (l.at H),h,F,F,F,F,l,m,λp i=>f p (by rw[d];simp[i])⟩
  ·cases h
 ·rename_i j b s u x n p J _ _
  split at h
  ·rename_i g q H
   have d:=F3 h;have e:cN (pY c.env) o=x:=f (.s _ x) (by rw[d];simp);have K:g=b:=f (.n g b) (by rw[d];simp);have L:q=s:=f (.o q s) (by rw[d];simp);subst K L;have O:w.heap[g]?=Z q:=l.at H;have R:Kn (c.L.set j (.ob g u)++L2) (w.heap.setIfInBounds g u):=yf l H (by show(w.heap.setIfInBounds g u)[g]?=Z u;rw[kJ (aC O)]) (λx M=>.inl M) ba λx _ M=>by
    rw[iK (λe=>M e.symm)]
   exact⟨n,{w with heap:=w.heap.setIfInBounds g u},_,by rw[e];exact p w O,h,F,F,F,F,R,λx e=>by simpa using m x e,λp i=>f p (by rw[d];simp[i])⟩
  ·cases h
 ·cases h
theorem aq9{a:af bq}{i:Nat}{rest:ae Nat}{k:ae aJ}(m:c.todo=.inRegion a (i::rest)::k)(f:a[i]?=Z o)(p:wD a c.env o=Z U)(B:rI c.env o=U)(r:∀cs b,o.op≠.select cs b)(j:X≠.early)(h:Ca N c o (.inRegion a rest::k)=Z W)(l:W.sF)(d:At N L2 c tmps w):Qq P N L2 fn X cs (EE fn X c tmps) w W/\c.sF:=by
 have e:cN (bR ⟨fn,tmps,[],c.ds,.run,X,I⟩) o=cN (pY c.env) o:=execOp_congr o r (Ll (fr:=⟨fn,tmps,[],c.ds,.run,X,I⟩) d.env B);have g:eV P (G ⟨fn,tmps,.inRegion a (i::rest)::k,c.ds,.run,X,I⟩ [])=Z (cN (pY c.env) o):=by
  unfold eV;cases X<;>first|exact absurd rfl j|simp only[G,f,zz d.env p,if_true,e]
 have q:EE fn X c tmps=⟨fn,tmps,.inRegion a (i::rest)::k,c.ds,.run,X,I⟩:=by unfold EE;rw[m]
 rw[q];obtain⟨n,D,C,s,t,q3,u,v,x,y,z,A⟩:=UA h l d.kn d.z;rw[<-x]at g⊢;exact⟨(asi f g s t q3 u (by rw[v];exact d.env) y z).1,A⟩
theorem apK(A:X≠.early)(h:mS N c=Z W)(f:W.sF)(a:At N L2 c tmps w):Qq P N L2 fn X cs (EE fn X c tmps) w W/\c.sF:=by
 obtain⟨v,g,env,L,z,E,H⟩:=c;unfold mS at h;dsimp only at h;split at h
 ·rename_i d i rest k
  split at h
  ·cases h
  ·rename_i o m
   split at h
   ·cases h
   ·rename_i r
    have C:=zz a.env r;unfold fin at h;split at h
    ·rename_i V D
     cases h;have u:step P (lone ⟨fn,tmps,.inRegion d (i::rest)::k,g,.run,X,I⟩ cs w)=.next (lone (jw ⟨fn,tmps,.inRegion d (i::rest)::k,g,.run,X,I⟩ aB) cs w):=by
      refine fe (es:=#[]) ?_;simp[G,aE,cf,m,C]
     have B:jw ⟨fn,tmps,.inRegion d (i::rest)::k,g,.run,X,I⟩ aB=⟨fn,AY tmps o.dst aB,.inRegion d rest::k,g,.run,X,I⟩:=by
      simp only[jw,m,wN];cases o.dst<;>rfl
     rw[B]at u;exact⟨⟨_,w,u,F,F,oL a.env D,a.kn,a.z⟩,f⟩
    ·cases h
   ·rename_i r
    split at h
    ·cases h
    ·rename_i s
     have l:=s;unfold rI at l;rw[gT]at l;refine aq9 (k:=k) F m r s (λcs b e=>?_) A h f a;rw[e]at l;exact absurd l.1 (by simp[HY])
 ·rename_i q x y k
  split at h
  ·rename_i p
   cases h;have n:=G7 (fr:=⟨fn,tmps,.code (.cond q x y)::k,g,.run,X,I⟩) a.env p;refine⟨⟨tmps,w,fe (es:=#[]) ?_,F,F,a.env,a.kn,a.z⟩,f⟩;simp[G,aE,cf,n]
  ·rename_i p
   cases h;have n:=G7 (fr:=⟨fn,tmps,.code (.cond q x y)::k,g,.run,X,I⟩) a.env p;refine⟨⟨tmps,w,fe (es:=#[]) ?_,F,F,a.env,a.kn,a.z⟩,f⟩;simp[G,aE,cf,n]
  ·cases h
 ·rename_i b k
  split at h
  ·cases h
   refine⟨⟨tmps,w,fe (es:=#[]) ?_,F,F,a.env,a.kn,a.z⟩,f⟩;simp[G,aE,cf]
  ·cases h
 ·rename_i b k
  split at h
  ·cases h
   refine⟨⟨tmps,w,fe (es:=#[]) ?_,F,F,a.env,a.kn,a.z⟩,f⟩;simp[G,aE,cf]
  ·cases h
 ·split at h
  ·rename_i t j
   cases h;refine⟨⟨tmps,w,fe (es:=#[]) ?_,F,F,a.env,a.kn,a.z⟩,f⟩;unfold ctl at j;split at j<;>first
    |(cases j;done)
    |(cases j;simp[G,aE,cf])
    |(simp[G,aE,cf,j])
  ·cases h
theorem acS{a:ae (Aw P)}(h:F6 c s a=Z (n,W)):∀p∈c.ps,p∈W.ps:=by
 unfold F6 at h;split at h
 ·rename_i b
  cases h;exact AT _ _ _ _ _ _ b
 ·cases h
theorem abT{t:ae aJ}(h:Ca N c o t=Z W):∀p∈c.ps,p∈W.ps:=by
 intro p a;unfold Ca at h;dsimp only at h
 repeat'(split at h)
 all_goals first
  |(cases h;done)
  |(rw[F3 h];exact acS ‹_› p a)
  |(rw[G' h];exact eK _ (acS ‹_› p a))
  |(rw[F3 h];simp[a])
theorem aaW(h:mS N c=Z W):∀p∈c.ps,p∈W.ps:=by
 obtain⟨b,e,env,L,z,d,f⟩:=c;unfold mS at h;dsimp only at h;intro p a;split at h
 ·split at h
  ·cases h
  ·split at h
   ·cases h
   ·rw[G' h];exact a
   ·split at h
    ·cases h
    ·exact abT h p a
 · repeat'(split at h)
   all_goals first|(cases h;done)|(cases h;simp[a])
 · repeat'(split at h)
   all_goals first|(cases h;done)|(cases h;simp[a])
 · repeat'(split at h)
   all_goals first|(cases h;done)|(cases h;simp[a])
 · repeat'(split at h)
   all_goals first|(cases h;done)|(cases h;simp[a])
theorem apI:∀(n:Nat)(c:Cf P),∀p∈c.ps,p∈(mE N n c).ps:=by
 intro n;induction n with
 |zero=>intro c p a;exact a
 |succ n b=>
  intro c p a;unfold mE;split
  ·exact a
  ·split
   ·exact a
   ·exact b _ p (aaW ‹_› p a)
theorem TZ(f:X≠.early):∀(n:Nat)(c:Cf P)(tmps:af ag)(w:ax),(mE N n c).sF->At N L2 c tmps w->∃e d,Steps P (lone (EE fn X c tmps) cs w) (lone (EE fn X (mE N n c) e) cs d)/\d.os=w.os/\d.output=w.output/\At N L2 (mE N n c) e d:=by
 intro n;induction n with
 |zero=>intro c tmps w b a;exact⟨tmps,w,.refl _ _,F,F,a⟩
 |succ n r=>
  intro c tmps w b a;cases hx:PR c.an with
  |true=>
   simp only[mE,hx];exact⟨tmps,w,.refl _ _,F,F,a.env,a.kn,a.z⟩
  |false=>
   cases hs:mS N c with
   |none=>
    simp only[mE,hx,hs];exact⟨tmps,w,.refl _ _,F,F,a⟩
   |some W=>
    simp only[mE,hx,hs]at b⊢;obtain⟨⟨s,u,g,h,i,j⟩,_⟩:=apK (fn:=fn) (cs:=cs) (L2:=L2) f hs (λp q=>b p (apI n W p q)) a;obtain⟨t,v,k,l,m,o⟩:=r W s u b j;exact⟨t,v,.head g k,l.trans h,m.trans i,o⟩
end
end
end
section
open Go.Conc (G)
structure Cx where
 fn:cH
 N:Nat
 kind:dQ
 cs:ae aA
 L2:ae En
 eZ:aA->Hp->Prop
def Rs(P:aD)(X:Cx)(W:ae aJ)(ds:ae cz)(V:Env)(L:ae En):Prop:=X.kind≠.early->∀a H,gK X.N V a->Kn (L++X.L2) H->Rh P ⟨X.fn,a,W,ds,.run,X.kind,I⟩ X.cs H X.eZ
def Fl(P:aD)(f:cH)(a:af ag)(L:ae En)(R:ag->ae En->Prop):Prop:=∀c H,Kn (L++c) H->Fh P f a H λv d=>∃b,R v b/\Kn (b++c) d
def Cf.pr{P:aD}(c:Cf P):Bool×ae Pr:=(c.an.isEmpty,c.ps)
def Cf.rf{P:aD}(c:Cf P):Bool×ae Pr:=(U,c.ps.map Pr.rf)
section
variable {P:aD}{X:Cx}{W:ae aJ}{ds:ae cz}{V:Env}{L:ae En}
theorem EP{c:Cf P}(h:c.pr=c.rf):c.sF:=zh (congrArg (·.2) h)
abbrev nx(P:aD)(X:Cx)(W:ae aJ)(ds:ae cz)(V:Env)(L:ae En)(a:ae (Aw P))(z:Md:=.w):Cf P:=mE X.N 3000 ⟨W,ds,V,L,z,a,[]⟩
theorem Rh.steps{f g:aA}{a:ae aA}{b:ax}{e:aA->Hp->Prop}(h:Steps P (lone f a w) (lone g a b))(i:b.os=w.os)(j:b.output=w.output)(k:Rh P g a b.heap e):Rn P f a w λc d=>d.os=w.os/\d.output=w.output/\e c d.heap:=
 Rn.steps h (Rh.at k i j)
theorem av(a:ae (Aw P))(k:Rs P X (nx P X W ds V L a).todo (nx P X W ds V L a).ds (nx P X W ds V L a).env (nx P X W ds V L a).L)(j:(nx P X W ds V L a).pr=(nx P X W ds V L a).rf:=by kernel_rfl):Rs P X W ds V L:=λc b H l i w e=>by
 subst e;obtain⟨n,o,f,g,h,d⟩:=TZ (fn:=X.fn) (cs:=X.cs) (L2:=X.L2) (N:=X.N) c 3000 ⟨W,ds,V,L,.w,a,[]⟩ b w (EP j) ⟨l,i,λx m=>by cases m⟩;exact Rh.steps f g h (k c n o.heap d.env d.kn)
theorem di(a:Nat->ae (Aw P))(k:∀z,Rs P X (nx P X W ds V L (a z) (.n z)).todo (nx P X W ds V L (a z) (.n z)).ds (nx P X W ds V L (a z) (.n z)).env (nx P X W ds V L (a z) (.n z)).L)(j:∀z,(nx P X W ds V L (a z) (.n z)).pr=(nx P X W ds V L (a z) (.n z)).rf:=by intro z;kernel_rfl):Rs P X W ds V L:=λc b H l i w e=>by
 subst e;obtain⟨n,o,f,g,h,d⟩:=TZ (fn:=X.fn) (cs:=X.cs) (L2:=X.L2) (N:=X.N) c 3000 ⟨W,ds,V,L,.n w.heap.size,a w.heap.size,[]⟩ b w (EP (j _)) ⟨l,i,λx m=>by cases m;rfl⟩;exact Rh.steps f g h (k w.heap.size c n o.heap d.env d.kn)
theorem Ot{V:Env}:∀(l:Env)(t:Nat)(v:ag),l.map (λp=>lk V p.1)=l.map (λp=>Z p.2)->lk l t=Z v->lk V t=Z v
 |[],_,_,_,h=>by cases h
 |(k,x)::l,t,v,h,a=>by
  simp only[fw,List.cons.injEq]at h;rw[TQ]at a;split at a
  ·rename_i e;subst e;cases a;exact h.1
  ·exact Ot l t v h.2 a
theorem vw(b:Env)(f:Rs P X W ds b L)(h:b.map (λp=>lk V p.1)=b.map λp=>Z p.2:=by kernel_rfl):Rs P X W ds V L:=λd a H c e=>
 f d a H ⟨c.size,λt v g=>c.get t v (Ot b t v h g)⟩ e
theorem du{L':ae En}(h:L.Perm L')(d:Rs P X W ds V L'):Rs P X W ds V L:=λb a H e c=>
 d b a H e (c.perm (h.append_right _))
theorem Uz{c:aA}{cs:ae aA}(a:eV P (G c [])=Z s):eV P (G c cs)=Z s:=by
 obtain⟨l,f,h,i,rest,k,b,d,g,o,e,j,p,n,m⟩:=ze a;cases e;unfold eV at a⊢;simp only[G]at a⊢;exact a
def mM(W:ae aJ)(V:Env):aj (Sem Next):=match W with
 |.inRegion a (i::_)::_=>match a[i]? with
  |some o=>match wD a V o with
   |some U=>match rI V o with
    |true=>Z (cN (pY V) o)
    |false=>I
   |_=>I
  |none=>I
 |_=>I
def kF(W:ae aJ):aj Tmp:=match W with
 |.inRegion a (i::_)::_=>match a[i]? with
  |some o=>o.dst
  |none=>I
 |_=>I
def sW(W:ae aJ):ae aJ:=match W with
 |.inRegion a (_::rest)::k=>.inRegion a rest::k
 |_=>[]
theorem K5{a:dQ}{fn:cH}{c:af ag}(l:a≠.early)(k:gK N V c)(h:mM W V=Z s):eV P (G ⟨fn,c,W,ds,.run,a,I⟩ [])=Z s/\∀v,jw ⟨fn,c,W,ds,.run,a,I⟩ v=⟨fn,AY c (kF W) v,sW W,ds,.run,a,I⟩:=by
 unfold mM at h
 repeat'(split at h)
 all_goals first|(cases h;done)|skip
 rename_i n i rest q _ o j _ m _ g;cases h;have d:=g;unfold rI at d;rw[gT]at d;have f:cN (bR ⟨fn,c,[],ds,.run,a,I⟩) o=cN (pY V) o:=execOp_congr o (λp b e=>by
  rw[e]at d;exact absurd d.1 (by simp[HY])) (Ll (fr:=⟨fn,c,[],ds,.run,a,I⟩) k g)
 refine⟨?_,λv=>?_⟩
 ·unfold eV
  cases a<;>first|exact absurd rfl l|simp only[G,j,zz k m,if_true,f]
 ·simp only[jw,kF,sW,j,wN]
  cases o.dst<;>rfl
def pe(V:Env)(a:aj Tmp)(v:ag):Env:=match a with
 |some d=>(d,v)::V
 |none=>V
def fits(N:Nat):aj Tmp->Bool
 |some d=>Nat.ble (d+1) N
 |none=>U
theorem Ag{V:Env}(h:fits N a=U)(v:ag):F2 N V a v=Z (pe V a v):=by
 cases a with
 |none=>rfl
 |some d=>
  have h:Nat.ble (d+1) N=U:=h;simp only[F2,pe,h]
theorem im(k g:ae En){a:af ag}{R:ag->ae En->Prop}(hf:Fl P f a k R)(hp:L.Perm (k++g))(h:∀v d,R v d->Rs P X (sW W) ds (pe V (kF W) v) (d++g))(j:((mM W V).bind (λs=>(sE P s .r [] [] []).map λq=>(q.1,q.2.2.2.2)),fits X.N (kF W))=(Z (.enter f a,[]),U):=by kernel_rfl):Rs P X W ds V L:=λm b H t r w e=>by
 subst e;simp only[fN]at j;obtain⟨j,T⟩:=j;obtain⟨s,i,N⟩:=nj.1 j;obtain⟨⟨n,z,y,E,ps⟩,o,p⟩:=fX.1 N;simp only[fN]at p;obtain⟨rfl,rfl⟩:=p;obtain⟨D,kA⟩:=K5 (fn:=X.fn) (ds:=ds) m t i;have A:Kn ([]++(L++X.L2)) w.heap:=r;obtain⟨c,u,_⟩:=AS s .r z [] y (L++X.L2) [] E [] [] _ w o ba A (λx hx=>by cases hx);obtain⟨rfl,_⟩:=F7 s [] [] [] _ w c o u ⟨by simp,Eh⟩ ba;have Q:Kn (k++(g++X.L2)) c.heap:=r.perm (by rw[<-iL];exact hp.append_right _);have O:=hf (g++X.L2) c.heap Q c F;have C:bP P s c=.ok (.enter f a) c:=u;have K:mj P (G ⟨X.fn,b,W,ds,.run,X.kind,I⟩ X.cs) (.enter f a)=Z (G (bO P f a .normal) (⟨X.fn,b,W,ds,.run,X.kind,I⟩::X.cs)):=by
  unfold mM at i
  repeat'(split at i)
  all_goals first|(cases i;done)|rfl
 have J:=Uz (cs:=X.cs) D;have S:s.runT P c #[]=(.ok (.enter f a) c,s.events P c #[]):=by rw[jN,C]
 have B:=fe (AO (main:=U) J K S).2;obtain⟨e,w',M,⟨v,rfl,q1,q2,d,q3,q4⟩,l,_,hl⟩:=O (⟨X.fn,b,W,ds,.run,X.kind,I⟩::X.cs);have l:Steps P (lone (bO P f a .normal) (⟨X.fn,b,W,ds,.run,X.kind,I⟩::X.cs) c) (lone M (⟨X.fn,b,W,ds,.run,X.kind,I⟩::X.cs) w'):=l;refine Rh.steps ((Steps.one B).trans (l.trans (.one (step_leave_returned hl)))) q1 q2 ?_;rw[kA];exact h v d q3 m _ _ (oL t (Ag T v)) (by rw[iL];exact q4)
def lU(P:aD)(c L:ae En)(s:Sem Next)(Q:ag->ae En->Prop):Prop:=∀w:ax,Kn (L++c) w.heap->∃v a b,s.run P w=.ok (.value v) a/\a.os=w.os/\a.output=w.output/\Q v b/\Kn (b++c) a.heap
theorem kr{Q:ag->ae En->Prop}(q:lU P X.L2 L s Q)(h:∀v a,Q v a->Rs P X (sW W) ds (pe V (kF W) v) a)(b:(mM W V,fits X.N (kF W))=(Z s,U):=by kernel_rfl):Rs P X W ds V L:=λc f H d o w e=>by
 subst e;simp only[fN]at b;obtain⟨b,p⟩:=b;obtain⟨g,r⟩:=K5 (fn:=X.fn) (ds:=ds) c d b;obtain⟨v,t,a,j,k,l,m,n⟩:=q w o;refine Rh.steps (.one (OW g (λi=>acf v i) j X.cs)) k l ?_;rw[r];exact h v a m c _ _ (oL d (Ag p v)) n
def AQ(V:Env):ae ResultVar->aj (ae ag)
 |[]=>Z []
 |.tmp t::l=>match lk V t,AQ V l with
  |some v,Z a=>Z (v::a)
  |_,_=>I
 |_=>I
def qV:ae ag->ag
 |[v]=>v
 |a=>.tuple a.toArray
theorem Pb{b:af ag}(i:gK N V b){f:dK}{c:ae ag}(h:AQ V f.results.toList=Z c)(w:ax):(results f b).run P w=.ok (qV c) w:=by
 have e:∀(l:ae ResultVar)(c:ae ag),AQ V l=Z c->bP P (l.mapM λ(r:ResultVar)=>(match r with
   |.tmp t=>pure (b.getD t aB)
   |.cell a t=>do loadVar t (<-asAddr (b.getD a aB)):Sem ag)) w=.ok c w:=by
  intro l;induction l with
  |nil=>intro c h;cases h;rfl
  |cons r l j=>
   intro c h;cases r with
   |cell=>simp[AQ]at h
   |tmp t=>
    simp only[AQ]at h;split at h
    ·rename_i v k d g
     cases h;rw[List.mapM_cons,fK];have:(pure (b.getD t aB):Sem ag).run P w=.ok v w:=by rw[i.get t v d];rfl
     rw[this];simp only[fy];rw[fK,j k g];rfl
    ·cases h
 unfold results;rw[fK,Array.mapM_eq_mapM_toList];have d:=e _ _ h;rw[Sem.run_map];erw [d];simp only[fy];cases c with
 |nil=>rfl
 |cons v c=>cases c<;>rfl
def DG:ae aJ->Bool
 |[]=>U
 |.code .ret::_=>U
 |_=>Y
def afj(P:aD)(f:cH)(d:ae En)(R:ag->ae En->Prop)(a:aA)(b:Hp):Prop:=a.fn=f/\∃v,(∀w:ax,w.heap=b->a.leaving P w (.returned v))/\∃c,R v c/\Kn (c++d) b
abbrev fx(P:aD)(f:cH)(N:Nat)(b:ae aA)(a:ae En)(R:ag->ae En->Prop):Cx:=⟨f,N,.normal,b,a,afj P f a R⟩
theorem Jx{fn:cH}{tmps:af ag}{kind:dQ}(h:DG W=U)(a:ae aA)(w:ax):step P (lone ⟨fn,tmps,W,ds,.run,kind,I⟩ a w)=.next (lone ⟨fn,tmps,W,ds,.returning,kind,I⟩ a w):=by
 unfold DG at h;split at h
 ·exact fe (es:=#[]) (by simp[G,aE,cf])
 ·exact fe (es:=#[]) (by simp[G,aE,cf])
 ·cases h
theorem ez{d:ae aA}{j:ae En}{R:ag->ae En->Prop}(b:ae ag)(c:ae En)(h:R (qV b) c)(hL:L=c:=by kernel_rfl)(g:(DG W,ds.length,(P.funcs[f]?).bind λa=>AQ V a.results.toList)=(U,0,Z b):=by kernel_rfl):Rs P (fx P f N d j R) W ds V L:=λs i H r p w e=>by
 subst e;subst hL;simp only[fN]at g;obtain⟨k,l,m⟩:=g;obtain⟨a,n,o⟩:=nj.1 m;have q:ds=[]:=zC l;subst q;refine Rh.steps (.one (Jx k d w)) F F (.done ⟨F,qV b,λu t=>⟨F,F,F,a,n,?_⟩,L,h,p⟩);rw[Pb r o]
def CV:ae ag->Nat->Env
 |[],_=>[]
 |v::l,i=>(i,v)::CV l (i+1)
theorem Qz:∀(l:ae ag)(i t:Nat)(v:ag),lk (CV l i) t=Z v->i<=t/\l[t-i]?=Z v
 |[],_,_,_,h=>by cases h
 |x::l,i,t,v,h=>by
  simp only[CV]at h;rw[TQ]at h;split at h
  ·rename_i e;subst e;cases h;exact⟨dt _,by simp⟩
  ·rename_i e
   obtain⟨b,a⟩:=Qz l (i+1) t v h;refine⟨by omega,?_⟩;rw[show t-i=(t-(i+1))+1 by omega];exact a
theorem Fl.of(N:Nat){a:ae ag}{R:ag->ae En->Prop}(h:∀c b,Rs P (fx P f N c b R) (bO P f a.toArray .normal).todo [] (CV a 0) L)(g:(bO P f a.toArray .normal).tmps.size=N:=by kernel_rfl):Fl P f a.toArray L R:=λb H e=>Fh.of λc=>by
 have:=h c b ba (bO P f a.toArray .normal).tmps H ⟨g,λt v i=>?_⟩ e
 ·exact this
 ·obtain⟨_,d⟩:=Qz _ _ _ _ i
  simp only[Nat.sub_zero]at d;have aC:=(dq.1 d).1;simp only[bO,nJ];rw[Array.getElem?_append_left (by simpa using aC)];simp[d]
end
end
section
open Go.Conc (G)
section
variable {P:aD}
def F0(W:Env)(L:ae En)(o:bq)(a:ae (Aw P))(c:ae Pr):aj (ag×ae (Aw P)×ae Pr):=
 let s:=cN (pY W) o
 match abv o.op,a with
 |false,a=>match sE P s .r L a c with
  |some (.value v,_,_,a,c)=>Z (v,a,c)
  |_=>I
 |true,.d::a=>match sE P s .r L a c with
  |some (.value v,_,_,a,c)=>Z (v,a,c)
  |_=>I
 |true,.e x y _::a=>match sE P s .r L a c with
  |some (.value v,_,_,a,c)=>Z (y,a,.v v x::c)
  |_=>I
 |true,.s x (.value v) _::a=>Z (v,a,.s s x::c)
 |true,.m i b f x (.value v) _::a=>match L[i]? with
  |some (.ob d e)=>Z (v,a,.s s x::.n d b::.o e f::c)
  |_=>I
 |_,_=>I
def xM(P:aD)(N:Nat)(ops:af bq)(L:ae En):ae Nat->Env->ae (Aw P)->ae Pr->aj (ae ag×ae (Aw P)×ae Pr)
 |[],_,a,b=>Z ([],a,b)
 |i::l,W,a,b=>match ops[i]? with
  |none=>I
  |some o=>match wD ops W o with
   |none=>I
   |some Y=>match fits N o.dst with
    |true=>match xM P N ops L l (pe W o.dst aB) a b with
     |some (c,a,b)=>Z (aB::c,a,b)
     |none=>I
    |false=>I
   |some U=>match rI W o with
    |false=>I
    |true=>match F0 W L o a b with
     |some (v,a,b)=>match fits N o.dst with
      |true=>match xM P N ops L l (pe W o.dst v) a b with
       |some (c,a,b)=>Z (v::c,a,b)
       |none=>I
      |false=>I
     |_=>I
def xN(ops:af bq):ae Nat->ae ag->Env->Env
 |i::a,v::b,W=>xN ops a b (pe W ((ops[i]?).bind (·.dst)) v)
 |_,_,W=>W
theorem arb{W:Env}{L:ae En}{o:bq}{e f:ae (Aw P)}{d c:ae Pr}{v:ag}(h:F0 W L o e d=Z (v,f,c)):∀p∈d,p∈c:=λp a=>by
 unfold F0 at h;dsimp only at h;split at h
 ·split at h
  ·rename_i b;cases h;exact AT _ _ _ _ _ _ b p a
  ·cases h
 ·split at h
  ·rename_i b;cases h;exact AT _ _ _ _ _ _ b p a
  ·cases h
 ·split at h
  ·rename_i b;cases h;exact eK _ (AT _ _ _ _ _ _ b p a)
  ·cases h
 ·cases h;exact eK _ a
 ·split at h
  ·cases h;simp[a]
  ·cases h
 ·cases h
theorem ara{W:Env}{L O:ae En}{o:bq}{f H:ae (Aw P)}{A s:ae Pr}{v:ag}{w:ax}(h:F0 W L o f A=Z (v,H,s))(a:∀p∈s,p.ok)(l:Kn (L++O) w.heap):(cN (pY W) o).run P w=.ok (.value v) w:=by
 have d:∀(C q:ae (Aw P))(m:ae Pr)(z:Md)(j:ae En)(x:ag),sE P (cN (pY W) o) .r L C A=Z (.value x,z,j,q,m)->(∀p∈m,p.ok)->(cN (pY W) o).run P w=.ok (.value x) w:=λC q m z j x c a=>by
  obtain⟨w1,B,_⟩:=AS _ _ _ _ _ O _ _ _ _ _ w c a l (λx R=>by cases R);obtain⟨rfl,_⟩:=F7 _ _ _ _ _ w w1 c B l.left a;exact B
 unfold F0 at h;dsimp only at h;split at h
 ·split at h
  ·rename_i c;cases h;exact d _ _ _ _ _ _ c a
  ·cases h
 ·split at h
  ·rename_i c;cases h;exact d _ _ _ _ _ _ c a
  ·cases h
 ·rename_i x y p f _
  split at h
  ·rename_i g z j D rM c
   cases h;have e:g=x:=a (.v g x) (eX ..);subst e p;exact d _ _ _ _ _ _ c λp M=>a p (eK _ M)
  ·cases h
 ·rename_i x g p f _
  cases h;have e:cN (pY W) o=x:=a (.s _ x) (eX ..);rw[e];exact p w
 ·rename_i i b u x g p f _
  split at h
  ·rename_i r t K
   cases h;have e:cN (pY W) o=x:=a (.s _ x) ba;have E:r=b:=a (.n r b) ba;have G:t=u:=a (.o t u) ba;subst E G;rw[e];exact p w (l.at K)
  ·cases h
 ·cases h
theorem UX{N:Nat}{ops:af bq}{L:ae En}{i:Nat}{m:ae Nat}{g j:ae (Aw P)}{W:Env}{f p:ae Pr}{r:ae ag}(h:xM P N ops L (i::m) W g f=Z (r,j,p)):∃o v q b a,ops[i]?=Z o/\r=v::q/\fits N o.dst=U/\xM P N ops L m (pe W o.dst v) b a=Z (q,j,p)/\((wD ops W o=Z U/\rI W o=U/\F0 W L o g f=Z (v,b,a))\/(wD ops W o=Z Y/\v=aB/\a=f)):=by
 unfold xM at h;split at h
 ·cases h
 ·rename_i o l
  split at h
  ·cases h
  ·rename_i e
   split at h
   ·rename_i c
    split at h
    ·rename_i d;cases h;exact⟨o,aB,_,_,_,l,F,c,d,.inr ⟨e,F,F⟩⟩
    ·cases h
   ·cases h
  ·rename_i e
   split at h
   ·cases h
   ·rename_i s
    split at h
    ·rename_i v b a t
     split at h
     ·rename_i c
      split at h
      ·rename_i d;cases h;exact⟨o,v,_,b,a,l,F,c,d,.inl ⟨e,s,t⟩⟩
      ·cases h
     ·cases h
    ·cases h
theorem acz{N:Nat}{ops:af bq}{L:ae En}:∀(m:ae Nat)(W:Env)(d e:ae (Aw P))(c b:ae Pr)(g:ae ag),xM P N ops L m W d c=Z (g,e,b)->∀p∈c,p∈b
 |[],W,d,e,c,b,g,h,p,a=>by cases h;exact a
 |i::l,W,d,e,c,b,g,h,p,a=>by
  obtain⟨o,v,q,s,r,_,_,_,j,f⟩:=UX h;refine acz l _ _ _ _ _ _ j p ?_;rcases f with⟨_,_,f⟩|⟨_,_,rfl⟩
  ·exact arb f p a
  ·exact a
def zP(P:aD)(N:Nat)(ops:af bq)(O:ae En)(d:ae Nat)(W:Env)(f:ae ag)(w:ax):Prop:=∃L b c e a,Kn (L++O) w.heap/\xM P N ops L d W b e=Z (f,c,a)/\∀p∈a,p.ok
section
variable {N:Nat}{ops:af bq}{O:ae En}{Q:Exit->Act->ax->Prop}{md:Region.Mode}{S:ax->Prop}{n:Nat}
theorem afC{a:Act}(c:cH)(b:dQ):a.eval=bR ⟨c,a.tmps,[],a.defers,.run,b,I⟩:=funext λx=>by cases x<;>rfl
theorem tL{a:Act}{b:aj Tmp}{v:ag}:a.put b v=⟨AY a.tmps b v,a.defers⟩:=by cases b<;>rfl
theorem TA{W:Env}{o:bq}{a:Act}(f:gK N W a.tmps)(d:rI W o=U):cN a.eval o=cN (pY W) o:=by
 have c:=d;unfold rI at c;rw[gT]at c;rw[afC 0 .normal];exact execOp_congr o (λg b e=>by rw[e]at c;exact absurd c.1 (by simp[HY])) (Ll (fr:=⟨0,a.tmps,[],a.defers,.run,.normal,I⟩) f d)
theorem acB{i:Nat}{u:ae Nat}{W:Env}{K:ae ag}{a:Act}(m:gK N W a.tmps){M:ax}(rF:S M)(h:∀w,S w->zP P N ops O (i::u) W K w):∃o v l,ops[i]?=Z o/\K=v::l/\YieldsIf P ops S o v a/\gK N (pe W o.dst v) (a.put o.dst v).tmps/\∀w,S w->zP P N ops O u (pe W o.dst v) l w:=by
 obtain⟨L,a0,c,q,g,A,s,B⟩:=h M rF;obtain⟨o,v,l,d,j,D,rfl,hf,C,t⟩:=UX s;have f:∀w,S w->∃L an gm R H G z,Kn (L++O) w.heap/\(∀p∈G,p.ok)/\xM P N ops L u (pe W o.dst v) R z=Z (l,gm,G)/\((wD ops W o=Z U/\rI W o=U/\F0 W L o an H=Z (v,R,z))\/(wD ops W o=Z Y/\v=aB/\z=H)):=λw b=>by
  obtain⟨L,a0,c,q,g,A,s,B⟩:=h w b;obtain⟨o',v',β,d,j,E,e,_,C,t⟩:=UX s;rw[D]at E;cases E;cases e;exact⟨L,a0,c,d,q,g,j,A,B,C,t⟩
 refine⟨o,v,l,D,F,?_,?_,λw b=>?_⟩
 ·rcases t with⟨b,hk,_⟩|⟨b,e,_⟩
  ·refine .inl ⟨zz m b,λw hs=>?_⟩
   obtain⟨L,a0,c,d,q,g,j,x,y,q3,q4⟩:=f w hs;rcases q4 with⟨_,_,r⟩|⟨r,_⟩
   ·rw[TA m hk]
    exact ara r (λp hp=>y p (acz _ _ _ _ _ _ _ q3 p hp)) x
   ·rw[b]at r;cases r
  ·exact .inr ⟨zz m b,e⟩
 ·rw[tL]
  exact oL m (Ag hf v)
 ·obtain⟨L,a0,c,d,q,g,j,x,y,q3,_⟩:=f w b
  exact⟨L,d,c,j,g,x,q3,y⟩
theorem acA{o:bq}{i:Nat}{a:ae Nat}{v:ag}{b:ae ag}{W:Env}(c:ops[i]?=Z o):xN ops (i::a) (v::b) W=xN ops a b (pe W o.dst v):=by
 show xN ops a b (pe W ((ops[i]?).bind (·.dst)) v)=_;rw[c];rfl
theorem VV(p:∀c a D w,Q (.panic c) a w->Q (.panic c) D w)(u:Em ops=U)(s:Region.sinkB md ops n=U)(q:Region.chainB md ops n=U)(r:n<ops.size){f:Nat}:∀(b:ae Nat)(listed:af Bool)(a:Act)(W:Env)(g:ae ag)(w:ax),gK N W a.tmps->(∀w,S w->zP P N ops O b W g w)->wB md ops n b listed=U->HeadInv md ops n listed->S w->(∀d,gK N (xN ops b g W) d.tmps->d.defers=a.defers->Gk P md ops Q S n (I2 P md ops Q n) f (marks b listed) d w)->Gk P md ops Q S n (I2 P md ops Q n) (f+b.length) listed a w
 |[],listed,a,W,g,w,l,_,_,_,_,H=>H a l F
 |i::b,listed,a,W,g,w,l,B,t,e,h,H=>by
  obtain⟨o,v,uz,m,rfl,M,A,C⟩:=acB l h B;simp only[wB,gT,decide_eq_true_eq]at t;obtain⟨⟨⟨R,t2⟩,x⟩,t4⟩:=t;have y:i∈nK md ops listed:=by simpa using R
  have z:∀listed a w,I2 P md ops Q n listed a w->∀j∈nK md ops listed,n<=j:=λ_ _ _ K=>seqB_ready K.1;refine azU m (Region.noSelect_spec u) (λc a w=>p c _ _ w) s q r x z (f+b.length) listed a w e (Region.free_spec m t2) y M h ?_;refine VV p u s q r b _ _ _ _ w A C t4 (e.set y x) h λd E G=>H d (by rw[acA m];exact E) (G.trans (by rw[tL]))
theorem LI(j:∀c a t w,Q (.panic c) a w->Q (.panic c) t w)(p:Em ops=U){f:Nat}:∀(b:ae Nat)(listed:af Bool)(a:Act)(W:Env)(e:ae ag)(w:ax),gK N W a.tmps->(∀w,S w->zP P N ops O b W e w)->wB md ops ops.size b listed=U->S w->(∀d,gK N (xN ops b e W) d.tmps->d.defers=a.defers->wpAnyH P md ops Q S f (marks b listed) d w)->wpAnyH P md ops Q S (f+b.length) listed a w
 |[],listed,a,W,e,w,h,_,_,_,H=>H a h F
 |i::b,listed,a,W,e,w,h,r,m,g,H=>by
  obtain⟨o,v,C,l,rfl,y,q,s⟩:=acB h g r;simp only[wB,gT,decide_eq_true_eq]at m;obtain⟨⟨⟨z,A⟩,_⟩,B⟩:=m;refine wpAnyH_take (fuel:=f+b.length) l p A z (λc a w=>j c _ _ w) y g ?_;refine LI j p b _ _ _ _ w q s B g λd u x=>H d (by rw[acA l];exact u) (x.trans (by rw[tL]))
end
def l5(P:aD)(X:Cx)(ops:af bq)(i:Nat)(T:ae cz)(W:Env)(L:ae En)(J:ae cz->Env->ae En->Prop):Prop:=∀(Q:Exit->Act->ax->Prop)(a:Act)(w:ax),gK X.N W a.tmps->a.defers=T->Kn (L++X.L2) w.heap->wpOp P ops Q i (λd b=>∃f e c,J f e c/\gK X.N e d.tmps/\d.defers=f/\Kn (c++X.L2) b.heap/\b.os=w.os/\b.output=w.output) a w
def q0(P:aD)(X:Cx)(k:ae aJ)(os:Os)(out:af (Nat×ByteArray)):Exit->Act->ax->Prop:=λe a w=>e=.normal/\Rn P ⟨X.fn,a.tmps,k,a.defers,.run,X.kind,I⟩ X.cs w λb c=>c.os=os/\c.output=out/\X.eZ b c.heap
def Qg(P:aD)(X:Cx)(ops:af bq)(k:ae aJ)(b:ae Nat)(T:ae cz)(W:Env)(L:ae En):Prop:=∀os out a w,X.kind≠.early->gK X.N W a.tmps->a.defers=T->Kn (L++X.L2) w.heap->w.os=os->w.output=out->wpOps P ops (q0 P X k os out) b a w
inductive Ts
 |e (j:Nat)
 |p (is:ae Nat)
instance{n:Nat}:OfNat Ts n:=⟨.e n⟩
def Gz:Ts->ae Nat
 |.e j=>[j]
 |.p a=>a
@[reducible] def sc(P:aD)(X:Cx)(ops:af bq)(k:ae aJ)(a:ae En->Prop)(b:ae Nat):ae Ts->ae cz->Env->ae En->Prop
 |[],T,W,L=>Qg P X ops k b T W L
 |.e i::c,T,W,L=>l5 P X ops i T W L λT W L=>a L/\sc P X ops k a b c T W L
 |.p d::c,T,W,L=>(∃f g h e,xM P X.N ops [] d W g []=Z (f,h,e)/\(∀p∈e,p.ok)/\sc P X ops k a b c T (xN ops d f W) L)
def G1(md:Region.Mode)(ops:af bq)(n g:Nat):ae Ts->af Bool->Bool
 |[],l=>Region.seqB md ops g n l
 |.e j::a,l=>decide (nK md ops l=[j])&&decide (j<n)&&G1 md ops n g a (l.setIfInBounds j U)
 |.p b::a,l=>wB md ops n b l&&G1 md ops n g a (marks b l)
def EF(md:Region.Mode)(ops:af bq):ae Ts->af Bool->Bool
 |[],l=>decide (nK md ops l=[])
 |.e j::a,l=>decide (nK md ops l=[j])&&EF md ops a (l.setIfInBounds j U)
 |.p b::a,l=>wB md ops ops.size b l&&EF md ops a (marks b l)
def pf(a:ae Ts):Nat:=(a.flatMap Gz).length
def XS(ops:af bq)(n:Nat)(a:ae Nat)(b:ae Ts):Bool:=Em ops&&decide (n<ops.size)&&Region.sinkB .any ops n&&Region.chainB .any ops n&&wB .any ops n a (qa ops.size Y)&&G1 .any ops n (ops.size-n) b (marks a (qa ops.size Y))&&(a.length+pf b==n)
def XT(ops:af bq)(a:ae Nat)(b:ae Ts):Bool:=Em ops&&wB .any ops ops.size a (qa ops.size Y)&&EF .any ops b (marks a (qa ops.size Y))&&(a.length+pf b==ops.size)
theorem T6{md:Region.Mode}{ops:af bq}{n:Nat}:∀(a:ae Nat)(l:af Bool),wB md ops n a l=U->HeadInv md ops n l->HeadInv md ops n (marks a l)
 |[],l,_,h=>h
 |i::a,l,b,h=>by
  simp only[wB,gT,decide_eq_true_eq]at b;obtain⟨⟨⟨c,_⟩,d⟩,e⟩:=b;exact T6 a _ e (h.set (by simpa using c) d)
theorem acD{N:Nat}{ops:af bq}{d:ae Nat}{W:Env}{e:ae ag}{b c:ae (Aw P)}{a:ae Pr}(h:xM P N ops [] d W b []=Z (e,c,a))(f:∀p∈a,p.ok)(w:ax):zP P N ops [] d W e w:=⟨[],b,c,[],a,⟨by simp,Eh⟩,h,f⟩
section
variable {X:Cx}{ops:af bq}{k:ae aJ}{os:Os}{out:af (Nat×ByteArray)}{n:Nat}
theorem Fl.nil{T:ae cz}{W:Env}{L:ae En}(h:Rs P X k T W L):Qg P X ops k [] T W L:=λos out a w b c d e f g=>⟨F,by subst d f g;exact h b _ _ c e w F⟩
theorem VZ(z:X.kind≠.early){Rk:ae En->Prop}{S:ax->Prop}{K:ae Nat}(s:∀L w,Rk L->Kn (L++X.L2) w.heap->S w)(x:List.range' n (ops.size-n)=K)(D:Em ops=U)(C:Region.sinkB .any ops n=U)(A:Region.chainB .any ops n=U)(B:n<ops.size):∀(d:ae Ts)(l:af Bool)(T:ae cz)(W:Env)(L:ae En)(a:Act)(w:ax),G1 .any ops n (ops.size-n) d l=U->HeadInv .any ops n l->S w->sc P X ops k Rk K d T W L->gK X.N W a.tmps->a.defers=T->Kn (L++X.L2) w.heap->w.os=os->w.output=out->Gk P .any ops (q0 P X k os out) S n (I2 P .any ops (q0 P X k os out) n) (pf d) l a w
 |[],l,T,W,L,a,w,f,b,t,h,g,m,o,p,q=>⟨f,by rw[x];exact h os out a w z g m o p q⟩
 |.e j::d,l,T,W,L,a,w,f,b,t,h,g,m,o,p,q=>by
  simp only[G1,gT,decide_eq_true_eq]at f;obtain⟨⟨r,v⟩,q3⟩:=f;have e:pf (.e j::d)=pf d+1:=by simp[pf,Gz,Nat.add_comm]
  rw[e];refine⟨by rw[r];simp,λi M=>?_⟩;rw[r,my]at M;subst M;exact⟨v,wpOp_mono (λH G⟨rq,jy,y,⟨R,r1⟩,r2,r3,E,r5,r6⟩=>⟨s y G R E,VZ z s x D C A B d _ rq jy y H G q3 (b.set (by rw[r];simp) v) (s y G R E) r1 r2 r3 E (r5.trans p) (r6.trans q)⟩) (h _ a w g m o)⟩
 |.p u::d,l,T,W,L,a,w,f,b,t,⟨vs,an,gm,ps,g1,g2,h⟩,g,m,o,p,q=>by
  simp only[G1,gT]at f;have e:pf (.p u::d)=pf d+u.length:=by simp[pf,Gz,Nat.add_comm]
  rw[e];exact VV (λc a H w h=>by cases h.1) D C A B u l a W vs w g (λw _=>acD g1 g2 w) f.1 b t λa1 r v=>VZ z s x D C A B d _ T _ L a1 w f.2 (T6 u l f.1 b) t h r (v.trans m) o p q
theorem V0(t:X.kind≠.early){Rk:ae En->Prop}{S:ax->Prop}(q:∀L w,Rk L->Kn (L++X.L2) w.heap->S w)(v:Em ops=U):∀(b:ae Ts)(l:af Bool)(T:ae cz)(W:Env)(L:ae En)(a:Act)(w:ax),EF .any ops b l=U->S w->sc P X ops k Rk [] b T W L->gK X.N W a.tmps->a.defers=T->Kn (L++X.L2) w.heap->w.os=os->w.output=out->wpAnyH P .any ops (q0 P X k os out) S (pf b) l a w
 |[],l,T,W,L,a,w,d,r,h,f,g,m,o,p=>wpAnyH_done (by simpa[EF]using d) (h os out a w t f g m o p) 0
 |.e j::b,l,T,W,L,a,w,d,r,h,f,g,m,o,p=>by
  simp only[EF,gT,decide_eq_true_eq]at d;have e:pf (.e j::b)=pf b+1:=by simp[pf,Gz,Nat.add_comm]
  rw[e];refine wpAnyH_all d.1 ba λi A=>?_;rw[my]at A;subst A;exact wpOp_mono (λz y⟨rq,G,s,⟨B,M⟩,R,r3,x,r5,r6⟩=>⟨q s y B x,V0 t q v b _ rq G s z y d.2 (q s y B x) M R r3 x (r5.trans o) (r6.trans p)⟩) (h _ a w f g m)
 |.p u::b,l,T,W,L,a,w,d,r,⟨vs,an,gm,ps,D,E,h⟩,f,g,m,o,p=>by
  simp only[EF,gT]at d;have e:pf (.p u::b)=pf b+u.length:=by simp[pf,Gz,Nat.add_comm]
  rw[e];exact LI (λc a z w h=>by cases h.1) v u l a W vs w f (λw _=>acD D E w) d.1 r λC H K=>V0 t q v b _ T _ L C w d.2 r h H (K.trans g) m o p
end
def iD:ae aJ->af bq
 |.code (.region _ ops U)::_=>ops
 |_=>#[]
def tQ:ae aJ->ae aJ
 |_::k=>k
 |[]=>[]
def FF:ae aJ->Bool
 |.code (.region _ _ U)::_=>U
 |_=>Y
def oa(P:aD)(N:Nat)(ops:af bq)(L:ae En)(b:ae Nat)(a:ae (Aw P))(W:Env):ae ag:=match xM P N ops L b W a []with
 |some (c,_,_)=>c
 |none=>[]
def gY(P:aD)(N:Nat)(ops:af bq)(L:ae En)(b:ae Nat)(a:ae (Aw P))(W:Env):aj (ae ag)×Bool×ae Pr:=match xM P N ops L b W a []with
 |some (d,a,c)=>(Z d,a.isEmpty,c)
 |none=>(I,Y,[])
@[reducible] def lA(P:aD)(N:Nat)(ops:af bq)(L:ae En)(b:ae Nat)(a:ae (Aw P))(W:Env)(c:ae En):Prop:=gY P N ops c b a W=(Z (oa P N ops L b a W),U,(gY P N ops c b a W).2.2.map Pr.rf)
def rest(n:Nat)(a:ae Ts):ae Nat:=(qh n).filter λi=>!(a.flatMap Gz).contains i
section
variable {X:Cx}{V:ae aJ}{T:ae cz}{W:Env}{L:ae En}
theorem KH(h:FF V=U):∃id ops k,V=.code (.region id ops U)::k:=by
 unfold FF at h;split at h
 ·exact⟨_,_,_,F⟩
 ·cases h
theorem O9{N:Nat}{ops:af bq}{a O:ae En}{e:ae Nat}{c:ae (Aw P)}{g:ae ag}(h:gY P N ops a e c W=(Z g,U,(gY P N ops a e c W).2.2.map Pr.rf)){w:ax}(l:Kn (a++O) w.heap):zP P N ops O e W g w:=by
 have d:=zh (congrArg (·.2.2) h);have b:=congrArg (·.1) h;unfold gY at b d;split at b
 ·rename_i o j m f
  simp only[f]at d;cases b;exact⟨a,c,j,[],m,l,f,d⟩
 ·cases b
theorem jO(n:Nat)(d:ae (Aw P))(b:ae Ts)(E:ae Nat)
  (u:sc P X (iD V) (tQ V) (lA P X.N (iD V) L (rest n b) d W) E b T (xN (iD V) (rest n b) (oa P X.N (iD V) L (rest n b) d W) W) L)
  (hm:P.follows .mixedOrders=U:=by kernel_rfl)
  (K:(FF V,XS (iD V) n (rest n b) b,List.range' n ((iD V).size-n))=(U,U,E):=by kernel_rfl)
  (v:gY P X.N (iD V) L (rest n b) d W=(Z (oa P X.N (iD V) L (rest n b) d W),U,(gY P X.N (iD V) L (rest n b) d W).2.2.map Pr.rf):=by kernel_rfl):Rs P X V T W L:=λbj r H B A w e=>by
 subst e;simp only[fN]at K;obtain⟨z,o,G⟩:=K;obtain⟨id,ops,k,rfl⟩:=KH z;unfold lA at u;simp only[iD,tQ]at o G v u;generalize rest n b=m at*;generalize oa P X.N ops L m d W=x at v u;simp only[XS,gT,decide_eq_true_eq,beq_iff_eq]at o;obtain⟨⟨⟨⟨⟨⟨ln,hn⟩,hs⟩,R⟩,yX⟩,cP⟩,β⟩:=o;have q:HeadInv .any ops n (qa ops.size Y):=⟨by simp,λj oj _ p=>(by rw[getD_replicate_false]at p;cases p),λt _ B=>getD_in (by simpa using B) (getD_replicate_false _ _)⟩;refine Rn.code ?_;let S:ax->Prop:=λw=>∃l,Kn (l++X.L2) w.heap/\gY P X.N ops l m d W=(Z x,U,(gY P X.N ops l m d W).2.2.map Pr.rf);have hS:∀w,S w->zP P X.N ops X.L2 m W x w:=λw⟨l,C,D⟩=>O9 D C;have H:=VV (P:=P) (Q:=q0 P X k w.os w.output) (md:=.any) (n:=n) (f:=pf b) (S:=S) (λc a a' w h=>by cases h.1) ln hs R hn m (qa ops.size Y) ⟨r,T⟩ W x {w with drawn:=w.drawn+1} B hS yX q ⟨L,A,v⟩ λa1 z o=>VZ (os:=w.os) (out:=w.output) bj (Rk:=λl=>gY P X.N ops l m d W=(Z x,U,(gY P X.N ops l m d W).2.2.map Pr.rf)) (λl s C D=>⟨l,D,C⟩) G ln hs R hn b _ T _ L a1 {w with drawn:=w.drawn+1} cP (T6 m _ yX q) ⟨L,A,v⟩ u z o A F F;refine wp_region_any hm ?_;have y:∀listed a s,I2 P .any ops (q0 P X k w.os w.output) n listed a s->wpAny P .any ops (q0 P X k w.os w.output) (ops.size-n) listed a s:=λlisted a s M=>by
  have p:(ops.toList.drop n).length=ops.size-n:=by simp
  have hg:∀j,(ops.toList.drop n)[j]?=ops[n+j]?:=λj=>by rw[List.getElem?_drop,Cy]
  have o:=M.2;rw[<-p,wpOps_eq_wpList _ n hg]at o;have:=wpAny_of_seq (md:=.any) (Q':=q0 P X k w.os w.output) (ops.toList.drop n) n listed a s hg (by rw[p];exact M.1) o;rwa[p]at this
 have:=aeS (g:=ops.size-n) y _ _ _ _ H;rw[show pf b+m.length+(ops.size-n)=ops.size by omega]at this;exact this
theorem gw(n:Nat)(d:ae (Aw P))(b:ae Ts)
  (o:sc P X (iD V) (tQ V) (lA P X.N (iD V) L (rest n b) d W) [] b T (xN (iD V) (rest n b) (oa P X.N (iD V) L (rest n b) d W) W) L)
  (D:P.follows .mixedOrders=U:=by kernel_rfl)
  (v:(FF V,XT (iD V) (rest n b) b)=(U,U):=by kernel_rfl)
  (p:gY P X.N (iD V) L (rest n b) d W=(Z (oa P X.N (iD V) L (rest n b) d W),U,(gY P X.N (iD V) L (rest n b) d W).2.2.map Pr.rf):=by kernel_rfl):Rs P X V T W L:=λA m H E s w e=>by
 subst e;simp only[fN]at v;obtain⟨r,l⟩:=v;obtain⟨id,ops,k,rfl⟩:=KH r;unfold lA at o;simp only[iD,tQ]at l p o;generalize rest n b=j at*;generalize oa P X.N ops L j d W=q at p o;simp only[XT,gT,beq_iff_eq]at l;obtain⟨⟨⟨y,G⟩,B⟩,x⟩:=l;refine Rn.code ?_;let S:ax->Prop:=λw=>∃g,Kn (g++X.L2) w.heap/\gY P X.N ops g j d W=(Z q,U,(gY P X.N ops g j d W).2.2.map Pr.rf);have C:∀w,S w->zP P X.N ops X.L2 j W q w:=λw⟨g,t,u⟩=>O9 u t;have H:=LI (P:=P) (Q:=q0 P X k w.os w.output) (md:=.any) (f:=pf b) (S:=S) (λc a K w h=>by cases h.1) y j (qa ops.size Y) ⟨m,T⟩ W q {w with drawn:=w.drawn+1} E C G ⟨L,s,p⟩ λz r l=>V0 (os:=w.os) (out:=w.output) A (Rk:=λg=>gY P X.N ops g j d W=(Z q,U,(gY P X.N ops g j d W).2.2.map Pr.rf)) (λg M t u=>⟨g,u,t⟩) y b _ T _ L z {w with drawn:=w.drawn+1} B ⟨L,s,p⟩ o r l s F F;refine wp_region_held (S:=S) D ?_;rwa[show pf b+j.length=ops.size by omega]at H
end
section
variable {X:Cx}{ops:af bq}{i:Nat}{T:ae cz}{W:Env}{L:ae En}{J:ae cz->Env->ae En->Prop}
def Lc(ops:af bq)(W:Env)(i:Nat):aj (bq×Sem Next):=match ops[i]? with
 |some o=>match wD ops W o with
  |some U=>match rI W o with
   |true=>Z (o,cN (pY W) o)
   |false=>I
  |_=>I
 |none=>I
def Bp(ops:af bq)(W:Env)(i:Nat):aj (Sem Next):=(Lc ops W i).map (·.2)
def sn(ops:af bq)(i:Nat):aj Tmp:=match ops[i]? with
 |some o=>o.dst
 |none=>I
def ir(P:aD)(N:Nat)(ops:af bq)(T:ae cz)(W:Env)(L:ae En)(i:Nat)(a:ae (Aw P))(z:Md):Cf P:=match Lc ops W i with
 |some (o,_)=>match Ca N ⟨[],T,W,L,z,a,[]⟩ o []with
  |some c=>c
  |none=>⟨[],[],[],[],.r,[.x],[]⟩
 |none=>⟨[],[],[],[],.r,[.x],[]⟩
theorem aq7{o:bq}{N:Nat}{a:Act}(h:Lc ops W i=Z (o,s))(b:gK N W a.tmps):ops[i]?=Z o/\wO o (yielded ops a.tmps)=U/\cN a.eval o=s:=by
 unfold Lc at h
 repeat'(split at h)
 all_goals first|(cases h;done)|skip
 rename_i f d _ e _ c;cases h;exact⟨d,zz b e,TA b c⟩
theorem aeT{o:bq}{c f:Cf P}{Q:Exit->Act->ax->Prop}{K:Act->ax->Prop}{a:Act}{w:ax}(B:ops[i]?=Z o)(C:wD ops c.env o=Z U)(A:rI c.env o=U)(v:Ca X.N c o []=Z f)(z:f.sF)
  (j:gK X.N c.env a.tmps)(p:a.defers=c.ds)(y:Kn (c.L++X.L2) w.heap)(D:∀x,c.z=.n x->w.heap.size=x)
  (h:∀m g,gK X.N f.env m.tmps->m.defers=f.ds->Kn (f.L++X.L2) g.heap->(∀x,f.z=.n x->g.heap.size=x)->g.os=w.os->g.output=w.output->K m g):wpOp P ops Q i K a w:=by
 obtain⟨n,g,c0,E,b,q3,q,r,s,t,u,_⟩:=UA (L2:=X.L2) (w:=w) v z y D;unfold wpOp;simp only[B,zz j C,if_true,Oper.wp,TA j A,E];unfold xL at b;split at b
 ·unfold fin at b
  split at b
  ·rename_i l e
   cases b;simp only[Oper.upon];rw[r]at e;exact .inl (h _ _ (by rw[tL];exact oL j e) (by rw[tL];exact p.trans s.symm) t u q3 q)
  ·cases b
 ·unfold fin at b
  split at b
  ·rename_i l e
   cases b;simp only[Oper.upon];rw[r]at e;exact .inl (h _ _ (by rw[tL];exact oL j e) (by rw[tL];exact p.trans s.symm) t u q3 q)
  ·cases b
 ·rename_i d
  unfold fin at b;split at b
  ·rename_i l e
   cases b;simp only[Oper.upon];have e:F2 X.N c0.env o.dst aB=Z l:=e;rw[r]at e;exact .inl (h _ _ (by rw[tL];exact oL (tmps:=a.tmps) j e) (by rw[tL];show d::a.defers=d::c0.ds;rw[p,s]) t u q3 q)
  ·cases b
 ·cases b
theorem Yg(m:ae (Aw P))(z:Md)(b:Cf P)(d:ir P X.N ops T W L i m z=b)(j:b.pr=b.rf)(h:J b.ds b.env b.L)(Q:Exit->Act->ax->Prop)(a:Act)(w:ax)(B:∀x,z=.n x->w.heap.size=x)(H:gK X.N W a.tmps)(r:a.defers=T)(u:Kn (L++X.L2) w.heap):wpOp P ops Q i (λg f=>∃q p l,J q p l/\gK X.N p g.tmps/\g.defers=q/\Kn (l++X.L2) f.heap/\f.os=w.os/\f.output=w.output) a w:=by
 unfold ir at d;split at d
 ·rename_i o s e
  split at d
  ·rename_i K t
   subst d;unfold Lc at e
   repeat'(split at e)
   all_goals first|(cases e;done)|skip
   rename_i M y _ A _ v;cases e;exact aeT (c:=⟨[],T,W,L,z,m,[]⟩) y A v t (EP j) H r u B λg f C D q3 _ E G=>⟨_,_,_,h,C,D,q3,E,G⟩
  ·subst d
   cases congrArg (·.1) j
 ·subst d
  cases congrArg (·.1) j
theorem l5.ev(b:ae (Aw P))(h:J (ir P X.N ops T W L i b .w).ds (ir P X.N ops T W L i b .w).env (ir P X.N ops T W L i b .w).L)(e:(ir P X.N ops T W L i b .w).pr=(ir P X.N ops T W L i b .w).rf:=by kernel_rfl):l5 P X ops i T W L J:=λQ a w g c d=>
 Yg b .w _ F e h Q a w (λx f=>by cases f) g c d
theorem l5.new(b:Nat->ae (Aw P))(h:∀z,J (ir P X.N ops T W L i (b z) (.n z)).ds (ir P X.N ops T W L i (b z) (.n z)).env (ir P X.N ops T W L i (b z) (.n z)).L)(e:∀z,(ir P X.N ops T W L i (b z) (.n z)).pr=(ir P X.N ops T W L i (b z) (.n z)).rf:=by intro z;kernel_rfl):l5 P X ops i T W L J:=λQ a w g c d=>
 Yg (b w.heap.size) (.n w.heap.size) _ F (e _) (h _) Q a w (λx f=>by cases f;rfl) g c d
theorem W8{N:Nat}{a:Act}(h:Bp ops W i=Z s)(d:gK N W a.tmps):∃o,ops[i]?=Z o/\o.dst=sn ops i/\wO o (yielded ops a.tmps)=U/\cN a.eval o=s:=by
 unfold Bp at h;obtain⟨⟨o,f⟩,c,rfl⟩:=fX.1 h;obtain⟨b,e,q3⟩:=aq7 c d;exact⟨o,b,by unfold sn;rw[b],e,q3⟩
theorem l5.op{Q:ag->ae En->Prop}(p:lU P X.L2 L s Q)(h:∀v b,Q v b->J T (pe W (sn ops i) v) b)(c:(Bp ops W i,fits X.N (sn ops i))=(Z s,U):=by kernel_rfl):l5 P X ops i T W L J:=λQ a w e g j=>by
 simp only[fN]at c;obtain⟨c,l⟩:=c;obtain⟨o,m,f,q,d⟩:=W8 c e;obtain⟨v,y,b,r,t,q3,u,x⟩:=p w j;unfold wpOp;simp only[m,q,if_true,Oper.wp,d,r,Oper.upon];rw[f];exact .inl ⟨T,_,b,h v b u,by rw[tL];exact oL e (Ag l v),by rw[tL];exact g,x,t,q3⟩
theorem Qa{l d:ae En}{F:ae En->ae En}{c:af ag}{R:ag->ae En->Prop}(hf:Fl P f c l R)(hp:L.Perm (l++d))(M:∀b,(b++d).Perm (F b))(h:∀v b,R v b->J T (pe W (sn ops i) v) (F b))(g:((Bp ops W i).bind (λs=>(sE P s .r [] [] []).map λq=>(q.1,q.2.2.2.2)),fits X.N (sn ops i))=(Z (.enter f c,[]),U):=by kernel_rfl):l5 P X ops i T W L J:=λQ a w y G u=>by
 simp only[fN]at g;obtain⟨g,hd⟩:=g;obtain⟨s,H,K⟩:=nj.1 g;obtain⟨⟨n,z,B,E,ps⟩,r,t⟩:=fX.1 K;simp only[fN]at t;obtain⟨rfl,rfl⟩:=t;obtain⟨o,ho,D,hw,p⟩:=W8 H y;have C:Kn ([]++(L++X.L2)) w.heap:=u;obtain⟨j,A,_⟩:=AS s .r z [] B (L++X.L2) [] E [] [] _ w r ba C (λx hx=>by cases hx);obtain⟨rfl,_⟩:=F7 s [] [] [] _ w j r A ⟨by simp,Eh⟩ ba;have hL:Kn (l++(d++X.L2)) j.heap:=u.perm (by rw[<-iL];exact hp.append_right _);have m:=hf (d++X.L2) j.heap hL j rfl;unfold wpOp;simp only[ho,hw,if_true,Oper.wp,p,A,Oper.upon];refine .inl (Calls.mono m ?_);rintro e w' ⟨v,rfl,q1,q2,b,q3,q4⟩;rw[D];exact⟨T,_,F b,h v b q3,by rw[tL];exact oL y (Ag hd v),by rw[tL];exact G,Kn.perm q4 (by rw[<-iL];exact(M b).append_right _),q1,q2⟩
end
end
end
section
open Go.Conc (G)
def Ie:ae Nat->ae (aj En)->aj (ae En×ae En)
 |[],M=>Z ([],M.filterMap id)
 |i::is,M=>match M[i]? with
  |some (Z e)=>match Ie is (M.set i I)with
   |some (a,b)=>Z (e::a,b)
   |none=>I
  |_=>I
theorem Yr:∀(M:ae (aj En))(i)(e),M[i]?=Z (Z e)->(M.filterMap id).Perm (e::(M.set i I).filterMap id)
 |[],i,e,h=>by simp at h
 |x::M,0,e,h=>by
  simp_all
 |x::M,i+1,e,h=>by
  have:=Yr M i e h;cases x with
  |none=>simpa using this
  |some y=>
   exact(this.cons y).trans (CC e y _)
theorem abX:∀(is)(M)(a b),Ie is M=Z (a,b)->(M.filterMap id).Perm (a++b)
 |[],M,a,b,h=>by cases h;exact .refl _
 |i::is,M,a,b,h=>by
  unfold Ie at h;split at h
  ·rename_i e d
   split at h
   ·rename_i f g c
    cases h;exact(Yr M i e d).trans ((abX _ _ _ b c).cons e)
   ·cases h
  ·cases h
def outs(is:ae Nat)(L:ae En):aj (ae En×ae En):=Ie is (L.map Z)
def left(is:ae Nat)(L:ae En):ae En:=match outs is L with
 |some (_,b)=>b
 |none=>[]
theorem xJ{is}{L L0 Lr}(h:outs is L=Z (L0,Lr)):L.Perm (L0++Lr):=by
 have:=abX _ _ _ _ h;rwa[List.filterMap_map,show(id∘Z)=Z from F,List.filterMap_some]at this
def blank:ae Nat->ae (aj En)->ae (aj En)
 |[],M=>M
 |i::is,M=>blank is (M.set i I)
def Ra:ae Nat->ae En->ae (aj En)->ae En
 |[],a,M=>M.filterMap id++a
 |i::is,e::a,M=>Ra is a (M.set i (Z e))
 |_::_,[],M=>M.filterMap id
def fill(is:ae Nat)(a L:ae En):ae En:=Ra is a (blank is (L.map Z))
theorem Yq:∀(M:ae (aj En))(i)(e),M[i]?=Z I->(e::M.filterMap id).Perm ((M.set i (Z e)).filterMap id)
 |[],i,e,h=>by simp at h
 |x::M,0,e,h=>by
  simp_all
 |x::M,i+1,e,h=>by
  have:=Yq M i e h;cases x with
  |none=>simpa using this
  |some y=>
   exact(CC y e _).trans (this.cons y)
theorem Yj:∀(is)(a)(M:ae (aj En)),is.Nodup->(∀i∈is,M[i]?=Z I)->(a++M.filterMap id).Perm (Ra is a M)
 |[],a,M,_,_=>lD
 |i::is,[],M,_,_=>.refl _
 |i::is,e::a,M,b,h=>by
  simp only[oO]at b;have c:=Yq M i e (h i (eX ..));refine List.Perm.trans ?_ (Yj _ _ (M.set i (Z e)) b.2 λj d=>?_)
  ·exact(qf).symm.trans (c.append_left _)
  ·grind
theorem Xd:∀(is)(M)(i:Nat),M[i]?=Z I->(blank is M)[i]?=Z I
 |[],M,i,h=>h
 |j::is,M,i,h=>by
  refine Xd is _ i ?_;by_cases e:j=i
  ·grind
  ·simp_all
theorem abW:∀(is)(M)(a b),Ie is M=Z (a,b)->b=(blank is M).filterMap id/\is.Nodup/\(∀i∈is,∃e,M[i]?=Z (Z e))/\∀i∈is,(blank is M)[i]?=Z I
 |[],M,a,b,h=>by cases h;exact⟨F,Eh,(λ_ h=>by cases h),(λ_ h=>by cases h)⟩
 |i::is,M,a,b,h=>by
  unfold Ie at h;split at h
  ·rename_i e f
   split at h
   ·rename_i o p d
    cases h;obtain⟨l,m,q3,n⟩:=abW _ _ _ b d;have aC:=(dq.1 f).1;have g:i∉is:=λq=>by
     grind
    refine⟨l,oO.2 ⟨g,m⟩,λj c=>?_,λj c=>?_⟩
    ·grind
    ·rcases bM.1 c with rfl|c
     ·exact Xd is _ j (zD aC)
     ·exact n j c
   ·cases h
  ·cases h
theorem Ni{is}{L L0 b a}(h:outs is L=Z (L0,b)):(a++b).Perm (fill is a L):=by
 obtain⟨c,d,_,e⟩:=abW _ _ _ _ h;rw[c];exact Yj _ _ _ d e
section
variable {P:aD}{X:Cx}{V:ae aJ}{S:ae cz}{W:Env}{L:ae En}
theorem eR(is){L0}{f}{a}{R}(d:Fl P f a L0 R)(h:∀v b,R v b->Rs P X (sW V) S (pe W (kF V) v) (fill is b L))
  (c:outs is L=Z (L0,left is L):=by kernel_rfl)
  (g:((mM V W).bind (λs=>(sE P s .r [] [] []).map λq=>(q.1,q.2.2.2.2)),fits X.N (kF V))=(Z (.enter f a,[]),U):=by kernel_rfl):Rs P X V S W L:=
 im _ _ d (xJ c) (λv b e=>du (Ni c) (h v _ e)) g
theorem IU{f}{a}{R}(c:Fl P f a [] R)(h:∀v b,R v b->Rs P X (sW V) S (pe W (kF V) v) (b++L))(d:((mM V W).bind (λs=>(sE P s .r [] [] []).map λq=>(q.1,q.2.2.2.2)),fits X.N (kF V))=(Z (.enter f a,[]),U):=by kernel_rfl):Rs P X V S W L:=
 im _ L c (by rw[List.nil_append]) h d
theorem Eu(is)(h:Rs P X V S W ((match outs is L with
  |some (a,_)=>a
  |none=>[])++left is L))(e:(outs is L).isSome=U:=by kernel_rfl):Rs P X V S W L:=by
 obtain⟨⟨a,b⟩,c⟩:=A7.1 e;have d:left is L=b:=by unfold left;rw[c]
 rw[c,d]at h;exact du (xJ c) h
def CU(t:aK)(v x:ag):Sem Next:=Sem.bind (Builtin.append_ #[t,t] t #[v,x]) λv=>.pure (.value v)
def Jv:En->ag
 |.row _ _ g n a _=>sv g n a
 |_=>aB
def Jt:En->Nat
 |.row _ _ _ n .. =>n
 |_=>0
def M':En->Nat
 |.ob b _=>b
 |_=>0
def C6:En->ae ag
 |.ob _ (.cells c .. )=>c.toList
 |.row _ _ _ _ _ a=>a
 |_=>[]
def Js(g n c:Nat)(a:ae ag):En->En
 |.row e b _ _ _ d=>.row e b (Z g) n c (d++a)
 |x=>x
def gy(L:ae En)(k:Nat):En:=match L[k]? with
 |some e=>e
 |none=>.ob 0 (.cells #[] 0)
def CS(P:aD)(t b:Nat):En->Bool
 |.row e a .. =>match P.underlying t,P.info? e with
  |some (.slice c),Z i=>Nat.beq c e&&Nat.beq i.size a&&Nat.ble 1 a&&Nat.ble i.bytes b&&(match i.zero with
   |some z=>Nat.beq z.cells.size a
   |none=>Y)
  |_,_=>Y
 |_=>Y
def Ju:En->Nat
 |.row _ a .. =>a
 |_=>0
theorem W6{C}(D k t)(o)(m c)(a)(n)(E:L[k]?=Z (gy L k))(d:CS P t D (gy L k)=U)(hl:a.length=m*Ju (gy L k))(T:∀u∈a,u.oneCell'=U)(A:Jt (gy L k)=n)(hm:0<m)(hb:n+m<=140737488355328/\(n+m)*D<=140737488355328)
  (M:∀H,Kn (L++C) H->∀j u,a[j]?=Z u->oT H (o.add j)=Z u):
  lU P C L (CU t (Jv (gy L k)) (.slice (Z o) m c)) λv O=>∃g b,v=sv (Z g) (n+m) b/\O=L.set k (Js g (n+m) b a (gy L k)):=λw y=>by
 generalize gy L k=Q at*;cases Q with
 |ob=>simp[CS]at d
 |ro=>simp[CS]at d
 |row e J g G b xs=>
  have A:G=n:=A;subst A;simp only[CS]at d;split at d
  ·rename_i e' i ht hi
   simp only[gT]at d;obtain⟨⟨⟨⟨p,q⟩,r⟩,s⟩,h⟩:=d;have p:=CI p;have q:=CI q;have r:=zH r;have s:=zH s;subst p;split at h
   ·rename_i z hz
    have h:=CI h;have hr:=y.at E;obtain⟨R,f,w',q1,q2,q3,l,q5⟩:=run_append_lies w t t 0 _ i z _ _ ht hi hz q F h r _ _ _ (acO.1 hr) _ m c _ hl (λj u hj=>M _ y j u hj) T hm (by unfold maxLen;omega) (rU (Nat.mul_le_mul (dt _) s) (rU hb.2 aT)) (gJ _) _ F;refine⟨_,w',_,?_,q3.os,q3.output,⟨R,f,F,F⟩,?_⟩
    ·show((Builtin.append_ #[t,t] t #[sv g G b,.slice (Z o) m c])>>=λv=>(qi (mR v))).run P w=_
     rw[fK,q1];rfl
    ·refine yf y E (acO.2 q2) (λx B=>?_) q3.size λx B N=>?_
     ·cases B
      rcases l with l|l
      ·rw[PU]at l;exact .inl l
      ·omega
     ·exact q3.block x B λe=>N (by rw[PU]at e;exact e.symm)
   ·cases h
  ·cases d
theorem Jf{l}(c t k a n)(w:n+1<=140737488355328/\(n+1)*c<=140737488355328)
  (h:(L[k]?,Jt (gy L k),CS P t c (gy L k),Nat.beq (C6 (gy L a)).length (1*Ju (gy L k))&&(C6 (gy L a)).all Value.oneCell',L[a]?)=(Z (gy L k),n,U,U,Z (.ob (M' (gy L a)) (.cells (C6 (gy L a)).toArray (match gy L a with
    |.ob _ (.cells _ t _)=>t
    |_=>0)))):=by kernel_rfl):
  lU P l L (CU t (Jv (gy L k)) (.slice (Z ⟨M' (gy L a),0,I⟩) 1 1)) λv O=>∃g b,v=sv (Z g) (n+1) b/\O=L.set k (Js g (n+1) b (C6 (gy L a)) (gy L k)):=by
 simp only[fN,gT]at h;obtain⟨m,o,p,⟨r,x⟩,q⟩:=h;refine W6 _ k t _ 1 1 _ n m p (CI r) (by simp_all) o ah w λH s j u f=>?_;have d:=s.at q;unfold Addr.add;split
 ·rename_i e;subst e;exact vK d (by simpa using f)
 ·exact vK d (by simpa using f)
theorem app1{c}(t k a n)(d:n+1<=34359738368)
  (h:(L[k]?,Jt (gy L k),CS P t 4096 (gy L k),Nat.beq (C6 (gy L a)).length (1*Ju (gy L k))&&(C6 (gy L a)).all Value.oneCell',L[a]?)=(Z (gy L k),n,U,U,Z (.ob (M' (gy L a)) (.cells (C6 (gy L a)).toArray (match gy L a with
    |.ob _ (.cells _ t _)=>t
    |_=>0)))):=by kernel_rfl):
  lU P c L (CU t (Jv (gy L k)) (.slice (Z ⟨M' (gy L a),0,I⟩) 1 1)) λv O=>∃g b,v=sv (Z g) (n+1) b/\O=L.set k (Js g (n+1) b (C6 (gy L a)) (gy L k)):=
 Jf _ t k _ n ah h
def QV:En->aj (Nat×ae ag)
 |.row _ _ (Z g) _ _ a=>Z (g,a)
 |.ob b (.cells c .. )=>Z (b,c.toList)
 |_=>I
theorem W5{w}(l t q k Q g b m c n:Nat)(r a)(M:0<m)(E:n+m<=140737488355328/\(n+m)*l<=140737488355328)(J:a.length=m*q)(C:∀u∈a,u.oneCell'=U)(s:∀j u,a[j]?=Z u->r[b+j]?=Z u)
  (h:(L[k]?,Jt (gy L k),CS P t l (gy L k),(L[Q]?).bind QV,Ju (gy L k))=(Z (gy L k),n,U,Z (g,r),q):=by kernel_rfl):
  lU P w L (CU t (Jv (gy L k)) (.slice (Z ⟨g,b,I⟩) m c)) λv O=>∃g d,v=sv (Z g) (n+m) d/\O=L.set k (Js g (n+m) d a (gy L k)):=by
 simp only[fN]at h;obtain⟨y,z,A,B,rfl⟩:=h;refine W6 _ k t _ m c _ n y A J C z M E λH o j u G=>?_;obtain⟨e,p,f⟩:=nj.1 B;have N:=s j u G;have D:(⟨g,b,I⟩:aU).add j=⟨g,b+j,I⟩:=by
  unfold Addr.add;split
  ·simp
  ·rfl
 rw[D];unfold QV at f;split at f
 ·cases f
  obtain⟨x,R,T,_⟩:=Pg (o.at p) F N;exact vK R T
 ·cases f
  exact vK (o.at p) (by simp_all)
 ·cases f
theorem MI{o}(t e k s g d m c n:Nat)(f a)(r:0<m)(w:n+m<=34359738368)(q:a.length=m*e)(p:∀u∈a,u.oneCell'=U)(l:∀j u,a[j]?=Z u->f[d+j]?=Z u)
  (h:(L[k]?,Jt (gy L k),CS P t 4096 (gy L k),(L[s]?).bind QV,Ju (gy L k))=(Z (gy L k),n,U,Z (g,f),e):=by kernel_rfl):
  lU P o L (CU t (Jv (gy L k)) (.slice (Z ⟨g,d,I⟩) m c)) λv O=>∃g b,v=sv (Z g) (n+m) b/\O=L.set k (Js g (n+m) b a (gy L k)):=
 W5 _ t _ k _ g _ m c n _ _ r ah q p l h
end
section
variable {P:aD}{X:Cx}{V vn:ae aJ}{S rq:ae cz}{W jy:Env}{L O:ae En}
theorem cq(h:Rs P X V S W L)(a:(vn,rq,O)=(V,S,L):=by kernel_rfl)(b:W.map (λp=>lk jy p.1)=W.map λp=>Z p.2:=by kernel_rfl):Rs P X vn rq jy O:=by
 cases a;exact vw _ h b
theorem ji{ι:Type}(m:ι->Nat)(a:ι->Env)(J:ι->ae En)(C:ι->Prop)(i)(c:C i)(step:∀i,C i->(∀j,m j<m i->C j->Rs P X V S (a j) (J j))->Rs P X V S (a i) (J i))(d:L=J i:=by kernel_rfl)(e:(a i).map (λp=>lk W p.1)=(a i).map λp=>Z p.2:=by kernel_rfl):Rs P X V S W L:=by
 have b:∀n i,m i=n->C i->Rs P X V S (a i) (J i):=by
  intro n;induction n using Nat.strongRecOn with
  |ind n f=>
   grind
 exact d▸vw _ (b _ i F c) e
theorem pC(e a:Nat)(h:Rs P X V S W (L++[.row e a I 0 0 []])):Rs P X V S W L:=λf d H g c=>by
 refine h f _ H g ?_;refine Kn.perm (L:=.row e a I 0 0 []::(L++X.L2)) ⟨λx b=>?_,mQ.2 ⟨λx b y j=>(by cases j),c.nd⟩⟩ (by simpa using(qf).symm);rcases bM.1 b with rfl|b
 ·exact⟨by simp,.inl ⟨rfl,rfl⟩⟩
 ·exact c.sat x b
theorem ey(is)(h:Rs P X V S W (left is L))(n:(outs is L).isSome=U:=by kernel_rfl):Rs P X V S W L:=λg f H o j=>by
 obtain⟨⟨a,b⟩,d⟩:=A7.1 n;have m:left is L=b:=by unfold left;rw[d]
 rw[m]at h;have c:=j.perm ((xJ d).append_right _);rw[iL]at c;exact h g _ H o ⟨λe l=>c.sat e (IK _ l),(CH.1 c.nd).2.1⟩
theorem cU{f}{N}{c}{b}{R}(is)(a)(O)(h:R (qV a) O)(e:left is L=O:=by kernel_rfl)(j:(outs is L).isSome=U:=by kernel_rfl)(g:(DG V,S.length,(P.funcs[f]?).bind λd=>AQ W d.results.toList)=(U,0,.some a):=by kernel_rfl):Rs P (fx P f N c b R) V S W L:=
 ey _ (ez _ _ h e g) j
theorem afb(h:∀H,Kn (L++X.L2) H->p)(k:p->Rs P X V S W L):Rs P X V S W L:=λc b H d a=>k (h H a) c _ H d a
def X1:En->aj (aj Nat×Nat×Nat)
 |.row _ _ g n a _=>.some (g,n,a)
 |_=>I
theorem lJ(i:Nat)(g)(n a)(r:0<n)(k:∀b,g=.some b->n<=a->Rs P X V S W L)(o:(L[i]?).map X1=.some (.some (g,n,a)):=by kernel_rfl):Rs P X V S W L:=afb (p:=∃b,g=iQ b/\n<=a) (λH l=>by
                                                                                                                                               obtain⟨e,m,h⟩:=fX.1 o;cases e with
                                                                                                                                               |row e f q t s u=>
                                                                                                                                                cases h;rcases(l.at m).2 with⟨_,h⟩|⟨b,c,j,h,_,d,_⟩
                                                                                                                                                ·omega
                                                                                                                                                ·simp_all
                                                                                                                                               |_=>cases h) λ⟨b,h,d⟩=>k _ h d
end
def HO(t:aK)(x ix:ag):Sem Next:=Sem.bind (Instr.indexAt t x ix) λv=>.pure (.value v)
def oG(P:aD)(t a:Nat):Bool:=match P.underlying t with
 |some (.slice e)=>match P.info? e with
  |some i=>Nat.beq i.size a
  |none=>Y
 |_=>Y
theorem anr{P}{t a g n b}{i:Int}{j:Nat}(q:i=j)(r:j<n)(h:oG P t a=U)(w):(HO t (sv (Z g) n b) (ai i)).run P w=.ok (.value (.pointer (Z ⟨g,j*a,I⟩))) w:=by
 subst q;unfold oG at h;split at h
 ·rename_i e o
  split at h
  ·rename_i c l
   have h:=CI h;have p:bP P (underlying t) w=.ok (.slice e) w:=by
    show bP P (match P.underlying t with
     |some d=>pure d
     |none=>stuck "no such type") w=_
    rw[o];rfl
   have m:bP P (sizeOf e) w=.ok a w:=by
    unfold sizeOf typeInfo;rw[fK,fK];show fy (fy (bP P program w) _) _=_;simp only[program,bP,fy,l];show Result.ok c.size w=_;rw[h]
   show((Instr.indexAt t (sv (Z g) n b) (ai j))>>=λv=>(qi (mR v))).run P w=_;unfold Instr.indexAt;simp only[fK,ai,asIntOf,pure,bP,p,fy,jE];rw[if_pos (by constructor<;>omega)];simp only[fK,m,fy,bP,Int.toNat_natCast];unfold Addr.add;split
   ·rename_i f;rw[f]
   ·simp
  ·cases h
 ·cases h
theorem zy{P}{t}{d}(h:P.underlying t=Z d)(w):bP P (underlying t) w=.ok d w:=by
 show bP P (match P.underlying t with
  |some d=>pure d
  |none=>stuck "no such type") w=_
 rw[h];rfl
theorem Lv{P}{t}{i}(h:P.info? t=Z i)(w):bP P (sizeOf t) w=.ok i.size w:=by
 unfold sizeOf typeInfo;rw[fK,fK];show fy (fy (bP P program w) _) _=_;simp only[program,bP,fy,h];rfl
theorem afQ{P}{t d n b c}{g}{f}(l:n<=b)(h:oG P t d=U)(w):(CU t (sv g n b) (.slice f 0 c)).run P w=.ok (.value (sv g n b)) w:=by
 unfold oG at h;split at h
 ·rename_i e p
  split at h
  ·rename_i r m
   show((Builtin.append_ #[t,t] t #[sv g n b,.slice f 0 c])>>=λv=>(qi (mR v))).run P w=_;have j:∀s:Nat,bP P (Builtin.firstCells s 0 (.slice f 0 c)) w=.ok #[] w:=λs=>by
    cases f with
    |none=>rfl
    |some a=>simp only[Builtin.firstCells,Nat.zero_mul,loadCells,loadCellsFrom,pure,bP]
   unfold Builtin.append_;have q:=zy p w;have o:=Lv m w;simp only[fK,List.size_toArray,jY,uI,Nat.reduceAdd,Nat.reduceLT,getElem?_pos,List.getElem_toArray,List.getElem_cons_zero,List.getElem_cons_succ,q,o,fy,Builtin.lenOf];cases g with
   |none=>simp[l,j]
   |some g=>simp[l,j,storeCells]
  ·cases h
 ·cases h
def Lw(t:aK)(x a:ag):Sem Next:=Sem.bind (Instr.sliceAt t x (Z a) I I) λv=>.pure (.value v)
theorem adh{P}{t b g n a}{l:Int}{i:Nat}(j:l=i)(r:i<=n)(h:oG P t b=U)(w):(Lw t (sv (Z g) n a) (ai l)).run P w=.ok (.value (.slice (Z (if a=i then⟨g,0,I⟩else⟨g,i*b,I⟩)) (n-i) (a-i))) w:=by
 subst j;unfold oG at h;split at h
 ·rename_i e o
  split at h
  ·rename_i q d
   have h:=CI h;subst h;show((Instr.sliceAt t (sv (Z g) n a) (Z (ai i)) I I)>>=λv=>(qi (mR v))).run P w=_;have p:=zy o w;have m:=Lv d w;have f:bP P (Instr.sliceBound (ai i) n .sliceB) w=.ok i w:=by
    unfold Instr.sliceBound;simp only[fK,ai,asIntOf,pure,bP,fy];rw[if_pos (by constructor<;>omega)];simp[]
   unfold Instr.sliceAt Instr.slice;simp only[fK,p,fy,Instr.sliceBounds,pure,bP,f,m,Option.isSome_none,hZ,if_false];congr 4;by_cases c:a=i
   ·simp[c]
   ·rw[if_neg c,if_neg c]
    unfold Addr.add;split
    ·simp
    ·simp
  ·cases h
 ·cases h
theorem wrap64{x y}(h:x=y/\-9223372036854775808<=y/\y<9223372036854775808):IntKind.i64.wrap x=y:=by
 obtain⟨rfl,a,b⟩:=h;show(if(U&&decide (x%18446744073709551616>=9223372036854775808))=U then x%18446744073709551616-18446744073709551616 else x%18446744073709551616)=x;split
 ·grind
 ·grind
abbrev aI{P}(x y)(h:x=y/\-9223372036854775808<=y/\y<9223372036854775808):Aw P:=.e _ _ (congrArg ai (wrap64 h))
abbrev bB{P}{a b:Bool}(p:a=b):Aw P:=.e _ _ (congrArg Value.bool p)
abbrev bT{P}{p} [Decidable p](h:p):Aw P:=.e _ _ (congrArg Value.bool (decide_eq_true h))
abbrev bF{P}{p} [Decidable p](h:¬p):Aw P:=.e _ _ (congrArg Value.bool (decide_eq_false h))
abbrev xF{P}{a b:Int}(h:a≠b):Aw P:=.e (.bool (a !=b)) (.bool U) (congrArg _ (by simpa using h))
abbrev B7{P}{a b:Int}(h:a=b):Aw P:=.e (.bool (a !=b)) (.bool Y) (congrArg _ (by simpa using h))
abbrev fu{P}(a b:Int)(h:a<b:=by omega):Aw P:=bT h
abbrev gi{P}(a b:Int)(h:¬a<b:=by omega):Aw P:=bF h
abbrev Nu{P}(a b:Int)(h:a>b:=by omega):Aw P:=bT h
abbrev ER{P}(a b:Int)(h:¬a>b:=by omega):Aw P:=bF h
abbrev KU{P}(a b:Int)(h:a<=b:=by omega):Aw P:=bT h
abbrev leF{P}(a b:Int)(h:¬a<=b:=by omega):Aw P:=bF h
abbrev He{P}(a b:Int)(h:a>=b:=by omega):Aw P:=bT h
abbrev Nr{P}(a b:Int)(h:¬a>=b:=by omega):Aw P:=bF h
abbrev kT{P}(a b:Int)(h:a=b:=by omega):Aw P:=bT h
abbrev ie{P}(a b:Int)(h:¬a=b:=by omega):Aw P:=bF h
abbrev nqT{P}(a b:Int)(h:a≠b:=by omega):Aw P:=xF h
abbrev po{P}(a b:Int)(h:a=b:=by omega):Aw P:=B7 h
abbrev aS{P}(i:Nat)(h:(i)+1=((i+1:Nat):Int)/\-9223372036854775808<=((i+1:Nat):Int)/\((i+1:Nat):Int)<9223372036854775808:=by omega):Aw P:=aI _ _ h
abbrev rr{P}(i:Nat){a:ae ag}{j:Nat}{x}(p:a[j]?=Z x):Aw P:=.r i _ j x p
abbrev ix{P}(t a g n b:Nat)(i:Int)(j:Nat)(c:i=j/\j<n)(h:oG P t a=U:=by kernel_rfl):Aw P:=.s (HO t (sv (Z g) n b) (ai i)) _ (anr c.1 c.2 h)
abbrev iX{P}{n j:Nat}(t a g b:Nat)(c:j<n)(h:oG P t a=U:=by kernel_rfl):Aw P:=ix t _ g n b j j ⟨F,c⟩ h
abbrev a0{P}(t b)(g:aj Nat)(n a:Nat)(d:aj aU)(c:Nat)(e:n<=a)(h:oG P t b=U:=by kernel_rfl):Aw P:=.s (CU t (sv g n a) (.slice d 0 c)) _ (afQ e h)
abbrev slA{P}(t b g n a:Nat)(l:Int)(i:Nat)(c:l=i/\i<n/\n<=a)(h:oG P t b=U:=by kernel_rfl):Aw P:=.s (Lw t (sv (Z g) n a) (ai l)) _ (λw=>by
 rw[adh c.1 (Nat.le_of_lt c.2.1) h w,if_neg ah])
abbrev slZ{P}(t a g n b:Nat)(l:Int)(c:l=n)(h:oG P t a=U:=by kernel_rfl):Aw P:=.s (Lw t (sv (Z g) n b) (ai l)) _ (λw=>by
 rw[adh c (dt _) h w,Nat.sub_self])
def sC{P}(N:Nat)(ops:af bq):ae Nat->Cf P->Cf P
 |[],c=>c
 |i::is,c=>match ops[i]? with
  |none=>⟨[],[],[],[],.r,[.x],[]⟩
  |some o=>match wD ops c.env o with
   |none=>⟨[],[],[],[],.r,[.x],[]⟩
   |some Y=>match fin N c o.dst aB []with
    |some c=>sC N ops is c
    |none=>⟨[],[],[],[],.r,[.x],[]⟩
   |some U=>match rI c.env o with
    |false=>⟨[],[],[],[],.r,[.x],[]⟩
    |true=>match Ca N c o []with
     |some c=>sC N ops is c
     |none=>⟨[],[],[],[],.r,[.x],[]⟩
theorem Re{P}{N}{ops}:∀(is)(c:Cf P),(sC N ops is c).an.isEmpty=U->∀p∈c.ps,p∈(sC N ops is c).ps
 |[],c,_,p,a=>a
 |i::is,c,h,p,a=>by
  unfold sC at h⊢
  repeat'(split at h)
  all_goals first|(simp at h;done)|skip
  ·rename_i o e _ f _ d b
   exact Re _ _ h p (by rw[G' b];exact a)
  ·rename_i o e _ f _ g _ d b
   exact Re _ _ h p (abT b p a)
section
variable {P:aD}{X:Cx}{ops:af bq}{k:ae aJ}
theorem Rf:∀(is)(c:Cf P)(t)(b)(a)(w),X.kind≠.early->(sC X.N ops is c).an.isEmpty=U->(sC X.N ops is c).sF->Rs P X k (sC X.N ops is c).ds (sC X.N ops is c).env (sC X.N ops is c).L->gK X.N c.env a.tmps->a.defers=c.ds->Kn (c.L++X.L2) w.heap->(∀x,c.z=.n x->w.heap.size=x)->w.os=t->w.output=b->wpOps P ops (q0 P X k t b) is a w
 |[],c,t,b,a,w,m,e,f,h,g,n,q,u,r,s=>⟨F,by subst r s;rw[n];exact h m _ _ g q w F⟩
 |i::is,c,t,b,a,w,m,e,f,h,g,n,q,u,r,s=>by
  rw[wpOps_cons];unfold sC at e f h
  repeat'(split at e)
  all_goals first|(simp at e;done)|skip
  ·rename_i o j _ l _ y d
   simp only[j,l,d]at f h;unfold wpOp;simp only[j,zz g l];unfold fin at d;split at d
   ·rename_i H A
    cases d;exact Rf _ _ _ _ _ w m e f h (by rw[tL];exact oL g A) (by rw[tL];exact n) q u r s
   ·cases d
  ·rename_i o j _ l _ v _ y d
   simp only[j,l,v,d]at f h;exact aeT j l v d (λp z=>f p (Re _ _ e p z)) g n q u λJ M B C q3 D E G=>Rf _ _ _ _ _ _ m e f h B C q3 D (E.trans r) (G.trans s)
variable {S:ae cz}{W:Env}{L:ae En}{fl:ae Nat}
theorem Fl.run(b:ae (Aw P))(h:Rs P X k (sC X.N ops fl ⟨[],S,W,L,.w,b,[]⟩).ds (sC X.N ops fl ⟨[],S,W,L,.w,b,[]⟩).env (sC X.N ops fl ⟨[],S,W,L,.w,b,[]⟩).L)(c:(sC X.N ops fl ⟨[],S,W,L,.w,b,[]⟩).pr=(sC X.N ops fl ⟨[],S,W,L,.w,b,[]⟩).rf:=by kernel_rfl):Qg P X ops k fl S W L:=λo n a w d e f g j l=>
 Rf _ _ _ _ a w d (congrArg (·.1) c) (EP c) h e f g (λx m=>by cases m) j l
end
section
variable {P:aD}{X:Cx}{ops:af bq}{i:Nat}{S:ae cz}{W jo:Env}{L L0:ae En}{k:ae aJ}{is fl:ae Nat}{js:ae Ts}{K:ae (Aw P)}
theorem yg(a)(h:sc P X ops k (lA P X.N ops L0 is K jo) fl js (ir P X.N ops S W L i a .w).ds (ir P X.N ops S W L i a .w).env (ir P X.N ops S W L i a .w).L)
 (b:gY P X.N ops (ir P X.N ops S W L i a .w).L is K jo=(Z (oa P X.N ops L0 is K jo),U,(gY P X.N ops (ir P X.N ops S W L i a .w).L is K jo).2.2.map Pr.rf):=by kernel_rfl)
 (c:(ir P X.N ops S W L i a .w).pr=(ir P X.N ops S W L i a .w).rf:=by kernel_rfl):sc P X ops k (lA P X.N ops L0 is K jo) fl (.e i::js) S W L:=l5.ev _ ⟨b,h⟩ c
theorem tD(a:Nat->ae (Aw P))(h:∀z,sc P X ops k (lA P X.N ops L0 is K jo) fl js (ir P X.N ops S W L i (a z) (.n z)).ds (ir P X.N ops S W L i (a z) (.n z)).env (ir P X.N ops S W L i (a z) (.n z)).L)
 (b:∀z,gY P X.N ops (ir P X.N ops S W L i (a z) (.n z)).L is K jo=(Z (oa P X.N ops L0 is K jo),U,(gY P X.N ops (ir P X.N ops S W L i (a z) (.n z)).L is K jo).2.2.map Pr.rf):=by intro z;kernel_rfl)
 (c:∀z,(ir P X.N ops S W L i (a z) (.n z)).pr=(ir P X.N ops S W L i (a z) (.n z)).rf:=by intro z;kernel_rfl):sc P X ops k (lA P X.N ops L0 is K jo) fl (.e i::js) S W L:=l5.new _ (λz=>⟨b z,h z⟩) c
theorem Gy{s}{Q}(a:lU P X.L2 L s Q)(h:∀v O,Q v O->lA P X.N ops L0 is K jo O/\sc P X ops k (lA P X.N ops L0 is K jo) fl js S (pe W (sn ops i) v) O)(b:(Bp ops W i,fits X.N (sn ops i))=(Z s,U):=by kernel_rfl):sc P X ops k (lA P X.N ops L0 is K jo) fl (.e i::js) S W L:=l5.op a h b
theorem ib{T}{O}(h:T)(a:gY P X.N ops O is K jo=(Z (oa P X.N ops L0 is K jo),U,(gY P X.N ops O is K jo).2.2.map Pr.rf):=by kernel_rfl):lA P X.N ops L0 is K jo O/\T:=⟨a,h⟩
theorem zL{a}(b)(h:sc P X ops k (lA P X.N ops L0 is K jo) fl js S (xN ops a (oa P X.N ops [] a b W) W) L)(d:gY P X.N ops [] a b W=(Z (oa P X.N ops [] a b W),U,(gY P X.N ops [] a b W).2.2.map Pr.rf):=by kernel_rfl):sc P X ops k (lA P X.N ops L0 is K jo) fl (.p a::js) S W L:=by
 have e:=zh (congrArg (·.2.2) d);have c:=congrArg (·.1) d;generalize oa P X.N ops [] a b W=j at h c;unfold gY at c e;split at c
 ·rename_i l f g d
  simp only[d]at e;cases c;exact⟨j,b,f,g,d,e,h⟩
 ·cases c
theorem qq(b){c}{f}{a}{R}(e:Fl P f a c R)(h:∀v O,R v O->lA P X.N ops L0 is K jo (fill b O L)/\sc P X ops k (lA P X.N ops L0 is K jo) fl js S (pe W (sn ops i) v) (fill b O L))
  (d:outs b L=Z (c,left b L):=by kernel_rfl)
  (g:((Bp ops W i).bind (λs=>(sE P s .r [] [] []).map λq=>(q.1,q.2.2.2.2)),fits X.N (sn ops i))=(Z (.enter f a,[]),U):=by kernel_rfl):sc P X ops k (lA P X.N ops L0 is K jo) fl (.e i::js) S W L:=
 Qa e (xJ d) (λ_=>Ni d) h g
end
end
abbrev pt(b:Nat):ag:=.pointer (Z ⟨b,0,I⟩)
theorem Bx{α:Type}{f:α->ae ag}{k:Nat}(b:∀a,(f a).length=k):∀l:ae α,(l.flatMap f).length=l.length*k
 |[]=>by simp
 |a::l=>by rw[vp,oe,b,Bx b l,jY,Nat.succ_mul,Nat.add_comm]
theorem gW{α:Type}{f:α->ae ag}{k:Nat}(b:∀a,(f a).length=k):∀(l:ae α)(i j:Nat)(a:α),j<k->l[i]?=Z a->(l.flatMap f)[i*k+j]?=(f a)[j]?
 |[],i,j,a,_,h=>by simp at h
 |x::l,0,j,a,c,h=>by
  simp only[qe,gB]at h;subst h;rw[vp,Nat.zero_mul,uJ,LZ (by rw[b];exact c)]
 |x::l,i+1,j,a,c,h=>by
  simp only[List.getElem?_cons_succ]at h;rw[vp,Ma (by rw[b,Nat.succ_mul];omega),b,<-gW b l i j a c h];congr 1;rw[Nat.succ_mul];omega
structure aZ where
 aG:Int
 gone:Bool
 val:ByteArray
def aZ.cells(v:aZ):ae ag:=[ai v.aG,.bool v.gone,.string v.val]
theorem aZ.len(v:aZ):v.cells.length=3:=rfl
structure bV where
 c:Nat
 g:aj Nat
 cap:Nat
 vs:ae aZ
def bV.hd(x:bV):En:=.ob x.c (.cells #[sv x.g x.vs.length x.cap] 138)
def bV.rw(x:bV):En:=.row 216 3 x.g x.vs.length x.cap (x.vs.flatMap aZ.cells)
def upto(b:ae aZ)(a:Int):Nat->Nat
 |0=>0
 |k+1=>match b[k]? with
  |some v=>if v.aG>a then upto b a k else k+1
  |none=>k+1
theorem P2(b:ae aZ)(a:Int):∀k,upto b a k<=k
 |0=>dt _
 |k+1=>by
  unfold upto;split
  ·split
   ·exact El (P2 b a k)
   ·exact dt _
  ·exact dt _
theorem W9(x:bV)(d:Int)(j:x.vs.length<1000000):Fl Sv 155 [pt x.c,ai d].toArray [x.hd,x.rw] λv L=>v=ai ((upto x.vs d x.vs.length:Int)-1)/\L=[x.hd,x.rw]:=by
 obtain⟨c,g,b,a⟩:=x;refine Fl.of 29 λp o=>?_;refine av [0,aI ((a.length:Int)-1) (a.length-1) (by simp only at j;omega),.g,.x] ?_;refine ji (λk=>k) (λk=>[(0,pt c),(1,ai d),(5,ai ((k:Int)-1))]) (λ_=>[bV.hd ⟨c,g,b,a⟩,bV.rw ⟨c,g,b,a⟩]) (λk=>k<=a.length/\upto a d k=upto a d a.length) a.length ⟨dt _,F⟩ ?_;rintro k ⟨q,e⟩ n;cases k with
 |zero=>
  refine av [Nr (-1) 0] ?_;exact ez [ai (-1)] _ ⟨by rw[<-e];rfl,F⟩
 |succ k=>
  obtain⟨v,f⟩:∃v,a[k]?=Z v:=⟨_,eI ah⟩;refine lJ 1 g a.length b ah λi m _=>?_;subst m;have l:(a.flatMap aZ.cells)[k*3+0]?=Z (ai v.aG):=gW aZ.len a k 0 v aT f;by_cases h:v.aG>d
  ·refine av [He (((k+1:Nat):Int)-1) 0,0,ix 136 3 i a.length b (((k+1:Nat):Int)-1) k ah,rr 1 l,bT h,aI (((k+1:Nat):Int)-1-1) ((k:Int)-1) (by simp only at j;omega),.g,.x] ?_
   exact cq (n k (Nat.lt_succ_self k) ⟨by omega,by rw[<-e];simp only[upto,f,if_pos h]⟩)
  ·refine av [He (((k+1:Nat):Int)-1) 0,0,ix 136 3 i a.length b (((k+1:Nat):Int)-1) k ah,rr 1 l,bF h] ?_
   exact ez [ai (((k+1:Nat):Int)-1)] _ ⟨by rw[<-e];simp only[upto,f,if_neg h];rfl,F⟩
theorem aZ.one(v:aZ):∀u∈v.cells,u.oneCell'=U:=by simp[aZ.cells,Value.oneCell',ai]
theorem JF{f:α->ae ag}(b:∀a,∀u∈f a,u.oneCell'=U)(l:ae α):∀u∈l.flatMap f,u.oneCell'=U:=λu c=>by
 obtain⟨a,_,h⟩:=List.mem_flatMap.1 c;exact b a u h
theorem ajg{f:α->ae ag}(b:∀a,(f a).length=k)(l:ae α)(i j:Nat)(u:ag)(h:((l.drop i).flatMap f)[j]?=Z u):(l.flatMap f)[i*k+j]?=Z u:=by
 by_cases c:i<=l.length
 ·have:l.flatMap f=(l.take i).flatMap f++(l.drop i).flatMap f:=by rw[<-IE,List.take_append_drop]
  rw[this,Ma (by rw[Bx b,CF,Nat.min_eq_left c];omega),Bx b,CF,Nat.min_eq_left c,Nat.add_sub_cancel_left];exact h
 ·rw[List.drop_eq_nil_of_le ah]at h
  simp at h
def DL(a:ae aZ):Int:=match a.getLast? with
 |some v=>v.aG
 |none=>0
theorem Oq(x:bV)(f:x.vs.length<1000000):Fl Sv 136 [pt x.c].toArray [x.hd,x.rw] λv L=>v=ai (DL x.vs)/\L=[x.hd,x.rw]:=by
 obtain⟨c,g,b,i⟩:=x;refine Fl.of 22 λk j=>?_;rcases List.eq_nil_or_concat i with rfl|⟨a,v,rfl⟩
 ·refine av [0,.d] ?_
  exact ez [ai 0] _ ⟨rfl,rfl⟩
 ·simp only[List.concat_eq_append]at f⊢
  have l:(a++[v]).length=a.length+1:=by simp
  refine av [0,ie ((a++[v]).length) 0] ?_;refine lJ 1 g (a++[v]).length b ah λd e _=>?_;subst e;have h:((a++[v]).flatMap aZ.cells)[a.length*3+0]?=Z (ai v.aG):=gW aZ.len _ _ 0 v aT ba;refine gw 14 [0,0,aI (((a++[v]).length:Int)-1) a.length ah,ix 136 3 d (a++[v]).length b a.length a.length ah,rr 1 h] [] (Fl.nil ?_);refine av [] ?_;exact ez [ai v.aG] _ ⟨by simp[DL,qV],F⟩
def sY(a:ae aZ)(b:Int):ByteArray×Bool:=match a[upto a b a.length-1]? with
 |some v=>if upto a b a.length=0\/v.gone=U then(⟨#[]⟩,Y)else(v.val,U)
 |none=>(⟨#[]⟩,Y)
theorem atC(x:bV)(e:Int)(l:x.vs.length<1000000):Fl Sv 135 [pt x.c,ai e].toArray [x.hd,x.rw] λv L=>v=.tuple #[.string (sY x.vs e).1,.bool (sY x.vs e).2]/\L=[x.hd,x.rw]:=by
 refine Fl.of 32 λo n=>?_;refine av [] ?_;refine eR [0,1] (W9 x e l) ?_;rintro _ _ ⟨rfl,rfl⟩;obtain⟨c,g,b,a⟩:=x;have m:=P2 a e a.length;cases hk:upto a e a.length with
 |zero=>
  simp only[hk];refine av [fu (((0:Nat):Int)-1) 0] ?_;refine ez [.string ⟨#[]⟩,.bool Y] _ ⟨?_,F⟩;unfold sY;simp only[hk];cases a[0-1]?<;>simp[qV]
 |succ k=>
  simp only[hk];obtain⟨v,f⟩:∃v,a[k]?=Z v:=⟨_,eI ah⟩;refine lJ 1 g a.length b ah λi d _=>?_;subst d;have h:(a.flatMap aZ.cells)[k*3+1]?=Z (.bool v.gone):=gW aZ.len a k 1 v aT f;have j:(a.flatMap aZ.cells)[k*3+2]?=Z (.string v.val):=gW aZ.len a k 2 v aT f;cases d:v.gone with
  |true=>
   rw[d]at h;refine av [gi (((k+1:Nat):Int)-1) 0,0,ix 136 3 i a.length b (((k+1:Nat):Int)-1) k ah,rr 1 h] ?_;refine ez [.string ⟨#[]⟩,.bool Y] _ ⟨?_,F⟩;simp[sY,hk,f,d,qV]
  |false=>
   rw[d]at h;refine av [gi (((k+1:Nat):Int)-1) 0,0,ix 136 3 i a.length b (((k+1:Nat):Int)-1) k ah,rr 1 h,0,ix 136 3 i a.length b (((k+1:Nat):Int)-1) k ah,rr 1 j] ?_;refine ez [.string v.val,.bool U] _ ⟨?_,F⟩;simp[sY,hk,f,d,qV]
theorem anV(x:bV)(v:aZ)(f:x.vs.length<1000000):Fl Sv 160 [pt x.c,.agg #[ai v.aG,.bool v.gone,.string v.val]].toArray [x.hd,x.rw] λ_ L=>∃g b,L=[bV.hd ⟨x.c,g,b,x.vs++[v]⟩,bV.rw ⟨x.c,g,b,x.vs++[v]⟩]:=by
 obtain⟨c,g,b,d⟩:=x;refine Fl.of 14 λi h=>?_;refine di (λ_=>[]) λz=>?_;refine jO 8 [0,2,2,2] [6,7] [8,9,10] ?_;refine tD (λ_=>[]) λj=>Gy (app1 136 1 3 d.length (by simp only at f;omega)) ?_;rintro _ _ ⟨e,a,rfl,rfl⟩;refine ib (Fl.run [0] ?_);refine av [] ?_;refine cU [2,3] [] [.ob c (.cells #[sv (Z e) (d.length+1) a] 138),.row 216 3 (Z e) (d.length+1) a (d.flatMap aZ.cells++v.cells)] ⟨Z e,a,?_⟩;simp[bV.hd,bV.rw]
def mP(a:ae aZ)(b:Int):ae aZ:=match upto a b a.length with
 |0=>a
 |k+1=>match a[k]? with
  |some v=>if v.gone then a.drop (k+1)else a.drop k
  |none=>a
theorem aev{X:Cx}{a:ae aJ}{k:ae cz}{e:Env}(c g d:Nat)(b:ae aZ)(i:Nat)(n:i<b.length)(o:b.length<1000000)
  (h:∀f j,Rs Sv X (sW a) k (pe e (kF a) (sv (Z f) (b.length-i) j)) [.ob c (.cells #[sv (Z g) b.length d] 138),.row 216 3 (Z g) b.length d (b.flatMap aZ.cells),.row 216 3 (Z f) (0+(b.length-i)) j ((b.drop i).flatMap aZ.cells)])
  (l:L=[.ob c (.cells #[sv (Z g) b.length d] 138),.row 216 3 (Z g) b.length d (b.flatMap aZ.cells)]:=by kernel_rfl)
  (m:(mM a e,fits X.N (kF a))=(Z (CU 136 (sv I 0 0) (.slice (Z ⟨g,i*3,I⟩) (b.length-i) (d-i))),U):=by kernel_rfl):Rs Sv X a k e L:=by
 subst l;refine pC 216 3 (kr (MI 136 3 2 1 g (i*3) (b.length-i) (d-i) 0 (b.flatMap aZ.cells) ((b.drop i).flatMap aZ.cells) ah ah (by rw[Bx aZ.len,List.length_drop]) (JF aZ.one _) (ajg aZ.len b i)) ?_ m);rintro _ _ ⟨f,j,rfl,rfl⟩;have:=h f j;rw[uJ]at this⊢;exact this
theorem ay8(x:bV)(h:Int)(i:x.vs.length<1000000):Fl Sv 152 [pt x.c,ai h].toArray [x.hd,x.rw] λ_ L=>∃g a,L=[bV.hd ⟨x.c,g,a,mP x.vs h⟩,bV.rw ⟨x.c,g,a,mP x.vs h⟩]:=by
 refine Fl.of 30 λq p=>?_;refine av [] ?_;refine eR [0,1] (W9 x h i) ?_;rintro _ _ ⟨rfl,rfl⟩;obtain⟨c,g,a,b⟩:=x;have n:=P2 b h b.length;unfold mP;cases hk:upto b h b.length with
 |zero=>
  simp only[hk];refine av [fu (((0:Nat):Int)-1) 0] ?_;exact ez [] _ ⟨g,a,F⟩
 |succ k=>
  simp only[hk];obtain⟨v,m⟩:∃v,b[k]?=Z v:=⟨_,eI ah⟩;simp only[m];refine lJ 1 g b.length a ah λd l r=>?_;subst l;have j:(b.flatMap aZ.cells)[k*3+1]?=Z (.bool v.gone):=gW aZ.len b k 1 v aT m;cases l:v.gone with
  |true=>
   rw[l]at j;rw[if_pos F];rcases Nat.lt_or_ge (k+1) b.length with aC|o
   ·refine av [gi (((k+1:Nat):Int)-1) 0,0,ix 136 3 d b.length a (((k+1:Nat):Int)-1) k ah,rr 1 j,aI (((k+1:Nat):Int)-1+1) ((k+1:Nat):Int) (by simp only at i;omega),0,slA 136 3 d b.length a ((k+1:Nat):Int) (k+1) ah] ?_
    refine aev c d a b (k+1) aC i λe f=>?_;refine av [0] (cU [1] [] [.ob c (.cells #[sv (Z e) (b.length-(k+1)) f] 138),.row 216 3 (Z e) (0+(b.length-(k+1))) f ((b.drop (k+1)).flatMap aZ.cells)] ⟨Z e,f,?_⟩);simp[bV.hd,bV.rw]
   ·refine av [gi (((k+1:Nat):Int)-1) 0,0,ix 136 3 d b.length a (((k+1:Nat):Int)-1) k ah,rr 1 j,aI (((k+1:Nat):Int)-1+1) ((k+1:Nat):Int) (by simp only at i;omega),0,slZ 136 3 d b.length a ((k+1:Nat):Int) ah,a0 136 3 I 0 0 (Z (if a=b.length then⟨d,0,I⟩else⟨d,b.length*3,I⟩)) (a-b.length) (dt _),0] ?_
    exact pC 216 3 (cU [1] [] _ ⟨I,0,by rw[List.drop_eq_nil_of_le ah]⟩)
  |false=>
   rw[l]at j;rw[if_neg ba];refine av [gi (((k+1:Nat):Int)-1) 0,0,ix 136 3 d b.length a (((k+1:Nat):Int)-1) k ah,rr 1 j,0,slA 136 3 d b.length a (((k+1:Nat):Int)-1) k ah] ?_;refine aev c d a b k ah i λe f=>?_;refine av [0] (cU [1] [] [.ob c (.cells #[sv (Z e) (b.length-k) f] 138),.row 216 3 (Z e) (0+(b.length-k)) f ((b.drop k).flatMap aZ.cells)] ⟨Z e,f,?_⟩);simp[bV.hd,bV.rw]
theorem afM(x:bV)(l:x.vs.length<1000000):Fl Sv 115 [pt x.c].toArray [x.hd,x.rw] λr L=>∃g b,r=sv g x.vs.length b/\L=[x.hd,x.rw,.row 216 3 g x.vs.length b (x.vs.reverse.flatMap aZ.cells)]:=by
 obtain⟨c,g,b,a⟩:=x;refine Fl.of 26 λA y=>?_;refine av [0,aI ((a.length:Int)-1) (a.length-1) (by simp only at l;omega),.g,.x] ?_;refine pC 216 3 ?_;refine ji (ι:=Nat×aj Nat×Nat) (λi=>i.1) (λi=>[(0,pt c),(3,sv i.2.1 (a.length-i.1) i.2.2),(4,ai ((i.1:Int)-1))]) (λi=>[bV.hd ⟨c,g,b,a⟩,bV.rw ⟨c,g,b,a⟩,.row 216 3 i.2.1 (a.length-i.1) i.2.2 ((a.drop i.1).reverse.flatMap aZ.cells)]) (λi=>i.1<=a.length) (a.length,I,0) (dt _) ?_ ?_ ?_
 rotate_left
 ·simp only[List.drop_length,List.reverse_nil,List.flatMap_nil,Nat.sub_self]
  kernel_rfl
 ·simp only[Nat.sub_self]
  kernel_rfl
 rintro⟨k,h,f⟩ u w;simp only at u l;cases k with
 |zero=>
  refine av [Nr (-1) 0] ?_;exact ez [sv h a.length f] _ ⟨h,f,F,F⟩
 |succ k=>
  obtain⟨v,e⟩:∃v,a[k]?=Z v:=⟨_,eI ah⟩;refine lJ 1 g a.length b ah λn s B=>?_;subst s;have d:∀j,j<3->(a.flatMap aZ.cells)[k*3+j]?=v.cells[j]?:=λj t=>gW aZ.len a k j v t e;refine di (λ_=>[He (((k+1:Nat):Int)-1) 0,0,ix 136 3 n a.length b (((k+1:Nat):Int)-1) k ah,rr 1 (d 0 aT),rr 1 (d 1 aT),rr 1 (d 2 aT)]) λz=>?_;refine kr (app1 136 2 3 (a.length-(k+1)) ah) ?_;rintro _ _ ⟨o,m,rfl,rfl⟩;refine av [aI (((k+1:Nat):Int)-1-1) ((k:Int)-1) ah,.g,.x] ?_;refine ey [3] ?_;have p:a.length-(k+1)+1=a.length-k:=by omega
  have q:(a.drop (k+1)).reverse.flatMap aZ.cells++v.cells=(a.drop k).reverse.flatMap aZ.cells:=by
   rw[List.drop_eq_getElem_cons (by omega:k<a.length),List.reverse_cons,IE];have:a[k]=v:=by rw[eI ah]at e;exact ee e
   simp[this]
  have:=w (k,Z o,m) (Nat.lt_succ_self k) (by simp only;omega);simp only[<-p,<-q]at this;exact cq this
section
open Go.Conc (G)
abbrev bU(V:Type):=ae (Int×V×Nat)
section
variable {V:Type}(X:V->ag)
def nu(x:Int×V×Nat):MapEntry:={key:=ai x.1,val:=X x.2.1,born:=x.2.2}
def fY(l:bU V):af MapEntry:=(l.map (nu X)).toArray
def vg(k:Int):bU V->Nat->aj (Nat×V)
 |[],_=>I
 |x::l,i=>if x.1=k then Z (i,x.2.1)else vg k l (i+1)
def iI(l:bU V)(k:Int):aj V:=(vg k l 0).map (·.2)
def j9(l:bU V)(k:Int)(v:V)(cQ:Nat):bU V:=match l with
 |[]=>[(k,v,cQ)]
 |x::l=>if x.1=k then(k,v,x.2.2)::l else x::j9 l k v cQ
def qP(l:bU V)(k:Int)(cQ:Nat):Nat:=if(iI l k).isSome then cQ else cQ+1
def ng(k:Int):bU V->bU V
 |[]=>[]
 |x::l=>if x.1=k then l else x::ng k l
theorem Ym{a:IntKind}(k:Int):∀(l:bU V)(i:Nat),Instr.findNow (.int a) (ai k) (l.map (nu X)) i=Z ((vg k l i).map λp=>(p.1,X p.2))
 |[],i=>rfl
 |x::l,i=>by
  have c:Instr.sameNow (.int a) (ai k) (ai x.1)=Z (k==x.1):=rfl;simp only[fw,Instr.findNow,nu,c,vg];by_cases h:x.1=k
  ·rw[if_pos h,h];simp
  ·rw[if_neg h]
   have b:(k==x.1)=Y:=by simpa usingλe=>h e.symm
   rw[b];exact Ym k l (i+1)
def vU(P:aD)(t:aK):aj (aK×ag):=match P.underlying t with
 |some (.map a b)=>match P.underlying a,P.info? b with
  |some (.int .i64),Z i=>i.zero.map λz=>(a,z)
  |_,_=>I
 |_=>I
def HT(P:aD)(t:aK):ag:=match vU P t with
 |some (_,z)=>z
 |none=>aB
theorem Ox{P:aD}{t:aK}(h:(vU P t).isSome=U):∃b a i,P.underlying t=Z (.map b a)/\P.underlying b=Z (.int .i64)/\P.info? a=Z i/\i.zero=Z (HT P t):=by
 unfold HT vU;unfold vU at h;split at h
 ·rename_i b a c
  split at h
  ·rename_i i d e
   refine⟨b,a,i,c,d,e,?_⟩;cases hz:i.zero with
   |none=>rw[hz]at h;cases h
   |some z=>simp[c,d,e,hz]
  ·cases h
 ·cases h
def TV(t:aK)(x ix:ag)(a:Bool):Sem Next:=Sem.bind (Instr.lookup t x ix a) λv=>.pure (.value v)
section
variable {P:aD}{t r:Nat}{k:Int}{l:bU V}{cQ:Nat}
theorem Rc{a:aK}(b:P.underlying a=Z (.int .i64))(w:ax):(Instr.findKey a (ai k) (l.map (nu X))).run P w=.ok ((vg k l 0).map λp=>(p.1,X p.2)) w:=by
 unfold Instr.findKey;simp only[fK,zy b,fy,Ym];rfl
theorem QJ{a:aK}(b:P.underlying a=Z (.int .i64))(e:Bool)(w:ax):(Instr.checkKey e 10000 a (ai k)).run P w=.ok () w:=by
 unfold Instr.checkKey;simp only[fK,zy b,fy];rfl
theorem aaT(a:Bool)(h:(vU P t).isSome=U)(w:ax)(g:w.heap[r]?=Z (.map (fY X l) cQ)):(TV t (.map (Z r)) (ai k) a).run P w=.ok (.value (match iI l k,a with
                                                                                    |some v,U=>.tuple #[X v,.bool U]
                                                                                    |none,U=>.tuple #[HT P t,.bool Y]
                                                                                    |some v,Y=>X v
                                                                                    |none,Y=>HT P t)) w:=by
 obtain⟨n,c,i,d,b,e,f⟩:=Ox h;show((Instr.lookup t (.map (Z r)) (ai k) a)>>=λv=>(qi (mR v):Sem Next)).run P w=_;have m:bP P (zeroValue c) w=.ok (HT P t) w:=by
  unfold zeroValue typeInfo;rw[fK,fK];show fy (fy (bP P program w) _) _=_;simp only[program,bP,fy,e];show bP P (match i.zero with
   |some v=>pure v
   |none=>unsupported _) w=_
  rw[f];rfl
 have j:bP P (j4 r) w=.ok (.map (fY X l) cQ) w:=by simp only[j4,bP,g]
 unfold Instr.lookup;simp only[fK,zy d,fy,j,pure,bP,QJ b,fY,List.size_toArray,Rc X b,iI];cases hm:vg k l 0 with
 |none=>simp only[Option.map_none,fK,m,fy,bP];cases a<;>rfl
 |some p=>simp only[jE,fy,bP];cases a<;>rfl
theorem T9:∀(l:bU V)(i:Nat),vg k l i=I->(∀v:V,j9 l k v cQ=l++[(k,v,cQ)])/\ng k l=l
 |[],i,_=>⟨λ_=>rfl,F⟩
 |x::l,i,h=>by
  simp only[vg]at h;split at h
  ·cases h
  ·rename_i a
   obtain⟨b,c⟩:=T9 l (i+1) h;exact⟨λv=>by simp only[j9,if_neg a,b];rfl,by simp only[ng,if_neg a,c]⟩
theorem Ua:∀(l:bU V)(i j:Nat)(u:V),vg k l i=Z (j,u)->i<=j/\(∃x,l[j-i]?=Z x/\x.1=k)/\ng k l=l.eraseIdx (j-i)/\∀v:V,j9 l k v cQ=l.modify (j-i) λx=>(k,v,x.2.2)
 |[],i,j,u,h=>by cases h
 |x::l,i,j,u,h=>by
  simp only[vg]at h;split at h
  ·rename_i a
   cases h;refine⟨dt _,⟨x,by simp,a⟩,?_,λv=>?_⟩
   ·simp[ng,a]
   ·simp[j9,a]
  ·rename_i a
   obtain⟨f,⟨y,b,q3⟩,c,d⟩:=Ua l (i+1) j u h;have e:j-i=(j-(i+1))+1:=by omega
   refine⟨by omega,⟨y,by rw[e];simpa using b,q3⟩,?_,λv=>?_⟩
   ·rw[e];simp only[ng,if_neg a,c,List.eraseIdx_cons_succ]
   ·rw[e];simp only[j9,if_neg a,d,List.modify_succ_cons]
theorem ayg(w:ax):(Instr.keyThatStays (ai k) (ai k)).run P w=.ok (ai k) w:=by
 unfold Instr.keyThatStays;have:Instr.sameBits 10000 (ai k) (ai k)=U:=by simp[Instr.sameBits,ai]
 rw[if_pos this];rfl
def aeD(t:aK)(m ix x:ag):Sem Next:=Sem.bind (Instr.mapUpdate t m ix x) λ_=>.pure .skip
theorem azE(v:V)(h:(vU P t).isSome=U)(w:ax)(a:w.heap[r]?=Z (.map (fY X l) cQ)):(aeD t (.map (Z r)) (ai k) (X v)).run P w=.ok .skip {w with heap:=w.heap.setIfInBounds r (.map (fY X (j9 l k v cQ)) (qP l k cQ))}:=by
 obtain⟨z,o,i,e,b,s,y⟩:=Ox h;show((Instr.mapUpdate t (.map (Z r)) (ai k) (X v))>>=λ_=>(qi Next.skip:Sem Next)).run P w=_;have g:bP P (j4 r) w=.ok (.map (fY X l) cQ) w:=by simp only[j4,bP,a]
 unfold Instr.mapUpdate;simp only[fK,zy e,fy,g,QJ b];have f:=Rc (l:=l) (k:=k) (P:=P) X b w;unfold fY;rw[f];cases hm:vg k l 0 with
 |none=>
  obtain⟨q,_⟩:=T9 (k:=k) (cQ:=cQ) l 0 hm;simp only[Option.map_none,setObj,bP,a,fy,q v,qP,iI,hm];simp[nu]
 |some p=>
  obtain⟨j,u⟩:=p;obtain⟨_,⟨x,c,q3⟩,_,d⟩:=Ua (k:=k) (cQ:=cQ) l 0 j u hm;simp only[Nat.sub_zero]at c d;simp only[jE];have m:((((l.map (nu X)).toArray)[j]?).map (·.key)).getD (ai k)=ai k:=by
   simp[c,nu,q3]
  rw[fK,m,ayg];simp only[fy,setObj,bP,a,d,qP,iI,hm];simp only[jE,Option.isSome_some,if_true];congr 5;apply zB;intro n;simp only[List.getElem?_toArray,Gm,fW,Gs];split
  ·cases l[n]?<;>simp[nu]
  ·cases l[n]?<;>rfl
theorem map_eraseIdx{α β:Type}(f:α->β):∀(l:ae α)(i:Nat),(l.map f).eraseIdx i=(l.eraseIdx i).map f
 |[],_=>rfl
 |_::_,0=>rfl
 |x::l,i+1=>by simp only[fw,List.eraseIdx_cons_succ,map_eraseIdx f l i]
def XM(a:af aK)(t:aK)(m ix:ag):Sem Next:=Sem.bind (Builtin.delete_ a t #[m,ix]) λv=>.pure (.value v)
theorem ahC{a e:aK}(h:(vU P t).isSome=U)(w:ax)(b:w.heap[r]?=Z (.map (fY X l) cQ)):(XM #[t,a] e (.map (Z r)) (ai k)).run P w=.ok (.value (.tuple #[])) {w with heap:=w.heap.setIfInBounds r (.map (fY X (ng k l)) cQ)}:=by
 obtain⟨z,s,i,f,c,x,y⟩:=Ox h;show((Builtin.delete_ #[t,a] e #[.map (Z r),ai k])>>=λv=>(qi (mR v):Sem Next)).run P w=_;have n:bP P (j4 r) w=.ok (.map (fY X l) cQ) w:=by simp only[j4,bP,b]
 unfold Builtin.delete_;have m:=Rc (l:=l) (k:=k) (P:=P) X c w;simp only[fK,List.size_toArray,jY,uI,Nat.reduceAdd,Nat.reduceLT,getElem?_pos,List.getElem_toArray,List.getElem_cons_zero,List.getElem_cons_succ,zy f,fy,n,QJ c,fY,m];cases hm:vg k l 0 with
 |none=>
  obtain⟨_,q⟩:=T9 (k:=k) (cQ:=cQ) l 0 hm;simp only[Option.map_none,fK,setObj,bP,b,fy,q];rfl
 |some p=>
  obtain⟨j,u⟩:=p;obtain⟨_,_,d,_⟩:=Ua (k:=k) (cQ:=cQ) l 0 j u hm;simp only[Nat.sub_zero]at d;have g:((l.map (nu X)).toArray).eraseIdxIfInBounds j=((ng k l).map (nu X)).toArray:=by
   rw[d,Array.eraseIdxIfInBounds];split
   ·simp[map_eraseIdx]
   ·rename_i o
    rw[List.eraseIdx_of_length_le (by simpa using o)]
  simp only[jE,fK,setObj,bP,b,fy,g];rfl
def Xy(t a:aK)(m:ag):Sem Next:=Sem.bind (Builtin.clear_ #[t] a #[m]) λv=>.pure (.value v)
theorem ahe{b:aK}(h:(vU P t).isSome=U)(w:ax)(a:w.heap[r]?=Z (.map (fY X l) cQ)):(Xy t b (.map (Z r))).run P w=.ok (.value (.tuple #[])) {w with heap:=w.heap.setIfInBounds r (.map (fY X []) cQ)}:=by
 obtain⟨m,e,i,c,f,g,j⟩:=Ox h;show((Builtin.clear_ #[t] b #[.map (Z r)])>>=λv=>(qi (mR v):Sem Next)).run P w=_;have d:bP P (j4 r) w=.ok (.map (fY X l) cQ) w:=by simp only[j4,bP,a]
 unfold Builtin.clear_;simp only[fK,List.size_toArray,jY,uI,Nat.reduceAdd,Nat.reduceLT,getElem?_pos,List.getElem_toArray,List.getElem_cons_zero,zy c,fy,d,setObj,bP,a];rfl
def OM(b:aK)(a:ag):Sem Next:=Sem.bind (Instr.next a Y b) λv=>.pure (.value v)
def X3(a:ag):Sem Next:=Sem.bind (Instr.entry a) λv=>.pure (.value v)
theorem aqN{q f a b:Nat}{seen:af Nat}(L:∀x∈l,x.2.2<a/\x.2.2<b)(w:ax)(hb:w.heap[r]?=Z (.map (fY X l) cQ))(W:w.heap[f]?=Z (.mapIter (Z r) a seen b)):
  ((∀x∈l,x.2.2∈seen)/\∃d,(OM q (.pointer (Z ⟨f,0,I⟩))).run P w=.ok (.value (.tuple #[.bool Y])) d/\d.os=w.os/\d.output=w.output/\d.heap=w.heap)\/
  (∃x∈l,x.2.2∉seen/\∃d,(OM q (.pointer (Z ⟨f,0,I⟩))).run P w=.ok (.value (.tuple #[.bool U,ai x.1,X x.2.1])) d/\d.os=w.os/\d.output=w.output/\d.heap=w.heap.setIfInBounds f (.mapIter (Z r) a (seen.push x.2.2) cQ)):=by
 have Q:bP P (j4 f) w=.ok (.mapIter (Z r) a seen b) w:=by simp only[j4,bP,W]
 have T:bP P (j4 r) w=.ok (.map (fY X l) cQ) w:=by simp only[j4,bP,hb]
 have R:(!seen.isEmpty&&!(fY X l).isEmpty&&(fY X l).all (·.born>=b))=Y:=by
  cases l with
  |nil=>simp[fY]
  |cons x l=>
   have:=(L x (eX ..)).2;have H:¬b<=x.2.2:=by omega
   simp[fY,nu,H]
 generalize hE:(fY X l)=E at*;have G:∀e∈E,∃x∈l,nu X x=e:=λe j=>by
  rw[<-hE]at j;simpa[fY]using j
 have C:∀x∈l,nu X x∈E:=λx i=>by
  rw[<-hE];simp only[fY,ko,og];exact⟨x,i,F⟩
 generalize J:(E.filter λe=>!seen.contains e.born)=A;have u:∀e,e∈A↔e∈E/\e.born∉seen:=λe=>by
  rw[<-J];simp
 have m:A.filter (λe=>decide (e.born<a))=A:=by
  rw[Array.filter_eq_self];intro e j;obtain⟨x,i,rfl⟩:=G e ((u e).1 j).1;exact decide_eq_true (L x i).1
 have rD:A.filter (λe=>decide (e.born>=a))=#[]:=by
  rw[Array.filter_eq_empty_iff];intro e j;obtain⟨x,i,rfl⟩:=G e ((u e).1 j).1;have:=(L x i).1;simp only[nu,ge_iff_le,decide_eq_true_eq];omega
 have S:∀(n:Nat),0<n->∃c g,(choose (.mapNext n)).run P w=.ok c g/\c<n/\g.os=w.os/\g.output=w.output/\g.heap=w.heap:=λn hn=>by
  unfold choose;by_cases h:(Question.mapNext n).forced=U
  ·exact⟨0,w,by simp only[bP,h,if_true],hn,F,F,F⟩
  ·exact⟨(Question.mapNext n).cut (w.tape w.drawn (.mapNext n)),{w with drawn:=w.drawn+1},by simp only[bP,h,hZ,if_false],Nat.mod_lt _ hn,F,F,F⟩
 have o:∀v d,(Instr.next (.pointer (Z ⟨f,0,I⟩)) Y q).run P w=.ok v d->(OM q (.pointer (Z ⟨f,0,I⟩))).run P w=.ok (.value v) d:=λv d h=>by
  show((Instr.next (.pointer (Z ⟨f,0,I⟩)) Y q)>>=λv=>(qi (mR v):Sem Next)).run P w=_;rw[fK,h];rfl
 by_cases s:A.isEmpty=U
 ·left
  have B:A=#[]:=by simpa using s
  refine⟨λx i=>?_,?_⟩
  ·by_cases hs:x.2.2∈seen
   ·exact hs
   ·have:=(u (nu X x)).2 ⟨C x i,hs⟩
    rw[B]at this;simp at this
  ·obtain⟨c,g,M,N,q3,O,y⟩:=S 1 aT
   have hc:c=0:=by omega
   subst hc;refine⟨g,o _ _ ?_,q3,O,y⟩;unfold Instr.next;have D:((if A.isEmpty=U then#[I]else#[])++(A++#[]).map Z).size=1:=by simp[B]
   have z:((if A.isEmpty=U then#[I]else#[])++(A++#[]).map Z)[0]?=Z I:=by simp[B]
   simp only[fK,Q,fy,T,R,hZ,if_false,J,m,rD,D,M,z,pure,bP]
 ·right
  have uX:0<A.size:=Nat.pos_of_ne_zero λh=>s (by simpa using h);obtain⟨c,g,M,N,q3,O,y⟩:=S A.size uX;have j:A[c]∈A:=Array.getElem_mem N;obtain⟨h1,H⟩:=(u _).1 j;obtain⟨x,i,p⟩:=G _ h1;have gA:x.2.2=A[c].born:=by rw[<-p];rfl
  refine⟨x,i,by rw[gA];exact H,{g with heap:=g.heap.setIfInBounds f (.mapIter (Z r) a (seen.push x.2.2) cQ)},o _ _ ?_,q3,O,by rw[y]⟩;have K:g.heap[f]?=Z (.mapIter (Z r) a seen b):=by rw[y];exact W
  unfold Instr.next;have D:((if A.isEmpty=U then#[I]else#[])++(A++#[]).map Z).size=A.size:=by simp[s]
  have z:((if A.isEmpty=U then#[I]else#[])++(A++#[]).map Z)[c]?=Z (Z A[c]):=by simp[s,N]
  simp only[fK,Q,fy,T,R,hZ,if_false,J,m,rD,D,M,z,setObj,pure,bP,K,<-p,nu]
theorem aiv{b a:Nat}{seen:af Nat}{x:Int×V×Nat}(n:x∈l)(p:(l.map (·.2.2)).Nodup)(w:ax)(g:w.heap[r]?=Z (.map (fY X l) cQ))(m:w.heap[b]?=Z (.mapIter (Z r) a (seen.push x.2.2) cQ)):(X3 (.pointer (Z ⟨b,0,I⟩))).run P w=.ok (.value (.tuple #[ai x.1,X x.2.1])) w:=by
 have d:bP P (j4 b) w=.ok (.mapIter (Z r) a (seen.push x.2.2) cQ) w:=by simp only[j4,bP,m]
 have j:bP P (j4 r) w=.ok (.map (fY X l) cQ) w:=by simp only[j4,bP,g]
 have i:∀l:bU V,x∈l->(l.map (·.2.2)).Nodup->(l.map (nu X)).find? (·.born==x.2.2)=Z (nu X x):=by
  intro l;induction l with
  |nil=>intro h;cases h
  |cons y l o=>
   intro h c;simp only[fw,oO]at c;rw[fw,List.find?_cons];rcases bM.1 h with rfl|h
   ·simp[nu]
   ·have:(nu X y).born≠x.2.2:=λe=>c.1 (by
     have e:y.2.2=x.2.2:=e;rw[e];exact jg h)
    have f:((nu X y).born==x.2.2)=Y:=by simpa using this
    rw[f];exact o h c.2
 show((Instr.entry (.pointer (Z ⟨b,0,I⟩)))>>=λv=>(qi (mR v):Sem Next)).run P w=_;unfold Instr.entry;have q:(fY X l).find? (·.born==x.2.2)=Z (nu X x):=by
  unfold fY;rw[List.find?_toArray];exact i l n p
 simp only[fK,d,fy,Array.back?_push,j,q];simp[nu,bP,pure,fK,fy]
end
end
section
variable {P:aD}{V:Type}
def lkV(P:aD)(t:aK)(X:V->ag):aj V->ag
 |some v=>.tuple #[X v,.bool U]
 |none=>.tuple #[HT P t,.bool Y]
abbrev vc(i:Nat)(t r:Nat)(k:Int)(X:V->ag)(l:bU V)(cQ:Nat)(o:aj V)(h:iI l k=o)(b:(vU P t).isSome=U:=by kernel_rfl):Aw P:=.m i r (.map (fY X l) cQ) (TV t (.map (Z r)) (ai k) U) (.value (lkV P t X o)) (λw a=>by rw[aaT X U b w a];subst h;cases iI l k<;>rfl)
abbrev lkB(i:Nat)(t r:Nat)(k:Int)(X:V->ag)(l:bU V)(cQ:Nat)(v:V)(h:iI l k=Z v)(b:(vU P t).isSome=U:=by kernel_rfl):Aw P:=.m i r (.map (fY X l) cQ) (TV t (.map (Z r)) (ai k) Y) (.value (X v)) (λw a=>by rw[aaT X Y b w a];simp only[h])
abbrev P0(i:Nat)(t r:Nat)(k:Int)(X:V->ag)(l:bU V)(cQ:Nat)(v:V)(b:(vU P t).isSome=U:=by kernel_rfl):Aw P:=.u i r (.map (fY X l) cQ) (.map (fY X (j9 l k v cQ)) (qP l k cQ)) (aeD t (.map (Z r)) (ai k) (X v)) .skip (λw a=>azE X v b w a)
abbrev XO(i:Nat)(t c d r:Nat)(k:Int)(X:V->ag)(l:bU V)(cQ:Nat)(b:(vU P t).isSome=U:=by kernel_rfl):Aw P:=.u i r (.map (fY X l) cQ) (.map (fY X (ng k l)) cQ) (XM #[t,c] d (.map (Z r)) (ai k)) (.value (.tuple #[])) (λw a=>ahC X b w a)
abbrev clA(i:Nat)(t c r:Nat)(X:V->ag)(l:bU V)(cQ:Nat)(b:(vU P t).isSome=U:=by kernel_rfl):Aw P:=.u i r (.map (fY X l) cQ) (.map (fY X []) cQ) (Xy t c (.map (Z r))) (.value (.tuple #[])) (λw a=>ahe X b w a)
theorem abM{u:ae En}(X:V->ag)(s B c r D:Nat)(l:bU V)(cQ a b:Nat)(seen:af Nat)(A:∀x∈l,x.2.2<a/\x.2.2<b)
  (h:(L[s]?,L[B]?)=(Z (.ob c (.mapIter (Z r) a seen b)),Z (.ob r (.map (fY X l) cQ))):=by kernel_rfl):
  lU P u L (OM D (pt c)) λv o=>((∀x∈l,x.2.2∈seen)/\v=.tuple #[.bool Y]/\o=L)\/(∃x∈l,x.2.2∉seen/\v=.tuple #[.bool U,ai x.1,X x.2.1]/\o=L.set s (.ob c (.mapIter (Z r) a (seen.push x.2.2) cQ))):=λw d=>by
 simp only[fN]at h;obtain⟨p,y⟩:=h;have q:w.heap[c]?=Z _:=d.at p;have z:w.heap[r]?=Z _:=d.at y;rcases aqN (P:=P) X A w z q with⟨g,n,i,q3,j,m⟩|⟨x,g,i,n,q3,j,m,C⟩
 ·exact⟨_,n,L,i,q3,j,.inl ⟨g,rfl,rfl⟩,by rw[m];exact d⟩
 ·refine⟨_,n,_,q3,j,m,.inr ⟨x,g,i,rfl,rfl⟩,?_⟩
  rw[C];exact yf d p (by show(w.heap.setIfInBounds c _)[c]?=_;rw[kJ (aC q)]) (λx f=>.inl f) ba λx _ f=>by
   rw[iK (λe=>f e.symm)]
theorem X2{e:ae En}(X:V->ag)(j m c r:Nat)(l:bU V)(cQ a:Nat)(seen:af Nat)(x:Int×V×Nat)(i:x∈l)(n:(l.map (·.2.2)).Nodup)
  (h:(L[j]?,L[m]?)=(Z (.ob c (.mapIter (Z r) a (seen.push x.2.2) cQ)),Z (.ob r (.map (fY X l) cQ))):=by kernel_rfl):
  lU P e L (X3 (pt c)) λv d=>v=.tuple #[ai x.1,X x.2.1]/\d=L:=λw b=>by
 simp only[fN]at h;obtain⟨f,g⟩:=h;exact⟨_,w,L,aiv X i n w (b.at g) (b.at f),F,F,⟨F,F⟩,b⟩
end
end
structure Ev where
 bt:Int
 step:Int
 out:Int
 val:ByteArray
 aG:Int
def Ev.cells(e:Ev):ae ag:=[ai e.bt,ai e.step,ai e.out,.string e.val,ai e.aG]
theorem Ev.len(e:Ev):e.cells.length=5:=rfl
theorem Ev.one(e:Ev):∀u∈e.cells,u.oneCell'=U:=by simp[Ev.cells,Value.oneCell',ai]
structure ff where
 busy:Bool
 holds:Bool
 b:Int
def ff.cells(e:ff):ae ag:=[.bool e.busy,.bool e.holds,ai e.b]
theorem ff.len(e:ff):e.cells.length=3:=rfl
abbrev Mk:=Int×Int
def Mk.v(m:Mk):ag:=.agg #[ai m.1,ai m.2]
abbrev Wr:=Bool×ByteArray
def Wr.v(m:Wr):ag:=.agg #[.bool m.1,.string m.2]
structure aR where
 s:Nat
 mu:Int
 sb:Nat
 si:ae ff
 cb:Nat
 vD:Nat
 ch:ae Nat
 mb:Nat
 ck:Int
 li:Int
 rp:aj Nat
 CZ:Nat
 cl:ae Nat
 eg:aj Nat
 ec:Nat
 ev:ae Ev
 sw:Nat
def aR.en(x:aR):En:=.ob x.s (.cells #[.int .i32 x.mu,.int .u32 0,sv (Z x.sb) x.si.length x.si.length,sv (Z x.cb) x.ch.length x.vD,.map (Z x.mb),ai x.ck,ai x.li,sv x.rp x.cl.length x.CZ,sv x.eg x.ev.length x.ec,pt x.sw] 109)
def aR.eE(x:aR):En:=.row 34 5 x.eg x.ev.length x.ec (x.ev.flatMap Ev.cells)
def aR.sE(x:aR):En:=.row 111 3 (Z x.sb) x.si.length x.si.length (x.si.flatMap ff.cells)
def aR.cE(x:aR):En:=.row 135 1 (Z x.cb) x.ch.length x.vD (x.ch.map pt)
def aR.lE(x:aR):En:=.row 149 1 x.rp x.cl.length x.CZ (x.cl.map pt)
def aR.mE(x:aR)(a:bU Mk)(k:Nat):En:=.ob x.mb (.map (fY Mk.v a) k)
structure Stp where
 kind:Int
 key:Int
 val:ByteArray
def Stp.cells(p:Stp):ae ag:=[ai p.kind,ai p.key,.string p.val]
theorem Stp.len(p:Stp):p.cells.length=3:=rfl
theorem Stp.one(p:Stp):∀u∈p.cells,u.oneCell'=U:=by simp[Stp.cells,Value.oneCell',ai]
structure c5 where
 c:Nat
 id:Int
 pg:aj Nat
 pc:Nat
 pr:ae Stp
 at_:Nat
 nx:ag
 wb:Nat
 site:Nat
 b:Int
 aG:Int
 wk:ag
 tl:ag
def aR.kE(x:aR)(y:c5):En:=.ob y.c (.cells #[ai y.id,pt x.s,sv y.pg y.pr.length y.pc,ai y.at_,y.nx,.map (Z y.wb),ai y.site,ai y.b,ai y.aG,y.wk,y.tl] 152)
def c5.wE(y:c5)(a:bU Wr)(k:Nat):En:=.ob y.wb (.map (fY Wr.v a) k)
def c5.pE(y:c5):En:=.row 50 3 y.pg y.pr.length y.pc (y.pr.flatMap Stp.cells)
def aR.bA(x:aR)(y:c5)(o:Int)(v:ByteArray)(t:Int)(g:aj Nat)(a:Nat):aR:={x with eg:=g,ec:=a,ev:=x.ev++[⟨y.id,y.at_,o,v,t⟩]}
def c5.rd(y:c5):c5:={y with at_:=y.at_+1,nx:=.func (.func 60) #[pt y.c] #[]}
structure aR.Ok(x:aR)(y:c5):Prop where
 ev:x.ev.length<1000000
 at_:y.at_<1000000
theorem zU(x:aR)(y:c5)(o t:Int)(v:ByteArray)(h:x.Ok y):Fl Sv 100 [pt y.c,ai o,.string v,ai t].toArray [x.en,x.kE y,x.eE] λr L=>r=ai 1/\∃g b,L=[(x.bA y o v t g b).en,x.kE y.rd,(x.bA y o v t g b).eE]:=by
 obtain⟨f,i⟩:=h;refine Fl.of 48 λe d=>?_;refine av [] ?_;refine jO 25 [1,1,0,1,1] [23,24] [25,26,27] ?_;refine tD (λ_=>[]) λz=>Gy (app1 25 2 3 x.ev.length ah) ?_;rintro _ _ ⟨c,a,rfl,rfl⟩;refine ib (Fl.run [0] ?_);refine av [1,aS y.at_,1,1] ?_;refine cU [3] [ai 1] [.ob x.s (.cells #[.int .i32 x.mu,.int .u32 0,sv (Z x.sb) x.si.length x.si.length,sv (Z x.cb) x.ch.length x.vD,.map (Z x.mb),ai x.ck,ai x.li,sv x.rp x.cl.length x.CZ,sv (Z c) (x.ev.length+1) a,pt x.sw] 109),x.kE y.rd,.row 34 5 (Z c) (x.ev.length+1) a (x.ev.flatMap Ev.cells++Ev.cells ⟨y.id,y.at_,o,v,t⟩)] ⟨F,Z c,a,?_⟩;simp[aR.bA,aR.en,aR.eE]
structure mG{V:Type}(l:bU V)(k:Nat):Prop where
 keys:(l.map (·.1)).Nodup
 born:(l.map (·.2.2)).Nodup
 old:∀x∈l,x.2.2<k
theorem mG.sub{l b:bU V}(h:mG l k)(a:b.Sublist l):mG b k:=⟨(a.map _).nodup h.keys,(a.map _).nodup h.born,λx c=>h.old x (a.subset c)⟩
theorem aa8{V:Type}:∀(l:bU V)(x:Int×V×Nat),(l.map (·.1)).Nodup->(l.map (·.2.2)).Nodup->x∈l->ng x.1 l=l.filter λy=>!(y.2.2==x.2.2)
 |y::l,x,c,b,a=>by
  simp only[fw,oO]at c b;rcases bM.1 a with rfl|a
  ·have:l.filter (λy=>!(y.2.2==x.2.2))=l:=List.filter_eq_self.2 λz d=>by
    have:z.2.2≠x.2.2:=λe=>b.1 (by rw[<-e];exact jg d);simpa using this
   simp[ng,this]
  ·have f:y.1≠x.1:=λe=>c.1 (by rw[e];exact jg a)
   have g:y.2.2≠x.2.2:=λe=>b.1 (by rw[e];exact jg a);simp only[ng,if_neg f,Ej];rw[if_pos (by simpa using g),aa8 l x c.2 b.2 a]
def vW(id:Int)(a:bU Mk):bU Mk:=a.filter λx=>!(x.2.1.1==id)
def vf(id:Int)(a:bU Mk)(seen:af Nat):bU Mk:=a.filter λx=>!(x.2.1.1==id&&seen.contains x.2.2)
theorem Rg{α:Type}{f:α->ae ag}(d:∀a,(f a).length=3)(z:α){u v w:ag}(g:f z=[u,v,w]):∀(l:ae α)(i:Nat),i<l.length->(((l.flatMap f).set (i*3) u).set (i*3+1) v).set (i*3+2) w=(l.set i z).flatMap f
 |[],_,h=>absurd h ba
 |x::l,0,_=>by
  obtain⟨a,b,c,e⟩:∃a b c,f x=[a,b,c]:=by
   have:=d x
   match hx:f x with
   |[a,b,c]=>exact⟨a,b,c,F⟩
   |[]|[_]|[_,_]|_::_::_::_::_=>rw[hx]at this;simp at this
  simp[e,g]
 |x::l,i+1,h=>by
  have:=Rg d z g l i (by simpa using h);rw[vp,List.set_cons_succ,vp,<-this];have e:(i+1)*3=(f x).length+i*3:=by rw[d];omega
  rw[List.set_append_right _ _ (by rw[e];omega),e,Nat.add_sub_cancel_left,List.set_append_right _ _ ah,List.set_append_right _ _ ah];congr 3<;>omega
theorem Yk{α:Type}{p q:α->Bool}(h:∀x,q x=U->p x=U):∀l:ae α,(∃e∈l,p e=U/\q e=Y)->(l.filter q).length<(l.filter p).length
 |[],⟨_,h,_⟩=>by cases h
 |x::l,⟨e,a,d,f⟩=>by
  have b:∀l:ae α,(l.filter q).length<=(l.filter p).length:=by
   intro l;induction l with
   |nil=>exact dt _
   |cons y l c=>
    simp only[Ej];cases hq:q y with
    |true=>simp only[h y hq,if_true,jY];omega
    |false=>
     simp only[hZ,if_false];split
     ·simp only[jY];omega
     ·exact c
  simp only[Ej];rcases bM.1 a with rfl|a
  ·simp only[d,f,if_true,hZ,if_false,jY]
   have:=b l;omega
  ·have c:=Yk h l ⟨e,a,d,f⟩
   cases hq:q x with
   |true=>simp only[h x hq,if_true,jY];omega
   |false=>
    simp only[hZ,if_false];split
    ·simp only[jY];omega
    ·exact c
theorem OC{α β:Type}{f:α->β}:∀{l:ae α},(l.map f).Nodup->∀{x y:α},x∈l->y∈l->f x=f y->x=y
 |z::l,h,x,y,c,d,e=>by
  simp only[fw,oO]at h;rcases bM.1 c with rfl|b<;>rcases bM.1 d with rfl|a
  ·rfl
  ·exact absurd (e▸jg (f:=f) a:f x∈l.map f) h.1
  ·exact absurd (e▸jg (f:=f) b:f y∈l.map f) h.1
  ·exact OC h.2 b a e
theorem auM{a:bU V}{seen:af Nat}{e:Int×V×Nat}(b:e∈a)(c:e.2.2∉seen):(a.filter λx=>!(seen.push e.2.2).contains x.2.2).length<(a.filter λx=>!seen.contains x.2.2).length:=Yk (λx d=>by
                                                                                                                                                                                simp only[Array.contains_push,Bool.not_or,gT]at d;simp_all) a ⟨e,b,by simpa using c,by simp⟩
theorem KV(x:aR)(y:c5)(a:bU Mk)(k:Nat)(p:bU Wr)(h:Nat)(d:mG a k)(i:y.site<x.si.length):Fl Sv 101 [pt y.c].toArray [x.en,x.kE y,x.mE a k,x.sE,y.wE p h] λ_ L=>L=[x.en,x.kE y,x.mE (vW y.id a) k,{x with si:=x.si.set y.site ⟨Y,Y,0⟩}.sE,y.wE [] h]:=by
 refine Fl.of 45 λG E=>?_;refine di (λ_=>[1,0,2,.g,.x]) λz=>?_;refine ji (ι:=af Nat) (λseen=>(a.filter λx=>!seen.contains x.2.2).length) (λ_=>[(0,pt y.c),(2,pt x.s),(13,pt z)]) (λseen=>[x.en,x.kE y,x.mE (vf y.id a seen) k,x.sE,y.wE p h,.ob z (.mapIter (Z x.mb) k seen k)]) (λ_=>True) #[] trivial ?_ ?_
 rotate_left
 ·have:vf y.id a #[]=a:=by simp[vf]
  rw[this];show _=_;kernel_rfl
 rintro seen _ s;have g:(vf y.id a seen).Sublist a:=List.filter_sublist;refine av [] ?_;refine kr (abM Mk.v 5 2 z x.mb 0 (vf y.id a seen) k k k seen λe b=>⟨d.old e (g.subset b),d.old e (g.subset b)⟩) ?_;rintro _ _ (⟨D,rfl,rfl⟩|⟨e,b,t,rfl,rfl⟩)
 ·obtain⟨v,n⟩:∃v,x.si[y.site]?=Z v:=⟨_,eI i⟩
  have w:(x.si.flatMap ff.cells)[y.site*3]?=Z (.bool v.busy):=gW ff.len x.si y.site 0 v aT n;have A:((x.si.flatMap ff.cells).set (y.site*3) (.bool Y))[y.site*3+1]?=Z (.bool v.holds):=by
   rw[uH ah];exact gW ff.len x.si y.site 1 v aT n
  have B:(((x.si.flatMap ff.cells).set (y.site*3) (.bool Y)).set (y.site*3+1) (.bool Y))[y.site*3+2]?=Z (ai v.b):=by
   rw[uH ah,uH ah];exact gW ff.len x.si y.site 2 v aT n
  refine av [] ?_;refine jO 9 [0,1] [] [9,10] (Fl.run [iX 95 3 x.sb x.si.length i,rr 3 w,rr 3 A,rr 3 B] ?_);refine av [1,clA 4 150 0 y.wb Wr.v p h] ?_;have j:vf y.id a seen=vW y.id a:=List.filter_congr λe b=>by
   by_cases c:e.2.1.1=y.id
   ·have:e.2.2∈seen:=Classical.byContradiction λr=>r (D e (List.mem_filter.2 ⟨b,by simp[r]⟩))
    simp[c,this]
   ·simp[c]
  refine cU [5] [] [x.en,x.kE y,x.mE (vf y.id a seen) k,.row 111 3 (Z x.sb) x.si.length x.si.length ((((x.si.flatMap ff.cells).set (y.site*3) (.bool Y)).set (y.site*3+1) (.bool Y)).set (y.site*3+2) (ai 0)),y.wE [] h] ?_;rw[j,Rg ff.len ⟨Y,Y,0⟩ F x.si y.site i];simp[aR.sE]
 ·refine av [] ?_
  have o:=(List.mem_filter.1 b);have q:=auM o.1 t;refine kr (X2 Mk.v 5 2 z x.mb (vf y.id a seen) k k seen e b ((g.map _).nodup d.born)) ?_;rintro _ _ ⟨rfl,rfl⟩;refine di (λ_=>[6,6]) λH=>?_;by_cases c:e.2.1.1=y.id
  ·refine gw 7 [6,1,bT c] [] (Fl.nil ?_)
   refine av [0,XO 2 97 3 0 x.mb e.1 Mk.v (vf y.id a seen) k,.g,.x] ?_;refine ey [6] ?_;have l:ng e.1 (vf y.id a seen)=vf y.id a (seen.push e.2.2):=by
    rw[aa8 _ e ((g.map _).nodup d.keys) ((g.map _).nodup d.born) b];unfold vf;rw[List.filter_filter];refine List.filter_congr λu m=>?_;by_cases f:u.2.2=e.2.2
    ·have:=OC d.born m o.1 f
     subst this;simp[c]
    ·have C:(u.2.2==e.2.2)=Y:=by simpa using f
     simp[Array.contains_push,f,C]
   have:=s (seen.push e.2.2) q trivial;rw[<-l]at this;exact cq this
  ·refine gw 7 [6,1,bF c] [] (Fl.nil ?_)
   refine av [.g,.x] ?_;refine ey [6] ?_;have l:vf y.id a seen=vf y.id a (seen.push e.2.2):=List.filter_congr λu m=>by
    by_cases f:u.2.2=e.2.2
    ·have:=OC d.born m o.1 f
     subst this;simp[c]
    ·simp[Array.contains_push,f]
   have:=s (seen.push e.2.2) q trivial;rw[<-l]at this;exact cq this
variable {x:aR}
theorem Yv(v:ff):Fl Sv 132 [.agg #[.bool v.busy,.bool v.holds,ai v.b]].toArray [] λr L=>r=.bool (!v.busy)/\L=[]:=by
 refine Fl.of 6 λb a=>?_;refine di (λ_=>[0]) λz=>?_;exact cU [0] [.bool (!v.busy)] [] ⟨F,F⟩
def tR:ae ff->Nat->aj Nat
 |[],_=>I
 |v::l,i=>if v.busy then tR l (i+1)else Z i
def ajj:aj Nat->Int
 |some i=>i
 |none=>-1
theorem aji{a:ae ff}{v:ff}(h:a[i]?=Z v):tR (a.drop i) i=if v.busy then tR (a.drop (i+1)) (i+1)else Z i:=by
 obtain⟨b,e⟩:=dq.1 h;rw[List.drop_eq_getElem_cons b,e];rfl
theorem Yu:∀(l:ae ff)(i j:Nat),tR l i=Z j->i<=j/\j<i+l.length
 |[],_,_,h=>by cases h
 |v::l,i,j,h=>by
  simp only[tR]at h;split at h
  ·have:=Yu l (i+1) j h
   simp only[jY];omega
  ·cases h;simp
theorem anA(x:aR)(n:x.si.length<1000000):Fl Sv 131 [sv (some x.sb) x.si.length x.si.length,.func (.func 132) #[] #[]].toArray [x.sE] λr L=>r=goInt (ajj (tR x.si 0))∧L=[x.sE]:=by
 refine Fl.of 19 λl k=>?_;refine av [.g,.x] ?_;refine ji (λi=>x.si.length-i) (λi=>[(0,sv (some x.sb) x.si.length x.si.length),(1,.func (.func 132) #[] #[]),(7,goInt x.si.length),(8,goInt i)]) (λ_=>[x.sE]) (λi=>i≤x.si.length∧tR (x.si.drop i) i=tR x.si 0) 0 ⟨Nat.zero_le _,by simp⟩ ?_;rintro i ⟨m,a⟩ h;by_cases aC:i<x.si.length
 ·obtain⟨⟨e,c,d⟩,f⟩:∃v,x.si[i]?=some v:=⟨_,List.getElem?_eq_getElem aC⟩
  have b:∀j,j<3→(x.si.flatMap ff.cells)[i*3+j]?=(ff.cells ⟨e,c,d⟩)[j]?:=λj g=>gW ff.len x.si i j _ g f;rw[aji f]at a;cases e with
  |true=>
   rw[if_pos rfl]at a;refine av [fu i x.si.length,iX 95 3 x.sb x.si.length aC,rr 0 (b 0 aT),rr 0 (b 1 aT),rr 0 (b 2 aT)] ?_;refine IU (Yv ⟨true,c,d⟩) ?_;rintro _ _ ⟨rfl,rfl⟩;refine av [aS i,.g,.x] ?_;exact cq (h (i+1) ah ⟨aC,a⟩)
  |false=>
   rw[if_neg ba]at a;refine av [fu i x.si.length,iX 95 3 x.sb x.si.length aC,rr 0 (b 0 aT),rr 0 (b 1 aT),rr 0 (b 2 aT)] ?_;refine IU (Yv ⟨false,c,d⟩) ?_;rintro _ _ ⟨rfl,rfl⟩;refine av [] ?_;exact ez [goInt i] _ ⟨by rw[←a];rfl,rfl⟩
 ·have:i=x.si.length:=by omega
  subst this;refine av [gi x.si.length x.si.length] ?_;refine ez [goInt (-1)] _ ⟨?_,rfl⟩;rw[←a,List.drop_length];rfl
def xO(a:Bool)(v:ByteArray):Int×ByteArray:=if a then(3,⟨#[]⟩)else(2,v)
def Aj(e:bU Wr)(d:bU Mk)(c:ae aZ)(a id b:Int):aj (Int×ByteArray):=match iI e a with
 |some w=>Z (xO w.1 w.2)
 |none=>match iI d a with
  |some m=>if m.1≠id/\m.2≠0/\m.2<=b then I else Z (xO (!(sY c b).2) (sY c b).1)
  |none=>Z (xO (!(sY c b).2) (sY c b).1)
noncomputable def ajw:ae aJ:=(nx Sv ⟨99,88,.normal,[],[],λ_ _=>True⟩ (bO Sv 99 #[] .normal).todo [] (CV [pt 0,ai 0] 0) [.ob 0 (.cells #[aB,aB,aB,aB,aB,.map (Z 1),aB,aB,aB,aB,aB] 152),.ob 1 (.map (fY Wr.v [(0,(Y,⟨#[]⟩),0)]) 1)] [0,vc 1 150 1 0 Wr.v [(0,(Y,⟨#[]⟩),0)] 1 (Z (Y,⟨#[]⟩)) F,2,2] (.n 2)).todo
theorem YG{j:ae aA}{i:ae En}(x:aR)(y:c5)(e:bU Mk)(k:Nat)(f:bU Wr)(d:Nat)(C:bV)(z:Nat)(a:Bool)(v:ByteArray)(h:x.Ok y)
  (c:∀g b,R (ai 1) [(x.bA y (xO a v).1 (xO a v).2 0 g b).en,x.kE y.rd,(x.bA y (xO a v).1 (xO a v).2 0 g b).eE,x.mE e k,y.wE f d,x.cE,C.hd,C.rw]):
  Rs Sv (fx Sv 99 88 j i R) ajw [] [(0,pt y.c),(5,pt z),(80,pt z)] [x.en,x.kE y,x.eE,x.mE e k,y.wE f d,x.cE,C.hd,C.rw,.ob z (.cells #[.bool a,.string v] 194)]:=by
 cases a with
 |true=>
  refine av [8] ?_;refine eR [0,1,2] (zU x y 3 0 ⟨#[]⟩ h) ?_;rintro _ _ ⟨rfl,g,b,rfl⟩;refine av [] ?_;exact cU [8] [ai 1] _ (c g b)
 |false=>
  refine av [8,8] ?_;refine eR [0,1,2] (zU x y 2 0 v h) ?_;rintro _ _ ⟨rfl,g,b,rfl⟩;refine av [] ?_;exact cU [8] [ai 1] _ (c g b)
noncomputable def ajx:ae aJ:=(nx Sv ⟨99,88,.normal,[],[],λ_ _=>True⟩ (tQ (nx Sv ⟨99,88,.normal,[],[],λ_ _=>True⟩ (bO Sv 99 #[] .normal).todo [] (CV [pt 0,ai 0] 0) [.ob 0 (.cells #[aB,pt 2,aB,aB,aB,.map (Z 1),aB,aB,aB,aB,aB] 152),.ob 1 (.map (fY Wr.v []) 1),.ob 2 (.cells #[aB,aB,aB,aB,.map (Z 3),aB,aB,aB,aB,aB] 109),.ob 3 (.map (fY Mk.v []) 1)]
 [0,vc 1 150 1 0 Wr.v [] 1 I F,4,4,0,2,vc 3 97 3 0 Mk.v [] 1 I F,5,5] (.n 4)).todo) [] [(57,.bool Y)] [] []).todo
def Bz(x:aR)(y:c5)(c:bU Mk)(k:Nat)(d:bU Wr)(e:Nat)(C:bV)(b:Nat)(r:ag)(L:ae En):Prop:=match Aj d c C.vs b y.id y.b with
 |none=>r=ai 0/\L=[x.en,x.kE y,x.eE,x.mE c k,y.wE d e,x.cE,C.hd,C.rw]
 |some o=>r=ai 1/\∃g a,L=[(x.bA y o.1 o.2 0 g a).en,x.kE y.rd,(x.bA y o.1 o.2 0 g a).eE,x.mE c k,y.wE d e,x.cE,C.hd,C.rw]
theorem ajz (x:aR) (y:c5) (ms:bU Mk) (k:Nat) (ws:bU Wr) (kw:Nat) (C:bV) (key:Nat) (h:x.Ok y) (hk:x.ch[key]?=some C.c) (hl:C.vs.length<1000000):Fl Sv 99 [pt y.c,goInt key].toArray [x.en,x.kE y,x.eE,x.mE ms k,y.wE ws kw,x.cE,C.hd,C.rw] (Bz x y ms k ws kw C key):=by
 have r:(x.ch.map pt)[key*1]?=some (pt C.c):=by rw[Nat.mul_one,List.getElem?_map,hk];rfl
 have t:key<x.ch.length:=(List.getElem?_eq_some_iff.1 hk).1;refine Fl.of 88 λs q=>?_;cases hw:iI ws key with
 |some w=>
  obtain⟨v,A⟩:=w;refine di (λ_=>[1,vc 4 150 y.wb key Wr.v ws kw _ hw,8,8]) λz=>?_;refine cq (YG x y ms k ws kw C z v A h λg b=>?_);simp only[Bz,Aj,hw];exact⟨trivial,g,b,rfl⟩
 |none=>
  have c:∀(z:Nat)(e:En)(a:match iI ms key with
    |some m=>¬(m.1≠y.id∧m.2≠0∧m.2≤y.b)
    |none=>True),Rs Sv (fx Sv 99 88 s q (Bz x y ms k ws kw C key)) ajx [] [(0,pt y.c),(1,goInt key),(5,pt z)]
     [x.en,x.kE y,x.eE,x.mE ms k,y.wE ws kw,x.cE,C.hd,C.rw,.ob z (.cells #[.bool false,.string ⟨#[]⟩] 194),e]:=λz e a=>by
   refine jO 19 [1,0,iX 96 1 x.cb x.vD t,rr 5 r,1] [14,.p [15,16,17,18]] [19] ?_;refine qq [6,7] (atC C y.b hl) ?_;rintro _ _ ⟨rfl,rfl⟩;refine ib (zL [] (Fl.run [] (av [8,8] (ey [9] (cq (YG x y ms k ws kw C z (!(sY C.vs y.b).2) (sY C.vs y.b).1 h λg b=>?_))))));have:Aj ws ms C.vs key y.id y.b=some (xO (!(sY C.vs y.b).2) (sY C.vs y.b).1):=by
    simp only[Aj,hw];cases Aq:iI ms key with
    |none=>simp only
    |some m=>
     rw[Aq]at a;simp only at a⊢;rw[if_neg a]
   simp only[Bz,this];exact⟨trivial,g,b,rfl⟩
  rcases a:iI ms key with _|⟨l,mt⟩
  ·refine di (λ_=>[1,vc 4 150 y.wb key Wr.v ws kw _ hw,8,8,1,0,vc 3 97 x.mb key Mk.v ms k _ a,9,9]) λz=>?_
   exact gw 24 [] [] (Fl.nil (av [] (cq (c z (.ob (z+1) (.cells #[goInt 0,goInt 0] 113)) (by rw[a];trivial)))))
  ·by_cases i:l≠y.id∧mt≠0∧mt≤y.b
   ·obtain⟨p,n,o⟩:=i
    refine di (λ_=>[1,vc 4 150 y.wb key Wr.v ws kw _ hw,8,8,1,0,vc 3 97 x.mb key Mk.v ms k _ a,9,9]) λz=>?_;refine gw 24 [9,1,xF p,9,xF n,9,1,bT o] [] (Fl.nil (av [] ?_));have:Aj ws ms C.vs key y.id y.b=none:=by simp only[Aj,hw,a,if_pos (And.intro p (And.intro n o))]
    refine cU [8,9] [goInt 0] [x.en,x.kE y,x.eE,x.mE ms k,y.wE ws kw,x.cE,C.hd,C.rw] ?_;simp only[Bz,this];exact⟨rfl,trivial⟩
   ·refine di (λ_=>[1,vc 4 150 y.wb key Wr.v ws kw _ hw,8,8,1,0,vc 3 97 x.mb key Mk.v ms k _ a,9,9]) λz=>?_
    have j:=c z (.ob (z+1) (.cells #[goInt l,goInt mt] 113)) (by rw[a];exact i);by_cases d:l=y.id
    ·exact gw 24 [9,1,B7 d] [] (Fl.nil (av [] (cq j)))
    ·by_cases f:mt=0
     ·exact gw 24 [9,1,xF d,9,B7 f] [] (Fl.nil (av [] (cq j)))
     ·exact gw 24 [9,1,xF d,9,xF f,9,1,bF λu=>i ⟨d,f,u⟩] [] (Fl.nil (av [] (cq j)))
theorem Yo{α:Type}{f:α->ae ag}{k:Nat}(b:∀a,(f a).length=k):∀(l:ae α)(i j:Nat)(x z:α)(u:ag),j<k->l[i]?=Z x->f z=(f x).set j u->(l.flatMap f).set (i*k+j) u=(l.set i z).flatMap f
 |[],i,j,x,z,u,_,h,_=>by simp at h
 |y::l,0,j,x,z,u,c,h,d=>by
  simp only[qe,gB]at h;subst h;rw[vp,List.set_cons_zero,vp,Nat.zero_mul,uJ,List.set_append_left _ _ (by rw[b];exact c),d]
 |y::l,i+1,j,x,z,u,c,h,d=>by
  simp only[List.getElem?_cons_succ]at h;rw[vp,List.set_cons_succ,vp,<-Yo b l i j x z u c h d,List.set_append_right _ _ (by rw[b,Nat.succ_mul];omega),b];congr 2;rw[Nat.succ_mul];omega
abbrev Vj(c:Nat):ag:=.func (.func 133) #[pt c] #[]
def c5.skip(y:c5):c5:={y.rd with nx:=Vj y.c}
def c5.take(y:c5)(i a b:Nat):c5:={y with site:=i,nx:=.func (.func 134) #[] #[pt a,pt b]}
def GW(x:aR)(y:c5)(r:ag)(L:ae En):Prop:=r=ai 1/\match tR x.si 0 with
 |none=>∃g a,L=[(x.bA y 5 ⟨#[]⟩ 0 g a).en,x.kE y.skip,(x.bA y 5 ⟨#[]⟩ 0 g a).eE,x.sE]
 |some i=>∃v b c,x.si[i]?=Z v/\L=[x.en,x.kE (y.take i b c),x.eE,{x with si:=x.si.set i {v with busy:=U}}.sE,.ob b (.cells #[pt y.c] 149),.ob c (.cells #[ai i] 3)]
theorem agn(x:aR)(y:c5)(h:x.Ok y)(f:x.si.length<1000000):Fl Sv 98 [pt y.c].toArray [x.en,x.kE y,x.eE,x.sE] (GW x y):=by
 refine Fl.of 39 λk j=>?_;refine di (λ_=>[4,1,0]) λz=>?_;refine eR [3] (anA x f) ?_;rintro _ _ ⟨rfl,rfl⟩;cases hf:tR x.si 0 with
 |none=>
  refine di (λ_=>[5,5,fu (-1) 0,4]) λb=>?_;refine eR [0,1,2] (zU x y 5 0 ⟨#[]⟩ h) ?_;rintro _ _ ⟨rfl,g,a,rfl⟩;refine av [4,4,1] ?_;refine cU [4,5] [goInt 1] [(x.bA y 5 ⟨#[]⟩ 0 g a).en,x.kE y.skip,(x.bA y 5 ⟨#[]⟩ 0 g a).eE,x.sE] ?_;simp only[GW,hf];exact⟨rfl,g,a,rfl⟩
 |some i=>
  have d:i<x.si.length:=by
   have:=Yu _ _ _ hf;omega
  obtain⟨v,c⟩:∃v,x.si[i]?=some v:=⟨_,List.getElem?_eq_getElem d⟩;have e:(x.si.flatMap ff.cells)[i*3]?=some (.bool v.busy):=gW ff.len x.si i 0 v aT c;refine di (λ_=>[5,5,gi i 0,4,5,1]) λb=>?_;refine jO 8 [4,1,0,5] [] [8,9,10] (Fl.run [iX 95 3 x.sb x.si.length d,rr 3 e] ?_);refine av [4,1] ?_;refine cU [] [goInt 1] [x.en,x.kE (y.take i z b),x.eE,.row 111 3 (some x.sb) x.si.length x.si.length ((x.si.flatMap ff.cells).set (i*3+0) (.bool true)),.ob z (.cells #[pt y.c] 149),.ob b (.cells #[goInt i] 3)] ?_;rw[Yo ff.len x.si i 0 v {v with busy:=true} _ aT c rfl];simp only[GW,hf];exact⟨rfl,v,z,b,c,by simp[aR.sE]⟩
def c5.nk(y:c5)(b:Int):c5:={y with b:=b}
def agk(x:aR)(y:c5)(i:Nat)(r:ag)(L:ae En):Prop:=r=ai 1/\∃g a,L=[(x.bA y 1 ⟨#[]⟩ x.ck g a).en,x.kE (y.nk x.ck).rd,(x.bA y 1 ⟨#[]⟩ x.ck g a).eE,({x with si:=x.si.set i ⟨U,U,x.ck⟩}:aR).sE]
theorem agl(x:aR)(y:c5)(i d e:Nat)(h:x.Ok y)(b:i<x.si.length):Fl Sv 134 [pt d,pt e].toArray [x.en,x.kE y,x.eE,x.sE,.ob d (.cells #[pt y.c] 149),.ob e (.cells #[goInt i] 3)] (agk x y i):=by
 obtain⟨v,c⟩:∃v,x.si[i]?=some v:=⟨_,List.getElem?_eq_getElem b⟩;have j:(x.si.flatMap ff.cells)[i*3]?=some (.bool v.busy):=gW ff.len x.si i 0 v aT c;have k:((x.si.flatMap ff.cells).set (i*3) (.bool true))[i*3+1]?=some (.bool v.holds):=by
  rw[List.getElem?_set_ne ah];exact gW ff.len x.si i 1 v aT c
 have l:(((x.si.flatMap ff.cells).set (i*3) (.bool true)).set (i*3+1) (.bool true))[i*3+2]?=some (goInt v.b):=by
  rw[List.getElem?_set_ne ah,List.getElem?_set_ne ah];exact gW ff.len x.si i 2 v aT c
 refine Fl.of 33 λn m=>?_;refine av [] ?_;refine jO 8 [4,4,1,0] [] [8,9,10] (Fl.run [1] (av [] ?_));refine jO 13 [4,1,0,5,4,1] [] [13,14] (Fl.run [iX 95 3 x.sb x.si.length b,rr 3 j,rr 3 k,rr 3 l] (av [] ?_));have f:=Rg ff.len ⟨true,true,x.ck⟩ rfl x.si i b;refine gw 7 [4,4,1] [5,6] ?_;refine qq [0,1,2] (zU x (y.nk x.ck) 1 x.ck ⟨#[]⟩ ⟨h.1,h.2⟩) ?_;rintro _ _ ⟨rfl,g,a,rfl⟩;refine ib (yg [] (Fl.nil (av [] ?_)));refine cU [4,5] [goInt 1] [(x.bA y 1 ⟨#[]⟩ x.ck g a).en,x.kE (y.nk x.ck).rd,(x.bA y 1 ⟨#[]⟩ x.ck g a).eE,.row 111 3 (some x.sb) x.si.length x.si.length ((((x.si.flatMap ff.cells).set (i*3) (.bool true)).set (i*3+1) (.bool true)).set (i*3+2) (goInt x.ck))] ⟨rfl,g,a,?_⟩;rw[f];simp[aR.sE]
def If(p:Stp)(y:c5):c5:=if p.kind≠5/\p.kind≠6 then y.skip else y.rd
def abY(x:aR)(y:c5)(p:Stp)(r:ag)(L:ae En):Prop:=r=ai 1/\∃g a,L=[(x.bA y 7 ⟨#[]⟩ 0 g a).en,x.kE (If p y),(x.bA y 7 ⟨#[]⟩ 0 g a).eE,y.pE]
theorem c5.of{y:c5}{g:Nat}(h:y.pg=Z g):∃a:c5,y={a with pg:=Z g}:=⟨y,by cases y;simp_all⟩
theorem IV{X:Cx}{b:ae aJ}{d:ae cz}{c:Env}(i:Nat)(g:aj Nat)(n a:Nat)(j:0<n)(e:g=I)(f:(L[i]?).map X1=.some (.some (g,n,a)):=by kernel_rfl):Rs Sv X b d c L:=lJ i g n a j (λk h _=>by rw[e]at h;cases h) f
theorem ars(x:aR)(y:c5)(p:Stp)(h:x.Ok y)(d:y.pr[y.at_]?=some p):Fl Sv 154 [pt y.c].toArray [x.en,x.kE y,x.eE,y.pE] (abY x y p):=by
 have aC:y.at_<y.pr.length:=(List.getElem?_eq_some_iff.1 d).1;have j:(y.pr.flatMap Stp.cells)[y.at_*3]?=some (goInt p.kind):=gW Stp.len y.pr y.at_ 0 p aT d;rcases iT:y.pg with _|i
 ·exact Fl.of 28 λf e=>IV 3 y.pg y.pr.length y.pc ah iT
 obtain⟨y,rfl⟩:=c5.of iT;refine Fl.of 28 λf e=>?_;refine av [] ?_;refine gw 12 [1,1,iX 45 3 i y.pc aC,rr 3 j] [] (Fl.nil (av [] ?_));refine eR [0,1,2] (zU x _ 7 0 ⟨#[]⟩ h) ?_;rintro _ _ ⟨rfl,g,a,rfl⟩;by_cases b:p.kind=5
 ·refine av [B7 b] (ez [goInt 1] _ ⟨rfl,g,a,rfl⟩ (hL:=?_))
  rw[If,if_neg (by simp[b])];kernel_rfl
 ·by_cases c:p.kind=6
  ·refine av [xF b,B7 c] (ez [goInt 1] _ ⟨rfl,g,a,rfl⟩ (hL:=?_))
   rw[If,if_neg (by simp[c])];kernel_rfl
  ·refine av [xF b,xF c,1] (ez [goInt 1] _ ⟨rfl,g,a,rfl⟩ (hL:=?_))
   rw[If,if_pos ⟨b,c⟩];kernel_rfl
theorem ade(x:aR)(y:c5)(h:x.Ok y)(b:y.at_≤y.pr.length):Fl Sv 133 [pt y.c].toArray [x.en,x.kE y,x.eE,y.pE] λr L=>match y.pr[y.at_]? with
  |some p=>abY x y p r L
  |none=>r=goInt (-1)∧L=[x.en,x.kE y,x.eE,y.pE]:=by
 refine Fl.of 15 λe d=>?_;refine av [] ?_;cases hp:y.pr[y.at_]? with
 |none=>
  have f:y.at_=y.pr.length:=Nat.le_antisymm b (List.getElem?_eq_none_iff.1 hp);refine gw 10 [1,1,kT y.at_ y.pr.length] [] (Fl.nil (av [] ?_));exact ez [goInt (-1)] [x.en,x.kE y,x.eE,y.pE] (by simp only[hp];exact⟨rfl,trivial⟩)
 |some p=>
  have aC:y.at_<y.pr.length:=(List.getElem?_eq_some_iff.1 hp).1;refine gw 10 [1,1,ie y.at_ y.pr.length] [] (Fl.nil (av [] ?_));refine eR [0,1,2,3] (ars x y p h hp) ?_;rintro v c ⟨rfl,g,a,rfl⟩;refine av [] (ez [goInt 1] [(x.bA y 7 ⟨#[]⟩ 0 g a).en,x.kE (If p y),(x.bA y 7 ⟨#[]⟩ 0 g a).eE,y.pE] ?_);simp only[hp];exact⟨rfl,g,a,rfl⟩
abbrev kS(g i n W:Nat):ag:=.slice (Z ⟨g,i,I⟩) (n-i) (W-i)
theorem anq{t b n W:Nat}{a:aU}(m:0<n)(h:oG P t b=U)(w:ax):(HO t (.slice (Z a) n W) (ai 0)).run P w=.ok (.value (.pointer (Z a))) w:=by
 unfold oG at h;split at h
 ·rename_i e f
  split at h
  ·rename_i l c
   have j:=zy f w;have d:=Lv c w;show((Instr.indexAt t (.slice (Z a) n W) (ai 0))>>=λv=>(qi (mR v):Sem Next)).run P w=_;unfold Instr.indexAt;simp only[fK,ai,asIntOf,pure,bP,j,fy];rw[if_pos (by constructor<;>omega)];simp only[fK,d,fy,bP,Int.toNat_zero,Nat.zero_mul];rfl
  ·cases h
 ·cases h
theorem avG{t g i n W:Nat}(m:1<=n)(d:W≠1)(h:oG P t 1=U)(w:ax):(Lw t (.slice (Z ⟨g,i,I⟩) n W) (ai 1)).run P w=.ok (.value (.slice (Z ⟨g,i+1,I⟩) (n-1) (W-1))) w:=by
 unfold oG at h;split at h
 ·rename_i e f
  split at h
  ·rename_i l b
   have h:=CI h;have j:=zy f w;have a:=Lv b w;rw[h]at a;show((Instr.sliceAt t (.slice (Z ⟨g,i,I⟩) n W) (Z (ai 1)) I I)>>=λv=>(qi (mR v):Sem Next)).run P w=_;have c:bP P (Instr.sliceBound (ai 1) n .sliceB) w=.ok 1 w:=by
    unfold Instr.sliceBound;simp only[fK,ai,asIntOf,pure,bP,fy];rw[if_pos (by constructor<;>omega)];simp[bP]
   unfold Instr.sliceAt Instr.slice;simp only[fK,j,fy,Instr.sliceBounds,pure,bP,c,a,Option.isSome_none,hZ,if_false,if_neg d];rfl
  ·cases h
 ·cases h
abbrev AG(t b n W:Nat)(a:aU)(c:0<n)(h:oG P t b=U:=by kernel_rfl):Aw P:=.s (HO t (.slice (Z a) n W) (ai 0)) (.value (.pointer (Z a))) (anq c h)
abbrev jV(t g i n W:Nat)(a:1<=n/\W≠1)(h:oG P t 1=U:=by kernel_rfl):Aw P:=.s (Lw t (.slice (Z ⟨g,i,I⟩) n W) (ai 1)) (.value (.slice (Z ⟨g,i+1,I⟩) (n-1) (W-1))) (avG a.1 a.2 h)
def vT(g W:Nat)(V:ae Int):En:=.row 3 1 (Z g) V.length W (V.map ai)
def c5.lx(y:c5)(v:ag):c5:={y with nx:=v}
def clash(T:bU Mk)(a:ae aZ)(k id b:Int):Bool:=(match iI T k with
 |some m=>m.1 !=id
 |none=>Y)||decide (DL a>b)
def aR.lv(x:aR)(y:c5):aR:={x with si:=x.si.set y.site ⟨Y,Y,0⟩}
def za(x:aR)(y:c5)(T:bU Mk)(S:Nat)(Q:bU Wr)(R:Nat)(C:bV)(g i W:Nat)(V:ae Int)(k:Int)(r:ag)(L:ae En):Prop:=r=ai 1/\if clash T C.vs k y.id y.b then
  ∃b a,L=[(x.bA y 4 ⟨#[]⟩ 0 b a).en,x.kE y.rd,(x.bA y 4 ⟨#[]⟩ 0 b a).eE,x.mE (vW y.id T) S,(x.lv y).sE,y.wE [] R,x.cE,C.hd,C.rw]
 else if i+1=V.length then L=[x.en,x.kE (y.lx (.func (.func 138) #[pt y.c] #[])),x.eE,x.mE (j9 T k (y.id,0) S) (qP T k S),x.sE,y.wE Q R,x.cE,C.hd,C.rw]
 else∃O N,L=[x.en,x.kE (y.lx (.func (.func 137) #[] #[pt O,pt N])),x.eE,x.mE (j9 T k (y.id,0) S) (qP T k S),x.sE,y.wE Q R,x.cE,C.hd,C.rw,vT g W V,.ob O (.cells #[pt y.c] 149),.ob N (.cells #[kS g i V.length W] 55)]
noncomputable def aa0(b:Bool):ae aJ:=
 let X:Cx:=⟨102,78,.normal,[],[],λ_ _=>True⟩;let a:=(nx Sv X (bO Sv 102 #[] .normal).todo [] (CV [pt 0,aB] 0) [.ob 0 (.cells #[aB,pt 0] 152)] [1,0] (.n 1)).todo
 (nx Sv X (tQ (nx Sv X (tQ a) [] [] [] []).todo) [] [(49,.bool b)] [] []).todo
section
variable {K:ae aA}{M:ae En}(x:aR)(y:c5)(T:bU Mk)(S:Nat)(Q:bU Wr)(R:Nat)(C:bV)(g i W:Nat)(V:ae Int)(k:Nat)(O N:Nat)(e:En)
abbrev aaZ:ae En:=[x.en,x.kE y,x.eE,x.mE T S,x.sE,y.wE Q R,x.cE,C.hd,C.rw,vT g W V,.ob O (.cells #[pt y.c] 149),.ob N (.cells #[kS g i V.length W] 55),e]
theorem T5(h:x.Ok y)(d:mG T S)(f:y.site<x.si.length)(c:clash T C.vs k y.id y.b=U):Rs Sv (fx Sv 102 78 K M (za x y T S Q R C g i W V k)) (aa0 U) [] [(2,pt O),(3,pt N),(5,pt x.s)] (aaZ x y T S Q R C g i W V O N e):=by
 refine av [10] ?_;refine eR [0,1,3,4,5] (KV x y T S Q R d f) ?_;rintro _ _ rfl;refine av [10] ?_;refine eR [0,1,2] (zU x y 4 0 ⟨#[]⟩ h) ?_;rintro _ _ ⟨rfl,b,a,rfl⟩;refine av [] (cU [9,10,11,12] [ai 1] [(x.bA y 4 ⟨#[]⟩ 0 b a).en,x.kE y.rd,(x.bA y 4 ⟨#[]⟩ 0 b a).eE,x.mE (vW y.id T) S,(x.lv y).sE,y.wE [] R,x.cE,C.hd,C.rw] ?_);rw[za,if_pos c];exact⟨F,b,a,F⟩
theorem aa1(h:i<V.length)(f:V[i]?=some (k:Int))(c:clash T C.vs k y.id y.b=false):Rs Sv (fx Sv 102 78 K M (za x y T S Q R C g i W V k)) (aa0 false) [] [(2,pt O),(3,pt N),(5,pt x.s)] (aaZ x y T S Q R C g i W V O N e):=by
 have d:(V.map goInt)[i]?=some (goInt k):=by rw[List.getElem?_map,f];rfl
 refine jO 12 [0,11,AG 55 1 (V.length-i) (W-i) ⟨g,i,none⟩ ah,rr 9 d,10,1] [] [12] (Fl.run [P0 3 97 x.mb k Mk.v T S (y.id,0)] ?_);have a:¬clash T C.vs k y.id y.b=true:=by rw[c];simp
 by_cases b:i+1=V.length
 ·refine av [10,1,11,kT (V.length-i:Nat) 1,10,10,1] (cU [9,10,11,12] [goInt 1] [x.en,x.kE (y.lx (.func (.func 138) #[pt y.c] #[])),x.eE,x.mE (j9 T k (y.id,0) S) (qP T k S),x.sE,y.wE Q R,x.cE,C.hd,C.rw] ?_)
  rw[za,if_neg a,if_pos b];exact⟨rfl,rfl⟩
 ·refine av [10,1,11,ie (V.length-i:Nat) 1] (cU [12] [goInt 1] [x.en,x.kE (y.lx (.func (.func 137) #[] #[pt O,pt N])),x.eE,x.mE (j9 T k (y.id,0) S) (qP T k S),x.sE,y.wE Q R,x.cE,C.hd,C.rw,vT g W V,.ob O (.cells #[pt y.c] 149),.ob N (.cells #[kS g i V.length W] 55)] ?_)
  rw[za,if_neg a,if_neg b];exact⟨rfl,O,N,rfl⟩
end
theorem aa3 (x:aR) (y:c5) (T:bU Mk) (S:Nat) (Q:bU Wr) (R:Nat) (C:bV) (g i W:Nat) (V:List Int) (k:Nat) (h:x.Ok y) (hm:mG T S) (hs:y.site<x.si.length) (hk:x.ch[k]?=some C.c) (hl:C.vs.length<1000000) (hi:V[i]?=some (k:Int)) (hc:V.length≤W):Fl Sv 102 [pt y.c,kS g i V.length W].toArray [x.en,x.kE y,x.eE,x.mE T S,x.sE,y.wE Q R,x.cE,C.hd,C.rw,vT g W V] (za x y T S Q R C g i W V k):=by
 have l:i<V.length:=(List.getElem?_eq_some_iff.1 hi).1;have f:k<x.ch.length:=(List.getElem?_eq_some_iff.1 hk).1;have d:(x.ch.map pt)[k*1]?=some (pt C.c):=by rw[Nat.mul_one,List.getElem?_map,hk];rfl
 have a:(V.map goInt)[i]?=some (goInt k):=by rw[List.getElem?_map,hi];rfl
 refine Fl.of 78 λK M=>?_;refine di (λ_=>[10,1]) λz=>?_;cases Aq:iI T k with
 |none=>
  refine jO 13 [0,11,AG 55 1 (V.length-i) (W-i) ⟨g,i,none⟩ ah,rr 9 a,vc 3 97 x.mb k Mk.v T S _ Aq] [11,12] [13] (tD (λ_=>[]) λb=>yg [12,12] (Fl.run [] (av [] ?_)));by_cases aC:DL C.vs>y.b
  ·refine gw 27 [0,11,AG 55 1 (V.length-i) (W-i) ⟨g,i,none⟩ ah,rr 9 a,iX 96 1 x.cb x.vD f,rr 6 d,10,1] [20,.p [25,26]] (qq [7,8] (Oq C hl) ?_)
   rintro _ _ ⟨rfl,rfl⟩;exact ib (zL [bT aC] (Fl.nil (av [] (cq (T5 x y T S Q R C g i W V k z (z+1) (.ob b (.cells #[goInt 0,goInt 0] 113)) h hm hs (by simp[clash,Aq,aC]))))))
  ·refine gw 27 [0,11,AG 55 1 (V.length-i) (W-i) ⟨g,i,none⟩ ah,rr 9 a,iX 96 1 x.cb x.vD f,rr 6 d,10,1] [20,.p [25,26]] (qq [7,8] (Oq C hl) ?_)
   rintro _ _ ⟨rfl,rfl⟩;exact ib (zL [bF aC] (Fl.nil (av [] (cq (aa1 x y T S Q R C g i W V k z (z+1) (.ob b (.cells #[goInt 0,goInt 0] 113)) l hi (by simp[clash,Aq,aC,Aq]))))))
 |some m=>
  obtain⟨j,mt⟩:=m;refine jO 13 [0,11,AG 55 1 (V.length-i) (W-i) ⟨g,i,none⟩ ah,rr 9 a,vc 3 97 x.mb k Mk.v T S _ Aq] [11,12] [13] (tD (λ_=>[]) λb=>yg [12,12] (Fl.run [] (av [] ?_)));by_cases c:j=y.id
  ·by_cases aC:DL C.vs>y.b
   ·refine gw 27 [12,10,1,B7 c,0,11,AG 55 1 (V.length-i) (W-i) ⟨g,i,none⟩ ah,rr 9 a,iX 96 1 x.cb x.vD f,rr 6 d,10,1] [20,.p [25,26]] (qq [7,8] (Oq C hl) ?_)
    rintro _ _ ⟨rfl,rfl⟩;exact ib (zL [bT aC] (Fl.nil (av [] (cq (T5 x y T S Q R C g i W V k z (z+1) (.ob b (.cells #[goInt j,goInt mt] 113)) h hm hs (by simp[clash,Aq,aC]))))))
   ·refine gw 27 [12,10,1,B7 c,0,11,AG 55 1 (V.length-i) (W-i) ⟨g,i,none⟩ ah,rr 9 a,iX 96 1 x.cb x.vD f,rr 6 d,10,1] [20,.p [25,26]] (qq [7,8] (Oq C hl) ?_)
    rintro _ _ ⟨rfl,rfl⟩;exact ib (zL [bF aC] (Fl.nil (av [] (cq (aa1 x y T S Q R C g i W V k z (z+1) (.ob b (.cells #[goInt j,goInt mt] 113)) l hi (by simp[clash,Aq,aC,c]))))))
  ·exact gw 27 [12,10,1,xF c] [] (Fl.nil (av [] (cq (T5 x y T S Q R C g i W V k z (z+1) (.ob b (.cells #[goInt j,goInt mt] 113)) h hm hs (by simp[clash,Aq,c])))))
def ti(l:ae Int):ae Int:=l.mergeSort λx y=>decide (x<=y)
def axZ:Go.Shelf.Ren:=⟨λ|5=>139|8=>159|7=>158|19=>172|20=>173|10=>163|11=>164|12=>165|13=>166|14=>167|15=>168|16=>169|17=>170|18=>171|30=>174|31=>175|32=>176|33=>177|34=>178|35=>179|40=>180|n=>n,λ|23=>55|25=>3|3=>3|32=>167|22=>55|0=>0|44=>90|46=>103|4=>4|36=>256|35=>255|41=>261|5=>5|9=>9|53=>265|57=>268|63=>270|64=>47|n=>n,λn=>n⟩
theorem ad6:SlLaysM.n5 Sv axZ:={
 mixed:=by kernel_rfl
 f5:=⟨Tryz.f139.name,by decide,by kernel_rfl⟩
 f7:=⟨Tryz.f158.name,by decide,by kernel_rfl⟩
 f8:=by kernel_rfl
 f10:=⟨Tryz.f163.name,by decide,by kernel_rfl⟩
 f11:=⟨Tryz.f164.name,by decide,by kernel_rfl⟩
 f12:=⟨Tryz.f165.name,by decide,by kernel_rfl⟩
 f13:=⟨Tryz.f166.name,by decide,by kernel_rfl⟩
 f14:=⟨Tryz.f167.name,by decide,by kernel_rfl⟩
 f15:=⟨Tryz.f168.name,by decide,by kernel_rfl⟩
 f16:=⟨Tryz.f169.name,by decide,by kernel_rfl⟩
 f17:=⟨Tryz.f170.name,by decide,by kernel_rfl⟩
 f18:=⟨Tryz.f171.name,by decide,by kernel_rfl⟩
 f19:=by kernel_rfl
 f20:=by kernel_rfl
 f30:=⟨Tryz.f174.name,by decide,by kernel_rfl⟩
 f31:=by kernel_rfl
 f32:=by kernel_rfl
 f33:=⟨Tryz.f177.name,by decide,by kernel_rfl⟩
 f34:=⟨Tryz.f178.name,by decide,by kernel_rfl⟩
 f35:=⟨Tryz.f179.name,by decide,by kernel_rfl⟩
 f40:=⟨Tryz.f180.name,by decide,by kernel_rfl⟩
 t0:=(pD 0).trans Tryz.underlying0
 a0:=λw=>(ql 0 w).trans (Tryz.isAgg0 w)
 z0:=λw=>(qn 0 w).trans (Tryz.sizeOf0 w)
 v0:=λw=>(qo 0 w).trans (Tryz.zeroValue0 w)
 t3:=(pD 3).trans Tryz.underlying3
 a3:=λw=>(ql 3 w).trans (Tryz.isAgg3 w)
 z3:=λw=>(qn 3 w).trans (Tryz.sizeOf3 w)
 v3:=λw=>(qo 3 w).trans (Tryz.zeroValue3 w)
 t4:=(pD 4).trans Tryz.underlying4
 a4:=λw=>(ql 4 w).trans (Tryz.isAgg4 w)
 z4:=λw=>(qn 4 w).trans (Tryz.sizeOf4 w)
 v4:=λw=>(qo 4 w).trans (Tryz.zeroValue4 w)
 t5:=(pD 5).trans Tryz.underlying5
 a5:=λw=>(ql 5 w).trans (Tryz.isAgg5 w)
 z5:=λw=>(qn 5 w).trans (Tryz.sizeOf5 w)
 v5:=λw=>(qo 5 w).trans (Tryz.zeroValue5 w)
 t9:=(pD 9).trans Tryz.underlying9
 a9:=λw=>(ql 9 w).trans (Tryz.isAgg9 w)
 z9:=λw=>(qn 9 w).trans (Tryz.sizeOf9 w)
 v9:=λw=>(qo 9 w).trans (Tryz.zeroValue9 w)
 t22:=(pD 55).trans Tryz.underlying55
 a22:=λw=>(ql 55 w).trans (Tryz.isAgg55 w)
 z22:=λw=>(qn 55 w).trans (Tryz.sizeOf55 w)
 v22:=λw=>(qo 55 w).trans (Tryz.zeroValue55 w)
 t23:=(pD 55).trans Tryz.underlying55
 a23:=λw=>(ql 55 w).trans (Tryz.isAgg55 w)
 z23:=λw=>(qn 55 w).trans (Tryz.sizeOf55 w)
 v23:=λw=>(qo 55 w).trans (Tryz.zeroValue55 w)
 t25:=(pD 3).trans Tryz.underlying3
 a25:=λw=>(ql 3 w).trans (Tryz.isAgg3 w)
 z25:=λw=>(qn 3 w).trans (Tryz.sizeOf3 w)
 v25:=λw=>(qo 3 w).trans (Tryz.zeroValue3 w)
 t32:=(pD 167).trans Tryz.underlying167
 a32:=λw=>(ql 167 w).trans (Tryz.isAgg167 w)
 z32:=λw=>(qn 167 w).trans (Tryz.sizeOf167 w)
 v32:=λw=>(qo 167 w).trans (Tryz.zeroValue167 w)
 t35:=(pD 255).trans Tryz.underlying255
 a35:=λw=>(ql 255 w).trans (Tryz.isAgg255 w)
 z35:=λw=>(qn 255 w).trans (Tryz.sizeOf255 w)
 v35:=λw=>(qo 255 w).trans (Tryz.zeroValue255 w)
 t36:=(pD 256).trans Tryz.underlying256
 a36:=λw=>(ql 256 w).trans (Tryz.isAgg256 w)
 z36:=λw=>(qn 256 w).trans (Tryz.sizeOf256 w)
 v36:=λw=>(qo 256 w).trans (Tryz.zeroValue256 w)
 t41:=(pD 261).trans Tryz.underlying261
 a41:=λw=>(ql 261 w).trans (Tryz.isAgg261 w)
 z41:=λw=>(qn 261 w).trans (Tryz.sizeOf261 w)
 v41:=λw=>(qo 261 w).trans (Tryz.zeroValue261 w)
 t44:=(pD 90).trans Tryz.underlying90
 a44:=λw=>(ql 90 w).trans (Tryz.isAgg90 w)
 z44:=λw=>(qn 90 w).trans (Tryz.sizeOf90 w)
 v44:=λw=>(qo 90 w).trans (Tryz.zeroValue90 w)
 t46:=(pD 103).trans Tryz.underlying103
 a46:=λw=>(ql 103 w).trans (Tryz.isAgg103 w)
 z46:=λw=>(qn 103 w).trans (Tryz.sizeOf103 w)
 v46:=λw=>(qo 103 w).trans (Tryz.zeroValue103 w)
 t53:=(pD 265).trans Tryz.underlying265
 a53:=λw=>(ql 265 w).trans (Tryz.isAgg265 w)
 z53:=λw=>(qn 265 w).trans (Tryz.sizeOf265 w)
 v53:=λw=>(qo 265 w).trans (Tryz.zeroValue265 w)
 t57:=(pD 268).trans Tryz.underlying268
 a57:=λw=>(ql 268 w).trans (Tryz.isAgg268 w)
 z57:=λw=>(qn 268 w).trans (Tryz.sizeOf268 w)
 v57:=λw=>(qo 268 w).trans (Tryz.zeroValue268 w)
 t63:=(pD 270).trans Tryz.underlying270
 a63:=λw=>(ql 270 w).trans (Tryz.isAgg270 w)
 z63:=λw=>(qn 270 w).trans (Tryz.sizeOf270 w)
 v63:=λw=>(qo 270 w).trans (Tryz.zeroValue270 w)
 t64:=(pD 47).trans Tryz.underlying47
 a64:=λw=>(ql 47 w).trans (Tryz.isAgg47 w)
 z64:=λw=>(qn 47 w).trans (Tryz.sizeOf47 w)
 v64:=λw=>(qo 47 w).trans (Tryz.zeroValue47 w)
}
theorem axY(g:aj Nat)(c:Nat)(a:ae Int)(R:a.length<1000000):Fl Sv 139 [sv g a.length c].toArray [.row 3 1 g a.length c (a.map ai)] λ_ L=>L=[.row 3 1 g a.length c ((ti a).map ai)]:=λQ H r w e=>by
 subst e;have y:Row w.heap 3 1 (sv g a.length c) a.length (a.map ai):=r.at (L:=[.row 3 1 g a.length c (a.map ai)]) (i:=0) F;cases g with
 |none=>
  have K:a=[]:=by
   rcases y.2 with⟨_,h⟩|⟨D,l,d,h,_⟩
   ·exact zC h
   ·simp[sv]at h
  subst K;exact Calls.mono (AnyM.slices_Sort_int_none ad6 I c w) λe s⟨m,k⟩=>⟨.tuple #[],m,by rw[k],by rw[k],_,F,by rw[k];simpa[ti]using r⟩
 |some g=>
  obtain⟨d,q,q3,N,O,P⟩:∃d,w.heap[g]?=Z (.cells d 3)/\a.length<=c/\c<=maxLen/\d.size=c*1/\d.toList.take (a.length*1)=a.map ai:=by
   rcases y.2 with⟨h,_⟩|⟨D,l,d,h,m,k,E,G,J⟩
   ·cases h
   ·cases h;exact⟨d,m,k,E,G,J⟩
  have C:a.length<=d.size:=by omega
  have v:=aC q;refine Calls.mono (AnyM.slices_Sort_int ad6 g 0 c a w (λj p=>?_) v ah) λe s⟨m,n,M,k⟩=>⟨.tuple #[],m,by rw[k];rfl,by rw[k];rfl,_,F,?_⟩
  ·have p:j<a.length:=by simpa using p
   have o:d[0+j]?=Z (ai a[j]):=by
    have:(d.toList.take (a.length*1))[j]?=Z (ai a[j]):=by rw[P];simp[p]
    rw[List.getElem?_take,if_pos ah,Cy]at this;rw[uJ];exact this
   exact⟨by rw[show(a.toArray)[j]! =a[j] by simp[p]];exact vK q o,Si q _⟩
  ·have u:s.heap=w.heap.modify g (Sort.onCells (Sort.putCells (Value.int .i64) 0 (ti a).toArray))++M:=by rw[k];rfl
   have t:∀b,b<w.heap.size->s.heap[b]?=(w.heap.modify g (Sort.onCells (Sort.putCells (Value.int .i64) 0 (ti a).toArray)))[b]?:=λb z=>by
    rw[u,Array.getElem?_append_left (by simpa using z)]
   have f:(ti a).length=a.length:=List.length_mergeSort _;refine Kn.set (A:=[]) (e':=.row 3 1 (Z g) a.length c ((ti a).map ai)) r ?_ (λx o=>.inl o) (by rw[u];simp) λx o B=>?_
   ·refine⟨by simp[f],.inr ⟨g,c,Sort.putCells (Value.int .i64) 0 (ti a).toArray d,F,?_,q3,N,by simp[Sort.putCells,O],?_⟩⟩
    ·rw[t g v,Gm,if_pos F,q];rfl
    ·have:=Go.take_putCellsI d (ti a) (by rw[f];exact C)
     rw[f]at this;rw[x9];exact this
   ·rw[t x o,Gm,if_neg (λe=>B (by rw[<-e];rfl))]
def jb(a:bU Wr):ae Int:=ti (a.map (·.1))
theorem KL(a:bU Wr):(jb a).length=a.length:=by rw[jb,ti,List.length_mergeSort,jM]
def aax(x:aR)(y:c5)(b:bU Wr)(d:Nat)(r:ag)(L:ae En):Prop:=∃g a,(0<b.length->∃c,g=Z c)/\b.length<=a/\r=sv g (jb b).length a/\L=[x.kE y,y.wE b d,.row 3 1 g (jb b).length a ((jb b).map ai)]
theorem arW{a p:bU V}(c:(a.map (·.2.2)).Nodup)(i:(p.map (·.2.2)).Nodup)(d:∀e∈p,e∈a)(j:∀e∈a,e.2.2∈p.map (·.2.2)):p.Perm a:=by
 have l:a.Nodup:=List.Pairwise.of_map (·.2.2) (λ_ _ h e=>h (by rw[e])) c;have m:p.Nodup:=List.Pairwise.of_map (·.2.2) (λ_ _ h e=>h (by rw[e])) i;refine(List.perm_ext_iff_of_nodup m l).2 λe=>⟨d e,λf=>?_⟩;obtain⟨g,b,k⟩:=og.1 (j e f);rw[<-OC c (d g b) f k];exact b
theorem ad5{a b:ae Int}(h:a.Perm b):ti a=ti b:=by
 unfold ti;refine List.Perm.eq_of_pairwise (le:=λx y=>x<=y) (λ_ _ _ _ d e=>Int.le_antisymm d e) ?_ ?_ ((List.mergeSort_perm a _).trans (h.trans (List.mergeSort_perm b _).symm))
 ·have:=List.pairwise_mergeSort (le:=λx y:Int=>decide (x<=y)) (λa b c d e=>by simp only[decide_eq_true_eq]at*;omega) (λa b=>by simp only[Bool.or_eq_true,decide_eq_true_eq];omega) a
  exact this.imp λh=>by simpa using h
 ·have:=List.pairwise_mergeSort (le:=λx y:Int=>decide (x<=y)) (λa b c d e=>by simp only[decide_eq_true_eq]at*;omega) (λa b=>by simp only[Bool.or_eq_true,decide_eq_true_eq];omega) b
  exact this.imp λh=>by simpa using h
theorem Uj:∀(p l:ae Nat),p.Nodup->(∀a∈p,a∈l)->p.length<=l.length
 |[],_,_,_=>gJ _
 |a::p,l,c,h=>by
  simp only[oO]at c;have d:=h a (eX ..);have:=Uj p (l.erase a) c.2 λb f=>(List.mem_erase_of_ne λe=>c.1 (by rw[<-e];exact f)).2 (h b (eK _ f));rw[List.length_erase_of_mem d]at this;have:=IG d;simp only[jY];omega
theorem Tz(x:aR)(y:c5)(c:bU Wr)(j:Nat)(t:mG c j)(R:c.length<1000000):Fl Sv 103 [pt y.c].toArray [x.kE y,y.wE c j] (aax x y c j):=by
 refine Fl.of 21 λP O=>?_;refine di (λ_=>[0,1,.g,.x]) λz=>?_;refine pC 3 1 ?_;refine ji (ι:=bU Wr×Option Nat×Nat) (λi=>c.length-i.1.length) (λi=>[(0,pt y.c),(3,sv i.2.1 i.1.length i.2.2),(9,pt z)]) (λi=>[x.kE y,y.wE c j,.ob z (.mapIter (some y.wb) j (i.1.map (·.2.2)).toArray j),.row 3 1 i.2.1 i.1.length i.2.2 ((i.1.map (·.1)).map goInt)]) (λi=>(i.1.map (·.2.2)).Nodup∧∀e∈i.1,e∈c) ([],none,0) ⟨List.Pairwise.nil,(λ_ h=>by cases h)⟩ ?_;rintro⟨p,g,d⟩ ⟨s,n⟩ E;simp only at s n E;have S:p.length≤c.length:=by
  have:=Uj _ (c.map (·.2.2)) s λa l=>by
   obtain⟨e,k,rfl⟩:=List.mem_map.1 l;exact List.mem_map_of_mem (n e k)
  simpa using this
 refine av [] ?_;refine kr (abM Wr.v 2 1 z y.wb 0 c j j j (p.map (·.2.2)).toArray λe k=>⟨t.old e k,t.old e k⟩) ?_;rintro _ _ (⟨L,rfl,rfl⟩|⟨e,k,A,rfl,rfl⟩)
 ·have w:=arW t.born s n λe k=>by simpa using L e k
  refine av [] ?_;have D:=axY g d (p.map (·.1)) (by simp only[List.length_map];omega);simp only[List.length_map]at D;refine eR [3] D ?_;rintro v _ rfl;have N:jb c=ti (p.map λx:Int×Wr×Nat=>x.1):=(ad5 (w.map λx:Int×Wr×Nat=>x.1)).symm;have r:=w.length_eq;have B:(0<c.length→∃q,g=some q)∧c.length≤d→aax x y c j (qV [sv g p.length d]) [x.kE y,y.wE c j,.row 3 1 g p.length d ((ti (p.map λx:Int×Wr×Nat=>x.1)).map goInt)]:=λf=>
   ⟨g,d,f.1,f.2,by rw[KL,r];rfl,by rw[KL,←N,r]⟩
  refine av [] ?_;by_cases H:0<p.length
  ·exact lJ 3 g p.length d H λq J Q=>cU [2] [sv g p.length d] _ (B ⟨λ_=>⟨q,J⟩,by omega⟩)
  ·exact cU [2] [sv g p.length d] _ (B ⟨λh=>by omega,by omega⟩)
 ·refine av [] ?_
  have G:(p++[e]).map (·.2.2)=p.map (·.2.2)++[e.2.2]:=by simp
  refine kr (X2 Wr.v 2 1 z y.wb c j j (p.map (·.2.2)).toArray e k t.born) ?_;rintro _ _ ⟨rfl,rfl⟩;refine di (λ_=>[]) λT=>?_;refine kr (app1 55 3 4 p.length ah) ?_;rintro _ _ ⟨q,o,rfl,rfl⟩;refine av [.g,.x] ?_;refine ey [4] ?_;have r:(p++[e]).length=p.length+1:=by simp
  have aC:p.length<c.length:=by
   have:=Uj (e.2.2::p.map (·.2.2)) (c.map (·.2.2)) (List.nodup_cons.2 ⟨λh=>A (List.mem_toArray.2 h),s⟩) λa l=>by
    rcases List.mem_cons.1 l with rfl|l
    ·exact List.mem_map_of_mem k
    ·obtain⟨u,m,rfl⟩:=List.mem_map.1 l
     exact List.mem_map_of_mem (n u m)
   simp only[List.length_cons,List.length_map]at this;omega
  have:=E (p++[e],some q,o) (by simp only[r];omega) ⟨by
   rw[G];exact List.nodup_append.2 ⟨s,by simp,λa l b C M=>A (by rw[List.mem_singleton]at C;subst C;subst M;exact List.mem_toArray.2 l)⟩,λu m=>by
   rcases List.mem_append.1 m with m|m
   ·exact n u m
   ·rw[List.mem_singleton.1 m];exact k⟩
  have K:(p.map (·.2.2)++[e.2.2]).toArray=(p.map (·.2.2)).toArray.push e.2.2:=by simp
  simp only[r,List.map_append,List.map_cons,List.map_nil,K]at this;exact cq this
theorem apZ (x:aR) (y:c5) (ms:bU Mk) (km:Nat) (ws:bU Wr) (kw:Nat) (C:bV) (g i cap:Nat) (ks:List Int) (k:Nat) (a1 a2:Nat) (h:x.Ok y) (hm:mG ms km) (hs:y.site<x.si.length) (hk:x.ch[k]?=some C.c) (hl:C.vs.length<1000000) (hi:ks[i+1]?=some (k:Int)) (hc:ks.length≤cap):Fl Sv 137 [pt a1,pt a2].toArray [.ob a1 (.cells #[pt y.c] 149),.ob a2 (.cells #[kS g i ks.length cap] 55),x.en,x.kE y,x.eE,x.mE ms km,x.sE,y.wE ws kw,x.cE,C.hd,C.rw,vT g cap ks] (za x y ms km ws kw C g (i+1) cap ks k):=by
 have p:i+1<ks.length:=(List.getElem?_eq_some_iff.1 hi).1;refine Fl.of 7 λn j=>?_;refine av [] ?_;refine gw 5 [0,1,jV 55 g i (ks.length-i) (cap-i) ⟨by omega,by omega⟩] [3,4] (qq [2,3,4,5,6,7,8,9,10,11] (aa3 x y ms km ws kw C g (i+1) cap ks k h hm hs hk hl hi hc) ?_);intro v f b;have a:=b;rcases a with⟨rfl,a⟩;by_cases d:clash ms C.vs k y.id y.b=true
 ·rw[if_pos d]at a
  obtain⟨o,c,rfl⟩:=a;exact ib (yg [] (Fl.nil (av [] (cU [0,1] [goInt 1] _ b))))
 ·rw[if_neg d]at a
  by_cases e:i+1+1=ks.length
  ·rw[if_pos e]at a
   subst a;exact ib (yg [] (Fl.nil (av [] (cU [0,1] [goInt 1] _ b))))
  ·rw[if_neg e]at a
   obtain⟨l,m,rfl⟩:=a;exact ib (yg [] (Fl.nil (av [] (cU [0,1] [goInt 1] _ b))))
def Ec(id c:Int)(b:ae Int)(d:bU Mk)(a:Nat):bU Mk×Nat:=b.foldl (λp k=>(j9 p.1 k (id,c) p.2,qP p.1 k p.2)) (d,a)
def aR.tick(x:aR):aR:={x with ck:=x.ck+1}
def c5.PO(y:c5)(c:Int)(z:Nat):c5:={y with aG:=c,nx:=.func (.func 156) #[] #[pt z]}
def LF(x:aR)(y:c5)(c:bU Mk)(b:Nat)(d:bU Wr)(e:Nat)(r:ag)(L:ae En):Prop:=r=ai 1/\if x.ck=x.li then
  ∃g a,L=[(x.bA y 6 ⟨#[]⟩ 0 g a).en,x.kE y.rd,(x.bA y 6 ⟨#[]⟩ 0 g a).eE,x.mE (vW y.id c) b,(x.lv y).sE,y.wE [] e]
 else∃z,L=[x.tick.en,x.kE (y.PO (x.ck+1) z),x.eE,x.mE (Ec y.id (x.ck+1) (jb d) c b).1 (Ec y.id (x.ck+1) (jb d) c b).2,x.sE,y.wE d e,.ob z (.cells #[pt y.c] 149)]
theorem ad8 (x:aR) (y:c5) (ms:bU Mk) (km:Nat) (ws:bU Wr) (kw:Nat) (h:x.Ok y) (hm:mG ms km) (hw:mG ws kw) (mJ:ws.length<1000000) (hs:y.site<x.si.length) (kW:0≤x.ck∧x.ck<1000000000000):Fl Sv 138 [pt y.c].toArray [x.en,x.kE y,x.eE,x.mE ms km,x.sE,y.wE ws kw] (LF x y ms km ws kw):=by
 refine Fl.of 63 λr q=>?_;refine di (λ_=>[6,1]) λz=>?_;by_cases e:x.ck=x.li
 ·refine gw 9 [0,0,bT e] [] (Fl.nil (av [6] ?_))
  refine eR [0,1,3,4,5] (KV x y ms km ws kw hm hs) ?_;rintro _ _ rfl;refine av [6] ?_;refine eR [0,1,2] (zU x y 6 0 ⟨#[]⟩ h) ?_;rintro _ _ ⟨rfl,d,a,rfl⟩;refine av [] (cU [6] [goInt 1] [(x.bA y 6 ⟨#[]⟩ 0 d a).en,x.kE y.rd,(x.bA y 6 ⟨#[]⟩ 0 d a).eE,x.mE (vW y.id ms) km,(x.lv y).sE,y.wE [] kw] ?_);rw[LF,if_pos e];exact⟨rfl,d,a,rfl⟩
 ·refine gw 9 [0,0,bF e] [] (Fl.nil (av [0,aI (x.ck+1) (x.ck+1) ah,0] ?_))
  refine jO 7 [6,0] [] [7] (Fl.run [1] (av [6] ?_));refine eR [1,5] (Tz x.tick {y with aG:=x.ck+1} ws kw hw mJ) ?_;rintro _ _ ⟨g,b,_,_,rfl,rfl⟩;refine av [.g,.x] ?_;have t:=KL ws;refine ji (ι:=Nat×bU Mk×Nat) (λi=>(jb ws).length-i.1) (λi=>[(1,pt z),(3,pt x.s),(38,sv g (jb ws).length b),(39,goInt (jb ws).length),(40,goInt i.1)])
   (λi=>[x.tick.en,{y with aG:=x.ck+1}|>x.kE,x.eE,x.mE i.2.1 i.2.2,x.sE,y.wE ws kw,.ob z (.cells #[pt y.c] 149),.row 3 1 g (jb ws).length b ((jb ws).map goInt)])
   (λi=>i.1≤(jb ws).length∧Ec y.id (x.ck+1) ((jb ws).take i.1) ms km=(i.2.1,i.2.2)) (0,ms,km) ⟨Nat.zero_le _,rfl⟩ ?_
  rintro⟨i,j,f⟩ ⟨p,c⟩ m;simp only at p c m;by_cases aC:i<(jb ws).length
  ·refine lJ 7 g (jb ws).length b ah λd o _=>?_
   subst o;obtain⟨k,l⟩:∃k,(jb ws)[i]?=some k:=⟨_,List.getElem?_eq_getElem ah⟩;have n:((jb ws).map goInt)[i*1]?=some (goInt k):=by rw[Nat.mul_one,List.getElem?_map,l];rfl
   refine av [fu i ((jb ws).length),ix 55 1 d (jb ws).length b i i ⟨rfl,aC⟩,rr 7 n] ?_;refine jO 14 [0,6,1,6,1] [] [14] (Fl.run [P0 3 97 x.mb k Mk.v j f (y.id,x.ck+1)] (av [aS i,.g,.x] ?_));refine cq (m (i+1,j9 j k (y.id,x.ck+1) f,qP j k f) (by simp only;omega) ⟨aC,?_⟩);rw[List.take_add_one,l];simp only[Ec,List.foldl_append]at c⊢;rw[c];rfl
  ·have s:i=(jb ws).length:=by omega
   refine av [gi i ((jb ws).length),6,1] ?_;refine cU [7] [goInt 1] [x.tick.en,x.kE (y.PO (x.ck+1) z),x.eE,x.mE j f,x.sE,y.wE ws kw,.ob z (.cells #[pt y.c] 149)] ?_;rw[LF,if_neg e];refine⟨rfl,z,?_⟩;rw[List.take_of_length_le ah]at c;rw[c]
def bV.put(C:bV)(g:aj Nat)(a:Nat)(v:aZ):bV:=⟨C.c,g,a,C.vs++[v]⟩
def FD(x:aR)(y:c5)(h:bU Mk)(e:Nat)(j:bU Wr)(f:Nat)(C:bV)(g i b:Nat)(d:ae Int)(k:Int)(w:Wr)(r:ag)(L:ae En):Prop:=r=ai 1/\if i+1=d.length then
  ∃z c a,L=[x.en,x.kE (y.lx (.func (.func 162) #[] #[pt z])),y.wE j f,x.cE,(C.put c a ⟨y.aG,w.1,w.2⟩).hd,(C.put c a ⟨y.aG,w.1,w.2⟩).rw,x.mE (ng k h) e,.ob z (.cells #[pt y.c] 149)]
 else∃z l c a,L=[x.en,x.kE (y.lx (.func (.func 161) #[] #[pt z,pt l])),y.wE j f,x.cE,(C.put c a ⟨y.aG,w.1,w.2⟩).hd,(C.put c a ⟨y.aG,w.1,w.2⟩).rw,x.mE (ng k h) e,vT g b d,.ob z (.cells #[pt y.c] 149),.ob l (.cells #[kS g i d.length b] 55)]
theorem aan (x:aR) (y:c5) (ms:bU Mk) (km:Nat) (ws:bU Wr) (kw:Nat) (C:bV) (g i cap:Nat) (ks:List Int) (k:Nat) (w:Wr) (hw:iI ws k=some w) (hk:x.ch[k]?=some C.c) (d:C.vs.length<1000000) (hi:ks[i]?=some (k:Int)):Fl Sv 157 [pt y.c,kS g i ks.length cap].toArray [x.en,x.kE y,y.wE ws kw,x.cE,C.hd,C.rw,x.mE ms km,vT g cap ks] (FD x y ms km ws kw C g i cap ks k w):=by
 have m:i<ks.length:=(List.getElem?_eq_some_iff.1 hi).1;have h:k<x.ch.length:=(List.getElem?_eq_some_iff.1 hk).1;have f:(x.ch.map pt)[k*1]?=some (pt C.c):=by rw[Nat.mul_one,List.getElem?_map,hk];rfl
 have e:(ks.map goInt)[i]?=some (goInt k):=by rw[List.getElem?_map,hi];rfl
 obtain⟨b,v⟩:=w;refine Fl.of 56 λl j=>?_;refine di (λ_=>[8,1]) λz=>?_;refine jO 9 [8,1,9,AG 55 1 (ks.length-i) (cap-i) ⟨g,i,none⟩ ah,rr 7 e,lkB 2 150 y.wb k Wr.v ws kw _ hw] [8] [9] (tD (λ_=>[]) λn=>Fl.run [10,10] (av [] ?_));refine gw 19 [0,9,AG 55 1 (ks.length-i) (cap-i) ⟨g,i,none⟩ ah,rr 7 e,iX 96 1 x.cb x.vD h,rr 3 f,8,1,10,10] [18] (qq [4,5] (anV C ⟨y.aG,b,v⟩ d) ?_);rintro _ _ ⟨c,a,rfl⟩;refine ib (Fl.nil (av [] ?_));refine jO 7 [0,9,AG 55 1 (ks.length-i) (cap-i) ⟨g,i,none⟩ ah,rr 7 e] [] [7] (Fl.run [XO 6 97 3 0 x.mb k Mk.v ms km] ?_);by_cases d:i+1=ks.length
 ·refine av [8,1,9,kT (ks.length-i:Nat) 1,8,1] (cU [7,9,10] [goInt 1] [x.en,x.kE (y.lx (.func (.func 162) #[] #[pt z])),y.wE ws kw,x.cE,(C.put c a ⟨y.aG,b,v⟩).hd,(C.put c a ⟨y.aG,b,v⟩).rw,x.mE (ng k ms) km,.ob z (.cells #[pt y.c] 149)] ?_)
  rw[FD,if_pos d];exact⟨rfl,z,c,a,rfl⟩
 ·refine av [8,1,9,ie (ks.length-i:Nat) 1] (cU [10] [goInt 1] [x.en,x.kE (y.lx (.func (.func 161) #[] #[pt z,pt (z+1)])),y.wE ws kw,x.cE,(C.put c a ⟨y.aG,b,v⟩).hd,(C.put c a ⟨y.aG,b,v⟩).rw,x.mE (ng k ms) km,vT g cap ks,.ob z (.cells #[pt y.c] 149),.ob (z+1) (.cells #[kS g i ks.length cap] 55)] ?_)
  rw[FD,if_neg d];exact⟨rfl,z,z+1,c,a,rfl⟩
theorem anC (x:aR) (y:c5) (ms:bU Mk) (km:Nat) (ws:bU Wr) (kw:Nat) (C:bV) (g i cap:Nat) (ks:List Int) (k:Nat) (w:Wr) (a1 a2:Nat) (hw:iI ws k=some w) (hk:x.ch[k]?=some C.c) (hl:C.vs.length<1000000) (hi:ks[i+1]?=some (k:Int)) (hc:ks.length≤cap):Fl Sv 161 [pt a1,pt a2].toArray [.ob a1 (.cells #[pt y.c] 149),.ob a2 (.cells #[kS g i ks.length cap] 55),x.en,x.kE y,y.wE ws kw,x.cE,C.hd,C.rw,x.mE ms km,vT g cap ks] (FD x y ms km ws kw C g (i+1) cap ks k w):=by
 have l:i+1<ks.length:=(List.getElem?_eq_some_iff.1 hi).1;refine Fl.of 7 λj h=>?_;refine av [] ?_;refine gw 5 [0,1,jV 55 g i (ks.length-i) (cap-i) ⟨by omega,by omega⟩] [3,4] (qq [2,3,4,5,6,7,8,9] (aan x y ms km ws kw C g (i+1) cap ks k w hw hk hl hi) ?_);intro v f c;have a:=c;rcases a with⟨rfl,a⟩;by_cases d:i+1+1=ks.length
 ·rw[if_pos d]at a
  obtain⟨z,e,b,rfl⟩:=a;exact ib (yg [] (Fl.nil (av [] (cU [0,1] [goInt 1] _ c))))
 ·rw[if_neg d]at a
  obtain⟨z,m,e,b,rfl⟩:=a;exact ib (yg [] (Fl.nil (av [] (cU [0,1] [goInt 1] _ c))))
theorem anE(x:aR)(y:c5)(c:bU Mk)(b:Nat)(f:bU Wr)(d:Nat)(e:Nat)(h:x.Ok y)(i:mG c b)(j:y.site<x.si.length):Fl Sv 162 [pt e].toArray [.ob e (.cells #[pt y.c] 149),x.en,x.kE y,x.eE,x.mE c b,x.sE,y.wE f d] λr L=>r=goInt 1∧∃g a,L=[(x.bA y 1 ⟨#[]⟩ y.aG g a).en,x.kE y.rd,(x.bA y 1 ⟨#[]⟩ y.aG g a).eE,x.mE (vW y.id c) b,(x.lv y).sE,y.wE [] d]:=by
 refine Fl.of 10 λl k=>?_;refine av [0] ?_;refine eR [1,2,4,5,6] (KV x y c b f d i j) ?_;rintro _ _ rfl;refine av [] ?_;refine gw 7 [0,0,2] [5,6] (qq [1,2,3] (zU x y 1 y.aG ⟨#[]⟩ h) ?_);rintro _ _ ⟨rfl,g,a,rfl⟩;exact ib (yg [] (Fl.nil (av [] (cU [0] [goInt 1] _ ⟨rfl,g,a,rfl⟩))))
theorem ax8 (x:aR) (y:c5) (ms:bU Mk) (km:Nat) (ws:bU Wr) (kw:Nat) (C:bV) (k:Nat) (w:Wr) (a1:Nat) (BN:mG ws kw) (mJ:ws.length<1000000) (hw:iI ws k=some w) (hk:x.ch[k]?=some C.c) (hl:C.vs.length<1000000) (hi:(jb ws)[0]?=some (k:Int)):Fl Sv 156 [pt a1].toArray [.ob a1 (.cells #[pt y.c] 149),x.en,x.kE y,y.wE ws kw,x.cE,C.hd,C.rw,x.mE ms km] λr L=>∃g a,ws.length≤a∧FD x y ms km ws kw C g 0 a (jb ws) k w r L:=by
 have n:0<(jb ws).length:=(List.getElem?_eq_some_iff.1 hi).1;have o:=KL ws;refine Fl.of 6 λm l=>?_;refine av [] ?_;refine gw 5 [0,0] [2,3,4] (qq [2,3] (Tz x y ws kw BN mJ) ?_);rintro _ _ ⟨_,a,i,f,rfl,rfl⟩;obtain⟨g,rfl⟩:=i ah;refine ib (qq [1,2,3,4,5,6,7,8] (aan x y ms km ws kw C g 0 a (jb ws) k w hw hk hl hi) ?_);intro v j d;have b:=d;rcases b with⟨rfl,b⟩;by_cases e:0+1=(jb ws).length
 ·rw[if_pos e]at b
  obtain⟨z,h,c,rfl⟩:=b;exact ib (yg [] (Fl.nil (av [] (cU [0] [goInt 1] _ ⟨g,a,f,d⟩))))
 ·rw[if_neg e]at b
  obtain⟨z,p,h,c,rfl⟩:=b;exact ib (yg [] (Fl.nil (av [] (cU [0] [goInt 1] _ ⟨g,a,f,d⟩))))
theorem atz(x:aR)(y:c5)(c:y.at_=y.pr.length):Fl Sv 60 [pt y.c].toArray [x.kE y] λr L=>r=goInt (-1)∧L=[x.kE y]:=by
 refine Fl.of 73 λb a=>av [] ?_;refine gw 10 [0,0,kT y.at_ y.pr.length] [] (Fl.nil (av [] ?_));exact ez [goInt (-1)] _ ⟨rfl,rfl⟩
theorem Ip  {y:c5} {p:Stp} (h:x.Ok y) (hp:y.pr[y.at_]?=some p):
  (p.kind=1→x.si.length<1000000→Fl Sv 60 [pt y.c].toArray [y.pE,x.en,x.kE y,x.eE,x.sE] λr L=>∃t,GW x y r t∧L=y.pE::t)∧
  (p.kind=2→∀l m d f(C:bV)(n:Nat),x.ch[n]?=some C.c→C.vs.length<1000000→p.key=n→Fl Sv 60 [pt y.c].toArray [y.pE,x.en,x.kE y,x.eE,x.mE l m,y.wE d f,x.cE,C.hd,C.rw] λr L=>∃t,Bz x y l m d f C n r t∧L=y.pE::t)∧
  (∀b,(p.kind=3∧b=false∨p.kind=4∧b=true)→∀d f,Fl Sv 60 [pt y.c].toArray [y.pE,x.en,x.kE y,x.eE,y.wE d f] λr L=>r=goInt 1∧∃g c,L=[y.pE,(x.bA y 1 ⟨#[]⟩ 0 g c).en,x.kE y.rd,(x.bA y 1 ⟨#[]⟩ 0 g c).eE,y.wE (j9 d p.key (b,p.val) f) (qP d p.key f)])∧
  (∀l m d f,(p.kind=6∨p.kind=5∧d=[])→mG l m→y.site<x.si.length→Fl Sv 60 [pt y.c].toArray [y.pE,x.en,x.kE y,x.eE,x.mE l m,x.sE,y.wE d f] λr L=>r=goInt 1∧∃g c,L=[y.pE,(x.bA y 1 ⟨#[]⟩ 0 g c).en,x.kE y.rd,(x.bA y 1 ⟨#[]⟩ 0 g c).eE,x.mE (vW y.id l) m,(x.lv y).sE,y.wE [] f])∧
  (p.kind=5→∀l m d f(C:bV)(k:Nat),mG l m→mG d f→0<d.length∧d.length<1000000→y.site<x.si.length→x.ch[k]?=some C.c→C.vs.length<1000000→(jb d)[0]?=some (k:Int)→Fl Sv 60 [pt y.c].toArray [y.pE,x.en,x.kE y,x.eE,x.mE l m,x.sE,y.wE d f,x.cE,C.hd,C.rw] λr L=>∃g c t,d.length≤c∧za x y l m d f C g 0 c (jb d) k r t∧L=y.pE::t):=by
 obtain⟨e,E,G⟩:=p;have aC:y.at_<y.pr.length:=(List.getElem?_eq_some_iff.1 hp).1;have T:(y.pr.flatMap Stp.cells)[y.at_*3]?=some (goInt e):=gW Stp.len y.pr y.at_ 0 _ aT hp;have V:(y.pr.flatMap Stp.cells)[y.at_*3+1]?=some (goInt E):=gW Stp.len y.pr y.at_ 1 _ aT hp;have W:(y.pr.flatMap Stp.cells)[y.at_*3+2]?=some (.string G):=gW Stp.len y.pr y.at_ 2 _ aT hp;have R:¬(y.at_:Int)=y.pr.length:=by omega
 refine⟨λs u=>?_,λs l m d f C n J u M=>?_,λb s d f=>?_,λl m d f s A B=>?_,λs l m d f C k A P O B J u X=>?_⟩
 all_goals
  simp only at s;rcases iT:y.pg with _|H
  ·exact Fl.of 73 λS Q=>IV 0 y.pg y.pr.length y.pc ah iT
  obtain⟨y,rfl⟩:=c5.of iT;refine Fl.of 73 λS Q=>av [] (gw 10 [2,2,bF R] [] (Fl.nil (av [] ?_)));refine jO 11 [2,2,iX 45 3 H y.pc aC,rr 0 T,rr 0 V,rr 0 W] [10] [11] (tD (λ_=>[]) λz=>?_)
 ·refine Fl.run [5,5,5] (av [5,kT e 1] (eR [1,2,3,4] (agn x _ h u) ?_))
  intro v K q;have j:=q;rcases j with⟨rfl,j⟩;cases hf:tR x.si 0 with
  |none=>
   rw[hf]at j;obtain⟨g,c,rfl⟩:=j;exact av [] (cU [5] [goInt 1] _ ⟨_,q,rfl⟩)
  |some i=>
   rw[hf]at j;obtain⟨v,bc,bi,hv,rfl⟩:=j;exact av [] (cU [5] [goInt 1] _ ⟨_,q,rfl⟩)
 ·simp only at M
  subst M;refine Fl.run [9,9,9] (av [9,ie e 1,kT e 2,9] (eR [1,2,3,4,5,6,7,8] (ajz x _ l m d f C n h J u) ?_));intro v K q;have j:=q;cases w:Aj d l C.vs n y.id y.b with
  |none=>
   simp only[Bz,w]at j;obtain⟨rfl,rfl⟩:=j;exact av [] (cU [9] [goInt 0] _ ⟨_,q,rfl⟩)
  |some o=>
   simp only[Bz,w]at j;obtain⟨rfl,g,c,rfl⟩:=j;exact av [] (cU [9] [goInt 1] _ ⟨_,q,rfl⟩)
 ·rcases s with⟨s,rfl⟩|⟨s,rfl⟩
  refine Fl.run [5,5,5] (av [5,ie e 1,ie e 2,kT e 3] (jO 12 [2,5,5,ie e 4,5] [] [12] (Fl.run [P0 4 150 y.wb E Wr.v d f (false,G)] (av [] ?_))))
  rotate_left
  refine Fl.run [5,5,5] (av [5,ie e 1,ie e 2,ie e 3,kT e 4] (jO 12 [2,5,5,kT e 4,5] [] [12] (Fl.run [P0 4 150 y.wb E Wr.v d f (true,G)] (av [] ?_))))
  all_goals
   refine eR [1,2,3] (zU x _ 1 0 ⟨#[]⟩ h) ?_;rintro _ _ ⟨rfl,g,c,rfl⟩;exact av [] (cU [5] [goInt 1] _ ⟨rfl,g,c,rfl⟩)
 ·rcases s with s|⟨s,rfl⟩
  refine Fl.run [7,7,7] (av [7,ie e 1,ie e 2,ie e 3,ie e 4,kT e 6] (eR [1,2,4,5,6] (KV x _ l m d f A B) ?_))
  rotate_left
  refine Fl.run [7,7,7] (av [7,ie e 1,ie e 2,ie e 3,ie e 4,ie e 6,2,6,kT (0:Nat) 0 rfl] (eR [1,2,4,5,6] (KV x _ l m [] f A B) ?_))
  all_goals
   rintro _ _ rfl;refine av [] (eR [1,2,3] (zU x _ 1 0 ⟨#[]⟩ h) ?_);rintro _ _ ⟨rfl,g,c,rfl⟩;exact av [] (cU [7] [goInt 1] _ ⟨rfl,g,c,rfl⟩)
 ·have hz:(((fY Wr.v d).size:Int)==0)=false:=by
   have:(fY Wr.v d).size=d.length:=by simp[fY]
   rw[this];simp only[beq_eq_false_iff_ne];omega
  refine Fl.run [10,10,10] (av [10,ie e 1,ie e 2,ie e 3,ie e 4,ie e 6,2,6,bB (a:=((fY Wr.v d).size:Int)==0) (b:=false) hz] ?_);refine eR [2,6] (Tz x {y with pg:=some H} d f P O.2) ?_;rintro _ _ ⟨_,c,w,D,rfl,rfl⟩;obtain⟨g,rfl⟩:=w O.1;refine eR [1,2,3,4,5,6,7,8,9,11] (aa3 x _ l m d f C g 0 c (jb d) k h A B J u X (by rw[KL];exact D)) ?_;intro v K q;have j:=q;rcases j with⟨rfl,j⟩;split at j
  ·obtain⟨H,N,rfl⟩:=j
   exact av [] (cU [10] [goInt 1] _ ⟨g,c,_,D,q,rfl⟩)
  split at j
  ·subst j
   exact av [] (cU [10] [goInt 1] _ ⟨g,c,_,D,q,rfl⟩)
  ·obtain⟨b1,b2,rfl⟩:=j
   exact av [] (cU [10] [goInt 1] _ ⟨g,c,_,D,q,rfl⟩)
structure dT where
 w:Nat
 low:Int
 nx:ag
 wk:ag
 tl:ag
def aR.uE(x:aR)(u:dT):En:=.ob u.w (.cells #[pt x.s,ai u.low,u.nx,u.wk,u.tl] 146)
def dT.go(u:dT)(low:Int)(v:ag):dT:={u with low:=low,nx:=v}
theorem aje(x:aR)(u:dT):Fl Sv 56 [pt u.w].toArray [x.en,x.uE u] λr L=>r=goInt 0∧∃z,L=[x.en,x.uE (u.go x.ck (.func (.func 96) #[] #[pt z])),.ob z (.cells #[pt u.w] 99)]:=by
 refine Fl.of 17 λb a=>?_;refine di (λ_=>[]) λz=>?_;refine jO 10 [2,2,1,0] [] [10] (Fl.run [1] (av [2,1] ?_));exact cU [] [goInt 0] _ ⟨rfl,z,rfl⟩
def y8(v:ff)(low:Int):Int:=if v.holds then(if v.b<low then v.b else low)else low
def Cn(x:aR)(u:dT)(i:Nat)(v:ff)(r:ag)(L:ae En):Prop:=r=ai 0/\if i+1=x.si.length then
  ∃z,L=[x.en,x.uE (u.go (y8 v u.low) (.func (.func 129) #[] #[pt z])),x.sE,.ob z (.cells #[pt u.w] 99)]
 else∃z a,L=[x.en,x.uE (u.go (y8 v u.low) (.func (.func 128) #[] #[pt z,pt a])),x.sE,.ob z (.cells #[pt u.w] 99),.ob a (.cells #[ai i] 3)]
theorem ac8 (x:aR) (u:dT) (i:Nat) (v:ff) (hi:x.si[i]?=some v) (hl:x.si.length<1000000):Fl Sv 97 [pt u.w,goInt i].toArray [x.en,x.uE u,x.sE] (Cn x u i v):=by
 have aC:i<x.si.length:=(List.getElem?_eq_some_iff.1 hi).1;have d:(x.si.flatMap ff.cells)[i*3]?=some (.bool v.busy):=gW ff.len x.si i 0 v aT hi;have e:(x.si.flatMap ff.cells)[i*3+1]?=some (.bool v.holds):=gW ff.len x.si i 1 v aT hi;have f:(x.si.flatMap ff.cells)[i*3+2]?=some (goInt v.b):=gW ff.len x.si i 2 v aT hi;refine Fl.of 47 λk j=>?_;obtain⟨c,g,b⟩:=v;simp only at d e f;cases g with
 |true=>
  refine di (λ_=>[]) λz=>?_;refine jO 11 [3,1,0,4,iX 95 3 x.sb x.si.length aC,rr 2 d,rr 2 e,rr 2 f] [10] [11] (tD (λ_=>[]) λh=>Fl.run [5,5,5] (av [5] ?_));refine jO 10 [3,3,1,5,.d] [] [10] (Fl.run [1] (av [3,1] ?_));by_cases a:i+1=x.si.length
  ·refine gw 11 [4,aS i,3,1,0,kT (i+1:Nat) x.si.length] [] (Fl.nil (av [3,1] ?_))
   refine cU [4,5] [goInt 0] [x.en,x.uE (u.go (y8 ⟨c,true,b⟩ u.low) (.func (.func 129) #[] #[pt z])),x.sE,.ob z (.cells #[pt u.w] 99)] ?_;rw[Cn,if_pos a];exact⟨rfl,z,rfl⟩
  ·refine gw 11 [4,aS i,3,1,0,ie (i+1:Nat) x.si.length] [] (Fl.nil (av [] ?_))
   refine cU [5] [goInt 0] [x.en,x.uE (u.go (y8 ⟨c,true,b⟩ u.low) (.func (.func 128) #[] #[pt z,pt (z+1)])),x.sE,.ob z (.cells #[pt u.w] 99),.ob (z+1) (.cells #[goInt i] 3)] ?_;rw[Cn,if_neg a];exact⟨rfl,z,z+1,rfl⟩
 |false=>
  refine di (λ_=>[]) λz=>?_;refine jO 11 [3,1,0,4,iX 95 3 x.sb x.si.length aC,rr 2 d,rr 2 e,rr 2 f] [10] [11] (tD (λ_=>[]) λh=>Fl.run [5,5,5] (av [5,3,1] ?_));by_cases a:i+1=x.si.length
  ·refine gw 11 [4,aS i,3,1,0,kT (i+1:Nat) x.si.length] [] (Fl.nil (av [3,1] ?_))
   refine cU [4,5] [goInt 0] [x.en,x.uE (u.go (y8 ⟨c,false,b⟩ u.low) (.func (.func 129) #[] #[pt z])),x.sE,.ob z (.cells #[pt u.w] 99)] ?_;rw[Cn,if_pos a];exact⟨rfl,z,rfl⟩
  ·refine gw 11 [4,aS i,3,1,0,ie (i+1:Nat) x.si.length] [] (Fl.nil (av [] ?_))
   refine cU [5] [goInt 0] [x.en,x.uE (u.go (y8 ⟨c,false,b⟩ u.low) (.func (.func 128) #[] #[pt z,pt (z+1)])),x.sE,.ob z (.cells #[pt u.w] 99),.ob (z+1) (.cells #[goInt i] 3)] ?_;rw[Cn,if_neg a];exact⟨rfl,z,z+1,rfl⟩
theorem Vf{u:dT}{v:ff}{r:ag}(h:Cn x u i v r L)
  (d:i+1=x.si.length->∀z,r=ai 0->L=[x.en,x.uE (u.go (y8 v u.low) (.func (.func 129) #[] #[pt z])),x.sE,.ob z (.cells #[pt u.w] 99)]->p)
  (e:i+1≠x.si.length->∀z a,r=ai 0->L=[x.en,x.uE (u.go (y8 v u.low) (.func (.func 128) #[] #[pt z,pt a])),x.sE,.ob z (.cells #[pt u.w] 99),.ob a (.cells #[ai i] 3)]->p):p:=by
 obtain⟨c,h⟩:=h;split at h
 ·rename_i b
  obtain⟨z,h⟩:=h;exact d b z c h
 ·rename_i b
  obtain⟨z,a,h⟩:=h;exact e b z a c h
theorem ajd(x:aR)(u:dT)(v:ff)(a:Nat)(c:x.si[0]?=some v)(d:x.si.length<1000000):Fl Sv 96 [pt a].toArray [.ob a (.cells #[pt u.w] 99),x.en,x.uE u,x.sE] (Cn x u 0 v):=by
 refine Fl.of 4 λh g=>av [0] ?_;refine eR [1,2,3] (ac8 x u 0 v c d) ?_;intro r f b;refine Vf b ?_ ?_
 ·rintro e z rfl rfl
  exact av [] (cU [0] [goInt 0] _ b)
 ·rintro e z i rfl rfl
  exact av [] (cU [0] [goInt 0] _ b)
theorem avq(x:aR)(u:dT)(v:ff)(i a c:Nat)(d:x.si[i+1]?=some v)(e:x.si.length<1000000):Fl Sv 128 [pt a,pt c].toArray [.ob a (.cells #[pt u.w] 99),.ob c (.cells #[goInt i] 3),x.en,x.uE u,x.sE] (Cn x u (i+1) v):=by
 have aC:i+1<x.si.length:=(List.getElem?_eq_some_iff.1 d).1;refine Fl.of 7 λj h=>av [0,1,aS i] ?_;refine eR [2,3,4] (ac8 x u (i+1) v d e) ?_;intro r g b;refine Vf b ?_ ?_
 ·rintro f z rfl rfl
  exact av [] (cU [0,1] [goInt 0] _ b)
 ·rintro f z k rfl rfl
  exact av [] (cU [0,1] [goInt 0] _ b)
def xz(x:aR)(u:dT)(C:bV)(k:Nat)(r:ag)(L:ae En):Prop:=if k+1=x.ch.length then
  ∃g a,r=ai 1/\L=[x.en,x.uE (u.go u.low (.func (.func 56) #[pt u.w] #[])),x.cE,bV.hd ⟨C.c,g,a,mP C.vs u.low⟩,bV.rw ⟨C.c,g,a,mP C.vs u.low⟩]
 else∃g a z b,r=ai 0/\L=[x.en,x.uE (u.go u.low (.func (.func 153) #[] #[pt z,pt b])),x.cE,bV.hd ⟨C.c,g,a,mP C.vs u.low⟩,bV.rw ⟨C.c,g,a,mP C.vs u.low⟩,.ob z (.cells #[pt u.w] 99),.ob b (.cells #[ai k] 3)]
theorem aaw (x:aR) (u:dT) (C:bV) (k:Nat) (hk:x.ch[k]?=some C.c) (hl:C.vs.length<1000000) (hc:x.ch.length<1000000):Fl Sv 130 [pt u.w,goInt k].toArray [x.en,x.uE u,x.cE,C.hd,C.rw] (xz x u C k):=by
 have d:k<x.ch.length:=(List.getElem?_eq_some_iff.1 hk).1;have c:(x.ch.map pt)[k*1]?=some (pt C.c):=by rw[Nat.mul_one,List.getElem?_map,hk];rfl
 refine Fl.of 40 λf e=>?_;refine di (λ_=>[]) λz=>?_;refine gw 15 [5,1,0,6,iX 96 1 x.cb x.vD d,rr 2 c,5,1] [14] (qq [3,4] (ay8 C u.low hl) ?_);rintro _ _ ⟨g,a,rfl⟩;refine ib (Fl.nil (av [] ?_));by_cases b:k+1=x.ch.length
 ·refine gw 11 [6,aS k,5,1,0,kT (k+1:Nat) x.ch.length] [] (Fl.nil (av [5,5,1] ?_))
  refine cU [5,6] [goInt 1] [x.en,x.uE (u.go u.low (.func (.func 56) #[pt u.w] #[])),x.cE,bV.hd ⟨C.c,g,a,mP C.vs u.low⟩,bV.rw ⟨C.c,g,a,mP C.vs u.low⟩] ?_;rw[xz,if_pos b];exact⟨g,a,rfl,rfl⟩
 ·refine gw 11 [6,aS k,5,1,0,ie (k+1:Nat) x.ch.length] [] (Fl.nil (av [5,1] ?_))
  refine cU [] [goInt 0] [x.en,x.uE (u.go u.low (.func (.func 153) #[] #[pt z,pt (z+1)])),x.cE,bV.hd ⟨C.c,g,a,mP C.vs u.low⟩,bV.rw ⟨C.c,g,a,mP C.vs u.low⟩,.ob z (.cells #[pt u.w] 99),.ob (z+1) (.cells #[goInt k] 3)] ?_;rw[xz,if_neg b];exact⟨g,a,z,z+1,rfl,rfl⟩
theorem Tx{u:dT}{C:bV}{r:ag}(h:xz x u C k r L)
  (f:k+1=x.ch.length->∀g a,r=ai 1->L=[x.en,x.uE (u.go u.low (.func (.func 56) #[pt u.w] #[])),x.cE,bV.hd ⟨C.c,g,a,mP C.vs u.low⟩,bV.rw ⟨C.c,g,a,mP C.vs u.low⟩]->p)
  (i:k+1≠x.ch.length->∀g a z b,r=ai 0->L=[x.en,x.uE (u.go u.low (.func (.func 153) #[] #[pt z,pt b])),x.cE,bV.hd ⟨C.c,g,a,mP C.vs u.low⟩,bV.rw ⟨C.c,g,a,mP C.vs u.low⟩,.ob z (.cells #[pt u.w] 99),.ob b (.cells #[ai k] 3)]->p):p:=by
 unfold xz at h;split at h
 ·rename_i e
  obtain⟨g,a,c,d⟩:=h;exact f e g a c d
 ·rename_i e
  obtain⟨g,a,z,b,c,d⟩:=h;exact i e g a z b c d
theorem avr(x:aR)(u:dT)(C:bV)(a:Nat)(e:x.ch[0]?=some C.c)(f:C.vs.length<1000000)(d:x.ch.length<1000000):Fl Sv 129 [pt a].toArray [.ob a (.cells #[pt u.w] 99),x.en,x.uE u,x.cE,C.hd,C.rw] (xz x u C 0):=by
 refine Fl.of 4 λk j=>av [0] ?_;refine eR [1,2,3,4,5] (aaw x u C 0 e f d) ?_;intro r i c;refine Tx c ?_ ?_
 ·rintro h g b rfl rfl
  exact av [] (cU [0] [goInt 1] _ c)
 ·rintro h g b z l rfl rfl
  exact av [] (cU [0] [goInt 0] _ c)
theorem aof(x:aR)(u:dT)(C:bV)(k a d:Nat)(e:x.ch[k+1]?=some C.c)(h:C.vs.length<1000000)(f:x.ch.length<1000000):Fl Sv 153 [pt a,pt d].toArray [.ob a (.cells #[pt u.w] 99),.ob d (.cells #[goInt k] 3),x.en,x.uE u,x.cE,C.hd,C.rw] (xz x u C (k+1)):=by
 have aC:k+1<x.ch.length:=(List.getElem?_eq_some_iff.1 e).1;refine Fl.of 7 λm l=>av [0,1,aS k] ?_;refine eR [2,3,4,5,6] (aaw x u C (k+1) e h f) ?_;intro r j c;refine Tx c ?_ ?_
 ·rintro i g b rfl rfl
  exact av [] (cU [0,1] [goInt 1] _ c)
 ·rintro i g b z n rfl rfl
  exact av [] (cU [0,1] [goInt 0] _ c)
section
open Go.Conc (G)
def acv:aj Next->aj Nat
 |some (.comm ⟨[⟨.chan (Z c),I,_⟩]⟩ U (.recv Y))=>Z c
 |_=>I
def VP:aj Next->aj (Nat×ag)
 |some (.comm ⟨[⟨.chan (Z c),Z x,_⟩]⟩ U .send)=>Z (c,x)
 |_=>I
def Lb:aj En->aj (Nat×ag×En)
 |some (.ob c (.chan d ⟨[v]⟩ Y a b tm))=>Z (c,v,.ob c (.chan d #[] Y a (b+1) tm))
 |_=>I
def OI(x:ag):aj En->aj (Nat×En)
 |some (.ob c (.chan (d+1) ⟨[]⟩ Y a b tm))=>Z (c,.ob c (.chan (d+1) #[x] Y (a+1) b tm))
 |_=>I
def acx(i:Nat)(L:ae En):ag:=match Lb L[i]? with
 |some (_,v,_)=>v
 |none=>aB
def acw(i:Nat)(L:ae En):ae En:=match Lb L[i]? with
 |some (_,_,e)=>L.set i e
 |none=>L
section
variable {P:aD}{X:Cx}{W:ae aJ}{T:ae cz}{V:Env}{L:ae En}
def Lz(P:aD)(W:ae aJ)(V:Env):ag:=match VP ((mM W V).bind (fR P))with
 |some (_,x)=>x
 |none=>aB
def adY(P:aD)(i:Nat)(W:ae aJ)(V:Env)(L:ae En):ae En:=match OI (Lz P W V) L[i]? with
 |some (_,e)=>L.set i e
 |none=>L
theorem ac1{L l}{i c k f a b g h}{j d}{tm}(m:Kn (L++l) w.heap)(n:L[i]?=iQ (.ob c (.chan k j Y a b tm))):Kn (L.set i (.ob c (.chan f d Y g h tm))++l) (w.setChan c f d Y g h tm).heap:=by
 have q:=m.at n;have aC:=aC q;refine yf m n ?_ (λx o=>.inl o) (by simp[World.setChan]) λx o p=>?_
 ·show(w.setChan c f d Y g h tm).heap[c]?=_
  simp[World.setChan,aC]
 ·have:x≠c:=λe=>p (by subst e;rfl)
  simp only[World.setChan];rw[iK (Ne.symm this)]
theorem lX(i)(h:Rs P X (sW W) T (pe V (kF W) (acx i L)) (acw i L))(f:(acv ((mM W V).bind (fR P)),(Lb L[i]?).isSome,fits X.N (kF W))=((Lb L[i]?).map (·.1),U,U):=by kernel_rfl):Rs P X W T V L:=λl o H n m w e=>by
 subst e;simp only[fN]at f;obtain⟨f,d,x⟩:=f;obtain⟨⟨c,v,A⟩,d⟩:=A7.1 d;rw[d,jE]at f;unfold acw acx at h;rw[d]at h;obtain⟨e,j⟩:∃e,L[i]?=iQ e:=by
  cases h':L[i]? with
  |none=>rw[h']at d;cases d
  |some e=>exact⟨e,F⟩
 rw[j]at d;unfold Lb at d;split at d<;>cases d;rename_i q a b tm k;cases k;unfold acv at f;split at f<;>cases f;rename_i z f;obtain⟨s,r,t⟩:=nj.1 f;obtain⟨g,y⟩:=K5 l n r;have g:=Uz (cs:=X.cs) g;have u:=m.at j;have p:=Go.Conc.step_lone_recv_buf _ (M0 g t w) u ba;refine Rh.steps (.one p) F F ?_;rw[y];exact h l _ _ (oL n (Ag x v)) (ac1 m j)
theorem gL(i)(h:Rs P X (sW W) T (pe V (kF W) aB) (adY P i W V L))(g:((VP ((mM W V).bind (fR P))).map (·.1),(OI (Lz P W V) L[i]?).isSome,fits X.N (kF W))=((OI (Lz P W V) L[i]?).map (·.1),U,U):=by kernel_rfl):Rs P X W T V L:=λm p H o n w e=>by
 subst e;simp only[fN]at g;obtain⟨g,d,y⟩:=g;obtain⟨⟨c,D⟩,d⟩:=A7.1 d;rw[d,jE]at g;unfold adY at h;rw[d]at h;obtain⟨⟨C,x⟩,f,rfl⟩:=fX.1 g;have A:Lz P W V=x:=by unfold Lz;rw[f]
 rw[A]at d;obtain⟨e,k⟩:∃e,L[i]?=iQ e:=by
  cases h':L[i]? with
  |none=>rw[h']at d;cases d
  |some e=>exact⟨e,F⟩
 rw[k]at d;unfold OI at d;split at d<;>cases d;rename_i r a b tm l;cases l;unfold VP at f;split at f<;>cases f;rename_i z f;obtain⟨s,t,u⟩:=nj.1 f;obtain⟨j,B⟩:=K5 m o t;have j:=Uz (cs:=X.cs) j;have v:=n.at k;have q:=Go.Conc.step_lone_send_room (M0 j u w) v ba;refine Rh.steps (.one q) F F ?_;rw[B];exact h m _ _ (oL o (Ag y _)) (ac1 n k)
end
end
theorem Fl.perm{P}{f}{a}{L L'}{R}(h:Fl P f a L R)(p:L'.Perm L):Fl P f a L' R:=λc H b=>h _ H (b.perm (p.append_right _))
theorem cM{P}{X}{a}{d}{b}{L}(c)(h:Rs P X a d b c)(e:L=c:=by kernel_rfl):Rs P X a d b L:=by subst e;exact h
theorem Bf{P}{X}{a}{c}{b}{L}{e}(h:Rs P X a c b L):Rs P X a c b (e::L):=λg f H j d=>h g _ H j ⟨λe i=>d.sat e (eK _ i),(mQ.1 d.nd).2⟩
theorem lW{P}{X}{a}{g}{c}{L}(A e){f}{b}{R}(k:Fl P f b e R)(h:∀v d,R v d->Rs P X (sW a) g (pe c (kF a) v) (A++d))(i:L=A++e:=by kernel_rfl)(l:((mM a c).bind (λs=>(sE P s .r [] [] []).map λq=>(q.1,q.2.2.2.2)),fits X.N (kF a))=(iQ (.enter f b,[]),U):=by kernel_rfl):Rs P X a g c L:=by
 subst i;exact im _ A k lD (λv d j=>du lD (h v _ j)) l
def aR.bf(x:aR)(m:Int):aR:={x with mu:=m}
theorem BZ(x:aR):Fl Sv 43 [pt x.s].toArray [(x.bf 0).en] λr L=>r=.tuple #[]/\L=[(x.bf 1).en]:=by
 refine Fl.of 6 λb a=>?_;refine av [0,.d,.d,0] ?_;exact cU [] [] _ ⟨F,F⟩
def MV(c d:Nat)(v:ag)(a b:Nat):En:=.ob c (.chan d #[v] Y a b Y)
structure eG where
 w:Nat
 t:Nat
 d:Nat
def eG.v(k:eG):ag:=.agg #[.chan (Z k.w),.chan (Z k.t)]
def eG.wE(k:eG)(a b:Nat):En:=MV k.w 1 (.agg #[.chan (Z k.d),.chan (Z k.t)]) a b
def dE(d s:Nat)(n:Int)(c:Bool)(a b:Nat):En:=MV d 2 (.agg #[pt s,ai n,.bool c]) a b
structure Gc where
 v:ag
 n:Nat
instance:HAdd Gc Nat Gc:=⟨λg k=>⟨g.v,g.n+k⟩⟩
def gE(a:Gc)(b:Nat):En:=MV bw 5 a.v a.n b
def Nb(t:aK)(p q:iP)(a b:ag):Sem Next:=Sem.bind (Sem.bind (lF .eql t p q a b) λ_=>binOp .eql t a b) λv=>.pure (.value v)
theorem aiN(p q)(a)(w):(Nb 140 p q (.chan (Z a)) (.chan (Z a))).run Sv w=.ok (.value (.bool U)) w:=by
 have:(Nb 140 p q (.chan (Z a)) (.chan (Z a))).run Sv w=.ok (.value (.bool (Z a==Z a))) w:=by kernel_rfl
 rw[this];simp
abbrev X7(p q:iP)(a:Nat):Aw Sv:=.s _ _ (aiN p q a)
theorem ahY{q}{g}{R}(k:eG)(s)(n)(a)(b c e d f)(l:Fl Sv 67 [pt q].toArray g R):Fl Sv 66 [k.v,.func (.func 67) #[] #[pt q]].toArray (gE a b::k.wE c e::dE k.d s n Y d f::g) λv L=>∃h,R v h/\L=gE (a+1) (b+1)::k.wE (c+1) (e+1)::dE k.d s n Y (d+1) (f+1)::h:=by
 refine Fl.of 11 λo m=>?_;refine di (λ_=>[]) λz=>?_;refine lX 0 (av [] (lX 1 (gL 1 (av [] (lX 2 (gL 2 (av [X7 (tm 7) (tm 6) k.t] ?_)))))));refine cM (.ob bw (.chan 5 #[] Y a.n (b+1) Y)::k.wE (c+1) (e+1)::dE k.d s n Y (d+1) (f+1)::(g++[.ob z (.chan 4 #[] Y 0 0 Y)])) ?_;refine im _ [.ob z (.chan 4 #[] Y 0 0 Y),.ob bw (.chan 5 #[] Y a.n (b+1) Y),k.wE (c+1) (e+1),dE k.d s n Y (d+1) (f+1)] l ((lD (l₁:=[_,_,_])).trans (.of_eq ba)) λv i j=>?_;refine du lD (Bf (gL 0 (av [] ?_)));exact ez [v] _ ⟨i,j,F⟩
theorem ahZ{q}{g}{R}(k:eG)(s)(n)(a)(b c e d f)(l:Fl Sv 69 [pt q].toArray g R):Fl Sv 66 [k.v,.func (.func 69) #[] #[pt q]].toArray (gE a b::k.wE c e::dE k.d s n Y d f::g) λv L=>∃h,R v h/\L=gE (a+1) (b+1)::k.wE (c+1) (e+1)::dE k.d s n Y (d+1) (f+1)::h:=by
 refine Fl.of 11 λo m=>?_;refine di (λ_=>[]) λz=>?_;refine lX 0 (av [] (lX 1 (gL 1 (av [] (lX 2 (gL 2 (av [X7 (tm 7) (tm 6) k.t] ?_)))))));refine cM (.ob bw (.chan 5 #[] Y a.n (b+1) Y)::k.wE (c+1) (e+1)::dE k.d s n Y (d+1) (f+1)::(g++[.ob z (.chan 4 #[] Y 0 0 Y)])) ?_;refine im _ [.ob z (.chan 4 #[] Y 0 0 Y),.ob bw (.chan 5 #[] Y a.n (b+1) Y),k.wE (c+1) (e+1),dE k.d s n Y (d+1) (f+1)] l ((lD (l₁:=[_,_,_])).trans (.of_eq ba)) λv i j=>?_;refine du lD (Bf (gL 0 (av [] ?_)));exact ez [v] _ ⟨i,j,F⟩
section
variable {P:aD}{X:Cx}{W:ae aJ}{T:ae cz}{V:Env}
theorem cF(A B:ae En)(h:Rs P ⟨X.fn,X.N,X.kind,X.cs,B++X.L2,X.eZ⟩ W T V A):Rs P X W T V (A++B):=λb a H d c=>h b a H d (by rw[<-iL];exact c)
theorem bE{c B A:ae En}{a:dQ}{d:ae aA}{e:aA->Hp->Prop}(h:Rs P ⟨f,N,a,d,c,e⟩ W T V (A++B)):Rs P ⟨f,N,a,d,B++c,e⟩ W T V A:=λg b H j i=>h g b H j (by rw[iL];exact i)
end
def c5.by(y:c5)(k:eG):c5:={y with wk:=.chan (Z k.w),tl:=.chan (Z k.t)}
abbrev iE(b:Nat)(i:Int):En:=.ob b (.cells #[ai i] 3)
abbrev gv(b s:Nat):En:=.ob b (.cells #[pt s] 39)
theorem arL (x:aR) (y:c5) (k:eG) (i bi bs bo:Nat) (n:Int) (a:Gc) (b a1 b1 a2 b2:Nat) (L0:List En) (R:Int→List En→Prop) (hl:x.cl.length<1000000) (hi:x.cl[i]?=some y.c)
  (hf:∀q,Fl Sv 67 [pt q].toArray (.ob q (.cells #[pt y.c] 149)::x.kE (y.by k)::x.en::L0) λv L=>∃r d,(v=goInt r∧R r d)∧L=.ob q (.cells #[pt y.c] 149)::d):
  Fl Sv 65 [pt bi,pt bs,pt bo].toArray (iE bi i::gv bs x.s::iE bo 0::x.lE::gE a b::k.wE a1 b1::dE k.d x.s n false a2 b2::x.kE (y.by k)::x.en::L0) λv L=>v=.nilIface∧∃r d,R r d∧L=iE bi i::gv bs x.s::iE bo r::x.lE::gE (a+1) (b+1)::k.wE (a1+1) (b1+1)::dE k.d x.s n false (a2+1) (b2+1)::d:=by
 have aC:i<x.cl.length:=(List.getElem?_eq_some_iff.1 hi).1;have h:(x.cl.map pt)[i*1]?=some (pt y.c):=by rw[Nat.mul_one,List.getElem?_map,hi];rfl
 have e:¬(i:Int)≥x.cl.length:=by omega
 rcases iT:x.rp with _|c
 ·exact Fl.of 30 λg f=>IV 3 x.rp x.cl.length x.CZ ah iT
 obtain⟨x,rfl⟩:∃x0:aR,x={x0 with rp:=some c}:=⟨x,by cases x;simp_all⟩;refine Fl.of 30 λg f=>?_;refine cF [iE bi i,gv bs x.s,iE bo 0,aR.lE {x with rp:=some c},gE a b,k.wE a1 b1,dE k.d x.s n false a2 b2,aR.kE {x with rp:=some c} (y.by k),aR.en {x with rp:=some c}] L0 ?_;refine av [] ?_;refine gw 11 [0,gi i 0,0,1,8,bF e] [] (Fl.nil (av [] ?_));refine jO 8 [1,8,0,iX 98 1 c x.CZ aC,rr 3 h] [7] [8] (tD (λ_=>[]) λq=>Fl.run [9] (av [9,7,7] ?_));refine bE (cM ([iE bi i,gv bs x.s,iE bo 0,aR.lE {x with rp:=some c},gE a b,k.wE a1 b1,dE k.d x.s n false a2 b2]++([aR.kE {x with rp:=some c} (y.by k),aR.en {x with rp:=some c}]++[.ob q (.cells #[pt y.c] 149)])++L0) ?_);refine du (List.Perm.append_right _ (List.Perm.append_left _ List.perm_append_comm)) ?_;refine lW [iE bi i,gv bs x.s,iE bo 0,aR.lE {x with rp:=some c}] _ (ahY k x.s n a b a1 b1 a2 b2 (hf q)) ?_;rintro _ _ ⟨_,⟨r,d,⟨rfl,j⟩,rfl⟩,rfl⟩;refine du (L':=.ob q (.cells #[pt y.c] 149)::([iE bi i,gv bs x.s,iE bo 0,aR.lE {x with rp:=some c},gE (a+1) (b+1),k.wE (a1+1) (b1+1),dE k.d x.s n false (a2+1) (b2+1)]++d)) (List.perm_middle (l₁:=[_,_,_,_,_,_,_])) (Bf (cF _ _ ?_));refine av [2] (bE (ez [.nilIface] _ ⟨rfl,r,d,j,rfl⟩))
abbrev aQ(g:Nat)(v:ag):En:=.ob g (.cells #[v] 78)
theorem arK(x:aR)(i:Int)(b c e:Nat)(a:Value)(h:i<0∨i≥x.cl.length):Fl Sv 65 [pt b,pt c,pt e].toArray [iE b i,gv c x.s,x.en,aQ 3 a] λv L=>v=a∧L=[iE b i,gv c x.s,x.en,aQ 3 a]:=by
 refine Fl.of 30 λj g=>av [] ?_;by_cases d:i<0
 ·refine gw 11 [0,bT d] [] (Fl.nil (av [3] (ez [a] _ ⟨rfl,rfl⟩)))
 ·have f:i≥x.cl.length:=h.resolve_left d
  refine gw 11 [0,bF d,0,1,2,bT f] [] (Fl.nil (av [3] (ez [a] _ ⟨rfl,rfl⟩)))
def dT.by(u:dT)(k:eG):dT:={u with wk:=.chan (Z k.w),tl:=.chan (Z k.t)}
theorem ayu(x:aR)(u:dT)(k:eG)(d e:Nat)(n:Int)(a:Gc)(b f h g i:Nat)(j:List En)(R:Int→List En→Prop)(l:x.sw=u.w)
  (o:Fl Sv 69 [pt d].toArray (gv d x.s::x.en::x.uE (u.by k)::j) λv L=>∃r c,(v=goInt r∧R r c)∧L=gv d x.s::c):
  Fl Sv 68 [pt d,pt e].toArray (iE e 0::gE a b::k.wE f h::dE k.d x.s n false g i::gv d x.s::x.en::x.uE (u.by k)::j) λv L=>v=.nilIface∧∃r c,R r c∧L=iE e r::gE (a+1) (b+1)::k.wE (f+1) (h+1)::dE k.d x.s n false (g+1) (i+1)::gv d x.s::c:=by
 obtain⟨w,p,nx,s,q⟩:=u;simp only at l;subst l;refine Fl.of 12 λy t=>?_;refine cF [iE e 0,gE a b,k.wE f h,dE k.d x.s n false g i,gv d x.s,x.en,x.uE (dT.by ⟨x.sw,p,nx,s,q⟩ k)] j (av [4,5,6,6] (bE ?_));refine lW [iE e 0] _ (ahZ k x.s n a b f h g i o) ?_;rintro _ _ ⟨_,⟨r,c,⟨rfl,m⟩,rfl⟩,rfl⟩;refine cF [iE e 0,gE (a+1) (b+1),k.wE (f+1) (h+1),dE k.d x.s n false (g+1) (i+1),gv d x.s] c (av [0] (bE ?_));exact ez [.nilIface] _ ⟨rfl,r,c,m,rfl⟩
section
open Go.Conc (G)
def Wy(P:aD)(f:cH)(d:ae En)(R:ae En->Prop)(a:aA)(b:Hp):Prop:=a.kind=.deferred/\∃v,(∀w:ax,w.heap=b->a.going P w (.returned v))/\∃c,R c/\Kn (c++d) b
abbrev YC(P:aD)(f:cH)(N:Nat)(b:ae aA)(a:ae En)(R:ae En->Prop):Cx:=⟨f,N,.deferred,b,a,Wy P f a R⟩
def GA(P:aD)(f:cH)(a:af ag)(L:ae En)(R:ae En->Prop):Prop:=∀b H c,Kn (L++b) H->Rh P (bO P f a .deferred) c H (Wy P f b R)
section
variable {P:aD}{X:ae aJ}{V:ae cz}{W:Env}{L:ae En}
theorem GA.of(N){f}{a}{R}(h:∀b d,Rs P (YC P f N b d R) (bO P f a.toArray .deferred).todo [] (CV a 0) L)(g:(bO P f a.toArray .normal).tmps.size=N:=by kernel_rfl):GA P f a.toArray L R:=λd H b e=>by
 have:=h b _ ba _ H ⟨g,λt v i=>?_⟩ e
 ·exact this
 ·obtain⟨_,c⟩:=Qz _ _ _ _ i
  simp only[Nat.sub_zero]at c;have aC:=(dq.1 c).1;simp only[bO,nJ];rw[Array.getElem?_append_left (by simpa using aC)];simp[c]
theorem afc{f}{N}{j}{i}{R}(g)(b)(h:R b)(q:L=b:=by kernel_rfl)(c:(DG X,V.length,(P.funcs[f]?).bind λa=>AQ W a.results.toList)=(U,0,iQ g):=by kernel_rfl):Rs P (YC P f N j i R) X V W L:=λt d H s p w e=>by
 subst e;subst q;simp only[fN]at c;obtain⟨k,l,m⟩:=c;obtain⟨a,n,o⟩:=nj.1 m;have r:=zC l;subst r;refine Rh.steps (.one (Jx k _ w)) F F (.done ⟨F,qV g,λv u=>⟨F,F,a,n,?_⟩,L,h,p⟩);rw[Pb s o]
theorem zJ{f g}{N}{d}{n}{R}{o}{a}(m)(A k)(C:GA P g a k o)(h:∀i,o i->R (qV m) (A++i))
  (z:L=A++k:=by kernel_rfl)(p:(DG X,V,(P.funcs[f]?).bind λj=>AQ W j.results.toList)=(U,[⟨.fn (.func g) #[],a⟩],iQ m):=by kernel_rfl)
  (E:∀w,(invoke (.fn (.func g) #[]) a).run P w=.ok (.enter g a) w:=by intro w;kernel_rfl):Rs P (fx P f N d n R) X V W L:=λS b H K y w e=>by
 subst e;subst z;simp only[fN]at p;obtain⟨s,rfl,t⟩:=p;obtain⟨j,u,x⟩:=nj.1 t;have M:Kn (k++(A++n)) w.heap:=y.perm (by rw[<-iL];exact List.perm_append_comm.append_right _);obtain⟨r,w',J,O,Q,G,v,D,i,B,l⟩:=C _ _ _ M w F;have s1:=Jx (P:=P) (fn:=f) (tmps:=b) (ds:=[⟨.fn (.func g) #[],a⟩]) (kind:=.normal) s d w;have s2:=step_defer (fr:=⟨f,b,X,[⟨.fn (.func g) #[],a⟩],.returning,.normal,I⟩) (cs:=d) ba F F (E w);have s3:=step_going_returned (c:=⟨f,b,X,[],.returning,.normal,I⟩) (cs:=d) G (D _ F);have q:=J;refine Rh.steps (((Steps.one s1).trans (.one s2)).trans (q.trans (.one s3))) O Q (.done ⟨F,qV m,λw2 T=>⟨F,F,F,j,u,?_⟩,A++i,h _ B,?_⟩)
 ·rw[Pb K x]
 ·exact l.perm (by rw[<-iL];exact List.perm_append_comm.append_right _)
end
theorem azy(x:aR):GA Sv 44 [pt x.s].toArray [(x.bf 1).en] λL=>L=[(x.bf 0).en]:=by
 refine GA.of 6 λb a=>?_;refine av [0,.d,.d,0] ?_;exact afc [] _ F
end
theorem aiO(p q:iP)(s:Nat)(w:ax):(Nb 39 p q (pt s) (pt s)).run Sv w=.ok (.value (.bool U)) w:=by
 have h:(do lF .eql 39 p q (pt s) (pt s);binOp .eql 39 (pt s) (pt s):Sem ag).run Sv w=(do pure (Value.bool (<-sameAddr ⟨s,0,I⟩ ⟨s,0,I⟩)):Sem ag).run Sv w:=by kernel_rfl
 have a:(do pure (Value.bool (<-sameAddr ⟨s,0,I⟩ ⟨s,0,I⟩)):Sem ag).run Sv w=.ok (.bool U) w:=by
  unfold sameAddr;simp only[beq_self_eq_true,if_true];rfl
 show((do lF .eql 39 p q (pt s) (pt s);binOp .eql 39 (pt s) (pt s):Sem ag)>>=λv=>(qi (mR v):Sem Next)).run Sv w=_;rw[fK,h,a];rfl
abbrev G6(p q:iP)(s:Nat):Aw Sv:=.s (Nb 39 p q (pt s) (pt s)) (.value (.bool U)) (aiO p q s)
theorem AH{a:aR}(h:a.s=x.s):GA Sv 44 [pt x.s].toArray [(a.bf 1).en] λL=>L=[(a.bf 0).en]:=by
 have:=azy a;rw[h]at this;exact this
def iM(z:Nat)(b:ByteArray)(i:Int)(a:ag):En:=.ob z (.cells #[.string b,ai i,a] 158)
abbrev ifV:aj (aK×ag)->ag
 |none=>.nilIface
 |some (b,a)=>.iface b a
theorem Jl {f:FuncId} {cp:Array Value} (x:aR) (u:dT) (k:eG) (nm:ByteArray) (i:Int) (e4:Value) (c1 c2 c3:Nat) (n:Int) (a1 b1 a2 b2:Nat) (L0:List En) (R:aR→List En→Prop) (hw:x.sw=u.w) (hF:(f=65∨f=58)∧cp=[pt c1,pt c2,pt c3].toArray∨f=68∧cp=[pt c1,pt c2].toArray) (c:Option (TypeId×Value))
  (hf:Fl Sv f cp ((x.bf 1).en::x.uE (u.by k)::k.wE (a1+1) (b1+1)::dE k.d x.s n false (a2+1) (b2+1)::L0) λv L=>∃b a,(v=ifV c∧b.s=x.s∧R b a)∧L=(b.bf 1).en::a):
  Fl Sv 57 [pt x.s,.string nm,goInt i,.func (.func f) #[] cp].toArray ((x.bf 0).en::x.uE (u.by k)::k.wE a1 b1::dE k.d x.s n false a2 b2::aQ 4 e4::L0) λv L=>match c with
   |none=>v=.nilIface∧∃b a,R b a∧L=aQ 4 e4::a++[(b.bf 0).en]
   |some (d,c)=>∃z,v=.iface 154 (pt z)∧∃b a,R b a∧L=aQ 4 e4::iM z nm i (.iface d c)::a++[(b.bf 0).en]:=by
 obtain⟨w,j,nx,m,l⟩:=u;simp only at hw;subst hw;rcases hF with⟨rfl|rfl,rfl⟩|⟨rfl,rfl⟩
 all_goals
  refine Fl.of 33 λq p=>?_;refine cF [(x.bf 0).en,x.uE (dT.by ⟨x.sw,j,nx,m,l⟩ k),k.wE a1 b1,dE k.d x.s n false a2 b2,aQ 4 e4] L0 (av [] (eR [0] (BZ x) ?_));rintro _ _ ⟨rfl,rfl⟩;refine av [4,0,1] (lX 2 (gL 2 (av [] (lX 3 (av [G6 (tm 22) (tm 19) x.s] (gL 3 (av [] (bE ?_))))))));refine cM ([(x.bf 1).en,x.uE (dT.by ⟨x.sw,j,nx,m,l⟩ k),k.wE (a1+1) (b1+1),dE k.d x.s n false (a2+1) (b2+1)]++[aQ 4 e4]++L0) (du (List.Perm.append_right _ List.perm_append_comm) ?_);refine lW [aQ 4 e4] _ hf ?_;rintro _ _ ⟨b,a,⟨rfl,h,g⟩,rfl⟩;rcases c with _|⟨d,c⟩
  ·refine cF [aQ 4 e4,(b.bf 1).en] a (av [.d] (bE ?_))
   refine cM (aQ 4 e4::([(b.bf 1).en]++a)) (du (L':=aQ 4 e4::(a++[(b.bf 1).en])) (List.perm_append_comm.cons _) ?_);exact zJ [.nilIface] (aQ 4 e4::a) [(b.bf 1).en] (AH h) λo e=>⟨rfl,b,a,g,by rw[e]⟩
  ·refine cF [aQ 4 e4,(b.bf 1).en] a (di (λ_=>[.d]) λz=>bE ?_)
   refine cM (aQ 4 e4::([(b.bf 1).en]++(iM z nm i (.iface d c)::a))) (du (L':=aQ 4 e4::((iM z nm i (.iface d c)::a)++[(b.bf 1).en])) (List.perm_append_comm.cons _) ?_);exact zJ [.iface 154 (pt z)] (aQ 4 e4::iM z nm i (.iface d c)::a) [(b.bf 1).en] (AH h) λo e=>⟨z,rfl,b,a,g,by rw[e]⟩
theorem QF (x:aR) (u:dT) (k:eG) (nm:ByteArray) (i:Int) (te:TypeId) (er fv:Value) (n:Int) (a1 b1 a2 b2:Nat) (hw:x.sw=u.w):Fl Sv 57 [pt x.s,.string nm,goInt i,fv].toArray [(x.bf 0).en,x.uE (u.by k),k.wE a1 b1,dE k.d x.s n true a2 b2,aQ 4 (.iface te er)] λv L=>∃z,v=.iface 154 (pt z)∧L=[x.uE (u.by k),k.wE (a1+1) (b1+1),dE k.d x.s n true (a2+1) (b2+1),aQ 4 (.iface te er),iM z nm i (.iface te er),(x.bf 0).en]:=by
 obtain⟨w,a,nx,c,b⟩:=u;simp only at hw;subst hw;refine Fl.of 33 λg f=>(av [] (eR [0] (BZ x) ?_));rintro _ _ ⟨rfl,rfl⟩;refine av [4,0,1] (lX 2 (gL 2 (av [] (lX 3 (av [G6 (tm 22) (tm 19) x.s] (gL 3 (di (λ_=>[.d]) λz=>?_)))))));refine cM ([(x.bf 1).en]++[x.uE (dT.by ⟨x.sw,a,nx,c,b⟩ k),k.wE (a1+1) (b1+1),dE k.d x.s n true (a2+1) (b2+1),aQ 4 (.iface te er),iM z nm i (.iface te er)]) (du List.perm_append_comm ?_);exact zJ [.iface 154 (pt z)] [x.uE (dT.by ⟨x.sw,a,nx,c,b⟩ k),k.wE (a1+1) (b1+1),dE k.d x.s n true (a2+1) (b2+1),aQ 4 (.iface te er),iM z nm i (.iface te er)] [(x.bf 1).en] (AH rfl) λe d=>⟨z,rfl,by rw[d];rfl⟩
def aiZ(x:aR)(r:ag)(L:ae En):Prop:=∃g a,r=sv g x.ev.length a/\L=[x.eE,.row 34 5 g x.ev.length a (x.ev.flatMap Ev.cells),(x.bf 0).en]
theorem ai0(x:aR)(n:x.ev.length<1000000):Fl Sv 32 [pt x.s].toArray [(x.bf 0).en,x.eE] (aiZ x):=by
 rcases Nat.eq_zero_or_pos x.ev.length with a|a
 ·obtain⟨x,rfl⟩:∃x0:aR,x={x0 with ev:=[]}:=⟨x,by
   cases x;simp only[List.length_eq_zero_iff]at a;simp[a]⟩
  refine Fl.of 15 λk i=>(av [] (eR [0] (BZ {x with ev:=[]}) ?_));rintro _ _ ⟨rfl,rfl⟩;refine av [0,a0 25 5 none 0 0 (x.eg.map λb=>⟨b,0,none⟩) x.ec (Nat.le_refl _)] (pC 34 5 ?_);refine cM ([aR.en (aR.bf {x with ev:=[]} 1)]++[aR.eE {x with ev:=[]},.row 34 5 none 0 0 []]) (du List.perm_append_comm ?_);exact zJ [sv none 0 0] [aR.eE {x with ev:=[]},.row 34 5 none 0 0 []] [aR.en (aR.bf {x with ev:=[]} 1)] (AH rfl) λl f=>⟨none,0,rfl,by rw[f];rfl⟩
 ·rcases heg:x.eg with _|g
  ·exact Fl.of 15 λk i=>IV 1 x.eg x.ev.length x.ec a heg
  have m:0+x.ev.length≤34359738368:=by omega
  obtain⟨x,rfl⟩:∃x0:aR,x={x0 with eg:=some g}:=⟨x,by cases x;simp_all⟩;refine Fl.of 15 λk i=>(av [] (eR [0] (BZ {x with eg:=some g}) ?_));rintro _ _ ⟨rfl,rfl⟩;refine av [0] (pC 34 5 (kr (MI 25 5 2 1 g 0 x.ev.length x.ec 0 (x.ev.flatMap Ev.cells) (x.ev.flatMap Ev.cells) a m (Bx Ev.len _) (JF Ev.one _) (λj u h=>by rw[Nat.zero_add];exact h)) ?_));rintro _ _ ⟨c,d,rfl,rfl⟩;have e:(0:Nat)+x.ev.length=x.ev.length:=Nat.zero_add _;rw[e];refine av [] ?_;refine cM ([aR.en (aR.bf {x with eg:=some g} 1)]++[aR.eE {x with eg:=some g},.row 34 5 (some c) x.ev.length d (x.ev.flatMap Ev.cells)]) (du List.perm_append_comm ?_);exact zJ [sv (some c) x.ev.length d] [aR.eE {x with eg:=some g},.row 34 5 (some c) x.ev.length d (x.ev.flatMap Ev.cells)] [aR.en (aR.bf {x with eg:=some g} 1)] (AH rfl) λl f=>⟨some c,d,rfl,by rw[f];rfl⟩
def zq(v:ff):Int:=if v.holds then v.b else if v.busy then-2 else-1
def ac9(x:aR)(r:ag)(L:ae En):Prop:=∃g a,r=sv g x.si.length a/\L=[x.sE,.row 3 1 g x.si.length a ((x.si.map zq).map ai),(x.bf 0).en]
theorem avu (x:aR) (hl:x.si.length<1000000):Fl Sv 27 [pt x.s].toArray [(x.bf 0).en,x.sE] (ac9 x):=by
 refine Fl.of 41 λt s=>(av [] (eR [0] (BZ x) ?_));rintro _ _ ⟨rfl,rfl⟩;refine av [0,.g,.x] (pC 3 1 ?_);refine ji (ι:=Nat×Option Nat×Nat) (λi=>x.si.length-i.1) (λi=>[(0,pt x.s),(3,sv i.2.1 i.1 i.2.2),(16,sv (some x.sb) x.si.length x.si.length),(17,goInt x.si.length),(18,goInt i.1)]) (λi=>[(x.bf 1).en,x.sE,.row 3 1 i.2.1 i.1 i.2.2 (((x.si.take i.1).map zq).map goInt)]) (λi=>i.1≤x.si.length) (0,none,0) (Nat.zero_le _) ?_;rintro⟨i,g,c⟩ n l;simp only at n l;by_cases aC:i<x.si.length
 ·obtain⟨v,k⟩:∃v,x.si[i]?=some v:=⟨_,List.getElem?_eq_getElem aC⟩
  have h:(x.si.flatMap ff.cells)[i*3]?=some (.bool v.busy):=gW ff.len x.si i 0 v aT k;have f:(x.si.flatMap ff.cells)[i*3+1]?=some (.bool v.holds):=gW ff.len x.si i 1 v aT k;have j:(x.si.flatMap ff.cells)[i*3+2]?=some (goInt v.b):=gW ff.len x.si i 2 v aT k;have d:∀e a,Rs Sv _ _ _ _ _:=λe a=>l (i+1,e,a) (by simp only;omega) aC;have p:((x.si.take (i+1)).map zq).map goInt=((x.si.take i).map zq).map goInt++[goInt (zq v)]:=by
   rw[List.take_add_one,k];simp
  simp only[p]at d;obtain⟨m,o,b⟩:=v;simp only at h f j;cases o with
  |true=>
   refine di (λ_=>[fu i x.si.length,iX 95 3 x.sb x.si.length aC,rr 1 h,rr 1 f,rr 1 j,3,3,3,3,3]) λz=>?_;refine kr (app1 55 2 4 i ah) ?_;rintro _ _ ⟨e,a,rfl,rfl⟩;refine av [aS i,.g,.x] (ey [3,4] ?_);exact cq (d (some e) a)
  |false=>
   cases m with
   |true=>
    refine di (λ_=>[fu i x.si.length,iX 95 3 x.sb x.si.length aC,rr 1 h,rr 1 f,rr 1 j,3,3,3,3,3]) λz=>?_;refine kr (app1 55 2 4 i ah) ?_;rintro _ _ ⟨e,a,rfl,rfl⟩;refine av [aS i,.g,.x] (ey [3,4] ?_);exact cq (d (some e) a)
   |false=>
    refine di (λ_=>[fu i x.si.length,iX 95 3 x.sb x.si.length aC,rr 1 h,rr 1 f,rr 1 j,3,3,3,3,3]) λz=>?_;refine kr (app1 55 2 4 i ah) ?_;rintro _ _ ⟨e,a,rfl,rfl⟩;refine av [aS i,.g,.x] (ey [3,4] ?_);exact cq (d (some e) a)
 ·have q:i=x.si.length:=by omega
  subst q;rw[List.take_length];refine av [gi x.si.length x.si.length] ?_;refine cM ([(x.bf 1).en]++[x.sE,.row 3 1 g x.si.length c ((x.si.map zq).map goInt)]) (du List.perm_append_comm ?_);exact zJ [sv g x.si.length c] [x.sE,.row 3 1 g x.si.length c ((x.si.map zq).map goInt)] [(x.bf 1).en] (AH rfl) λr f=>⟨g,c,rfl,by rw[f];rfl⟩
def OA(m:Int×Int×Int):ae ag:=[ai m.1,ai m.2.1,ai m.2.2]
def pU(a:bU Mk):Nat->ae (Int×Int×Int)
 |0=>[]
 |i+1=>pU a i++match iI a i with
  |some m=>[((i:Int),m.1,m.2)]
  |none=>[]
theorem aa5(a:bU Mk):∀i,(pU a i).length<=i
 |0=>dt _
 |i+1=>by
  have:=aa5 a i;simp only[pU,oe];split<;>simp only[jY,uI]<;>omega
def aa4(x:aR)(b:bU Mk)(c:Nat)(r:ag)(L:ae En):Prop:=∃g a,r=sv g (pU b x.ch.length).length a/\L=[x.mE b c,.row 116 3 g (pU b x.ch.length).length a ((pU b x.ch.length).flatMap OA),(x.bf 0).en]
theorem ap2 (x:aR) (ms:bU Mk) (km:Nat) (hl:x.ch.length<1000000):Fl Sv 28 [pt x.s].toArray [(x.bf 0).en,x.mE ms km] (aa4 x ms km):=by
 refine Fl.of 43 λo n=>(av [] (eR [0] (BZ x) ?_));rintro _ _ ⟨rfl,rfl⟩;refine av [0,.g,.x] (pC 116 3 ?_);refine ji (ι:=Nat×Option Nat×Nat) (λi=>x.ch.length-i.1) (λi=>[(0,pt x.s),(3,sv i.2.1 (pU ms i.1).length i.2.2),(18,goInt x.ch.length),(19,goInt i.1)]) (λi=>[(x.bf 1).en,x.mE ms km,.row 116 3 i.2.1 (pU ms i.1).length i.2.2 ((pU ms i.1).flatMap OA)]) (λi=>i.1≤x.ch.length) (0,none,0) (Nat.zero_le _) ?_;rintro⟨i,g,b⟩ h e;simp only at h e;by_cases aC:i<x.ch.length
 ·have j:=aa5 ms i
  have c:∀d a,Rs Sv _ _ _ _ _:=λd a=>e (i+1,d,a) (by simp only;omega) aC;simp only[pU]at c;cases hm:iI ms i with
  |none=>
   simp only[hm,List.append_nil]at c;refine di (λ_=>[fu i x.ch.length,0,vc 1 97 x.mb i Mk.v ms km _ hm,3,3,aS i,.g,.x]) λz=>ey [3] ?_;exact cq (c g b)
  |some m=>
   obtain⟨p,mt⟩:=m;simp only[hm,List.length_append,List.length_cons,List.length_nil,List.flatMap_append]at c;refine di (λ_=>[fu i x.ch.length,0,vc 1 97 x.mb i Mk.v ms km _ hm,3,3,3,3]) λz=>?_;refine kr (app1 57 2 4 (pU ms i).length ah) ?_;rintro _ _ ⟨d,a,rfl,rfl⟩;refine av [aS i,.g,.x] (ey [3,4] ?_);exact cq (c (some d) a)
 ·have k:i=x.ch.length:=by omega
  subst k;refine av [gi x.ch.length x.ch.length] ?_;refine cM ([(x.bf 1).en]++[x.mE ms km,.row 116 3 g (pU ms x.ch.length).length b ((pU ms x.ch.length).flatMap OA)]) (du List.perm_append_comm ?_);exact zJ [sv g (pU ms x.ch.length).length b] [x.mE ms km,.row 116 3 g (pU ms x.ch.length).length b ((pU ms x.ch.length).flatMap OA)] [(x.bf 1).en] (AH rfl) λl f=>⟨g,b,rfl,by rw[f];rfl⟩
theorem Fl.post{a:af ag}{d:ag->ae En->Prop}(h:Fl P f a L R)(j:∀v b,R v b->∃c,d v c/\b.Perm c):Fl P f a L d:=λg H i w e=>
 Fn.mono (h g H i w e) λv p⟨k,l,b,q3,m⟩=>by
  obtain⟨c,n,o⟩:=j v b q3;exact⟨k,l,c,n,m.perm (o.append_right _)⟩
theorem ayC (x:aR) (u:dT) (k:eG) (e4:Value) (n:Int) (a:Gc) (b a1 b1 a2 b2:Nat) (L0:List En) (Q:Int→List En→Prop) (hw:x.sw=u.w)
  (hf:∀z,Fl Sv 69 [pt z].toArray (gv z x.s::(x.bf 1).en::x.uE (u.by k)::L0) λv L=>∃r c,(v=goInt r∧Q r c)∧L=gv z x.s::(x.bf 1).en::c):
  Fl Sv 42 [pt x.s].toArray ((x.bf 0).en::x.uE (u.by k)::k.wE a1 b1::dE k.d x.s n false a2 b2::aQ 4 e4::gE a b::L0) λv L=>∃r c,v=.tuple #[.bool (r==1),.nilIface]∧Q r c∧
   L=aQ 4 e4::gE (a+1) (b+1)::k.wE (a1+1+1) (b1+1+1)::dE k.d x.s n false (a2+1+1) (b2+1+1)::(c++[(x.bf 0).en]):=by
 refine Fl.of 12 λm l=>?_;refine cF [(x.bf 0).en,x.uE (u.by k),k.wE a1 b1,dE k.d x.s n false a2 b2,aQ 4 e4,gE a b] L0 (di (λ_=>[7,6]) λz=>bE ?_);have f:=ayu (x.bf 1) u k z (z+1) n a b (a1+1) (b1+1) (a2+1) (b2+1) L0 (λr L=>∃c,Q r c∧L=(x.bf 1).en::c) hw ((hf z).post λv L⟨r,c,⟨f,g⟩,i⟩=>⟨L,⟨r,(x.bf 1).en::c,⟨f,c,g,rfl⟩,i⟩,.refl _⟩);have g:Fl Sv 68 [pt z,pt (z+1)].toArray ((x.bf 1).en::x.uE (u.by k)::k.wE (a1+1) (b1+1)::dE k.d x.s n false (a2+1) (b2+1)::gE a b::gv z x.s::iE (z+1) 0::L0) λv L=>∃e c,(v=.nilIface∧e.s=x.s∧(e=x∧∃r d,Q r d∧c=iE (z+1) r::gE (a+1) (b+1)::k.wE (a1+1+1) (b1+1+1)::dE k.d x.s n false (a2+1+1) (b2+1+1)::gv z x.s::d))∧L=(e.bf 1).en::c:=by
  refine(f.perm ((xJ (is:=[6,4,2,3,5,0,1]) (L:=[(x.bf 1).en,x.uE (u.by k),k.wE (a1+1) (b1+1),dE k.d x.s n false (a2+1) (b2+1),gE a b,gv z x.s,iE (z+1) 0])
   (L0:=[iE (z+1) 0,gE a b,k.wE (a1+1) (b1+1),dE k.d x.s n false (a2+1) (b2+1),gv z x.s,(x.bf 1).en,x.uE (u.by k)]) (Lr:=[]) al).append_right L0)).post ?_
  rintro v _ ⟨j,r,_,⟨d,h,rfl⟩,rfl⟩;exact⟨_,⟨x,_,⟨j,rfl,rfl,r,d,h,rfl⟩,rfl⟩,List.perm_middle (l₁:=[_,_,_,_,_])⟩
 refine lW [] _ (Jl x u k ⟨#[83,119,101,101,112]⟩ 0 e4 z (z+1) 0 n a1 b1 a2 b2 (gE a b::gv z x.s::iE (z+1) 0::L0) _ hw (.inr ⟨rfl,rfl⟩) none g) ?_;rintro _ _ ⟨rfl,e,c,⟨rfl,r,d,h,rfl⟩,rfl⟩;refine cM ([aQ 4 e4,iE (z+1) r,gE (a+1) (b+1),k.wE (a1+1+1) (b1+1+1),dE k.d e.s n false (a2+1+1) (b2+1+1),gv z e.s]++(d++[(e.bf 0).en])) (cF _ _ (av [1,.d] (ey [1,5] (bE ?_))));exact ez [.bool (r==1),.nilIface] _ ⟨r,d,rfl,h,rfl⟩
theorem Fl.frame{a:af ag}(A:ae En)(h:Fl P f a L R):Fl P f a (A++L) λv c=>∃b,R v b/\c=A++b:=λd H g w e=>
 Fn.mono (h (A++d) H (g.perm (by rw[<-iL];exact List.perm_append_comm.append_right _)) w e) λv l⟨i,j,b,q3,k⟩=>⟨i,j,A++b,⟨b,q3,F⟩,k.perm (by rw[<-iL];exact List.perm_append_comm.append_right _)⟩
theorem arS (x:aR) (y:c5) (u:dT) (k0 k:eG) (i:Nat) (e4:Value) (n:Int) (a:Gc) (b a0 b0 a1 b1 a2 b2:Nat) (L0:List En) (Q:Int→aR→List En→Prop) (hw:x.sw=u.w) (hd:k.d=k0.d) (hl:x.cl.length<1000000) (hi:x.cl[i]?=some y.c)
  (hf:∀q,Fl Sv 67 [pt q].toArray (.ob q (.cells #[pt y.c] 149)::x.kE (y.by k)::(x.bf 1).en::L0) λv L=>∃r c f,(v=goInt r∧c.s=x.s∧Q r c f)∧L=.ob q (.cells #[pt y.c] 149)::(c.bf 1).en::f):
  Fl Sv 41 [pt x.s,goInt i].toArray ((x.bf 0).en::x.uE (u.by k0)::k0.wE a0 b0::dE k0.d x.s n false a2 b2::aQ 4 e4::gE a b::x.lE::k.wE a1 b1::x.kE (y.by k)::L0) λv L=>∃r c f,v=.tuple #[goInt r,.nilIface]∧c.s=x.s∧Q r c f∧
   L=aQ 4 e4::x.uE (u.by k0)::k0.wE (a0+1) (b0+1)::x.lE::gE (a+1) (b+1)::k.wE (a1+1) (b1+1)::dE k0.d x.s n false (a2+1+1) (b2+1+1)::(f++[(c.bf 0).en]):=by
 obtain⟨e,d,A⟩:=k;simp only at hd;subst hd;refine Fl.of 14 λw t=>?_;refine cF [(x.bf 0).en,x.uE (u.by k0),k0.wE a0 b0,dE k0.d x.s n false a2 b2,aQ 4 e4,gE a b,x.lE,eG.wE ⟨e,d,k0.d⟩ a1 b1,x.kE (y.by ⟨e,d,k0.d⟩)] L0 (di (λ_=>[11,9,10]) λz=>bE ?_);have j:=(arL (x.bf 1) y ⟨e,d,k0.d⟩ i (z+1) z (z+2) n a b a1 b1 (a2+1) (b2+1) L0 (λr L=>∃c f,c.s=x.s∧Q r c f∧L=(c.bf 1).en::f) hl hi λq=>(hf q).post λv L⟨r,c,f,⟨j,l,o⟩,p⟩=>⟨L,⟨r,(c.bf 1).en::f,⟨j,c,f,l,o,rfl⟩,p⟩,.refl _⟩).frame [x.uE (u.by k0),k0.wE (a0+1) (b0+1)];have l:Fl Sv 65 [pt (z+1),pt z,pt (z+2)].toArray ((x.bf 1).en::x.uE (u.by k0)::k0.wE (a0+1) (b0+1)::dE k0.d x.s n false (a2+1) (b2+1)::gE a b::x.lE::eG.wE ⟨e,d,k0.d⟩ a1 b1::x.kE (y.by ⟨e,d,k0.d⟩)::gv z x.s::iE (z+1) i::iE (z+2) 0::L0) λv L=>∃c f,(v=.nilIface∧c.s=x.s∧(c.s=x.s∧∃r g,Q r c g∧f=x.uE (u.by k0)::k0.wE (a0+1) (b0+1)::iE (z+1) i::gv z x.s::iE (z+2) r::x.lE::gE (a+1) (b+1)::eG.wE ⟨e,d,k0.d⟩ (a1+1) (b1+1)::dE k0.d x.s n false (a2+1+1) (b2+1+1)::g))∧L=(c.bf 1).en::f:=by
  refine(j.perm ((xJ (is:=[1,2,9,8,10,5,4,6,3,7,0]) (L:=[(x.bf 1).en,x.uE (u.by k0),k0.wE (a0+1) (b0+1),dE k0.d x.s n false (a2+1) (b2+1),gE a b,x.lE,eG.wE ⟨e,d,k0.d⟩ a1 b1,x.kE (y.by ⟨e,d,k0.d⟩),gv z x.s,iE (z+1) i,iE (z+2) 0])
   (L0:=[x.uE (u.by k0),k0.wE (a0+1) (b0+1),iE (z+1) i,gv z x.s,iE (z+2) 0,x.lE,gE a b,eG.wE ⟨e,d,k0.d⟩ a1 b1,dE k0.d x.s n false (a2+1) (b2+1),x.kE (y.by ⟨e,d,k0.d⟩),(x.bf 1).en]) (Lr:=[]) al).append_right L0)).post ?_
  rintro v _ ⟨_,⟨s,r,_,⟨c,g,h,m,rfl⟩,rfl⟩,rfl⟩;exact⟨_,⟨c,_,⟨s,h,h,r,g,m,rfl⟩,rfl⟩,List.perm_middle (l₁:=[_,_,_,_,_,_,_,_,_])⟩
 refine cM ([(x.bf 0).en,x.uE (u.by k0),k0.wE a0 b0,dE k0.d x.s n false a2 b2,aQ 4 e4]++(gE a b::x.lE::eG.wE ⟨e,d,k0.d⟩ a1 b1::x.kE (y.by ⟨e,d,k0.d⟩)::gv z x.s::iE (z+1) i::iE (z+2) 0::L0)) ?_;refine lW [] _ (Jl x u k0 ⟨#[80,105,99,107]⟩ i e4 (z+1) z (z+2) n a0 b0 a2 b2 (gE a b::x.lE::eG.wE ⟨e,d,k0.d⟩ a1 b1::x.kE (y.by ⟨e,d,k0.d⟩)::gv z x.s::iE (z+1) i::iE (z+2) 0::L0) _ hw (.inl ⟨.inl rfl,rfl⟩) none l) ?_;rintro _ _ ⟨rfl,c,_,⟨h,r,g,m,rfl⟩,rfl⟩;refine cM ([aQ 4 e4,x.uE (u.by k0),k0.wE (a0+1) (b0+1),iE (z+1) i,gv z x.s,iE (z+2) r,x.lE,gE (a+1) (b+1),eG.wE ⟨e,d,k0.d⟩ (a1+1) (b1+1),dE k0.d x.s n false (a2+1+1) (b2+1+1)]++(g++[(c.bf 0).en])) (cF _ _ (av [5] (ey [3,4,5] (bE ?_))));exact ez [goInt r,.nilIface] _ ⟨r,c,g,rfl,h,m,rfl⟩
theorem arO (x:aR) (u:dT) (k0:eG) (i:Int) (te:TypeId) (e4 er:Value) (n:Int) (a0 b0 a2 b2:Nat) (hw:x.sw=u.w) (h:i<0∨i≥x.cl.length):Fl Sv 41 [pt x.s,goInt i].toArray [(x.bf 0).en,x.uE (u.by k0),k0.wE a0 b0,dE k0.d x.s n false a2 b2,aQ 4 e4,aQ 3 (.iface te er)] λv L=>∃q,v=.tuple #[goInt 0,.iface 154 (pt q)]∧
                                                                                                                                   L=[aQ 4 e4,iM q ⟨#[80,105,99,107]⟩ i (.iface te er),x.uE (u.by k0),k0.wE (a0+1) (b0+1),dE k0.d x.s n false (a2+1) (b2+1),aQ 3 (.iface te er),(x.bf 0).en]:=by
 refine Fl.of 14 λg f=>di (λ_=>[8,6,7]) λz=>?_;have c:=(arK (x.bf 1) i (z+1) z (z+2) (.iface te er) h).frame [x.uE (u.by k0),k0.wE (a0+1) (b0+1),dE k0.d x.s n false (a2+1) (b2+1),iE (z+2) 0];have d:Fl Sv 65 [pt (z+1),pt z,pt (z+2)].toArray [(x.bf 1).en,x.uE (u.by k0),k0.wE (a0+1) (b0+1),dE k0.d x.s n false (a2+1) (b2+1),aQ 3 (.iface te er),gv z x.s,iE (z+1) i,iE (z+2) 0] λv L=>∃a b,(v=.iface te er∧a.s=x.s∧(a=x∧b=[x.uE (u.by k0),k0.wE (a0+1) (b0+1),dE k0.d x.s n false (a2+1) (b2+1),iE (z+2) 0,iE (z+1) i,gv z x.s,aQ 3 (.iface te er)]))∧L=(a.bf 1).en::b:=by
  refine(c.perm (xJ (is:=[1,2,3,7,6,5,0,4]) (L:=[(x.bf 1).en,x.uE (u.by k0),k0.wE (a0+1) (b0+1),dE k0.d x.s n false (a2+1) (b2+1),aQ 3 (.iface te er),gv z x.s,iE (z+1) i,iE (z+2) 0])
   (L0:=[x.uE (u.by k0),k0.wE (a0+1) (b0+1),dE k0.d x.s n false (a2+1) (b2+1),iE (z+2) 0,iE (z+1) i,gv z x.s,(x.bf 1).en,aQ 3 (.iface te er)]) (Lr:=[]) al)).post ?_
  rintro v _ ⟨_,⟨e,rfl⟩,rfl⟩;exact⟨_,⟨x,_,⟨e,rfl,rfl,rfl⟩,rfl⟩,List.perm_middle (l₁:=[_,_,_,_,_,_])⟩
 refine lW [] _ (Jl x u k0 ⟨#[80,105,99,107]⟩ i e4 (z+1) z (z+2) n a0 b0 a2 b2 [aQ 3 (.iface te er),gv z x.s,iE (z+1) i,iE (z+2) 0] _ hw (.inl ⟨.inl rfl,rfl⟩) (some (te,er)) d) ?_;rintro _ _ ⟨q,rfl,a,_,⟨rfl,rfl⟩,rfl⟩;exact av [5] (cU [5,6,7] [goInt 0,.iface 154 (pt q)] _ ⟨q,rfl,rfl⟩)
def qO(a:Nat)(k:Int):aj Nat:=if k=2\/k=3\/k=4 then Z a else if k=1\/k=5\/k=6 then Z 1 else I
def K4(v:ByteArray):Bool:=!(v.toList==(⟨#[]⟩:ByteArray).toList)
def oN(a:Nat)(o:Bool)(p:Stp):Bool:=match qO a p.kind with
 |none=>Y
 |some n=>!(decide (p.kind=1)==o)&&!decide (p.key<0)&&!decide (p.key>=n)&&!decide ((p.val.size:Int)>16)&&!(p.kind !=3&&K4 p.val)
def OK(p:Stp):Bool:=p.kind !=5&&p.kind !=6
def sZ(a:Nat):Bool->ae Stp->Bool
 |_,[]=>U
 |o,p::l=>oN a o p&&sZ a (OK p) l
def bK(g:aj Nat)(a:Nat)(b:ae Stp):En:=.row 50 3 g b.length a (b.flatMap Stp.cells)
def acJ(x:aR)(g:aj Nat)(a:Nat)(b:ae Stp)(r:ag)(L:ae En):Prop:=r=.bool (sZ x.ch.length Y b&&decide ((b.length:Int)<=200))/\L=[x.en,bK g a b]
theorem Pe (x:aR) (g:Option Nat) (cap:Nat) (pr:List Stp) (hl:pr.length≤4398046511104):Fl Sv 59 [pt x.s,sv g pr.length cap].toArray [x.en,bK g cap pr] (acJ x g cap pr):=by
 refine Fl.of 72 λH G=>av [.g,.x] ?_;refine ji (ι:=Nat×Bool) (λi=>pr.length-i.1) (λi=>[(0,pt x.s),(1,sv g pr.length cap),(5,.bool i.2),(9,sv g pr.length cap),(10,goInt pr.length),(11,goInt i.1)]) (λ_=>[x.en,bK g cap pr]) (λi=>i.1≤pr.length∧sZ x.ch.length false pr=sZ x.ch.length i.2 (pr.drop i.1)) (0,false) ⟨Nat.zero_le _,rfl⟩ ?_;rintro⟨i,o⟩ ⟨C,l⟩ u;simp only at C l u;by_cases aC:i<pr.length
 ·obtain⟨p,n⟩:∃p,pr[i]?=some p:=⟨_,List.getElem?_eq_getElem aC⟩
  have w:pr.drop i=p::pr.drop (i+1):=by
   rw[List.drop_eq_getElem_cons aC];congr 1;exact Option.some.inj ((List.getElem?_eq_getElem aC).symm.trans n)
  rw[w,sZ]at l;have r:(pr.flatMap Stp.cells)[i*3]?=some (goInt p.kind):=gW Stp.len pr i 0 p aT n;have s:(pr.flatMap Stp.cells)[i*3+1]?=some (goInt p.key):=gW Stp.len pr i 1 p aT n;have t:(pr.flatMap Stp.cells)[i*3+2]?=some (.string p.val):=gW Stp.len pr i 2 p aT n;refine lJ 1 g pr.length cap ah λq B _=>?_;subst B;have d:oN x.ch.length o p=false→acJ x (some q) cap pr (.bool false) [x.en,bK (some q) cap pr]:=λh=>⟨by rw[l,h];rfl,rfl⟩;have m:oN x.ch.length o p=true→∀b,OK p=b→_:=λh b A=>u (i+1,b) (by simp only;omega) ⟨aC,by rw[l,h,A];rfl⟩;obtain⟨c,a,j⟩:=p;simp only at r s t;refine di (λ_=>[fu i pr.length,iX 45 3 q cap aC,rr 1 r,rr 1 s,rr 1 t,2,2,2,2,.x]) λz=>?_;by_cases y:c=3∨c=2∨c=4
  ·rcases y with rfl|rfl|rfl
   refine av [.d,.d,.x] ?_
   rotate_left
   refine av [.d,.x] ?_
   rotate_left
   refine av [.d,.d,.d,.x] ?_
   rotate_left
   all_goals
    refine av [0,2,.d,.x] ?_;cases o
    ·exact av [.d] (cU [2] [.bool false] _ (d (by simp[oN,qO])))
    refine av [.d,2,.x] ?_;by_cases e:a<0
    ·exact av [bT e] (cU [2] [.bool false] _ (d (by simp[oN,qO,e])))
    refine av [bF e,2,.x] ?_;by_cases k:a≥(x.ch.length:Int)
    ·exact av [bT k] (cU [2] [.bool false] _ (d (by simp[oN,qO,k])))
    refine av [bF k,2,.x] ?_;by_cases f:(j.size:Int)>16
    ·exact av [bT f] (cU [2] [.bool false] _ (d (by simp[oN,qO,f])))
    refine av [bF f,2,.d,2,.x] ?_
   ·exact av [.d,2,.d,aS i,.g,.x] (ey [2] (cq (m (by simp[oN,qO,e,k,f]) _ rfl)))
   all_goals
    cases h4:K4 j
    ·exact av [bB h4,2,.d,2,.d,aS i,.g,.x] (ey [2] (cq (m (by simp[oN,qO,e,k,f,h4]) _ rfl)))
    ·exact av [bB h4] (cU [2] [.bool false] _ (d (by simp[oN,qO,h4])))
  by_cases D:c=5∨c=6∨c=1
  ·rcases D with rfl|rfl|rfl
   refine av [.d,.d,.d,.d,.d,2,.d,.x] ?_
   rotate_left
   refine av [.d,.d,.d,.d,.d,.d,2,.d,.x] ?_
   rotate_left
   refine av [.d,.d,.d,.d,2,.d,.x] ?_;cases o
   rotate_left
   ·exact av [.d] (cU [2] [.bool false] _ (d (by simp[oN,qO])))
   iterate 2
    cases o
    ·exact av [.d] (cU [2] [.bool false] _ (d (by simp[oN,qO])))
    rotate_left
   rotate_left
   all_goals
    refine av [.d,2,.x] ?_;by_cases e:a<0
    ·exact av [bT e] (cU [2] [.bool false] _ (d (by simp[oN,qO,e])))
    refine av [bF e,2,.x] ?_;by_cases k:a≥((1:Nat):Int)
    ·exact av [bT k] (cU [2] [.bool false] _ (d (by simp[oN,qO,show¬a<1 by omega])))
    have v:a<1:=by omega
    refine av [bF k,2,.x] ?_;by_cases f:(j.size:Int)>16
    ·exact av [bT f] (cU [2] [.bool false] _ (d (by simp[oN,qO,f])))
    refine av [bF f,2,.d,2,.x] ?_;cases h3:K4 j
    rotate_left
    ·exact av [bB h3] (cU [2] [.bool false] _ (d (by simp[oN,qO,h3])))
    refine av [bB h3,2,.d,.x] ?_
   ·exact av [aS i,.g,.x] (ey [2] (cq (m (by simp[oN,qO,e,v,f,h3]) _ rfl)))
   all_goals exact av [2,.d,aS i,.g,.x] (ey [2] (cq (m (by simp[oN,qO,e,v,f,h3]) _ rfl)))
  exact av [ie c 2,ie c 3,ie c 4,ie c 1,ie c 5,ie c 6] (cU [2] [.bool false] _ (d (by simp only[oN,qO];rw[if_neg ah,if_neg ah])))
 ·have E:i=pr.length:=by omega
  subst E;rw[List.drop_length,sZ]at l;exact av [gi pr.length pr.length,.d] (ez [.bool (decide ((pr.length:Int)≤200))] _ ⟨by rw[l];rfl,rfl⟩)
section
open Go.Conc (G)
section
variable {P:aD}{X:Cx}{V:ae aJ}{O:ae cz}{W:Env}{L:ae En}
theorem Wn(os:ae (ae Nat))(h:∀o∈os,Rs P X (.inRegion (iD V) o::tQ V) O W L)(c:(FF V,zT .any (iD V) (iD V).size (qa (iD V).size Y))=(U,os):=by kernel_rfl)(j:P.follows .mixedOrders=U:=by kernel_rfl):Rs P X V O W L:=λd a H l g w e=>by
 subst e;simp only[fN]at c;obtain⟨f,b⟩:=c;obtain⟨id,ops,k,rfl⟩:=KH f;simp only[iD,tQ]at h b;refine Rh.steps (.one (fe (G5 j w))) F F ?_;exact h _ (b▸Ps ops _) d a w.heap l g
theorem rX{N:Nat}{A:ae aA}{j:ae En}{R:ag->ae En->Prop}(M:ae Nat)(a t b:Nat)(v:ag)(y:ae (Aw P))(o:ae En)(h:R v o)(hL:left M L=o:=by kernel_rfl)(ho:(outs M L).isSome=U:=by kernel_rfl)
  (m:(DG V,O.length,(P.funcs[f]?).map (λl=>l.results.toList),lk W a)=(U,0,iQ [.cell a t],iQ (pt b)):=by kernel_rfl)
  (hs:((sE P (loadVar t ⟨b,0,I⟩) .r L y []).map λq=>(q.1,q.2.2.2.2))=iQ (v,match sE P (loadVar t ⟨b,0,I⟩) .r L y []with
    |iQ q=>q.2.2.2.2.map Pr.rf
    |none=>[]):=by kernel_rfl):Rs P (fx P f N A j R) V O W L:=λbj d H ht C w e=>by
 subst e;simp only[fN]at m;obtain⟨h1,h2,h3,h4⟩:=m;obtain⟨l,h5,h6⟩:=fX.1 h3;have hd:O=[]:=zC h2;subst hd;obtain⟨⟨n,z,L1,gm,ps⟩,r,s⟩:=fX.1 hs;rw[r]at s;simp only[fN]at s;obtain⟨rfl,h9⟩:=s;have B:=zh h9;have u:∀c:ax,c.heap=w.heap->(results l d).run P c=.ok n c:=λc p=>by
  have S:(loadVar t ⟨b,0,I⟩).run P c=.ok n c:=by
   have g:Kn (L++j) c.heap:=by rw[p];exact C
   obtain⟨w1,G,_⟩:=AS _ _ _ _ _ j _ _ _ _ _ c r B g (λx hx=>by cases hx);obtain⟨rfl,_⟩:=F7 _ _ _ _ _ c w1 r G g.left B;exact G
  unfold results;rw[fK,Array.mapM_eq_mapM_toList,h6];have iN:d.getD a aB=pt b:=ht.get a _ h4;simp only[List.mapM_cons,List.mapM_nil,iN];have Q:bP P (do loadVar t (<-asAddr (pt b))) c=.ok n c:=S;rw[Sem.run_map];erw [fK,Q];simp only[fy];rfl
 refine Rh.steps (.one (Jx h1 A w)) F F (.done ⟨F,n,λc p=>⟨F,F,F,l,h5,?_⟩,o,h,?_⟩)
 ·exact u c p
 ·obtain⟨⟨x1,x2⟩,D⟩:=A7.1 ho
  have hl:left M L=x2:=by unfold left;rw[D]
  have g:=C.perm ((xJ D).append_right j);rw[iL]at g;rw[<-hL,hl];exact⟨λe m=>g.sat e (IK _ m),(CH.1 g.nd).2.1⟩
end
@[reducible] def Mi(p:Nat->Prop):ae Nat->Prop
 |[]=>True
 |i::l=>p i/\Mi p l
theorem QU{p:Nat->Prop}:∀{l:ae Nat}{i:Nat},Mi p l->i∈l->p i
 |_::_,_,h,a=>(bM.1 a).elim (λe=>e▸h.1) λa=>QU h.2 a
def df(P:aD)(X:Cx)(ops:af bq)(k:ae aJ)(a:ae En->Prop):Nat->af Bool->ae cz->Env->ae En->Prop
 |0,l,O,W,L=>nK .any ops l=[]/\Rs P X k O W L
 |n+1,l,O,W,L=>nK .any ops l≠[]/\∀i∈nK .any ops l,l5 P X ops i O W L λO W L=>a L/\df P X ops k a n (l.setIfInBounds i U) O W L
section
variable {P:aD}{X:Cx}{ops:af bq}{k:ae aJ}{os:Os}{out:af (Nat×ByteArray)}
theorem aem(p:X.kind≠.early){Rk:ae En->Prop}{S:ax->Prop}(j:∀L w,Rk L->Kn (L++X.L2) w.heap->S w):∀(n:Nat)(l:af Bool)(O:ae cz)(W:Env)(L:ae En)(a:Act)(w:ax),S w->df P X ops k Rk n l O W L->gK X.N W a.tmps->a.defers=O->Kn (L++X.L2) w.heap->w.os=os->w.output=out->wpAnyH P .any ops (q0 P X k os out) S n l a w
 |0,l,O,W,L,a,w,t,h,c,d,e,f,g=>wpAnyH_done h.1 ((Fl.nil (ops:=ops) h.2) os out a w p c d e f g) 0
 |n+1,l,O,W,L,a,w,t,h,c,d,e,f,g=>
  wpAnyH_all (rs:=nK .any ops l) F h.1 λi s=>wpOp_mono (λr o⟨B,u,b,⟨q,v⟩,x,y,m,z,A⟩=>⟨j b o q m,aem p j n _ B u b r o (j b o q m) v x y m (z.trans f) (A.trans g)⟩) (h.2 i s _ a w c d e)
theorem eM(r:ae Nat){a:ae En->Prop}{n:Nat}{l:af Bool}{O:ae cz}{W:Env}{L:ae En}(h:Mi (λi=>l5 P X ops i O W L λO W L=>a L/\df P X ops k a n (l.setIfInBounds i U) O W L) r)(f:(nK .any ops l,r.isEmpty)=(r,Y):=by kernel_rfl):df P X ops k a (n+1) l O W L:=by
 simp only[fN]at f;obtain⟨b,c⟩:=f;unfold df;refine⟨λe=>?_,λi d=>?_⟩
 ·rw[<-b,e]at c
  cases c
 rw[b]at d;exact QU h d
theorem wT{a:ae En->Prop}{l:af Bool}{O:ae cz}{W:Env}{L:ae En}(h:Rs P X k O W L)(b:nK .any ops l=[]:=by kernel_rfl):df P X ops k a 0 l O W L:=⟨b,h⟩
end
section
variable {P:aD}{X:Cx}{V:ae aJ}{O:ae cz}{W:Env}{L:ae En}
def G4(ops:af bq)(M:ae Nat):Bool:=Em ops&&wB .any ops ops.size M (qa ops.size Y)
theorem Qb(M:ae Nat)(n:Nat)(b:ae (Aw P))
  (l:df P X (iD V) (tQ V) (lA P X.N (iD V) L M b W) n (marks M (qa (iD V).size Y)) O (xN (iD V) M (oa P X.N (iD V) L M b W) W) L)
  (z:P.follows .mixedOrders=U:=by kernel_rfl)
  (u:(FF V,G4 (iD V) M,n+M.length)=(U,U,(iD V).size):=by kernel_rfl)
  (m:gY P X.N (iD V) L M b W=(iQ (oa P X.N (iD V) L M b W),U,(gY P X.N (iD V) L M b W).2.2.map Pr.rf):=by kernel_rfl):Rs P X V O W L:=λx j H A q w e=>by
 subst e;simp only[fN]at u;obtain⟨p,g,t⟩:=u;obtain⟨id,ops,k,rfl⟩:=KH p;unfold lA at l;simp only[iD,tQ]at g t m l;generalize oa P X.N ops L M b W=o at m l;simp only[_root_.Go.Proofs.YtgahemdblfapeaaGreatDoor.G4,gT]at g;obtain⟨B,C⟩:=g;refine Rn.code ?_;let S:ax->Prop:=λw=>∃d,Kn (d++X.L2) w.heap/\gY P X.N ops d M b W=(iQ o,U,(gY P X.N ops d M b W).2.2.map Pr.rf);have y:∀w,S w->zP P X.N ops X.L2 M W o w:=λw⟨d,r,s⟩=>O9 s r;have H:=LI (P:=P) (Q:=q0 P X k w.os w.output) (md:=.any) (f:=n) (S:=S) (λc a D w h=>by cases h.1) B M (qa ops.size Y) ⟨j,O⟩ W o {w with drawn:=w.drawn+1} A y C ⟨L,q,m⟩ λv p g=>aem (os:=w.os) (out:=w.output) x (Rk:=λd=>gY P X.N ops d M b W=(iQ o,U,(gY P X.N ops d M b W).2.2.map Pr.rf)) (λd G r s=>⟨d,s,r⟩) n _ O _ L v {w with drawn:=w.drawn+1} ⟨L,q,m⟩ l p g q F F;refine wp_region_held (S:=S) z ?_;rwa[t]at H
end
section
variable {P:aD}{X:Cx}{ops:af bq}{i:Nat}{O:ae cz}{W J:Env}{L E:ae En}{M:ae Nat}{K:ae (Aw P)}{T:ae cz->Env->ae En->Prop}
theorem lY(a:ae (Aw P))(h:T (ir P X.N ops O W L i a .w).ds (ir P X.N ops O W L i a .w).env (ir P X.N ops O W L i a .w).L)
 (b:gY P X.N ops (ir P X.N ops O W L i a .w).L M K J=(Z (oa P X.N ops E M K J),U,(gY P X.N ops (ir P X.N ops O W L i a .w).L M K J).2.2.map Pr.rf):=by kernel_rfl)
 (c:(ir P X.N ops O W L i a .w).pr=(ir P X.N ops O W L i a .w).rf:=by kernel_rfl):l5 P X ops i O W L λO W L=>lA P X.N ops E M K J L/\T O W L:=l5.ev a ⟨b,h⟩ c
theorem lf(a:Nat->ae (Aw P))(h:∀z,T (ir P X.N ops O W L i (a z) (.n z)).ds (ir P X.N ops O W L i (a z) (.n z)).env (ir P X.N ops O W L i (a z) (.n z)).L)
 (b:∀z,gY P X.N ops (ir P X.N ops O W L i (a z) (.n z)).L M K J=(Z (oa P X.N ops E M K J),U,(gY P X.N ops (ir P X.N ops O W L i (a z) (.n z)).L M K J).2.2.map Pr.rf):=by intro z;kernel_rfl)
 (c:∀z,(ir P X.N ops O W L i (a z) (.n z)).pr=(ir P X.N ops O W L i (a z) (.n z)).rf:=by intro z;kernel_rfl):l5 P X ops i O W L λO W L=>lA P X.N ops E M K J L/\T O W L:=l5.new a (λz=>⟨b z,h z⟩) c
theorem Ew{Q:ag->ae En->Prop}(b:lU P X.L2 L s Q)(h:∀v a,Q v a->lA P X.N ops E M K J a/\T O (pe W (sn ops i) v) a)(c:(Bp ops W i,fits X.N (sn ops i))=(Z s,U):=by kernel_rfl):l5 P X ops i O W L λO W L=>lA P X.N ops E M K J L/\T O W L:=l5.op b h c
theorem Gx(b:ae Nat){d:ae En}{a:af ag}{R:ag->ae En->Prop}(g:Fl P f a d R)(h:∀v c,R v c->lA P X.N ops E M K J (fill b c L)/\T O (pe W (sn ops i) v) (fill b c L))
  (e:outs b L=Z (d,left b L):=by kernel_rfl)
  (j:((Bp ops W i).bind (λs=>(sE P s .r [] [] []).map λq=>(q.1,q.2.2.2.2)),fits X.N (sn ops i))=(Z (.enter f a,[]),U):=by kernel_rfl):l5 P X ops i O W L λO W L=>lA P X.N ops E M K J L/\T O W L:=
 Qa g (xJ e) (λ_=>Ni e) h j
end
end
section
open Go.Conc (G)
def hE(v:ag)(a b:Nat):En:=MV dO 6 v a b
def OX:ae (ae Nat):=[[0,1,2,3,4],[0,1,3,2,4],[0,3,1,2,4],[1,0,2,3,4],[1,0,3,2,4],[1,3,0,2,4],[3,0,1,2,4],[3,1,0,2,4]]
theorem Iz(x:aR)(u:dT)(f:eG)(n:Int)(a:Gc)(b c d a0 h g i:Nat)(l:x.sw=u.w)(q:0<=n/\n<9):Fl Sv 55 [pt x.s].toArray [gE a b,hE (.chan I) c d,x.en,x.uE (u.by f),f.wE a0 h,dE f.d x.s n Y g i] λv L=>∃k:eG,k.d=f.d/\v=k.v/\L=[gE (a+1) (b+1),hE (.chan I) (c+1) (d+1),x.en,x.uE (u.by f),f.wE (a0+1) (h+1),dE f.d x.s (n+1) Y (g+1) (i+1),k.wE 1 0]:=by
 obtain⟨w,r,nx,t,s⟩:=u;simp only at l;subst l;refine Fl.of 13 λp m=>av [] (lX 0 (gL 0 (lX 1 (gL 1 (av [.d,2,3] (lX 4 (gL 4 (av [] (lX 5 (av [G6 (tm 11) (tm 0) x.s,fu n 9,aI (n+1) (n+1) ah] (gL 5 ?_)))))))))));refine di (λ_=>[]) λz=>?_;refine Wn OX λo j=>?_;simp only[OX,bM,gV,or_false]at j;rcases j with rfl|rfl|rfl|rfl|rfl|rfl|rfl|rfl
 ·exact di (λ_=>[]) λe=>gL 8 (av [7,7] (rX [6,7,9,10] 2 142 (z+1) _ [7,7] _ ⟨⟨e,(e+1),f.d⟩,F,F,F⟩))
 ·exact di (λ_=>[]) λe=>gL 8 (av [7,7] (rX [6,7,9,10] 2 142 (z+1) (eG.v ⟨e,(e+1),f.d⟩) [7,7] _ ⟨⟨e,(e+1),f.d⟩,F,F,F⟩))
 ·exact di (λ_=>[]) λe=>gL 8 (av [7,7] (rX [6,7,9,10] 2 142 (z+1) (eG.v ⟨e,(e+2),f.d⟩) [7,7] _ ⟨⟨e,(e+2),f.d⟩,F,F,F⟩))
 ·exact di (λ_=>[]) λe=>gL 9 (av [7,7] (rX [6,7,8,10] 2 142 (z+1) (eG.v ⟨(e+1),e,f.d⟩) [7,7] _ ⟨⟨(e+1),e,f.d⟩,F,F,F⟩))
 ·exact di (λ_=>[]) λe=>gL 9 (av [7,7] (rX [6,7,8,10] 2 142 (z+1) (eG.v ⟨(e+1),e,f.d⟩) [7,7] _ ⟨⟨(e+1),e,f.d⟩,F,F,F⟩))
 ·exact di (λ_=>[]) λe=>gL 10 (av [7,7] (rX [6,7,8,9] 2 142 (z+1) (eG.v ⟨(e+2),e,f.d⟩) [7,7] _ ⟨⟨(e+2),e,f.d⟩,F,F,F⟩))
 ·exact di (λ_=>[]) λe=>gL 9 (av [7,7] (rX [6,7,8,10] 2 142 (z+1) (eG.v ⟨(e+1),(e+2),f.d⟩) [7,7] _ ⟨⟨(e+1),(e+2),f.d⟩,F,F,F⟩))
 ·exact di (λ_=>[]) λe=>gL 10 (av [7,7] (rX [6,7,8,9] 2 142 (z+1) (eG.v ⟨(e+2),(e+1),f.d⟩) [7,7] _ ⟨⟨(e+2),(e+1),f.d⟩,F,F,F⟩))
end
end
end Go.Proofs.YtgahemdblfapeaaGreatDoor
