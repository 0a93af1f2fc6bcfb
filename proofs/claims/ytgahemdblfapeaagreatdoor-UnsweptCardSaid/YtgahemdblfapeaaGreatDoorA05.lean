/- Helper lemmas, part 5: what the steps of the program do in the model; each holds under its own hypotheses. -/
import Derived.Test.YtgahemdblfapeaaGreatDoorA02
set_option maxRecDepth 100000
set_option maxHeartbeats 4000000
set_option linter.all false
namespace Go.Proofs.YtgahemdblfapeaaGreatDoor
open Go.Conc
open _root_.Array renaming ext_getElem?→yI,getD_eq_getD_getElem?→nk,getElem?_eq_some_iff→gG,getElem?_modify→Fs,getElem?_push→Ft,getElem?_setIfInBounds→tJ,getElem?_setIfInBounds_ne→ie,getElem?_setIfInBounds_self_of_lt→kC,getElem?_toList→w7,replicate→pG,size_setIfInBounds→pH
open _root_.Bool renaming and_eq_true→ig,false→Y,false_eq_true→kg,true→U
open _root_.Classical renaming byContradiction→Ko
open Go renaming Addr→aR,CallKind→dD,Code→bl,Deferred→bV,Frame→az,Func→dF,FuncId→bA,Item→aK,Oper→bh,Operand→gU,Program→aA,TypeId→aJ,Value→ag,World→au,eqGuard→kX,execOp→cu,getObj→jZ,goInt→ah,stepG→aG,undef→aC
open Go.Frame renaming enter→bG,eval→bJ,finish→jd
open Go.Instr renaming sliceAt→vF,sliceBound→xa
open Go.Next renaming value→lT
open Go.Proofs.Tryz renaming prog→ak
open Go.Region renaming noSelect→Dj,ready→nq,wanted→vH
open Go.Result renaming andThen→eh
open Go.Sem renaming bind→qo,pure→ayU,run→bx,runT_eq→jR,run_bind'→yQ
open Go.World renaming frozen?→pN,shape?→fD
open Go.stepG renaming exec→bE
open _root_.List renaming all_eq_true→BI,append_assoc→gw,drop_eq_getElem_cons→Dc,drop_length→Dd,eq_nil_of_length_eq_zero→De,flatMap_append→xc,flatMap_cons→tK,getElem?_append_left→Df,getElem?_append_right→Ab,getElem?_cons_succ→Kp,getElem?_cons_zero→tL,getElem?_drop→Fx,getElem?_eq_getElem→dq,getElem?_eq_some_iff→dv,getElem?_map→fq,getElem?_set_ne→kU,getElem?_set_self→sJ,getElem?_take→BJ,length_append→mL,length_cons→iH,length_map→iV,length_nil→ow,length_set→mZ,length_take→Dh,map_cons→ft,mem_append→Ad,mem_append_right→HA,mem_cons→bQ,mem_cons_of_mem→eK,mem_cons_self→fu,mem_map→ox,mem_map_of_mem→kV,mem_of_getElem?→lR,mem_singleton→yL,mem_toArray→jA,nodup_cons→rb,not_mem_nil→gk,pairwise_append→Di,pairwise_cons→nQ,perm_append_comm→kW,perm_middle→pK,range→oz
open _root_.List.Perm renaming swap→BH
open _root_.Nat renaming eq_of_beq_eq_true→BL,le_of_ble_eq_true→yP,le_refl→df,le_trans→sK,lt_of_lt_of_le→ayS,mul_one→ayT,zero_add→qn,zero_le→je
open _root_.Option renaming bind_eq_some_iff→m4,bind_some→vG,getD_some→pM,isSome_iff_exists→Ae,map_eq_some_iff→gV,map_some→iy,none→I,some→Z,some→gH
open _root_.Option.some renaming inj→dQ,injEq→ij
open _root_.Prod.mk renaming injEq→fK
section
variable {N i k:Nat}{n:Next}{p:Prop}{s:Sem Next}{V α:Type}{P:aA}{x:ag}{g:aj Nat}{a:aj Tmp}{w:au}{f:bA}{o:bh}
section
section
variable {P Q:aA}{t:aJ}
theorem eJ{α β}(s)(k:α->Sem β)(w):(s>>=k).run P w=(s.run P w).andThen λa b=>(k a).run P b:=yQ _ s k _
theorem aw9(h:P.underlying t=Q.underlying t)(w):bx P (underlying t) w=bx Q (underlying t) w:=by
 show bx P (match P.underlying t with
  |some d=>pure d
  |none=>stuck "no such type") w=bx Q (match Q.underlying t with
  |some d=>pure d
  |none=>stuck "no such type") w
 rw[h];cases Q.underlying t<;>rfl
theorem X9(h:P.info? t=Q.info? t)(w):bx P (typeInfo t) w=bx Q (typeInfo t) w:=by
 show bx P (match P.info? t with
  |some d=>pure d
  |none=>stuck "no such type") w=bx Q (match Q.info? t with
  |some d=>pure d
  |none=>stuck "no such type") w
 rw[h];cases Q.info? t<;>rfl
theorem atc(h:P.info? t=Q.info? t)(w):bx P (sizeOf t) w=bx Q (sizeOf t) w:=by
 unfold sizeOf;rw[eJ,eJ,X9 h];cases bx Q (typeInfo t) w<;>simp only[eh]<;>rfl
theorem axH(h:P.info? t=Q.info? t)(w):bx P (zeroValue t) w=bx Q (zeroValue t) w:=by
 unfold zeroValue;rw[eJ,eJ,X9 h];cases bx Q (typeInfo t) w with
 |ok i a=>
  simp only[eh];cases i.zero
  ·rfl
  ·rfl
 |halt=>simp only[eh]
theorem ado(h:P.underlying t=Q.underlying t)(w):bx P (isAgg t) w=bx Q (isAgg t) w:=by
 unfold isAgg;rw[eJ,eJ,aw9 h];cases bx Q (underlying t) w with
 |ok d a=>
  simp only[eh];cases d<;>rfl
 |halt=>simp only[eh]
end
noncomputable def Sv:aA:={ak with funcs:=fs}
theorem oV(t):Sv.underlying t=Tryz.prog.underlying t:=av
theorem Sv.inf(t):Sv.info? t=Tryz.prog.info? t:=av
attribute [irreducible] Sv
@[simp] theorem pP(t)(w):bx Sv (sizeOf t) w=bx ak (sizeOf t) w:=atc (Sv.inf t) w
@[simp] theorem pQ(t)(w):bx Sv (zeroValue t) w=bx ak (zeroValue t) w:=axH (Sv.inf t) w
@[simp] theorem pO(t)(w):bx Sv (isAgg t) w=bx ak (isAgg t) w:=ado (oV t) w
end
section
variable {P:aA}
theorem abL{m:Mode}{a:aR}{v:ag}{k:Sem α}{w:au}(b:v.oneCell'=U)(c:w.cell? a=Z x)(d:w.frozen? a=Y):(Sem.store m a v k).run P w=k.run P (w.setCell a v):=by
 cases v<;>first|(simp[Value.oneCell']at b;done)|simp[bx,c,d]
end
section
variable {P:aA}{X:af bh}{Q:Exit->Act->au->Prop}
end
section
variable {P:aA}{X:af bh}{Q:Exit->Act->au->Prop}{W:Region.Mode}{S:au->Prop}{n:Nat}
def Fp(P:aA)(W:Region.Mode)(X:af bh)(Q:Exit->Act->au->Prop)(S:au->Prop)(n:Nat)(L:af Bool->Act->au->Prop):Nat->af Bool->Act->au->Prop
 |0,listed,a,w=>L listed a w
 |f+1,listed,a,w=>nq W X listed≠[]/\∀i∈nq W X listed,i<n/\wpOp P X Q i (λc b=>S b/\Fp P W X Q S n L f (listed.setIfInBounds i U) c b) a w
theorem acp{g:Nat}{L:af Bool->Act->au->Prop}(b:∀listed a w,L listed a w->wpAny P W X Q g listed a w):∀(f:Nat)(listed:af Bool)(a:Act)(w:au),Fp P W X Q S n L f listed a w->wpAny P W X Q (f+g) listed a w
 |0,listed,a,w,h=>by rw[qn];exact b _ _ _ h
 |f+1,listed,a,w,h=>by
  rw[show f+1+g=(f+g)+1 by omega];exact⟨λe=>absurd e h.1,λi j=>wpOp_mono (λc k d=>acp b f _ c k d.2) (h.2 i j).2⟩
theorem axB{i:Nat}{q:bh}{v:ag}{L:af Bool->Act->au->Prop}(G:X[i]?=Z q)(V:∀(j:Nat)(o:bh)s b,X[j]?=Z o->o.op≠.select s b)
  (hQ:∀c a w,Q (.panic c) (a.put q.dst v) w->Q (.panic c) a w)
  (T:Region.sinkB W X n=U)(O:Region.chainB W X n=U)(R:n<X.size)(nZ:i<n)(Qf:∀listed a w,L listed a w->∀j∈nq W X listed,n<=j):
  ∀(f:Nat)(listed:af Bool)(a:Act)(w:au),HeadInv W X n listed->
   (∀j r,X[j]?=Z r->j≠i->listed.getD j U=Y->(∀e∈r.after,Region.binds W e=U->e.on≠i)->q.apart X r=U)->
   i∈nq W X listed->YieldsIf P X S q v a->S w->
   Fp P W X Q S n L f (listed.setIfInBounds i U) (a.put q.dst v) w->Fp P W X Q S n L (f+1) listed a w:=by
 intro f;induction f with
 |zero=>
  intro listed a w d _ g A t H;have m:=(mem_ready.1 g).1;refine⟨λh=>(by rw[h]at g;cases g),λj p=>?_⟩;have x:j<n:=by
   rcases Nat.lt_or_ge j n with h|h
   ·exact h
   ·exact absurd p (tail_waits T O R d _ i rfl nZ m j h)
  refine⟨x,?_⟩;by_cases l:j=i
  ·subst l;exact A.wpOp G t ⟨t,H⟩
  ·have:=Qf _ _ _ H j (ready_mono p l)
   omega
 |succ f ih=>
  intro listed a w d K g A t H;have m:=(mem_ready.1 g).1;refine⟨λh=>(by rw[h]at g;cases g),λj p=>?_⟩;have x:j<n:=by
   rcases Nat.lt_or_ge j n with h|h
   ·exact h
   ·exact absurd p (tail_waits T O R d _ i rfl nZ m j h)
  refine⟨x,?_⟩;by_cases l:j=i
  ·subst l;exact A.wpOp G t ⟨t,H⟩
  ·have y:=(H.2 j (ready_mono p l)).2
   obtain⟨N,r,B,j5⟩:=mem_ready.1 p;have C:∀e∈r.after,Region.binds W e=U->e.on≠i:=λe he hb E=>by
    have y:=j5 e he hb;rw[E,getD_both m]at y;cases y
   have h2:=wpOp_putIf B (K j r B l N C) (λs b=>V i q s b G) (λs b=>V j r s b B) hQ A y;have D:∀k u,X[k]?=Z u->k≠i->(listed.setIfInBounds j U).getD k U=Y->(∀e∈u.after,Region.binds W e=U->e.on≠i)->q.apart X u=U:=λk u hk J m de=>by
    refine K k u hk J ?_ de;by_cases M:j=k
    ·subst M;exact N
    ·rw[getD_set_ne U M]at m;exact m
   refine wpOp_mono (λa' w' z=>⟨z.2.1,ih (listed.setIfInBounds j U) a' w' (d.set p x) D (ready_mono g (Ne.symm l)) z.1 z.2.1 ?_⟩) h2;rw[Array.setIfInBounds_comm _ _ l];exact z.2.2
def marks(a:ae Nat)(listed:af Bool):af Bool:=a.foldl (λl i=>l.setIfInBounds i U) listed
def vA(W:Region.Mode)(X:af bh)(n:Nat):ae Nat->af Bool->Bool
 |[],_=>U
 |i::a,listed=>(nq W X listed).contains i&&Region.free W X listed i&&decide (i<n)&&vA W X n a (listed.setIfInBounds i U)
abbrev HO(P:aA)(W:Region.Mode)(X:af bh)(Q:Exit->Act->au->Prop)(n:Nat)(listed:af Bool)(a:Act)(w:au):Prop:=Region.seqB W X (X.size-n) n listed=U/\wpOps P X Q (List.range' n (X.size-n)) a w
end
section
variable {P:aA}{X:af bh}{Q:Exit->Act->au->Prop}{a:Act}{w:au}{K:Act->au->Prop}{i:Nat}{o:bh}
end
section
open Go.Conc (G)
section
variable {P:aA}{S:bA}{V:af ag}{Q:ae bV}{W:dD}{cs:ae az}{w:au}{K:au->Prop}
theorem Ng{X a:az}{d:au}(c:eU P (G X [])=Z s)(j:∀cs,mg P (G X cs) n=Z (G a cs))(l:s.run P w=.ok n d)(cs:ae az):step P (lone X cs w)=.next (lone a cs d):=by
 have g:eU P (G X cs)=Z s:=by
  obtain⟨S,V,m,i,rest,k,b,W,f,o,e,p,t,r,q⟩:=yk c;cases e;unfold eU at c⊢;simp only[G]at c⊢;exact c
 have h:s.runT P w #[]=(.ok n d,s.events P w #[]):=by rw[jR,l]
 exact eY (zL (main:=U) g (j cs) h).2
theorem ZO{X:az}(v:ag)(cs:ae az):mg P (G X cs) (.value v)=Z (G (X.finish v) cs):=rfl
theorem apF{X:az}(cs:ae az):mg P (G X cs) .skip=Z (G (X.finish aC) cs):=rfl
theorem apE{X:az}(d:bV)(cs:ae az):mg P (G X cs) (.defer d)=Z (G ({X with defers:=d::X.defers}.finish aC) cs):=rfl
end
def Rn(P:aA)(X:az)(cs:ae az)(w:au)(T:az->au->Prop):Prop:=∃a b,Steps P (lone X cs w) (lone a cs b)/\T a b
section
variable {P:aA}{X:az}{cs:ae az}{w:au}{T:az->au->Prop}
theorem Rn.done(h:T X w):Rn P X cs w T:=⟨X,w,.refl _ _,h⟩
theorem Rn.steps{e:az}{f:au}(h:Steps P (lone X cs w) (lone e cs f))(k:Rn P e cs f T):Rn P X cs w T:=let⟨a,b,c,d⟩:=k;⟨a,b,h.trans c,d⟩
theorem Rn.code{c:bl}{k:ae aK}{V:af ag}{Q:ae bV}{S:bA}{W:dD}(h:c.wp P (λe a b=>e=.normal/\Rn P ⟨S,a.tmps,k,a.defers,.run,W,I⟩ cs b T) ⟨V,Q⟩ w):Rn P ⟨S,V,.code c::k,Q,.run,W,I⟩ cs w T:=by
 obtain⟨e,a,b,⟨rfl,d⟩,f⟩:=h ⟨S,V,[],Q,.run,W,I⟩ k cs;exact Rn.steps f d
def Fn(P:aA)(f:bA)(a:af ag)(w:au)(R:ag->au->Prop):Prop:=Calls P f a w λe b=>∃v,e=.returned v/\R v b
theorem Fn.mono{f:bA}{a:af ag}{R b:ag->au->Prop}(h:Fn P f a w R)(c:∀v w,R v w->b v w):Fn P f a w b:=Calls.mono h λ_ _⟨v,e,d⟩=>⟨v,e,c v _ d⟩
theorem Fn.of{f:bA}{b:af ag}{R:ag->au->Prop}(h:∀cs,Rn P (bG P f b .normal) cs w λa c=>a.fn=f/\∃v,a.leaving P c (.returned v)/\R v c):Fn P f b w R:=λcs=>by
 obtain⟨a,c,d,e,v,g,i⟩:=h cs;exact⟨.returned v,c,a,⟨v,F,i⟩,d,e,g⟩
end
end
section
open Go.Conc (G)
abbrev Hp:=af Obj
def rP(H:Hp)(a:aR):aj ag:=match H[a.block]? with
 |some (.cells c _ _)=>if a.spot.isSome then I else c[a.off]?
 |_=>I
def rT(H:Hp)(r:Nat):aj (aJ×Nat):=match H[r]? with
 |some (.cells c b _)=>Z (b,c.size)
 |_=>I
def Xh(H:Hp)(a:aR):Bool:=match H[a.block]? with
 |some (.cells _ _ (c,b))=>c<=a.off&&a.off<b
 |_=>Y
def lL(H:Hp)(a:aR)(v:ag):Hp:=H.modify a.block λ
 |.cells c b frozen=>.cells (if a.spot.isSome then c else c.setIfInBounds a.off v) b frozen
 |o=>o
def Rh(P:aA)(W:az)(X:ae az)(H:Hp)(V:az->Hp->Prop):Prop:=∀w:au,w.heap=H->Rn P W X w λb c=>c.os=w.os/\c.output=w.output/\V b c.heap
def Fh(P:aA)(f:bA)(b:af ag)(H:Hp)(R:ag->Hp->Prop):Prop:=∀w:au,w.heap=H->Fn P f b w λv c=>c.os=w.os/\c.output=w.output/\R v c.heap
section
variable {P:aA}{W:az}{X:ae az}{H:Hp}{V:az->Hp->Prop}
theorem Rh.done(h:V W H):Rh P W X H V:=λw e=>.done ⟨F,F,e▸h⟩
theorem Rn.post{V e:az->au->Prop}(h:Rn P W X w V)(f:∀W w,V W w->e W w):Rn P W X w e:=let⟨a,b,c,d⟩:=h;⟨a,b,c,f a b d⟩
theorem Rh.at{b:au}(h:Rh P W X b.heap V)(e:b.os=w.os)(f:b.output=w.output):Rn P W X b λc d=>d.os=w.os/\d.output=w.output/\V c d.heap:=
 (h b F).post λ_ _⟨g,j,q3⟩=>⟨g.trans e,j.trans f,q3⟩
theorem Fh.of{b:af ag}{R:ag->Hp->Prop}(h:∀X,Rh P (bG P f b .normal) X H λc d=>c.fn=f/\∃v,(∀w:au,w.heap=d->c.leaving P w (.returned v))/\R v d):Fh P f b H R:=λw e=>Fn.of λX=>(h X w e).post λ_ m⟨g,j,q3,v,k,l⟩=>⟨q3,v,k m F,g,j,l⟩
end
section
variable {P:aA}{T:af bh}{a:Act}{H:Hp}{K:Act->Hp->Prop}{i:Nat}{o:bh}
end
section
variable {P:aA}{W:az}{X:ae az}{H:Hp}{V:az->Hp->Prop}
end
end
variable {H:Hp}
section
variable {H W:Hp}{b i:Nat}{X:af ag}{t:aJ}{v x:ag}
theorem aE{o}(h:H[b]?=Z o):b<H.size:=(gG.1 h).1
theorem uR{c}(h:H[b]?=Z (.cells X t c))(d:X[i]?=Z x):rP H ⟨b,i,I⟩=Z x:=by
 unfold rP;simp only[h];exact d
theorem Qj(h:H[b]?=Z (.cells X t))(i):Xh H ⟨b,i,I⟩=Y:=by
 unfold Xh;simp[h]
theorem XS(h:H[b]?=Z (.cells X t))(i)(v):lL H ⟨b,i,I⟩ v=H.setIfInBounds b (.cells (X.setIfInBounds i v) t):=by
 unfold lL;apply yI;intro j;rw[Fs,tJ];by_cases e:b=j
 ·grind
 ·simp_all
theorem XT(h:H[b]?=Z (.cells X t))(i)(v):(lL H ⟨b,i,I⟩ v)[b]?=Z (.cells (X.setIfInBounds i v) t):=by
 rw[XS h,kC (aE h)]
theorem QX(h:H[b]?=Z (.cells X t)){j}(c:b≠j)(i)(v):(lL H ⟨b,i,I⟩ v)[j]?=H[j]?:=by
 rw[XS h,ie c]
theorem Gz(a)(v):(lL H a v).size=H.size:=by simp[lL]
theorem apB{o}:(H.push o)[H.size]?=Z o:=by simp
end
def Row(H:Hp)(e:aJ)(c:Nat)(v:ag)(n:Nat)(h:ae ag):Prop:=h.length=n*c/\((v=.slice I 0 0/\n=0)\/∃g d f,v=.slice (Z ⟨g,0,I⟩) n d/\H[g]?=Z (.cells f e)/\n<=d/\d<=maxLen/\f.size=d*c/\f.toList.take (n*c)=h)
theorem aam{e}{h}{v}{n}{o}:Row w.heap e h v n o↔w.ownsRow 0 e h v n o:=by
 constructor
 ·rintro⟨l,m⟩
  exact⟨l,m.imp id λ⟨g,j,k,a,b,c,d,e,f⟩=>⟨g,j,k,a,je _,b,c,d,e,f⟩⟩
 ·rintro⟨l,m⟩
  exact⟨l,m.imp id λ⟨g,j,k,a,_,b,c,d,e,f⟩=>⟨g,j,k,a,b,c,d,e,f⟩⟩
theorem Row.lt{H}{e}{c}{v}{n}{l}(h:Row H e c v n l){b}(d:v.ownBlock=Z b):b<H.size:=by
 rcases h.2 with⟨rfl,_⟩|⟨g,f,j,rfl,k,_⟩
 ·cases d
 ·cases d;exact aE k
theorem Row.keep{H W}{e}{c}{v}{n}{j}(h:Row H e c v n j)(l:∀b,v.ownBlock=Z b->W[b]?=H[b]?):Row W e c v n j:=by
 refine⟨h.1,h.2.imp id ?_⟩;rintro⟨g,d,f,rfl,k,r⟩;exact⟨g,d,f,F,by rw[l g F];exact k,r⟩
section
variable {P:aA}{V:af bh}{a:Act}{H:Hp}{K:Act->Hp->Prop}{i:Nat}
end
section
open Go.Conc (G)
inductive En
 |ob (b:Nat) (o:Obj)
 |row (e:aJ) (size:Nat) (g:aj Nat) (n cap:Nat) (xs:ae ag)
 |ro (S:Hp) (ex:ae Nat)
abbrev sv(g:aj Nat)(n a:Nat):ag:=.slice (g.map λb=>⟨b,0,I⟩) n a
def En.own:En->Nat->Prop
 |.ob b _,x=>x=b
 |.row _ _ g _ _ _,x=>g=Z x
 |.ro S a,x=>x<S.size/\x≠8/\x≠10/\x∉a
def En.holds(H:Hp):En->Prop
 |.ob b o=>H[b]?=Z o
 |.row e a g n c f=>Row H e a (sv g n c) n f
 |.ro S d=>S.size<=H.size/\∀x,x<S.size->x≠8->x≠10->x∉d->H[x]?=S[x]?
def Apart(a b:En):Prop:=∀x,a.own x->¬b.own x
structure Kn(L:ae En)(H:Hp):Prop where
 sat:∀e∈L,e.holds H
 nd:L.Pairwise Apart
theorem N5{n a:Nat}:(sv g n a).ownBlock=g:=by cases g<;>rfl
theorem En.lt{e:En}{x:Nat}(h:e.holds H)(a:e.own x):x<H.size:=by
 cases e with
 |ob b o=>cases a;exact aE h
 |row e c g n d i=>exact Row.lt h (by rw[N5];exact a)
 |ro S f=>exact ayS a.1 h.1
theorem En.keep{a:Hp}{e:En}(h:e.holds H)(p:H.size<=a.size)(c:∀x,e.own x->a[x]?=H[x]?):e.holds a:=by
 cases e with
 |ob b o=>exact(c b F).trans h
 |row e l g n m r=>exact Row.keep h λb k=>c b (by rw[N5]at k;exact k)
 |ro S q=>exact⟨sK h.1 p,λx d f i j=>(c x ⟨d,f,i,j⟩).trans (h.2 x d f i j)⟩
theorem OK{a b:En}(h:Apart a b):Apart b a:=λx c d=>h x d c
theorem Kn.perm{L L':ae En}(h:Kn L H)(p:L.Perm L'):Kn L' H:=⟨λe a=>h.sat e (p.mem_iff.2 a),(p.pairwise_iff λh=>OK h).1 h.nd⟩
theorem Kn.left{A B:ae En}(h:Kn (A++B) H):Kn A H:=⟨λe a=>h.sat e (List.mem_append_left _ a),(Di.1 h.nd).1⟩
theorem Kn.set{A B:ae En}{e e':En}{f:Hp}(h:Kn (A++e::B) H)(q:e'.holds f)(r:∀x,e'.own x->e.own x\/H.size<=x)(w:H.size<=f.size)(u:∀x,x<H.size->¬e.own x->f[x]?=H[x]?):Kn (A++e'::B) f:=by
 have l:=h.nd;rw[Di,nQ]at l;obtain⟨n,⟨o,p⟩,k⟩:=l;have s:∀a∈A,Apart a e:=λa c=>k a c e (fu ..);have i:∀a,a∈A\/a∈B->a.holds f/\Apart a e':=λa c=>by
  have m:Apart a e:=c.elim (s a) λd=>OK (o a d);have j:a.holds H:=h.sat a (by
   rcases c with c|c
   ·exact List.mem_append_left _ c
   ·exact HA _ (eK _ c))
  exact⟨En.keep j w λx g=>u x (En.lt j g) (m x g),λx g t=>(r x t).elim (m x g) λv=>absurd (En.lt j g) (Nat.not_lt.2 v)⟩
 refine⟨λa c=>?_,?_⟩
 ·rcases Ad.1 c with c|c
  ·exact(i a (.inl c)).1
  ·rcases bQ.1 c with rfl|c
   ·exact q
   ·exact(i a (.inr c)).1
 ·rw[Di,nQ]
  refine⟨n,⟨λb d=>OK (i b (.inr d)).2,p⟩,λa c b d=>?_⟩;rcases bQ.1 d with rfl|d
  ·exact(i a (.inl c)).2
  ·exact k a c b (eK _ d)
theorem NX{L:ae En}{e:En}(h:L[i]?=Z e):∃A B,L=A++e::B/\∀a,L.set i a=A++a::B:=by
 obtain⟨c,b⟩:=dv.1 h;refine⟨L.take i,L.drop (i+1),?_,λa=>?_⟩
 ·rw[<-b,List.getElem_cons_drop,List.take_append_drop]
 ·rw[List.set_eq_take_append_cons_drop,if_pos c]
theorem xi{L c:ae En}{e b:En}{a:Hp}(h:Kn (L++c) H)(g:L[i]?=Z e)(d:b.holds a)(f:∀x,b.own x->e.own x\/H.size<=x)(k:H.size<=a.size)(j:∀x,x<H.size->¬e.own x->a[x]?=H[x]?):Kn (L.set i b++c) a:=by
 obtain⟨A,B,rfl,lL⟩:=NX g;rw[lL];rw[gw]at h⊢;exact Kn.set h d f k j
theorem Kn.at{L a:ae En}{e:En}(h:Kn (L++a) H)(b:L[i]?=Z e):e.holds H:=h.sat e (List.mem_append_left _ (lR b))
theorem Kn.push{L L2:ae En}(h:Kn (L++L2) H)(o:Obj):Kn (L++[.ob H.size o]++L2) (H.push o):=by
 refine Kn.perm (L:=.ob H.size o::(L++L2)) ?_ (by simpa using(pK (a:=En.ob H.size o) (l₁:=L) (l₂:=L2)).symm);refine⟨λe b=>?_,nQ.2 ⟨λe b x c d=>?_,h.nd⟩⟩
 ·rcases bQ.1 b with rfl|b
  ·exact apB
  ·refine En.keep (h.sat e b) aZ λx c=>?_
   rw[Ft,if_neg (Nat.ne_of_lt (En.lt (h.sat e b) c))]
 ·cases c
  exact Nat.lt_irrefl _ (En.lt (h.sat e b) d)
inductive Aw(P:aA):Type
 |k (i:Nat)
 |r (i:Nat) (xs:ae ag) (j:Nat) (x:ag) (p:xs[j]?=Z x)
 |d
 |e (x y:ag) (p:x=y)
 |s (x:Sem Next) (n:Next) (p:∀w,x.run P w=.ok n w)
 |m (i:Nat) (b:Nat) (o:Obj) (x:Sem Next) (n:Next) (p:∀w:au,w.heap[b]?=Z o->x.run P w=.ok n w)
 |u (i:Nat) (b:Nat) (o o':Obj) (x:Sem Next) (n:Next) (p:∀w:au,w.heap[b]?=Z o->x.run P w=.ok n {w with heap:=w.heap.setIfInBounds b o'})
 |g
 |x
instance{P:aA}{n:Nat}:OfNat (Aw P) n:=⟨.k n⟩
inductive Pr
 |n (x y:Nat)
 |v (x y:ag)
 |b (x y:Bool)
 |s (x y:Sem Next)
 |g (x y:aj Nat)
 |l (x y:ae ag)
 |o (x y:Obj)
def Pr.rf:Pr->Pr
 |.n x _=>.n x x
 |.v x _=>.v x x
 |.b x _=>.b x x
 |.s x _=>.s x x
 |.g x _=>.g x x
 |.l x _=>.l x x
 |.o x _=>.o x x
def Pr.ok:Pr->Prop
 |.n x y=>x=y
 |.v x y=>x=y
 |.b x y=>x=y
 |.s x y=>x=y
 |.g x y=>x=y
 |.l x y=>x=y
 |.o x y=>x=y
theorem acH{p:Pr}(h:p=p.rf):p.ok:=by cases p<;>(simp only[Pr.rf]at h;cases h;rfl)
theorem ym{c:ae Pr}(h:c=c.map Pr.rf):∀p∈c,p.ok:=by
 induction c with
 |nil=>intro p b;cases b
 |cons a c d=>
  simp only[ft,List.cons.injEq]at h;intro p b;rcases bQ.1 b with rfl|b
  ·exact acH h.1
  ·exact d h.2 p b
inductive Md
 |r
 |w
 |n (z:Nat)
def Md.wr:Md->Bool
 |.r=>Y
 |_=>U
def sE{α:Type}(P:aA):Sem α->Md->ae En->ae (Aw P)->ae Pr->aj (α×Md×ae En×ae (Aw P)×ae Pr)
 |.pure x,z,L,d,f=>Z (x,z,L,d,f)
 |.program k,z,L,d,f=>sE P (k P) z L d f
 |.mark _ k,z,L,d,f=>sE P k z L d f
 |.new o k,.n z,L,d,f=>sE P (k z) (.n (z+1)) (L++[.ob z o]) d f
 |.load _ a k,z,L,.k i::d,f=>
  match L[i]?,a with
  |some (.ob b (.cells c _ _)),⟨l,h,I⟩=>
   match c[h]? with
   |some x=>sE P (k x) z L d (.n l b::f)
   |none=>I
  |_,_=>I
 |.load _ a k,z,L,.r i m j x _::d,f=>
  match L[i]?,a with
  |some (.row _ _ g _ _ p),⟨l,h,I⟩=>sE P (k x) z L d (.g (Z l) g::.n h j::.l p m::f)
  |some (.ob b (.cells c _ _)),⟨l,h,I⟩=>sE P (k x) z L d (.n l b::.n h j::.l c.toList m::f)
  |_,_=>I
 |.store _ a v k,z,L,.k i::d,f=>
  match L[i]?,a,z.wr with
  |some (.ob b (.cells c t (0,0))),⟨l,h,I⟩,U=>
   match c[h]? with
   |some _=>sE P k z (L.set i (.ob b (.cells (c.setIfInBounds h v) t))) d (.n l b::.b v.oneCell' U::f)
   |none=>I
  |_,_,_=>I
 |.store _ a v k,z,L,.r i m j _ _::d,f=>
  match L[i]?,a,z.wr with
  |some (.row e s g n q p),⟨l,h,I⟩,U=>sE P k z (L.set i (.row e s g n q (p.set j v))) d (.g (Z l) g::.n h j::.l p m::.b v.oneCell' U::f)
  |_,_,_=>I
 |.shape r k,z,L,.k i::d,f=>
  match L[i]? with
  |some (.ob b (.cells c t _))=>sE P (k (Z (t,c.size))) z L d (.n r b::f)
  |_=>I
 |.frozen a k,z,L,.k i::d,f=>
  match L[i]? with
  |some (.ob b (.cells _ _ (0,0)))=>sE P (k Y) z L d (.n a.block b::f)
  |_=>I
 |.getObj r k,z,L,.k i::d,f=>
  match L[i]? with
  |some (.ob _ (.cells ..))=>I
  |some (.ob b o)=>sE P (k o) z L d (.n r b::f)
  |_=>I
 |.setObj r o k,z,L,.k i::d,f=>
  match L[i]?,z.wr with
  |some (.ob _ (.cells ..)),_=>I
  |some (.ob b _),U=>sE P k z (L.set i (.ob b o)) d (.n r b::f)
  |_,_=>I
 |_,_,_,_,_=>I
theorem Nz{e:aJ}{b:Nat}{n c j:Nat}{i:ae ag}(h:Row H e b (sv g n c) n i)(s:Z k=g)(d:i[j]?=Z x):∃a,H[k]?=Z (.cells a e)/\a[j]?=Z x/\a.toList.take (n*b)=i/\c<=maxLen/\n<=c/\a.size=c*b:=by
 subst s;rcases h.2 with⟨f,_⟩|⟨g,l,a,f,o,p,q,r,m⟩
 ·cases f
 ·cases f
  refine⟨a,o,?_,m,q,p,r⟩;rw[<-m,BJ]at d;split at d
  ·rw[<-w7];exact d
  ·cases d
theorem aan{e:aJ}{b:Nat}{n c j d:Nat}{f:ae ag}(h:Row H e b (sv g n c) n f)(k:Z d=g)(r:f[j]?=Z x)(v:ag):∃a,H[d]?=Z (.cells a e)/\a[j]?=Z x/\Row (lL H ⟨d,j,I⟩ v) e b (sv g n c) n (f.set j v):=by
 obtain⟨a,i,l,m,o,p,q⟩:=Nz h k r;subst k;refine⟨a,i,l,by rw[mZ];exact h.1,.inr ⟨d,c,a.setIfInBounds j v,F,XT i j v,p,o,by rw[pH];exact q,?_⟩⟩;rw[Array.toList_setIfInBounds,List.take_set,m]
theorem zQ:∀(s:Sem α)(z J:Md)(L H E:ae En)(d M:ae (Aw P))(ps K:ae Pr)(y:α)(w:au),sE P s z L d ps=Z (y,J,H,M,K)->(∀p∈K,p.ok)->Kn (L++E) w.heap->(∀x,z=.n x->w.heap.size=x)->∃l,s.run P w=.ok y l/\l.os=w.os/\l.output=w.output/\Kn (H++E) l.heap/\(∀x,J=.n x->l.heap.size=x)/\(∀p∈ps,p.ok):=by
 intro s;induction s with
 |pure x=>intro z J L H E d M ps K y w h u C R;cases h;exact⟨w,F,F,F,C,R,u⟩
 |program k W=>intro z J L H E d M ps K y w h u C R;exact W P z J L H E d M ps K y w h u C R
 |mark m k W=>intro z J L H E d M ps K y w h u C R;exact W z J L H E d M ps K y w h u C R
 |new o k W=>
  intro z J L H E d M ps K y w h u C R;cases z with
  |r=>simp[sE]at h
  |w=>simp[sE]at h
  |n x=>
   have e:=R x F;subst e;obtain⟨l,O,Q,S,T⟩:=W _ _ J _ H E d M ps K y {w with heap:=w.heap.push o} h u (Kn.push C o) (λx e=>by cases e;simp);exact⟨l,O,Q,S,T⟩
 |load m a k W=>
  intro z J L H E d M ps K y w h u C R;have go:∀(x:ag)(d:ae (Aw P))(pC:ae Pr),w.cell? a=Z x->sE P (k x) z L d pC=Z (y,J,H,M,K)->∃l,(Sem.load m a k).run P w=.ok y l/\l.os=w.os/\l.output=w.output/\Kn (H++E) l.heap/\(∀x,J=.n x->l.heap.size=x)/\(∀p∈pC,p.ok):=λx d pC hc h=>by
   obtain⟨l,O,Q⟩:=W x z J L H E d M pC K y w h u C R;exact⟨l,by simp only[bx,hc];exact O,Q⟩
  have ζ:∀(x:ag)(d:ae (Aw P))(pC:ae Pr),sE P (k x) z L d pC=Z (y,J,H,M,K)->∀p∈pC,p.ok:=λx d pC h=>by
   obtain⟨_,_,_,_,_,_,q⟩:=W x z J L H E d M pC K y w h u C R;exact q
  cases d with
  |nil=>simp[sE]at h
  |cons a0 d=>
   cases a0<;>first|(simp[sE]at h;done)|simp only[sE]at h|unfold sE at h
   ·split at h
    ·rename_i b c t f ab G N
     split at h
     ·rename_i x V
      have fF:=ζ x d _ h;have e:ab=b:=fF _ (fu ..);subst e;have hb:w.heap[ab]?=Z (.cells c t f):=C.at N;obtain⟨l,O,Q,S,T,X,D⟩:=go x d _ (by
       show rP w.heap ⟨ab,G,I⟩=Z x;exact uR hb V) h
      exact⟨l,O,Q,S,T,X,λp u=>D p (eK _ u)⟩
     ·cases h
    ·cases h
   ·rename_i i xs j x tZ
    split at h
    ·rename_i g n β ys ab G N
     have fF:=ζ x d _ h;have e1:=fF _ (fu ..);have e2:=fF _ (eK _ (fu ..));have e3:=fF _ (eK _ (eK _ (fu ..)));simp only[Pr.ok]at e1 e2 e3;subst e2 e3;obtain⟨ε,q1,q2,_⟩:=Nz (C.at N) e1 tZ;obtain⟨l,O,Q,S,T,X,D⟩:=go x d _ (uR q1 q2) h;exact⟨l,O,Q,S,T,X,λp u=>D p (by simp[u])⟩
    ·rename_i b c t f ab G N
     have fF:=ζ x d _ h;have e1:=fF _ (fu ..);have e2:=fF _ (eK _ (fu ..));have e3:=fF _ (eK _ (eK _ (fu ..)));simp only[Pr.ok]at e1 e2 e3;subst e1 e2 e3;have hb:w.heap[ab]?=Z (.cells c t f):=C.at N;obtain⟨l,O,Q,S,T,X,D⟩:=go x d _ (uR hb (by rw[<-w7];exact tZ)) h;exact⟨l,O,Q,S,T,X,λp u=>D p (by simp[u])⟩
    ·cases h
 |store m a v k W=>
  intro z J L H E d M ps K y w h u C R;cases d with
  |nil=>simp[sE]at h
  |cons a0 d=>
   cases a0<;>first|(simp[sE]at h;done)|simp only[sE]at h|unfold sE at h
   ·rename_i i
    split at h
    ·rename_i b c t ab G N rW
     split at h
     ·rename_i x V
      have γ:w.heap[b]?=Z (.cells c t):=C.at N;have hK:Kn (L.set i (.ob b (.cells (c.setIfInBounds G v) t))++E) (lL w.heap ⟨b,G,I⟩ v):=by
       refine xi C N (XT γ G v) (λx V=>.inl V) (by rw[Gz];exact df _) λx _ V=>?_;exact QX γ (λe=>V e.symm) G v
      obtain⟨l,O,Q,S,T,X,D⟩:=W z J _ H E d M _ K y (w.setCell ⟨b,G,I⟩ v) h u hK (λx e=>by
       show(lL w.heap ⟨b,G,I⟩ v).size=x;rw[Gz];exact R x e)
      have e:ab=b:=D _ (fu ..);have e1:v.oneCell'=U:=D _ (eK _ (fu ..));subst e;refine⟨l,?_,Q,S,T,X,λp u=>D p (by simp[u])⟩;rw[abL e1 (uR γ V) (Qj γ G)];exact O
     ·cases h
    ·cases h
   ·rename_i i xs j x tZ
    split at h
    ·rename_i e sz g n β ys ab G N rW
     have δ:∀H',Kn (L.set i (.row e sz g n β (ys.set j v))++E) H'->H'.size=w.heap.size->∃l,k.run P {w with heap:=H'}=.ok y l/\l.os=w.os/\l.output=w.output/\Kn (H++E) l.heap/\(∀x,J=.n x->l.heap.size=x)/\(∀p∈(Pr.g (Z ab) g::.n G j::.l ys xs::.b v.oneCell' U::ps),p.ok):=λH' hK hs=>
      W z J _ H E d M _ K y {w with heap:=H'} h u hK (λx e=>by rw[<-R x e];exact hs)
     cases g with
     |none=>
      have hr:Row w.heap e sz (sv I n β) n ys:=C.at N;rcases hr.2 with⟨_,hn⟩|⟨g,η,ε,e1,_⟩
      ·have hl:=hr.1
       rw[hn,Nat.zero_mul]at hl;have QH:ys=[]:=De hl;subst QH;have PU:L.set i (.row e sz I n β ([].set j v))=L:=by
        obtain⟨A,B,eL,lL⟩:=NX N;rw[lL,eL];rfl
       obtain⟨l,_,_,_,_,_,D⟩:=δ w.heap (by rw[PU];exact C) rfl;have e1:=D _ (fu ..);simp[Pr.ok]at e1
      ·simp[sv]at e1
     |some g=>
      have hr:Row w.heap e sz (sv (Z g) n β) n ys:=C.at N;by_cases hy:ys[j]?=Z x
      ·obtain⟨ε,q1,q2,q3⟩:=aan hr F hy v
       obtain⟨l,O,Q,S,T,X,D⟩:=δ (lL w.heap ⟨g,j,I⟩ v) (xi C N q3 (λx V=>.inl V) (by rw[Gz];exact df _) λx _ V=>QX q1 (λe=>V (by rw[<-e];rfl)) j v) (by rw[Gz]);have e1:=D _ (fu ..);have e2:=D _ (eK _ (fu ..));have e4:v.oneCell'=U:=D (.b v.oneCell' U) aZ;simp only[Pr.ok,ij]at e1 e2;subst e1 e2;refine⟨l,?_,Q,S,T,X,λp u=>D p (by simp[u])⟩;rw[abL e4 (uR q1 q2) (Qj q1 G)];exact O
      ·have hj:ys.length<=j\/j<ys.length:=Nat.lt_or_ge j ys.length|>.symm
       rcases hj with hj|hj
       ·have hs:ys.set j v=ys:=List.set_eq_of_length_le hj
        have PU:L.set i (.row e sz (Z g) n β (ys.set j v))=L:=by
         obtain⟨A,B,eL,lL⟩:=NX N;rw[lL,eL,hs]
        obtain⟨l,_,_,_,_,_,D⟩:=δ w.heap (by rw[PU];exact C) rfl;have e3:ys=xs:=D (.l ys xs) aZ;subst e3;exact absurd tZ hy
       ·obtain⟨x0,mU⟩:∃x0,ys[j]?=Z x0:=⟨_,dq hj⟩
        obtain⟨ε,q1,q2,q3⟩:=aan hr rfl mU v;obtain⟨l,O,Q,S,T,X,D⟩:=δ (lL w.heap ⟨g,j,I⟩ v) (xi C N q3 (λx V=>.inl V) (by rw[Gz];exact df _) λx _ V=>QX q1 (λe=>V (by rw[<-e];rfl)) j v) (by rw[Gz]);have e3:ys=xs:=D (.l ys xs) aZ;subst e3;exact absurd tZ hy
    ·cases h
 |shape r k W=>
  intro z J L H E d M ps K y w h u C R;cases d with
  |nil=>simp[sE]at h
  |cons a0 d=>
   cases a0<;>first|(simp[sE]at h;done)|simp only[sE]at h|unfold sE at h
   split at h
   ·rename_i b c t f N
    obtain⟨l,O,Q,S,T,X,D⟩:=W _ z J L H E d M _ K y w h u C R;have e:r=b:=D _ (fu ..);subst e;have hb:w.heap[r]?=Z (.cells c t f):=C.at N;refine⟨l,?_,Q,S,T,X,λp u=>D p (eK _ u)⟩;have hs:w.shape? r=Z (t,c.size):=by unfold fD;rw[hb]
    simp only[bx,hs];exact O
   ·cases h
 |frozen a k W=>
  intro z J L H E d M ps K y w h u C R;cases d with
  |nil=>simp[sE]at h
  |cons a0 d=>
   cases a0<;>first|(simp[sE]at h;done)|simp only[sE]at h|unfold sE at h
   split at h
   ·rename_i b c t N
    obtain⟨l,O,Q,S,T,X,D⟩:=W _ z J L H E d M _ K y w h u C R;have e:a.block=b:=D _ (fu ..);have hb:w.heap[b]?=Z (.cells c t):=C.at N;refine⟨l,?_,Q,S,T,X,λp u=>D p (eK _ u)⟩;have hs:w.frozen? a=Y:=by unfold pN;rw[e,hb];simp
    simp only[bx,hs];exact O
   ·cases h
 |getObj r k W=>
  intro z J L H E d M ps K y w h u C R;cases d with
  |nil=>simp[sE]at h
  |cons a0 d=>
   cases a0<;>first|(simp[sE]at h;done)|simp only[sE]at h|unfold sE at h
   split at h
   ·cases h
   ·rename_i b o de N
    obtain⟨l,O,Q,S,T,X,D⟩:=W o z J L H E d M _ K y w h u C R;have e:r=b:=D _ (fu ..);subst e;have hb:w.heap[r]?=Z o:=C.at N;refine⟨l,?_,Q,S,T,X,λp u=>D p (eK _ u)⟩;cases o<;>first|exact absurd rfl (de _ _ _ _)|exact absurd rfl (de _ _ _)|(simp only[bx,hb];exact O)
   ·cases h
 |setObj r o k W=>
  intro z J L H E d M ps K y w h u C R;cases d with
  |nil=>simp[sE]at h
  |cons a0 d=>
   cases a0<;>first|(simp[sE]at h;done)|simp only[sE]at h|unfold sE at h
   rename_i i;split at h
   ·cases h
   ·rename_i b o0 de N rW
    have hb:w.heap[b]?=Z o0:=C.at N;have hK:Kn (L.set i (.ob b o)++E) (w.heap.setIfInBounds b o):=xi C N (by show(w.heap.setIfInBounds b o)[b]?=Z o;rw[kC (aE hb)]) (λx V=>.inl V) aZ λx _ V=>by
     rw[ie (λe=>V e.symm)]
    obtain⟨l,O,Q,S,T,X,D⟩:=W z J _ H E d M _ K y {w with heap:=w.heap.setIfInBounds b o} h u hK (λx e=>by simpa using R x e);have e:r=b:=D _ (fu ..);subst e;refine⟨l,?_,Q,S,T,X,λp u=>D p (eK _ u)⟩;cases o0<;>first|exact absurd rfl (de _ _ _ _)|exact absurd rfl (de _ _ _)|(simp only[bx,hb];exact O)
   ·cases h
 |_=>intro z J L H E d M ps K y w h u C R;simp[sE]at h
theorem zR:∀(s:Sem α)(z:Md)(L:ae En)(a:ae (Aw P))(b:ae Pr)(r),sE P s z L a b=Z r->∀p∈b,p∈r.2.2.2.2:=by
 intro s;induction s with
 |pure x=>intro z L a b r h p d;cases h;exact d
 |program k c=>intro z L a b r h;exact c P z L a b r h
 |mark m k c=>intro z L a b r h;exact c z L a b r h
 |new o k c=>
  intro z L a b r h;cases z with
  |r=>simp[sE]at h
  |w=>simp[sE]at h
  |n x=>exact c _ _ _ a b r h
 |_=>
  rename_i c;intro z L a b r h p d;cases a with
  |nil=>simp[sE]at h
  |cons a0 a=>
   cases a0<;>first|(simp[sE]at h;done)|simp only[sE]at h|unfold sE at h
   all_goals
    repeat'(split at h)
    all_goals first
     |(cases h;done)
     |exact c _ _ _ _ _ _ h p (by simp[d])
     |exact c _ _ _ _ _ h p (by simp[d])
theorem E':∀(s:Sem α)(L:ae En)(d:ae (Aw P))(A:ae Pr)(r)(w u:au),sE P s .r L d A=Z r->s.run P w=.ok r.1 u->Kn L w.heap->(∀p∈r.2.2.2.2,p.ok)->u=w/\r.2.1=.r/\r.2.2.1=L:=by
 intro s;induction s with
 |pure x=>intro L d A r w u h l v q;cases h;cases l;exact⟨F,F,F⟩
 |program k z=>intro L d A r w u h l;exact z P L d A r w u h l
 |mark m k z=>intro L d A r w u h l;exact z L d A r w u h l
 |new o k z=>intro L d A r w u h;simp[sE]at h
 |load m a k z=>
  intro L d A r w u h l v q;cases d with
  |nil=>simp[sE]at h
  |cons a0 d=>
   cases a0<;>first|(simp[sE]at h;done)|simp only[sE]at h|unfold sE at h
   · repeat'(split at h)
     all_goals first|(cases h;done)|skip
     rename_i b c t f E y B _ x T;have C:=zR _ _ _ _ _ _ h;have e:E=b:=q _ (C _ (fu ..));subst e;have D:w.heap[E]?=Z (.cells c t f):=v.sat _ (lR B);have K:w.cell? ⟨E,y,I⟩=Z x:=uR D T;simp only[bx,K]at l;exact z x L d _ r w u h l v q
   ·rename_i i Q j x O
    repeat'(split at h)
    all_goals first|(cases h;done)|skip
    ·rename_i e sz g n R ys E y B
     have C:=zR _ _ _ _ _ _ h;have G:=q _ (C _ (fu ..));have H:=q (.n y j) (C _ aZ);have J:=q (.l ys Q) (C _ aZ);simp only[Pr.ok]at G H J;subst H J;obtain⟨S,V,W,_⟩:=Nz (v.sat _ (lR B)) G O;have K:w.cell? ⟨E,y,I⟩=Z x:=uR V W;simp only[bx,K]at l;exact z x L d _ r w u h l v q
    ·rename_i b c t f E y B
     have C:=zR _ _ _ _ _ _ h;have G:=q _ (C _ (fu ..));have H:=q (.n y j) (C _ aZ);have J:=q (.l c.toList Q) (C _ aZ);simp only[Pr.ok]at G H J;subst G H J;have D:w.heap[E]?=Z (.cells c t f):=v.sat _ (lR B);have K:w.cell? ⟨E,y,I⟩=Z x:=uR D (by rw[<-w7];exact O);simp only[bx,K]at l;exact z x L d _ r w u h l v q
 |shape rr k z=>
  intro L d A r w u h l v q;cases d with
  |nil=>simp[sE]at h
  |cons a0 d=>
   cases a0<;>first|(simp[sE]at h;done)|simp only[sE]at h|unfold sE at h
   repeat'(split at h)
   all_goals first|(cases h;done)|skip
   rename_i b c t f B;have e:rr=b:=q _ (zR _ _ _ _ _ _ h _ (fu ..));subst e;have D:w.heap[rr]?=Z (.cells c t f):=v.sat _ (lR B);have M:w.shape? rr=Z (t,c.size):=by unfold fD;rw[D]
   simp only[bx,M]at l;exact z _ L d _ r w u h l v q
 |frozen a k z=>
  intro L d A r w u h l v q;cases d with
  |nil=>simp[sE]at h
  |cons a0 d=>
   cases a0<;>first|(simp[sE]at h;done)|simp only[sE]at h|unfold sE at h
   repeat'(split at h)
   all_goals first|(cases h;done)|skip
   rename_i b c t B;have e:a.block=b:=q _ (zR _ _ _ _ _ _ h _ (fu ..));have D:w.heap[b]?=Z (.cells c t):=v.sat _ (lR B);have M:w.frozen? a=Y:=by unfold pN;rw[e,D];simp
   simp only[bx,M]at l;exact z _ L d _ r w u h l v q
 |getObj rr k z=>
  intro L d A r w u h l v q;cases d with
  |nil=>simp[sE]at h
  |cons a0 d=>
   cases a0<;>first|(simp[sE]at h;done)|simp only[sE]at h|unfold sE at h
   repeat'(split at h)
   all_goals first|(cases h;done)|skip
   rename_i b o N B;have e:rr=b:=q _ (zR _ _ _ _ _ _ h _ (fu ..));subst e;have D:w.heap[rr]?=Z o:=v.sat _ (lR B);have X:(k o).run P w=.ok r.1 u:=by
    cases o<;>first|exact absurd rfl (N _ _ _ _)|exact absurd rfl (N _ _ _)|(simp only[bx,D]at l;exact l)
   exact z _ L d _ r w u h X v q
 |_=>
  intro L d A r w u h;cases d with
  |nil=>simp[sE]at h
  |cons a0 d=>
   cases a0<;>first|(simp[sE]at h;done)|simp only[sE]at h|unfold sE at h
   all_goals simp only[Md.wr]at h
   all_goals repeat'(split at h)
   all_goals first|(cases h;done)|simp_all
end
variable {L:ae En}{R:ag->ae En->Prop}
section
open Go.Conc (G)
abbrev Env:=ae (Nat×ag)
def lk:Env->Nat->aj ag
 |[],_=>I
 |(k,v)::l,t=>match Nat.beq k t with
  |true=>Z v
  |false=>lk l t
def It(env:Env):gU->aj ag
 |.tmp t=>lk env t
 |.const v=>Z v
 |.global g=>Z (.pointer (Z ⟨g,0,I⟩))
 |.func f=>Z (.func (.func f) #[] #[])
def ot(env:Env)(o:gU):ag:=match It env o with
 |some v=>v
 |none=>aC
def G2:Op->Bool
 |.select .. =>Y
 |_=>U
def qP(env:Env)(o:bh):Bool:=G2 o.op&&o.op.operands.toList.all λx=>(It env x).isSome
def vD(e:af bh)(env:Env)(o:bh):aj Bool:=match o.guard with
 |none=>Z U
 |some (j,a)=>match(e[j]?).bind (·.dst)with
  |none=>Z Y
  |some d=>match lk env d with
   |some (.bool b)=>Z (b==a)
   |some _=>Z Y
   |none=>I
def EY(N:Nat)(env:Env)(a:aj Tmp)(v:ag):aj Env:=match a with
 |none=>Z env
 |some d=>match Nat.ble (d+1) N with
  |true=>Z ((d,v)::env)
  |false=>I
structure gI(N:Nat)(env:Env)(tmps:af ag):Prop where
 size:tmps.size=N
 get:∀t v,lk env t=Z v->tmps.getD t aC=v
section
variable {N:Nat}{env V:Env}{tmps:af ag}
theorem F'{fr:az}(h:gI N env fr.tmps){o:gU}{v:ag}(a:It env o=Z v):fr.eval o=v:=by
 cases o with
 |tmp t=>exact h.get t v a
 |const x=>cases a;rfl
 |global g=>cases a;rfl
 |func f=>cases a;rfl
theorem JW{fr:az}(h:gI N env fr.tmps)(a:qP env o=U):∀x∈o.op.operands,fr.eval x=ot env x:=λx d=>by
 unfold qP at a;rw[ig,BI]at a;have:=a.2 x (by simpa using d);obtain⟨v,b⟩:=Ae.1 this;rw[F' h b];unfold ot;rw[b]
theorem yF{e:af bh}{b:Bool}(h:gI N env tmps)(a:vD e env o=Z b):vH o (yielded e tmps)=b:=by
 unfold vD at a;unfold vH;split at a
 ·rename_i g;rw[g];cases a;rfl
 ·rename_i j k g
  rw[g];dsimp only
  unfold yielded;split at a
  ·rename_i f
   rw[f];cases a;rfl
  ·rename_i d f
   rw[f];split at a
   ·rename_i x i
    have:=h.get d _ i;cases a;cases ht:tmps[d]? with
    |none=>rw[nk,ht]at this;cases this
    |some y=>
     rw[nk,ht]at this;simp only[pM]at this;subst this;simp[ht]
   ·rename_i v l i
    have:=h.get d _ i;cases a;cases ht:tmps[d]? with
    |none=>simp[ht]
    |some y=>
     rw[nk,ht]at this;simp only[pM]at this;subst this;simp only[vG,ht];cases y<;>first|rfl|exact absurd rfl (l _)
   ·cases a
theorem RB{d t:Nat}{v:ag}:lk ((d,v)::env) t=if d=t then Z v else lk env t:=by
 show(match Nat.beq d t with
  |true=>Z v
  |false=>lk env t)=_
 cases h:Nat.beq d t with
 |true=>rw[if_pos (BL h)]
 |false=>rw[if_neg (Nat.ne_of_beq_eq_false h)]
def ic(tmps:af ag)(a:aj Tmp)(v:ag):af ag:=match a with
 |some d=>tmps.setIfInBounds d v
 |none=>tmps
theorem oh{dst:aj Tmp}{v:ag}(h:gI N env tmps)(a:EY N env dst v=Z V):gI N V (ic tmps dst v):=by
 cases dst with
 |none=>cases a;exact h
 |some d=>
  simp only[EY]at a;split at a
  ·rename_i f
   cases a;have f:d<N:=yP f;refine⟨by simp[ic,h.size],λt x b=>?_⟩;rw[RB]at b;simp only[ic];split at b
   ·rename_i e
    cases b;subst e;rw[nk,kC (by rw[h.size];exact f)];rfl
   ·rename_i e
    rw[nk,ie e,<-nk];exact h.get t x b
  ·cases a
end
def Zg:Op->Bool
 |.indexAddr .. |.index .. |.slice .. |.lookup .. |.mapUpdate .. |.mapEntry .. |.entryStore .. |.insert .. |.binOp .. =>U
 |.call c=>match c.callee with
  |.builtin .len=>Y
  |_=>U
 |_=>Y
def ctl:ae aK->aj (ae aK)
 |.code .skip::k|.code (.label _)::k|.inBlock _::k|.inScope _::k|.inRegion _ []::k=>Z k
 |.code (.seq a b)::k=>Z (.code a::.code b::k)
 |.code (.block id d)::k=>Z (.code d::.inBlock id::k)
 |.code (.scope d)::k=>Z (.code d::.inScope d::k)
 |.code (.exit id)::k=>exitTo id k
 |.code (.region _ e Y)::k=>Z (.inRegion e (oz e.size)::k)
 |_=>I
structure Cf(P:aA)where
 todo:ae aK
 ds:ae bV
 env:Env
 L:ae En
 z:Md
 an:ae (Aw P)
 ps:ae Pr
section
variable {P:aA}
def fin(N:Nat)(c:Cf P)(a:aj Tmp)(v:ag)(t:ae aK):aj (Cf P):=match EY N c.env a v with
 |some env=>Z ⟨t,c.ds,env,c.L,c.z,c.an,c.ps⟩
 |none=>I
def wN(N:Nat)(c:Cf P)(a:aj Tmp)(n:Next)(t:ae aK):aj (Cf P):=match n with
 |.value v=>fin N c a v t
 |.skip=>fin N c a aC t
 |.defer d=>fin N ⟨c.todo,d::c.ds,c.env,c.L,c.z,c.an,c.ps⟩ a aC t
 |_=>I
def E9(c:Cf P)(s:Sem Next)(a:ae (Aw P)):aj (Next×Cf P):=match sE P s c.z c.L a c.ps with
 |some (n,z,L,a,b)=>Z (n,⟨c.todo,c.ds,c.env,L,z,a,b⟩)
 |none=>I
def Bo(N:Nat)(c:Cf P)(o:bh)(t:ae aK):aj (Cf P):=
 let s:=cu (ot c.env) o
 match Zg o.op,c.an with
 |false,a=>match E9 c s a with
  |some (n,c)=>wN N c o.dst n t
  |none=>I
 |true,.d::a=>match E9 c s a with
  |some (n,c)=>wN N c o.dst n t
  |none=>I
 |true,.e x y _::a=>match E9 c s a with
  |some (.value v,c)=>fin N ⟨c.todo,c.ds,c.env,c.L,c.z,c.an,.v v x::c.ps⟩ o.dst y t
  |_=>I
 |true,.s x n _::a=>wN N ⟨c.todo,c.ds,c.env,c.L,c.z,a,.s s x::c.ps⟩ o.dst n t
 |true,.m i b f x n _::a=>match c.L[i]? with
  |some (.ob d e)=>wN N ⟨c.todo,c.ds,c.env,c.L,c.z,a,.s s x::.n d b::.o e f::c.ps⟩ o.dst n t
  |_=>I
 |true,.u i b f g x n _::a=>match c.L[i]? with
  |some (.ob d e)=>wN N ⟨c.todo,c.ds,c.env,c.L.set i (.ob b g),c.z,a,.s s x::.n d b::.o e f::c.ps⟩ o.dst n t
  |_=>I
 |_,_=>I
def mS(N:Nat)(c:Cf P):aj (Cf P):=
 match c.todo with
 |.inRegion a (i::rest)::k=>
  match a[i]? with
  |none=>I
  |some o=>match vD a c.env o with
   |none=>I
   |some Y=>fin N c o.dst aC (.inRegion a rest::k)
   |some U=>match qP c.env o with
    |false=>I
    |true=>Bo N c o (.inRegion a rest::k)
 |.code (.cond q x y)::k=>match It c.env q with
  |some (.bool U)=>Z ⟨.code x::k,c.ds,c.env,c.L,c.z,c.an,c.ps⟩
  |some (.bool Y)=>Z ⟨.code y::k,c.ds,c.env,c.L,c.z,c.an,c.ps⟩
  |_=>I
 |.code (.loop b)::k=>match c.an with
  |.g::e=>Z ⟨.code b::.inLoop b::k,c.ds,c.env,c.L,c.z,e,c.ps⟩
  |_=>I
 |.inLoop b::k=>match c.an with
  |.g::e=>Z ⟨.code b::.inLoop b::k,c.ds,c.env,c.L,c.z,e,c.ps⟩
  |_=>I
 |d=>match ctl d with
  |some t=>Z ⟨t,c.ds,c.env,c.L,c.z,c.an,c.ps⟩
  |none=>I
def N4:ae (Aw P)->Bool
 |[.x]=>U
 |_=>Y
def mE(N:Nat):Nat->Cf P->Cf P
 |0,c=>c
 |n+1,c=>match N4 c.an with
  |true=>⟨c.todo,c.ds,c.env,c.L,c.z,[],c.ps⟩
  |false=>match mS N c with
   |none=>c
   |some W=>mE N n W
structure At(N:Nat)(L2:ae En)(c:Cf P)(tmps:af ag)(w:au):Prop where
 env:gI N c.env tmps
 kn:Kn (c.L++L2) w.heap
 z:∀x,c.z=.n x->w.heap.size=x
def Cf.rE(c:Cf P):Prop:=∀p∈c.ps,p.ok
abbrev DD(fn:bA)(X:dD)(c:Cf P)(tmps:af ag):az:=⟨fn,tmps,c.todo,c.ds,.run,X,I⟩
section
variable {N:Nat}{L2:ae En}{c W:Cf P}{tmps:af ag}{w:au}{fn:bA}{X:dD}{cs:ae az}
def OC(P:aA)(N:Nat)(L2:ae En)(fn:bA)(X:dD)(cs:ae az)(d:az)(w:au)(W:Cf P):Prop:=∃b a,step P (lone d cs w)=.next (lone (DD fn X W b) cs a)/\a.os=w.os/\a.output=w.output/\At N L2 W b a
theorem SU{b:ae (Aw P)}(h:E9 c s b=Z (n,W))(l:W.rE)(m:Kn (c.L++L2) w.heap)(p:∀x,c.z=.n x->w.heap.size=x):∃a,s.run P w=.ok n a/\a.os=w.os/\a.output=w.output/\Kn (W.L++L2) a.heap/\(∀x,W.z=.n x->a.heap.size=x)/\W.todo=c.todo/\W.ds=c.ds/\W.env=c.env/\c.rE:=by
 unfold E9 at h;split at h
 ·rename_i q z L d r o
  cases h;obtain⟨a,e,f,g,i,j,k⟩:=zQ s _ _ _ _ L2 _ _ _ _ _ w o l m p;exact⟨a,e,f,g,i,j,F,F,F,k⟩
 ·cases h
theorem apG{b:af bh}{i:Nat}{rest:ae Nat}{k:ae aK}{g:Cf P}{f:au}(z:b[i]?=Z o)(u:eU P (G ⟨fn,tmps,.inRegion b (i::rest)::k,g.ds,.run,X,I⟩ [])=Z s)(t:s.run P w=.ok n f)
  (a:wN N g o.dst n (.inRegion b rest::k)=Z W)(j:f.os=w.os)(l:f.output=w.output)(q:gI N g.env tmps)(r:Kn (g.L++L2) f.heap)(y:∀x,g.z=.n x->f.heap.size=x):
  OC P N L2 fn X cs ⟨fn,tmps,.inRegion b (i::rest)::k,g.ds,.run,X,I⟩ w W/\W.ps=g.ps:=by
 have p:∀(v:ag)(m:ae bV),jd ⟨fn,tmps,.inRegion b (i::rest)::k,m,.run,X,I⟩ v=⟨fn,ic tmps o.dst v,.inRegion b rest::k,m,.run,X,I⟩:=λv m=>by
  simp only[jd,z,vG];cases o.dst<;>rfl
 unfold wN at a;split at a
 ·rename_i v
  unfold fin at a;split at a
  ·rename_i env h
   cases a;have e:=Ng (cs:=cs) u (λcs=>ZO v cs) t;rw[p]at e;exact⟨⟨_,f,e,j,l,oh q h,r,y⟩,F⟩
  ·cases a
 ·unfold fin at a
  split at a
  ·rename_i env h
   cases a;have e:=Ng (cs:=cs) u (λcs=>apF cs) t;rw[p]at e;exact⟨⟨_,f,e,j,l,oh q h,r,y⟩,F⟩
  ·cases a
 ·rename_i d
  unfold fin at a;split at a
  ·rename_i env h
   cases a;have e:=Ng (cs:=cs) u (λcs=>apE d cs) t;rw[p]at e;exact⟨⟨_,f,e,j,l,oh q h,r,y⟩,F⟩
  ·cases a
 ·cases a
theorem Gd{v:ag}{t:ae aK}(h:fin N c a v t=Z W):W.ps=c.ps:=by
 unfold fin at h;split at h<;>first|(cases h;done)|(cases h;rfl)
theorem EZ{t:ae aK}(h:wN N c a n t=Z W):W.ps=c.ps:=by
 unfold wN at h;split at h<;>first|(cases h;done)|exact Gd h|exact(Gd h).trans rfl
theorem Su{t:ae aK}(h:Bo N c o t=Z W)(f:W.rE)(l:Kn (c.L++L2) w.heap)(m:∀x,c.z=.n x->w.heap.size=x):∃n k a,(cu (ot c.env) o).run P w=.ok n k/\wN N a o.dst n t=Z W/\k.os=w.os/\k.output=w.output/\a.env=c.env/\a.ds=c.ds/\Kn (a.L++L2) k.heap/\(∀x,a.z=.n x->k.heap.size=x)/\c.rE:=by
 unfold Bo at h;dsimp only at h;split at h
 ·split at h
  ·rename_i n a r
   obtain⟨k,z,A,q3,B,C,Q,D,E,G⟩:=SU (L2:=L2) (w:=w) r (λp i=>f p (by rw[EZ h];exact i)) l m;exact⟨n,k,a,z,h,A,q3,E,D,B,C,G⟩
  ·cases h
 ·split at h
  ·rename_i n a r
   obtain⟨k,z,A,q3,B,C,Q,D,E,G⟩:=SU (L2:=L2) (w:=w) r (λp i=>f p (by rw[EZ h];exact i)) l m;exact⟨n,k,a,z,h,A,q3,E,D,B,C,G⟩
  ·cases h
 ·rename_i x y p J _ _
  split at h
  ·rename_i v a r
   have d:=Gd h;obtain⟨k,z,A,q3,B,C,Q,D,E,G⟩:=SU (L2:=L2) (w:=w) r (λp i=>f p (by rw[d];exact eK _ i)) l m;have S:v=x:=f (.v v x) (by rw[d];exact fu ..);subst S p;exact⟨.value v,k,⟨a.todo,a.ds,a.env,a.L,a.z,a.an,.v v v::a.ps⟩,z,h,A,q3,E,D,B,C,G⟩
  ·cases h
 ·rename_i x n p J _ _
  have d:=EZ h;have e:cu (ot c.env) o=x:=f (.s _ x) (by rw[d];exact fu ..);exact⟨n,w,_,by rw[e];exact p w,h,F,F,F,F,l,m,λp i=>f p (by rw[d];exact eK _ i)⟩
 ·rename_i j b s x n p J _ _
  split at h
  ·rename_i g q H
   have d:=EZ h;have e:cu (ot c.env) o=x:=f (.s _ x) (by rw[d];simp);have K:g=b:=f (.n g b) (by rw[d];simp);have L:q=s:=f (.o q s) (by rw[d];simp);subst K L;exact⟨n,w,_,by rw[e];exact p w (l.at H),h,F,F,F,F,l,m,λp i=>f p (by rw[d];simp[i])⟩
  ·cases h
 ·rename_i j b s u x n p J _ _
  split at h
  ·rename_i g q H
   have d:=EZ h;have e:cu (ot c.env) o=x:=f (.s _ x) (by rw[d];simp);have K:g=b:=f (.n g b) (by rw[d];simp);have L:q=s:=f (.o q s) (by rw[d];simp);subst K L;have O:w.heap[g]?=Z q:=l.at H;have R:Kn (c.L.set j (.ob g u)++L2) (w.heap.setIfInBounds g u):=xi l H (by show(w.heap.setIfInBounds g u)[g]?=Z u;rw[kC (aE O)]) (λx M=>.inl M) aZ λx _ M=>by
    rw[ie (λe=>M e.symm)]
   exact⟨n,{w with heap:=w.heap.setIfInBounds g u},_,by rw[e];exact p w O,h,F,F,F,F,R,λx e=>by simpa using m x e,λp i=>f p (by rw[d];simp[i])⟩
  ·cases h
 ·cases h
theorem aoN{a:af bh}{i:Nat}{rest:ae Nat}{k:ae aK}(m:c.todo=.inRegion a (i::rest)::k)(f:a[i]?=Z o)(p:vD a c.env o=Z U)(B:qP c.env o=U)(r:∀cs b,o.op≠.select cs b)(j:X≠.early)(h:Bo N c o (.inRegion a rest::k)=Z W)(l:W.rE)(d:At N L2 c tmps w):OC P N L2 fn X cs (DD fn X c tmps) w W/\c.rE:=by
 have e:cu (bJ ⟨fn,tmps,[],c.ds,.run,X,I⟩) o=cu (ot c.env) o:=execOp_congr o r (JW (fr:=⟨fn,tmps,[],c.ds,.run,X,I⟩) d.env B);have g:eU P (G ⟨fn,tmps,.inRegion a (i::rest)::k,c.ds,.run,X,I⟩ [])=Z (cu (ot c.env) o):=by
  unfold eU;cases X<;>first|exact absurd rfl j|simp only[G,f,yF d.env p,if_true,e]
 have q:DD fn X c tmps=⟨fn,tmps,.inRegion a (i::rest)::k,c.ds,.run,X,I⟩:=by unfold DD;rw[m]
 rw[q];obtain⟨n,D,C,s,t,q3,u,v,x,y,z,A⟩:=Su h l d.kn d.z;rw[<-x]at g⊢;exact⟨(apG f g s t q3 u (by rw[v];exact d.env) y z).1,A⟩
theorem YG(B:X≠.early)(h:mS N c=Z W)(f:W.rE)(a:At N L2 c tmps w):OC P N L2 fn X cs (DD fn X c tmps) w W/\c.rE:=by
 obtain⟨v,g,env,L,z,E,H⟩:=c;unfold mS at h;dsimp only at h;split at h
 ·rename_i d i rest k
  split at h
  ·cases h
  ·rename_i o m
   split at h
   ·cases h
   ·rename_i r
    have A:=yF a.env r;unfold fin at h;split at h
    ·rename_i V D
     cases h;have u:step P (lone ⟨fn,tmps,.inRegion d (i::rest)::k,g,.run,X,I⟩ cs w)=.next (lone (jd ⟨fn,tmps,.inRegion d (i::rest)::k,g,.run,X,I⟩ aC) cs w):=by
      refine eY (es:=#[]) ?_;simp[G,aG,bE,m,A]
     have C:jd ⟨fn,tmps,.inRegion d (i::rest)::k,g,.run,X,I⟩ aC=⟨fn,ic tmps o.dst aC,.inRegion d rest::k,g,.run,X,I⟩:=by
      simp only[jd,m,vG];cases o.dst<;>rfl
     rw[C]at u;exact⟨⟨_,w,u,F,F,oh a.env D,a.kn,a.z⟩,f⟩
    ·cases h
   ·rename_i r
    split at h
    ·cases h
    ·rename_i s
     have l:=s;unfold qP at l;rw[ig]at l;refine aoN (k:=k) F m r s (λcs b e=>?_) B h f a;rw[e]at l;exact absurd l.1 (by simp[G2])
 ·rename_i q x y k
  split at h
  ·rename_i p
   cases h;have n:=F' (fr:=⟨fn,tmps,.code (.cond q x y)::k,g,.run,X,I⟩) a.env p;refine⟨⟨tmps,w,eY (es:=#[]) ?_,F,F,a.env,a.kn,a.z⟩,f⟩;simp[G,aG,bE,n]
  ·rename_i p
   cases h;have n:=F' (fr:=⟨fn,tmps,.code (.cond q x y)::k,g,.run,X,I⟩) a.env p;refine⟨⟨tmps,w,eY (es:=#[]) ?_,F,F,a.env,a.kn,a.z⟩,f⟩;simp[G,aG,bE,n]
  ·cases h
 ·rename_i b k
  split at h
  ·cases h
   refine⟨⟨tmps,w,eY (es:=#[]) ?_,F,F,a.env,a.kn,a.z⟩,f⟩;simp[G,aG,bE]
  ·cases h
 ·rename_i b k
  split at h
  ·cases h
   refine⟨⟨tmps,w,eY (es:=#[]) ?_,F,F,a.env,a.kn,a.z⟩,f⟩;simp[G,aG,bE]
  ·cases h
 ·split at h
  ·rename_i t j
   cases h;refine⟨⟨tmps,w,eY (es:=#[]) ?_,F,F,a.env,a.kn,a.z⟩,f⟩;unfold ctl at j;split at j<;>first
    |(cases j;done)
    |(cases j;simp[G,aG,bE])
    |(simp[G,aG,bE,j])
  ·cases h
theorem aar{a:ae (Aw P)}(h:E9 c s a=Z (n,W)):∀p∈c.ps,p∈W.ps:=by
 unfold E9 at h;split at h
 ·rename_i b
  cases h;exact zR _ _ _ _ _ _ b
 ·cases h
theorem Zx{t:ae aK}(h:Bo N c o t=Z W):∀p∈c.ps,p∈W.ps:=by
 intro p a;unfold Bo at h;dsimp only at h
 repeat'(split at h)
 all_goals first
  |(cases h;done)
  |(rw[EZ h];exact aar ‹_› p a)
  |(rw[Gd h];exact eK _ (aar ‹_› p a))
  |(rw[EZ h];simp[a])
theorem YI(h:mS N c=Z W):∀p∈c.ps,p∈W.ps:=by
 obtain⟨b,e,env,L,z,d,f⟩:=c;unfold mS at h;dsimp only at h;intro p a;split at h
 ·split at h
  ·cases h
  ·split at h
   ·cases h
   ·rw[Gd h];exact a
   ·split at h
    ·cases h
    ·exact Zx h p a
 · repeat'(split at h)
   all_goals first|(cases h;done)|(cases h;simp[a])
 · repeat'(split at h)
   all_goals first|(cases h;done)|(cases h;simp[a])
 · repeat'(split at h)
   all_goals first|(cases h;done)|(cases h;simp[a])
 · repeat'(split at h)
   all_goals first|(cases h;done)|(cases h;simp[a])
theorem anh:∀(n:Nat)(c:Cf P),∀p∈c.ps,p∈(mE N n c).ps:=by
 intro n;induction n with
 |zero=>intro c p a;exact a
 |succ n b=>
  intro c p a;unfold mE;split
  ·exact a
  ·split
   ·exact a
   ·exact b _ p (YI ‹_› p a)
theorem RN(f:X≠.early):∀(n:Nat)(c:Cf P)(tmps:af ag)(w:au),(mE N n c).rE->At N L2 c tmps w->∃e d,Steps P (lone (DD fn X c tmps) cs w) (lone (DD fn X (mE N n c) e) cs d)/\d.os=w.os/\d.output=w.output/\At N L2 (mE N n c) e d:=by
 intro n;induction n with
 |zero=>intro c tmps w b a;exact⟨tmps,w,.refl _ _,F,F,a⟩
 |succ n r=>
  intro c tmps w b a;cases hx:N4 c.an with
  |true=>
   simp only[mE,hx];exact⟨tmps,w,.refl _ _,F,F,a.env,a.kn,a.z⟩
  |false=>
   cases hs:mS N c with
   |none=>
    simp only[mE,hx,hs];exact⟨tmps,w,.refl _ _,F,F,a⟩
   |some W=>
    simp only[mE,hx,hs]at b⊢;obtain⟨⟨s,u,g,h,i,j⟩,_⟩:=YG (fn:=fn) (cs:=cs) (L2:=L2) f hs (λp q=>b p (anh n W p q)) a;obtain⟨t,v,k,l,m,o⟩:=r W s u b j;exact⟨t,v,.head g k,l.trans h,m.trans i,o⟩
end
end
end
section
open Go.Conc (G)
structure Cx where
 fn:bA
 N:Nat
 kind:dD
 cs:ae az
 L2:ae En
 jg:az->Hp->Prop
def Rs(P:aA)(X:Cx)(W:ae aK)(ds:ae bV)(V:Env)(L:ae En):Prop:=X.kind≠.early->∀a H,gI X.N V a->Kn (L++X.L2) H->Rh P ⟨X.fn,a,W,ds,.run,X.kind,I⟩ X.cs H X.jg
def Fl(P:aA)(f:bA)(a:af ag)(L:ae En)(R:ag->ae En->Prop):Prop:=∀c H,Kn (L++c) H->Fh P f a H λv d=>∃b,R v b/\Kn (b++c) d
def Cf.pr{P:aA}(c:Cf P):Bool×ae Pr:=(c.an.isEmpty,c.ps)
def Cf.rf{P:aA}(c:Cf P):Bool×ae Pr:=(U,c.ps.map Pr.rf)
section
variable {P:aA}{X:Cx}{W:ae aK}{ds:ae bV}{V:Env}{L:ae En}
theorem DV{c:Cf P}(h:c.pr=c.rf):c.rE:=ym (congrArg (·.2) h)
abbrev nx(P:aA)(X:Cx)(W:ae aK)(ds:ae bV)(V:Env)(L:ae En)(a:ae (Aw P))(z:Md:=.w):Cf P:=mE X.N 3000 ⟨W,ds,V,L,z,a,[]⟩
theorem Rh.steps{e g:az}{a:ae az}{b:au}{f:az->Hp->Prop}(h:Steps P (lone e a w) (lone g a b))(i:b.os=w.os)(j:b.output=w.output)(k:Rh P g a b.heap f):Rn P e a w λc d=>d.os=w.os/\d.output=w.output/\f c d.heap:=
 Rn.steps h (Rh.at k i j)
theorem ao(a:ae (Aw P))(k:Rs P X (nx P X W ds V L a).todo (nx P X W ds V L a).ds (nx P X W ds V L a).env (nx P X W ds V L a).L)(j:(nx P X W ds V L a).pr=(nx P X W ds V L a).rf:=by kernel_rfl):Rs P X W ds V L:=λc b H l i w e=>by
 subst e;obtain⟨n,o,f,g,h,d⟩:=RN (fn:=X.fn) (cs:=X.cs) (L2:=X.L2) (N:=X.N) c 3000 ⟨W,ds,V,L,.w,a,[]⟩ b w (DV j) ⟨l,i,λx m=>by cases m⟩;exact Rh.steps f g h (k c n o.heap d.env d.kn)
theorem cd(a:Nat->ae (Aw P))(k:∀z,Rs P X (nx P X W ds V L (a z) (.n z)).todo (nx P X W ds V L (a z) (.n z)).ds (nx P X W ds V L (a z) (.n z)).env (nx P X W ds V L (a z) (.n z)).L)(j:∀z,(nx P X W ds V L (a z) (.n z)).pr=(nx P X W ds V L (a z) (.n z)).rf:=by intro z;kernel_rfl):Rs P X W ds V L:=λc b H l i w e=>by
 subst e;obtain⟨n,o,f,g,h,d⟩:=RN (fn:=X.fn) (cs:=X.cs) (L2:=X.L2) (N:=X.N) c 3000 ⟨W,ds,V,L,.n w.heap.size,a w.heap.size,[]⟩ b w (DV (j _)) ⟨l,i,λx m=>by cases m;rfl⟩;exact Rh.steps f g h (k w.heap.size c n o.heap d.env d.kn)
theorem MR{V:Env}:∀(l:Env)(t:Nat)(v:ag),l.map (λp=>lk V p.1)=l.map (λp=>Z p.2)->lk l t=Z v->lk V t=Z v
 |[],_,_,_,h=>by cases h
 |(k,x)::l,t,v,h,a=>by
  simp only[ft,List.cons.injEq]at h;rw[RB]at a;split at a
  ·rename_i e;subst e;cases a;exact h.1
  ·exact MR l t v h.2 a
theorem Ky(b:Env)(f:Rs P X W ds b L)(h:b.map (λp=>lk V p.1)=b.map λp=>Z p.2:=by kernel_rfl):Rs P X W ds V L:=λd a H c e=>
 f d a H ⟨c.size,λt v g=>c.get t v (MR b t v h g)⟩ e
theorem eP{L':ae En}(h:L.Perm L')(d:Rs P X W ds V L'):Rs P X W ds V L:=λb a H e c=>
 d b a H e (c.perm (h.append_right _))
theorem Ss{c:az}{cs:ae az}(a:eU P (G c [])=Z s):eU P (G c cs)=Z s:=by
 obtain⟨l,f,h,i,rest,k,b,d,g,o,e,j,p,n,m⟩:=yk a;cases e;unfold eU at a⊢;simp only[G]at a⊢;exact a
def mG(W:ae aK)(V:Env):aj (Sem Next):=match W with
 |.inRegion a (i::_)::_=>match a[i]? with
  |some o=>match vD a V o with
   |some U=>match qP V o with
    |true=>Z (cu (ot V) o)
    |false=>I
   |_=>I
  |none=>I
 |_=>I
def ky(W:ae aK):aj Tmp:=match W with
 |.inRegion a (i::_)::_=>match a[i]? with
  |some o=>o.dst
  |none=>I
 |_=>I
def qQ(W:ae aK):ae aK:=match W with
 |.inRegion a (_::rest)::k=>.inRegion a rest::k
 |_=>[]
theorem JG{a:dD}{fn:bA}{c:af ag}(l:a≠.early)(k:gI N V c)(h:mG W V=Z s):eU P (G ⟨fn,c,W,ds,.run,a,I⟩ [])=Z s/\∀v,jd ⟨fn,c,W,ds,.run,a,I⟩ v=⟨fn,ic c (ky W) v,qQ W,ds,.run,a,I⟩:=by
 unfold mG at h
 repeat'(split at h)
 all_goals first|(cases h;done)|skip
 rename_i n i rest q _ o j _ m _ g;cases h;have d:=g;unfold qP at d;rw[ig]at d;have f:cu (bJ ⟨fn,c,[],ds,.run,a,I⟩) o=cu (ot V) o:=execOp_congr o (λp b e=>by
  rw[e]at d;exact absurd d.1 (by simp[G2])) (JW (fr:=⟨fn,c,[],ds,.run,a,I⟩) k g)
 refine⟨?_,λv=>?_⟩
 ·unfold eU
  cases a<;>first|exact absurd rfl l|simp only[G,j,yF k m,if_true,f]
 ·simp only[jd,ky,qQ,j,vG]
  cases o.dst<;>rfl
def pe(V:Env)(a:aj Tmp)(v:ag):Env:=match a with
 |some d=>(d,v)::V
 |none=>V
def fits(N:Nat):aj Tmp->Bool
 |some d=>Nat.ble (d+1) N
 |none=>U
theorem zf{V:Env}(h:fits N a=U)(v:ag):EY N V a v=Z (pe V a v):=by
 cases a with
 |none=>rfl
 |some d=>
  have h:Nat.ble (d+1) N=U:=h;simp only[EY,pe,h]
theorem nu(k g:ae En){a:af ag}{R:ag->ae En->Prop}(hf:Fl P f a k R)(hp:L.Perm (k++g))(h:∀v d,R v d->Rs P X (qQ W) ds (pe V (ky W) v) (d++g))(j:((mG W V).bind (λs=>(sE P s .r [] [] []).map λq=>(q.1,q.2.2.2.2)),fits X.N (ky W))=(Z (.enter f a,[]),U):=by kernel_rfl):Rs P X W ds V L:=λm b H t r w e=>by
 subst e;simp only[fK]at j;obtain⟨j,T⟩:=j;obtain⟨s,i,N⟩:=m4.1 j;obtain⟨⟨n,z,y,E,ps⟩,o,p⟩:=gV.1 N;simp only[fK]at p;obtain⟨rfl,rfl⟩:=p;obtain⟨D,kv⟩:=JG (fn:=X.fn) (ds:=ds) m t i;have A:Kn ([]++(L++X.L2)) w.heap:=r;obtain⟨c,u,_⟩:=zQ s .r z [] y (L++X.L2) [] E [] [] _ w o aZ A (λx hx=>by cases hx);obtain⟨rfl,_⟩:=E' s [] [] [] _ w c o u ⟨by simp,List.Pairwise.nil⟩ aZ;have Q:Kn (k++(g++X.L2)) c.heap:=r.perm (by rw[<-gw];exact hp.append_right _);have O:=hf (g++X.L2) c.heap Q c F;have C:bx P s c=.ok (.enter f a) c:=u;have M:mg P (G ⟨X.fn,b,W,ds,.run,X.kind,I⟩ X.cs) (.enter f a)=Z (G (bG P f a .normal) (⟨X.fn,b,W,ds,.run,X.kind,I⟩::X.cs)):=by
  unfold mG at i
  repeat'(split at i)
  all_goals first|(cases i;done)|rfl
 have J:=Ss (cs:=X.cs) D;have S:s.runT P c #[]=(.ok (.enter f a) c,s.events P c #[]):=by rw[jR,C]
 have B:=eY (zL (main:=U) J M S).2;obtain⟨e,w',K,⟨v,rfl,q1,q2,d,q3,q4⟩,l,_,hl⟩:=O (⟨X.fn,b,W,ds,.run,X.kind,I⟩::X.cs);have l:Steps P (lone (bG P f a .normal) (⟨X.fn,b,W,ds,.run,X.kind,I⟩::X.cs) c) (lone K (⟨X.fn,b,W,ds,.run,X.kind,I⟩::X.cs) w'):=l;refine Rh.steps ((Steps.one B).trans (l.trans (.one (step_leave_returned hl)))) q1 q2 ?_;rw[kv];exact h v d q3 m _ _ (oh t (zf T v)) (by rw[gw];exact q4)
def nS(P:aA)(c L:ae En)(s:Sem Next)(Q:ag->ae En->Prop):Prop:=∀w:au,Kn (L++c) w.heap->∃v a b,s.run P w=.ok (.value v) a/\a.os=w.os/\a.output=w.output/\Q v b/\Kn (b++c) a.heap
theorem iW{Q:ag->ae En->Prop}(q:nS P X.L2 L s Q)(h:∀v a,Q v a->Rs P X (qQ W) ds (pe V (ky W) v) a)(b:(mG W V,fits X.N (ky W))=(Z s,U):=by kernel_rfl):Rs P X W ds V L:=λc f H d o w e=>by
 subst e;simp only[fK]at b;obtain⟨b,p⟩:=b;obtain⟨g,r⟩:=JG (fn:=X.fn) (ds:=ds) c d b;obtain⟨v,t,a,j,k,l,m,n⟩:=q w o;refine Rh.steps (.one (Ng g (λi=>ZO v i) j X.cs)) k l ?_;rw[r];exact h v a m c _ _ (oh d (zf p v)) n
def zN(V:Env):ae ResultVar->aj (ae ag)
 |[]=>Z []
 |.tmp t::l=>match lk V t,zN V l with
  |some v,Z a=>Z (v::a)
  |_,_=>I
 |_=>I
def qg:ae ag->ag
 |[v]=>v
 |a=>.tuple a.toArray
theorem Nu{b:af ag}(i:gI N V b){f:dF}{c:ae ag}(h:zN V f.results.toList=Z c)(w:au):(results f b).run P w=.ok (qg c) w:=by
 have e:∀(l:ae ResultVar)(c:ae ag),zN V l=Z c->bx P (l.mapM λ(r:ResultVar)=>(match r with
   |.tmp t=>pure (b.getD t aC)
   |.cell a t=>do loadVar t (<-asAddr (b.getD a aC)):Sem ag)) w=.ok c w:=by
  intro l;induction l with
  |nil=>intro c h;cases h;rfl
  |cons r l j=>
   intro c h;cases r with
   |cell=>simp[zN]at h
   |tmp t=>
    simp only[zN]at h;split at h
    ·rename_i v k d g
     cases h;rw[List.mapM_cons,eJ];have:(pure (b.getD t aC):Sem ag).run P w=.ok v w:=by rw[i.get t v d];rfl
     rw[this];simp only[eh];rw[eJ,j k g];rfl
    ·cases h
 unfold results;rw[eJ,Array.mapM_eq_mapM_toList];have d:=e _ _ h;rw[Sem.run_map];erw [d];simp only[eh];cases c with
 |nil=>rfl
 |cons v c=>cases c<;>rfl
def CE:ae aK->Bool
 |[]=>U
 |.code .ret::_=>U
 |_=>Y
def acV(P:aA)(f:bA)(d:ae En)(R:ag->ae En->Prop)(a:az)(b:Hp):Prop:=a.fn=f/\∃v,(∀w:au,w.heap=b->a.leaving P w (.returned v))/\∃c,R v c/\Kn (c++d) b
abbrev fx(P:aA)(f:bA)(N:Nat)(b:ae az)(a:ae En)(R:ag->ae En->Prop):Cx:=⟨f,N,.normal,b,a,acV P f a R⟩
theorem Im{fn:bA}{tmps:af ag}{kind:dD}(h:CE W=U)(a:ae az)(w:au):step P (lone ⟨fn,tmps,W,ds,.run,kind,I⟩ a w)=.next (lone ⟨fn,tmps,W,ds,.returning,kind,I⟩ a w):=by
 unfold CE at h;split at h
 ·exact eY (es:=#[]) (by simp[G,aG,bE])
 ·exact eY (es:=#[]) (by simp[G,aG,bE])
 ·cases h
theorem dH{d:ae az}{j:ae En}{R:ag->ae En->Prop}(b:ae ag)(c:ae En)(h:R (qg b) c)(hL:L=c:=by kernel_rfl)(g:(CE W,ds.length,(P.funcs[f]?).bind λa=>zN V a.results.toList)=(U,0,Z b):=by kernel_rfl):Rs P (fx P f N d j R) W ds V L:=λs i H r p w e=>by
 subst e;subst hL;simp only[fK]at g;obtain⟨k,l,m⟩:=g;obtain⟨a,n,o⟩:=m4.1 m;have q:ds=[]:=De l;subst q;refine Rh.steps (.one (Im k d w)) F F (.done ⟨F,qg b,λu t=>⟨F,F,F,a,n,?_⟩,L,h,p⟩);rw[Nu r o]
def yZ:ae ag->Nat->Env
 |[],_=>[]
 |v::l,i=>(i,v)::yZ l (i+1)
theorem OM:∀(l:ae ag)(i t:Nat)(v:ag),lk (yZ l i) t=Z v->i<=t/\l[t-i]?=Z v
 |[],_,_,_,h=>by cases h
 |x::l,i,t,v,h=>by
  simp only[yZ]at h;rw[RB]at h;split at h
  ·rename_i e;subst e;cases h;exact⟨df _,by simp⟩
  ·rename_i e
   obtain⟨b,a⟩:=OM l (i+1) t v h;refine⟨by omega,?_⟩;rw[show t-i=(t-(i+1))+1 by omega];exact a
theorem Fl.of(N:Nat){a:ae ag}{R:ag->ae En->Prop}(h:∀c b,Rs P (fx P f N c b R) (bG P f a.toArray .normal).todo [] (yZ a 0) L)(g:(bG P f a.toArray .normal).tmps.size=N:=by kernel_rfl):Fl P f a.toArray L R:=λb H e=>Fh.of λc=>by
 have:=h c b aZ (bG P f a.toArray .normal).tmps H ⟨g,λt v i=>?_⟩ e
 ·exact this
 ·obtain⟨_,d⟩:=OM _ _ _ _ i
  simp only[Nat.sub_zero]at d;have aE:=(dv.1 d).1;simp only[bG,nk];rw[Array.getElem?_append_left (by simpa using aE)];simp[d]
end
end
section
open Go.Conc (G)
section
variable {P:aA}
def EV(W:Env)(L:ae En)(o:bh)(a:ae (Aw P))(c:ae Pr):aj (ag×ae (Aw P)×ae Pr):=
 let s:=cu (ot W) o
 match Zg o.op,a with
 |false,a=>match sE P s .r L a c with
  |some (.value v,_,_,a,c)=>Z (v,a,c)
  |_=>I
 |true,.d::a=>match sE P s .r L a c with
  |some (.value v,_,_,a,c)=>Z (v,a,c)
  |_=>I
 |true,.e x y _::a=>match sE P s .r L a c with
  |some (.value v,_,_,a,c)=>Z (y,a,.v v x::c)
  |_=>I
 |true,.s x (.value v) _::a=>Z (v,a,.s s x::c)
 |true,.m i b f x (.value v) _::a=>match L[i]? with
  |some (.ob d e)=>Z (v,a,.s s x::.n d b::.o e f::c)
  |_=>I
 |_,_=>I
def wO(P:aA)(N:Nat)(ops:af bh)(L:ae En):ae Nat->Env->ae (Aw P)->ae Pr->aj (ae ag×ae (Aw P)×ae Pr)
 |[],_,a,b=>Z ([],a,b)
 |i::l,W,a,b=>match ops[i]? with
  |none=>I
  |some o=>match vD ops W o with
   |none=>I
   |some Y=>match fits N o.dst with
    |true=>match wO P N ops L l (pe W o.dst aC) a b with
     |some (c,a,b)=>Z (aC::c,a,b)
     |none=>I
    |false=>I
   |some U=>match qP W o with
    |false=>I
    |true=>match EV W L o a b with
     |some (v,a,b)=>match fits N o.dst with
      |true=>match wO P N ops L l (pe W o.dst v) a b with
       |some (c,a,b)=>Z (v::c,a,b)
       |none=>I
      |false=>I
     |_=>I
def wP(ops:af bh):ae Nat->ae ag->Env->Env
 |i::a,v::b,W=>wP ops a b (pe W ((ops[i]?).bind (·.dst)) v)
 |_,_,W=>W
theorem aoP{W:Env}{L:ae En}{o:bh}{e f:ae (Aw P)}{d c:ae Pr}{v:ag}(h:EV W L o e d=Z (v,f,c)):∀p∈d,p∈c:=λp a=>by
 unfold EV at h;dsimp only at h;split at h
 ·split at h
  ·rename_i b;cases h;exact zR _ _ _ _ _ _ b p a
  ·cases h
 ·split at h
  ·rename_i b;cases h;exact zR _ _ _ _ _ _ b p a
  ·cases h
 ·split at h
  ·rename_i b;cases h;exact eK _ (zR _ _ _ _ _ _ b p a)
  ·cases h
 ·cases h;exact eK _ a
 ·split at h
  ·cases h;simp[a]
  ·cases h
 ·cases h
theorem aoO{W:Env}{L O:ae En}{o:bh}{f H:ae (Aw P)}{A s:ae Pr}{v:ag}{w:au}(h:EV W L o f A=Z (v,H,s))(a:∀p∈s,p.ok)(l:Kn (L++O) w.heap):(cu (ot W) o).run P w=.ok (.value v) w:=by
 have d:∀(C q:ae (Aw P))(m:ae Pr)(z:Md)(j:ae En)(x:ag),sE P (cu (ot W) o) .r L C A=Z (.value x,z,j,q,m)->(∀p∈m,p.ok)->(cu (ot W) o).run P w=.ok (.value x) w:=λC q m z j x c a=>by
  obtain⟨w1,B,_⟩:=zQ _ _ _ _ _ O _ _ _ _ _ w c a l (λx R=>by cases R);obtain⟨rfl,_⟩:=E' _ _ _ _ _ w w1 c B l.left a;exact B
 unfold EV at h;dsimp only at h;split at h
 ·split at h
  ·rename_i c;cases h;exact d _ _ _ _ _ _ c a
  ·cases h
 ·split at h
  ·rename_i c;cases h;exact d _ _ _ _ _ _ c a
  ·cases h
 ·rename_i x y p f _
  split at h
  ·rename_i g z j D pC c
   cases h;have e:g=x:=a (.v g x) (fu ..);subst e p;exact d _ _ _ _ _ _ c λp M=>a p (eK _ M)
  ·cases h
 ·rename_i x g p f _
  cases h;have e:cu (ot W) o=x:=a (.s _ x) (fu ..);rw[e];exact p w
 ·rename_i i b u x g p f _
  split at h
  ·rename_i r t K
   cases h;have e:cu (ot W) o=x:=a (.s _ x) aZ;have E:r=b:=a (.n r b) aZ;have G:t=u:=a (.o t u) aZ;subst E G;rw[e];exact p w (l.at K)
  ·cases h
 ·cases h
theorem SH{N:Nat}{ops:af bh}{L:ae En}{i:Nat}{m:ae Nat}{g j:ae (Aw P)}{W:Env}{f p:ae Pr}{r:ae ag}(h:wO P N ops L (i::m) W g f=Z (r,j,p)):∃o v q b a,ops[i]?=Z o/\r=v::q/\fits N o.dst=U/\wO P N ops L m (pe W o.dst v) b a=Z (q,j,p)/\((vD ops W o=Z U/\qP W o=U/\EV W L o g f=Z (v,b,a))\/(vD ops W o=Z Y/\v=aC/\a=f)):=by
 unfold wO at h;split at h
 ·cases h
 ·rename_i o l
  split at h
  ·cases h
  ·rename_i e
   split at h
   ·rename_i c
    split at h
    ·rename_i d;cases h;exact⟨o,aC,_,_,_,l,F,c,d,.inr ⟨e,F,F⟩⟩
    ·cases h
   ·cases h
  ·rename_i e
   split at h
   ·cases h
   ·rename_i s
    split at h
    ·rename_i v b a t
     split at h
     ·rename_i c
      split at h
      ·rename_i d;cases h;exact⟨o,v,_,b,a,l,F,c,d,.inl ⟨e,s,t⟩⟩
      ·cases h
     ·cases h
    ·cases h
theorem Z8{N:Nat}{ops:af bh}{L:ae En}:∀(m:ae Nat)(W:Env)(d e:ae (Aw P))(c b:ae Pr)(g:ae ag),wO P N ops L m W d c=Z (g,e,b)->∀p∈c,p∈b
 |[],W,d,e,c,b,g,h,p,a=>by cases h;exact a
 |i::l,W,d,e,c,b,g,h,p,a=>by
  obtain⟨o,v,q,s,r,_,_,_,j,f⟩:=SH h;refine Z8 l _ _ _ _ _ _ j p ?_;rcases f with⟨_,_,f⟩|⟨_,_,rfl⟩
  ·exact aoP f p a
  ·exact a
def yV(P:aA)(N:Nat)(ops:af bh)(O:ae En)(d:ae Nat)(W:Env)(f:ae ag)(w:au):Prop:=∃L b c e a,Kn (L++O) w.heap/\wO P N ops L d W b e=Z (f,c,a)/\∀p∈a,p.ok
section
variable {N:Nat}{ops:af bh}{O:ae En}{Q:Exit->Act->au->Prop}{md:Region.Mode}{S:au->Prop}{n:Nat}
theorem adf{a:Act}(c:bA)(b:dD):a.eval=bJ ⟨c,a.tmps,[],a.defers,.run,b,I⟩:=funext λx=>by cases x<;>rfl
theorem sY{a:Act}{b:aj Tmp}{v:ag}:a.put b v=⟨ic a.tmps b v,a.defers⟩:=by cases b<;>rfl
theorem Ri{W:Env}{o:bh}{a:Act}(f:gI N W a.tmps)(d:qP W o=U):cu a.eval o=cu (ot W) o:=by
 have c:=d;unfold qP at c;rw[ig]at c;rw[adf 0 .normal];exact execOp_congr o (λg b e=>by rw[e]at c;exact absurd c.1 (by simp[G2])) (JW (fr:=⟨0,a.tmps,[],a.defers,.run,.normal,I⟩) f d)
theorem Z'{i:Nat}{u:ae Nat}{W:Env}{H:ae ag}{a:Act}(m:gI N W a.tmps){K:au}(Bc:S K)(h:∀w,S w->yV P N ops O (i::u) W H w):∃o v l,ops[i]?=Z o/\H=v::l/\YieldsIf P ops S o v a/\gI N (pe W o.dst v) (a.put o.dst v).tmps/\∀w,S w->yV P N ops O u (pe W o.dst v) l w:=by
 obtain⟨L,a0,c,q,g,A,s,B⟩:=h K Bc;obtain⟨o,v,l,d,j,D,rfl,hf,C,t⟩:=SH s;have f:∀w,S w->∃L an eR M E G z,Kn (L++O) w.heap/\(∀p∈G,p.ok)/\wO P N ops L u (pe W o.dst v) M z=Z (l,eR,G)/\((vD ops W o=Z U/\qP W o=U/\EV W L o an E=Z (v,M,z))\/(vD ops W o=Z Y/\v=aC/\z=E)):=λw b=>by
  obtain⟨L,a0,c,q,g,A,s,B⟩:=h w b;obtain⟨o',v',β,d,j,R,e,_,C,t⟩:=SH s;rw[D]at R;cases R;cases e;exact⟨L,a0,c,d,q,g,j,A,B,C,t⟩
 refine⟨o,v,l,D,F,?_,?_,λw b=>?_⟩
 ·rcases t with⟨b,hk,_⟩|⟨b,e,_⟩
  ·refine .inl ⟨yF m b,λw hs=>?_⟩
   obtain⟨L,a0,c,d,q,g,j,x,y,q3,q4⟩:=f w hs;rcases q4 with⟨_,_,r⟩|⟨r,_⟩
   ·rw[Ri m hk]
    exact aoO r (λp hp=>y p (Z8 _ _ _ _ _ _ _ q3 p hp)) x
   ·rw[b]at r;cases r
  ·exact .inr ⟨yF m b,e⟩
 ·rw[sY]
  exact oh m (zf hf v)
 ·obtain⟨L,a0,c,d,q,g,j,x,y,q3,_⟩:=f w b
  exact⟨L,d,c,j,g,x,q3,y⟩
theorem Z9{o:bh}{i:Nat}{a:ae Nat}{v:ag}{b:ae ag}{W:Env}(c:ops[i]?=Z o):wP ops (i::a) (v::b) W=wP ops a b (pe W o.dst v):=by
 show wP ops a b (pe W ((ops[i]?).bind (·.dst)) v)=_;rw[c];rfl
theorem TU(p:∀c a C w,Q (.panic c) a w->Q (.panic c) C w)(u:Dj ops=U)(s:Region.sinkB md ops n=U)(q:Region.chainB md ops n=U)(r:n<ops.size){f:Nat}:∀(b:ae Nat)(listed:af Bool)(a:Act)(W:Env)(g:ae ag)(w:au),gI N W a.tmps->(∀w,S w->yV P N ops O b W g w)->vA md ops n b listed=U->HeadInv md ops n listed->S w->(∀d,gI N (wP ops b g W) d.tmps->d.defers=a.defers->Fp P md ops Q S n (HO P md ops Q n) f (marks b listed) d w)->Fp P md ops Q S n (HO P md ops Q n) (f+b.length) listed a w
 |[],listed,a,W,g,w,l,_,_,_,_,H=>H a l F
 |i::b,listed,a,W,g,w,l,A,t,e,h,H=>by
  obtain⟨o,v,tG,m,rfl,K,wa,z⟩:=Z' l h A;simp only[vA,ig,decide_eq_true_eq]at t;obtain⟨⟨⟨M,R⟩,y⟩,t4⟩:=t;have x:i∈nq md ops listed:=by simpa using M
  have B:∀listed a w,HO P md ops Q n listed a w->∀j∈nq md ops listed,n<=j:=λ_ _ _ G=>seqB_ready G.1;refine axB m (Region.noSelect_spec u) (λc a w=>p c _ _ w) s q r y B (f+b.length) listed a w e (Region.free_spec m R) x K h ?_;refine TU p u s q r b _ _ _ _ w wa z t4 (e.set x y) h λd D E=>H d (by rw[Z9 m];exact D) (E.trans (by rw[sY]))
theorem Kc(j:∀c a s w,Q (.panic c) a w->Q (.panic c) s w)(p:Dj ops=U){f:Nat}:∀(b:ae Nat)(listed:af Bool)(a:Act)(W:Env)(e:ae ag)(w:au),gI N W a.tmps->(∀w,S w->yV P N ops O b W e w)->vA md ops ops.size b listed=U->S w->(∀d,gI N (wP ops b e W) d.tmps->d.defers=a.defers->wpAnyH P md ops Q S f (marks b listed) d w)->wpAnyH P md ops Q S (f+b.length) listed a w
 |[],listed,a,W,e,w,h,_,_,_,H=>H a h F
 |i::b,listed,a,W,e,w,h,r,m,g,H=>by
  obtain⟨o,v,C,l,rfl,x,B,q⟩:=Z' h g r;simp only[vA,ig,decide_eq_true_eq]at m;obtain⟨⟨⟨y,z⟩,_⟩,A⟩:=m;refine wpAnyH_take (fuel:=f+b.length) l p z y (λc a w=>j c _ _ w) x g ?_;refine Kc j p b _ _ _ _ w B q A g λd t u=>H d (by rw[Z9 l];exact t) (u.trans (by rw[sY]))
end
def jT(P:aA)(X:Cx)(ops:af bh)(i:Nat)(T:ae bV)(W:Env)(L:ae En)(J:ae bV->Env->ae En->Prop):Prop:=∀(Q:Exit->Act->au->Prop)(a:Act)(w:au),gI X.N W a.tmps->a.defers=T->Kn (L++X.L2) w.heap->wpOp P ops Q i (λd b=>∃f e c,J f e c/\gI X.N e d.tmps/\d.defers=f/\Kn (c++X.L2) b.heap/\b.os=w.os/\b.output=w.output) a w
def q0(P:aA)(X:Cx)(k:ae aK)(os:Os)(out:af (Nat×ByteArray)):Exit->Act->au->Prop:=λe a w=>e=.normal/\Rn P ⟨X.fn,a.tmps,k,a.defers,.run,X.kind,I⟩ X.cs w λb c=>c.os=os/\c.output=out/\X.jg b c.heap
def Oo(P:aA)(X:Cx)(ops:af bh)(k:ae aK)(b:ae Nat)(T:ae bV)(W:Env)(L:ae En):Prop:=∀os out a w,X.kind≠.early->gI X.N W a.tmps->a.defers=T->Kn (L++X.L2) w.heap->w.os=os->w.output=out->wpOps P ops (q0 P X k os out) b a w
inductive Ts
 |e (j:Nat)
 |p (is:ae Nat)
instance{n:Nat}:OfNat Ts n:=⟨.e n⟩
def FG:Ts->ae Nat
 |.e j=>[j]
 |.p a=>a
@[reducible] def rn(P:aA)(X:Cx)(ops:af bh)(k:ae aK)(a:ae En->Prop)(b:ae Nat):ae Ts->ae bV->Env->ae En->Prop
 |[],T,W,L=>Oo P X ops k b T W L
 |.e i::c,T,W,L=>jT P X ops i T W L λT W L=>a L/\rn P X ops k a b c T W L
 |.p d::c,T,W,L=>(∃f g h e,wO P X.N ops [] d W g []=Z (f,h,e)/\(∀p∈e,p.ok)/\rn P X ops k a b c T (wP ops d f W) L)
def F4(md:Region.Mode)(ops:af bh)(n g:Nat):ae Ts->af Bool->Bool
 |[],l=>Region.seqB md ops g n l
 |.e j::a,l=>decide (nq md ops l=[j])&&decide (j<n)&&F4 md ops n g a (l.setIfInBounds j U)
 |.p b::a,l=>vA md ops n b l&&F4 md ops n g a (marks b l)
def DF(md:Region.Mode)(ops:af bh):ae Ts->af Bool->Bool
 |[],l=>decide (nq md ops l=[])
 |.e j::a,l=>decide (nq md ops l=[j])&&DF md ops a (l.setIfInBounds j U)
 |.p b::a,l=>vA md ops ops.size b l&&DF md ops a (marks b l)
def oM(a:ae Ts):Nat:=(a.flatMap FG).length
def VE(ops:af bh)(n:Nat)(a:ae Nat)(b:ae Ts):Bool:=Dj ops&&decide (n<ops.size)&&Region.sinkB .any ops n&&Region.chainB .any ops n&&vA .any ops n a (pG ops.size Y)&&F4 .any ops n (ops.size-n) b (marks a (pG ops.size Y))&&(a.length+oM b==n)
def VF(ops:af bh)(a:ae Nat)(b:ae Ts):Bool:=Dj ops&&vA .any ops ops.size a (pG ops.size Y)&&DF .any ops b (marks a (pG ops.size Y))&&(a.length+oM b==ops.size)
theorem RQ{md:Region.Mode}{ops:af bh}{n:Nat}:∀(a:ae Nat)(l:af Bool),vA md ops n a l=U->HeadInv md ops n l->HeadInv md ops n (marks a l)
 |[],l,_,h=>h
 |i::a,l,b,h=>by
  simp only[vA,ig,decide_eq_true_eq]at b;obtain⟨⟨⟨c,_⟩,d⟩,e⟩:=b;exact RQ a _ e (h.set (by simpa using c) d)
theorem aaa{N:Nat}{ops:af bh}{d:ae Nat}{W:Env}{e:ae ag}{b c:ae (Aw P)}{a:ae Pr}(h:wO P N ops [] d W b []=Z (e,c,a))(f:∀p∈a,p.ok)(w:au):yV P N ops [] d W e w:=⟨[],b,c,[],a,⟨by simp,List.Pairwise.nil⟩,h,f⟩
section
variable {X:Cx}{ops:af bh}{k:ae aK}{os:Os}{out:af (Nat×ByteArray)}{n:Nat}
theorem Fl.nil{T:ae bV}{W:Env}{L:ae En}(h:Rs P X k T W L):Oo P X ops k [] T W L:=λos out a w b c d e f g=>⟨F,by subst d f g;exact h b _ _ c e w F⟩
theorem TX(z:X.kind≠.early){Rk:ae En->Prop}{S:au->Prop}{K:ae Nat}(s:∀L w,Rk L->Kn (L++X.L2) w.heap->S w)(x:List.range' n (ops.size-n)=K)(D:Dj ops=U)(C:Region.sinkB .any ops n=U)(A:Region.chainB .any ops n=U)(B:n<ops.size):∀(d:ae Ts)(l:af Bool)(T:ae bV)(W:Env)(L:ae En)(a:Act)(w:au),F4 .any ops n (ops.size-n) d l=U->HeadInv .any ops n l->S w->rn P X ops k Rk K d T W L->gI X.N W a.tmps->a.defers=T->Kn (L++X.L2) w.heap->w.os=os->w.output=out->Fp P .any ops (q0 P X k os out) S n (HO P .any ops (q0 P X k os out) n) (oM d) l a w
 |[],l,T,W,L,a,w,f,b,t,h,g,m,o,p,q=>⟨f,by rw[x];exact h os out a w z g m o p q⟩
 |.e j::d,l,T,W,L,a,w,f,b,t,h,g,m,o,p,q=>by
  simp only[F4,ig,decide_eq_true_eq]at f;obtain⟨⟨r,v⟩,q3⟩:=f;have e:oM (.e j::d)=oM d+1:=by simp[oM,FG,Nat.add_comm]
  rw[e];refine⟨by rw[r];simp,λi M=>?_⟩;rw[r,yL]at M;subst M;exact⟨v,wpOp_mono (λH G⟨qy,jl,y,⟨R,r1⟩,r2,r3,E,r5,r6⟩=>⟨s y G R E,TX z s x D C A B d _ qy jl y H G q3 (b.set (by rw[r];simp) v) (s y G R E) r1 r2 r3 E (r5.trans p) (r6.trans q)⟩) (h _ a w g m o)⟩
 |.p u::d,l,T,W,L,a,w,f,b,t,⟨vs,an,eR,ps,g1,g2,h⟩,g,m,o,p,q=>by
  simp only[F4,ig]at f;have e:oM (.p u::d)=oM d+u.length:=by simp[oM,FG,Nat.add_comm]
  rw[e];exact TU (λc a H w h=>by cases h.1) D C A B u l a W vs w g (λw _=>aaa g1 g2 w) f.1 b t λa1 r v=>TX z s x D C A B d _ T _ L a1 w f.2 (RQ u l f.1 b) t h r (v.trans m) o p q
theorem TY(t:X.kind≠.early){Rk:ae En->Prop}{S:au->Prop}(q:∀L w,Rk L->Kn (L++X.L2) w.heap->S w)(v:Dj ops=U):∀(b:ae Ts)(l:af Bool)(T:ae bV)(W:Env)(L:ae En)(a:Act)(w:au),DF .any ops b l=U->S w->rn P X ops k Rk [] b T W L->gI X.N W a.tmps->a.defers=T->Kn (L++X.L2) w.heap->w.os=os->w.output=out->wpAnyH P .any ops (q0 P X k os out) S (oM b) l a w
 |[],l,T,W,L,a,w,d,r,h,f,g,m,o,p=>wpAnyH_done (by simpa[DF]using d) (h os out a w t f g m o p) 0
 |.e j::b,l,T,W,L,a,w,d,r,h,f,g,m,o,p=>by
  simp only[DF,ig,decide_eq_true_eq]at d;have e:oM (.e j::b)=oM b+1:=by simp[oM,FG,Nat.add_comm]
  rw[e];refine wpAnyH_all d.1 aZ λi A=>?_;rw[yL]at A;subst A;exact wpOp_mono (λz y⟨M,G,s,⟨B,R⟩,r2,r3,x,r5,r6⟩=>⟨q s y B x,TY t q v b _ M G s z y d.2 (q s y B x) R r2 r3 x (r5.trans o) (r6.trans p)⟩) (h _ a w f g m)
 |.p u::b,l,T,W,L,a,w,d,r,⟨vs,an,eR,ps,D,E,h⟩,f,g,m,o,p=>by
  simp only[DF,ig]at d;have e:oM (.p u::b)=oM b+u.length:=by simp[oM,FG,Nat.add_comm]
  rw[e];exact Kc (λc a z w h=>by cases h.1) v u l a W vs w f (λw _=>aaa D E w) d.1 r λC H K=>TY t q v b _ T _ L C w d.2 r h H (K.trans g) m o p
end
def iA:ae aK->af bh
 |.code (.region _ ops U)::_=>ops
 |_=>#[]
def pT:ae aK->ae aK
 |_::k=>k
 |[]=>[]
def EB:ae aK->Bool
 |.code (.region _ _ U)::_=>U
 |_=>Y
def nM(P:aA)(N:Nat)(ops:af bh)(L:ae En)(b:ae Nat)(a:ae (Aw P))(W:Env):ae ag:=match wO P N ops L b W a []with
 |some (c,_,_)=>c
 |none=>[]
def gS(P:aA)(N:Nat)(ops:af bh)(L:ae En)(b:ae Nat)(a:ae (Aw P))(W:Env):aj (ae ag)×Bool×ae Pr:=match wO P N ops L b W a []with
 |some (d,a,c)=>(Z d,a.isEmpty,c)
 |none=>(I,Y,[])
@[reducible] def lz(P:aA)(N:Nat)(ops:af bh)(L:ae En)(b:ae Nat)(a:ae (Aw P))(W:Env)(c:ae En):Prop:=gS P N ops c b a W=(Z (nM P N ops L b a W),U,(gS P N ops c b a W).2.2.map Pr.rf)
def rest(n:Nat)(a:ae Ts):ae Nat:=(oz n).filter λi=>!(a.flatMap FG).contains i
section
variable {X:Cx}{V:ae aK}{T:ae bV}{W:Env}{L:ae En}
theorem Jp(h:EB V=U):∃id ops k,V=.code (.region id ops U)::k:=by
 unfold EB at h;split at h
 ·exact⟨_,_,_,F⟩
 ·cases h
theorem Nr{N:Nat}{ops:af bh}{a O:ae En}{e:ae Nat}{c:ae (Aw P)}{g:ae ag}(h:gS P N ops a e c W=(Z g,U,(gS P N ops a e c W).2.2.map Pr.rf)){w:au}(l:Kn (a++O) w.heap):yV P N ops O e W g w:=by
 have d:=ym (congrArg (·.2.2) h);have b:=congrArg (·.1) h;unfold gS at b d;split at b
 ·rename_i o j m f
  simp only[f]at d;cases b;exact⟨a,c,j,[],m,l,f,d⟩
 ·cases b
theorem gX(n:Nat)(d:ae (Aw P))(b:ae Ts)(E:ae Nat)
  (s:rn P X (iA V) (pT V) (lz P X.N (iA V) L (rest n b) d W) E b T (wP (iA V) (rest n b) (nM P X.N (iA V) L (rest n b) d W) W) L)
  (hm:P.follows .mixedOrders=U:=by kernel_rfl)
  (K:(EB V,VE (iA V) n (rest n b) b,List.range' n ((iA V).size-n))=(U,U,E):=by kernel_rfl)
  (u:gS P X.N (iA V) L (rest n b) d W=(Z (nM P X.N (iA V) L (rest n b) d W),U,(gS P X.N (iA V) L (rest n b) d W).2.2.map Pr.rf):=by kernel_rfl):Rs P X V T W L:=λbC q H A z w e=>by
 subst e;simp only[fK]at K;obtain⟨y,o,G⟩:=K;obtain⟨id,ops,k,rfl⟩:=Jp y;unfold lz at s;simp only[iA,pT]at o G u s;generalize rest n b=m at*;generalize nM P X.N ops L m d W=v at u s;simp only[VE,ig,decide_eq_true_eq,beq_iff_eq]at o;obtain⟨⟨⟨⟨⟨⟨ln,hn⟩,hs⟩,R⟩,zA⟩,bY⟩,β⟩:=o;have D:HeadInv .any ops n (pG ops.size Y):=⟨by simp,λj oj _ p=>(by rw[getD_replicate_false]at p;cases p),λt _ A=>getD_in (by simpa using A) (getD_replicate_false _ _)⟩;refine Rn.code ?_;let S:au->Prop:=λw=>∃l,Kn (l++X.L2) w.heap/\gS P X.N ops l m d W=(Z v,U,(gS P X.N ops l m d W).2.2.map Pr.rf);have hS:∀w,S w->yV P X.N ops X.L2 m W v w:=λw⟨l,B,C⟩=>Nr C B;have H:=TU (P:=P) (Q:=q0 P X k w.os w.output) (md:=.any) (n:=n) (f:=oM b) (S:=S) (λc a a' w h=>by cases h.1) ln hs R hn m (pG ops.size Y) ⟨q,T⟩ W v {w with drawn:=w.drawn+1} A hS zA D ⟨L,z,u⟩ λa1 y o=>TX (os:=w.os) (out:=w.output) bC (Rk:=λl=>gS P X.N ops l m d W=(Z v,U,(gS P X.N ops l m d W).2.2.map Pr.rf)) (λl r B C=>⟨l,C,B⟩) G ln hs R hn b _ T _ L a1 {w with drawn:=w.drawn+1} bY (RQ m _ zA D) ⟨L,z,u⟩ s y o z F F;refine wp_region_any hm ?_;have x:∀listed a r,HO P .any ops (q0 P X k w.os w.output) n listed a r->wpAny P .any ops (q0 P X k w.os w.output) (ops.size-n) listed a r:=λlisted a r M=>by
  have p:(ops.toList.drop n).length=ops.size-n:=by simp
  have hg:∀j,(ops.toList.drop n)[j]?=ops[n+j]?:=λj=>by rw[Fx,w7]
  have o:=M.2;rw[<-p,wpOps_eq_wpList _ n hg]at o;have:=wpAny_of_seq (md:=.any) (Q':=q0 P X k w.os w.output) (ops.toList.drop n) n listed a r hg (by rw[p];exact M.1) o;rwa[p]at this
 have:=acp (g:=ops.size-n) x _ _ _ _ H;rw[show oM b+m.length+(ops.size-n)=ops.size by omega]at this;exact this
theorem dk(n:Nat)(d:ae (Aw P))(b:ae Ts)
  (o:rn P X (iA V) (pT V) (lz P X.N (iA V) L (rest n b) d W) [] b T (wP (iA V) (rest n b) (nM P X.N (iA V) L (rest n b) d W) W) L)
  (D:P.follows .mixedOrders=U:=by kernel_rfl)
  (v:(EB V,VF (iA V) (rest n b) b)=(U,U):=by kernel_rfl)
  (p:gS P X.N (iA V) L (rest n b) d W=(Z (nM P X.N (iA V) L (rest n b) d W),U,(gS P X.N (iA V) L (rest n b) d W).2.2.map Pr.rf):=by kernel_rfl):Rs P X V T W L:=λA m H E s w e=>by
 subst e;simp only[fK]at v;obtain⟨r,l⟩:=v;obtain⟨id,ops,k,rfl⟩:=Jp r;unfold lz at o;simp only[iA,pT]at l p o;generalize rest n b=j at*;generalize nM P X.N ops L j d W=q at p o;simp only[VF,ig,beq_iff_eq]at l;obtain⟨⟨⟨y,G⟩,B⟩,x⟩:=l;refine Rn.code ?_;let S:au->Prop:=λw=>∃g,Kn (g++X.L2) w.heap/\gS P X.N ops g j d W=(Z q,U,(gS P X.N ops g j d W).2.2.map Pr.rf);have C:∀w,S w->yV P X.N ops X.L2 j W q w:=λw⟨g,t,u⟩=>Nr u t;have H:=Kc (P:=P) (Q:=q0 P X k w.os w.output) (md:=.any) (f:=oM b) (S:=S) (λc a K w h=>by cases h.1) y j (pG ops.size Y) ⟨m,T⟩ W q {w with drawn:=w.drawn+1} E C G ⟨L,s,p⟩ λz r l=>TY (os:=w.os) (out:=w.output) A (Rk:=λg=>gS P X.N ops g j d W=(Z q,U,(gS P X.N ops g j d W).2.2.map Pr.rf)) (λg M t u=>⟨g,u,t⟩) y b _ T _ L z {w with drawn:=w.drawn+1} B ⟨L,s,p⟩ o r l s F F;refine wp_region_held (S:=S) D ?_;rwa[show oM b+j.length=ops.size by omega]at H
end
section
variable {X:Cx}{ops:af bh}{i:Nat}{T:ae bV}{W:Env}{L:ae En}{J:ae bV->Env->ae En->Prop}
def JO(ops:af bh)(W:Env)(i:Nat):aj (bh×Sem Next):=match ops[i]? with
 |some o=>match vD ops W o with
  |some U=>match qP W o with
   |true=>Z (o,cu (ot W) o)
   |false=>I
  |_=>I
 |none=>I
def Au(ops:af bh)(W:Env)(i:Nat):aj (Sem Next):=(JO ops W i).map (·.2)
def ru(ops:af bh)(i:Nat):aj Tmp:=match ops[i]? with
 |some o=>o.dst
 |none=>I
def fC(P:aA)(N:Nat)(ops:af bh)(T:ae bV)(W:Env)(L:ae En)(i:Nat)(a:ae (Aw P))(z:Md):Cf P:=match JO ops W i with
 |some (o,_)=>match Bo N ⟨[],T,W,L,z,a,[]⟩ o []with
  |some c=>c
  |none=>⟨[],[],[],[],.r,[.x],[]⟩
 |none=>⟨[],[],[],[],.r,[.x],[]⟩
theorem aoL{o:bh}{N:Nat}{a:Act}(h:JO ops W i=Z (o,s))(b:gI N W a.tmps):ops[i]?=Z o/\vH o (yielded ops a.tmps)=U/\cu a.eval o=s:=by
 unfold JO at h
 repeat'(split at h)
 all_goals first|(cases h;done)|skip
 rename_i f d _ e _ c;cases h;exact⟨d,yF b e,Ri b c⟩
theorem acr{o:bh}{c f:Cf P}{Q:Exit->Act->au->Prop}{K:Act->au->Prop}{a:Act}{w:au}(B:ops[i]?=Z o)(C:vD ops c.env o=Z U)(A:qP c.env o=U)(v:Bo X.N c o []=Z f)(z:f.rE)
  (j:gI X.N c.env a.tmps)(p:a.defers=c.ds)(y:Kn (c.L++X.L2) w.heap)(D:∀x,c.z=.n x->w.heap.size=x)
  (h:∀m g,gI X.N f.env m.tmps->m.defers=f.ds->Kn (f.L++X.L2) g.heap->(∀x,f.z=.n x->g.heap.size=x)->g.os=w.os->g.output=w.output->K m g):wpOp P ops Q i K a w:=by
 obtain⟨n,g,c0,E,b,q3,q,r,s,t,u,_⟩:=Su (L2:=X.L2) (w:=w) v z y D;unfold wpOp;simp only[B,yF j C,if_true,Oper.wp,Ri j A,E];unfold wN at b;split at b
 ·unfold fin at b
  split at b
  ·rename_i l e
   cases b;simp only[Oper.upon];rw[r]at e;exact .inl (h _ _ (by rw[sY];exact oh j e) (by rw[sY];exact p.trans s.symm) t u q3 q)
  ·cases b
 ·unfold fin at b
  split at b
  ·rename_i l e
   cases b;simp only[Oper.upon];rw[r]at e;exact .inl (h _ _ (by rw[sY];exact oh j e) (by rw[sY];exact p.trans s.symm) t u q3 q)
  ·cases b
 ·rename_i d
  unfold fin at b;split at b
  ·rename_i l e
   cases b;simp only[Oper.upon];have e:EY X.N c0.env o.dst aC=Z l:=e;rw[r]at e;exact .inl (h _ _ (by rw[sY];exact oh (tmps:=a.tmps) j e) (by rw[sY];show d::a.defers=d::c0.ds;rw[p,s]) t u q3 q)
  ·cases b
 ·cases b
theorem V1(m:ae (Aw P))(z:Md)(b:Cf P)(d:fC P X.N ops T W L i m z=b)(j:b.pr=b.rf)(h:J b.ds b.env b.L)(Q:Exit->Act->au->Prop)(a:Act)(w:au)(B:∀x,z=.n x->w.heap.size=x)(H:gI X.N W a.tmps)(r:a.defers=T)(u:Kn (L++X.L2) w.heap):wpOp P ops Q i (λg f=>∃q p l,J q p l/\gI X.N p g.tmps/\g.defers=q/\Kn (l++X.L2) f.heap/\f.os=w.os/\f.output=w.output) a w:=by
 unfold fC at d;split at d
 ·rename_i o s e
  split at d
  ·rename_i K t
   subst d;unfold JO at e
   repeat'(split at e)
   all_goals first|(cases e;done)|skip
   rename_i M y _ A _ v;cases e;exact acr (c:=⟨[],T,W,L,z,m,[]⟩) y A v t (DV j) H r u B λg f C D q3 _ E G=>⟨_,_,_,h,C,D,q3,E,G⟩
  ·subst d
   cases congrArg (·.1) j
 ·subst d
  cases congrArg (·.1) j
theorem jT.ev(b:ae (Aw P))(h:J (fC P X.N ops T W L i b .w).ds (fC P X.N ops T W L i b .w).env (fC P X.N ops T W L i b .w).L)(e:(fC P X.N ops T W L i b .w).pr=(fC P X.N ops T W L i b .w).rf:=by kernel_rfl):jT P X ops i T W L J:=λQ a w g c d=>
 V1 b .w _ F e h Q a w (λx f=>by cases f) g c d
theorem jT.new(b:Nat->ae (Aw P))(h:∀z,J (fC P X.N ops T W L i (b z) (.n z)).ds (fC P X.N ops T W L i (b z) (.n z)).env (fC P X.N ops T W L i (b z) (.n z)).L)(e:∀z,(fC P X.N ops T W L i (b z) (.n z)).pr=(fC P X.N ops T W L i (b z) (.n z)).rf:=by intro z;kernel_rfl):jT P X ops i T W L J:=λQ a w g c d=>
 V1 (b w.heap.size) (.n w.heap.size) _ F (e _) (h _) Q a w (λx f=>by cases f;rfl) g c d
theorem UZ{N:Nat}{a:Act}(h:Au ops W i=Z s)(d:gI N W a.tmps):∃o,ops[i]?=Z o/\o.dst=ru ops i/\vH o (yielded ops a.tmps)=U/\cu a.eval o=s:=by
 unfold Au at h;obtain⟨⟨o,f⟩,c,rfl⟩:=gV.1 h;obtain⟨b,e,q3⟩:=aoL c d;exact⟨o,b,by unfold ru;rw[b],e,q3⟩
theorem jT.op{Q:ag->ae En->Prop}(p:nS P X.L2 L s Q)(h:∀v b,Q v b->J T (pe W (ru ops i) v) b)(c:(Au ops W i,fits X.N (ru ops i))=(Z s,U):=by kernel_rfl):jT P X ops i T W L J:=λQ a w e g j=>by
 simp only[fK]at c;obtain⟨c,l⟩:=c;obtain⟨o,m,f,q,d⟩:=UZ c e;obtain⟨v,y,b,r,t,q3,u,x⟩:=p w j;unfold wpOp;simp only[m,q,if_true,Oper.wp,d,r,Oper.upon];rw[f];exact .inl ⟨T,_,b,h v b u,by rw[sY];exact oh e (zf l v),by rw[sY];exact g,x,t,q3⟩
theorem HG{L0 Lr:ae En}{F:ae En->ae En}{c:af ag}{R:ag->ae En->Prop}(hf:Fl P f c L0 R)(hp:L.Perm (L0++Lr))(H:∀b,(b++Lr).Perm (F b))(h:∀v b,R v b->J T (pe W (ru ops i) v) (F b))(d:((Au ops W i).bind (λs=>(sE P s .r [] [] []).map λq=>(q.1,q.2.2.2.2)),fits X.N (ru ops i))=(Z (.enter f c,[]),U):=by kernel_rfl):jT P X ops i T W L J:=λQ a w t D r=>by
 simp only[fK]at d;obtain⟨d,M⟩:=d;obtain⟨s,E,G⟩:=m4.1 d;obtain⟨⟨n,z,y,C,ps⟩,m,p⟩:=gV.1 G;simp only[fK]at p;obtain⟨rfl,rfl⟩:=p;obtain⟨o,ho,B,hw,l⟩:=UZ E t;have A:Kn ([]++(L++X.L2)) w.heap:=r;obtain⟨g,u,_⟩:=zQ s .r z [] y (L++X.L2) [] C [] [] _ w m aZ A (λx hx=>by cases hx);obtain⟨rfl,_⟩:=E' s [] [] [] _ w g m u ⟨by simp,List.Pairwise.nil⟩ aZ;have K:Kn (L0++(Lr++X.L2)) g.heap:=r.perm (by rw[<-gw];exact hp.append_right _);have j:=hf (Lr++X.L2) g.heap K g rfl;unfold wpOp;simp only[ho,hw,if_true,Oper.wp,l,u,Oper.upon];refine .inl (Calls.mono j ?_);rintro e w' ⟨v,rfl,q1,q2,b,q3,q4⟩;rw[B];exact⟨T,_,F b,h v b q3,by rw[sY];exact oh t (zf M v),by rw[sY];exact D,Kn.perm q4 (by rw[<-gw];exact(H b).append_right _),q1,q2⟩
end
end
end
section
open Go.Conc (G)
def G9:ae Nat->ae (aj En)->aj (ae En×ae En)
 |[],M=>Z ([],M.filterMap id)
 |i::is,M=>match M[i]? with
  |some (Z e)=>match G9 is (M.set i I)with
   |some (a,b)=>Z (e::a,b)
   |none=>I
  |_=>I
theorem V':∀(M:ae (aj En))(i:Nat)(e:En),M[i]?=Z (Z e)->(M.filterMap id).Perm (e::(M.set i I).filterMap id)
 |[],i,e,h=>by simp at h
 |x::M,0,e,h=>by
  simp only[tL,ij]at h;subst h;simp
 |x::M,i+1,e,h=>by
  simp only[Kp]at h;have:=V' M i e h;cases x with
  |none=>simpa using this
  |some y=>
   simp only[List.set_cons_succ,List.filterMap_cons,id];exact(this.cons y).trans (BH e y _)
theorem ZB:∀(is:ae Nat)(M:ae (aj En))(a b:ae En),G9 is M=Z (a,b)->(M.filterMap id).Perm (a++b)
 |[],M,a,b,h=>by cases h;exact .refl _
 |i::is,M,a,b,h=>by
  unfold G9 at h;split at h
  ·rename_i e f
   split at h
   ·rename_i c g d
    cases h;exact(V' M i e f).trans ((ZB is _ c b d).cons e)
   ·cases h
  ·cases h
def outs(is:ae Nat)(L:ae En):aj (ae En×ae En):=G9 is (L.map Z)
def left(is:ae Nat)(L:ae En):ae En:=match outs is L with
 |some (_,b)=>b
 |none=>[]
theorem wL{is:ae Nat}{L L0 Lr:ae En}(h:outs is L=Z (L0,Lr)):L.Perm (L0++Lr):=by
 have:=ZB is _ _ _ h;rwa[List.filterMap_map,show(id∘Z:En->aj En)=Z from F,List.filterMap_some]at this
def blank:ae Nat->ae (aj En)->ae (aj En)
 |[],M=>M
 |i::is,M=>blank is (M.set i I)
def Pl:ae Nat->ae En->ae (aj En)->ae En
 |[],a,M=>M.filterMap id++a
 |i::is,e::a,M=>Pl is a (M.set i (Z e))
 |_::_,[],M=>M.filterMap id
def fill(is:ae Nat)(a L:ae En):ae En:=Pl is a (blank is (L.map Z))
theorem V9:∀(M:ae (aj En))(i:Nat)(e:En),M[i]?=Z I->(e::M.filterMap id).Perm ((M.set i (Z e)).filterMap id)
 |[],i,e,h=>by simp at h
 |x::M,0,e,h=>by
  simp only[tL,ij]at h;subst h;simp
 |x::M,i+1,e,h=>by
  simp only[Kp]at h;have:=V9 M i e h;cases x with
  |none=>simpa using this
  |some y=>
   simp only[List.set_cons_succ,List.filterMap_cons,id];exact(BH y e _).trans (this.cons y)
theorem V4:∀(is:ae Nat)(b:ae En)(M:ae (aj En)),is.Nodup->(∀i∈is,M[i]?=Z I)->(b++M.filterMap id).Perm (Pl is b M)
 |[],b,M,_,_=>kW
 |i::is,[],M,_,_=>.refl _
 |i::is,e::b,M,c,h=>by
  simp only[rb]at c;have f:=V9 M i e (h i (fu ..));refine List.Perm.trans ?_ (V4 is b (M.set i (Z e)) c.2 λj d=>?_)
  ·exact(pK (a:=e) (l₁:=b) (l₂:=M.filterMap id)).symm.trans (f.append_left b)
  ·rw[kU (λe=>c.1 (by rw[e];exact d))]
   exact h j (eK _ d)
theorem U4:∀(is:ae Nat)(M:ae (aj En))(i:Nat),M[i]?=Z I->(blank is M)[i]?=Z I
 |[],M,i,h=>h
 |j::is,M,i,h=>by
  refine U4 is _ i ?_;by_cases e:j=i
  ·subst e
   rw[sJ (dv.1 h).1]
  ·rw[kU e];exact h
theorem ZA:∀(is:ae Nat)(M:ae (aj En))(a b:ae En),G9 is M=Z (a,b)->b=(blank is M).filterMap id/\is.Nodup/\(∀i∈is,∃e,M[i]?=Z (Z e))/\∀i∈is,(blank is M)[i]?=Z I
 |[],M,a,b,h=>by cases h;exact⟨F,List.Pairwise.nil,(λ_ h=>by cases h),(λ_ h=>by cases h)⟩
 |i::is,M,a,b,h=>by
  unfold G9 at h;split at h
  ·rename_i e g
   split at h
   ·rename_i m s n
    cases h;obtain⟨p,q,q3,r⟩:=ZA is _ m b n;have aE:=(dv.1 g).1;have l:i∉is:=λo=>by
     obtain⟨f,d⟩:=q3 i o;rw[sJ aE]at d;cases d
    refine⟨p,rb.2 ⟨l,q⟩,λj c=>?_,λj c=>?_⟩
    ·rcases bQ.1 c with rfl|c
     ·exact⟨e,g⟩
     ·obtain⟨f,d⟩:=q3 j c
      rw[kU (λe=>l (by rw[e];exact c))]at d;exact⟨f,d⟩
    ·rcases bQ.1 c with rfl|c
     ·exact U4 is _ j (sJ aE)
     ·exact r j c
   ·cases h
  ·cases h
theorem Lz{is:ae Nat}{L L0 b a:ae En}(h:outs is L=Z (L0,b)):(a++b).Perm (fill is a L):=by
 obtain⟨c,d,_,e⟩:=ZA is _ _ _ h;rw[c];exact V4 is a _ d e
section
variable {P:aA}{X:Cx}{V:ae aK}{S:ae bV}{W:Env}{L:ae En}
theorem c5(is:ae Nat){L0:ae En}{a:af ag}{R:ag->ae En->Prop}(d:Fl P f a L0 R)(h:∀v b,R v b->Rs P X (qQ V) S (pe W (ky V) v) (fill is b L))
  (c:outs is L=Z (L0,left is L):=by kernel_rfl)
  (g:((mG V W).bind (λs=>(sE P s .r [] [] []).map λq=>(q.1,q.2.2.2.2)),fits X.N (ky V))=(Z (.enter f a,[]),U):=by kernel_rfl):Rs P X V S W L:=
 nu L0 (left is L) d (wL c) (λv b e=>eP (Lz c) (h v b e)) g
theorem BP{a:af ag}{R:ag->ae En->Prop}(c:Fl P f a [] R)(h:∀v b,R v b->Rs P X (qQ V) S (pe W (ky V) v) (b++L))(d:((mG V W).bind (λs=>(sE P s .r [] [] []).map λq=>(q.1,q.2.2.2.2)),fits X.N (ky V))=(Z (.enter f a,[]),U):=by kernel_rfl):Rs P X V S W L:=
 nu [] L c (by rw[List.nil_append]) h d
theorem vL(is:ae Nat)(h:Rs P X V S W ((match outs is L with
  |some (a,_)=>a
  |none=>[])++left is L))(e:(outs is L).isSome=U:=by kernel_rfl):Rs P X V S W L:=by
 obtain⟨⟨a,b⟩,c⟩:=Ae.1 e;have d:left is L=b:=by unfold left;rw[c]
 rw[c,d]at h;exact eP (wL c) h
def BX(t:aJ)(v x:ag):Sem Next:=qo (Builtin.append_ #[t,t] t #[v,x]) λv=>.pure (.value v)
def Ik:En->ag
 |.row _ _ g n a _=>sv g n a
 |_=>aC
def Ii:En->Nat
 |.row _ _ _ n _ _=>n
 |_=>0
def Lq:En->Nat
 |.ob b _=>b
 |_=>0
def B5:En->ae ag
 |.ob _ (.cells c _ _)=>c.toList
 |.row _ _ _ _ _ a=>a
 |_=>[]
def Ih(g n c:Nat)(a:ae ag):En->En
 |.row e b _ _ _ d=>.row e b (Z g) n c (d++a)
 |x=>x
def gm(L:ae En)(k:Nat):En:=match L[k]? with
 |some e=>e
 |none=>.ob 0 (.cells #[] 0)
def BW(P:aA)(t b:Nat):En->Bool
 |.row e a _ _ _ _=>match P.underlying t,P.info? e with
  |some (.slice c),Z i=>Nat.beq c e&&Nat.beq i.size a&&Nat.ble 1 a&&Nat.ble i.bytes b&&(match i.zero with
   |some z=>Nat.beq z.cells.size a
   |none=>Y)
  |_,_=>Y
 |_=>Y
def Ij:En->Nat
 |.row _ a _ _ _ _=>a
 |_=>0
theorem UX{E:ae En}(G k t:Nat)(q:aR)(m c:Nat)(a:ae ag)(n:Nat)(M:L[k]?=Z (gm L k))(f:BW P t G (gm L k)=U)(hl:a.length=m*Ij (gm L k))(h6:∀u∈a,u.oneCell'=U)(C:Ii (gm L k)=n)(hm:0<m)(hb:n+m<=140737488355328/\(n+m)*G<=140737488355328)
  (Q:∀H,Kn (L++E) H->∀j u,a[j]?=Z u->rP H (q.add j)=Z u):
  nS P E L (BX t (Ik (gm L k)) (.slice (Z q) m c)) λv O=>∃g b,v=sv (Z g) (n+m) b/\O=L.set k (Ih g (n+m) b a (gm L k)):=λw B=>by
 generalize gm L k=T at*;cases T with
 |ob=>simp[BW]at f
 |ro=>simp[BW]at f
 |row e d g h b N=>
  have C:h=n:=C;subst C;simp only[BW]at f;split at f
  ·rename_i J i ht hi
   simp only[ig]at f;obtain⟨⟨⟨⟨r,s⟩,y⟩,A⟩,p⟩:=f;have r:=BL r;have s:=BL s;have y:=yP y;have A:=yP A;subst r;split at p
   ·rename_i z hz
    have p:=BL p;have hr:Row w.heap J d (sv g h b) h N:=B.at M;obtain⟨g',o,w',q1,q2,q3,l,q5⟩:=run_append_lies (P:=P) w t t 0 J i z d i.bytes ht hi hz s F p y (sv g h b) h N (aam.1 hr) q m c a hl (λj u hj=>Q w.heap B j u hj) h6 hm (by unfold maxLen;omega) (sK (Nat.mul_le_mul (df _) A) (sK hb.2 aX)) (je _) w.heap.size F;refine⟨_,w',_,?_,q3.os,q3.output,⟨g',o,F,F⟩,?_⟩
    ·show((Builtin.append_ #[t,t] t #[sv g h b,.slice (Z q) m c])>>=λv=>(ayU (lT v):Sem Next)).run P w=_
     rw[eJ,q1];rfl
    ·refine xi B M (aam.2 q2) (λx D=>?_) q3.size λx D R=>?_
     ·cases D
      rcases l with l|l
      ·rw[N5]at l;exact .inl l
      ·exact .inr (Nat.le_of_eq l.symm)
     ·exact q3.block x D λe=>R (by rw[N5]at e;exact e.symm)
   ·cases p
  ·cases f
theorem OL{m:ae En}(c t k a n:Nat)(x:n+1<=140737488355328/\(n+1)*c<=140737488355328)
  (h:(L[k]?,Ii (gm L k),BW P t c (gm L k),Nat.beq (B5 (gm L a)).length (1*Ij (gm L k))&&(B5 (gm L a)).all Value.oneCell',L[a]?)=(Z (gm L k),n,U,U,Z (.ob (Lq (gm L a)) (.cells (B5 (gm L a)).toArray (match gm L a with
    |.ob _ (.cells _ t _)=>t
    |_=>0)))):=by kernel_rfl):
  nS P m L (BX t (Ik (gm L k)) (.slice (Z ⟨Lq (gm L a),0,I⟩) 1 1)) λv O=>∃g b,v=sv (Z g) (n+1) b/\O=L.set k (Ih g (n+1) b (B5 (gm L a)) (gm L k)):=by
 simp only[fK,ig]at h;obtain⟨o,p,q,⟨s,d⟩,r⟩:=h;refine UX c k t _ 1 1 _ n o q (BL s) (by rw[BI]at d;exact d) p ai x λH w j u l=>?_;have f:H[_]?=Z _:=w.at r;unfold Addr.add;split
 ·rename_i e;subst e;exact uR f (by simpa using l)
 ·simp only[qn];exact uR f (by simpa using l)
theorem app1{c:ae En}(t k a n:Nat)(d:n+1<=34359738368)
  (h:(L[k]?,Ii (gm L k),BW P t 4096 (gm L k),Nat.beq (B5 (gm L a)).length (1*Ij (gm L k))&&(B5 (gm L a)).all Value.oneCell',L[a]?)=(Z (gm L k),n,U,U,Z (.ob (Lq (gm L a)) (.cells (B5 (gm L a)).toArray (match gm L a with
    |.ob _ (.cells _ t _)=>t
    |_=>0)))):=by kernel_rfl):
  nS P c L (BX t (Ik (gm L k)) (.slice (Z ⟨Lq (gm L a),0,I⟩) 1 1)) λv O=>∃g b,v=sv (Z g) (n+1) b/\O=L.set k (Ih g (n+1) b (B5 (gm L a)) (gm L k)):=
 OL 4096 t k a n ai h
def O6:En->aj (Nat×ae ag)
 |.row _ _ (Z g) _ _ a=>Z (g,a)
 |.ob b (.cells c _ _)=>Z (b,c.toList)
 |_=>I
theorem UW{x:ae En}(l t r k Q g b m c n:Nat)(s a:ae ag)(N:0<m)(G:n+m<=140737488355328/\(n+m)*l<=140737488355328)(M:a.length=m*r)(D:∀u∈a,u.oneCell'=U)(w:∀j u,a[j]?=Z u->s[b+j]?=Z u)
  (h:(L[k]?,Ii (gm L k),BW P t l (gm L k),(L[Q]?).bind O6,Ij (gm L k))=(Z (gm L k),n,U,Z (g,s),r):=by kernel_rfl):
  nS P x L (BX t (Ik (gm L k)) (.slice (Z ⟨g,b,I⟩) m c)) λv O=>∃g d,v=sv (Z g) (n+m) d/\O=L.set k (Ih g (n+m) d a (gm L k)):=by
 simp only[fK]at h;obtain⟨z,A,B,C,rfl⟩:=h;refine UX l k t _ m c a n z B M D A N G λH o j u J=>?_;obtain⟨e,p,f⟩:=m4.1 C;have q:=w j u J;have E:(⟨g,b,I⟩:aR).add j=⟨g,b+j,I⟩:=by
  unfold Addr.add;split
  ·rename_i e;subst e;rfl
  ·rfl
 rw[E];unfold O6 at f;split at f
 ·cases f
  obtain⟨y,R,T,_⟩:=Nz (o.at p) F q;exact uR R T
 ·cases f
  exact uR (o.at p:H[_]?=Z _) (by rw[<-w7];exact q)
 ·cases f
theorem FU{p:ae En}(t e k l g b m c n:Nat)(f a:ae ag)(s:0<m)(w:n+m<=34359738368)(r:a.length=m*e)(q:∀u∈a,u.oneCell'=U)(o:∀j u,a[j]?=Z u->f[b+j]?=Z u)
  (h:(L[k]?,Ii (gm L k),BW P t 4096 (gm L k),(L[l]?).bind O6,Ij (gm L k))=(Z (gm L k),n,U,Z (g,f),e):=by kernel_rfl):
  nS P p L (BX t (Ik (gm L k)) (.slice (Z ⟨g,b,I⟩) m c)) λv O=>∃g d,v=sv (Z g) (n+m) d/\O=L.set k (Ih g (n+m) d a (gm L k)):=
 UW 4096 t e k l g b m c n f a s ai r q o h
end
section
variable {P:aA}{X:Cx}{V uq:ae aK}{S qy:ae bV}{W jl:Env}{L O:ae En}
theorem cx(h:Rs P X V S W L)(a:(uq,qy,O)=(V,S,L):=by kernel_rfl)(b:W.map (λp=>lk jl p.1)=W.map λp=>Z p.2:=by kernel_rfl):Rs P X uq qy jl O:=by
 cases a;exact Ky W h b
theorem j4{ι:Type}(m:ι->Nat)(a:ι->Env)(J:ι->ae En)(C:ι->Prop)(i:ι)(b:C i)(step:∀i,C i->(∀j,m j<m i->C j->Rs P X V S (a j) (J j))->Rs P X V S (a i) (J i))(e:L=J i:=by kernel_rfl)(f:(a i).map (λp=>lk W p.1)=(a i).map λp=>Z p.2:=by kernel_rfl):Rs P X V S W L:=by
 have d:∀n i,m i=n->C i->Rs P X V S (a i) (J i):=by
  intro n;induction n using Nat.strongRecOn with
  |ind n g=>
   intro i h b;exact step i b λj l c=>g (m j) ai j F c
 exact e▸Ky (a i) (d _ i F b) f
theorem jJ(e b:Nat)(h:Rs P X V S W (L++[.row e b I 0 0 []])):Rs P X V S W L:=λg c H j f=>by
 refine h g c H j ?_;refine Kn.perm (L:=.row e b I 0 0 []::(L++X.L2)) ⟨λx d=>?_,nQ.2 ⟨λx d y l=>(by cases l),f.nd⟩⟩ (by simpa using(pK (a:=En.row e b I 0 0 []) (l₁:=L) (l₂:=X.L2)).symm);rcases bQ.1 d with rfl|d
 ·exact⟨by simp,.inl ⟨rfl,rfl⟩⟩
 ·exact f.sat x d
theorem dP(is:ae Nat)(h:Rs P X V S W (left is L))(n:(outs is L).isSome=U:=by kernel_rfl):Rs P X V S W L:=λg c H o j=>by
 obtain⟨⟨a,b⟩,f⟩:=Ae.1 n;have m:left is L=b:=by unfold left;rw[f]
 rw[m]at h;have d:=j.perm ((wL f).append_right X.L2);rw[gw]at d;exact h g c H o ⟨λe l=>d.sat e (HA _ l),(Di.1 d.nd).2.1⟩
theorem a7{N:Nat}{c:ae az}{b:ae En}{R:ag->ae En->Prop}(is:ae Nat)(a:ae ag)(O:ae En)(h:R (qg a) O)(e:left is L=O:=by kernel_rfl)(j:(outs is L).isSome=U:=by kernel_rfl)(g:(CE V,S.length,(P.funcs[f]?).bind λd=>zN W d.results.toList)=(U,0,.some a):=by kernel_rfl):Rs P (fx P f N c b R) V S W L:=
 dP is (dH a O h e g) j
theorem acJ(h:∀H,Kn (L++X.L2) H->p)(k:p->Rs P X V S W L):Rs P X V S W L:=λc a H d b=>k (h H b) c a H d b
def VN:En->aj (aj Nat×Nat×Nat)
 |.row _ _ g n a _=>.some (g,n,a)
 |_=>I
theorem lF(i:Nat)(g:aj Nat)(n a:Nat)(s:0<n)(k:∀b,g=.some b->n<=a->Rs P X V S W L)(q:(L[i]?).map VN=.some (.some (g,n,a)):=by kernel_rfl):Rs P X V S W L:=acJ (p:=∃b,g=gH b/\n<=a) (λH m=>by
                                                                                                                                                          obtain⟨e,o,h⟩:=gV.1 q;cases e with
                                                                                                                                                          |row e c f u t r=>
                                                                                                                                                           cases h;rcases(m.at o:Row H e c (sv g n a) n r).2 with⟨_,h⟩|⟨b,d,l,h,_,j,_⟩
                                                                                                                                                           ·omega
                                                                                                                                                           ·cases g with
                                                                                                                                                            |none=>simp[sv]at h
                                                                                                                                                            |some f=>simp[sv]at h;exact⟨f,F,by omega⟩
                                                                                                                                                          |_=>cases h) λ⟨b,h,j⟩=>k b h j
end
def GN(t:aJ)(x ix:ag):Sem Next:=qo (Instr.indexAt t x ix) λv=>.pure (.value v)
def lM(P:aA)(t a:Nat):Bool:=match P.underlying t with
 |some (.slice e)=>match P.info? e with
  |some i=>Nat.beq i.size a
  |none=>Y
 |_=>Y
theorem akX{P:aA}{t a g n b:Nat}{i:Int}{j:Nat}(q:i=j)(r:j<n)(h:lM P t a=U)(w:au):(GN t (sv (Z g) n b) (ah i)).run P w=.ok (.value (.pointer (Z ⟨g,j*a,I⟩))) w:=by
 subst q;unfold lM at h;split at h
 ·rename_i e o
  split at h
  ·rename_i c l
   have h:=BL h;have p:bx P (underlying t) w=.ok (.slice e) w:=by
    show bx P (match P.underlying t with
     |some d=>pure d
     |none=>stuck "no such type") w=_
    rw[o];rfl
   have m:bx P (sizeOf e) w=.ok a w:=by
    unfold sizeOf typeInfo;rw[eJ,eJ];show eh (eh (bx P program w) _) _=_;simp only[program,bx,eh,l];show Result.ok c.size w=_;rw[h]
   show((Instr.indexAt t (sv (Z g) n b) (ah j))>>=λv=>(ayU (lT v):Sem Next)).run P w=_;unfold Instr.indexAt;simp only[eJ,ah,asIntOf,pure,bx,p,eh,sv,iy];rw[if_pos (by constructor<;>omega)];simp only[eJ,m,eh,bx,Int.toNat_natCast];unfold Addr.add;split
   ·rename_i f;rw[f]
   ·simp
  ·cases h
 ·cases h
theorem vB{P:aA}{t:aJ}{d:TypeDesc}(h:P.underlying t=Z d)(w:au):bx P (underlying t) w=.ok d w:=by
 show bx P (match P.underlying t with
  |some d=>pure d
  |none=>stuck "no such type") w=_
 rw[h];rfl
theorem Fb{P:aA}{t:aJ}{i:TypeInfo}(h:P.info? t=Z i)(w:au):bx P (sizeOf t) w=.ok i.size w:=by
 unfold sizeOf typeInfo;rw[eJ,eJ];show eh (eh (bx P program w) _) _=_;simp only[program,bx,eh,h];rfl
theorem adu{P:aA}{t d n b c:Nat}{g:aj Nat}{f:aj aR}(j:n<=b)(h:lM P t d=U)(w:au):(BX t (sv g n b) (.slice f 0 c)).run P w=.ok (.value (sv g n b)) w:=by
 unfold lM at h;split at h
 ·rename_i e p
  split at h
  ·rename_i r m
   show((Builtin.append_ #[t,t] t #[sv g n b,.slice f 0 c])>>=λv=>(ayU (lT v):Sem Next)).run P w=_;have l:∀s:Nat,bx P (Builtin.firstCells s 0 (.slice f 0 c)) w=.ok #[] w:=λs=>by
    cases f with
    |none=>rfl
    |some a=>simp only[Builtin.firstCells,Nat.zero_mul,loadCells,loadCellsFrom,pure,bx]
   unfold Builtin.append_;have q:=vB p w;have o:=Fb m w;simp only[eJ,sv,List.size_toArray,iH,ow,Nat.reduceAdd,Nat.reduceLT,getElem?_pos,List.getElem_toArray,List.getElem_cons_zero,List.getElem_cons_succ,q,o,eh,Builtin.lenOf,pure,bx,Nat.add_zero,if_pos j];cases g with
   |none=>simp[j,eJ,l,eh,pure,bx]
   |some g=>simp[j,eJ,l,eh,pure,bx,storeCells]
  ·cases h
 ·cases h
def J4(t:aJ)(x a:ag):Sem Next:=qo (vF t x (Z a) I I) λv=>.pure (.value v)
theorem aaM{P:aA}{t b g n a:Nat}{l:Int}{i:Nat}(m:l=i)(s:i<=n)(h:lM P t b=U)(w:au):(J4 t (sv (Z g) n a) (ah l)).run P w=.ok (.value (.slice (Z (if a=i then⟨g,0,I⟩else⟨g,i*b,I⟩)) (n-i) (a-i))) w:=by
 subst m;unfold lM at h;split at h
 ·rename_i e p
  split at h
  ·rename_i r d
   have h:=BL h;subst h;show((vF t (sv (Z g) n a) (Z (ah i)) I I)>>=λv=>(ayU (lT v):Sem Next)).run P w=_;have q:=vB p w;have o:=Fb d w;have j:bx P (xa (ah i) n .sliceB) w=.ok i w:=by
    unfold xa;simp only[eJ,ah,asIntOf,pure,bx,eh];rw[if_pos (by constructor<;>omega)];simp[bx]
   unfold vF Instr.slice;simp only[eJ,q,eh,sv,iy,Instr.sliceBounds,pure,bx,j,o,Option.isSome_none,kg,if_false];congr 4;by_cases c:a=i
   ·simp[c]
   ·rw[if_neg c,if_neg c]
    unfold Addr.add;split
    ·rename_i f;simp[f]
    ·simp
  ·cases h
 ·cases h
theorem wrap64{x y:Int}(h:x=y/\-9223372036854775808<=y/\y<9223372036854775808):IntKind.i64.wrap x=y:=by
 obtain⟨rfl,a,b⟩:=h;show(if(U&&decide (x%18446744073709551616>=9223372036854775808))=U then x%18446744073709551616-18446744073709551616 else x%18446744073709551616)=x;rw[Bool.true_and];split
 ·rename_i h;have h:=of_decide_eq_true h;omega
 ·rename_i h;have h:=of_decide_eq_false (Bool.eq_false_iff.2 h);omega
abbrev aI{P:aA}(x y:Int)(h:x=y/\-9223372036854775808<=y/\y<9223372036854775808):Aw P:=.e (ah (IntKind.i64.wrap x)) (ah y) (congrArg ah (wrap64 h))
abbrev bB{P:aA}{a b:Bool}(p:a=b):Aw P:=.e (.bool a) (.bool b) (congrArg Value.bool p)
abbrev bT{P:aA} [Decidable p](h:p):Aw P:=.e (.bool (decide p)) (.bool U) (congrArg Value.bool (decide_eq_true h))
abbrev bF{P:aA} [Decidable p](h:¬p):Aw P:=.e (.bool (decide p)) (.bool Y) (congrArg Value.bool (decide_eq_false h))
abbrev se{P:aA}{a b:Int}(h:a≠b):Aw P:=.e (.bool (a !=b)) (.bool U) (congrArg Value.bool (by simpa using h))
abbrev wG{P:aA}{a b:Int}(h:a=b):Aw P:=.e (.bool (a !=b)) (.bool Y) (congrArg Value.bool (by simpa using h))
abbrev fp{P:aA}(a b:Int)(h:a<b:=by omega):Aw P:=bT h
abbrev fH{P:aA}(a b:Int)(h:¬a<b:=by omega):Aw P:=bF h
abbrev gtT{P:aA}(a b:Int)(h:a>b:=by omega):Aw P:=bT h
abbrev Gi{P:aA}(a b:Int)(h:¬a>b:=by omega):Aw P:=bF h
abbrev Rz{P:aA}(a b:Int)(h:a<=b:=by omega):Aw P:=bT h
abbrev leF{P:aA}(a b:Int)(h:¬a<=b:=by omega):Aw P:=bF h
abbrev zi{P:aA}(a b:Int)(h:a>=b:=by omega):Aw P:=bT h
abbrev AD{P:aA}(a b:Int)(h:¬a>=b:=by omega):Aw P:=bF h
abbrev fB{P:aA}(a b:Int)(h:a=b:=by omega):Aw P:=bT h
abbrev bR{P:aA}(a b:Int)(h:¬a=b:=by omega):Aw P:=bF h
abbrev CM{P:aA}(a b:Int)(h:a≠b:=by omega):Aw P:=se h
abbrev oO{P:aA}(a b:Int)(h:a=b:=by omega):Aw P:=wG h
abbrev aS{P:aA}(i:Nat)(h:(i:Int)+1=((i+1:Nat):Int)/\-9223372036854775808<=((i+1:Nat):Int)/\((i+1:Nat):Int)<9223372036854775808:=by omega):Aw P:=aI ((i:Int)+1) ((i+1:Nat):Int) h
abbrev rr{P:aA}(i:Nat){a:ae ag}{j:Nat}(p:a[j]?=Z x):Aw P:=.r i a j x p
abbrev ix{P:aA}(t a g n b:Nat)(i:Int)(j:Nat)(c:i=j/\j<n)(h:lM P t a=U:=by kernel_rfl):Aw P:=.s (GN t (sv (Z g) n b) (ah i)) (.value (.pointer (Z ⟨g,j*a,I⟩))) (akX c.1 c.2 h)
abbrev iX{P:aA}{n j:Nat}(t a g b:Nat)(c:j<n)(h:lM P t a=U:=by kernel_rfl):Aw P:=ix t a g n b j j ⟨F,c⟩ h
abbrev a0{P:aA}(t b:Nat)(g:aj Nat)(n a:Nat)(d:aj aR)(c:Nat)(e:n<=a)(h:lM P t b=U:=by kernel_rfl):Aw P:=.s (BX t (sv g n a) (.slice d 0 c)) (.value (sv g n a)) (adu e h)
abbrev slA{P:aA}(t a g n b:Nat)(l:Int)(i:Nat)(c:l=i/\i<n/\n<=b)(h:lM P t a=U:=by kernel_rfl):Aw P:=.s (J4 t (sv (Z g) n b) (ah l)) (.value (.slice (Z ⟨g,i*a,I⟩) (n-i) (b-i))) (λw=>by
 rw[aaM c.1 (Nat.le_of_lt c.2.1) h w,if_neg ai])
abbrev slZ{P:aA}(t a g n b:Nat)(l:Int)(c:l=n)(h:lM P t a=U:=by kernel_rfl):Aw P:=.s (J4 t (sv (Z g) n b) (ah l)) (.value (.slice (Z (if b=n then⟨g,0,I⟩else⟨g,n*a,I⟩)) 0 (b-n))) (λw=>by
 rw[aaM c (df _) h w,Nat.sub_self])
def rC{P:aA}(N:Nat)(ops:af bh):ae Nat->Cf P->Cf P
 |[],c=>c
 |i::is,c=>match ops[i]? with
  |none=>⟨[],[],[],[],.r,[.x],[]⟩
  |some o=>match vD ops c.env o with
   |none=>⟨[],[],[],[],.r,[.x],[]⟩
   |some Y=>match fin N c o.dst aC []with
    |some c=>rC N ops is c
    |none=>⟨[],[],[],[],.r,[.x],[]⟩
   |some U=>match qP c.env o with
    |false=>⟨[],[],[],[],.r,[.x],[]⟩
    |true=>match Bo N c o []with
     |some c=>rC N ops is c
     |none=>⟨[],[],[],[],.r,[.x],[]⟩
theorem Pq{P:aA}{N:Nat}{ops:af bh}:∀(is:ae Nat)(c:Cf P),(rC N ops is c).an.isEmpty=U->∀p∈c.ps,p∈(rC N ops is c).ps
 |[],c,_,p,a=>a
 |i::is,c,h,p,a=>by
  unfold rC at h⊢
  repeat'(split at h)
  all_goals first|(simp at h;done)|skip
  ·rename_i o e _ f _ b d
   exact Pq is b h p (by rw[Gd d];exact a)
  ·rename_i o e _ f _ g _ b d
   exact Pq is b h p (Zx d p a)
section
variable {P:aA}{X:Cx}{ops:af bh}{k:ae aK}
theorem Ps:∀(is:ae Nat)(c:Cf P)(g:Os)(b:af (Nat×ByteArray))(a:Act)(w:au),X.kind≠.early->(rC X.N ops is c).an.isEmpty=U->(rC X.N ops is c).rE->Rs P X k (rC X.N ops is c).ds (rC X.N ops is c).env (rC X.N ops is c).L->gI X.N c.env a.tmps->a.defers=c.ds->Kn (c.L++X.L2) w.heap->(∀x,c.z=.n x->w.heap.size=x)->w.os=g->w.output=b->wpOps P ops (q0 P X k g b) is a w
 |[],c,g,b,a,w,n,e,f,h,j,q,r,v,s,t=>⟨F,by subst s t;rw[q];exact h n _ _ j r w F⟩
 |i::is,c,g,b,a,w,n,e,f,h,j,q,r,v,s,t=>by
  rw[wpOps_cons];unfold rC at e f h
  repeat'(split at e)
  all_goals first|(simp at e;done)|skip
  ·rename_i o l _ m _ u d
   simp only[l,m,d]at f h;unfold wpOp;simp only[l,yF j m,kg,if_false];unfold fin at d;split at d
   ·rename_i M B
    cases d;exact Ps is _ g b _ w n e f h (by rw[sY];exact oh j B) (by rw[sY];exact q) r v s t
   ·cases d
  ·rename_i o l _ m _ y _ u d
   simp only[l,m,y,d]at f h;exact acr l m y d (λp A=>f p (Pq is u e p A)) j q r v λz J C D q3 E G H=>Ps is u g b z J n e f h C D q3 E (G.trans s) (H.trans t)
variable {S:ae bV}{W:Env}{L:ae En}{fl:ae Nat}
theorem Fl.run(b:ae (Aw P))(h:Rs P X k (rC X.N ops fl ⟨[],S,W,L,.w,b,[]⟩).ds (rC X.N ops fl ⟨[],S,W,L,.w,b,[]⟩).env (rC X.N ops fl ⟨[],S,W,L,.w,b,[]⟩).L)(d:(rC X.N ops fl ⟨[],S,W,L,.w,b,[]⟩).pr=(rC X.N ops fl ⟨[],S,W,L,.w,b,[]⟩).rf:=by kernel_rfl):Oo P X ops k fl S W L:=λo c a w e f g j l m=>
 Ps fl _ o c a w e (congrArg (·.1) d) (DV d) h f g j (λx n=>by cases n) l m
end
section
variable {P:aA}{X:Cx}{ops:af bh}{i:Nat}{S:ae bV}{W jm:Env}{L L0:ae En}{k:ae aK}{is fl:ae Nat}{js:ae Ts}{K:ae (Aw P)}
theorem vN(a:ae (Aw P))(h:rn P X ops k (lz P X.N ops L0 is K jm) fl js (fC P X.N ops S W L i a .w).ds (fC P X.N ops S W L i a .w).env (fC P X.N ops S W L i a .w).L)
 (b:gS P X.N ops (fC P X.N ops S W L i a .w).L is K jm=(Z (nM P X.N ops L0 is K jm),U,(gS P X.N ops (fC P X.N ops S W L i a .w).L is K jm).2.2.map Pr.rf):=by kernel_rfl)
 (c:(fC P X.N ops S W L i a .w).pr=(fC P X.N ops S W L i a .w).rf:=by kernel_rfl):rn P X ops k (lz P X.N ops L0 is K jm) fl (.e i::js) S W L:=jT.ev a ⟨b,h⟩ c
theorem rk(a:Nat->ae (Aw P))(h:∀z,rn P X ops k (lz P X.N ops L0 is K jm) fl js (fC P X.N ops S W L i (a z) (.n z)).ds (fC P X.N ops S W L i (a z) (.n z)).env (fC P X.N ops S W L i (a z) (.n z)).L)
 (b:∀z,gS P X.N ops (fC P X.N ops S W L i (a z) (.n z)).L is K jm=(Z (nM P X.N ops L0 is K jm),U,(gS P X.N ops (fC P X.N ops S W L i (a z) (.n z)).L is K jm).2.2.map Pr.rf):=by intro z;kernel_rfl)
 (c:∀z,(fC P X.N ops S W L i (a z) (.n z)).pr=(fC P X.N ops S W L i (a z) (.n z)).rf:=by intro z;kernel_rfl):rn P X ops k (lz P X.N ops L0 is K jm) fl (.e i::js) S W L:=jT.new a (λz=>⟨b z,h z⟩) c
theorem BR{Q:ag->ae En->Prop}(a:nS P X.L2 L s Q)(h:∀v O,Q v O->lz P X.N ops L0 is K jm O/\rn P X ops k (lz P X.N ops L0 is K jm) fl js S (pe W (ru ops i) v) O)(b:(Au ops W i,fits X.N (ru ops i))=(Z s,U):=by kernel_rfl):rn P X ops k (lz P X.N ops L0 is K jm) fl (.e i::js) S W L:=jT.op a h b
theorem gY{T:Prop}{O:ae En}(h:T)(a:gS P X.N ops O is K jm=(Z (nM P X.N ops L0 is K jm),U,(gS P X.N ops O is K jm).2.2.map Pr.rf):=by kernel_rfl):lz P X.N ops L0 is K jm O/\T:=⟨a,h⟩
theorem FF{a:ae Nat}(b:ae (Aw P))(h:rn P X ops k (lz P X.N ops L0 is K jm) fl js S (wP ops a (nM P X.N ops [] a b W) W) L)(d:gS P X.N ops [] a b W=(Z (nM P X.N ops [] a b W),U,(gS P X.N ops [] a b W).2.2.map Pr.rf):=by kernel_rfl):rn P X ops k (lz P X.N ops L0 is K jm) fl (.p a::js) S W L:=by
 have e:=ym (congrArg (·.2.2) d);have c:=congrArg (·.1) d;generalize nM P X.N ops [] a b W=j at h c;unfold gS at c e;split at c
 ·rename_i l f g d
  simp only[d]at e;cases c;exact⟨j,b,f,g,d,e,h⟩
 ·cases c
theorem tM(b:ae Nat){c:ae En}{a:af ag}{R:ag->ae En->Prop}(e:Fl P f a c R)(h:∀v O,R v O->lz P X.N ops L0 is K jm (fill b O L)/\rn P X ops k (lz P X.N ops L0 is K jm) fl js S (pe W (ru ops i) v) (fill b O L))
  (d:outs b L=Z (c,left b L):=by kernel_rfl)
  (g:((Au ops W i).bind (λs=>(sE P s .r [] [] []).map λq=>(q.1,q.2.2.2.2)),fits X.N (ru ops i))=(Z (.enter f a,[]),U):=by kernel_rfl):rn P X ops k (lz P X.N ops L0 is K jm) fl (.e i::js) S W L:=
 HG e (wL d) (λ_=>Lz d) h g
end
end
abbrev pt(b:Nat):ag:=.pointer (Z ⟨b,0,I⟩)
theorem tR{α:Type}{f:α->ae ag}{k:Nat}(b:∀a,(f a).length=k):∀l:ae α,(l.flatMap f).length=l.length*k
 |[]=>by simp
 |a::l=>by rw[tK,mL,b,tR b l,iH,Nat.succ_mul,Nat.add_comm]
theorem dS{α:Type}{f:α->ae ag}{k:Nat}(b:∀a,(f a).length=k):∀(l:ae α)(i j:Nat)(a:α),j<k->l[i]?=Z a->(l.flatMap f)[i*k+j]?=(f a)[j]?
 |[],i,j,a,_,h=>by simp at h
 |x::l,0,j,a,c,h=>by
  simp only[tL,ij]at h;subst h;rw[tK,Nat.zero_mul,qn,Df (by rw[b];exact c)]
 |x::l,i+1,j,a,c,h=>by
  simp only[Kp]at h;rw[tK,Ab (by rw[b,Nat.succ_mul];omega),b,<-dS b l i j a c h];congr 1;rw[Nat.succ_mul];omega
structure bt where
 bP:Int
 gone:Bool
 val:ByteArray
def bt.cells(v:bt):ae ag:=[ah v.bP,.bool v.gone,.string v.val]
theorem bt.len(v:bt):v.cells.length=3:=rfl
structure bI where
 c:Nat
 g:aj Nat
 cap:Nat
 vs:ae bt
def bI.hd(x:bI):En:=.ob x.c (.cells #[sv x.g x.vs.length x.cap] 138)
def bI.rw(x:bI):En:=.row 216 3 x.g x.vs.length x.cap (x.vs.flatMap bt.cells)
def upto(b:ae bt)(a:Int):Nat->Nat
 |0=>0
 |k+1=>match b[k]? with
  |some v=>if v.bP>a then upto b a k else k+1
  |none=>k+1
theorem Od(b:ae bt)(a:Int):∀k,upto b a k<=k
 |0=>df _
 |k+1=>by
  unfold upto;split
  ·split
   ·exact Nat.le_succ_of_le (Od b a k)
   ·exact df _
  ·exact df _
theorem U0(x:bI)(d:Int)(j:x.vs.length<1000000):Fl Sv 155 [pt x.c,ah d].toArray [x.hd,x.rw] λv L=>v=ah ((upto x.vs d x.vs.length:Int)-1)/\L=[x.hd,x.rw]:=by
 obtain⟨c,g,b,a⟩:=x;refine Fl.of 29 λp o=>?_;refine ao [0,aI ((a.length:Int)-1) (a.length-1) (by simp only at j;omega),.g,.x] ?_;refine j4 (λk=>k) (λk=>[(0,pt c),(1,ah d),(5,ah ((k:Int)-1))]) (λ_=>[bI.hd ⟨c,g,b,a⟩,bI.rw ⟨c,g,b,a⟩]) (λk=>k<=a.length/\upto a d k=upto a d a.length) a.length ⟨df _,F⟩ ?_;rintro k ⟨q,e⟩ n;cases k with
 |zero=>
  refine ao [AD (-1) 0] ?_;exact dH [ah (-1)] _ ⟨by rw[<-e];rfl,F⟩
 |succ k=>
  obtain⟨v,f⟩:∃v,a[k]?=Z v:=⟨_,dq ai⟩;refine lF 1 g a.length b ai λi m _=>?_;subst m;have l:(a.flatMap bt.cells)[k*3+0]?=Z (ah v.bP):=dS bt.len a k 0 v aX f;by_cases h:v.bP>d
  ·refine ao [zi (((k+1:Nat):Int)-1) 0,0,ix 136 3 i a.length b (((k+1:Nat):Int)-1) k ai,rr 1 l,bT h,aI (((k+1:Nat):Int)-1-1) ((k:Int)-1) (by simp only at j;omega),.g,.x] ?_
   exact cx (n k (Nat.lt_succ_self k) ⟨by omega,by rw[<-e];simp only[upto,f,if_pos h]⟩)
  ·refine ao [zi (((k+1:Nat):Int)-1) 0,0,ix 136 3 i a.length b (((k+1:Nat):Int)-1) k ai,rr 1 l,bF h] ?_
   exact dH [ah (((k+1:Nat):Int)-1)] _ ⟨by rw[<-e];simp only[upto,f,if_neg h];rfl,F⟩
theorem bt.one(v:bt):∀u∈v.cells,u.oneCell'=U:=by simp[bt.cells,Value.oneCell',ah]
theorem DL{f:α->ae ag}(b:∀a,∀u∈f a,u.oneCell'=U)(l:ae α):∀u∈l.flatMap f,u.oneCell'=U:=λu c=>by
 obtain⟨a,_,h⟩:=List.mem_flatMap.1 c;exact b a u h
theorem agP{f:α->ae ag}(b:∀a,(f a).length=k)(l:ae α)(i j:Nat)(u:ag)(h:((l.drop i).flatMap f)[j]?=Z u):(l.flatMap f)[i*k+j]?=Z u:=by
 by_cases c:i<=l.length
 ·have:l.flatMap f=(l.take i).flatMap f++(l.drop i).flatMap f:=by rw[<-xc,List.take_append_drop]
  rw[this,Ab (by rw[tR b,Dh,Nat.min_eq_left c];omega),tR b,Dh,Nat.min_eq_left c,Nat.add_sub_cancel_left];exact h
 ·rw[List.drop_eq_nil_of_le ai]at h
  simp at h
def CH(a:ae bt):Int:=match a.getLast? with
 |some v=>v.bP
 |none=>0
theorem MP(x:bI)(f:x.vs.length<1000000):Fl Sv 136 [pt x.c].toArray [x.hd,x.rw] λv L=>v=ah (CH x.vs)/\L=[x.hd,x.rw]:=by
 obtain⟨c,g,b,i⟩:=x;refine Fl.of 22 λk j=>?_;rcases List.eq_nil_or_concat i with rfl|⟨a,v,rfl⟩
 ·refine ao [0,.d] ?_
  exact dH [ah 0] _ ⟨rfl,rfl⟩
 ·simp only[List.concat_eq_append]at f⊢
  have l:(a++[v]).length=a.length+1:=by simp
  refine ao [0,bR ((a++[v]).length) 0] ?_;refine lF 1 g (a++[v]).length b ai λd e _=>?_;subst e;have h:((a++[v]).flatMap bt.cells)[a.length*3+0]?=Z (ah v.bP):=dS bt.len _ _ 0 v aX aZ;refine dk 14 [0,0,aI (((a++[v]).length:Int)-1) a.length ai,ix 136 3 d (a++[v]).length b a.length a.length ai,rr 1 h] [] (Fl.nil ?_);refine ao [] ?_;exact dH [ah v.bP] _ ⟨by simp[CH,qg],F⟩
def sn(a:ae bt)(b:Int):ByteArray×Bool:=match a[upto a b a.length-1]? with
 |some v=>if upto a b a.length=0\/v.gone=U then(⟨#[]⟩,Y)else(v.val,U)
 |none=>(⟨#[]⟩,Y)
theorem aq2(x:bI)(e:Int)(l:x.vs.length<1000000):Fl Sv 135 [pt x.c,ah e].toArray [x.hd,x.rw] λv L=>v=.tuple #[.string (sn x.vs e).1,.bool (sn x.vs e).2]/\L=[x.hd,x.rw]:=by
 refine Fl.of 32 λo n=>?_;refine ao [] ?_;refine c5 [0,1] (U0 x e l) ?_;rintro _ _ ⟨rfl,rfl⟩;obtain⟨c,g,b,a⟩:=x;have m:=Od a e a.length;cases hk:upto a e a.length with
 |zero=>
  simp only[hk];refine ao [fp (((0:Nat):Int)-1) 0] ?_;refine dH [.string ⟨#[]⟩,.bool Y] _ ⟨?_,F⟩;unfold sn;simp only[hk];cases a[0-1]?<;>simp[qg]
 |succ k=>
  simp only[hk];obtain⟨v,f⟩:∃v,a[k]?=Z v:=⟨_,dq ai⟩;refine lF 1 g a.length b ai λi d _=>?_;subst d;have h:(a.flatMap bt.cells)[k*3+1]?=Z (.bool v.gone):=dS bt.len a k 1 v aX f;have j:(a.flatMap bt.cells)[k*3+2]?=Z (.string v.val):=dS bt.len a k 2 v aX f;cases d:v.gone with
  |true=>
   rw[d]at h;refine ao [fH (((k+1:Nat):Int)-1) 0,0,ix 136 3 i a.length b (((k+1:Nat):Int)-1) k ai,rr 1 h] ?_;refine dH [.string ⟨#[]⟩,.bool Y] _ ⟨?_,F⟩;simp[sn,hk,f,d,qg]
  |false=>
   rw[d]at h;refine ao [fH (((k+1:Nat):Int)-1) 0,0,ix 136 3 i a.length b (((k+1:Nat):Int)-1) k ai,rr 1 h,0,ix 136 3 i a.length b (((k+1:Nat):Int)-1) k ai,rr 1 j] ?_;refine dH [.string v.val,.bool U] _ ⟨?_,F⟩;simp[sn,hk,f,d,qg]
theorem alp(x:bI)(v:bt)(f:x.vs.length<1000000):Fl Sv 160 [pt x.c,.agg #[ah v.bP,.bool v.gone,.string v.val]].toArray [x.hd,x.rw] λ_ L=>∃g b,L=[bI.hd ⟨x.c,g,b,x.vs++[v]⟩,bI.rw ⟨x.c,g,b,x.vs++[v]⟩]:=by
 obtain⟨c,g,b,d⟩:=x;refine Fl.of 14 λi h=>?_;refine cd (λ_=>[]) λz=>?_;refine gX 8 [0,2,2,2] [6,7] [8,9,10] ?_;refine rk (λ_=>[]) λj=>BR (app1 136 1 3 d.length (by simp only at f;omega)) ?_;rintro _ _ ⟨e,a,rfl,rfl⟩;refine gY (Fl.run [0] ?_);refine ao [] ?_;refine a7 [2,3] [] [.ob c (.cells #[sv (Z e) (d.length+1) a] 138),.row 216 3 (Z e) (d.length+1) a (d.flatMap bt.cells++v.cells)] ⟨Z e,a,?_⟩;simp[bI.hd,bI.rw]
def mJ(a:ae bt)(b:Int):ae bt:=match upto a b a.length with
 |0=>a
 |k+1=>match a[k]? with
  |some v=>if v.gone then a.drop (k+1)else a.drop k
  |none=>a
theorem ab7{X:Cx}{a:ae aK}{k:ae bV}{e:Env}(c g d:Nat)(b:ae bt)(i:Nat)(n:i<b.length)(o:b.length<1000000)
  (h:∀f j,Rs Sv X (qQ a) k (pe e (ky a) (sv (Z f) (b.length-i) j)) [.ob c (.cells #[sv (Z g) b.length d] 138),.row 216 3 (Z g) b.length d (b.flatMap bt.cells),.row 216 3 (Z f) (0+(b.length-i)) j ((b.drop i).flatMap bt.cells)])
  (l:L=[.ob c (.cells #[sv (Z g) b.length d] 138),.row 216 3 (Z g) b.length d (b.flatMap bt.cells)]:=by kernel_rfl)
  (m:(mG a e,fits X.N (ky a))=(Z (BX 136 (sv I 0 0) (.slice (Z ⟨g,i*3,I⟩) (b.length-i) (d-i))),U):=by kernel_rfl):Rs Sv X a k e L:=by
 subst l;refine jJ 216 3 (iW (FU 136 3 2 1 g (i*3) (b.length-i) (d-i) 0 (b.flatMap bt.cells) ((b.drop i).flatMap bt.cells) ai ai (by rw[tR bt.len,List.length_drop]) (DL bt.one _) (agP bt.len b i)) ?_ m);rintro _ _ ⟨f,j,rfl,rfl⟩;have:=h f j;rw[qn]at this⊢;exact this
theorem awY(x:bI)(h:Int)(i:x.vs.length<1000000):Fl Sv 152 [pt x.c,ah h].toArray [x.hd,x.rw] λ_ L=>∃g a,L=[bI.hd ⟨x.c,g,a,mJ x.vs h⟩,bI.rw ⟨x.c,g,a,mJ x.vs h⟩]:=by
 refine Fl.of 30 λp o=>?_;refine ao [] ?_;refine c5 [0,1] (U0 x h i) ?_;rintro _ _ ⟨rfl,rfl⟩;obtain⟨c,g,a,b⟩:=x;have n:=Od b h b.length;unfold mJ;cases hk:upto b h b.length with
 |zero=>
  simp only[hk];refine ao [fp (((0:Nat):Int)-1) 0] ?_;exact dH [] _ ⟨g,a,F⟩
 |succ k=>
  simp only[hk];obtain⟨v,m⟩:∃v,b[k]?=Z v:=⟨_,dq ai⟩;simp only[m];refine lF 1 g b.length a ai λd l q=>?_;subst l;have j:(b.flatMap bt.cells)[k*3+1]?=Z (.bool v.gone):=dS bt.len b k 1 v aX m;cases l:v.gone with
  |true=>
   rw[l]at j;rw[if_pos F];rcases Nat.lt_or_ge (k+1) b.length with aE|r
   ·refine ao [fH (((k+1:Nat):Int)-1) 0,0,ix 136 3 d b.length a (((k+1:Nat):Int)-1) k ai,rr 1 j,aI (((k+1:Nat):Int)-1+1) ((k+1:Nat):Int) (by simp only at i;omega),0,slA 136 3 d b.length a ((k+1:Nat):Int) (k+1) ai] ?_
    refine ab7 c d a b (k+1) aE i λe f=>?_;refine ao [0] (a7 [1] [] [.ob c (.cells #[sv (Z e) (b.length-(k+1)) f] 138),.row 216 3 (Z e) (0+(b.length-(k+1))) f ((b.drop (k+1)).flatMap bt.cells)] ⟨Z e,f,?_⟩);simp[bI.hd,bI.rw]
   ·refine ao [fH (((k+1:Nat):Int)-1) 0,0,ix 136 3 d b.length a (((k+1:Nat):Int)-1) k ai,rr 1 j,aI (((k+1:Nat):Int)-1+1) ((k+1:Nat):Int) (by simp only at i;omega),0,slZ 136 3 d b.length a ((k+1:Nat):Int) ai,a0 136 3 I 0 0 (Z (if a=b.length then⟨d,0,I⟩else⟨d,b.length*3,I⟩)) (a-b.length) (df _),0] ?_
    exact jJ 216 3 (a7 [1] [] _ ⟨I,0,by rw[List.drop_eq_nil_of_le ai]⟩)
  |false=>
   rw[l]at j;rw[if_neg aZ];refine ao [fH (((k+1:Nat):Int)-1) 0,0,ix 136 3 d b.length a (((k+1:Nat):Int)-1) k ai,rr 1 j,0,slA 136 3 d b.length a (((k+1:Nat):Int)-1) k ai] ?_;refine ab7 c d a b k ai i λe f=>?_;refine ao [0] (a7 [1] [] [.ob c (.cells #[sv (Z e) (b.length-k) f] 138),.row 216 3 (Z e) (0+(b.length-k)) f ((b.drop k).flatMap bt.cells)] ⟨Z e,f,?_⟩);simp[bI.hd,bI.rw]
theorem adq(x:bI)(l:x.vs.length<1000000):Fl Sv 115 [pt x.c].toArray [x.hd,x.rw] λr L=>∃g b,r=sv g x.vs.length b/\L=[x.hd,x.rw,.row 216 3 g x.vs.length b (x.vs.reverse.flatMap bt.cells)]:=by
 obtain⟨c,g,b,a⟩:=x;refine Fl.of 26 λA y=>?_;refine ao [0,aI ((a.length:Int)-1) (a.length-1) (by simp only at l;omega),.g,.x] ?_;refine jJ 216 3 ?_;refine j4 (ι:=Nat×aj Nat×Nat) (λi=>i.1) (λi=>[(0,pt c),(3,sv i.2.1 (a.length-i.1) i.2.2),(4,ah ((i.1:Int)-1))]) (λi=>[bI.hd ⟨c,g,b,a⟩,bI.rw ⟨c,g,b,a⟩,.row 216 3 i.2.1 (a.length-i.1) i.2.2 ((a.drop i.1).reverse.flatMap bt.cells)]) (λi=>i.1<=a.length) (a.length,I,0) (df _) ?_ ?_ ?_
 rotate_left
 ·simp only[Dd,List.reverse_nil,List.flatMap_nil,Nat.sub_self]
  kernel_rfl
 ·simp only[Nat.sub_self]
  kernel_rfl
 rintro⟨k,h,f⟩ u w;simp only at u l;cases k with
 |zero=>
  refine ao [AD (-1) 0] ?_;exact dH [sv h a.length f] _ ⟨h,f,F,F⟩
 |succ k=>
  obtain⟨v,e⟩:∃v,a[k]?=Z v:=⟨_,dq ai⟩;refine lF 1 g a.length b ai λn s B=>?_;subst s;have d:∀j,j<3->(a.flatMap bt.cells)[k*3+j]?=v.cells[j]?:=λj t=>dS bt.len a k j v t e;refine cd (λ_=>[zi (((k+1:Nat):Int)-1) 0,0,ix 136 3 n a.length b (((k+1:Nat):Int)-1) k ai,rr 1 (d 0 aX),rr 1 (d 1 aX),rr 1 (d 2 aX)]) λz=>?_;refine iW (app1 136 2 3 (a.length-(k+1)) ai) ?_;rintro _ _ ⟨o,m,rfl,rfl⟩;refine ao [aI (((k+1:Nat):Int)-1-1) ((k:Int)-1) ai,.g,.x] ?_;refine dP [3] ?_;have p:a.length-(k+1)+1=a.length-k:=by omega
  have q:(a.drop (k+1)).reverse.flatMap bt.cells++v.cells=(a.drop k).reverse.flatMap bt.cells:=by
   rw[Dc (by omega:k<a.length),List.reverse_cons,xc];have:a[k]=v:=by rw[dq ai]at e;exact dQ e
   simp[this]
  have:=w (k,Z o,m) (Nat.lt_succ_self k) (by simp only;omega);simp only[<-p,<-q]at this;exact cx this
section
open Go.Conc (G)
abbrev bL(V:Type):=ae (Int×V×Nat)
section
variable {V:Type}(X:V->ag)
def m8(x:Int×V×Nat):MapEntry:={key:=ah x.1,val:=X x.2.1,born:=x.2.2}
def fU(l:bL V):af MapEntry:=(l.map (m8 X)).toArray
def uh(k:Int):bL V->Nat->aj (Nat×V)
 |[],_=>I
 |x::l,i=>if x.1=k then Z (i,x.2.1)else uh k l (i+1)
def iC(l:bL V)(k:Int):aj V:=(uh k l 0).map (·.2)
def j7(l:bL V)(k:Int)(v:V)(cJ:Nat):bL V:=match l with
 |[]=>[(k,v,cJ)]
 |x::l=>if x.1=k then(k,v,x.2.2)::l else x::j7 l k v cJ
def qb(l:bL V)(k:Int)(cJ:Nat):Nat:=if(iC l k).isSome then cJ else cJ+1
def mV(k:Int):bL V->bL V
 |[]=>[]
 |x::l=>if x.1=k then l else x::mV k l
theorem V7{a:IntKind}(k:Int):∀(l:bL V)(i:Nat),Instr.findNow (.int a) (ah k) (l.map (m8 X)) i=Z ((uh k l i).map λp=>(p.1,X p.2))
 |[],i=>rfl
 |x::l,i=>by
  have c:Instr.sameNow (.int a) (ah k) (ah x.1)=Z (k==x.1):=rfl;simp only[ft,Instr.findNow,m8,c,uh];by_cases h:x.1=k
  ·rw[if_pos h,h];simp
  ·rw[if_neg h]
   have b:(k==x.1)=Y:=by simpa usingλe=>h e.symm
   rw[b];exact V7 k l (i+1)
def ve(P:aA)(t:aJ):aj (aJ×ag):=match P.underlying t with
 |some (.map a b)=>match P.underlying a,P.info? b with
  |some (.int .i64),Z i=>i.zero.map λz=>(a,z)
  |_,_=>I
 |_=>I
def GU(P:aA)(t:aJ):ag:=match ve P t with
 |some (_,z)=>z
 |none=>aC
theorem MV{P:aA}{t:aJ}(h:(ve P t).isSome=U):∃b a i,P.underlying t=Z (.map b a)/\P.underlying b=Z (.int .i64)/\P.info? a=Z i/\i.zero=Z (GU P t):=by
 unfold GU ve;unfold ve at h;split at h
 ·rename_i b a c
  split at h
  ·rename_i i d e
   refine⟨b,a,i,c,d,e,?_⟩;cases hz:i.zero with
   |none=>rw[hz]at h;cases h
   |some z=>simp[c,d,e,hz]
  ·cases h
 ·cases h
def RI(t:aJ)(x ix:ag)(a:Bool):Sem Next:=qo (Instr.lookup t x ix a) λv=>.pure (.value v)
section
variable {P:aA}{t r:Nat}{k:Int}{l:bL V}{cJ:Nat}
theorem Pn{a:aJ}(b:P.underlying a=Z (.int .i64))(w:au):(Instr.findKey a (ah k) (l.map (m8 X))).run P w=.ok ((uh k l 0).map λp=>(p.1,X p.2)) w:=by
 unfold Instr.findKey;simp only[eJ,vB b,eh,V7];rfl
theorem OX{a:aJ}(b:P.underlying a=Z (.int .i64))(e:Bool)(w:au):(Instr.checkKey e 10000 a (ah k)).run P w=.ok () w:=by
 unfold Instr.checkKey;simp only[eJ,vB b,eh];rfl
theorem YD(a:Bool)(h:(ve P t).isSome=U)(w:au)(g:w.heap[r]?=Z (.map (fU X l) cJ)):(RI t (.map (Z r)) (ah k) a).run P w=.ok (.value (match iC l k,a with
                                                                                   |some v,U=>.tuple #[X v,.bool U]
                                                                                   |none,U=>.tuple #[GU P t,.bool Y]
                                                                                   |some v,Y=>X v
                                                                                   |none,Y=>GU P t)) w:=by
 obtain⟨n,c,i,d,b,e,f⟩:=MV h;show((Instr.lookup t (.map (Z r)) (ah k) a)>>=λv=>(ayU (lT v):Sem Next)).run P w=_;have m:bx P (zeroValue c) w=.ok (GU P t) w:=by
  unfold zeroValue typeInfo;rw[eJ,eJ];show eh (eh (bx P program w) _) _=_;simp only[program,bx,eh,e];show bx P (match i.zero with
   |some v=>pure v
   |none=>unsupported _) w=_
  rw[f];rfl
 have j:bx P (jZ r) w=.ok (.map (fU X l) cJ) w:=by simp only[jZ,bx,g]
 unfold Instr.lookup;simp only[eJ,vB d,eh,j,pure,bx,OX b,fU,List.size_toArray,Pn X b,iC];cases hm:uh k l 0 with
 |none=>simp only[Option.map_none,eJ,m,eh,bx];cases a<;>rfl
 |some p=>simp only[iy,eh,bx];cases a<;>rfl
theorem RV:∀(l:bL V)(i:Nat),uh k l i=I->(∀v:V,j7 l k v cJ=l++[(k,v,cJ)])/\mV k l=l
 |[],i,_=>⟨λ_=>rfl,F⟩
 |x::l,i,h=>by
  simp only[uh]at h;split at h
  ·cases h
  ·rename_i a
   obtain⟨b,c⟩:=RV l (i+1) h;exact⟨λv=>by simp only[j7,if_neg a,b];rfl,by simp only[mV,if_neg a,c]⟩
theorem RX:∀(l:bL V)(i j:Nat)(u:V),uh k l i=Z (j,u)->i<=j/\(∃x,l[j-i]?=Z x/\x.1=k)/\mV k l=l.eraseIdx (j-i)/\∀v:V,j7 l k v cJ=l.modify (j-i) λx=>(k,v,x.2.2)
 |[],i,j,u,h=>by cases h
 |x::l,i,j,u,h=>by
  simp only[uh]at h;split at h
  ·rename_i a
   cases h;refine⟨df _,⟨x,by simp,a⟩,?_,λv=>?_⟩
   ·simp[mV,a]
   ·simp[j7,a]
  ·rename_i a
   obtain⟨f,⟨y,b,q3⟩,c,d⟩:=RX l (i+1) j u h;have e:j-i=(j-(i+1))+1:=by omega
   refine⟨by omega,⟨y,by rw[e];simpa using b,q3⟩,?_,λv=>?_⟩
   ·rw[e];simp only[mV,if_neg a,c,List.eraseIdx_cons_succ]
   ·rw[e];simp only[j7,if_neg a,d,List.modify_succ_cons]
theorem avY(w:au):(Instr.keyThatStays (ah k) (ah k)).run P w=.ok (ah k) w:=by
 unfold Instr.keyThatStays;have:Instr.sameBits 10000 (ah k) (ah k)=U:=by simp[Instr.sameBits,ah]
 rw[if_pos this];rfl
def ace(t:aJ)(m ix x:ag):Sem Next:=qo (Instr.mapUpdate t m ix x) λ_=>.pure .skip
theorem axi(v:V)(h:(ve P t).isSome=U)(w:au)(a:w.heap[r]?=Z (.map (fU X l) cJ)):(ace t (.map (Z r)) (ah k) (X v)).run P w=.ok .skip {w with heap:=w.heap.setIfInBounds r (.map (fU X (j7 l k v cJ)) (qb l k cJ))}:=by
 obtain⟨z,o,i,e,b,s,y⟩:=MV h;show((Instr.mapUpdate t (.map (Z r)) (ah k) (X v))>>=λ_=>(ayU Next.skip:Sem Next)).run P w=_;have g:bx P (jZ r) w=.ok (.map (fU X l) cJ) w:=by simp only[jZ,bx,a]
 unfold Instr.mapUpdate;simp only[eJ,vB e,eh,g,OX b];have f:=Pn (l:=l) (k:=k) (P:=P) X b w;unfold fU;rw[f];cases hm:uh k l 0 with
 |none=>
  obtain⟨q,_⟩:=RV (k:=k) (cJ:=cJ) l 0 hm;simp only[Option.map_none,setObj,bx,a,eh,q v,qb,iC,hm];simp[m8]
 |some p=>
  obtain⟨j,u⟩:=p;obtain⟨_,⟨x,c,q3⟩,_,d⟩:=RX (k:=k) (cJ:=cJ) l 0 j u hm;simp only[Nat.sub_zero]at c d;simp only[iy];have m:((((l.map (m8 X)).toArray)[j]?).map (·.key)).getD (ah k)=ah k:=by
   simp[c,m8,q3]
  rw[eJ,m,avY];simp only[eh,setObj,bx,a,d,qb,iC,hm];simp only[iy,Option.isSome_some,if_true];congr 5;apply yI;intro n;simp only[List.getElem?_toArray,Fs,fq,List.getElem?_modify];split
  ·cases l[n]?<;>simp[m8]
  ·cases l[n]?<;>rfl
theorem map_eraseIdx{α β:Type}(f:α->β):∀(l:ae α)(i:Nat),(l.map f).eraseIdx i=(l.eraseIdx i).map f
 |[],_=>rfl
 |_::_,0=>rfl
 |x::l,i+1=>by simp only[ft,List.eraseIdx_cons_succ,map_eraseIdx f l i]
def Vz(a:af aJ)(t:aJ)(m ix:ag):Sem Next:=qo (Builtin.delete_ a t #[m,ix]) λv=>.pure (.value v)
theorem afi{b e:aJ}(h:(ve P t).isSome=U)(w:au)(a:w.heap[r]?=Z (.map (fU X l) cJ)):(Vz #[t,b] e (.map (Z r)) (ah k)).run P w=.ok (.value (.tuple #[])) {w with heap:=w.heap.setIfInBounds r (.map (fU X (mV k l)) cJ)}:=by
 obtain⟨z,s,i,f,c,x,y⟩:=MV h;show((Builtin.delete_ #[t,b] e #[.map (Z r),ah k])>>=λv=>(ayU (lT v):Sem Next)).run P w=_;have n:bx P (jZ r) w=.ok (.map (fU X l) cJ) w:=by simp only[jZ,bx,a]
 unfold Builtin.delete_;have m:=Pn (l:=l) (k:=k) (P:=P) X c w;simp only[eJ,List.size_toArray,iH,ow,Nat.reduceAdd,Nat.reduceLT,getElem?_pos,List.getElem_toArray,List.getElem_cons_zero,List.getElem_cons_succ,vB f,eh,n,OX c,fU,m];cases hm:uh k l 0 with
 |none=>
  obtain⟨_,q⟩:=RV (k:=k) (cJ:=cJ) l 0 hm;simp only[Option.map_none,eJ,setObj,bx,a,eh,q];rfl
 |some p=>
  obtain⟨j,u⟩:=p;obtain⟨_,_,d,_⟩:=RX (k:=k) (cJ:=cJ) l 0 j u hm;simp only[Nat.sub_zero]at d;have g:((l.map (m8 X)).toArray).eraseIdxIfInBounds j=((mV k l).map (m8 X)).toArray:=by
   rw[d,Array.eraseIdxIfInBounds];split
   ·simp[map_eraseIdx]
   ·rename_i o
    rw[List.eraseIdx_of_length_le (by simpa using o)]
  simp only[iy,eJ,setObj,bx,a,eh,g];rfl
def Vm(t a:aJ)(m:ag):Sem Next:=qo (Builtin.clear_ #[t] a #[m]) λv=>.pure (.value v)
theorem aeX{b:aJ}(h:(ve P t).isSome=U)(w:au)(a:w.heap[r]?=Z (.map (fU X l) cJ)):(Vm t b (.map (Z r))).run P w=.ok (.value (.tuple #[])) {w with heap:=w.heap.setIfInBounds r (.map (fU X []) cJ)}:=by
 obtain⟨m,e,i,c,f,g,j⟩:=MV h;show((Builtin.clear_ #[t] b #[.map (Z r)])>>=λv=>(ayU (lT v):Sem Next)).run P w=_;have d:bx P (jZ r) w=.ok (.map (fU X l) cJ) w:=by simp only[jZ,bx,a]
 unfold Builtin.clear_;simp only[eJ,List.size_toArray,iH,ow,Nat.reduceAdd,Nat.reduceLT,getElem?_pos,List.getElem_toArray,List.getElem_cons_zero,vB c,eh,d,setObj,bx,a];rfl
def M6(b:aJ)(a:ag):Sem Next:=qo (Instr.next a Y b) λv=>.pure (.value v)
def VP(a:ag):Sem Next:=qo (Instr.entry a) λv=>.pure (.value v)
theorem aor{p f a b:Nat}{seen:af Nat}(J:∀x∈l,x.2.2<a/\x.2.2<b)(w:au)(hb:w.heap[r]?=Z (.map (fU X l) cJ))(hi:w.heap[f]?=Z (.mapIter (Z r) a seen b)):
  ((∀x∈l,x.2.2∈seen)/\∃d,(M6 p (.pointer (Z ⟨f,0,I⟩))).run P w=.ok (.value (.tuple #[.bool Y])) d/\d.os=w.os/\d.output=w.output/\d.heap=w.heap)\/
  (∃x∈l,x.2.2∉seen/\∃d,(M6 p (.pointer (Z ⟨f,0,I⟩))).run P w=.ok (.value (.tuple #[.bool U,ah x.1,X x.2.1])) d/\d.os=w.os/\d.output=w.output/\d.heap=w.heap.setIfInBounds f (.mapIter (Z r) a (seen.push x.2.2) cJ)):=by
 have Q:bx P (jZ f) w=.ok (.mapIter (Z r) a seen b) w:=by simp only[jZ,bx,hi]
 have W:bx P (jZ r) w=.ok (.map (fU X l) cJ) w:=by simp only[jZ,bx,hb]
 have S:(!seen.isEmpty&&!(fU X l).isEmpty&&(fU X l).all (·.born>=b))=Y:=by
  cases l with
  |nil=>simp[fU]
  |cons x l=>
   have:=(J x (fu ..)).2;have C:¬b<=x.2.2:=by omega
   simp[fU,m8,C]
 generalize hE:(fU X l)=E at*;have G:∀e∈E,∃x∈l,m8 X x=e:=λe j=>by
  rw[<-hE]at j;simpa[fU]using j
 have z:∀x∈l,m8 X x∈E:=λx i=>by
  rw[<-hE];simp only[fU,jA,ox];exact⟨x,i,F⟩
 generalize D:(E.filter λe=>!seen.contains e.born)=A;have q:∀e,e∈A↔e∈E/\e.born∉seen:=λe=>by
  rw[<-D];simp
 have m:A.filter (λe=>decide (e.born<a))=A:=by
  rw[Array.filter_eq_self];intro e j;obtain⟨x,i,rfl⟩:=G e ((q e).1 j).1;exact decide_eq_true (J x i).1
 have O:A.filter (λe=>decide (e.born>=a))=#[]:=by
  rw[Array.filter_eq_empty_iff];intro e j;obtain⟨x,i,rfl⟩:=G e ((q e).1 j).1;have:=(J x i).1;simp only[m8,ge_iff_le,decide_eq_true_eq];omega
 have T:∀(n:Nat),0<n->∃c g,(choose (.mapNext n)).run P w=.ok c g/\c<n/\g.os=w.os/\g.output=w.output/\g.heap=w.heap:=λn hn=>by
  unfold choose;by_cases h:(Question.mapNext n).forced=U
  ·exact⟨0,w,by simp only[bx,h,if_true],hn,F,F,F⟩
  ·exact⟨(Question.mapNext n).cut (w.tape w.drawn (.mapNext n)),{w with drawn:=w.drawn+1},by simp only[bx,h,kg,if_false],Nat.mod_lt _ hn,F,F,F⟩
 have o:∀v d,(Instr.next (.pointer (Z ⟨f,0,I⟩)) Y p).run P w=.ok v d->(M6 p (.pointer (Z ⟨f,0,I⟩))).run P w=.ok (.value v) d:=λv d h=>by
  show((Instr.next (.pointer (Z ⟨f,0,I⟩)) Y p)>>=λv=>(ayU (lT v):Sem Next)).run P w=_;rw[eJ,h];rfl
 by_cases s:A.isEmpty=U
 ·left
  have y:A=#[]:=by simpa using s
  refine⟨λx i=>?_,?_⟩
  ·by_cases hs:x.2.2∈seen
   ·exact hs
   ·have:=(q (m8 X x)).2 ⟨z x i,hs⟩
    rw[y]at this;simp at this
  ·obtain⟨c,g,K,L,q3,M,u⟩:=T 1 aX
   have hc:c=0:=by omega
   subst hc;refine⟨g,o _ _ ?_,q3,M,u⟩;unfold Instr.next;have B:((if A.isEmpty=U then#[I]else#[])++(A++#[]).map Z).size=1:=by simp[y]
   have N:((if A.isEmpty=U then#[I]else#[])++(A++#[]).map Z)[0]?=Z I:=by simp[y]
   simp only[eJ,Q,eh,W,S,kg,if_false,D,m,O,B,K,N,pure,bx]
 ·right
  have wo:0<A.size:=Nat.pos_of_ne_zero λh=>s (by simpa using h);obtain⟨c,g,K,L,q3,M,u⟩:=T A.size wo;have j:A[c]∈A:=Array.getElem_mem L;obtain⟨h1,C⟩:=(q _).1 j;obtain⟨x,i,R⟩:=G _ h1;have fZ:x.2.2=A[c].born:=by rw[<-R];rfl
  refine⟨x,i,by rw[fZ];exact C,{g with heap:=g.heap.setIfInBounds f (.mapIter (Z r) a (seen.push x.2.2) cJ)},o _ _ ?_,q3,M,by rw[u]⟩;have H:g.heap[f]?=Z (.mapIter (Z r) a seen b):=by rw[u];exact hi
  unfold Instr.next;have B:((if A.isEmpty=U then#[I]else#[])++(A++#[]).map Z).size=A.size:=by simp[s]
  have N:((if A.isEmpty=U then#[I]else#[])++(A++#[]).map Z)[c]?=Z (Z A[c]):=by simp[s,L]
  simp only[eJ,Q,eh,W,S,kg,if_false,D,m,O,B,K,N,setObj,pure,bx,H,<-R,m8]
theorem af6{b a:Nat}{seen:af Nat}{x:Int×V×Nat}(n:x∈l)(p:(l.map (·.2.2)).Nodup)(w:au)(g:w.heap[r]?=Z (.map (fU X l) cJ))(m:w.heap[b]?=Z (.mapIter (Z r) a (seen.push x.2.2) cJ)):(VP (.pointer (Z ⟨b,0,I⟩))).run P w=.ok (.value (.tuple #[ah x.1,X x.2.1])) w:=by
 have d:bx P (jZ b) w=.ok (.mapIter (Z r) a (seen.push x.2.2) cJ) w:=by simp only[jZ,bx,m]
 have j:bx P (jZ r) w=.ok (.map (fU X l) cJ) w:=by simp only[jZ,bx,g]
 have i:∀l:bL V,x∈l->(l.map (·.2.2)).Nodup->(l.map (m8 X)).find? (·.born==x.2.2)=Z (m8 X x):=by
  intro l;induction l with
  |nil=>intro h;cases h
  |cons y l o=>
   intro h c;simp only[ft,rb]at c;rw[ft,List.find?_cons];rcases bQ.1 h with rfl|h
   ·simp[m8]
   ·have:(m8 X y).born≠x.2.2:=λe=>c.1 (by
     have e:y.2.2=x.2.2:=e;rw[e];exact kV h)
    have f:((m8 X y).born==x.2.2)=Y:=by simpa using this
    rw[f];exact o h c.2
 show((Instr.entry (.pointer (Z ⟨b,0,I⟩)))>>=λv=>(ayU (lT v):Sem Next)).run P w=_;unfold Instr.entry;have q:(fU X l).find? (·.born==x.2.2)=Z (m8 X x):=by
  unfold fU;rw[List.find?_toArray];exact i l n p
 simp only[eJ,d,eh,Array.back?_push,j,q];simp[m8,bx,pure,eJ,eh]
end
end
section
variable {P:aA}{V:Type}
def lkV(P:aA)(t:aJ)(X:V->ag):aj V->ag
 |some v=>.tuple #[X v,.bool U]
 |none=>.tuple #[GU P t,.bool Y]
abbrev uf(i:Nat)(t r:Nat)(k:Int)(X:V->ag)(l:bL V)(cJ:Nat)(o:aj V)(h:iC l k=o)(b:(ve P t).isSome=U:=by kernel_rfl):Aw P:=.m i r (.map (fU X l) cJ) (RI t (.map (Z r)) (ah k) U) (.value (lkV P t X o)) (λw a=>by rw[YD X U b w a];subst h;cases iC l k<;>rfl)
abbrev lkB(i:Nat)(t r:Nat)(k:Int)(X:V->ag)(l:bL V)(cJ:Nat)(v:V)(h:iC l k=Z v)(b:(ve P t).isSome=U:=by kernel_rfl):Aw P:=.m i r (.map (fU X l) cJ) (RI t (.map (Z r)) (ah k) Y) (.value (X v)) (λw a=>by rw[YD X Y b w a];simp only[h])
abbrev Oc(i:Nat)(t r:Nat)(k:Int)(X:V->ag)(l:bL V)(cJ:Nat)(v:V)(b:(ve P t).isSome=U:=by kernel_rfl):Aw P:=.u i r (.map (fU X l) cJ) (.map (fU X (j7 l k v cJ)) (qb l k cJ)) (ace t (.map (Z r)) (ah k) (X v)) .skip (λw a=>axi X v b w a)
abbrev VB(i:Nat)(t c d r:Nat)(k:Int)(X:V->ag)(l:bL V)(cJ:Nat)(b:(ve P t).isSome=U:=by kernel_rfl):Aw P:=.u i r (.map (fU X l) cJ) (.map (fU X (mV k l)) cJ) (Vz #[t,c] d (.map (Z r)) (ah k)) (.value (.tuple #[])) (λw a=>afi X b w a)
abbrev clA(i:Nat)(t c r:Nat)(X:V->ag)(l:bL V)(cJ:Nat)(b:(ve P t).isSome=U:=by kernel_rfl):Aw P:=.u i r (.map (fU X l) cJ) (.map (fU X []) cJ) (Vm t c (.map (Z r))) (.value (.tuple #[])) (λw a=>aeX X b w a)
theorem Zr{u:ae En}(X:V->ag)(s B c r D:Nat)(l:bL V)(cJ a b:Nat)(seen:af Nat)(A:∀x∈l,x.2.2<a/\x.2.2<b)
  (h:(L[s]?,L[B]?)=(Z (.ob c (.mapIter (Z r) a seen b)),Z (.ob r (.map (fU X l) cJ))):=by kernel_rfl):
  nS P u L (M6 D (pt c)) λv o=>((∀x∈l,x.2.2∈seen)/\v=.tuple #[.bool Y]/\o=L)\/(∃x∈l,x.2.2∉seen/\v=.tuple #[.bool U,ah x.1,X x.2.1]/\o=L.set s (.ob c (.mapIter (Z r) a (seen.push x.2.2) cJ))):=λw d=>by
 simp only[fK]at h;obtain⟨p,y⟩:=h;have q:w.heap[c]?=Z _:=d.at p;have z:w.heap[r]?=Z _:=d.at y;rcases aor (P:=P) X A w z q with⟨g,n,i,q3,j,m⟩|⟨x,g,i,n,q3,j,m,C⟩
 ·exact⟨_,n,L,i,q3,j,.inl ⟨g,rfl,rfl⟩,by rw[m];exact d⟩
 ·refine⟨_,n,_,q3,j,m,.inr ⟨x,g,i,rfl,rfl⟩,?_⟩
  rw[C];exact xi d p (by show(w.heap.setIfInBounds c _)[c]?=_;rw[kC (aE q)]) (λx f=>.inl f) aZ λx _ f=>by
   rw[ie (λe=>f e.symm)]
theorem VO{e:ae En}(X:V->ag)(j m c r:Nat)(l:bL V)(cJ a:Nat)(seen:af Nat)(x:Int×V×Nat)(i:x∈l)(n:(l.map (·.2.2)).Nodup)
  (h:(L[j]?,L[m]?)=(Z (.ob c (.mapIter (Z r) a (seen.push x.2.2) cJ)),Z (.ob r (.map (fU X l) cJ))):=by kernel_rfl):
  nS P e L (VP (pt c)) λv d=>v=.tuple #[ah x.1,X x.2.1]/\d=L:=λw b=>by
 simp only[fK]at h;obtain⟨f,g⟩:=h;exact⟨_,w,L,af6 X i n w (b.at g) (b.at f),F,F,⟨F,F⟩,b⟩
end
end
structure Ev where
 c8:Int
 step:Int
 out:Int
 val:ByteArray
 bP:Int
def Ev.cells(e:Ev):ae ag:=[ah e.c8,ah e.step,ah e.out,.string e.val,ah e.bP]
theorem Ev.len(e:Ev):e.cells.length=5:=rfl
theorem Ev.one(e:Ev):∀u∈e.cells,u.oneCell'=U:=by simp[Ev.cells,Value.oneCell',ah]
structure eZ where
 busy:Bool
 holds:Bool
 b:Int
def eZ.cells(e:eZ):ae ag:=[.bool e.busy,.bool e.holds,ah e.b]
theorem eZ.len(e:eZ):e.cells.length=3:=rfl
abbrev Mk:=Int×Int
def Mk.v(m:Mk):ag:=.agg #[ah m.1,ah m.2]
abbrev Wr:=Bool×ByteArray
def Wr.v(m:Wr):ag:=.agg #[.bool m.1,.string m.2]
structure aM where
 s:Nat
 mu:Int
 sb:Nat
 si:ae eZ
 cb:Nat
 uG:Nat
 ch:ae Nat
 mb:Nat
 ck:Int
 li:Int
 qx:aj Nat
 B3:Nat
 cl:ae Nat
 eg:aj Nat
 ec:Nat
 ev:ae Ev
 sw:Nat
def aM.en(x:aM):En:=.ob x.s (.cells #[.int .i32 x.mu,.int .u32 0,sv (Z x.sb) x.si.length x.si.length,sv (Z x.cb) x.ch.length x.uG,.map (Z x.mb),ah x.ck,ah x.li,sv x.qx x.cl.length x.B3,sv x.eg x.ev.length x.ec,pt x.sw] 109)
def aM.eE(x:aM):En:=.row 34 5 x.eg x.ev.length x.ec (x.ev.flatMap Ev.cells)
def aM.sE(x:aM):En:=.row 111 3 (Z x.sb) x.si.length x.si.length (x.si.flatMap eZ.cells)
def aM.cE(x:aM):En:=.row 135 1 (Z x.cb) x.ch.length x.uG (x.ch.map pt)
def aM.lE(x:aM):En:=.row 149 1 x.qx x.cl.length x.B3 (x.cl.map pt)
def aM.mE(x:aM)(a:bL Mk)(k:Nat):En:=.ob x.mb (.map (fU Mk.v a) k)
structure Stp where
 kind:Int
 key:Int
 val:ByteArray
def Stp.cells(p:Stp):ae ag:=[ah p.kind,ah p.key,.string p.val]
theorem Stp.len(p:Stp):p.cells.length=3:=rfl
theorem Stp.one(p:Stp):∀u∈p.cells,u.oneCell'=U:=by simp[Stp.cells,Value.oneCell',ah]
structure cO where
 c:Nat
 id:Int
 pg:aj Nat
 pc:Nat
 pr:ae Stp
 at_:Nat
 nx:ag
 wb:Nat
 site:Nat
 b:Int
 bP:Int
 wk:ag
 tl:ag
def aM.kE(x:aM)(y:cO):En:=.ob y.c (.cells #[ah y.id,pt x.s,sv y.pg y.pr.length y.pc,ah y.at_,y.nx,.map (Z y.wb),ah y.site,ah y.b,ah y.bP,y.wk,y.tl] 152)
def cO.wE(y:cO)(a:bL Wr)(k:Nat):En:=.ob y.wb (.map (fU Wr.v a) k)
def cO.pE(y:cO):En:=.row 50 3 y.pg y.pr.length y.pc (y.pr.flatMap Stp.cells)
def aM.ba(x:aM)(y:cO)(o:Int)(v:ByteArray)(t:Int)(g:aj Nat)(a:Nat):aM:={x with eg:=g,ec:=a,ev:=x.ev++[⟨y.id,y.at_,o,v,t⟩]}
def cO.rd(y:cO):cO:={y with at_:=y.at_+1,nx:=.func (.func 60) #[pt y.c] #[]}
structure aM.Ok(x:aM)(y:cO):Prop where
 ev:x.ev.length<1000000
 at_:y.at_<1000000
theorem yY(x:aM)(y:cO)(o t:Int)(v:ByteArray)(h:x.Ok y):Fl Sv 100 [pt y.c,ah o,.string v,ah t].toArray [x.en,x.kE y,x.eE] λr L=>r=ah 1/\∃g b,L=[(x.ba y o v t g b).en,x.kE y.rd,(x.ba y o v t g b).eE]:=by
 obtain⟨f,i⟩:=h;refine Fl.of 48 λe d=>?_;refine ao [] ?_;refine gX 25 [1,1,0,1,1] [23,24] [25,26,27] ?_;refine rk (λ_=>[]) λz=>BR (app1 25 2 3 x.ev.length ai) ?_;rintro _ _ ⟨c,a,rfl,rfl⟩;refine gY (Fl.run [0] ?_);refine ao [1,aS y.at_,1,1] ?_;refine a7 [3] [ah 1] [.ob x.s (.cells #[.int .i32 x.mu,.int .u32 0,sv (Z x.sb) x.si.length x.si.length,sv (Z x.cb) x.ch.length x.uG,.map (Z x.mb),ah x.ck,ah x.li,sv x.qx x.cl.length x.B3,sv (Z c) (x.ev.length+1) a,pt x.sw] 109),x.kE y.rd,.row 34 5 (Z c) (x.ev.length+1) a (x.ev.flatMap Ev.cells++Ev.cells ⟨y.id,y.at_,o,v,t⟩)] ⟨F,Z c,a,?_⟩;simp[aM.ba,aM.en,aM.eE]
structure mq{V:Type}(l:bL V)(k:Nat):Prop where
 keys:(l.map (·.1)).Nodup
 born:(l.map (·.2.2)).Nodup
 old:∀x∈l,x.2.2<k
theorem mq.sub{l b:bL V}(h:mq l k)(a:b.Sublist l):mq b k:=⟨(a.map _).nodup h.keys,(a.map _).nodup h.born,λx c=>h.old x (a.subset c)⟩
theorem YV{V:Type}:∀(l:bL V)(x:Int×V×Nat),(l.map (·.1)).Nodup->(l.map (·.2.2)).Nodup->x∈l->mV x.1 l=l.filter λy=>!(y.2.2==x.2.2)
 |y::l,x,c,b,a=>by
  simp only[ft,rb]at c b;rcases bQ.1 a with rfl|a
  ·have:l.filter (λy=>!(y.2.2==x.2.2))=l:=List.filter_eq_self.2 λz d=>by
    have:z.2.2≠x.2.2:=λe=>b.1 (by rw[<-e];exact kV d);simpa using this
   simp[mV,this]
  ·have f:y.1≠x.1:=λe=>c.1 (by rw[e];exact kV a)
   have g:y.2.2≠x.2.2:=λe=>b.1 (by rw[e];exact kV a);simp only[mV,if_neg f,List.filter_cons];rw[if_pos (by simpa using g),YV l x c.2 b.2 a]
def vg(id:Int)(a:bL Mk):bL Mk:=a.filter λx=>!(x.2.1.1==id)
def ug(id:Int)(a:bL Mk)(seen:af Nat):bL Mk:=a.filter λx=>!(x.2.1.1==id&&seen.contains x.2.2)
theorem DN{α:Type}{f:α->ae ag}(d:∀a,(f a).length=3)(z:α){u v w:ag}(g:f z=[u,v,w]):∀(l:ae α)(i:Nat),i<l.length->(((l.flatMap f).set (i*3) u).set (i*3+1) v).set (i*3+2) w=(l.set i z).flatMap f
 |[],_,h=>absurd h aZ
 |x::l,0,_=>by
  obtain⟨a,b,c,e⟩:∃a b c,f x=[a,b,c]:=by
   have:=d x
   match hx:f x with
   |[a,b,c]=>exact⟨a,b,c,F⟩
   |[]|[_]|[_,_]|_::_::_::_::_=>rw[hx]at this;simp at this
  simp[e,g]
 |x::l,i+1,h=>by
  have:=DN d z g l i (by simpa using h);rw[tK,List.set_cons_succ,tK,<-this];have e:(i+1)*3=(f x).length+i*3:=by rw[d];omega
  rw[List.set_append_right _ _ (by rw[e];omega),e,Nat.add_sub_cancel_left,List.set_append_right _ _ ai,List.set_append_right _ _ ai];congr 3<;>omega
theorem V5{α:Type}{p q:α->Bool}(h:∀x,q x=U->p x=U):∀l:ae α,(∃e∈l,p e=U/\q e=Y)->(l.filter q).length<(l.filter p).length
 |[],⟨_,h,_⟩=>by cases h
 |x::l,⟨e,a,d,f⟩=>by
  have b:∀l:ae α,(l.filter q).length<=(l.filter p).length:=by
   intro l;induction l with
   |nil=>exact df _
   |cons y l c=>
    simp only[List.filter_cons];cases hq:q y with
    |true=>simp only[h y hq,if_true,iH];omega
    |false=>
     simp only[kg,if_false];split
     ·simp only[iH];omega
     ·exact c
  simp only[List.filter_cons];rcases bQ.1 a with rfl|a
  ·simp only[d,f,if_true,kg,if_false,iH]
   have:=b l;omega
  ·have c:=V5 h l ⟨e,a,d,f⟩
   cases hq:q x with
   |true=>simp only[h x hq,if_true,iH];omega
   |false=>
    simp only[kg,if_false];split
    ·simp only[iH];omega
    ·exact c
theorem MZ{α β:Type}{f:α->β}:∀{l:ae α},(l.map f).Nodup->∀{x y:α},x∈l->y∈l->f x=f y->x=y
 |z::l,h,x,y,c,d,e=>by
  simp only[ft,rb]at h;rcases bQ.1 c with rfl|a<;>rcases bQ.1 d with rfl|b
  ·rfl
  ·exact absurd (e▸kV (f:=f) b:f x∈l.map f) h.1
  ·exact absurd (e▸kV (f:=f) a:f y∈l.map f) h.1
  ·exact MZ h.2 a b e
theorem ass{a:bL V}{seen:af Nat}{e:Int×V×Nat}(b:e∈a)(c:e.2.2∉seen):(a.filter λx=>!(seen.push e.2.2).contains x.2.2).length<(a.filter λx=>!seen.contains x.2.2).length:=V5 (λx d=>by
                                                                                                                                                                                simp only[Array.contains_push,Bool.not_or,ig]at d;simp_all) a ⟨e,b,by simpa using c,by simp⟩
theorem Jz(x:aM)(y:cO)(a:bL Mk)(k:Nat)(p:bL Wr)(h:Nat)(d:mq a k)(i:y.site<x.si.length):Fl Sv 101 [pt y.c].toArray [x.en,x.kE y,x.mE a k,x.sE,y.wE p h] λ_ L=>L=[x.en,x.kE y,x.mE (vg y.id a) k,{x with si:=x.si.set y.site ⟨Y,Y,0⟩}.sE,y.wE [] h]:=by
 refine Fl.of 45 λG E=>?_;refine cd (λ_=>[1,0,2,.g,.x]) λz=>?_;refine j4 (ι:=af Nat) (λseen=>(a.filter λx=>!seen.contains x.2.2).length) (λ_=>[(0,pt y.c),(2,pt x.s),(13,pt z)]) (λseen=>[x.en,x.kE y,x.mE (ug y.id a seen) k,x.sE,y.wE p h,.ob z (.mapIter (Z x.mb) k seen k)]) (λ_=>True) #[] trivial ?_ ?_
 rotate_left
 ·have:ug y.id a #[]=a:=by simp[ug]
  rw[this];show _=_;kernel_rfl
 rintro seen _ s;have g:(ug y.id a seen).Sublist a:=List.filter_sublist;refine ao [] ?_;refine iW (Zr Mk.v 5 2 z x.mb 0 (ug y.id a seen) k k k seen λe b=>⟨d.old e (g.subset b),d.old e (g.subset b)⟩) ?_;rintro _ _ (⟨D,rfl,rfl⟩|⟨e,b,t,rfl,rfl⟩)
 ·obtain⟨v,n⟩:∃v,x.si[y.site]?=Z v:=⟨_,dq i⟩
  have w:(x.si.flatMap eZ.cells)[y.site*3]?=Z (.bool v.busy):=dS eZ.len x.si y.site 0 v aX n;have A:((x.si.flatMap eZ.cells).set (y.site*3) (.bool Y))[y.site*3+1]?=Z (.bool v.holds):=by
   rw[kU ai];exact dS eZ.len x.si y.site 1 v aX n
  have B:(((x.si.flatMap eZ.cells).set (y.site*3) (.bool Y)).set (y.site*3+1) (.bool Y))[y.site*3+2]?=Z (ah v.b):=by
   rw[kU ai,kU ai];exact dS eZ.len x.si y.site 2 v aX n
  refine ao [] ?_;refine gX 9 [0,1] [] [9,10] (Fl.run [iX 95 3 x.sb x.si.length i,rr 3 w,rr 3 A,rr 3 B] ?_);refine ao [1,clA 4 150 0 y.wb Wr.v p h] ?_;have j:ug y.id a seen=vg y.id a:=List.filter_congr λe b=>by
   by_cases c:e.2.1.1=y.id
   ·have:e.2.2∈seen:=Ko λr=>r (D e (List.mem_filter.2 ⟨b,by simp[r]⟩))
    simp[c,this]
   ·simp[c]
  refine a7 [5] [] [x.en,x.kE y,x.mE (ug y.id a seen) k,.row 111 3 (Z x.sb) x.si.length x.si.length ((((x.si.flatMap eZ.cells).set (y.site*3) (.bool Y)).set (y.site*3+1) (.bool Y)).set (y.site*3+2) (ah 0)),y.wE [] h] ?_;rw[j,DN eZ.len ⟨Y,Y,0⟩ F x.si y.site i];simp[aM.sE]
 ·refine ao [] ?_
  have o:=(List.mem_filter.1 b);have q:=ass o.1 t;refine iW (VO Mk.v 5 2 z x.mb (ug y.id a seen) k k seen e b ((g.map _).nodup d.born)) ?_;rintro _ _ ⟨rfl,rfl⟩;refine cd (λ_=>[6,6]) λH=>?_;by_cases c:e.2.1.1=y.id
  ·refine dk 7 [6,1,bT c] [] (Fl.nil ?_)
   refine ao [0,VB 2 97 3 0 x.mb e.1 Mk.v (ug y.id a seen) k,.g,.x] ?_;refine dP [6] ?_;have l:mV e.1 (ug y.id a seen)=ug y.id a (seen.push e.2.2):=by
    rw[YV _ e ((g.map _).nodup d.keys) ((g.map _).nodup d.born) b];unfold ug;rw[List.filter_filter];refine List.filter_congr λu m=>?_;by_cases f:u.2.2=e.2.2
    ·have:=MZ d.born m o.1 f
     subst this;simp[c]
    ·have C:(u.2.2==e.2.2)=Y:=by simpa using f
     simp[Array.contains_push,f,C]
   have:=s (seen.push e.2.2) q trivial;rw[<-l]at this;exact cx this
  ·refine dk 7 [6,1,bF c] [] (Fl.nil ?_)
   refine ao [.g,.x] ?_;refine dP [6] ?_;have l:ug y.id a seen=ug y.id a (seen.push e.2.2):=List.filter_congr λu m=>by
    by_cases f:u.2.2=e.2.2
    ·have:=MZ d.born m o.1 f
     subst this;simp[c]
    ·simp[Array.contains_push,f]
   have:=s (seen.push e.2.2) q trivial;rw[<-l]at this;exact cx this
theorem Wg(v:eZ):Fl Sv 132 [.agg #[.bool v.busy,.bool v.holds,ah v.b]].toArray [] λr L=>r=.bool (!v.busy)/\L=[]:=by
 refine Fl.of 6 λb a=>?_;refine cd (λ_=>[0]) λz=>?_;exact a7 [0] [.bool (!v.busy)] [] ⟨F,F⟩
def tc:ae eZ->Nat->aj Nat
 |[],_=>I
 |v::l,i=>if v.busy then tc l (i+1)else Z i
def agT:aj Nat->Int
 |some i=>i
 |none=>-1
theorem agR{a:ae eZ}{v:eZ}(h:a[i]?=Z v):tc (a.drop i) i=if v.busy then tc (a.drop (i+1)) (i+1)else Z i:=by
 obtain⟨b,e⟩:=dv.1 h;rw[Dc b,e];rfl
theorem Wd:∀(l:ae eZ)(i j:Nat),tc l i=Z j->i<=j/\j<i+l.length
 |[],_,_,h=>by cases h
 |v::l,i,j,h=>by
  simp only[tc]at h;split at h
  ·have:=Wd l (i+1) j h
   simp only[iH];omega
  ·cases h;simp
theorem ak4(x:aM)(n:x.si.length<1000000):Fl Sv 131 [sv (some x.sb) x.si.length x.si.length,.func (.func 132) #[] #[]].toArray [x.sE] λr L=>r=goInt (agT (tc x.si 0))∧L=[x.sE]:=by
 refine Fl.of 19 λl k=>?_;refine ao [.g,.x] ?_;refine j4 (λi=>x.si.length-i) (λi=>[(0,sv (some x.sb) x.si.length x.si.length),(1,.func (.func 132) #[] #[]),(7,goInt x.si.length),(8,goInt i)]) (λ_=>[x.sE]) (λi=>i≤x.si.length∧tc (x.si.drop i) i=tc x.si 0) 0 ⟨Nat.zero_le _,by simp⟩ ?_;rintro i ⟨m,a⟩ h;by_cases aE:i<x.si.length
 ·obtain⟨⟨e,c,d⟩,f⟩:∃v,x.si[i]?=some v:=⟨_,List.getElem?_eq_getElem aE⟩
  have b:∀j,j<3→(x.si.flatMap eZ.cells)[i*3+j]?=(eZ.cells ⟨e,c,d⟩)[j]?:=λj g=>dS eZ.len x.si i j _ g f;rw[agR f]at a;cases e with
  |true=>
   rw[if_pos rfl]at a;refine ao [fp i x.si.length,iX 95 3 x.sb x.si.length aE,rr 0 (b 0 aX),rr 0 (b 1 aX),rr 0 (b 2 aX)] ?_;refine BP (Wg ⟨true,c,d⟩) ?_;rintro _ _ ⟨rfl,rfl⟩;refine ao [aS i,.g,.x] ?_;exact cx (h (i+1) ai ⟨aE,a⟩)
  |false=>
   rw[if_neg aZ]at a;refine ao [fp i x.si.length,iX 95 3 x.sb x.si.length aE,rr 0 (b 0 aX),rr 0 (b 1 aX),rr 0 (b 2 aX)] ?_;refine BP (Wg ⟨false,c,d⟩) ?_;rintro _ _ ⟨rfl,rfl⟩;refine ao [] ?_;exact dH [goInt i] _ ⟨by rw[←a];rfl,rfl⟩
 ·have:i=x.si.length:=by omega
  subst this;refine ao [fH x.si.length x.si.length] ?_;refine dH [goInt (-1)] _ ⟨?_,rfl⟩;rw[←a,List.drop_length];rfl
def wQ(a:Bool)(v:ByteArray):Int×ByteArray:=if a then(3,⟨#[]⟩)else(2,v)
def zj(e:bL Wr)(d:bL Mk)(c:ae bt)(a id b:Int):aj (Int×ByteArray):=match iC e a with
 |some w=>Z (wQ w.1 w.2)
 |none=>match iC d a with
  |some m=>if m.1≠id/\m.2≠0/\m.2<=b then I else Z (wQ (!(sn c b).2) (sn c b).1)
  |none=>Z (wQ (!(sn c b).2) (sn c b).1)
noncomputable def ag6:ae aK:=(nx Sv ⟨99,88,.normal,[],[],λ_ _=>True⟩ (bG Sv 99 #[] .normal).todo [] (yZ [pt 0,ah 0] 0) [.ob 0 (.cells #[aC,aC,aC,aC,aC,.map (Z 1),aC,aC,aC,aC,aC] 152),.ob 1 (.map (fU Wr.v [(0,(Y,⟨#[]⟩),0)]) 1)] [0,uf 1 150 1 0 Wr.v [(0,(Y,⟨#[]⟩),0)] 1 (Z (Y,⟨#[]⟩)) F,2,2] (.n 2)).todo
theorem Ws{j:ae az}{i:ae En}(x:aM)(y:cO)(e:bL Mk)(k:Nat)(f:bL Wr)(d:Nat)(C:bI)(z:Nat)(a:Bool)(v:ByteArray)(h:x.Ok y)
  (c:∀g b,R (ah 1) [(x.ba y (wQ a v).1 (wQ a v).2 0 g b).en,x.kE y.rd,(x.ba y (wQ a v).1 (wQ a v).2 0 g b).eE,x.mE e k,y.wE f d,x.cE,C.hd,C.rw]):
  Rs Sv (fx Sv 99 88 j i R) ag6 [] [(0,pt y.c),(5,pt z),(80,pt z)] [x.en,x.kE y,x.eE,x.mE e k,y.wE f d,x.cE,C.hd,C.rw,.ob z (.cells #[.bool a,.string v] 194)]:=by
 cases a with
 |true=>
  refine ao [8] ?_;refine c5 [0,1,2] (yY x y 3 0 ⟨#[]⟩ h) ?_;rintro _ _ ⟨rfl,g,b,rfl⟩;refine ao [] ?_;exact a7 [8] [ah 1] _ (c g b)
 |false=>
  refine ao [8,8] ?_;refine c5 [0,1,2] (yY x y 2 0 v h) ?_;rintro _ _ ⟨rfl,g,b,rfl⟩;refine ao [] ?_;exact a7 [8] [ah 1] _ (c g b)
noncomputable def ag7:ae aK:=(nx Sv ⟨99,88,.normal,[],[],λ_ _=>True⟩ (pT (nx Sv ⟨99,88,.normal,[],[],λ_ _=>True⟩ (bG Sv 99 #[] .normal).todo [] (yZ [pt 0,ah 0] 0) [.ob 0 (.cells #[aC,pt 2,aC,aC,aC,.map (Z 1),aC,aC,aC,aC,aC] 152),.ob 1 (.map (fU Wr.v []) 1),.ob 2 (.cells #[aC,aC,aC,aC,.map (Z 3),aC,aC,aC,aC,aC] 109),.ob 3 (.map (fU Mk.v []) 1)]
 [0,uf 1 150 1 0 Wr.v [] 1 I F,4,4,0,2,uf 3 97 3 0 Mk.v [] 1 I F,5,5] (.n 4)).todo) [] [(57,.bool Y)] [] []).todo
def AE(x:aM)(y:cO)(c:bL Mk)(k:Nat)(d:bL Wr)(e:Nat)(C:bI)(b:Nat)(r:ag)(L:ae En):Prop:=match zj d c C.vs b y.id y.b with
 |none=>r=ah 0/\L=[x.en,x.kE y,x.eE,x.mE c k,y.wE d e,x.cE,C.hd,C.rw]
 |some o=>r=ah 1/\∃g a,L=[(x.ba y o.1 o.2 0 g a).en,x.kE y.rd,(x.ba y o.1 o.2 0 g a).eE,x.mE c k,y.wE d e,x.cE,C.hd,C.rw]
theorem ag9 (x:aM) (y:cO) (ms:bL Mk) (k:Nat) (ws:bL Wr) (kw:Nat) (C:bI) (key:Nat) (h:x.Ok y) (hk:x.ch[key]?=some C.c) (hl:C.vs.length<1000000):Fl Sv 99 [pt y.c,goInt key].toArray [x.en,x.kE y,x.eE,x.mE ms k,y.wE ws kw,x.cE,C.hd,C.rw] (AE x y ms k ws kw C key):=by
 have r:(x.ch.map pt)[key*1]?=some (pt C.c):=by rw[Nat.mul_one,List.getElem?_map,hk];rfl
 have t:key<x.ch.length:=(List.getElem?_eq_some_iff.1 hk).1;refine Fl.of 88 λs q=>?_;cases hw:iC ws key with
 |some w=>
  obtain⟨v,A⟩:=w;refine cd (λ_=>[1,uf 4 150 y.wb key Wr.v ws kw _ hw,8,8]) λz=>?_;refine cx (Ws x y ms k ws kw C z v A h λg b=>?_);simp only[AE,zj,hw];exact⟨trivial,g,b,rfl⟩
 |none=>
  have n:∀(z:Nat)(e:En)(a:match iC ms key with
    |some m=>¬(m.1≠y.id∧m.2≠0∧m.2≤y.b)
    |none=>True),Rs Sv (fx Sv 99 88 s q (AE x y ms k ws kw C key)) ag7 [] [(0,pt y.c),(1,goInt key),(5,pt z)]
     [x.en,x.kE y,x.eE,x.mE ms k,y.wE ws kw,x.cE,C.hd,C.rw,.ob z (.cells #[.bool false,.string ⟨#[]⟩] 194),e]:=λz e a=>by
   refine gX 19 [1,0,iX 96 1 x.cb x.uG t,rr 5 r,1] [14,.p [15,16,17,18]] [19] ?_;refine tM [6,7] (aq2 C y.b hl) ?_;rintro _ _ ⟨rfl,rfl⟩;refine gY (FF [] (Fl.run [] (ao [8,8] (dP [9] (cx (Ws x y ms k ws kw C z (!(sn C.vs y.b).2) (sn C.vs y.b).1 h λg b=>?_))))));have:zj ws ms C.vs key y.id y.b=some (wQ (!(sn C.vs y.b).2) (sn C.vs y.b).1):=by
    simp only[zj,hw];cases zt:iC ms key with
    |none=>simp only
    |some m=>
     rw[zt]at a;simp only at a⊢;rw[if_neg a]
   simp only[AE,this];exact⟨trivial,g,b,rfl⟩
  rcases a:iC ms key with _|⟨j,mt⟩
  ·refine cd (λ_=>[1,uf 4 150 y.wb key Wr.v ws kw _ hw,8,8,1,0,uf 3 97 x.mb key Mk.v ms k _ a,9,9]) λz=>?_
   exact dk 24 [] [] (Fl.nil (ao [] (cx (n z (.ob (z+1) (.cells #[goInt 0,goInt 0] 113)) (by rw[a];trivial)))))
  ·by_cases f:j≠y.id∧mt≠0∧mt≤y.b
   ·obtain⟨p,l,o⟩:=f
    refine cd (λ_=>[1,uf 4 150 y.wb key Wr.v ws kw _ hw,8,8,1,0,uf 3 97 x.mb key Mk.v ms k _ a,9,9]) λz=>?_;refine dk 24 [9,1,se p,9,se l,9,1,bT o] [] (Fl.nil (ao [] ?_));have:zj ws ms C.vs key y.id y.b=none:=by simp only[zj,hw,a,if_pos (And.intro p (And.intro l o))]
    refine a7 [8,9] [goInt 0] [x.en,x.kE y,x.eE,x.mE ms k,y.wE ws kw,x.cE,C.hd,C.rw] ?_;simp only[AE,this];exact⟨rfl,trivial⟩
   ·refine cd (λ_=>[1,uf 4 150 y.wb key Wr.v ws kw _ hw,8,8,1,0,uf 3 97 x.mb key Mk.v ms k _ a,9,9]) λz=>?_
    have i:=n z (.ob (z+1) (.cells #[goInt j,goInt mt] 113)) (by rw[a];exact f);by_cases c:j=y.id
    ·exact dk 24 [9,1,wG c] [] (Fl.nil (ao [] (cx i)))
    ·by_cases d:mt=0
     ·exact dk 24 [9,1,se c,9,wG d] [] (Fl.nil (ao [] (cx i)))
     ·exact dk 24 [9,1,se c,9,se d,9,1,bF λu=>f ⟨c,d,u⟩] [] (Fl.nil (ao [] (cx i)))
theorem Pt{α:Type}{f:α->ae ag}{k:Nat}(b:∀a,(f a).length=k):∀(l:ae α)(i j:Nat)(x z:α)(u:ag),j<k->l[i]?=Z x->f z=(f x).set j u->(l.flatMap f).set (i*k+j) u=(l.set i z).flatMap f
 |[],i,j,x,z,u,_,h,_=>by simp at h
 |y::l,0,j,x,z,u,c,h,d=>by
  simp only[tL,ij]at h;subst h;rw[tK,List.set_cons_zero,tK,Nat.zero_mul,qn,List.set_append_left _ _ (by rw[b];exact c),d]
 |y::l,i+1,j,x,z,u,c,h,d=>by
  simp only[Kp]at h;rw[tK,List.set_cons_succ,tK,<-Pt b l i j x z u c h d,List.set_append_right _ _ (by rw[b,Nat.succ_mul];omega),b];congr 2;rw[Nat.succ_mul];omega
abbrev Td(c:Nat):ag:=.func (.func 133) #[pt c] #[]
def cO.skip(y:cO):cO:={y.rd with nx:=Td y.c}
def cO.take(y:cO)(i a b:Nat):cO:={y with site:=i,nx:=.func (.func 134) #[] #[pt a,pt b]}
def FZ(x:aM)(y:cO)(r:ag)(L:ae En):Prop:=r=ah 1/\match tc x.si 0 with
 |none=>∃g a,L=[(x.ba y 5 ⟨#[]⟩ 0 g a).en,x.kE y.skip,(x.ba y 5 ⟨#[]⟩ 0 g a).eE,x.sE]
 |some i=>∃v b c,x.si[i]?=Z v/\L=[x.en,x.kE (y.take i b c),x.eE,{x with si:=x.si.set i {v with busy:=U}}.sE,.ob b (.cells #[pt y.c] 149),.ob c (.cells #[ah i] 3)]
theorem ad5(x:aM)(y:cO)(h:x.Ok y)(f:x.si.length<1000000):Fl Sv 98 [pt y.c].toArray [x.en,x.kE y,x.eE,x.sE] (FZ x y):=by
 refine Fl.of 39 λk j=>?_;refine cd (λ_=>[4,1,0]) λz=>?_;refine c5 [3] (ak4 x f) ?_;rintro _ _ ⟨rfl,rfl⟩;cases hf:tc x.si 0 with
 |none=>
  refine cd (λ_=>[5,5,fp (-1) 0,4]) λb=>?_;refine c5 [0,1,2] (yY x y 5 0 ⟨#[]⟩ h) ?_;rintro _ _ ⟨rfl,g,a,rfl⟩;refine ao [4,4,1] ?_;refine a7 [4,5] [goInt 1] [(x.ba y 5 ⟨#[]⟩ 0 g a).en,x.kE y.skip,(x.ba y 5 ⟨#[]⟩ 0 g a).eE,x.sE] ?_;simp only[FZ,hf];exact⟨rfl,g,a,rfl⟩
 |some i=>
  have d:i<x.si.length:=by
   have:=Wd _ _ _ hf;omega
  obtain⟨v,c⟩:∃v,x.si[i]?=some v:=⟨_,List.getElem?_eq_getElem d⟩;have e:(x.si.flatMap eZ.cells)[i*3]?=some (.bool v.busy):=dS eZ.len x.si i 0 v aX c;refine cd (λ_=>[5,5,fH i 0,4,5,1]) λb=>?_;refine gX 8 [4,1,0,5] [] [8,9,10] (Fl.run [iX 95 3 x.sb x.si.length d,rr 3 e] ?_);refine ao [4,1] ?_;refine a7 [] [goInt 1] [x.en,x.kE (y.take i z b),x.eE,.row 111 3 (some x.sb) x.si.length x.si.length ((x.si.flatMap eZ.cells).set (i*3+0) (.bool true)),.ob z (.cells #[pt y.c] 149),.ob b (.cells #[goInt i] 3)] ?_;rw[Pt eZ.len x.si i 0 v {v with busy:=true} _ aX c rfl];simp only[FZ,hf];exact⟨rfl,v,z,b,c,by simp[aM.sE]⟩
def cO.qv(y:cO)(b:Int):cO:={y with b:=b}
def ad2(x:aM)(y:cO)(i:Nat)(r:ag)(L:ae En):Prop:=r=ah 1/\∃g a,L=[(x.ba y 1 ⟨#[]⟩ x.ck g a).en,x.kE (y.qv x.ck).rd,(x.ba y 1 ⟨#[]⟩ x.ck g a).eE,({x with si:=x.si.set i ⟨U,U,x.ck⟩}:aM).sE]
theorem ad3(x:aM)(y:cO)(i d e:Nat)(h:x.Ok y)(b:i<x.si.length):Fl Sv 134 [pt d,pt e].toArray [x.en,x.kE y,x.eE,x.sE,.ob d (.cells #[pt y.c] 149),.ob e (.cells #[goInt i] 3)] (ad2 x y i):=by
 obtain⟨v,c⟩:∃v,x.si[i]?=some v:=⟨_,List.getElem?_eq_getElem b⟩;have j:(x.si.flatMap eZ.cells)[i*3]?=some (.bool v.busy):=dS eZ.len x.si i 0 v aX c;have k:((x.si.flatMap eZ.cells).set (i*3) (.bool true))[i*3+1]?=some (.bool v.holds):=by
  rw[List.getElem?_set_ne ai];exact dS eZ.len x.si i 1 v aX c
 have l:(((x.si.flatMap eZ.cells).set (i*3) (.bool true)).set (i*3+1) (.bool true))[i*3+2]?=some (goInt v.b):=by
  rw[List.getElem?_set_ne ai,List.getElem?_set_ne ai];exact dS eZ.len x.si i 2 v aX c
 refine Fl.of 33 λn m=>?_;refine ao [] ?_;refine gX 8 [4,4,1,0] [] [8,9,10] (Fl.run [1] (ao [] ?_));refine gX 13 [4,1,0,5,4,1] [] [13,14] (Fl.run [iX 95 3 x.sb x.si.length b,rr 3 j,rr 3 k,rr 3 l] (ao [] ?_));have f:=DN eZ.len ⟨true,true,x.ck⟩ rfl x.si i b;refine dk 7 [4,4,1] [5,6] ?_;refine tM [0,1,2] (yY x (y.qv x.ck) 1 x.ck ⟨#[]⟩ ⟨h.1,h.2⟩) ?_;rintro _ _ ⟨rfl,g,a,rfl⟩;refine gY (vN [] (Fl.nil (ao [] ?_)));refine a7 [4,5] [goInt 1] [(x.ba y 1 ⟨#[]⟩ x.ck g a).en,x.kE (y.qv x.ck).rd,(x.ba y 1 ⟨#[]⟩ x.ck g a).eE,.row 111 3 (some x.sb) x.si.length x.si.length ((((x.si.flatMap eZ.cells).set (i*3) (.bool true)).set (i*3+1) (.bool true)).set (i*3+2) (goInt x.ck))] ⟨rfl,g,a,?_⟩;rw[f];simp[aM.sE]
def G'(p:Stp)(y:cO):cO:=if p.kind≠5/\p.kind≠6 then y.skip else y.rd
def ZC(x:aM)(y:cO)(p:Stp)(r:ag)(L:ae En):Prop:=r=ah 1/\∃g a,L=[(x.ba y 7 ⟨#[]⟩ 0 g a).en,x.kE (G' p y),(x.ba y 7 ⟨#[]⟩ 0 g a).eE,y.pE]
theorem cO.of{y:cO}{g:Nat}(h:y.pg=Z g):∃a:cO,y={a with pg:=Z g}:=⟨y,by cases y;simp_all⟩
theorem yR{X:Cx}{b:ae aK}{d:ae bV}{c:Env}(i:Nat)(g:aj Nat)(n a:Nat)(j:0<n)(e:g=I)(f:(L[i]?).map VN=.some (.some (g,n,a)):=by kernel_rfl):Rs Sv X b d c L:=lF i g n a j (λk h _=>by rw[e]at h;cases h) f
theorem ao1(x:aM)(y:cO)(p:Stp)(h:x.Ok y)(d:y.pr[y.at_]?=some p):Fl Sv 154 [pt y.c].toArray [x.en,x.kE y,x.eE,y.pE] (ZC x y p):=by
 have aE:y.at_<y.pr.length:=(List.getElem?_eq_some_iff.1 d).1;have j:(y.pr.flatMap Stp.cells)[y.at_*3]?=some (goInt p.kind):=dS Stp.len y.pr y.at_ 0 p aX d;rcases xW:y.pg with _|i
 ·exact Fl.of 28 λf e=>yR 3 y.pg y.pr.length y.pc ai xW
 obtain⟨y,rfl⟩:=cO.of xW;refine Fl.of 28 λf e=>?_;refine ao [] ?_;refine dk 12 [1,1,iX 45 3 i y.pc aE,rr 3 j] [] (Fl.nil (ao [] ?_));refine c5 [0,1,2] (yY x _ 7 0 ⟨#[]⟩ h) ?_;rintro _ _ ⟨rfl,g,a,rfl⟩;by_cases b:p.kind=5
 ·refine ao [wG b] (dH [goInt 1] _ ⟨rfl,g,a,rfl⟩ (hL:=?_))
  rw[G',if_neg (by simp[b])];kernel_rfl
 ·by_cases c:p.kind=6
  ·refine ao [se b,wG c] (dH [goInt 1] _ ⟨rfl,g,a,rfl⟩ (hL:=?_))
   rw[G',if_neg (by simp[c])];kernel_rfl
  ·refine ao [se b,se c,1] (dH [goInt 1] _ ⟨rfl,g,a,rfl⟩ (hL:=?_))
   rw[G',if_pos ⟨b,c⟩];kernel_rfl
theorem aaJ(x:aM)(y:cO)(h:x.Ok y)(b:y.at_≤y.pr.length):Fl Sv 133 [pt y.c].toArray [x.en,x.kE y,x.eE,y.pE] λr L=>match y.pr[y.at_]? with
  |some p=>ZC x y p r L
  |none=>r=goInt (-1)∧L=[x.en,x.kE y,x.eE,y.pE]:=by
 refine Fl.of 15 λe d=>?_;refine ao [] ?_;cases hp:y.pr[y.at_]? with
 |none=>
  have f:y.at_=y.pr.length:=Nat.le_antisymm b (List.getElem?_eq_none_iff.1 hp);refine dk 10 [1,1,fB y.at_ y.pr.length] [] (Fl.nil (ao [] ?_));exact dH [goInt (-1)] [x.en,x.kE y,x.eE,y.pE] (by simp only[hp];exact⟨rfl,trivial⟩)
 |some p=>
  have aE:y.at_<y.pr.length:=(List.getElem?_eq_some_iff.1 hp).1;refine dk 10 [1,1,bR y.at_ y.pr.length] [] (Fl.nil (ao [] ?_));refine c5 [0,1,2,3] (ao1 x y p h hp) ?_;rintro v c ⟨rfl,g,a,rfl⟩;refine ao [] (dH [goInt 1] [(x.ba y 7 ⟨#[]⟩ 0 g a).en,x.kE (G' p y),(x.ba y 7 ⟨#[]⟩ 0 g a).eE,y.pE] ?_);simp only[hp];exact⟨rfl,g,a,rfl⟩
abbrev kS(g i n W:Nat):ag:=.slice (Z ⟨g,i,I⟩) (n-i) (W-i)
theorem akW{t b n W:Nat}{a:aR}(m:0<n)(h:lM P t b=U)(w:au):(GN t (.slice (Z a) n W) (ah 0)).run P w=.ok (.value (.pointer (Z a))) w:=by
 unfold lM at h;split at h
 ·rename_i e f
  split at h
  ·rename_i l c
   have j:=vB f w;have d:=Fb c w;show((Instr.indexAt t (.slice (Z a) n W) (ah 0))>>=λv=>(ayU (lT v):Sem Next)).run P w=_;unfold Instr.indexAt;simp only[eJ,ah,asIntOf,pure,bx,j,eh];rw[if_pos (by constructor<;>omega)];simp only[eJ,d,eh,bx,Int.toNat_zero,Nat.zero_mul];rfl
  ·cases h
 ·cases h
theorem ath{t g i n W:Nat}(m:1<=n)(d:W≠1)(h:lM P t 1=U)(w:au):(J4 t (.slice (Z ⟨g,i,I⟩) n W) (ah 1)).run P w=.ok (.value (.slice (Z ⟨g,i+1,I⟩) (n-1) (W-1))) w:=by
 unfold lM at h;split at h
 ·rename_i e f
  split at h
  ·rename_i l b
   have h:=BL h;have j:=vB f w;have a:=Fb b w;rw[h]at a;show((vF t (.slice (Z ⟨g,i,I⟩) n W) (Z (ah 1)) I I)>>=λv=>(ayU (lT v):Sem Next)).run P w=_;have c:bx P (xa (ah 1) n .sliceB) w=.ok 1 w:=by
    unfold xa;simp only[eJ,ah,asIntOf,pure,bx,eh];rw[if_pos (by constructor<;>omega)];simp[bx]
   unfold vF Instr.slice;simp only[eJ,j,eh,Instr.sliceBounds,pure,bx,c,a,Option.isSome_none,kg,if_false,if_neg d];rfl
  ·cases h
 ·cases h
abbrev zF(t b n W:Nat)(a:aR)(c:0<n)(h:lM P t b=U:=by kernel_rfl):Aw P:=.s (GN t (.slice (Z a) n W) (ah 0)) (.value (.pointer (Z a))) (akW c h)
abbrev jP(t g i n W:Nat)(a:1<=n/\W≠1)(h:lM P t 1=U:=by kernel_rfl):Aw P:=.s (J4 t (.slice (Z ⟨g,i,I⟩) n W) (ah 1)) (.value (.slice (Z ⟨g,i+1,I⟩) (n-1) (W-1))) (ath a.1 a.2 h)
def vc(g W:Nat)(V:ae Int):En:=.row 3 1 (Z g) V.length W (V.map ah)
def cO.lN(y:cO)(v:ag):cO:={y with nx:=v}
def clash(T:bL Mk)(a:ae bt)(k id b:Int):Bool:=(match iC T k with
 |some m=>m.1 !=id
 |none=>Y)||decide (CH a>b)
def aM.lv(x:aM)(y:cO):aM:={x with si:=x.si.set y.site ⟨Y,Y,0⟩}
def yg(x:aM)(y:cO)(T:bL Mk)(S:Nat)(Q:bL Wr)(R:Nat)(C:bI)(g i W:Nat)(V:ae Int)(k:Int)(r:ag)(L:ae En):Prop:=r=ah 1/\if clash T C.vs k y.id y.b then
  ∃b a,L=[(x.ba y 4 ⟨#[]⟩ 0 b a).en,x.kE y.rd,(x.ba y 4 ⟨#[]⟩ 0 b a).eE,x.mE (vg y.id T) S,(x.lv y).sE,y.wE [] R,x.cE,C.hd,C.rw]
 else if i+1=V.length then L=[x.en,x.kE (y.lN (.func (.func 138) #[pt y.c] #[])),x.eE,x.mE (j7 T k (y.id,0) S) (qb T k S),x.sE,y.wE Q R,x.cE,C.hd,C.rw]
 else∃O N,L=[x.en,x.kE (y.lN (.func (.func 137) #[] #[pt O,pt N])),x.eE,x.mE (j7 T k (y.id,0) S) (qb T k S),x.sE,y.wE Q R,x.cE,C.hd,C.rw,vc g W V,.ob O (.cells #[pt y.c] 149),.ob N (.cells #[kS g i V.length W] 55)]
noncomputable def YM(b:Bool):ae aK:=
 let X:Cx:=⟨102,78,.normal,[],[],λ_ _=>True⟩;let a:=(nx Sv X (bG Sv 102 #[] .normal).todo [] (yZ [pt 0,aC] 0) [.ob 0 (.cells #[aC,pt 0] 152)] [1,0] (.n 1)).todo
 (nx Sv X (pT (nx Sv X (pT a) [] [] [] []).todo) [] [(49,.bool b)] [] []).todo
section
variable {K:ae az}{M:ae En}(x:aM)(y:cO)(T:bL Mk)(S:Nat)(Q:bL Wr)(R:Nat)(C:bI)(g i W:Nat)(V:ae Int)(k:Nat)(O N:Nat)(e:En)
abbrev YL:ae En:=[x.en,x.kE y,x.eE,x.mE T S,x.sE,y.wE Q R,x.cE,C.hd,C.rw,vc g W V,.ob O (.cells #[pt y.c] 149),.ob N (.cells #[kS g i V.length W] 55),e]
theorem RP(h:x.Ok y)(d:mq T S)(f:y.site<x.si.length)(c:clash T C.vs k y.id y.b=U):Rs Sv (fx Sv 102 78 K M (yg x y T S Q R C g i W V k)) (YM U) [] [(2,pt O),(3,pt N),(5,pt x.s)] (YL x y T S Q R C g i W V O N e):=by
 refine ao [10] ?_;refine c5 [0,1,3,4,5] (Jz x y T S Q R d f) ?_;rintro _ _ rfl;refine ao [10] ?_;refine c5 [0,1,2] (yY x y 4 0 ⟨#[]⟩ h) ?_;rintro _ _ ⟨rfl,b,a,rfl⟩;refine ao [] (a7 [9,10,11,12] [ah 1] [(x.ba y 4 ⟨#[]⟩ 0 b a).en,x.kE y.rd,(x.ba y 4 ⟨#[]⟩ 0 b a).eE,x.mE (vg y.id T) S,(x.lv y).sE,y.wE [] R,x.cE,C.hd,C.rw] ?_);rw[yg,if_pos c];exact⟨F,b,a,F⟩
theorem YN(h:i<V.length)(f:V[i]?=some (k:Int))(c:clash T C.vs k y.id y.b=false):Rs Sv (fx Sv 102 78 K M (yg x y T S Q R C g i W V k)) (YM false) [] [(2,pt O),(3,pt N),(5,pt x.s)] (YL x y T S Q R C g i W V O N e):=by
 have d:(V.map goInt)[i]?=some (goInt k):=by rw[List.getElem?_map,f];rfl
 refine gX 12 [0,11,zF 55 1 (V.length-i) (W-i) ⟨g,i,none⟩ ai,rr 9 d,10,1] [] [12] (Fl.run [Oc 3 97 x.mb k Mk.v T S (y.id,0)] ?_);have a:¬clash T C.vs k y.id y.b=true:=by rw[c];simp
 by_cases b:i+1=V.length
 ·refine ao [10,1,11,fB (V.length-i:Nat) 1,10,10,1] (a7 [9,10,11,12] [goInt 1] [x.en,x.kE (y.lN (.func (.func 138) #[pt y.c] #[])),x.eE,x.mE (j7 T k (y.id,0) S) (qb T k S),x.sE,y.wE Q R,x.cE,C.hd,C.rw] ?_)
  rw[yg,if_neg a,if_pos b];exact⟨rfl,rfl⟩
 ·refine ao [10,1,11,bR (V.length-i:Nat) 1] (a7 [12] [goInt 1] [x.en,x.kE (y.lN (.func (.func 137) #[] #[pt O,pt N])),x.eE,x.mE (j7 T k (y.id,0) S) (qb T k S),x.sE,y.wE Q R,x.cE,C.hd,C.rw,vc g W V,.ob O (.cells #[pt y.c] 149),.ob N (.cells #[kS g i V.length W] 55)] ?_)
  rw[yg,if_neg a,if_neg b];exact⟨rfl,O,N,rfl⟩
end
theorem YO (x:aM) (y:cO) (T:bL Mk) (S:Nat) (Q:bL Wr) (R:Nat) (C:bI) (g i W:Nat) (V:List Int) (k:Nat) (h:x.Ok y) (hm:mq T S) (hs:y.site<x.si.length) (hk:x.ch[k]?=some C.c) (hl:C.vs.length<1000000) (hi:V[i]?=some (k:Int)) (hc:V.length≤W):Fl Sv 102 [pt y.c,kS g i V.length W].toArray [x.en,x.kE y,x.eE,x.mE T S,x.sE,y.wE Q R,x.cE,C.hd,C.rw,vc g W V] (yg x y T S Q R C g i W V k):=by
 have l:i<V.length:=(List.getElem?_eq_some_iff.1 hi).1;have f:k<x.ch.length:=(List.getElem?_eq_some_iff.1 hk).1;have d:(x.ch.map pt)[k*1]?=some (pt C.c):=by rw[Nat.mul_one,List.getElem?_map,hk];rfl
 have a:(V.map goInt)[i]?=some (goInt k):=by rw[List.getElem?_map,hi];rfl
 refine Fl.of 78 λK M=>?_;refine cd (λ_=>[10,1]) λz=>?_;cases zt:iC T k with
 |none=>
  refine gX 13 [0,11,zF 55 1 (V.length-i) (W-i) ⟨g,i,none⟩ ai,rr 9 a,uf 3 97 x.mb k Mk.v T S _ zt] [11,12] [13] (rk (λ_=>[]) λb=>vN [12,12] (Fl.run [] (ao [] ?_)));by_cases aE:CH C.vs>y.b
  ·refine dk 27 [0,11,zF 55 1 (V.length-i) (W-i) ⟨g,i,none⟩ ai,rr 9 a,iX 96 1 x.cb x.uG f,rr 6 d,10,1] [20,.p [25,26]] (tM [7,8] (MP C hl) ?_)
   rintro _ _ ⟨rfl,rfl⟩;exact gY (FF [bT aE] (Fl.nil (ao [] (cx (RP x y T S Q R C g i W V k z (z+1) (.ob b (.cells #[goInt 0,goInt 0] 113)) h hm hs (by simp[clash,zt,aE]))))))
  ·refine dk 27 [0,11,zF 55 1 (V.length-i) (W-i) ⟨g,i,none⟩ ai,rr 9 a,iX 96 1 x.cb x.uG f,rr 6 d,10,1] [20,.p [25,26]] (tM [7,8] (MP C hl) ?_)
   rintro _ _ ⟨rfl,rfl⟩;exact gY (FF [bF aE] (Fl.nil (ao [] (cx (YN x y T S Q R C g i W V k z (z+1) (.ob b (.cells #[goInt 0,goInt 0] 113)) l hi (by simp[clash,zt,aE,zt]))))))
 |some m=>
  obtain⟨j,mt⟩:=m;refine gX 13 [0,11,zF 55 1 (V.length-i) (W-i) ⟨g,i,none⟩ ai,rr 9 a,uf 3 97 x.mb k Mk.v T S _ zt] [11,12] [13] (rk (λ_=>[]) λb=>vN [12,12] (Fl.run [] (ao [] ?_)));by_cases c:j=y.id
  ·by_cases aE:CH C.vs>y.b
   ·refine dk 27 [12,10,1,wG c,0,11,zF 55 1 (V.length-i) (W-i) ⟨g,i,none⟩ ai,rr 9 a,iX 96 1 x.cb x.uG f,rr 6 d,10,1] [20,.p [25,26]] (tM [7,8] (MP C hl) ?_)
    rintro _ _ ⟨rfl,rfl⟩;exact gY (FF [bT aE] (Fl.nil (ao [] (cx (RP x y T S Q R C g i W V k z (z+1) (.ob b (.cells #[goInt j,goInt mt] 113)) h hm hs (by simp[clash,zt,aE]))))))
   ·refine dk 27 [12,10,1,wG c,0,11,zF 55 1 (V.length-i) (W-i) ⟨g,i,none⟩ ai,rr 9 a,iX 96 1 x.cb x.uG f,rr 6 d,10,1] [20,.p [25,26]] (tM [7,8] (MP C hl) ?_)
    rintro _ _ ⟨rfl,rfl⟩;exact gY (FF [bF aE] (Fl.nil (ao [] (cx (YN x y T S Q R C g i W V k z (z+1) (.ob b (.cells #[goInt j,goInt mt] 113)) l hi (by simp[clash,zt,aE,c]))))))
  ·exact dk 27 [12,10,1,se c] [] (Fl.nil (ao [] (cx (RP x y T S Q R C g i W V k z (z+1) (.ob b (.cells #[goInt j,goInt mt] 113)) h hm hs (by simp[clash,zt,c])))))
def sC(l:ae Int):ae Int:=l.mergeSort λx y=>decide (x<=y)
def avH:Go.Shelf.Ren:=⟨λ|5=>139|8=>159|7=>158|19=>172|20=>173|10=>163|11=>164|12=>165|13=>166|14=>167|15=>168|16=>169|17=>170|18=>171|30=>174|31=>175|32=>176|33=>177|34=>178|35=>179|40=>180|n=>n,λ|23=>55|25=>3|3=>3|32=>167|22=>55|0=>0|44=>90|46=>103|4=>4|36=>256|35=>255|41=>261|5=>5|9=>9|53=>265|57=>268|63=>270|64=>47|n=>n,λn=>n⟩
theorem aby:SlLaysM.n5 Sv avH:={
 mixed:=by kernel_rfl
 f5:=⟨Tryz.f139.name,by decide,by kernel_rfl⟩
 f7:=⟨Tryz.f158.name,by decide,by kernel_rfl⟩
 f8:=by kernel_rfl
 f10:=⟨Tryz.f163.name,by decide,by kernel_rfl⟩
 f11:=⟨Tryz.f164.name,by decide,by kernel_rfl⟩
 f12:=⟨Tryz.f165.name,by decide,by kernel_rfl⟩
 f13:=⟨Tryz.f166.name,by decide,by kernel_rfl⟩
 f14:=⟨Tryz.f167.name,by decide,by kernel_rfl⟩
 f15:=⟨Tryz.f168.name,by decide,by kernel_rfl⟩
 f16:=⟨Tryz.f169.name,by decide,by kernel_rfl⟩
 f17:=⟨Tryz.f170.name,by decide,by kernel_rfl⟩
 f18:=⟨Tryz.f171.name,by decide,by kernel_rfl⟩
 f19:=by kernel_rfl
 f20:=by kernel_rfl
 f30:=⟨Tryz.f174.name,by decide,by kernel_rfl⟩
 f31:=by kernel_rfl
 f32:=by kernel_rfl
 f33:=⟨Tryz.f177.name,by decide,by kernel_rfl⟩
 f34:=⟨Tryz.f178.name,by decide,by kernel_rfl⟩
 f35:=⟨Tryz.f179.name,by decide,by kernel_rfl⟩
 f40:=⟨Tryz.f180.name,by decide,by kernel_rfl⟩
 t0:=(oV 0).trans Tryz.underlying0
 a0:=λw=>(pO 0 w).trans (Tryz.isAgg0 w)
 z0:=λw=>(pP 0 w).trans (Tryz.sizeOf0 w)
 v0:=λw=>(pQ 0 w).trans (Tryz.zeroValue0 w)
 t3:=(oV 3).trans Tryz.underlying3
 a3:=λw=>(pO 3 w).trans (Tryz.isAgg3 w)
 z3:=λw=>(pP 3 w).trans (Tryz.sizeOf3 w)
 v3:=λw=>(pQ 3 w).trans (Tryz.zeroValue3 w)
 t4:=(oV 4).trans Tryz.underlying4
 a4:=λw=>(pO 4 w).trans (Tryz.isAgg4 w)
 z4:=λw=>(pP 4 w).trans (Tryz.sizeOf4 w)
 v4:=λw=>(pQ 4 w).trans (Tryz.zeroValue4 w)
 t5:=(oV 5).trans Tryz.underlying5
 a5:=λw=>(pO 5 w).trans (Tryz.isAgg5 w)
 z5:=λw=>(pP 5 w).trans (Tryz.sizeOf5 w)
 v5:=λw=>(pQ 5 w).trans (Tryz.zeroValue5 w)
 t9:=(oV 9).trans Tryz.underlying9
 a9:=λw=>(pO 9 w).trans (Tryz.isAgg9 w)
 z9:=λw=>(pP 9 w).trans (Tryz.sizeOf9 w)
 v9:=λw=>(pQ 9 w).trans (Tryz.zeroValue9 w)
 t22:=(oV 55).trans Tryz.underlying55
 a22:=λw=>(pO 55 w).trans (Tryz.isAgg55 w)
 z22:=λw=>(pP 55 w).trans (Tryz.sizeOf55 w)
 v22:=λw=>(pQ 55 w).trans (Tryz.zeroValue55 w)
 t23:=(oV 55).trans Tryz.underlying55
 a23:=λw=>(pO 55 w).trans (Tryz.isAgg55 w)
 z23:=λw=>(pP 55 w).trans (Tryz.sizeOf55 w)
 v23:=λw=>(pQ 55 w).trans (Tryz.zeroValue55 w)
 t25:=(oV 3).trans Tryz.underlying3
 a25:=λw=>(pO 3 w).trans (Tryz.isAgg3 w)
 z25:=λw=>(pP 3 w).trans (Tryz.sizeOf3 w)
 v25:=λw=>(pQ 3 w).trans (Tryz.zeroValue3 w)
 t32:=(oV 167).trans Tryz.underlying167
 a32:=λw=>(pO 167 w).trans (Tryz.isAgg167 w)
 z32:=λw=>(pP 167 w).trans (Tryz.sizeOf167 w)
 v32:=λw=>(pQ 167 w).trans (Tryz.zeroValue167 w)
 t35:=(oV 255).trans Tryz.underlying255
 a35:=λw=>(pO 255 w).trans (Tryz.isAgg255 w)
 z35:=λw=>(pP 255 w).trans (Tryz.sizeOf255 w)
 v35:=λw=>(pQ 255 w).trans (Tryz.zeroValue255 w)
 t36:=(oV 256).trans Tryz.underlying256
 a36:=λw=>(pO 256 w).trans (Tryz.isAgg256 w)
 z36:=λw=>(pP 256 w).trans (Tryz.sizeOf256 w)
 v36:=λw=>(pQ 256 w).trans (Tryz.zeroValue256 w)
 t41:=(oV 261).trans Tryz.underlying261
 a41:=λw=>(pO 261 w).trans (Tryz.isAgg261 w)
 z41:=λw=>(pP 261 w).trans (Tryz.sizeOf261 w)
 v41:=λw=>(pQ 261 w).trans (Tryz.zeroValue261 w)
 t44:=(oV 90).trans Tryz.underlying90
 a44:=λw=>(pO 90 w).trans (Tryz.isAgg90 w)
 z44:=λw=>(pP 90 w).trans (Tryz.sizeOf90 w)
 v44:=λw=>(pQ 90 w).trans (Tryz.zeroValue90 w)
 t46:=(oV 103).trans Tryz.underlying103
 a46:=λw=>(pO 103 w).trans (Tryz.isAgg103 w)
 z46:=λw=>(pP 103 w).trans (Tryz.sizeOf103 w)
 v46:=λw=>(pQ 103 w).trans (Tryz.zeroValue103 w)
 t53:=(oV 265).trans Tryz.underlying265
 a53:=λw=>(pO 265 w).trans (Tryz.isAgg265 w)
 z53:=λw=>(pP 265 w).trans (Tryz.sizeOf265 w)
 v53:=λw=>(pQ 265 w).trans (Tryz.zeroValue265 w)
 t57:=(oV 268).trans Tryz.underlying268
 a57:=λw=>(pO 268 w).trans (Tryz.isAgg268 w)
 z57:=λw=>(pP 268 w).trans (Tryz.sizeOf268 w)
 v57:=λw=>(pQ 268 w).trans (Tryz.zeroValue268 w)
 t63:=(oV 270).trans Tryz.underlying270
 a63:=λw=>(pO 270 w).trans (Tryz.isAgg270 w)
 z63:=λw=>(pP 270 w).trans (Tryz.sizeOf270 w)
 v63:=λw=>(pQ 270 w).trans (Tryz.zeroValue270 w)
 t64:=(oV 47).trans Tryz.underlying47
 a64:=λw=>(pO 47 w).trans (Tryz.isAgg47 w)
 z64:=λw=>(pP 47 w).trans (Tryz.sizeOf47 w)
 v64:=λw=>(pQ 47 w).trans (Tryz.zeroValue47 w)
}
theorem avG(g:aj Nat)(c:Nat)(a:ae Int)(R:a.length<1000000):Fl Sv 139 [sv g a.length c].toArray [.row 3 1 g a.length c (a.map ah)] λ_ L=>L=[.row 3 1 g a.length c ((sC a).map ah)]:=λQ H r w e=>by
 subst e;have v:Row w.heap 3 1 (sv g a.length c) a.length (a.map ah):=r.at (L:=[.row 3 1 g a.length c (a.map ah)]) (i:=0) F;cases g with
 |none=>
  have K:a=[]:=by
   rcases v.2 with⟨_,h⟩|⟨D,l,d,h,_⟩
   ·exact De h
   ·simp[sv]at h
  subst K;exact Calls.mono (AnyM.slices_Sort_int_none aby I c w) λe s⟨m,k⟩=>⟨.tuple #[],m,by rw[k],by rw[k],_,F,by rw[k];simpa[sC]using r⟩
 |some g=>
  obtain⟨d,q,q3,N,O,P⟩:∃d,w.heap[g]?=Z (.cells d 3)/\a.length<=c/\c<=maxLen/\d.size=c*1/\d.toList.take (a.length*1)=a.map ah:=by
   rcases v.2 with⟨h,_⟩|⟨D,l,d,h,m,k,E,G,J⟩
   ·cases h
   ·cases h;exact⟨d,m,k,E,G,J⟩
  have C:a.length<=d.size:=by omega
  have u:=aE q;refine Calls.mono (AnyM.slices_Sort_int aby g 0 c a w (λj p=>?_) u ai) λe s⟨m,n,M,k⟩=>⟨.tuple #[],m,by rw[k];rfl,by rw[k];rfl,_,F,?_⟩
  ·have p:j<a.length:=by simpa using p
   have o:d[0+j]?=Z (ah a[j]):=by
    have:(d.toList.take (a.length*1))[j]?=Z (ah a[j]):=by rw[P];simp[p]
    rw[BJ,if_pos ai,w7]at this;rw[qn];exact this
   exact⟨by rw[show(a.toArray)[j]! =a[j] by simp[p]];exact uR q o,Qj q _⟩
  ·have t:s.heap=w.heap.modify g (Sort.onCells (Sort.putCells (Value.int .i64) 0 (sC a).toArray))++M:=by rw[k];rfl
   have y:∀b,b<w.heap.size->s.heap[b]?=(w.heap.modify g (Sort.onCells (Sort.putCells (Value.int .i64) 0 (sC a).toArray)))[b]?:=λb z=>by
    rw[t,Array.getElem?_append_left (by simpa using z)]
   have f:(sC a).length=a.length:=List.length_mergeSort _;refine Kn.set (A:=[]) (e':=.row 3 1 (Z g) a.length c ((sC a).map ah)) r ?_ (λx o=>.inl o) (by rw[t];simp) λx o B=>?_
   ·refine⟨by simp[f],.inr ⟨g,c,Sort.putCells (Value.int .i64) 0 (sC a).toArray d,F,?_,q3,N,by simp[Sort.putCells,O],?_⟩⟩
    ·rw[y g u,Fs,if_pos F,q];rfl
    ·have:=Go.take_putCellsI d (sC a) (by rw[f];exact C)
     rw[f]at this;rw[ayT];exact this
   ·rw[y x o,Fs,if_neg (λe=>B (by rw[<-e];rfl))]
def jb(a:bL Wr):ae Int:=sC (a.map (·.1))
theorem Js(a:bL Wr):(jb a).length=a.length:=by rw[jb,sC,List.length_mergeSort,iV]
def Yi(x:aM)(y:cO)(b:bL Wr)(d:Nat)(r:ag)(L:ae En):Prop:=∃g a,(0<b.length->∃c,g=Z c)/\b.length<=a/\r=sv g (jb b).length a/\L=[x.kE y,y.wE b d,.row 3 1 g (jb b).length a ((jb b).map ah)]
theorem apj{a p:bL V}(b:(a.map (·.2.2)).Nodup)(i:(p.map (·.2.2)).Nodup)(c:∀e∈p,e∈a)(j:∀e∈a,e.2.2∈p.map (·.2.2)):p.Perm a:=by
 have l:a.Nodup:=List.Pairwise.of_map (·.2.2) (λ_ _ h e=>h (by rw[e])) b;have m:p.Nodup:=List.Pairwise.of_map (·.2.2) (λ_ _ h e=>h (by rw[e])) i;refine(List.perm_ext_iff_of_nodup m l).2 λe=>⟨c e,λd=>?_⟩;obtain⟨g,f,k⟩:=ox.1 (j e d);rw[<-MZ b (c g f) d k];exact f
theorem abx{a b:ae Int}(h:a.Perm b):sC a=sC b:=by
 unfold sC;refine List.Perm.eq_of_pairwise (le:=λx y=>x<=y) (λ_ _ _ _ d e=>Int.le_antisymm d e) ?_ ?_ ((List.mergeSort_perm a _).trans (h.trans (List.mergeSort_perm b _).symm))
 ·have:=List.pairwise_mergeSort (le:=λx y:Int=>decide (x<=y)) (λa b c d e=>by simp only[decide_eq_true_eq]at*;omega) (λa b=>by simp only[Bool.or_eq_true,decide_eq_true_eq];omega) a
  exact this.imp λh=>by simpa using h
 ·have:=List.pairwise_mergeSort (le:=λx y:Int=>decide (x<=y)) (λa b c d e=>by simp only[decide_eq_true_eq]at*;omega) (λa b=>by simp only[Bool.or_eq_true,decide_eq_true_eq];omega) b
  exact this.imp λh=>by simpa using h
theorem R7:∀(p l:ae Nat),p.Nodup->(∀a∈p,a∈l)->p.length<=l.length
 |[],_,_,_=>je _
 |a::p,l,c,h=>by
  simp only[rb]at c;have d:=h a (fu ..);have:=R7 p (l.erase a) c.2 λb f=>(List.mem_erase_of_ne λe=>c.1 (by rw[<-e];exact f)).2 (h b (eK _ f));rw[List.length_erase_of_mem d]at this;have:=List.length_pos_of_mem d;simp only[iH];omega
theorem Rg(x:aM)(y:cO)(c:bL Wr)(j:Nat)(t:mq c j)(R:c.length<1000000):Fl Sv 103 [pt y.c].toArray [x.kE y,y.wE c j] (Yi x y c j):=by
 refine Fl.of 21 λP O=>?_;refine cd (λ_=>[0,1,.g,.x]) λz=>?_;refine jJ 3 1 ?_;refine j4 (ι:=bL Wr×Option Nat×Nat) (λi=>c.length-i.1.length) (λi=>[(0,pt y.c),(3,sv i.2.1 i.1.length i.2.2),(9,pt z)]) (λi=>[x.kE y,y.wE c j,.ob z (.mapIter (some y.wb) j (i.1.map (·.2.2)).toArray j),.row 3 1 i.2.1 i.1.length i.2.2 ((i.1.map (·.1)).map goInt)]) (λi=>(i.1.map (·.2.2)).Nodup∧∀e∈i.1,e∈c) ([],none,0) ⟨List.Pairwise.nil,(λ_ h=>by cases h)⟩ ?_;rintro⟨p,g,d⟩ ⟨s,n⟩ E;simp only at s n E;have S:p.length≤c.length:=by
  have:=R7 _ (c.map (·.2.2)) s λa l=>by
   obtain⟨e,k,rfl⟩:=List.mem_map.1 l;exact List.mem_map_of_mem (n e k)
  simpa using this
 refine ao [] ?_;refine iW (Zr Wr.v 2 1 z y.wb 0 c j j j (p.map (·.2.2)).toArray λe k=>⟨t.old e k,t.old e k⟩) ?_;rintro _ _ (⟨M,rfl,rfl⟩|⟨e,k,A,rfl,rfl⟩)
 ·have w:=apj t.born s n λe k=>by simpa using M e k
  refine ao [] ?_;have D:=avG g d (p.map (·.1)) (by simp only[List.length_map];omega);simp only[List.length_map]at D;refine c5 [3] D ?_;rintro v _ rfl;have G:jb c=sC (p.map λx:Int×Wr×Nat=>x.1):=(abx (w.map λx:Int×Wr×Nat=>x.1)).symm;have r:=w.length_eq;have B:(0<c.length→∃q,g=some q)∧c.length≤d→Yi x y c j (qg [sv g p.length d]) [x.kE y,y.wE c j,.row 3 1 g p.length d ((sC (p.map λx:Int×Wr×Nat=>x.1)).map goInt)]:=λf=>
   ⟨g,d,f.1,f.2,by rw[Js,r];rfl,by rw[Js,←G,r]⟩
  refine ao [] ?_;by_cases J:0<p.length
  ·exact lF 3 g p.length d J λq K Q=>a7 [2] [sv g p.length d] _ (B ⟨λ_=>⟨q,K⟩,by omega⟩)
  ·exact a7 [2] [sv g p.length d] _ (B ⟨λh=>by omega,by omega⟩)
 ·refine ao [] ?_
  have H:(p++[e]).map (·.2.2)=p.map (·.2.2)++[e.2.2]:=by simp
  refine iW (VO Wr.v 2 1 z y.wb c j j (p.map (·.2.2)).toArray e k t.born) ?_;rintro _ _ ⟨rfl,rfl⟩;refine cd (λ_=>[]) λT=>?_;refine iW (app1 55 3 4 p.length ai) ?_;rintro _ _ ⟨q,o,rfl,rfl⟩;refine ao [.g,.x] ?_;refine dP [4] ?_;have r:(p++[e]).length=p.length+1:=by simp
  have aE:p.length<c.length:=by
   have:=R7 (e.2.2::p.map (·.2.2)) (c.map (·.2.2)) (List.nodup_cons.2 ⟨λh=>A (List.mem_toArray.2 h),s⟩) λa l=>by
    rcases List.mem_cons.1 l with rfl|l
    ·exact List.mem_map_of_mem k
    ·obtain⟨u,m,rfl⟩:=List.mem_map.1 l
     exact List.mem_map_of_mem (n u m)
   simp only[List.length_cons,List.length_map]at this;omega
  have:=E (p++[e],some q,o) (by simp only[r];omega) ⟨by
   rw[H];exact List.nodup_append.2 ⟨s,by simp,λa l b C N=>A (by rw[List.mem_singleton]at C;subst C;subst N;exact List.mem_toArray.2 l)⟩,λu m=>by
   rcases List.mem_append.1 m with m|m
   ·exact n u m
   ·rw[List.mem_singleton.1 m];exact k⟩
  have L:(p.map (·.2.2)++[e.2.2]).toArray=(p.map (·.2.2)).toArray.push e.2.2:=by simp
  simp only[r,List.map_append,List.map_cons,List.map_nil,L]at this;exact cx this
theorem anx (x:aM) (y:cO) (ms:bL Mk) (km:Nat) (ws:bL Wr) (kw:Nat) (C:bI) (g i cap:Nat) (ks:List Int) (k:Nat) (a1 a2:Nat) (h:x.Ok y) (hm:mq ms km) (hs:y.site<x.si.length) (hk:x.ch[k]?=some C.c) (hl:C.vs.length<1000000) (hi:ks[i+1]?=some (k:Int)) (hc:ks.length≤cap):Fl Sv 137 [pt a1,pt a2].toArray [.ob a1 (.cells #[pt y.c] 149),.ob a2 (.cells #[kS g i ks.length cap] 55),x.en,x.kE y,x.eE,x.mE ms km,x.sE,y.wE ws kw,x.cE,C.hd,C.rw,vc g cap ks] (yg x y ms km ws kw C g (i+1) cap ks k):=by
 have p:i+1<ks.length:=(List.getElem?_eq_some_iff.1 hi).1;refine Fl.of 7 λn j=>?_;refine ao [] ?_;refine dk 5 [0,1,jP 55 g i (ks.length-i) (cap-i) ⟨by omega,by omega⟩] [3,4] (tM [2,3,4,5,6,7,8,9,10,11] (YO x y ms km ws kw C g (i+1) cap ks k h hm hs hk hl hi hc) ?_);intro v f b;have a:=b;rcases a with⟨rfl,a⟩;by_cases d:clash ms C.vs k y.id y.b=true
 ·rw[if_pos d]at a
  obtain⟨o,c,rfl⟩:=a;exact gY (vN [] (Fl.nil (ao [] (a7 [0,1] [goInt 1] _ b))))
 ·rw[if_neg d]at a
  by_cases e:i+1+1=ks.length
  ·rw[if_pos e]at a
   subst a;exact gY (vN [] (Fl.nil (ao [] (a7 [0,1] [goInt 1] _ b))))
  ·rw[if_neg e]at a
   obtain⟨l,m,rfl⟩:=a;exact gY (vN [] (Fl.nil (ao [] (a7 [0,1] [goInt 1] _ b))))
def C5(id c:Int)(b:ae Int)(d:bL Mk)(a:Nat):bL Mk×Nat:=b.foldl (λp k=>(j7 p.1 k (id,c) p.2,qb p.1 k p.2)) (d,a)
def aM.tick(x:aM):aM:={x with ck:=x.ck+1}
def cO.NY(y:cO)(c:Int)(z:Nat):cO:={y with bP:=c,nx:=.func (.func 156) #[] #[pt z]}
def J'(x:aM)(y:cO)(c:bL Mk)(b:Nat)(d:bL Wr)(e:Nat)(r:ag)(L:ae En):Prop:=r=ah 1/\if x.ck=x.li then
  ∃g a,L=[(x.ba y 6 ⟨#[]⟩ 0 g a).en,x.kE y.rd,(x.ba y 6 ⟨#[]⟩ 0 g a).eE,x.mE (vg y.id c) b,(x.lv y).sE,y.wE [] e]
 else∃z,L=[x.tick.en,x.kE (y.NY (x.ck+1) z),x.eE,x.mE (C5 y.id (x.ck+1) (jb d) c b).1 (C5 y.id (x.ck+1) (jb d) c b).2,x.sE,y.wE d e,.ob z (.cells #[pt y.c] 149)]
theorem abD (x:aM) (y:cO) (ms:bL Mk) (km:Nat) (ws:bL Wr) (kw:Nat) (h:x.Ok y) (hm:mq ms km) (hw:mq ws kw) (lq:ws.length<1000000) (hs:y.site<x.si.length) (l6:0≤x.ck∧x.ck<1000000000000):Fl Sv 138 [pt y.c].toArray [x.en,x.kE y,x.eE,x.mE ms km,x.sE,y.wE ws kw] (J' x y ms km ws kw):=by
 refine Fl.of 63 λr q=>?_;refine cd (λ_=>[6,1]) λz=>?_;by_cases e:x.ck=x.li
 ·refine dk 9 [0,0,bT e] [] (Fl.nil (ao [6] ?_))
  refine c5 [0,1,3,4,5] (Jz x y ms km ws kw hm hs) ?_;rintro _ _ rfl;refine ao [6] ?_;refine c5 [0,1,2] (yY x y 6 0 ⟨#[]⟩ h) ?_;rintro _ _ ⟨rfl,d,a,rfl⟩;refine ao [] (a7 [6] [goInt 1] [(x.ba y 6 ⟨#[]⟩ 0 d a).en,x.kE y.rd,(x.ba y 6 ⟨#[]⟩ 0 d a).eE,x.mE (vg y.id ms) km,(x.lv y).sE,y.wE [] kw] ?_);rw[J',if_pos e];exact⟨rfl,d,a,rfl⟩
 ·refine dk 9 [0,0,bF e] [] (Fl.nil (ao [0,aI (x.ck+1) (x.ck+1) ai,0] ?_))
  refine gX 7 [6,0] [] [7] (Fl.run [1] (ao [6] ?_));refine c5 [1,5] (Rg x.tick {y with bP:=x.ck+1} ws kw hw lq) ?_;rintro _ _ ⟨g,b,_,_,rfl,rfl⟩;refine ao [.g,.x] ?_;have t:=Js ws;refine j4 (ι:=Nat×bL Mk×Nat) (λi=>(jb ws).length-i.1) (λi=>[(1,pt z),(3,pt x.s),(38,sv g (jb ws).length b),(39,goInt (jb ws).length),(40,goInt i.1)])
   (λi=>[x.tick.en,{y with bP:=x.ck+1}|>x.kE,x.eE,x.mE i.2.1 i.2.2,x.sE,y.wE ws kw,.ob z (.cells #[pt y.c] 149),.row 3 1 g (jb ws).length b ((jb ws).map goInt)])
   (λi=>i.1≤(jb ws).length∧C5 y.id (x.ck+1) ((jb ws).take i.1) ms km=(i.2.1,i.2.2)) (0,ms,km) ⟨Nat.zero_le _,rfl⟩ ?_
  rintro⟨i,j,f⟩ ⟨p,c⟩ m;simp only at p c m;by_cases aE:i<(jb ws).length
  ·refine lF 7 g (jb ws).length b ai λd o _=>?_
   subst o;obtain⟨k,l⟩:∃k,(jb ws)[i]?=some k:=⟨_,List.getElem?_eq_getElem ai⟩;have n:((jb ws).map goInt)[i*1]?=some (goInt k):=by rw[Nat.mul_one,List.getElem?_map,l];rfl
   refine ao [fp i ((jb ws).length),ix 55 1 d (jb ws).length b i i ⟨rfl,aE⟩,rr 7 n] ?_;refine gX 14 [0,6,1,6,1] [] [14] (Fl.run [Oc 3 97 x.mb k Mk.v j f (y.id,x.ck+1)] (ao [aS i,.g,.x] ?_));refine cx (m (i+1,j7 j k (y.id,x.ck+1) f,qb j k f) (by simp only;omega) ⟨aE,?_⟩);rw[List.take_add_one,l];simp only[C5,List.foldl_append]at c⊢;rw[c];rfl
  ·have s:i=(jb ws).length:=by omega
   refine ao [fH i ((jb ws).length),6,1] ?_;refine a7 [7] [goInt 1] [x.tick.en,x.kE (y.NY (x.ck+1) z),x.eE,x.mE j f,x.sE,y.wE ws kw,.ob z (.cells #[pt y.c] 149)] ?_;rw[J',if_neg e];refine⟨rfl,z,?_⟩;rw[List.take_of_length_le ai]at c;rw[c]
def bI.put(C:bI)(g:aj Nat)(a:Nat)(v:bt):bI:=⟨C.c,g,a,C.vs++[v]⟩
def Ez(x:aM)(y:cO)(h:bL Mk)(e:Nat)(j:bL Wr)(f:Nat)(C:bI)(g i b:Nat)(d:ae Int)(k:Int)(w:Wr)(r:ag)(L:ae En):Prop:=r=ah 1/\if i+1=d.length then
  ∃z c a,L=[x.en,x.kE (y.lN (.func (.func 162) #[] #[pt z])),y.wE j f,x.cE,(C.put c a ⟨y.bP,w.1,w.2⟩).hd,(C.put c a ⟨y.bP,w.1,w.2⟩).rw,x.mE (mV k h) e,.ob z (.cells #[pt y.c] 149)]
 else∃z l c a,L=[x.en,x.kE (y.lN (.func (.func 161) #[] #[pt z,pt l])),y.wE j f,x.cE,(C.put c a ⟨y.bP,w.1,w.2⟩).hd,(C.put c a ⟨y.bP,w.1,w.2⟩).rw,x.mE (mV k h) e,vc g b d,.ob z (.cells #[pt y.c] 149),.ob l (.cells #[kS g i d.length b] 55)]
theorem X' (x:aM) (y:cO) (ms:bL Mk) (km:Nat) (ws:bL Wr) (kw:Nat) (C:bI) (g i cap:Nat) (ks:List Int) (k:Nat) (w:Wr) (hw:iC ws k=some w) (hk:x.ch[k]?=some C.c) (d:C.vs.length<1000000) (hi:ks[i]?=some (k:Int)):Fl Sv 157 [pt y.c,kS g i ks.length cap].toArray [x.en,x.kE y,y.wE ws kw,x.cE,C.hd,C.rw,x.mE ms km,vc g cap ks] (Ez x y ms km ws kw C g i cap ks k w):=by
 have m:i<ks.length:=(List.getElem?_eq_some_iff.1 hi).1;have h:k<x.ch.length:=(List.getElem?_eq_some_iff.1 hk).1;have f:(x.ch.map pt)[k*1]?=some (pt C.c):=by rw[Nat.mul_one,List.getElem?_map,hk];rfl
 have e:(ks.map goInt)[i]?=some (goInt k):=by rw[List.getElem?_map,hi];rfl
 obtain⟨b,v⟩:=w;refine Fl.of 56 λl j=>?_;refine cd (λ_=>[8,1]) λz=>?_;refine gX 9 [8,1,9,zF 55 1 (ks.length-i) (cap-i) ⟨g,i,none⟩ ai,rr 7 e,lkB 2 150 y.wb k Wr.v ws kw _ hw] [8] [9] (rk (λ_=>[]) λn=>Fl.run [10,10] (ao [] ?_));refine dk 19 [0,9,zF 55 1 (ks.length-i) (cap-i) ⟨g,i,none⟩ ai,rr 7 e,iX 96 1 x.cb x.uG h,rr 3 f,8,1,10,10] [18] (tM [4,5] (alp C ⟨y.bP,b,v⟩ d) ?_);rintro _ _ ⟨c,a,rfl⟩;refine gY (Fl.nil (ao [] ?_));refine gX 7 [0,9,zF 55 1 (ks.length-i) (cap-i) ⟨g,i,none⟩ ai,rr 7 e] [] [7] (Fl.run [VB 6 97 3 0 x.mb k Mk.v ms km] ?_);by_cases d:i+1=ks.length
 ·refine ao [8,1,9,fB (ks.length-i:Nat) 1,8,1] (a7 [7,9,10] [goInt 1] [x.en,x.kE (y.lN (.func (.func 162) #[] #[pt z])),y.wE ws kw,x.cE,(C.put c a ⟨y.bP,b,v⟩).hd,(C.put c a ⟨y.bP,b,v⟩).rw,x.mE (mV k ms) km,.ob z (.cells #[pt y.c] 149)] ?_)
  rw[Ez,if_pos d];exact⟨rfl,z,c,a,rfl⟩
 ·refine ao [8,1,9,bR (ks.length-i:Nat) 1] (a7 [10] [goInt 1] [x.en,x.kE (y.lN (.func (.func 161) #[] #[pt z,pt (z+1)])),y.wE ws kw,x.cE,(C.put c a ⟨y.bP,b,v⟩).hd,(C.put c a ⟨y.bP,b,v⟩).rw,x.mE (mV k ms) km,vc g cap ks,.ob z (.cells #[pt y.c] 149),.ob (z+1) (.cells #[kS g i ks.length cap] 55)] ?_)
  rw[Ez,if_neg d];exact⟨rfl,z,z+1,c,a,rfl⟩
theorem ak6 (x:aM) (y:cO) (ms:bL Mk) (km:Nat) (ws:bL Wr) (kw:Nat) (C:bI) (g i cap:Nat) (ks:List Int) (k:Nat) (w:Wr) (a1 a2:Nat) (hw:iC ws k=some w) (hk:x.ch[k]?=some C.c) (hl:C.vs.length<1000000) (hi:ks[i+1]?=some (k:Int)) (hc:ks.length≤cap):Fl Sv 161 [pt a1,pt a2].toArray [.ob a1 (.cells #[pt y.c] 149),.ob a2 (.cells #[kS g i ks.length cap] 55),x.en,x.kE y,y.wE ws kw,x.cE,C.hd,C.rw,x.mE ms km,vc g cap ks] (Ez x y ms km ws kw C g (i+1) cap ks k w):=by
 have l:i+1<ks.length:=(List.getElem?_eq_some_iff.1 hi).1;refine Fl.of 7 λj h=>?_;refine ao [] ?_;refine dk 5 [0,1,jP 55 g i (ks.length-i) (cap-i) ⟨by omega,by omega⟩] [3,4] (tM [2,3,4,5,6,7,8,9] (X' x y ms km ws kw C g (i+1) cap ks k w hw hk hl hi) ?_);intro v f c;have a:=c;rcases a with⟨rfl,a⟩;by_cases d:i+1+1=ks.length
 ·rw[if_pos d]at a
  obtain⟨z,e,b,rfl⟩:=a;exact gY (vN [] (Fl.nil (ao [] (a7 [0,1] [goInt 1] _ c))))
 ·rw[if_neg d]at a
  obtain⟨z,m,e,b,rfl⟩:=a;exact gY (vN [] (Fl.nil (ao [] (a7 [0,1] [goInt 1] _ c))))
theorem ak7(x:aM)(y:cO)(c:bL Mk)(b:Nat)(f:bL Wr)(d:Nat)(e:Nat)(h:x.Ok y)(i:mq c b)(j:y.site<x.si.length):Fl Sv 162 [pt e].toArray [.ob e (.cells #[pt y.c] 149),x.en,x.kE y,x.eE,x.mE c b,x.sE,y.wE f d] λr L=>r=goInt 1∧∃g a,L=[(x.ba y 1 ⟨#[]⟩ y.bP g a).en,x.kE y.rd,(x.ba y 1 ⟨#[]⟩ y.bP g a).eE,x.mE (vg y.id c) b,(x.lv y).sE,y.wE [] d]:=by
 refine Fl.of 10 λl k=>?_;refine ao [0] ?_;refine c5 [1,2,4,5,6] (Jz x y c b f d i j) ?_;rintro _ _ rfl;refine ao [] ?_;refine dk 7 [0,0,2] [5,6] (tM [1,2,3] (yY x y 1 y.bP ⟨#[]⟩ h) ?_);rintro _ _ ⟨rfl,g,a,rfl⟩;exact gY (vN [] (Fl.nil (ao [] (a7 [0] [goInt 1] _ ⟨rfl,g,a,rfl⟩))))
theorem avQ (x:aM) (y:cO) (ms:bL Mk) (km:Nat) (ws:bL Wr) (kw:Nat) (C:bI) (k:Nat) (w:Wr) (a1:Nat) (AR:mq ws kw) (lq:ws.length<1000000) (hw:iC ws k=some w) (hk:x.ch[k]?=some C.c) (hl:C.vs.length<1000000) (hi:(jb ws)[0]?=some (k:Int)):Fl Sv 156 [pt a1].toArray [.ob a1 (.cells #[pt y.c] 149),x.en,x.kE y,y.wE ws kw,x.cE,C.hd,C.rw,x.mE ms km] λr L=>∃g a,ws.length≤a∧Ez x y ms km ws kw C g 0 a (jb ws) k w r L:=by
 have n:0<(jb ws).length:=(List.getElem?_eq_some_iff.1 hi).1;have o:=Js ws;refine Fl.of 6 λm l=>?_;refine ao [] ?_;refine dk 5 [0,0] [2,3,4] (tM [2,3] (Rg x y ws kw AR lq) ?_);rintro _ _ ⟨_,a,i,f,rfl,rfl⟩;obtain⟨g,rfl⟩:=i ai;refine gY (tM [1,2,3,4,5,6,7,8] (X' x y ms km ws kw C g 0 a (jb ws) k w hw hk hl hi) ?_);intro v j d;have b:=d;rcases b with⟨rfl,b⟩;by_cases e:0+1=(jb ws).length
 ·rw[if_pos e]at b
  obtain⟨z,h,c,rfl⟩:=b;exact gY (vN [] (Fl.nil (ao [] (a7 [0] [goInt 1] _ ⟨g,a,f,d⟩))))
 ·rw[if_neg e]at b
  obtain⟨z,p,h,c,rfl⟩:=b;exact gY (vN [] (Fl.nil (ao [] (a7 [0] [goInt 1] _ ⟨g,a,f,d⟩))))
theorem aq0(x:aM)(y:cO)(c:y.at_=y.pr.length):Fl Sv 60 [pt y.c].toArray [x.kE y] λr L=>r=goInt (-1)∧L=[x.kE y]:=by
 refine Fl.of 73 λb a=>ao [] ?_;refine dk 10 [0,0,fB y.at_ y.pr.length] [] (Fl.nil (ao [] ?_));exact dH [goInt (-1)] _ ⟨rfl,rfl⟩
theorem Hg {x:aM} {y:cO} {p:Stp} (h:x.Ok y) (hp:y.pr[y.at_]?=some p):
  (p.kind=1→x.si.length<1000000→Fl Sv 60 [pt y.c].toArray [y.pE,x.en,x.kE y,x.eE,x.sE] λr L=>∃t,FZ x y r t∧L=y.pE::t)∧
  (p.kind=2→∀l m d f(C:bI)(n:Nat),x.ch[n]?=some C.c→C.vs.length<1000000→p.key=n→Fl Sv 60 [pt y.c].toArray [y.pE,x.en,x.kE y,x.eE,x.mE l m,y.wE d f,x.cE,C.hd,C.rw] λr L=>∃t,AE x y l m d f C n r t∧L=y.pE::t)∧
  (∀b,(p.kind=3∧b=false∨p.kind=4∧b=true)→∀d f,Fl Sv 60 [pt y.c].toArray [y.pE,x.en,x.kE y,x.eE,y.wE d f] λr L=>r=goInt 1∧∃g c,L=[y.pE,(x.ba y 1 ⟨#[]⟩ 0 g c).en,x.kE y.rd,(x.ba y 1 ⟨#[]⟩ 0 g c).eE,y.wE (j7 d p.key (b,p.val) f) (qb d p.key f)])∧
  (∀l m d f,(p.kind=6∨p.kind=5∧d=[])→mq l m→y.site<x.si.length→Fl Sv 60 [pt y.c].toArray [y.pE,x.en,x.kE y,x.eE,x.mE l m,x.sE,y.wE d f] λr L=>r=goInt 1∧∃g c,L=[y.pE,(x.ba y 1 ⟨#[]⟩ 0 g c).en,x.kE y.rd,(x.ba y 1 ⟨#[]⟩ 0 g c).eE,x.mE (vg y.id l) m,(x.lv y).sE,y.wE [] f])∧
  (p.kind=5→∀l m d f(C:bI)(k:Nat),mq l m→mq d f→0<d.length∧d.length<1000000→y.site<x.si.length→x.ch[k]?=some C.c→C.vs.length<1000000→(jb d)[0]?=some (k:Int)→Fl Sv 60 [pt y.c].toArray [y.pE,x.en,x.kE y,x.eE,x.mE l m,x.sE,y.wE d f,x.cE,C.hd,C.rw] λr L=>∃g c t,d.length≤c∧yg x y l m d f C g 0 c (jb d) k r t∧L=y.pE::t):=by
 obtain⟨e,E,J⟩:=p;have aE:y.at_<y.pr.length:=(List.getElem?_eq_some_iff.1 hp).1;have T:(y.pr.flatMap Stp.cells)[y.at_*3]?=some (goInt e):=dS Stp.len y.pr y.at_ 0 _ aX hp;have V:(y.pr.flatMap Stp.cells)[y.at_*3+1]?=some (goInt E):=dS Stp.len y.pr y.at_ 1 _ aX hp;have W:(y.pr.flatMap Stp.cells)[y.at_*3+2]?=some (.string J):=dS Stp.len y.pr y.at_ 2 _ aX hp;have R:¬(y.at_:Int)=y.pr.length:=by omega
 refine⟨λs u=>?_,λs l m d f C n H u K=>?_,λb s d f=>?_,λl m d f s A B=>?_,λs l m d f C k A P O B H u X=>?_⟩
 all_goals
  simp only at s;rcases xW:y.pg with _|G
  ·exact Fl.of 73 λS Q=>yR 0 y.pg y.pr.length y.pc ai xW
  obtain⟨y,rfl⟩:=cO.of xW;refine Fl.of 73 λS Q=>ao [] (dk 10 [2,2,bF R] [] (Fl.nil (ao [] ?_)));refine gX 11 [2,2,iX 45 3 G y.pc aE,rr 0 T,rr 0 V,rr 0 W] [10] [11] (rk (λ_=>[]) λz=>?_)
 ·refine Fl.run [5,5,5] (ao [5,fB e 1] (c5 [1,2,3,4] (ad5 x _ h u) ?_))
  intro v M q;have j:=q;rcases j with⟨rfl,j⟩;cases hf:tc x.si 0 with
  |none=>
   rw[hf]at j;obtain⟨g,c,rfl⟩:=j;exact ao [] (a7 [5] [goInt 1] _ ⟨_,q,rfl⟩)
  |some i=>
   rw[hf]at j;obtain⟨v,bc,bi,hv,rfl⟩:=j;exact ao [] (a7 [5] [goInt 1] _ ⟨_,q,rfl⟩)
 ·simp only at K
  subst K;refine Fl.run [9,9,9] (ao [9,bR e 1,fB e 2,9] (c5 [1,2,3,4,5,6,7,8] (ag9 x _ l m d f C n h H u) ?_));intro v M q;have j:=q;cases w:zj d l C.vs n y.id y.b with
  |none=>
   simp only[AE,w]at j;obtain⟨rfl,rfl⟩:=j;exact ao [] (a7 [9] [goInt 0] _ ⟨_,q,rfl⟩)
  |some o=>
   simp only[AE,w]at j;obtain⟨rfl,g,c,rfl⟩:=j;exact ao [] (a7 [9] [goInt 1] _ ⟨_,q,rfl⟩)
 ·rcases s with⟨s,rfl⟩|⟨s,rfl⟩
  refine Fl.run [5,5,5] (ao [5,bR e 1,bR e 2,fB e 3] (gX 12 [2,5,5,bR e 4,5] [] [12] (Fl.run [Oc 4 150 y.wb E Wr.v d f (false,J)] (ao [] ?_))))
  rotate_left
  refine Fl.run [5,5,5] (ao [5,bR e 1,bR e 2,bR e 3,fB e 4] (gX 12 [2,5,5,fB e 4,5] [] [12] (Fl.run [Oc 4 150 y.wb E Wr.v d f (true,J)] (ao [] ?_))))
  all_goals
   refine c5 [1,2,3] (yY x _ 1 0 ⟨#[]⟩ h) ?_;rintro _ _ ⟨rfl,g,c,rfl⟩;exact ao [] (a7 [5] [goInt 1] _ ⟨rfl,g,c,rfl⟩)
 ·rcases s with s|⟨s,rfl⟩
  refine Fl.run [7,7,7] (ao [7,bR e 1,bR e 2,bR e 3,bR e 4,fB e 6] (c5 [1,2,4,5,6] (Jz x _ l m d f A B) ?_))
  rotate_left
  refine Fl.run [7,7,7] (ao [7,bR e 1,bR e 2,bR e 3,bR e 4,bR e 6,2,6,fB (0:Nat) 0 rfl] (c5 [1,2,4,5,6] (Jz x _ l m [] f A B) ?_))
  all_goals
   rintro _ _ rfl;refine ao [] (c5 [1,2,3] (yY x _ 1 0 ⟨#[]⟩ h) ?_);rintro _ _ ⟨rfl,g,c,rfl⟩;exact ao [] (a7 [7] [goInt 1] _ ⟨rfl,g,c,rfl⟩)
 ·have hz:(((fU Wr.v d).size:Int)==0)=false:=by
   have:(fU Wr.v d).size=d.length:=by simp[fU]
   rw[this];simp only[beq_eq_false_iff_ne];omega
  refine Fl.run [10,10,10] (ao [10,bR e 1,bR e 2,bR e 3,bR e 4,bR e 6,2,6,bB (a:=((fU Wr.v d).size:Int)==0) (b:=false) hz] ?_);refine c5 [2,6] (Rg x {y with pg:=some G} d f P O.2) ?_;rintro _ _ ⟨_,c,w,D,rfl,rfl⟩;obtain⟨g,rfl⟩:=w O.1;refine c5 [1,2,3,4,5,6,7,8,9,11] (YO x _ l m d f C g 0 c (jb d) k h A B H u X (by rw[Js];exact D)) ?_;intro v M q;have j:=q;rcases j with⟨rfl,j⟩;split at j
  ·obtain⟨G,N,rfl⟩:=j
   exact ao [] (a7 [10] [goInt 1] _ ⟨g,c,_,D,q,rfl⟩)
  split at j
  ·subst j
   exact ao [] (a7 [10] [goInt 1] _ ⟨g,c,_,D,q,rfl⟩)
  ·obtain⟨b1,b2,rfl⟩:=j
   exact ao [] (a7 [10] [goInt 1] _ ⟨g,c,_,D,q,rfl⟩)
structure dN where
 w:Nat
 low:Int
 nx:ag
 wk:ag
 tl:ag
def aM.uE(x:aM)(u:dN):En:=.ob u.w (.cells #[pt x.s,ah u.low,u.nx,u.wk,u.tl] 146)
def dN.go(u:dN)(low:Int)(v:ag):dN:={u with low:=low,nx:=v}
theorem agN(x:aM)(u:dN):Fl Sv 56 [pt u.w].toArray [x.en,x.uE u] λr L=>r=goInt 0∧∃z,L=[x.en,x.uE (u.go x.ck (.func (.func 96) #[] #[pt z])),.ob z (.cells #[pt u.w] 99)]:=by
 refine Fl.of 17 λb a=>?_;refine cd (λ_=>[]) λz=>?_;refine gX 10 [2,2,1,0] [] [10] (Fl.run [1] (ao [2,1] ?_));exact a7 [] [goInt 0] _ ⟨rfl,z,rfl⟩
def ye(v:eZ)(low:Int):Int:=if v.holds then(if v.b<low then v.b else low)else low
def By(x:aM)(u:dN)(i:Nat)(v:eZ)(r:ag)(L:ae En):Prop:=r=ah 0/\if i+1=x.si.length then
  ∃z,L=[x.en,x.uE (u.go (ye v u.low) (.func (.func 129) #[] #[pt z])),x.sE,.ob z (.cells #[pt u.w] 99)]
 else∃z a,L=[x.en,x.uE (u.go (ye v u.low) (.func (.func 128) #[] #[pt z,pt a])),x.sE,.ob z (.cells #[pt u.w] 99),.ob a (.cells #[ah i] 3)]
theorem aaH (x:aM) (u:dN) (i:Nat) (v:eZ) (hi:x.si[i]?=some v) (hl:x.si.length<1000000):Fl Sv 97 [pt u.w,goInt i].toArray [x.en,x.uE u,x.sE] (By x u i v):=by
 have aE:i<x.si.length:=(List.getElem?_eq_some_iff.1 hi).1;have d:(x.si.flatMap eZ.cells)[i*3]?=some (.bool v.busy):=dS eZ.len x.si i 0 v aX hi;have e:(x.si.flatMap eZ.cells)[i*3+1]?=some (.bool v.holds):=dS eZ.len x.si i 1 v aX hi;have f:(x.si.flatMap eZ.cells)[i*3+2]?=some (goInt v.b):=dS eZ.len x.si i 2 v aX hi;refine Fl.of 47 λk j=>?_;obtain⟨c,g,b⟩:=v;simp only at d e f;cases g with
 |true=>
  refine cd (λ_=>[]) λz=>?_;refine gX 11 [3,1,0,4,iX 95 3 x.sb x.si.length aE,rr 2 d,rr 2 e,rr 2 f] [10] [11] (rk (λ_=>[]) λh=>Fl.run [5,5,5] (ao [5] ?_));refine gX 10 [3,3,1,5,.d] [] [10] (Fl.run [1] (ao [3,1] ?_));by_cases a:i+1=x.si.length
  ·refine dk 11 [4,aS i,3,1,0,fB (i+1:Nat) x.si.length] [] (Fl.nil (ao [3,1] ?_))
   refine a7 [4,5] [goInt 0] [x.en,x.uE (u.go (ye ⟨c,true,b⟩ u.low) (.func (.func 129) #[] #[pt z])),x.sE,.ob z (.cells #[pt u.w] 99)] ?_;rw[By,if_pos a];exact⟨rfl,z,rfl⟩
  ·refine dk 11 [4,aS i,3,1,0,bR (i+1:Nat) x.si.length] [] (Fl.nil (ao [] ?_))
   refine a7 [5] [goInt 0] [x.en,x.uE (u.go (ye ⟨c,true,b⟩ u.low) (.func (.func 128) #[] #[pt z,pt (z+1)])),x.sE,.ob z (.cells #[pt u.w] 99),.ob (z+1) (.cells #[goInt i] 3)] ?_;rw[By,if_neg a];exact⟨rfl,z,z+1,rfl⟩
 |false=>
  refine cd (λ_=>[]) λz=>?_;refine gX 11 [3,1,0,4,iX 95 3 x.sb x.si.length aE,rr 2 d,rr 2 e,rr 2 f] [10] [11] (rk (λ_=>[]) λh=>Fl.run [5,5,5] (ao [5,3,1] ?_));by_cases a:i+1=x.si.length
  ·refine dk 11 [4,aS i,3,1,0,fB (i+1:Nat) x.si.length] [] (Fl.nil (ao [3,1] ?_))
   refine a7 [4,5] [goInt 0] [x.en,x.uE (u.go (ye ⟨c,false,b⟩ u.low) (.func (.func 129) #[] #[pt z])),x.sE,.ob z (.cells #[pt u.w] 99)] ?_;rw[By,if_pos a];exact⟨rfl,z,rfl⟩
  ·refine dk 11 [4,aS i,3,1,0,bR (i+1:Nat) x.si.length] [] (Fl.nil (ao [] ?_))
   refine a7 [5] [goInt 0] [x.en,x.uE (u.go (ye ⟨c,false,b⟩ u.low) (.func (.func 128) #[] #[pt z,pt (z+1)])),x.sE,.ob z (.cells #[pt u.w] 99),.ob (z+1) (.cells #[goInt i] 3)] ?_;rw[By,if_neg a];exact⟨rfl,z,z+1,rfl⟩
theorem S8{x:aM}{u:dN}{v:eZ}{r:ag}(h:By x u i v r L)
  (d:i+1=x.si.length->∀z,r=ah 0->L=[x.en,x.uE (u.go (ye v u.low) (.func (.func 129) #[] #[pt z])),x.sE,.ob z (.cells #[pt u.w] 99)]->p)
  (e:i+1≠x.si.length->∀z a,r=ah 0->L=[x.en,x.uE (u.go (ye v u.low) (.func (.func 128) #[] #[pt z,pt a])),x.sE,.ob z (.cells #[pt u.w] 99),.ob a (.cells #[ah i] 3)]->p):p:=by
 obtain⟨c,h⟩:=h;split at h
 ·rename_i b
  obtain⟨z,h⟩:=h;exact d b z c h
 ·rename_i b
  obtain⟨z,a,h⟩:=h;exact e b z a c h
theorem agM(x:aM)(u:dN)(v:eZ)(a:Nat)(c:x.si[0]?=some v)(d:x.si.length<1000000):Fl Sv 96 [pt a].toArray [.ob a (.cells #[pt u.w] 99),x.en,x.uE u,x.sE] (By x u 0 v):=by
 refine Fl.of 4 λh g=>ao [0] ?_;refine c5 [1,2,3] (aaH x u 0 v c d) ?_;intro r f b;refine S8 b ?_ ?_
 ·rintro e z rfl rfl
  exact ao [] (a7 [0] [goInt 0] _ b)
 ·rintro e z i rfl rfl
  exact ao [] (a7 [0] [goInt 0] _ b)
theorem as5(x:aM)(u:dN)(v:eZ)(i a c:Nat)(d:x.si[i+1]?=some v)(e:x.si.length<1000000):Fl Sv 128 [pt a,pt c].toArray [.ob a (.cells #[pt u.w] 99),.ob c (.cells #[goInt i] 3),x.en,x.uE u,x.sE] (By x u (i+1) v):=by
 have aE:i+1<x.si.length:=(List.getElem?_eq_some_iff.1 d).1;refine Fl.of 7 λj h=>ao [0,1,aS i] ?_;refine c5 [2,3,4] (aaH x u (i+1) v d e) ?_;intro r g b;refine S8 b ?_ ?_
 ·rintro f z rfl rfl
  exact ao [] (a7 [0,1] [goInt 0] _ b)
 ·rintro f z k rfl rfl
  exact ao [] (a7 [0,1] [goInt 0] _ b)
def wz(x:aM)(u:dN)(C:bI)(k:Nat)(r:ag)(L:ae En):Prop:=if k+1=x.ch.length then
  ∃g a,r=ah 1/\L=[x.en,x.uE (u.go u.low (.func (.func 56) #[pt u.w] #[])),x.cE,bI.hd ⟨C.c,g,a,mJ C.vs u.low⟩,bI.rw ⟨C.c,g,a,mJ C.vs u.low⟩]
 else∃g a z b,r=ah 0/\L=[x.en,x.uE (u.go u.low (.func (.func 153) #[] #[pt z,pt b])),x.cE,bI.hd ⟨C.c,g,a,mJ C.vs u.low⟩,bI.rw ⟨C.c,g,a,mJ C.vs u.low⟩,.ob z (.cells #[pt u.w] 99),.ob b (.cells #[ah k] 3)]
theorem Yh (x:aM) (u:dN) (C:bI) (k:Nat) (hk:x.ch[k]?=some C.c) (hl:C.vs.length<1000000) (hc:x.ch.length<1000000):Fl Sv 130 [pt u.w,goInt k].toArray [x.en,x.uE u,x.cE,C.hd,C.rw] (wz x u C k):=by
 have d:k<x.ch.length:=(List.getElem?_eq_some_iff.1 hk).1;have c:(x.ch.map pt)[k*1]?=some (pt C.c):=by rw[Nat.mul_one,List.getElem?_map,hk];rfl
 refine Fl.of 40 λf e=>?_;refine cd (λ_=>[]) λz=>?_;refine dk 15 [5,1,0,6,iX 96 1 x.cb x.uG d,rr 2 c,5,1] [14] (tM [3,4] (awY C u.low hl) ?_);rintro _ _ ⟨g,a,rfl⟩;refine gY (Fl.nil (ao [] ?_));by_cases b:k+1=x.ch.length
 ·refine dk 11 [6,aS k,5,1,0,fB (k+1:Nat) x.ch.length] [] (Fl.nil (ao [5,5,1] ?_))
  refine a7 [5,6] [goInt 1] [x.en,x.uE (u.go u.low (.func (.func 56) #[pt u.w] #[])),x.cE,bI.hd ⟨C.c,g,a,mJ C.vs u.low⟩,bI.rw ⟨C.c,g,a,mJ C.vs u.low⟩] ?_;rw[wz,if_pos b];exact⟨g,a,rfl,rfl⟩
 ·refine dk 11 [6,aS k,5,1,0,bR (k+1:Nat) x.ch.length] [] (Fl.nil (ao [5,1] ?_))
  refine a7 [] [goInt 0] [x.en,x.uE (u.go u.low (.func (.func 153) #[] #[pt z,pt (z+1)])),x.cE,bI.hd ⟨C.c,g,a,mJ C.vs u.low⟩,bI.rw ⟨C.c,g,a,mJ C.vs u.low⟩,.ob z (.cells #[pt u.w] 99),.ob (z+1) (.cells #[goInt k] 3)] ?_;rw[wz,if_neg b];exact⟨g,a,z,z+1,rfl,rfl⟩
theorem Re{x:aM}{u:dN}{C:bI}{r:ag}(h:wz x u C k r L)
  (f:k+1=x.ch.length->∀g a,r=ah 1->L=[x.en,x.uE (u.go u.low (.func (.func 56) #[pt u.w] #[])),x.cE,bI.hd ⟨C.c,g,a,mJ C.vs u.low⟩,bI.rw ⟨C.c,g,a,mJ C.vs u.low⟩]->p)
  (i:k+1≠x.ch.length->∀g a z b,r=ah 0->L=[x.en,x.uE (u.go u.low (.func (.func 153) #[] #[pt z,pt b])),x.cE,bI.hd ⟨C.c,g,a,mJ C.vs u.low⟩,bI.rw ⟨C.c,g,a,mJ C.vs u.low⟩,.ob z (.cells #[pt u.w] 99),.ob b (.cells #[ah k] 3)]->p):p:=by
 unfold wz at h;split at h
 ·rename_i e
  obtain⟨g,a,c,d⟩:=h;exact f e g a c d
 ·rename_i e
  obtain⟨g,a,z,b,c,d⟩:=h;exact i e g a z b c d
theorem as6(x:aM)(u:dN)(C:bI)(a:Nat)(e:x.ch[0]?=some C.c)(f:C.vs.length<1000000)(d:x.ch.length<1000000):Fl Sv 129 [pt a].toArray [.ob a (.cells #[pt u.w] 99),x.en,x.uE u,x.cE,C.hd,C.rw] (wz x u C 0):=by
 refine Fl.of 4 λk j=>ao [0] ?_;refine c5 [1,2,3,4,5] (Yh x u C 0 e f d) ?_;intro r i c;refine Re c ?_ ?_
 ·rintro h g b rfl rfl
  exact ao [] (a7 [0] [goInt 1] _ c)
 ·rintro h g b z l rfl rfl
  exact ao [] (a7 [0] [goInt 0] _ c)
theorem alH(x:aM)(u:dN)(C:bI)(k a d:Nat)(e:x.ch[k+1]?=some C.c)(h:C.vs.length<1000000)(f:x.ch.length<1000000):Fl Sv 153 [pt a,pt d].toArray [.ob a (.cells #[pt u.w] 99),.ob d (.cells #[goInt k] 3),x.en,x.uE u,x.cE,C.hd,C.rw] (wz x u C (k+1)):=by
 have aE:k+1<x.ch.length:=(List.getElem?_eq_some_iff.1 e).1;refine Fl.of 7 λm l=>ao [0,1,aS k] ?_;refine c5 [2,3,4,5,6] (Yh x u C (k+1) e h f) ?_;intro r j c;refine Re c ?_ ?_
 ·rintro i g b rfl rfl
  exact ao [] (a7 [0,1] [goInt 1] _ c)
 ·rintro i g b z n rfl rfl
  exact ao [] (a7 [0,1] [goInt 0] _ c)
section
open Go.Conc (G)
def Z5:aj Next->aj Nat
 |some (.comm ⟨[⟨.chan (Z c),I,_⟩]⟩ U (.recv Y))=>Z c
 |_=>I
def TM:aj Next->aj (Nat×ag)
 |some (.comm ⟨[⟨.chan (Z c),Z x,_⟩]⟩ U .send)=>Z (c,x)
 |_=>I
def JN:aj En->aj (Nat×ag×En)
 |some (.ob c (.chan d ⟨[v]⟩ Y a b tm))=>Z (c,v,.ob c (.chan d #[] Y a (b+1) tm))
 |_=>I
def M2(x:ag):aj En->aj (Nat×En)
 |some (.ob c (.chan (d+1) ⟨[]⟩ Y a b tm))=>Z (c,.ob c (.chan (d+1) #[x] Y (a+1) b tm))
 |_=>I
def Z7(i:Nat)(L:ae En):ag:=match JN L[i]? with
 |some (_,v,_)=>v
 |none=>aC
def Z6(i:Nat)(L:ae En):ae En:=match JN L[i]? with
 |some (_,_,e)=>L.set i e
 |none=>L
section
variable {P:aA}{X:Cx}{W:ae aK}{T:ae bV}{V:Env}{L:ae En}
def J7(P:aA)(W:ae aK)(V:Env):ag:=match TM ((mG W V).bind (fQ P))with
 |some (_,x)=>x
 |none=>aC
def abp(P:aA)(i:Nat)(W:ae aK)(V:Env)(L:ae En):ae En:=match M2 (J7 P W V) L[i]? with
 |some (_,e)=>L.set i e
 |none=>L
theorem aaA{L l}{i c k f a b g h}{j d}{tm}(m:Kn (L++l) w.heap)(n:L[i]?=gH (.ob c (.chan k j Y a b tm))):Kn (L.set i (.ob c (.chan f d Y g h tm))++l) (w.setChan c f d Y g h tm).heap:=by
 have q:=m.at n;have aE:=aE q;refine xi m n ?_ (λx o=>.inl o) (by simp[World.setChan]) λx o p=>?_
 ·show(w.setChan c f d Y g h tm).heap[c]?=_
  simp[World.setChan,aE]
 ·have:x≠c:=λe=>p (by subst e;rfl)
  simp only[World.setChan];rw[ie (Ne.symm this)]
theorem lW(i)(h:Rs P X (qQ W) T (pe V (ky W) (Z7 i L)) (Z6 i L))(f:(Z5 ((mG W V).bind (fQ P)),(JN L[i]?).isSome,fits X.N (ky W))=((JN L[i]?).map (·.1),U,U):=by kernel_rfl):Rs P X W T V L:=λl o H n m w e=>by
 subst e;simp only[fK]at f;obtain⟨f,d,x⟩:=f;obtain⟨⟨c,v,A⟩,d⟩:=Ae.1 d;rw[d,iy]at f;unfold Z6 Z7 at h;rw[d]at h;obtain⟨e,j⟩:∃e,L[i]?=gH e:=by
  cases h':L[i]? with
  |none=>rw[h']at d;cases d
  |some e=>exact⟨e,F⟩
 rw[j]at d;unfold JN at d;split at d<;>cases d;rename_i q a b tm k;cases k;unfold Z5 at f;split at f<;>cases f;rename_i z f;obtain⟨s,r,t⟩:=m4.1 f;obtain⟨g,y⟩:=JG l n r;have g:=Ss (cs:=X.cs) g;have u:=m.at j;have p:=Go.Conc.step_lone_recv_buf _ (Lf g t w) u aZ;refine Rh.steps (.one p) F F ?_;rw[y];exact h l _ _ (oh n (zf x v)) (aaA m j)
theorem gJ(i)(h:Rs P X (qQ W) T (pe V (ky W) aC) (abp P i W V L))(g:((TM ((mG W V).bind (fQ P))).map (·.1),(M2 (J7 P W V) L[i]?).isSome,fits X.N (ky W))=((M2 (J7 P W V) L[i]?).map (·.1),U,U):=by kernel_rfl):Rs P X W T V L:=λm p H o n w e=>by
 subst e;simp only[fK]at g;obtain⟨g,d,y⟩:=g;obtain⟨⟨c,D⟩,d⟩:=Ae.1 d;rw[d,iy]at g;unfold abp at h;rw[d]at h;obtain⟨⟨C,x⟩,f,rfl⟩:=gV.1 g;have A:J7 P W V=x:=by unfold J7;rw[f]
 rw[A]at d;obtain⟨e,k⟩:∃e,L[i]?=gH e:=by
  cases h':L[i]? with
  |none=>rw[h']at d;cases d
  |some e=>exact⟨e,F⟩
 rw[k]at d;unfold M2 at d;split at d<;>cases d;rename_i r a b tm l;cases l;unfold TM at f;split at f<;>cases f;rename_i z f;obtain⟨s,t,u⟩:=m4.1 f;obtain⟨j,B⟩:=JG m o t;have j:=Ss (cs:=X.cs) j;have v:=n.at k;have q:=Go.Conc.step_lone_send_room (Lf j u w) v aZ;refine Rh.steps (.one q) F F ?_;rw[B];exact h m _ _ (oh o (zf y _)) (aaA n k)
end
end
theorem Fl.perm{P}{f}{a}{L L'}{R}(h:Fl P f a L R)(p:L'.Perm L):Fl P f a L' R:=λc H b=>h _ H (b.perm (p.append_right _))
theorem du{P}{X}{a}{d}{b}{L}(c)(h:Rs P X a d b c)(e:L=c:=by kernel_rfl):Rs P X a d b L:=by subst e;exact h
theorem BQ{P}{X}{a}{c}{b}{L}{e}(h:Rs P X a c b L):Rs P X a c b (e::L):=λg f H j d=>h g _ H j ⟨λe i=>d.sat e (eK _ i),(nQ.1 d.nd).2⟩
theorem m5{P}{X}{a}{g}{c}{L}(A e){f}{b}{R}(k:Fl P f b e R)(h:∀v d,R v d->Rs P X (qQ a) g (pe c (ky a) v) (A++d))(i:L=A++e:=by kernel_rfl)(l:((mG a c).bind (λs=>(sE P s .r [] [] []).map λq=>(q.1,q.2.2.2.2)),fits X.N (ky a))=(gH (.enter f b,[]),U):=by kernel_rfl):Rs P X a g c L:=by
 subst i;exact nu _ A k kW (λv d j=>eP kW (h v _ j)) l
def aM.aL(x:aM)(m:Int):aM:={x with mu:=m}
theorem yc(x:aM):Fl Sv 43 [pt x.s].toArray [(x.aL 0).en] λr L=>r=.tuple #[]/\L=[(x.aL 1).en]:=by
 refine Fl.of 6 λb a=>?_;refine ao [0,.d,.d,0] ?_;exact a7 [] [] _ ⟨F,F⟩
def K'(c d:Nat)(v:ag)(a b:Nat):En:=.ob c (.chan d #[v] Y a b Y)
structure ed where
 w:Nat
 t:Nat
 d:Nat
def ed.v(k:ed):ag:=.agg #[.chan (Z k.w),.chan (Z k.t)]
def ed.wE(k:ed)(a b:Nat):En:=K' k.w 1 (.agg #[.chan (Z k.d),.chan (Z k.t)]) a b
def dE(d s:Nat)(n:Int)(c:Bool)(a b:Nat):En:=K' d 2 (.agg #[pt s,ah n,.bool c]) a b
structure Gc where
 v:ag
 n:Nat
instance:HAdd Gc Nat Gc:=⟨λg k=>⟨g.v,g.n+k⟩⟩
def gE(a:Gc)(b:Nat):En:=K' bq 5 a.v a.n b
def Lt(t:aJ)(p q:gU)(a b:ag):Sem Next:=qo (qo (kX .eql t p q a b) λ_=>binOp .eql t a b) λv=>.pure (.value v)
theorem ago(p q)(a)(w):(Lt 140 p q (.chan (Z a)) (.chan (Z a))).run Sv w=.ok (.value (.bool U)) w:=by
 have:(Lt 140 p q (.chan (Z a)) (.chan (Z a))).run Sv w=.ok (.value (.bool (Z a==Z a))) w:=by kernel_rfl
 rw[this];simp
abbrev VT(p q:gU)(a:Nat):Aw Sv:=.s _ _ (ago p q a)
theorem afE{q}{g}{R}(k:ed)(s)(n)(a)(b c e d f)(l:Fl Sv 67 [pt q].toArray g R):Fl Sv 66 [k.v,.func (.func 67) #[] #[pt q]].toArray (gE a b::k.wE c e::dE k.d s n Y d f::g) λv L=>∃h,R v h/\L=gE (a+1) (b+1)::k.wE (c+1) (e+1)::dE k.d s n Y (d+1) (f+1)::h:=by
 refine Fl.of 11 λo m=>?_;refine cd (λ_=>[]) λz=>?_;refine lW 0 (ao [] (lW 1 (gJ 1 (ao [] (lW 2 (gJ 2 (ao [VT (tm 7) (tm 6) k.t] ?_)))))));refine du (.ob bq (.chan 5 #[] Y a.n (b+1) Y)::k.wE (c+1) (e+1)::dE k.d s n Y (d+1) (f+1)::(g++[.ob z (.chan 4 #[] Y 0 0 Y)])) ?_;refine nu _ [.ob z (.chan 4 #[] Y 0 0 Y),.ob bq (.chan 5 #[] Y a.n (b+1) Y),k.wE (c+1) (e+1),dE k.d s n Y (d+1) (f+1)] l ((kW (l₁:=[_,_,_])).trans (.of_eq aZ)) λv i j=>?_;refine eP kW (BQ (gJ 0 (ao [] ?_)));exact dH [v] _ ⟨i,j,F⟩
theorem afF{q}{g}{R}(k:ed)(s)(n)(a)(b c e d f)(l:Fl Sv 69 [pt q].toArray g R):Fl Sv 66 [k.v,.func (.func 69) #[] #[pt q]].toArray (gE a b::k.wE c e::dE k.d s n Y d f::g) λv L=>∃h,R v h/\L=gE (a+1) (b+1)::k.wE (c+1) (e+1)::dE k.d s n Y (d+1) (f+1)::h:=by
 refine Fl.of 11 λo m=>?_;refine cd (λ_=>[]) λz=>?_;refine lW 0 (ao [] (lW 1 (gJ 1 (ao [] (lW 2 (gJ 2 (ao [VT (tm 7) (tm 6) k.t] ?_)))))));refine du (.ob bq (.chan 5 #[] Y a.n (b+1) Y)::k.wE (c+1) (e+1)::dE k.d s n Y (d+1) (f+1)::(g++[.ob z (.chan 4 #[] Y 0 0 Y)])) ?_;refine nu _ [.ob z (.chan 4 #[] Y 0 0 Y),.ob bq (.chan 5 #[] Y a.n (b+1) Y),k.wE (c+1) (e+1),dE k.d s n Y (d+1) (f+1)] l ((kW (l₁:=[_,_,_])).trans (.of_eq aZ)) λv i j=>?_;refine eP kW (BQ (gJ 0 (ao [] ?_)));exact dH [v] _ ⟨i,j,F⟩
section
variable {P:aA}{X:Cx}{W:ae aK}{T:ae bV}{V:Env}
theorem fw(A B:ae En)(h:Rs P ⟨X.fn,X.N,X.kind,X.cs,B++X.L2,X.jg⟩ W T V A):Rs P X W T V (A++B):=λb a H d c=>h b a H d (by rw[<-gw];exact c)
theorem eF{c B A:ae En}{e:bA}{a:dD}{d:ae az}{f:az->Hp->Prop}(h:Rs P ⟨e,N,a,d,c,f⟩ W T V (A++B)):Rs P ⟨e,N,a,d,B++c,f⟩ W T V A:=λg b H j i=>h g b H j (by rw[gw];exact i)
end
def cO.by(y:cO)(k:ed):cO:={y with wk:=.chan (Z k.w),tl:=.chan (Z k.t)}
abbrev iE(b:Nat)(i:Int):En:=.ob b (.cells #[ah i] 3)
abbrev gd(b s:Nat):En:=.ob b (.cells #[pt s] 39)
theorem apc (x:aM) (y:cO) (k:ed) (i bi bs bo:Nat) (n:Int) (a:Gc) (b a1 b1 a2 b2:Nat) (L0:List En) (R:Int→List En→Prop) (hl:x.cl.length<1000000) (hi:x.cl[i]?=some y.c)
  (hf:∀q,Fl Sv 67 [pt q].toArray (.ob q (.cells #[pt y.c] 149)::x.kE (y.by k)::x.en::L0) λv L=>∃r d,(v=goInt r∧R r d)∧L=.ob q (.cells #[pt y.c] 149)::d):
  Fl Sv 65 [pt bi,pt bs,pt bo].toArray (iE bi i::gd bs x.s::iE bo 0::x.lE::gE a b::k.wE a1 b1::dE k.d x.s n false a2 b2::x.kE (y.by k)::x.en::L0) λv L=>v=.nilIface∧∃r d,R r d∧L=iE bi i::gd bs x.s::iE bo r::x.lE::gE (a+1) (b+1)::k.wE (a1+1) (b1+1)::dE k.d x.s n false (a2+1) (b2+1)::d:=by
 have aE:i<x.cl.length:=(List.getElem?_eq_some_iff.1 hi).1;have g:(x.cl.map pt)[i*1]?=some (pt y.c):=by rw[Nat.mul_one,List.getElem?_map,hi];rfl
 have j:¬(i:Int)≥x.cl.length:=by omega
 rcases xW:x.qx with _|c
 ·exact Fl.of 30 λf e=>yR 3 x.qx x.cl.length x.B3 ai xW
 obtain⟨x,rfl⟩:∃x0:aM,x={x0 with qx:=some c}:=⟨x,by cases x;simp_all⟩;refine Fl.of 30 λf e=>?_;refine fw [iE bi i,gd bs x.s,iE bo 0,aM.lE {x with qx:=some c},gE a b,k.wE a1 b1,dE k.d x.s n false a2 b2,aM.kE {x with qx:=some c} (y.by k),aM.en {x with qx:=some c}] L0 ?_;refine ao [] ?_;refine dk 11 [0,fH i 0,0,1,8,bF j] [] (Fl.nil (ao [] ?_));refine gX 8 [1,8,0,iX 98 1 c x.B3 aE,rr 3 g] [7] [8] (rk (λ_=>[]) λq=>Fl.run [9] (ao [9,7,7] ?_));refine eF (du ([iE bi i,gd bs x.s,iE bo 0,aM.lE {x with qx:=some c},gE a b,k.wE a1 b1,dE k.d x.s n false a2 b2]++([aM.kE {x with qx:=some c} (y.by k),aM.en {x with qx:=some c}]++[.ob q (.cells #[pt y.c] 149)])++L0) ?_);refine eP (List.Perm.append_right _ (List.Perm.append_left _ List.perm_append_comm)) ?_;refine m5 [iE bi i,gd bs x.s,iE bo 0,aM.lE {x with qx:=some c}] _ (afE k x.s n a b a1 b1 a2 b2 (hf q)) ?_;rintro _ _ ⟨_,⟨r,d,⟨rfl,h⟩,rfl⟩,rfl⟩;refine eP (L':=.ob q (.cells #[pt y.c] 149)::([iE bi i,gd bs x.s,iE bo 0,aM.lE {x with qx:=some c},gE (a+1) (b+1),k.wE (a1+1) (b1+1),dE k.d x.s n false (a2+1) (b2+1)]++d)) (List.perm_middle (l₁:=[_,_,_,_,_,_,_])) (BQ (fw _ _ ?_));refine ao [2] (eF (dH [.nilIface] _ ⟨rfl,r,d,h,rfl⟩))
abbrev aP(g:Nat)(v:ag):En:=.ob g (.cells #[v] 78)
theorem apb(x:aM)(i:Int)(b c e:Nat)(a:Value)(h:i<0∨i≥x.cl.length):Fl Sv 65 [pt b,pt c,pt e].toArray [iE b i,gd c x.s,x.en,aP 3 a] λv L=>v=a∧L=[iE b i,gd c x.s,x.en,aP 3 a]:=by
 refine Fl.of 30 λj g=>ao [] ?_;by_cases d:i<0
 ·refine dk 11 [0,bT d] [] (Fl.nil (ao [3] (dH [a] _ ⟨rfl,rfl⟩)))
 ·have f:i≥x.cl.length:=h.resolve_left d
  refine dk 11 [0,bF d,0,1,2,bT f] [] (Fl.nil (ao [3] (dH [a] _ ⟨rfl,rfl⟩)))
def dN.by(u:dN)(k:ed):dN:={u with wk:=.chan (Z k.w),tl:=.chan (Z k.t)}
theorem awr(x:aM)(u:dN)(k:ed)(d e:Nat)(n:Int)(a:Gc)(b f h g i:Nat)(j:List En)(R:Int→List En→Prop)(l:x.sw=u.w)
  (o:Fl Sv 69 [pt d].toArray (gd d x.s::x.en::x.uE (u.by k)::j) λv L=>∃r c,(v=goInt r∧R r c)∧L=gd d x.s::c):
  Fl Sv 68 [pt d,pt e].toArray (iE e 0::gE a b::k.wE f h::dE k.d x.s n false g i::gd d x.s::x.en::x.uE (u.by k)::j) λv L=>v=.nilIface∧∃r c,R r c∧L=iE e r::gE (a+1) (b+1)::k.wE (f+1) (h+1)::dE k.d x.s n false (g+1) (i+1)::gd d x.s::c:=by
 obtain⟨w,p,nx,s,q⟩:=u;simp only at l;subst l;refine Fl.of 12 λy t=>?_;refine fw [iE e 0,gE a b,k.wE f h,dE k.d x.s n false g i,gd d x.s,x.en,x.uE (dN.by ⟨x.sw,p,nx,s,q⟩ k)] j (ao [4,5,6,6] (eF ?_));refine m5 [iE e 0] _ (afF k x.s n a b f h g i o) ?_;rintro _ _ ⟨_,⟨r,c,⟨rfl,m⟩,rfl⟩,rfl⟩;refine fw [iE e 0,gE (a+1) (b+1),k.wE (f+1) (h+1),dE k.d x.s n false (g+1) (i+1),gd d x.s] c (ao [0] (eF ?_));exact dH [.nilIface] _ ⟨rfl,r,c,m,rfl⟩
section
open Go.Conc (G)
def UA(P:aA)(f:bA)(d:ae En)(R:ae En->Prop)(a:az)(b:Hp):Prop:=a.kind=.deferred/\∃v,(∀w:au,w.heap=b->a.going P w (.returned v))/\∃c,R c/\Kn (c++d) b
abbrev Wo(P:aA)(f:bA)(N:Nat)(b:ae az)(a:ae En)(R:ae En->Prop):Cx:=⟨f,N,.deferred,b,a,UA P f a R⟩
def FI(P:aA)(f:bA)(a:af ag)(L:ae En)(R:ae En->Prop):Prop:=∀b H c,Kn (L++b) H->Rh P (bG P f a .deferred) c H (UA P f b R)
section
variable {P:aA}{X:ae aK}{V:ae bV}{W:Env}{L:ae En}
theorem FI.of(N){f}{a}{R}(h:∀b d,Rs P (Wo P f N b d R) (bG P f a.toArray .deferred).todo [] (yZ a 0) L)(g:(bG P f a.toArray .normal).tmps.size=N:=by kernel_rfl):FI P f a.toArray L R:=λd H b e=>by
 have:=h b _ aZ _ H ⟨g,λt v i=>?_⟩ e
 ·exact this
 ·obtain⟨_,c⟩:=OM _ _ _ _ i
  simp only[Nat.sub_zero]at c;have aE:=(dv.1 c).1;simp only[bG,nk];rw[Array.getElem?_append_left (by simpa using aE)];simp[c]
theorem acK{f}{N}{j}{i}{R}(g)(b)(h:R b)(q:L=b:=by kernel_rfl)(c:(CE X,V.length,(P.funcs[f]?).bind λa=>zN W a.results.toList)=(U,0,gH g):=by kernel_rfl):Rs P (Wo P f N j i R) X V W L:=λt d H s p w e=>by
 subst e;subst q;simp only[fK]at c;obtain⟨k,l,m⟩:=c;obtain⟨a,n,o⟩:=m4.1 m;have r:=De l;subst r;refine Rh.steps (.one (Im k _ w)) F F (.done ⟨F,qg g,λv u=>⟨F,F,a,n,?_⟩,L,h,p⟩);rw[Nu s o]
theorem uA{f g}{N}{d}{n}{R}{o}{a}(m)(A k)(C:FI P g a k o)(h:∀i,o i->R (qg m) (A++i))
  (z:L=A++k:=by kernel_rfl)(p:(CE X,V,(P.funcs[f]?).bind λj=>zN W j.results.toList)=(U,[⟨.fn (.func g) #[],a⟩],gH m):=by kernel_rfl)
  (E:∀w,(invoke (.fn (.func g) #[]) a).run P w=.ok (.enter g a) w:=by intro w;kernel_rfl):Rs P (fx P f N d n R) X V W L:=λS b H K y w e=>by
 subst e;subst z;simp only[fK]at p;obtain⟨s,rfl,t⟩:=p;obtain⟨j,u,x⟩:=m4.1 t;have M:Kn (k++(A++n)) w.heap:=y.perm (by rw[<-gw];exact List.perm_append_comm.append_right _);obtain⟨r,w',J,O,Q,G,v,D,i,B,l⟩:=C _ _ _ M w F;have s1:=Im (P:=P) (fn:=f) (tmps:=b) (ds:=[⟨.fn (.func g) #[],a⟩]) (kind:=.normal) s d w;have s2:=step_defer (fr:=⟨f,b,X,[⟨.fn (.func g) #[],a⟩],.returning,.normal,I⟩) (cs:=d) aZ F F (E w);have s3:=step_going_returned (c:=⟨f,b,X,[],.returning,.normal,I⟩) (cs:=d) G (D _ F);have q:=J;refine Rh.steps (((Steps.one s1).trans (.one s2)).trans (q.trans (.one s3))) O Q (.done ⟨F,qg m,λw2 T=>⟨F,F,F,j,u,?_⟩,A++i,h _ B,?_⟩)
 ·rw[Nu K x]
 ·exact l.perm (by rw[<-gw];exact List.perm_append_comm.append_right _)
end
theorem axb(x:aM):FI Sv 44 [pt x.s].toArray [(x.aL 1).en] λL=>L=[(x.aL 0).en]:=by
 refine FI.of 6 λb a=>?_;refine ao [0,.d,.d,0] ?_;exact acK [] _ F
end
theorem agp(p q:gU)(s:Nat)(w:au):(Lt 39 p q (pt s) (pt s)).run Sv w=.ok (.value (.bool U)) w:=by
 have h:(do kX .eql 39 p q (pt s) (pt s);binOp .eql 39 (pt s) (pt s):Sem ag).run Sv w=(do pure (Value.bool (<-sameAddr ⟨s,0,I⟩ ⟨s,0,I⟩)):Sem ag).run Sv w:=by kernel_rfl
 have a:(do pure (Value.bool (<-sameAddr ⟨s,0,I⟩ ⟨s,0,I⟩)):Sem ag).run Sv w=.ok (.bool U) w:=by
  unfold sameAddr;simp only[beq_self_eq_true,if_true];rfl
 show((do kX .eql 39 p q (pt s) (pt s);binOp .eql 39 (pt s) (pt s):Sem ag)>>=λv=>(ayU (lT v):Sem Next)).run Sv w=_;rw[eJ,h,a];rfl
abbrev F9(p q:gU)(s:Nat):Aw Sv:=.s (Lt 39 p q (pt s) (pt s)) (.value (.bool U)) (agp p q s)
theorem vd{x a:aM}(h:a.s=x.s):FI Sv 44 [pt x.s].toArray [(a.aL 1).en] λL=>L=[(a.aL 0).en]:=by
 have:=axb a;rw[h]at this;exact this
def iI(z:Nat)(b:ByteArray)(i:Int)(a:ag):En:=.ob z (.cells #[.string b,ah i,a] 158)
abbrev ifV:aj (aJ×ag)->ag
 |none=>.nilIface
 |some (b,a)=>.iface b a
theorem H9 {f:FuncId} {cp:Array Value} (x:aM) (u:dN) (k:ed) (nm:ByteArray) (i:Int) (e4:Value) (c1 c2 c3:Nat) (n:Int) (a1 b1 a2 b2:Nat) (L0:List En) (R:aM→List En→Prop) (hw:x.sw=u.w) (hF:(f=65∨f=58)∧cp=[pt c1,pt c2,pt c3].toArray∨f=68∧cp=[pt c1,pt c2].toArray) (c:Option (TypeId×Value))
  (hf:Fl Sv f cp ((x.aL 1).en::x.uE (u.by k)::k.wE (a1+1) (b1+1)::dE k.d x.s n false (a2+1) (b2+1)::L0) λv L=>∃b a,(v=ifV c∧b.s=x.s∧R b a)∧L=(b.aL 1).en::a):
  Fl Sv 57 [pt x.s,.string nm,goInt i,.func (.func f) #[] cp].toArray ((x.aL 0).en::x.uE (u.by k)::k.wE a1 b1::dE k.d x.s n false a2 b2::aP 4 e4::L0) λv L=>match c with
   |none=>v=.nilIface∧∃b a,R b a∧L=aP 4 e4::a++[(b.aL 0).en]
   |some (d,c)=>∃z,v=.iface 154 (pt z)∧∃b a,R b a∧L=aP 4 e4::iI z nm i (.iface d c)::a++[(b.aL 0).en]:=by
 obtain⟨w,j,nx,m,l⟩:=u;simp only at hw;subst hw;rcases hF with⟨rfl|rfl,rfl⟩|⟨rfl,rfl⟩
 all_goals
  refine Fl.of 33 λq p=>?_;refine fw [(x.aL 0).en,x.uE (dN.by ⟨x.sw,j,nx,m,l⟩ k),k.wE a1 b1,dE k.d x.s n false a2 b2,aP 4 e4] L0 (ao [] (c5 [0] (yc x) ?_));rintro _ _ ⟨rfl,rfl⟩;refine ao [4,0,1] (lW 2 (gJ 2 (ao [] (lW 3 (ao [F9 (tm 22) (tm 19) x.s] (gJ 3 (ao [] (eF ?_))))))));refine du ([(x.aL 1).en,x.uE (dN.by ⟨x.sw,j,nx,m,l⟩ k),k.wE (a1+1) (b1+1),dE k.d x.s n false (a2+1) (b2+1)]++[aP 4 e4]++L0) (eP (List.Perm.append_right _ List.perm_append_comm) ?_);refine m5 [aP 4 e4] _ hf ?_;rintro _ _ ⟨b,a,⟨rfl,h,g⟩,rfl⟩;rcases c with _|⟨d,c⟩
  ·refine fw [aP 4 e4,(b.aL 1).en] a (ao [.d] (eF ?_))
   refine du (aP 4 e4::([(b.aL 1).en]++a)) (eP (L':=aP 4 e4::(a++[(b.aL 1).en])) (List.perm_append_comm.cons _) ?_);exact uA [.nilIface] (aP 4 e4::a) [(b.aL 1).en] (vd h) λo e=>⟨rfl,b,a,g,by rw[e]⟩
  ·refine fw [aP 4 e4,(b.aL 1).en] a (cd (λ_=>[.d]) λz=>eF ?_)
   refine du (aP 4 e4::([(b.aL 1).en]++(iI z nm i (.iface d c)::a))) (eP (L':=aP 4 e4::((iI z nm i (.iface d c)::a)++[(b.aL 1).en])) (List.perm_append_comm.cons _) ?_);exact uA [.iface 154 (pt z)] (aP 4 e4::iI z nm i (.iface d c)::a) [(b.aL 1).en] (vd h) λo e=>⟨z,rfl,b,a,g,by rw[e]⟩
theorem OS (x:aM) (u:dN) (k:ed) (nm:ByteArray) (i:Int) (te:TypeId) (er fv:Value) (n:Int) (a1 b1 a2 b2:Nat) (hw:x.sw=u.w):Fl Sv 57 [pt x.s,.string nm,goInt i,fv].toArray [(x.aL 0).en,x.uE (u.by k),k.wE a1 b1,dE k.d x.s n true a2 b2,aP 4 (.iface te er)] λv L=>∃z,v=.iface 154 (pt z)∧L=[x.uE (u.by k),k.wE (a1+1) (b1+1),dE k.d x.s n true (a2+1) (b2+1),aP 4 (.iface te er),iI z nm i (.iface te er),(x.aL 0).en]:=by
 obtain⟨w,a,nx,c,b⟩:=u;simp only at hw;subst hw;refine Fl.of 33 λg f=>(ao [] (c5 [0] (yc x) ?_));rintro _ _ ⟨rfl,rfl⟩;refine ao [4,0,1] (lW 2 (gJ 2 (ao [] (lW 3 (ao [F9 (tm 22) (tm 19) x.s] (gJ 3 (cd (λ_=>[.d]) λz=>?_)))))));refine du ([(x.aL 1).en]++[x.uE (dN.by ⟨x.sw,a,nx,c,b⟩ k),k.wE (a1+1) (b1+1),dE k.d x.s n true (a2+1) (b2+1),aP 4 (.iface te er),iI z nm i (.iface te er)]) (eP List.perm_append_comm ?_);exact uA [.iface 154 (pt z)] [x.uE (dN.by ⟨x.sw,a,nx,c,b⟩ k),k.wE (a1+1) (b1+1),dE k.d x.s n true (a2+1) (b2+1),aP 4 (.iface te er),iI z nm i (.iface te er)] [(x.aL 1).en] (vd rfl) λe d=>⟨z,rfl,by rw[d];rfl⟩
theorem aeT(x:aM):Fl Sv 92 [pt x.s].toArray [(x.aL 0).en] λr L=>r=goInt x.ck∧L=[(x.aL 0).en]:=by
 refine Fl.of 14 λd c=>(ao [] (c5 [0] (yc x) ?_));rintro _ _ ⟨rfl,rfl⟩;exact ao [0] (uA [goInt x.ck] [] [(x.aL 1).en] (vd rfl) λb a=>⟨rfl,by rw[a];rfl⟩)
def agx(x:aM)(r:ag)(L:ae En):Prop:=∃g a,r=sv g x.ev.length a/\L=[x.eE,.row 34 5 g x.ev.length a (x.ev.flatMap Ev.cells),(x.aL 0).en]
theorem agy(x:aM)(n:x.ev.length<1000000):Fl Sv 32 [pt x.s].toArray [(x.aL 0).en,x.eE] (agx x):=by
 rcases Nat.eq_zero_or_pos x.ev.length with a|a
 ·obtain⟨x,rfl⟩:∃x0:aM,x={x0 with ev:=[]}:=⟨x,by
   cases x;simp only[List.length_eq_zero_iff]at a;simp[a]⟩
  refine Fl.of 15 λl k=>(ao [] (c5 [0] (yc {x with ev:=[]}) ?_));rintro _ _ ⟨rfl,rfl⟩;refine ao [0,a0 25 5 none 0 0 (x.eg.map λb=>⟨b,0,none⟩) x.ec (Nat.le_refl _)] (jJ 34 5 ?_);refine du ([aM.en (aM.aL {x with ev:=[]} 1)]++[aM.eE {x with ev:=[]},.row 34 5 none 0 0 []]) (eP List.perm_append_comm ?_);exact uA [sv none 0 0] [aM.eE {x with ev:=[]},.row 34 5 none 0 0 []] [aM.en (aM.aL {x with ev:=[]} 1)] (vd rfl) λm f=>⟨none,0,rfl,by rw[f];rfl⟩
 ·rcases heg:x.eg with _|g
  ·exact Fl.of 15 λl k=>yR 1 x.eg x.ev.length x.ec a heg
  have i:0+x.ev.length≤34359738368:=by omega
  obtain⟨x,rfl⟩:∃x0:aM,x={x0 with eg:=some g}:=⟨x,by cases x;simp_all⟩;refine Fl.of 15 λl k=>(ao [] (c5 [0] (yc {x with eg:=some g}) ?_));rintro _ _ ⟨rfl,rfl⟩;refine ao [0] (jJ 34 5 (iW (FU 25 5 2 1 g 0 x.ev.length x.ec 0 (x.ev.flatMap Ev.cells) (x.ev.flatMap Ev.cells) a i (tR Ev.len _) (DL Ev.one _) (λj u h=>by rw[Nat.zero_add];exact h)) ?_));rintro _ _ ⟨c,d,rfl,rfl⟩;have e:(0:Nat)+x.ev.length=x.ev.length:=Nat.zero_add _;rw[e];refine ao [] ?_;refine du ([aM.en (aM.aL {x with eg:=some g} 1)]++[aM.eE {x with eg:=some g},.row 34 5 (some c) x.ev.length d (x.ev.flatMap Ev.cells)]) (eP List.perm_append_comm ?_);exact uA [sv (some c) x.ev.length d] [aM.eE {x with eg:=some g},.row 34 5 (some c) x.ev.length d (x.ev.flatMap Ev.cells)] [aM.en (aM.aL {x with eg:=some g} 1)] (vd rfl) λm f=>⟨some c,d,rfl,by rw[f];rfl⟩
def yx(v:eZ):Int:=if v.holds then v.b else if v.busy then-2 else-1
def as8(x:aM)(r:ag)(L:ae En):Prop:=∃g a,r=sv g x.si.length a/\L=[x.sE,.row 3 1 g x.si.length a ((x.si.map yx).map ah),(x.aL 0).en]
theorem as9 (x:aM) (hl:x.si.length<1000000):Fl Sv 27 [pt x.s].toArray [(x.aL 0).en,x.sE] (as8 x):=by
 refine Fl.of 41 λt s=>(ao [] (c5 [0] (yc x) ?_));rintro _ _ ⟨rfl,rfl⟩;refine ao [0,.g,.x] (jJ 3 1 ?_);refine j4 (ι:=Nat×Option Nat×Nat) (λi=>x.si.length-i.1) (λi=>[(0,pt x.s),(3,sv i.2.1 i.1 i.2.2),(16,sv (some x.sb) x.si.length x.si.length),(17,goInt x.si.length),(18,goInt i.1)]) (λi=>[(x.aL 1).en,x.sE,.row 3 1 i.2.1 i.1 i.2.2 (((x.si.take i.1).map yx).map goInt)]) (λi=>i.1≤x.si.length) (0,none,0) (Nat.zero_le _) ?_;rintro⟨i,g,c⟩ n l;simp only at n l;by_cases aE:i<x.si.length
 ·obtain⟨v,k⟩:∃v,x.si[i]?=some v:=⟨_,List.getElem?_eq_getElem aE⟩
  have h:(x.si.flatMap eZ.cells)[i*3]?=some (.bool v.busy):=dS eZ.len x.si i 0 v aX k;have f:(x.si.flatMap eZ.cells)[i*3+1]?=some (.bool v.holds):=dS eZ.len x.si i 1 v aX k;have j:(x.si.flatMap eZ.cells)[i*3+2]?=some (goInt v.b):=dS eZ.len x.si i 2 v aX k;have d:∀e a,Rs Sv _ _ _ _ _:=λe a=>l (i+1,e,a) (by simp only;omega) aE;have p:((x.si.take (i+1)).map yx).map goInt=((x.si.take i).map yx).map goInt++[goInt (yx v)]:=by
   rw[List.take_add_one,k];simp
  simp only[p]at d;obtain⟨m,o,b⟩:=v;simp only at h f j;cases o with
  |true=>
   refine cd (λ_=>[fp i x.si.length,iX 95 3 x.sb x.si.length aE,rr 1 h,rr 1 f,rr 1 j,3,3,3,3,3]) λz=>?_;refine iW (app1 55 2 4 i ai) ?_;rintro _ _ ⟨e,a,rfl,rfl⟩;refine ao [aS i,.g,.x] (dP [3,4] ?_);exact cx (d (some e) a)
  |false=>
   cases m with
   |true=>
    refine cd (λ_=>[fp i x.si.length,iX 95 3 x.sb x.si.length aE,rr 1 h,rr 1 f,rr 1 j,3,3,3,3,3]) λz=>?_;refine iW (app1 55 2 4 i ai) ?_;rintro _ _ ⟨e,a,rfl,rfl⟩;refine ao [aS i,.g,.x] (dP [3,4] ?_);exact cx (d (some e) a)
   |false=>
    refine cd (λ_=>[fp i x.si.length,iX 95 3 x.sb x.si.length aE,rr 1 h,rr 1 f,rr 1 j,3,3,3,3,3]) λz=>?_;refine iW (app1 55 2 4 i ai) ?_;rintro _ _ ⟨e,a,rfl,rfl⟩;refine ao [aS i,.g,.x] (dP [3,4] ?_);exact cx (d (some e) a)
 ·have q:i=x.si.length:=by omega
  subst q;rw[List.take_length];refine ao [fH x.si.length x.si.length] ?_;refine du ([(x.aL 1).en]++[x.sE,.row 3 1 g x.si.length c ((x.si.map yx).map goInt)]) (eP List.perm_append_comm ?_);exact uA [sv g x.si.length c] [x.sE,.row 3 1 g x.si.length c ((x.si.map yx).map goInt)] [(x.aL 1).en] (vd rfl) λr f=>⟨g,c,rfl,by rw[f];rfl⟩
def CL(m:Int×Int×Int):ae ag:=[ah m.1,ah m.2.1,ah m.2.2]
def oN(a:bL Mk):Nat->ae (Int×Int×Int)
 |0=>[]
 |i+1=>oN a i++match iC a i with
  |some m=>[((i:Int),m.1,m.2)]
  |none=>[]
theorem YR(a:bL Mk):∀i,(oN a i).length<=i
 |0=>df _
 |i+1=>by
  have:=YR a i;simp only[oN,mL];split<;>simp only[iH,ow]<;>omega
def anA(x:aM)(b:bL Mk)(c:Nat)(r:ag)(L:ae En):Prop:=∃g a,r=sv g (oN b x.ch.length).length a/\L=[x.mE b c,.row 116 3 g (oN b x.ch.length).length a ((oN b x.ch.length).flatMap CL),(x.aL 0).en]
theorem anC (x:aM) (ms:bL Mk) (km:Nat) (hl:x.ch.length<1000000):Fl Sv 28 [pt x.s].toArray [(x.aL 0).en,x.mE ms km] (anA x ms km):=by
 refine Fl.of 43 λo n=>(ao [] (c5 [0] (yc x) ?_));rintro _ _ ⟨rfl,rfl⟩;refine ao [0,.g,.x] (jJ 116 3 ?_);refine j4 (ι:=Nat×Option Nat×Nat) (λi=>x.ch.length-i.1) (λi=>[(0,pt x.s),(3,sv i.2.1 (oN ms i.1).length i.2.2),(18,goInt x.ch.length),(19,goInt i.1)]) (λi=>[(x.aL 1).en,x.mE ms km,.row 116 3 i.2.1 (oN ms i.1).length i.2.2 ((oN ms i.1).flatMap CL)]) (λi=>i.1≤x.ch.length) (0,none,0) (Nat.zero_le _) ?_;rintro⟨i,g,b⟩ h e;simp only at h e;by_cases aE:i<x.ch.length
 ·have j:=YR ms i
  have c:∀d a,Rs Sv _ _ _ _ _:=λd a=>e (i+1,d,a) (by simp only;omega) aE;simp only[oN]at c;cases hm:iC ms i with
  |none=>
   simp only[hm,List.append_nil]at c;refine cd (λ_=>[fp i x.ch.length,0,uf 1 97 x.mb i Mk.v ms km _ hm,3,3,aS i,.g,.x]) λz=>dP [3] ?_;exact cx (c g b)
  |some m=>
   obtain⟨p,mt⟩:=m;simp only[hm,List.length_append,List.length_cons,List.length_nil,List.flatMap_append]at c;refine cd (λ_=>[fp i x.ch.length,0,uf 1 97 x.mb i Mk.v ms km _ hm,3,3,3,3]) λz=>?_;refine iW (app1 57 2 4 (oN ms i).length ai) ?_;rintro _ _ ⟨d,a,rfl,rfl⟩;refine ao [aS i,.g,.x] (dP [3,4] ?_);exact cx (c (some d) a)
 ·have k:i=x.ch.length:=by omega
  subst k;refine ao [fH x.ch.length x.ch.length] ?_;refine du ([(x.aL 1).en]++[x.mE ms km,.row 116 3 g (oN ms x.ch.length).length b ((oN ms x.ch.length).flatMap CL)]) (eP List.perm_append_comm ?_);exact uA [sv g (oN ms x.ch.length).length b] [x.mE ms km,.row 116 3 g (oN ms x.ch.length).length b ((oN ms x.ch.length).flatMap CL)] [(x.aL 1).en] (vd rfl) λl f=>⟨g,b,rfl,by rw[f];rfl⟩
theorem Fl.post{a:af ag}{d:ag->ae En->Prop}(h:Fl P f a L R)(j:∀v b,R v b->∃c,d v c/\b.Perm c):Fl P f a L d:=λg H i w e=>
 Fn.mono (h g H i w e) λv p⟨k,l,b,q3,m⟩=>by
  obtain⟨c,n,o⟩:=j v b q3;exact⟨k,l,c,n,m.perm (o.append_right _)⟩
theorem awu (x:aM) (u:dN) (k:ed) (e4:Value) (n:Int) (a:Gc) (b a1 b1 a2 b2:Nat) (L0:List En) (Q:Int→List En→Prop) (hw:x.sw=u.w)
  (hf:∀z,Fl Sv 69 [pt z].toArray (gd z x.s::(x.aL 1).en::x.uE (u.by k)::L0) λv L=>∃r c,(v=goInt r∧Q r c)∧L=gd z x.s::(x.aL 1).en::c):
  Fl Sv 42 [pt x.s].toArray ((x.aL 0).en::x.uE (u.by k)::k.wE a1 b1::dE k.d x.s n false a2 b2::aP 4 e4::gE a b::L0) λv L=>∃r c,v=.tuple #[.bool (r==1),.nilIface]∧Q r c∧
   L=aP 4 e4::gE (a+1) (b+1)::k.wE (a1+1+1) (b1+1+1)::dE k.d x.s n false (a2+1+1) (b2+1+1)::(c++[(x.aL 0).en]):=by
 refine Fl.of 12 λm l=>?_;refine fw [(x.aL 0).en,x.uE (u.by k),k.wE a1 b1,dE k.d x.s n false a2 b2,aP 4 e4,gE a b] L0 (cd (λ_=>[7,6]) λz=>eF ?_);have f:=awr (x.aL 1) u k z (z+1) n a b (a1+1) (b1+1) (a2+1) (b2+1) L0 (λr L=>∃c,Q r c∧L=(x.aL 1).en::c) hw ((hf z).post λv L⟨r,c,⟨f,g⟩,i⟩=>⟨L,⟨r,(x.aL 1).en::c,⟨f,c,g,rfl⟩,i⟩,.refl _⟩);have g:Fl Sv 68 [pt z,pt (z+1)].toArray ((x.aL 1).en::x.uE (u.by k)::k.wE (a1+1) (b1+1)::dE k.d x.s n false (a2+1) (b2+1)::gE a b::gd z x.s::iE (z+1) 0::L0) λv L=>∃e c,(v=.nilIface∧e.s=x.s∧(e=x∧∃r d,Q r d∧c=iE (z+1) r::gE (a+1) (b+1)::k.wE (a1+1+1) (b1+1+1)::dE k.d x.s n false (a2+1+1) (b2+1+1)::gd z x.s::d))∧L=(e.aL 1).en::c:=by
  refine(f.perm ((wL (is:=[6,4,2,3,5,0,1]) (L:=[(x.aL 1).en,x.uE (u.by k),k.wE (a1+1) (b1+1),dE k.d x.s n false (a2+1) (b2+1),gE a b,gd z x.s,iE (z+1) 0])
   (L0:=[iE (z+1) 0,gE a b,k.wE (a1+1) (b1+1),dE k.d x.s n false (a2+1) (b2+1),gd z x.s,(x.aL 1).en,x.uE (u.by k)]) (Lr:=[]) av).append_right L0)).post ?_
  rintro v _ ⟨j,r,_,⟨d,h,rfl⟩,rfl⟩;exact⟨_,⟨x,_,⟨j,rfl,rfl,r,d,h,rfl⟩,rfl⟩,List.perm_middle (l₁:=[_,_,_,_,_])⟩
 refine m5 [] _ (H9 x u k ⟨#[83,119,101,101,112]⟩ 0 e4 z (z+1) 0 n a1 b1 a2 b2 (gE a b::gd z x.s::iE (z+1) 0::L0) _ hw (.inr ⟨rfl,rfl⟩) none g) ?_;rintro _ _ ⟨rfl,e,c,⟨rfl,r,d,h,rfl⟩,rfl⟩;refine du ([aP 4 e4,iE (z+1) r,gE (a+1) (b+1),k.wE (a1+1+1) (b1+1+1),dE k.d e.s n false (a2+1+1) (b2+1+1),gd z e.s]++(d++[(e.aL 0).en])) (fw _ _ (ao [1,.d] (dP [1,5] (eF ?_))));exact dH [.bool (r==1),.nilIface] _ ⟨r,d,rfl,h,rfl⟩
theorem Fl.frame{a:af ag}(A:ae En)(h:Fl P f a L R):Fl P f a (A++L) λv c=>∃b,R v b/\c=A++b:=λd H g w e=>
 Fn.mono (h (A++d) H (g.perm (by rw[<-gw];exact List.perm_append_comm.append_right _)) w e) λv l⟨i,j,b,q3,k⟩=>⟨i,j,A++b,⟨b,q3,F⟩,k.perm (by rw[<-gw];exact List.perm_append_comm.append_right _)⟩
theorem aph (x:aM) (y:cO) (u:dN) (k0 k:ed) (i:Nat) (e4:Value) (n:Int) (a:Gc) (b a0 b0 a1 b1 a2 b2:Nat) (L0:List En) (Q:Int→aM→List En→Prop) (hw:x.sw=u.w) (hd:k.d=k0.d) (hl:x.cl.length<1000000) (hi:x.cl[i]?=some y.c)
  (hf:∀q,Fl Sv 67 [pt q].toArray (.ob q (.cells #[pt y.c] 149)::x.kE (y.by k)::(x.aL 1).en::L0) λv L=>∃r c f,(v=goInt r∧c.s=x.s∧Q r c f)∧L=.ob q (.cells #[pt y.c] 149)::(c.aL 1).en::f):
  Fl Sv 41 [pt x.s,goInt i].toArray ((x.aL 0).en::x.uE (u.by k0)::k0.wE a0 b0::dE k0.d x.s n false a2 b2::aP 4 e4::gE a b::x.lE::k.wE a1 b1::x.kE (y.by k)::L0) λv L=>∃r c f,v=.tuple #[goInt r,.nilIface]∧c.s=x.s∧Q r c f∧
   L=aP 4 e4::x.uE (u.by k0)::k0.wE (a0+1) (b0+1)::x.lE::gE (a+1) (b+1)::k.wE (a1+1) (b1+1)::dE k0.d x.s n false (a2+1+1) (b2+1+1)::(f++[(c.aL 0).en]):=by
 obtain⟨e,d,A⟩:=k;simp only at hd;subst hd;refine Fl.of 14 λw t=>?_;refine fw [(x.aL 0).en,x.uE (u.by k0),k0.wE a0 b0,dE k0.d x.s n false a2 b2,aP 4 e4,gE a b,x.lE,ed.wE ⟨e,d,k0.d⟩ a1 b1,x.kE (y.by ⟨e,d,k0.d⟩)] L0 (cd (λ_=>[11,9,10]) λz=>eF ?_);have j:=(apc (x.aL 1) y ⟨e,d,k0.d⟩ i (z+1) z (z+2) n a b a1 b1 (a2+1) (b2+1) L0 (λr L=>∃c f,c.s=x.s∧Q r c f∧L=(c.aL 1).en::f) hl hi λq=>(hf q).post λv L⟨r,c,f,⟨j,l,o⟩,p⟩=>⟨L,⟨r,(c.aL 1).en::f,⟨j,c,f,l,o,rfl⟩,p⟩,.refl _⟩).frame [x.uE (u.by k0),k0.wE (a0+1) (b0+1)];have l:Fl Sv 65 [pt (z+1),pt z,pt (z+2)].toArray ((x.aL 1).en::x.uE (u.by k0)::k0.wE (a0+1) (b0+1)::dE k0.d x.s n false (a2+1) (b2+1)::gE a b::x.lE::ed.wE ⟨e,d,k0.d⟩ a1 b1::x.kE (y.by ⟨e,d,k0.d⟩)::gd z x.s::iE (z+1) i::iE (z+2) 0::L0) λv L=>∃c f,(v=.nilIface∧c.s=x.s∧(c.s=x.s∧∃r g,Q r c g∧f=x.uE (u.by k0)::k0.wE (a0+1) (b0+1)::iE (z+1) i::gd z x.s::iE (z+2) r::x.lE::gE (a+1) (b+1)::ed.wE ⟨e,d,k0.d⟩ (a1+1) (b1+1)::dE k0.d x.s n false (a2+1+1) (b2+1+1)::g))∧L=(c.aL 1).en::f:=by
  refine(j.perm ((wL (is:=[1,2,9,8,10,5,4,6,3,7,0]) (L:=[(x.aL 1).en,x.uE (u.by k0),k0.wE (a0+1) (b0+1),dE k0.d x.s n false (a2+1) (b2+1),gE a b,x.lE,ed.wE ⟨e,d,k0.d⟩ a1 b1,x.kE (y.by ⟨e,d,k0.d⟩),gd z x.s,iE (z+1) i,iE (z+2) 0])
   (L0:=[x.uE (u.by k0),k0.wE (a0+1) (b0+1),iE (z+1) i,gd z x.s,iE (z+2) 0,x.lE,gE a b,ed.wE ⟨e,d,k0.d⟩ a1 b1,dE k0.d x.s n false (a2+1) (b2+1),x.kE (y.by ⟨e,d,k0.d⟩),(x.aL 1).en]) (Lr:=[]) av).append_right L0)).post ?_
  rintro v _ ⟨_,⟨s,r,_,⟨c,g,h,m,rfl⟩,rfl⟩,rfl⟩;exact⟨_,⟨c,_,⟨s,h,h,r,g,m,rfl⟩,rfl⟩,List.perm_middle (l₁:=[_,_,_,_,_,_,_,_,_])⟩
 refine du ([(x.aL 0).en,x.uE (u.by k0),k0.wE a0 b0,dE k0.d x.s n false a2 b2,aP 4 e4]++(gE a b::x.lE::ed.wE ⟨e,d,k0.d⟩ a1 b1::x.kE (y.by ⟨e,d,k0.d⟩)::gd z x.s::iE (z+1) i::iE (z+2) 0::L0)) ?_;refine m5 [] _ (H9 x u k0 ⟨#[80,105,99,107]⟩ i e4 (z+1) z (z+2) n a0 b0 a2 b2 (gE a b::x.lE::ed.wE ⟨e,d,k0.d⟩ a1 b1::x.kE (y.by ⟨e,d,k0.d⟩)::gd z x.s::iE (z+1) i::iE (z+2) 0::L0) _ hw (.inl ⟨.inl rfl,rfl⟩) none l) ?_;rintro _ _ ⟨rfl,c,_,⟨h,r,g,m,rfl⟩,rfl⟩;refine du ([aP 4 e4,x.uE (u.by k0),k0.wE (a0+1) (b0+1),iE (z+1) i,gd z x.s,iE (z+2) r,x.lE,gE (a+1) (b+1),ed.wE ⟨e,d,k0.d⟩ (a1+1) (b1+1),dE k0.d x.s n false (a2+1+1) (b2+1+1)]++(g++[(c.aL 0).en])) (fw _ _ (ao [5] (dP [3,4,5] (eF ?_))));exact dH [goInt r,.nilIface] _ ⟨r,c,g,rfl,h,m,rfl⟩
theorem ape (x:aM) (u:dN) (k0:ed) (i:Int) (te:TypeId) (e4 er:Value) (n:Int) (a0 b0 a2 b2:Nat) (hw:x.sw=u.w) (h:i<0∨i≥x.cl.length):Fl Sv 41 [pt x.s,goInt i].toArray [(x.aL 0).en,x.uE (u.by k0),k0.wE a0 b0,dE k0.d x.s n false a2 b2,aP 4 e4,aP 3 (.iface te er)] λv L=>∃q,v=.tuple #[goInt 0,.iface 154 (pt q)]∧
                                                                                                                                   L=[aP 4 e4,iI q ⟨#[80,105,99,107]⟩ i (.iface te er),x.uE (u.by k0),k0.wE (a0+1) (b0+1),dE k0.d x.s n false (a2+1) (b2+1),aP 3 (.iface te er),(x.aL 0).en]:=by
 refine Fl.of 14 λg f=>cd (λ_=>[8,6,7]) λz=>?_;have c:=(apb (x.aL 1) i (z+1) z (z+2) (.iface te er) h).frame [x.uE (u.by k0),k0.wE (a0+1) (b0+1),dE k0.d x.s n false (a2+1) (b2+1),iE (z+2) 0];have d:Fl Sv 65 [pt (z+1),pt z,pt (z+2)].toArray [(x.aL 1).en,x.uE (u.by k0),k0.wE (a0+1) (b0+1),dE k0.d x.s n false (a2+1) (b2+1),aP 3 (.iface te er),gd z x.s,iE (z+1) i,iE (z+2) 0] λv L=>∃a b,(v=.iface te er∧a.s=x.s∧(a=x∧b=[x.uE (u.by k0),k0.wE (a0+1) (b0+1),dE k0.d x.s n false (a2+1) (b2+1),iE (z+2) 0,iE (z+1) i,gd z x.s,aP 3 (.iface te er)]))∧L=(a.aL 1).en::b:=by
  refine(c.perm (wL (is:=[1,2,3,7,6,5,0,4]) (L:=[(x.aL 1).en,x.uE (u.by k0),k0.wE (a0+1) (b0+1),dE k0.d x.s n false (a2+1) (b2+1),aP 3 (.iface te er),gd z x.s,iE (z+1) i,iE (z+2) 0])
   (L0:=[x.uE (u.by k0),k0.wE (a0+1) (b0+1),dE k0.d x.s n false (a2+1) (b2+1),iE (z+2) 0,iE (z+1) i,gd z x.s,(x.aL 1).en,aP 3 (.iface te er)]) (Lr:=[]) av)).post ?_
  rintro v _ ⟨_,⟨e,rfl⟩,rfl⟩;exact⟨_,⟨x,_,⟨e,rfl,rfl,rfl⟩,rfl⟩,List.perm_middle (l₁:=[_,_,_,_,_,_])⟩
 refine m5 [] _ (H9 x u k0 ⟨#[80,105,99,107]⟩ i e4 (z+1) z (z+2) n a0 b0 a2 b2 [aP 3 (.iface te er),gd z x.s,iE (z+1) i,iE (z+2) 0] _ hw (.inl ⟨.inl rfl,rfl⟩) (some (te,er)) d) ?_;rintro _ _ ⟨q,rfl,a,_,⟨rfl,rfl⟩,rfl⟩;exact ao [5] (a7 [5,6,7] [goInt 0,.iface 154 (pt q)] _ ⟨q,rfl,rfl⟩)
def qa(a:Nat)(k:Int):aj Nat:=if k=2\/k=3\/k=4 then Z a else if k=1\/k=5\/k=6 then Z 1 else I
def G3(v:ByteArray):Bool:=!(v.toList==(⟨#[]⟩:ByteArray).toList)
def oq(a:Nat)(o:Bool)(p:Stp):Bool:=match qa a p.kind with
 |none=>Y
 |some n=>!(decide (p.kind=1)==o)&&!decide (p.key<0)&&!decide (p.key>=n)&&!decide ((p.val.size:Int)>16)&&!(p.kind !=3&&G3 p.val)
def M4(p:Stp):Bool:=p.kind !=5&&p.kind !=6
def su(a:Nat):Bool->ae Stp->Bool
 |_,[]=>U
 |o,p::l=>oq a o p&&su a (M4 p) l
def eB(g:aj Nat)(a:Nat)(b:ae Stp):En:=.row 50 3 g b.length a (b.flatMap Stp.cells)
def aag(x:aM)(g:aj Nat)(a:Nat)(b:ae Stp)(r:ag)(L:ae En):Prop:=r=.bool (su x.ch.length Y b&&decide ((b.length:Int)<=200))/\L=[x.en,eB g a b]
theorem Nw (x:aM) (g:Option Nat) (cap:Nat) (pr:List Stp) (hl:pr.length≤4398046511104):Fl Sv 59 [pt x.s,sv g pr.length cap].toArray [x.en,eB g cap pr] (aag x g cap pr):=by
 refine Fl.of 72 λH G=>ao [.g,.x] ?_;refine j4 (ι:=Nat×Bool) (λi=>pr.length-i.1) (λi=>[(0,pt x.s),(1,sv g pr.length cap),(5,.bool i.2),(9,sv g pr.length cap),(10,goInt pr.length),(11,goInt i.1)]) (λ_=>[x.en,eB g cap pr]) (λi=>i.1≤pr.length∧su x.ch.length false pr=su x.ch.length i.2 (pr.drop i.1)) (0,false) ⟨Nat.zero_le _,rfl⟩ ?_;rintro⟨i,o⟩ ⟨C,l⟩ u;simp only at C l u;by_cases aE:i<pr.length
 ·obtain⟨p,n⟩:∃p,pr[i]?=some p:=⟨_,List.getElem?_eq_getElem aE⟩
  have w:pr.drop i=p::pr.drop (i+1):=by
   rw[List.drop_eq_getElem_cons aE];congr 1;exact Option.some.inj ((List.getElem?_eq_getElem aE).symm.trans n)
  rw[w,su]at l;have r:(pr.flatMap Stp.cells)[i*3]?=some (goInt p.kind):=dS Stp.len pr i 0 p aX n;have s:(pr.flatMap Stp.cells)[i*3+1]?=some (goInt p.key):=dS Stp.len pr i 1 p aX n;have t:(pr.flatMap Stp.cells)[i*3+2]?=some (.string p.val):=dS Stp.len pr i 2 p aX n;refine lF 1 g pr.length cap ai λq B _=>?_;subst B;have d:oq x.ch.length o p=false→aag x (some q) cap pr (.bool false) [x.en,eB (some q) cap pr]:=λh=>⟨by rw[l,h];rfl,rfl⟩;have m:oq x.ch.length o p=true→∀b,M4 p=b→_:=λh b A=>u (i+1,b) (by simp only;omega) ⟨aE,by rw[l,h,A];rfl⟩;obtain⟨c,a,j⟩:=p;simp only at r s t;refine cd (λ_=>[fp i pr.length,iX 45 3 q cap aE,rr 1 r,rr 1 s,rr 1 t,2,2,2,2,.x]) λz=>?_;by_cases y:c=3∨c=2∨c=4
  ·rcases y with rfl|rfl|rfl
   refine ao [.d,.d,.x] ?_
   rotate_left
   refine ao [.d,.x] ?_
   rotate_left
   refine ao [.d,.d,.d,.x] ?_
   rotate_left
   all_goals
    refine ao [0,2,.d,.x] ?_;cases o
    ·exact ao [.d] (a7 [2] [.bool false] _ (d (by simp[oq,qa])))
    refine ao [.d,2,.x] ?_;by_cases e:a<0
    ·exact ao [bT e] (a7 [2] [.bool false] _ (d (by simp[oq,qa,e])))
    refine ao [bF e,2,.x] ?_;by_cases k:a≥(x.ch.length:Int)
    ·exact ao [bT k] (a7 [2] [.bool false] _ (d (by simp[oq,qa,k])))
    refine ao [bF k,2,.x] ?_;by_cases f:(j.size:Int)>16
    ·exact ao [bT f] (a7 [2] [.bool false] _ (d (by simp[oq,qa,f])))
    refine ao [bF f,2,.d,2,.x] ?_
   ·exact ao [.d,2,.d,aS i,.g,.x] (dP [2] (cx (m (by simp[oq,qa,e,k,f]) _ rfl)))
   all_goals
    cases h4:G3 j
    ·exact ao [bB h4,2,.d,2,.d,aS i,.g,.x] (dP [2] (cx (m (by simp[oq,qa,e,k,f,h4]) _ rfl)))
    ·exact ao [bB h4] (a7 [2] [.bool false] _ (d (by simp[oq,qa,h4])))
  by_cases D:c=5∨c=6∨c=1
  ·rcases D with rfl|rfl|rfl
   refine ao [.d,.d,.d,.d,.d,2,.d,.x] ?_
   rotate_left
   refine ao [.d,.d,.d,.d,.d,.d,2,.d,.x] ?_
   rotate_left
   refine ao [.d,.d,.d,.d,2,.d,.x] ?_;cases o
   rotate_left
   ·exact ao [.d] (a7 [2] [.bool false] _ (d (by simp[oq,qa])))
   iterate 2
    cases o
    ·exact ao [.d] (a7 [2] [.bool false] _ (d (by simp[oq,qa])))
    rotate_left
   rotate_left
   all_goals
    refine ao [.d,2,.x] ?_;by_cases e:a<0
    ·exact ao [bT e] (a7 [2] [.bool false] _ (d (by simp[oq,qa,e])))
    refine ao [bF e,2,.x] ?_;by_cases k:a≥((1:Nat):Int)
    ·exact ao [bT k] (a7 [2] [.bool false] _ (d (by simp[oq,qa,show¬a<1 by omega])))
    have v:a<1:=by omega
    refine ao [bF k,2,.x] ?_;by_cases f:(j.size:Int)>16
    ·exact ao [bT f] (a7 [2] [.bool false] _ (d (by simp[oq,qa,f])))
    refine ao [bF f,2,.d,2,.x] ?_;cases h3:G3 j
    rotate_left
    ·exact ao [bB h3] (a7 [2] [.bool false] _ (d (by simp[oq,qa,h3])))
    refine ao [bB h3,2,.d,.x] ?_
   ·exact ao [aS i,.g,.x] (dP [2] (cx (m (by simp[oq,qa,e,v,f,h3]) _ rfl)))
   all_goals exact ao [2,.d,aS i,.g,.x] (dP [2] (cx (m (by simp[oq,qa,e,v,f,h3]) _ rfl)))
  exact ao [bR c 2,bR c 3,bR c 4,bR c 1,bR c 5,bR c 6] (a7 [2] [.bool false] _ (d (by simp only[oq,qa];rw[if_neg ai,if_neg ai])))
 ·have E:i=pr.length:=by omega
  subst E;rw[List.drop_length,su]at l;exact ao [fH pr.length pr.length,.d] (dH [.bool (decide ((pr.length:Int)≤200))] _ ⟨by rw[l];rfl,rfl⟩)
section
open Go.Conc (G)
section
variable {P:aA}{X:Cx}{V:ae aK}{O:ae bV}{W:Env}{L:ae En}
theorem Uq(os:ae (ae Nat))(h:∀o∈os,Rs P X (.inRegion (iA V) o::pT V) O W L)(c:(EB V,yX .any (iA V) (iA V).size (pG (iA V).size Y))=(U,os):=by kernel_rfl)(j:P.follows .mixedOrders=U:=by kernel_rfl):Rs P X V O W L:=λd a H l g w e=>by
 subst e;simp only[fK]at c;obtain⟨f,b⟩:=c;obtain⟨id,ops,k,rfl⟩:=Jp f;simp only[iA,pT]at h b;refine Rh.steps (.one (eY (F8 j w))) F F ?_;exact h _ (b▸NH ops _) d a w.heap l g
theorem rj{N:Nat}{y:ae az}{j:ae En}{R:ag->ae En->Prop}(M:ae Nat)(a t b:Nat)(v:ag)(u:ae (Aw P))(n:ae En)(h:R v n)(hL:left M L=n:=by kernel_rfl)(ho:(outs M L).isSome=U:=by kernel_rfl)
  (m:(CE V,O.length,(P.funcs[f]?).map (λl=>l.results.toList),lk W a)=(U,0,gH [.cell a t],gH (pt b)):=by kernel_rfl)
  (hs:((sE P (loadVar t ⟨b,0,I⟩) .r L u []).map λq=>(q.1,q.2.2.2.2))=gH (v,match sE P (loadVar t ⟨b,0,I⟩) .r L u []with
    |gH q=>q.2.2.2.2.map Pr.rf
    |none=>[]):=by kernel_rfl):Rs P (fx P f N y j R) V O W L:=λbC d H ht B w e=>by
 subst e;simp only[fK]at m;obtain⟨S,h2,h3,h4⟩:=m;obtain⟨l,h5,h6⟩:=gV.1 h3;have hd:O=[]:=De h2;subst hd;obtain⟨⟨v',z,L1,eR,ps⟩,p,r⟩:=gV.1 hs;rw[p]at r;simp only[fK]at r;obtain⟨rfl,h9⟩:=r;have A:=ym h9;have s:∀c:au,c.heap=w.heap->(results l d).run P c=.ok v' c:=λc o=>by
  have Q:(loadVar t ⟨b,0,I⟩).run P c=.ok v' c:=by
   have g:Kn (L++j) c.heap:=by rw[o];exact B
   obtain⟨w1,D,_⟩:=zQ _ _ _ _ _ j _ _ _ _ _ c p A g (λx hx=>by cases hx);obtain⟨rfl,_⟩:=E' _ _ _ _ _ c w1 p D g.left A;exact D
  unfold results;rw[eJ,Array.mapM_eq_mapM_toList,h6];have jo:d.getD a aC=pt b:=ht.get a _ h4;simp only[List.mapM_cons,List.mapM_nil,jo];have G:bx P (do loadVar t (<-asAddr (pt b))) c=.ok v' c:=Q;rw[Sem.run_map];erw [eJ,G];simp only[eh];rfl
 refine Rh.steps (.one (Im S y w)) F F (.done ⟨F,v',λc o=>⟨F,F,F,l,h5,?_⟩,n,h,?_⟩)
 ·exact s c o
 ·obtain⟨⟨x1,x2⟩,C⟩:=Ae.1 ho
  have hl:left M L=x2:=by unfold left;rw[C]
  have g:=B.perm ((wL C).append_right j);rw[gw]at g;rw[<-hL,hl];exact⟨λe m=>g.sat e (HA _ m),(Di.1 g.nd).2.1⟩
end
@[reducible] def Kt(p:Nat->Prop):ae Nat->Prop
 |[]=>True
 |i::l=>p i/\Kt p l
theorem O5{p:Nat->Prop}:∀{l:ae Nat}{i:Nat},Kt p l->i∈l->p i
 |_::_,_,h,a=>(bQ.1 a).elim (λe=>e▸h.1) λa=>O5 h.2 a
def c6(P:aA)(X:Cx)(ops:af bh)(k:ae aK)(a:ae En->Prop):Nat->af Bool->ae bV->Env->ae En->Prop
 |0,l,O,W,L=>nq .any ops l=[]/\Rs P X k O W L
 |n+1,l,O,W,L=>nq .any ops l≠[]/\∀i∈nq .any ops l,jT P X ops i O W L λO W L=>a L/\c6 P X ops k a n (l.setIfInBounds i U) O W L
section
variable {P:aA}{X:Cx}{ops:af bh}{k:ae aK}{os:Os}{out:af (Nat×ByteArray)}
theorem abY(p:X.kind≠.early){Rk:ae En->Prop}{S:au->Prop}(j:∀L w,Rk L->Kn (L++X.L2) w.heap->S w):∀(n:Nat)(l:af Bool)(O:ae bV)(W:Env)(L:ae En)(a:Act)(w:au),S w->c6 P X ops k Rk n l O W L->gI X.N W a.tmps->a.defers=O->Kn (L++X.L2) w.heap->w.os=os->w.output=out->wpAnyH P .any ops (q0 P X k os out) S n l a w
 |0,l,O,W,L,a,w,t,h,c,d,e,f,g=>wpAnyH_done h.1 ((Fl.nil (ops:=ops) h.2) os out a w p c d e f g) 0
 |n+1,l,O,W,L,a,w,t,h,c,d,e,f,g=>
  wpAnyH_all (rs:=nq .any ops l) F h.1 λi s=>wpOp_mono (λr o⟨v,u,b,⟨q,x⟩,y,z,m,A,B⟩=>⟨j b o q m,abY p j n _ v u b r o (j b o q m) x y z m (A.trans f) (B.trans g)⟩) (h.2 i s _ a w c d e)
theorem eG(r:ae Nat){a:ae En->Prop}{n:Nat}{l:af Bool}{O:ae bV}{W:Env}{L:ae En}(h:Kt (λi=>jT P X ops i O W L λO W L=>a L/\c6 P X ops k a n (l.setIfInBounds i U) O W L) r)(f:(nq .any ops l,r.isEmpty)=(r,Y):=by kernel_rfl):c6 P X ops k a (n+1) l O W L:=by
 simp only[fK]at f;obtain⟨b,c⟩:=f;unfold c6;refine⟨λe=>?_,λi d=>?_⟩
 ·rw[<-b,e]at c
  cases c
 rw[b]at d;exact O5 h d
theorem vM{a:ae En->Prop}{l:af Bool}{O:ae bV}{W:Env}{L:ae En}(h:Rs P X k O W L)(b:nq .any ops l=[]:=by kernel_rfl):c6 P X ops k a 0 l O W L:=⟨b,h⟩
end
section
variable {P:aA}{X:Cx}{V:ae aK}{O:ae bV}{W:Env}{L:ae En}
def F7(ops:af bh)(M:ae Nat):Bool:=Dj ops&&vA .any ops ops.size M (pG ops.size Y)
theorem Oj(M:ae Nat)(n:Nat)(b:ae (Aw P))
  (l:c6 P X (iA V) (pT V) (lz P X.N (iA V) L M b W) n (marks M (pG (iA V).size Y)) O (wP (iA V) M (nM P X.N (iA V) L M b W) W) L)
  (z:P.follows .mixedOrders=U:=by kernel_rfl)
  (u:(EB V,F7 (iA V) M,n+M.length)=(U,U,(iA V).size):=by kernel_rfl)
  (m:gS P X.N (iA V) L M b W=(gH (nM P X.N (iA V) L M b W),U,(gS P X.N (iA V) L M b W).2.2.map Pr.rf):=by kernel_rfl):Rs P X V O W L:=λx j H A q w e=>by
 subst e;simp only[fK]at u;obtain⟨p,g,t⟩:=u;obtain⟨id,ops,k,rfl⟩:=Jp p;unfold lz at l;simp only[iA,pT]at g t m l;generalize nM P X.N ops L M b W=o at m l;simp only[_root_.Go.Proofs.YtgahemdblfapeaaGreatDoor.F7,ig]at g;obtain⟨B,C⟩:=g;refine Rn.code ?_;let S:au->Prop:=λw=>∃d,Kn (d++X.L2) w.heap/\gS P X.N ops d M b W=(gH o,U,(gS P X.N ops d M b W).2.2.map Pr.rf);have y:∀w,S w->yV P X.N ops X.L2 M W o w:=λw⟨d,r,s⟩=>Nr s r;have H:=Kc (P:=P) (Q:=q0 P X k w.os w.output) (md:=.any) (f:=n) (S:=S) (λc a D w h=>by cases h.1) B M (pG ops.size Y) ⟨j,O⟩ W o {w with drawn:=w.drawn+1} A y C ⟨L,q,m⟩ λv p g=>abY (os:=w.os) (out:=w.output) x (Rk:=λd=>gS P X.N ops d M b W=(gH o,U,(gS P X.N ops d M b W).2.2.map Pr.rf)) (λd G r s=>⟨d,s,r⟩) n _ O _ L v {w with drawn:=w.drawn+1} ⟨L,q,m⟩ l p g q F F;refine wp_region_held (S:=S) z ?_;rwa[t]at H
end
section
variable {P:aA}{X:Cx}{ops:af bh}{i:Nat}{O:ae bV}{W J:Env}{L E:ae En}{M:ae Nat}{K:ae (Aw P)}{T:ae bV->Env->ae En->Prop}
theorem lX(a:ae (Aw P))(h:T (fC P X.N ops O W L i a .w).ds (fC P X.N ops O W L i a .w).env (fC P X.N ops O W L i a .w).L)
 (b:gS P X.N ops (fC P X.N ops O W L i a .w).L M K J=(Z (nM P X.N ops E M K J),U,(gS P X.N ops (fC P X.N ops O W L i a .w).L M K J).2.2.map Pr.rf):=by kernel_rfl)
 (c:(fC P X.N ops O W L i a .w).pr=(fC P X.N ops O W L i a .w).rf:=by kernel_rfl):jT P X ops i O W L λO W L=>lz P X.N ops E M K J L/\T O W L:=jT.ev a ⟨b,h⟩ c
theorem kZ(a:Nat->ae (Aw P))(h:∀z,T (fC P X.N ops O W L i (a z) (.n z)).ds (fC P X.N ops O W L i (a z) (.n z)).env (fC P X.N ops O W L i (a z) (.n z)).L)
 (b:∀z,gS P X.N ops (fC P X.N ops O W L i (a z) (.n z)).L M K J=(Z (nM P X.N ops E M K J),U,(gS P X.N ops (fC P X.N ops O W L i (a z) (.n z)).L M K J).2.2.map Pr.rf):=by intro z;kernel_rfl)
 (c:∀z,(fC P X.N ops O W L i (a z) (.n z)).pr=(fC P X.N ops O W L i (a z) (.n z)).rf:=by intro z;kernel_rfl):jT P X ops i O W L λO W L=>lz P X.N ops E M K J L/\T O W L:=jT.new a (λz=>⟨b z,h z⟩) c
theorem Dn{Q:ag->ae En->Prop}(b:nS P X.L2 L s Q)(h:∀v a,Q v a->lz P X.N ops E M K J a/\T O (pe W (ru ops i) v) a)(c:(Au ops W i,fits X.N (ru ops i))=(Z s,U):=by kernel_rfl):jT P X ops i O W L λO W L=>lz P X.N ops E M K J L/\T O W L:=jT.op b h c
theorem FE(b:ae Nat){d:ae En}{a:af ag}{R:ag->ae En->Prop}(g:Fl P f a d R)(h:∀v c,R v c->lz P X.N ops E M K J (fill b c L)/\T O (pe W (ru ops i) v) (fill b c L))
  (e:outs b L=Z (d,left b L):=by kernel_rfl)
  (j:((Au ops W i).bind (λs=>(sE P s .r [] [] []).map λq=>(q.1,q.2.2.2.2)),fits X.N (ru ops i))=(Z (.enter f a,[]),U):=by kernel_rfl):jT P X ops i O W L λO W L=>lz P X.N ops E M K J L/\T O W L:=
 HG g (wL e) (λ_=>Lz e) h j
end
end
section
open Go.Conc (G)
def hE(v:ag)(a b:Nat):En:=K' dx 6 v a b
def Nh:ae (ae Nat):=[[0,1,2,3,4],[0,1,3,2,4],[0,3,1,2,4],[1,0,2,3,4],[1,0,3,2,4],[1,3,0,2,4],[3,0,1,2,4],[3,1,0,2,4]]
theorem Hr(x:aM)(u:dN)(f:ed)(n:Int)(a:Gc)(b c d a0 h g i:Nat)(l:x.sw=u.w)(q:0<=n/\n<9):Fl Sv 55 [pt x.s].toArray [gE a b,hE (.chan I) c d,x.en,x.uE (u.by f),f.wE a0 h,dE f.d x.s n Y g i] λv L=>∃k:ed,k.d=f.d/\v=k.v/\L=[gE (a+1) (b+1),hE (.chan I) (c+1) (d+1),x.en,x.uE (u.by f),f.wE (a0+1) (h+1),dE f.d x.s (n+1) Y (g+1) (i+1),k.wE 1 0]:=by
 obtain⟨w,r,nx,t,s⟩:=u;simp only at l;subst l;refine Fl.of 13 λp m=>ao [] (lW 0 (gJ 0 (lW 1 (gJ 1 (ao [.d,2,3] (lW 4 (gJ 4 (ao [] (lW 5 (ao [F9 (tm 11) (tm 0) x.s,fp n 9,aI (n+1) (n+1) ai] (gJ 5 ?_)))))))))));refine cd (λ_=>[]) λz=>?_;refine Uq Nh λo j=>?_;simp only[Nh,bQ,gk,or_false]at j;rcases j with rfl|rfl|rfl|rfl|rfl|rfl|rfl|rfl
 ·exact cd (λ_=>[]) λe=>gJ 8 (ao [7,7] (rj [6,7,9,10] 2 142 (z+1) _ [7,7] _ ⟨⟨e,(e+1),f.d⟩,F,F,F⟩))
 ·exact cd (λ_=>[]) λe=>gJ 8 (ao [7,7] (rj [6,7,9,10] 2 142 (z+1) (ed.v ⟨e,(e+1),f.d⟩) [7,7] _ ⟨⟨e,(e+1),f.d⟩,F,F,F⟩))
 ·exact cd (λ_=>[]) λe=>gJ 8 (ao [7,7] (rj [6,7,9,10] 2 142 (z+1) (ed.v ⟨e,(e+2),f.d⟩) [7,7] _ ⟨⟨e,(e+2),f.d⟩,F,F,F⟩))
 ·exact cd (λ_=>[]) λe=>gJ 9 (ao [7,7] (rj [6,7,8,10] 2 142 (z+1) (ed.v ⟨(e+1),e,f.d⟩) [7,7] _ ⟨⟨(e+1),e,f.d⟩,F,F,F⟩))
 ·exact cd (λ_=>[]) λe=>gJ 9 (ao [7,7] (rj [6,7,8,10] 2 142 (z+1) (ed.v ⟨(e+1),e,f.d⟩) [7,7] _ ⟨⟨(e+1),e,f.d⟩,F,F,F⟩))
 ·exact cd (λ_=>[]) λe=>gJ 10 (ao [7,7] (rj [6,7,8,9] 2 142 (z+1) (ed.v ⟨(e+2),e,f.d⟩) [7,7] _ ⟨⟨(e+2),e,f.d⟩,F,F,F⟩))
 ·exact cd (λ_=>[]) λe=>gJ 9 (ao [7,7] (rj [6,7,8,10] 2 142 (z+1) (ed.v ⟨(e+1),(e+2),f.d⟩) [7,7] _ ⟨⟨(e+1),(e+2),f.d⟩,F,F,F⟩))
 ·exact cd (λ_=>[]) λe=>gJ 10 (ao [7,7] (rj [6,7,8,9] 2 142 (z+1) (ed.v ⟨(e+2),(e+1),f.d⟩) [7,7] _ ⟨⟨(e+2),(e+1),f.d⟩,F,F,F⟩))
end
end
end Go.Proofs.YtgahemdblfapeaaGreatDoor
