/- Helper lemmas, part 7: what the steps of the program do in the model; each holds under its own hypotheses. -/
import Derived.Test.YtgahemdblfapeaaGreatDoorA06
set_option maxRecDepth 100000
set_option maxHeartbeats 4000000
set_option linter.all false
namespace Go.Proofs.YtgahemdblfapeaaGreatDoor
open Go.Conc
open _root_.Bool renaming false→Y,false_eq_true→kg,true→U
open Go renaming Addr→aR,Deferred→bV,Frame→az,FuncId→bA,Item→aK,Program→aA,TypeId→aJ,Value→ag,goInt→ah,undef→aC
open Go.Frame renaming enter→bG
open Go.Instr renaming loadAt→sI,sliceAt→vF,sliceBound→xa
open Go.Next renaming value→lT
open Go.Result renaming andThen→eh
open Go.Sem renaming bind→qo,pure→ayU,run→bx
open _root_.List renaming Perm→mY,append_assoc→gw,eraseIdx_set_eq→Fw,flatMap_append→xc,flatMap_cons→tK,getD_eq_getElem?_getD→yK,getElem?_append_left→Df,getElem?_append_right→Ab,getElem?_eq_getElem→dq,getElem?_eq_none→Dg,getElem?_eq_some_iff→dv,getElem?_map→fq,getElem?_set_ne→kU,getElem?_set_self→sJ,getElem?_take→BJ,length_append→mL,length_eq_zero_iff→BK,length_map→iV,length_nil→ow,length_reverse→Hz,length_set→mZ,length_take→Dh,map_cons→ft,map_set→np,mem_append→Ad,mem_append_right→HA,mem_cons→bQ,mem_cons_of_mem→eK,mem_cons_self→fu,mem_of_getElem?→lR,mem_singleton→yL,pairwise_append→Di,pairwise_cons→nQ,replicate→kh,sum_cons→xd
open _root_.List.Perm renaming append_left→Fv,swap→BH
open _root_.Nat renaming eq_zero_or_pos→BM,le_refl→df,le_succ→pL,mul_one→ayT,zero_le→je
open _root_.Option renaming map_some→iy,none→I,some→Z
open _root_.Option.some renaming inj→dQ
section
theorem YQ(marks:ae cF)(k:Nat):∀d,∃l,iK marks (k+d)=iK marks k++l
 |0=>⟨[],by simp⟩
 |d+1=>by
  obtain⟨l,h⟩:=YQ marks k d;show∃l,iK marks (k+d+1)=_;simp only[iK,h,gw];exact⟨_,F⟩
theorem anz{marks:ae cF}{k n:Nat}{t:cF}(h:marks[k]?=Z t)(b:t.set=U)(c:k<n):(iK marks n)[(iK marks k).length]?=Z ((k:Int),t.c8,t.bP):=by
 obtain⟨d,rfl⟩:∃d,n=k+1+d:=⟨n-(k+1),by omega⟩;obtain⟨l,a⟩:=YQ marks (k+1) d;rw[a];simp only[iK,h,b,if_true,gw];rw[Ab (df _),Nat.sub_self];rfl
theorem YP(marks:ae cF):∀n,(iK marks n).length<=n
 |0=>df _
 |n+1=>by
  have:=YP marks n;simp only[iK,mL];split
  ·split<;>simp<;>omega
  ·simp;omega
theorem amu (x:aM) (ms:bL Mk) (km:Nat) (r:RS) (m:Mo) (hM:oN ms x.ch.length=iK m.marks m.marks.length) (hc:x.ch.length<1000000) (hl:m.marks.length<1000000):Fl Sv 54 [.agg #[pt x.s,pt r.s]].toArray [(x.aL 0).en,x.mE ms km,r.en m,r.mE m] λv L=>v=.bool true∧L=[(x.aL 0).en,x.mE ms km,r.en m,r.mE m]:=by
 obtain⟨b,e,w,h,d,s,p,o,reg,a,l⟩:=r;refine Fl.of 79 λcs L2=>?_;refine cd (λ_=>[.g,.x]) λz=>?_;refine du [(x.aL 0).en,x.mE ms km,RS.en ⟨b,e,w,h,d,s,p,o,reg,a,l⟩ m,RS.mE ⟨b,e,w,h,d,s,p,o,reg,a,l⟩ m,iT z x.s b] (eP (L':=[iT z x.s b,(x.aL 0).en,x.mE ms km,RS.en ⟨b,e,w,h,d,s,p,o,reg,a,l⟩ m,RS.mE ⟨b,e,w,h,d,s,p,o,reg,a,l⟩ m]) bZ ?_);refine j4 (ι:=Nat) (λi=>2-i) (λi=>[(1,pt z),(3,goInt i)]) (λ_=>[iT z x.s b,(x.aL 0).en,x.mE ms km,RS.en ⟨b,e,w,h,d,s,p,o,reg,a,l⟩ m,RS.mE ⟨b,e,w,h,d,s,p,o,reg,a,l⟩ m]) (λi=>i≤2) 0 (Nat.zero_le _) ?_;intro i hi ih;by_cases Xo:i<2
 ·refine ao [fp i 2,0] (c5 [1,2] (anC x ms km hc) ?_)
  rintro _ _ ⟨g,c,rfl,rfl⟩;rw[hM];have W:(iK m.marks m.marks.length).length<1000000:=Nat.lt_of_le_of_lt (YP _ _) hl;refine ao [.g,.x] ?_;refine j4 (ι:=Nat×List Value) (λj=>m.marks.length-j.1) (λj=>[(1,pt z),(3,goInt i),(4,sv g (iK m.marks m.marks.length).length c),(5,goInt (iK m.marks j.1).length),(6,goInt j.1)]) (λj=>[iT z x.s b,x.mE ms km,.row 116 3 g (iK m.marks m.marks.length).length c j.2,RS.en ⟨b,e,w,h,d,s,p,o,reg,a,l⟩ m,RS.mE ⟨b,e,w,h,d,s,p,o,reg,a,l⟩ m,(x.aL 0).en]) (λj=>j.1≤m.marks.length∧xm CL 3 (iK m.marks m.marks.length) (iK m.marks j.1).length j.2) (0,(iK m.marks m.marks.length).flatMap CL) ⟨Nat.zero_le _,xm.start (f:=CL) (λ_=>rfl) _⟩ ?_;rintro⟨j,H⟩ ⟨P,K⟩ R;simp only at K R P;by_cases aE:j<m.marks.length
  ·obtain⟨t,M⟩:∃t,m.marks[j]?=some t:=⟨_,List.getElem?_eq_getElem aE⟩
   have D:∀q,q<3→(m.marks.flatMap cF.cells)[j*3+q]?=t.cells[q]?:=λq Q=>dS cF.len m.marks j q t Q M;obtain⟨S,O,N⟩:=t;cases S with
   |false=>
    have C:iK m.marks (j+1)=iK m.marks j:=by simp only[iK,M];simp
    refine cd (λ_=>[0,3,fp j m.marks.length,0,3,iX 130 3 d m.marks.length aE,rr 4 (D 0 aX),rr 4 (D 1 aX),rr 4 (D 2 aX),6,6,6,6,aS j,.g,.x]) λy=>?_;refine dP [6] ?_;have B:=R (j+1,H) (by simp only;omega) ⟨aE,by simp only;rw[C];exact K⟩;simp only[C]at B;exact cx B
   |true=>
    have T:=anz (n:=m.marks.length) M rfl aE;have G:(iK m.marks j).length<(iK m.marks m.marks.length).length:=(List.getElem?_eq_some_iff.1 T).1;have C:(iK m.marks (j+1)).length=(iK m.marks j).length+1:=by simp only[iK,M];simp
    generalize hA:(iK m.marks j).length=A at*;have E:∀q u,q<3→(CL ((j:Int),O,N))[q]?=some u→H[A*3+q]?=some u:=λq u Q hu=>K.at_ A _ (Nat.le_refl _) T q u Q hu;refine lF 2 g (iK m.marks m.marks.length).length c ai λJ X ku=>?_;subst X;refine cd (λ_=>[0,3,fp j m.marks.length,0,3,iX 130 3 d m.marks.length aE,rr 4 (D 0 aX),rr 4 (D 1 aX),rr 4 (D 2 aX),6,6,6,6]) λy=>?_;refine dk 33 [AD A ((iK m.marks m.marks.length).length),ix 57 3 J (iK m.marks m.marks.length).length c A A ⟨rfl,G⟩,rr 2 (E 0 _ aX rfl),oO j j rfl,ix 57 3 J (iK m.marks m.marks.length).length c A A ⟨rfl,G⟩,rr 2 (E 1 _ aX rfl),6,oO O O rfl,ix 57 3 J (iK m.marks m.marks.length).length c A A ⟨rfl,G⟩,rr 2 (E 2 _ aX rfl),6,oO N N rfl] [] (Fl.nil ?_);have w1:(H.set (A*3+0) (goInt 99))[A*3+1]?=_:=(nN ai).trans (E 1 _ aX rfl);have w2:((H.set (A*3+0) (goInt 99)).set (A*3+1) (goInt 0))[A*3+2]?=_:=(nN ai).trans ((nN ai).trans (E 2 _ aX rfl));refine ao [ix 57 3 J (iK m.marks m.marks.length).length c A A ⟨rfl,G⟩,rr 2 (E 0 _ aX rfl),rr 2 w1,rr 2 w2,aS A,aS j,.g,.x] ?_;refine dP [6] ?_;have B:=R (j+1,((H.set (A*3+0) (goInt 99)).set (A*3+1) (goInt 0)).set (A*3+2) (goInt 0)) (by simp only;omega) ⟨aE,by
     simp only;rw[C];refine K.set G aZ λk C=>?_;rw[nN ai,nN ai,nN ai]⟩
    simp only[C]at B;exact cx B
  ·have P:j=m.marks.length:=by omega
   subst P;refine ao [0,3,fH m.marks.length m.marks.length,oO ((iK m.marks m.marks.length).length) ((iK m.marks m.marks.length).length) rfl,aS i,.g,.x] ?_;refine dP [2] ?_;refine du [iT z x.s b,x.mE ms km,RS.en ⟨b,e,w,h,d,s,p,o,reg,a,l⟩ m,RS.mE ⟨b,e,w,h,d,s,p,o,reg,a,l⟩ m,(x.aL 0).en] (eP (L':=[iT z x.s b,(x.aL 0).en,x.mE ms km,RS.en ⟨b,e,w,h,d,s,p,o,reg,a,l⟩ m,RS.mE ⟨b,e,w,h,d,s,p,o,reg,a,l⟩ m]) bZ ?_);exact cx (ih (i+1) ai ai)
 ·have V:i=2:=by omega
  subst V;refine ao [fH (2:Nat) 2] ?_;exact a7 [0] [.bool true] _ ⟨rfl,rfl⟩
def Xp(t:aJ)(x a:ag):Sem Next:=qo (vF t x I (Z a) I) λv=>.pure (.value v)
theorem ajv{P}{t b n a}{g}{k:Int}{i:Nat}(d:k=i)(p:i<=a)(h:lM P t b=U)(w):(Xp t (sv g n a) (ah k)).run P w=.ok (.value (sv g i a)) w:=by
 subst d;unfold lM at h;split at h
 ·rename_i e j
  split at h
  ·rename_i m c
   show((vF t (sv g n a) I (Z (ah i)) I)>>=λv=>(ayU (lT v))).run P w=_;have l:=vB j w;have f:=Fb c w;have o:bx P (xa (ah i) a .sliceAcap) w=.ok i w:=by
    unfold xa;simp only[eJ,ah,asIntOf,pure,bx,eh];rw[if_pos (by constructor<;>omega)];simp[]
   unfold vF Instr.slice;simp only[eJ,l,eh,Instr.sliceBounds,pure,bx,if_true,o,f,Nat.zero_mul];cases g with
   |none=>simp
   |some g=>
    simp only[iy];have:(⟨g,0,I⟩:aR).add 0=⟨g,0,I⟩:=by
     unfold Addr.add;simp
    rw[this];simp
  ·cases h
 ·cases h
abbrev hiA{P}(t b)(g:aj Nat)(n a:Nat)(k:Int)(i:Nat)(c:k=i/\i<=a)(h:lM P t b=U:=by kernel_rfl):Aw P:=.s (Xp t (sv g n a) (ah k)) _ (ajv c.1 c.2 h)
theorem Kw{P}{X}{a}{c}{b}{L}(E)(LL)(d)(f:Rs P X (nx P X a c b L d).todo c E LL->Rs P X a c b L)(e:Rs P X (nx P X a c b L d).todo c E LL):Rs P X a c b L:=f e
abbrev KX{P}(b:Bool):Aw P:=.e _ (.bool b) F
theorem Lg{n}(h:n<=0\/n>2000):jj n=2000:=by
 unfold jj;rw[if_neg ai]
theorem Vq{n}(a:¬n<=0)(b:¬n>2000):(jj n)=n:=by
 unfold jj;by_cases h:n=2000
 ·simp_all
 ·grind
theorem amr(x:aM)(r:RS)(m:Mo)(A:ae En)(o:Nat)(n:Int)(hn:-9223372036854775808<=n/\n<9223372036854775808)(l:ae bt)(C:bn)(y:Fl Sv 73 [pt x.s,ah o].toArray ((x.aL 0).en::A) (Hu x A l.length l))(t:C.Is l)(R:r.ch[o]?=Z C)(hl:l.length<1000000):Fl Sv 52 [.agg #[pt x.s,pt r.s],ah o,ah n].toArray ((x.aL 0).en::r.en m::r.cE::C.en::A) λv L=>v=.bool U/\L=(x.aL 0).en::r.en m::r.cE::C.en::A:=by
 obtain⟨k,j,f,d⟩:=C;have X:o<r.ch.length:=(dv.1 R).1;have hg:(r.ch.map bn.v)[o*1]?=Z (bn.v ⟨k,j,f,d⟩):=by rw[ayT,fq,R];rfl
 refine Fl.of 96 λcs L2=>?_;refine fw [(x.aL 0).en,r.en m,r.cE,bn.en ⟨k,j,f,d⟩] A ?_;refine cd (λ_=>[4]) λz=>?_;refine eF ?_;refine du ([(x.aL 0).en,r.en m,r.cE,bn.en ⟨k,j,f,d⟩,iT z x.s r.s]++A) ?_;refine nu _ [r.en m,r.cE,bn.en ⟨k,j,f,d⟩,iT z x.s r.s] (ZD x o n hn l A y hl) bZ ?_;rintro _ _ ⟨g,c,rfl,rfl⟩;refine eP (L':=[iT z x.s r.s,vR g (l.take (jj n)).length c (l.take (jj n)),r.en m,r.cE,bn.en ⟨k,j,f,d⟩]++((x.aL 0).en::A)) bZ ?_;generalize hK:(l.take (jj n)).length=K;refine fw _ _ ?_;refine ao [zi o 0,0,2,fp o r.ch.length,0,2,iX 129 1 r.cb r.ch.length X,rr 3 hg] ?_;refine eF ?_;refine du ([iT z x.s r.s,vR g K c (l.take (jj n)),r.en m,r.cE,bn.en ⟨k,j,f,d⟩]++((x.aL 0).en::A)) ?_;refine eP (L':=iT z x.s r.s::([vR g K c (l.take (jj n)),bn.en ⟨k,j,f,d⟩]++([(x.aL 0).en,r.en m,r.cE]++A))) bZ (BQ ?_);refine fw _ _ ?_;have S:j=l.length:=t.n;obtain⟨N,w⟩:∃N:Int,N=jj n:=⟨_,F⟩;have B:K=if jj n<=l.length then jj n else l.length:=by
  rw[<-hK,Dh];split<;>omega
 refine Kw [(7,sv g K c),(8,sv k j f),(2,ah N),(41,ah N),(43,ah j)] [vR g K c (l.take (jj n)),bn.en ⟨k,j,f,d⟩] [KX U] (λh=>?_) ?_
 ·by_cases p:n<=0
  ·have e:N=2000:=by rw[w,Lg (.inl p)];rfl
   subst e;exact ao [bT p] (cx h)
  ·by_cases s:n>2000
   ·have e:N=2000:=by rw[w,Lg (.inr s)];rfl
    subst e;exact ao [bF p,bT s] (cx h)
   ·have e:N=n:=by rw[w,Vq p s]
    subst e;exact ao [bF p,bF s] (cx h)
 refine Kw [(7,sv g K c),(8,sv k K f),(49,ah K),(51,ah K)] [vR g K c (l.take (jj n)),bn.en ⟨k,j,f,d⟩] [KX Y] (λh=>?_) ?_
 ·by_cases p:N<(j:Int)
  ·have Ea:jj n<=f:=by have:=t.cap;simp only at this;omega
   have D:K=jj n:=by rw[B,if_pos ai]
   exact ao [bT p,hiA 186 3 k j f N K ⟨by rw[w,D],by omega⟩] (cx h)
  ·have D:j=K:=by rw[B];split<;>omega
   subst D;exact ao [bF p] (cx h)
 refine ao [oO K K F,.g,.x] ?_;refine j4 (ι:=Nat) (λi=>K-i) (λi=>[(7,sv g K c),(8,sv k K f),(9,ah i)]) (λ_=>[vR g K c (l.take (jj n)),bn.en ⟨k,j,f,d⟩]) (λi=>i<=K) 0 (je _) ?_;intro i hi ih;by_cases aE:i<K
 ·have P:i<l.length:=by rw[B]at aE;split at aE<;>omega
  obtain⟨v,y⟩:∃v,l[i]?=Z v:=⟨_,dq P⟩;have W:(l.take (jj n))[i]?=Z v:=by
   rw[BJ,if_pos (by grind),y]
  rcases(Option.eq_none_or_eq_some k)with rfl|⟨G,rfl⟩
  ·have:=t.no rfl
   rw[this]at P;simp at P
  ·skip
   refine lF 0 g K c ai λE nG ku=>?_;subst nG;have O:∀q,q<3->((l.take (jj n)).flatMap bt.cells)[i*3+q]?=v.cells[q]?:=λq M=>dS bt.len _ i q v M W;have J:∀q u,q<3->v.cells[q]?=Z u->d.toList[i*3+q]?=Z u:=λq u M hu=>t.get F M y hu;obtain⟨T,Q,V⟩:=v;refine ao [fp i K] ?_;refine dk 37 [iX 59 3 E c aE,rr 0 (O 0 aX),iX 186 3 G f aE,rr 1 (J 0 _ aX F),oO T T F,iX 59 3 E c aE,rr 0 (O 1 aX),iX 186 3 G f aE,rr 1 (J 1 _ aX F),bB (a:=(Q !=Q)) (b:=Y) aZ,iX 59 3 E c aE,rr 0 (O 2 aX),iX 186 3 G f aE,rr 1 (J 2 _ aX F),bB (a:=(V.toList !=V.toList)) (b:=Y) aZ] [] (Fl.nil ?_);refine ao [aI ((i:Int)+1) ((i+1:Nat):Int) (by omega),.g,.x] ?_;exact cx (ih (i+1) ai ai)
 ·have H:i=K:=by omega
  subst H;refine ao [fH i i] ?_;refine dP [0] (eF ?_);refine du ([bn.en ⟨k,j,f,d⟩]++([(x.aL 0).en,r.en m,r.cE]++A)) (eP (L':=(x.aL 0).en::r.en m::r.cE::bn.en ⟨k,j,f,d⟩::A) bZ ?_);exact dH [.bool U] _ ⟨F,F⟩
theorem ams(x)(r:RS)(m)(b)(n)(i:-9223372036854775808<=n/\n<9223372036854775808)(j:Fl Sv 73 [pt x.s,ah b].toArray [(x.aL 0).en] (Hu x [] 0 []))(p:b<0\/(r.ch.length)<=b):Fl Sv 52 [.agg #[pt x.s,pt r.s],ah b,ah n].toArray [(x.aL 0).en,r.en m] λv L=>v=.bool U/\L=[(x.aL 0).en,r.en m]:=by
 refine Fl.of 96 λl k=>?_;refine cd (λ_=>[2]) λz=>?_;refine du ([(x.aL 0).en,r.en m,iT z x.s r.s]) ?_;refine nu _ [r.en m,iT z x.s r.s] (ZD x _ n i [] _ j aZ) bZ ?_;rintro _ _ ⟨g,c,rfl,rfl⟩;rw[show([]).take (jj n)=[]from List.take_nil];refine du [vR g 0 c [],(x.aL 0).en,r.en m,iT z x.s r.s] ?_;refine Kw [(7,sv g 0 c),(8,sv I 0 0),(2,ah n),(35,ah n)] [vR g 0 c [],(x.aL 0).en,r.en m,iT z x.s r.s] [KX Y] (λa=>?_) ?_
 ·by_cases o:b<0
  ·exact ao [AD b 0] (cx a)
  ·exact ao [zi b 0,3,2,fH b r.ch.length] (cx a)
 obtain⟨N,h⟩:∃N:Int,N=jj n:=⟨_,F⟩;refine Kw [(7,sv g 0 c),(8,sv I 0 0),(2,ah N),(41,ah N),(43,ah 0)] [vR g 0 c [],(x.aL 0).en,r.en m,iT z x.s r.s] [KX U] (λa=>?_) ?_
 ·by_cases d:n<=0
  ·have e:N=2000:=by rw[h,Lg (.inl d)];rfl
   subst e;exact ao [bT d] (cx a)
  ·by_cases f:n>2000
   ·have e:N=2000:=by rw[h,Lg (.inr f)];rfl
    subst e;exact ao [bF d,bT f] (cx a)
   ·have e:N=n:=by rw[h,Vq d f]
    subst e;exact ao [bF d,bF f] (cx a)
 refine ao [fH N 0,oO 0 0 F,.g,fH 0 0] ?_;exact a7 [0,3] [.bool U] _ ⟨F,F⟩
structure PC where
 y:cO
 k:ed
 a:Nat
 b:Nat
 ws:bL Wr
 kw:Nat
 xs:ae En
def PC.hd(x:aM)(c:PC):ae En:=[x.kE (c.y.by c.k),c.k.wE c.a c.b,c.y.wE c.ws c.kw,c.y.pE]
def PC.es(x:aM)(c:PC):ae En:=c.hd x++c.xs
structure Sg where
 x:aM
 ms:bL Mk
 km:Nat
 bj:ae bI
 cls:ae PC
 u:dN
 k0:ed
 a0:Nat
 b0:Nat
 ux:ae En
 n:Int
 ad:Nat
 bd:Nat
 st:Bool
def bI.es(C:bI):ae En:=[C.hd,C.rw]
def Sg.top(σ:Sg):ae En:=[(σ.x.aL 0).en,σ.x.uE (σ.u.by σ.k0),σ.k0.wE σ.a0 σ.b0,dE σ.k0.d σ.x.s σ.n σ.st σ.ad σ.bd,σ.x.eE,σ.x.sE,σ.x.cE,σ.x.lE,σ.x.mE σ.ms σ.km]
def Sg.all(σ:Sg):ae En:=σ.top++(σ.ux++(σ.bj.flatMap bI.es++σ.cls.flatMap (PC.es σ.x)))
theorem uM{α β:Type}(f:α->ae β):∀(l:ae α)(i)(a),l[i]?=Z a->(l.flatMap f).Perm (f a++(l.eraseIdx i).flatMap f)
 |[],i,a,h=>by simp at h
 |x::l,0,a,h=>by
  simp_all
 |x::l,i+1,a,h=>by
  have:=uM f l i a (by simpa using h);simp only[tK,List.eraseIdx_cons_succ];refine(this.append_left _).trans ?_;rw[<-gw,<-gw];exact List.perm_append_comm.append_right _
def Sg.tl(σ:Sg)(i k:Nat):ae En:=σ.ux++((σ.bj.eraseIdx k).flatMap bI.es++(σ.cls.eraseIdx i).flatMap (PC.es σ.x))
theorem Sg.open(σ:Sg){i k}{c}{C}(h:σ.cls[i]?=Z c)(g:σ.bj[k]?=Z C):σ.all.Perm (σ.top++(C.es++(c.hd σ.x++(c.xs++σ.tl i k)))):=by
 refine Fv _ ?_;refine(((uM _ _ _ _ g).append (uM _ _ _ _ h)).append_left _).trans ?_;unfold Sg.tl PC.es;generalize (σ.bj.eraseIdx k).flatMap bI.es=b;generalize (σ.cls.eraseIdx i).flatMap (λc=>c.hd σ.x++c.xs)=d;generalize c.hd σ.x=A;generalize c.xs=B;generalize C.es=D;generalize σ.ux=a;have e:(a++(D++b++(A++B++d))).Perm (D++(a++(b++(A++B++d)))):=by
  rw[gw,<-gw,<-gw D a];exact List.perm_append_comm.append_right _
 refine e.trans (Fv D ?_);have f:(a++(b++(A++B++d))).Perm ((A++B)++(a++(b++d))):=by
  rw[<-gw a _,<-gw a _,<-gw _,<-gw (A++B)];exact List.perm_append_comm.append_right _
 refine f.trans ?_;rw[gw]
theorem Sg.Zy(σ:Sg){k}{C}(a:σ.bj[k]?=Z C):σ.all.Perm (σ.top++(C.es++(σ.ux++((σ.bj.eraseIdx k).flatMap bI.es++σ.cls.flatMap (PC.es σ.x))))):=by
 refine Fv _ ?_;refine(((uM _ _ _ _ a).append_right _).append_left _).trans ?_;rw[gw,<-gw,<-gw C.es];exact List.perm_append_comm.append_right _
theorem acG{x a}(h:a.s=x.s):PC.es a=PC.es x:=by
 funext c;unfold PC.es PC.hd aM.kE;rw[h]
theorem acN{σ σ':Sg}{i k}{c}{C}(a:σ'.ux=σ.ux)(b:σ'.bj=σ.bj.set k C)(d:σ'.cls=σ.cls.set i c)(e:σ'.x.s=σ.x.s):σ'.tl i k=σ.tl i k:=by
 unfold Sg.tl;rw[a,b,d,acG e,Fw,Fw]
inductive jS:Cm->cO->ae Int->ae En->Prop
 |skip {c:Cm} {y:cO} {ks:ae Int} (ho:c.out=U) (hn:y.nx=Td y.c):jS c y ks []
 |m6 {c:Cm} {y:cO} {ks:ae Int} (p:Stp) (i bc bi:Nat) (ho:c.out=Y) (hp:c.pr[c.at_]?=Z p) (hk:p.kind=1) (hs:c.site=Z i) (hn:y.nx=.func (.func 134) #[] #[pt bc,pt bi]):jS c y ks [.ob bc (.cells #[pt y.c] 149),.ob bi (.cells #[ah i] 3)]
 |read {c:Cm} {y:cO} {ks:ae Int} (ho:c.out=Y) (hb:∀p,c.pr[c.at_]?=Z p->p.kind=1->c.site=I) (h0:c.phase=0) (hk:c.keys=0) (hn:y.nx=.func (.func 60) #[pt y.c] #[]):jS c y ks []
 |mark {c:Cm} {y:cO} {ks:ae Int} (j g cap b1 b2:Nat) (h0:c.phase=0) (hk:c.keys=j+1) (hc:ks.length<=cap) (hn:y.nx=.func (.func 137) #[] #[pt b1,pt b2]):jS c y ks [vc g cap ks,.ob b1 (.cells #[pt y.c] 149),.ob b2 (.cells #[kS g j ks.length cap] 55)]
 |bP {c:Cm} {y:cO} {ks:ae Int} (h0:c.phase=1) (hn:y.nx=.func (.func 138) #[pt y.c] #[]):jS c y ks []
 |MI {c:Cm} {y:cO} {ks:ae Int} (z:Nat) (h0:c.phase=2) (hk:c.keys=0) (hn:y.nx=.func (.func 156) #[] #[pt z]):jS c y ks [.ob z (.cells #[pt y.c] 149)]
 |inst {c:Cm} {y:cO} {ks:ae Int} (j g cap b1 b2:Nat) (h0:c.phase=2) (hk:c.keys=j+1) (hc:ks.length<=cap) (hn:y.nx=.func (.func 161) #[] #[pt b1,pt b2]):jS c y ks [vc g cap ks,.ob b1 (.cells #[pt y.c] 149),.ob b2 (.cells #[kS g j ks.length cap] 55)]
 |leave {c:Cm} {y:cO} {ks:ae Int} (z:Nat) (h0:c.phase=3) (hn:y.nx=.func (.func 162) #[] #[pt z]):jS c y ks [.ob z (.cells #[pt y.c] 149)]
structure sP(c:Cm)(p:PC):Prop where
 id:p.y.id=c.me
 pr:p.y.pr=c.pr
 at_:p.y.at_=c.at_
 b:p.y.b=c.b
 site:∀s,c.site=Z s->p.y.site=s
 bP:2<=c.phase->p.y.bP=c.bP
 wr:qu c.wrote p.ws
 mw:mq p.ws p.kw
 nx:jS c p.y (c.wrote.map λw=>(w.key:Int)) p.xs
inductive sX(m:Mo):dN->ae En->Prop
 |first {u:dN} (h:m.at_=0) (hn:u.nx=.func (.func 56) #[pt u.w] #[]):sX m u []
 |Hj {u:dN} (z:Nat) (h:m.at_=1) (hl:u.low=m.w) (hn:u.nx=.func (.func 96) #[] #[pt z]):sX m u [.ob z (.cells #[pt u.w] 99)]
 |site {u:dN} (z z' i:Nat) (h:m.at_=i+2) (hi:i+1<m.sites.length) (hl:u.low=m.w) (hn:u.nx=.func (.func 128) #[] #[pt z,pt z']):sX m u [.ob z (.cells #[pt u.w] 99),.ob z' (.cells #[ah i] 3)]
 |GP {u:dN} (z:Nat) (h:m.at_=m.sites.length+1) (hl:u.low=m.w) (hn:u.nx=.func (.func 129) #[] #[pt z]):sX m u [.ob z (.cells #[pt u.w] 99)]
 |key {u:dN} (z z' k:Nat) (h:m.at_=m.sites.length+2+k) (hk:k+1<m.bw.length) (hl:u.low=m.w) (hn:u.nx=.func (.func 153) #[] #[pt z,pt z']):sX m u [.ob z (.cells #[pt u.w] 99),.ob z' (.cells #[ah k] 3)]
structure lH(m:Mo)(σ:Sg):Prop where
 ck:σ.x.ck=m.clock
 li:σ.x.li=m.cq
 si:σ.x.si=m.sites.map oR
 ch:σ.x.ch=σ.bj.map (·.c)
 vs:σ.bj.map (·.vs)=m.bw.map List.reverse
 mm:ayW m.marks σ.ms
 mo:mq σ.ms σ.km
 ev:σ.x.ev=m.events
 cl:σ.x.cl=σ.cls.map (·.y.c)
 cn:σ.cls.length=m.cf.length
 cr:∀(i:Nat)(c:Cm)(p:PC),m.cf[i]?=Z c->σ.cls[i]?=Z p->sP c p/\p.k.d=σ.k0.d
 sw:σ.x.sw=σ.u.w
 ux:sX m σ.u σ.ux
 n:σ.n=m.cf.length+1
 st:σ.st=m.cU
theorem Fl.sub{P:aA}{f:bA}{a:af ag}{A L:ae En}{R R':ag->ae En->Prop}(B:ae En)(h:Fl P f a A R)(k:L.Perm (A++B))(W:∀v d,R v d->∃b,R' v b/\(d++B).Perm b):Fl P f a L R':=λg H j w e=>
 Fn.mono (h (B++g) H ((j.perm (k.append_right _)).perm (by rw[gw])) w e) λv t⟨l,n,d,q3,o⟩=>by
  obtain⟨b,p,s⟩:=W v d q3;exact⟨l,n,b,p,(o.perm (by rw[gw])).perm (s.append_right _)⟩
theorem FB{a b:ae En}(h:a.Perm b):aB.of a=aB.of b:=Quot.sound h
def bn.es(C:bn):ae En:=[C.en]
def RC.es(p:RC×Cm):ae En:=[p.1.en p.2,p.1.pE p.2,p.1.wE p.2]
def iG(r:RS)(m:Mo):ae En:=[r.en m,r.sE m,r.cE,r.mE m,r.lE,r.eE m]
def dt(r:RS)(m:Mo)(a:ae RC):ae En:=iG r m++(r.ch.flatMap bn.es++(a.zip m.cf).flatMap RC.es)
structure Aj(m:Mo)(r:RS):Prop where
 len:r.ch.length=m.bw.length
 is:∀(k:Nat)(C:bn)(l:ae bt),r.ch[k]?=Z C->m.bw[k]?=Z l->C.Is l
structure sU(m:Mo)(r:RS)(qs:ae RC):Prop where
 ch:Aj m r
 cl:r.cl=qs.map (·.c)
 cn:qs.length=m.cf.length
theorem vX{r:RS}{k:Nat}{C:bn}(h:r.ch[k]?=Z C):aB.of (r.ch.flatMap bn.es)=(aB.one C.en).add (aB.of ((r.ch.eraseIdx k).flatMap bn.es)):=FB (uM bn.es _ _ _ h)
theorem OV{r:RS}{k:Nat}{C a:bn}(h:r.ch[k]?=Z C):aB.of ((r.bj k a).ch.flatMap bn.es)=(aB.one a.en).add (aB.of ((r.ch.eraseIdx k).flatMap bn.es)):=by
 have b:k<r.ch.length:=(dv.1 h).1;have:=vX (r:=r.bj k a) (k:=k) (C:=a) (by simp[RS.bj,b]);rw[this];simp[RS.bj,Fw]
theorem Aj.set{m g:Mo}{r n:RS}(h:Aj m r){k:Nat}{l:ae bt}{d:bn}(V:g.bw=m.bw.set k l)(f:n.ch=r.ch.set k d)(o:d.Is l):Aj g n:=by
 refine⟨by rw[V,f,mZ,mZ,h.len],λj C p b a=>?_⟩;rw[f,List.getElem?_set]at b;rw[V,List.getElem?_set]at a;split at b
 ·rename_i e
  rw[if_pos e]at a;split at b<;>split at a<;>first|(cases b;cases a;exact o)|(cases b;done)|(cases a;done)
 ·rename_i e
  rw[if_neg e]at a;exact h.is j C p b a
theorem Aj.same{m b:Mo}{r d:RS}(h:Aj m r)(V:b.bw=m.bw)(a:d.ch=r.ch):Aj b d:=⟨by rw[V,a,h.len],λk C l e f=>h.is k C l (a▸e) (V▸f)⟩
def Ox(r:RS)(q:RC)(b:Mo)(e:Cm)(n:Int)(v:ag)(L:ae En):Prop:=∃a d,v=.tuple #[ah n,ah 0]/\(a.s=r.s/\a.cl=r.cl/\d.c=q.c/\Aj b a)/\L=iG a b++(RC.es (d,e)++a.ch.flatMap bn.es)
def um(r:RS)(m:Mo)(q:RC)(c:Cm):ae En:=iG r m++(RC.es (q,c)++r.ch.flatMap bn.es)
theorem uF{p:Prop}(h:p:=by(apply aB.exact;simp only[eO,fT,fY,jC,um,iG,RC.es];try ac_rfl)):p:=h
theorem xv{p:Prop}(h:p:=by(apply aB.exact;simp only[eO,fT,fY,jC,um,iG,RC.es,RS.ev,RS.en,RS.eE,RS.sE,RS.mE,Mo.ba,Mo.leave,RC.wr,RC.off,RC.en,RC.pE,RC.wE,Cm.up,Cm.leave,Cm.skip,Cm.put,Cm.take,Cm.qv,Cm.tick,mZ];try ac_rfl)):p:=h
section
variable (r:RS)(m:Mo)(q:RC)(c:Cm)(i:Nat)(T:m.cU=Y)(W:r.cl[i]?=Z q.c)(X:r.cl.length<1000000)(V:m.Ok)(S:c.Ok m.bw.length m.sites.length)(Q:Aj m r)
include T W X V S Q
theorem arQ:Fl Sv 49 [pt r.s,ah i].toArray (um r m q c) (Ox r q (m.eo c).1 (m.eo c).2.1 (m.eo c).2.2):=by
 have bH:=V.Fe;have y:m.events.length<1000000:=by omega
 have h2:c.pr.length<1000000:=by have:=S.len;omega
 have cH:c.at_<=c.pr.length:=S.at_;have B:c.at_<1000000:=by omega
 have K:m.marks.length<1000000:=by have:=V.ml;have:=V.k;omega
 have ia:m.sites.length<1000000:=by have:=V.s;omega
 have lq:c.wrote.length<100000:=by have:=S.Ud;have:=V.k;omega
 have oI:∀k,k<m.bw.length->∃C l,r.ch[k]?=Z C/\m.bw[k]?=Z l/\C.Is l/\l.length<1000000:=λk b=>by
  obtain⟨l,X⟩:∃l,m.bw[k]?=Z l:=⟨_,dq b⟩;obtain⟨C,u⟩:∃C,r.ch[k]?=Z C:=⟨_,dq (by rw[Q.len];exact b)⟩;have:=bH.2 l (lR X);exact⟨C,l,u,X,Q.is k C l u X,by omega⟩
 have z:∀{m':Mo}{r':RS}{q':RC}{c':Cm}{n:Int}{v:ag}{L:ae En},v=.tuple #[ah n,ah 0]->r'.s=r.s->r'.cl=r.cl->q'.c=q.c->r'.ch=r.ch->m'.bw=m.bw->L.Perm (um r' m' q' c')->∃L',Ox r q m' c' n v L'/\L.Perm L':=λ{m' r' q' c' n v L}y h2 B h4 h5 h6 h7=>⟨_,⟨r',q',y,⟨h2,B,h4,Q.same h6 h5⟩,F⟩,h7⟩;refine Oi S (λR=>Fl Sv 49 [pt r.s,ah i].toArray (um r m q c) (Ox r q R.1 R.2.1 R.2.2)) ?_ ?_ ?_ ?_ ?_ ?_ ?_ ?_ ?_ ?_ ?_ ?_ ?_ ?_ ?_
 ·intro hn
  refine Fl.sub (r.eE m::q.wE c::r.mE m::r.sE m::r.cE::r.ch.flatMap bn.es) (arH r m q c i T W X hn cH) uF ?_;rintro _ _ ⟨rfl,rfl⟩;exact z F F F F F F uF
 ·intro p f d
  refine Fl.sub (q.wE c::r.mE m::r.sE m::r.cE::r.ch.flatMap bn.es) ((sx r m q c i T W X f).2.2.2.2.2 d y h2 _ F) uF ?_;rintro _ _ ⟨rfl,g,a,rfl⟩;exact z (r':=r.ev g a) (q':=q) F F F F F F xv
 ·intro p j f d b x hj
  refine Fl.sub (q.wE c::r.mE m::r.cE::r.ch.flatMap bn.es) ((sx r m q c i T W X f).2.1 d b [r.eE m,r.sE m] _ (aqO r m q c j x hj y B)) uF ?_;rintro _ _ ⟨_,_,⟨g,a,rfl⟩,rfl,rfl⟩;exact z (r':=r.ev g a) (q':=q) F F F F F F xv
 ·intro p j f d b x hf
  refine Fl.sub (q.wE c::r.mE m::r.cE::r.ch.flatMap bn.es) ((sx r m q c i T W X f).2.1 d b [r.eE m,r.sE m] _ (Z1 r m q c x y B ia)) uF ?_;rintro _ _ ⟨_,_,h,rfl,rfl⟩;unfold JU at h;rw[hf]at h;simp only at h;subst h;exact z (r':=r) (q':=q) F F F F F F xv
 ·intro p f d b x hf
  refine Fl.sub (q.wE c::r.mE m::r.cE::r.ch.flatMap bn.es) ((sx r m q c i T W X f).2.1 d b [r.eE m,r.sE m] _ (Z1 r m q c x y B ia)) uF ?_;rintro _ _ ⟨_,_,h,rfl,rfl⟩;unfold JU at h;rw[hf]at h;obtain⟨g,a,rfl⟩:=h;exact z (r':=r.ev g a) (q':=q) F F F F F F xv
 ·intro p k o s f d b eX P x A hg
  obtain⟨C,l,u,G,H,O⟩:=oI k P;have hG:=aaf r m q c C l k H u G (by rw[V.ml];exact P) O y B ai;rw[<-eX]at hG;refine Fl.sub (r.sE m::(r.ch.eraseIdx k).flatMap bn.es) ((sx r m q c i T W X f).2.2.1 d b [r.eE m,q.wE c,r.mE m,r.cE,C.en] _ hG) (by(apply aB.exact;simp only[eO,fT,fY,jC,um,iG,RC.es,vX u];try ac_rfl)) ?_;rintro _ _ ⟨_,_,h,rfl,rfl⟩;unfold E8 at h;rw[hg]at h;obtain⟨rfl,g,a,rfl⟩:=h;exact z (r':=r.ev g a) (q':=q) F F F F F F (by(apply aB.exact;simp only[eO,fT,fY,jC,um,iG,RC.es,RS.ev,RS.en,RS.eE,RS.sE,RS.mE,Mo.ba,Mo.leave,RC.wr,RC.off,RC.en,RC.pE,RC.wE,Cm.up,Cm.leave,Cm.skip,Cm.put,Cm.take,Cm.qv,Cm.tick,mZ,vX u];try ac_rfl))
 ·intro p k s f d b eX P x A hg
  obtain⟨C,l,u,G,H,O⟩:=oI k P;have hG:=aaf r m q c C l k H u G (by rw[V.ml];exact P) O y B ai;rw[<-eX]at hG;refine Fl.sub (r.sE m::(r.ch.eraseIdx k).flatMap bn.es) ((sx r m q c i T W X f).2.2.1 d b [r.eE m,q.wE c,r.mE m,r.cE,C.en] _ hG) (by(apply aB.exact;simp only[eO,fT,fY,jC,um,iG,RC.es,vX u];try ac_rfl)) ?_;rintro _ _ ⟨_,_,h,rfl,rfl⟩;unfold E8 at h;rw[hg]at h;obtain⟨rfl,rfl⟩:=h;exact z (r':=r) (q':=q) F F F F F F (by(apply aB.exact;simp only[eO,fT,fY,jC,um,iG,RC.es,vX u];try ac_rfl))
 ·intro p k s f d b eX P x A
  rcases b with b|b
  ·refine Fl.sub (r.mE m::r.sE m::r.cE::r.ch.flatMap bn.es) ((sx r m q c i T W X f).2.2.2.1 d _ k (.inl ⟨b,rfl⟩) eX S.ng lq y h2) uF ?_
   rintro _ _ ⟨rfl,g,a,wg,wc,rfl⟩;simp only[decide_eq_false (show¬p.kind=4 by omega)];exact z (r':=r.ev g a) (q':=q.wr wg wc) rfl rfl rfl rfl rfl rfl xv
  ·refine Fl.sub (r.mE m::r.sE m::r.cE::r.ch.flatMap bn.es) ((sx r m q c i T W X f).2.2.2.1 d _ k (.inr ⟨b,rfl⟩) eX S.ng lq y h2) uF ?_
   rintro _ _ ⟨rfl,g,a,wg,wc,rfl⟩;simp only[decide_eq_true b];exact z (r':=r.ev g a) (q':=q.wr wg wc) rfl rfl rfl rfl rfl rfl xv
 ·intro p s f d b x A
  rcases b with b|⟨b,E⟩
  ·refine Fl.sub (r.cE::r.ch.flatMap bn.es) ((sx r m q c i T W X f).2.2.2.2.1 d b s x A K y h2) uF ?_
   rintro _ _ ⟨rfl,_,⟨g,a,rfl⟩,rfl⟩;exact z (r':=r.ev g a) (q':=q.off) rfl rfl rfl rfl rfl rfl xv
  ·refine Fl.sub (r.cE::r.ch.flatMap bn.es) ((sx r m q c i T W X f).1 d b [r.eE m,q.wE c,r.mE m,r.sE m] _ (aqS r m q c s x A K y B E)) uF ?_
   rintro _ _ ⟨_,_,⟨g,a,rfl⟩,rfl,rfl⟩;exact z (r':=r.ev g a) (q':=q.off) rfl rfl rfl rfl rfl rfl xv
 ·intro p s w f d b x A D E J N
  obtain⟨C,l,u,G,H,O⟩:=oI w.key J;obtain⟨t,ht⟩:∃t,m.marks[w.key]?=Z t:=⟨_,dq (by rw[V.ml];exact J)⟩;have Qb:Bx t l c=U:=by
   rw[<-N,yK,ht,yK,G];rfl
  refine Fl.sub ((r.ch.eraseIdx w.key).flatMap bn.es) ((sx r m q c i T W X f).1 d b ([r.eE m,q.wE c,r.mE m,r.sE m]++[r.cE,C.en]) _ (Z2 r m q c C l w t s x A K y B ai D E H u ht)) (by(apply aB.exact;simp only[eO,fT,fY,jC,um,iG,RC.es,vX u];try ac_rfl)) ?_;rintro _ _ ⟨_,_,h,rfl,rfl⟩;unfold JY at h;rw[Qb]at h;rw[if_pos rfl]at h;obtain⟨g,a,rfl⟩:=h;exact z (r':=r.ev g a) (q':=q.off) rfl rfl rfl rfl rfl rfl (by(apply aB.exact;simp only[eO,fT,fY,jC,um,iG,RC.es,RS.ev,RS.en,RS.eE,RS.sE,RS.mE,Mo.ba,Mo.leave,RC.wr,RC.off,RC.en,RC.pE,RC.wE,Cm.up,Cm.leave,Cm.skip,Cm.put,Cm.take,Cm.qv,Cm.tick,mZ,vX u];try ac_rfl))
 ·intro p s w f d b x A D E J N
  have xX:(c.step c.wrote.length).pr=c.pr:=(c.C6 _).2.1;obtain⟨C,l,u,G,H,O⟩:=oI w.key J;obtain⟨t,ht⟩:∃t,m.marks[w.key]?=Z t:=⟨_,dq (by rw[V.ml];exact J)⟩;have Qb:Bx t l c=Y:=by
   rw[<-N,yK,ht,yK,G];rfl
  refine Fl.sub ((r.ch.eraseIdx w.key).flatMap bn.es) ((sx r m q c i T W X f).1 d b ([r.eE m,q.wE c,r.mE m,r.sE m]++[r.cE,C.en]) _ (Z2 r m q c C l w t s x A K y B ai D E H u ht)) (by(apply aB.exact;simp only[eO,fT,fY,jC,um,iG,RC.es,vX u];try ac_rfl)) ?_;rintro _ _ ⟨_,_,h,rfl,rfl⟩;unfold JY at h;rw[Qb]at h;rw[if_neg aZ]at h;subst h;refine z (r':=r) (q':=q) rfl rfl rfl rfl rfl rfl ?_;have e:q.pE (c.step c.wrote.length)=q.pE c:=by unfold RC.pE;rw[xX]
  show mY _ ([r.en {m with marks:=m.marks.set w.key ⟨U,c.me,0⟩},r.sE {m with marks:=m.marks.set w.key ⟨U,c.me,0⟩},r.cE,r.mE {m with marks:=m.marks.set w.key ⟨U,c.me,0⟩},r.lE,r.eE {m with marks:=m.marks.set w.key ⟨U,c.me,0⟩}]++([q.en (c.step c.wrote.length),q.pE (c.step c.wrote.length),q.wE (c.step c.wrote.length)]++r.ch.flatMap bn.es));rw[e]
  (apply aB.exact;simp only[eO,fT,fY,jC,vX u];try ac_rfl)
 ·intro p s f d b x A D bC aD N
  refine Fl.sub (r.cE::r.ch.flatMap bn.es) ((sx r m q c i T W X f).1 d b [r.eE m,q.wE c,r.mE m,r.sE m] _ (aqR r m q c s x A K y B aD D N)) uF ?_;rintro _ _ ⟨_,_,⟨g,a,rfl⟩,rfl,rfl⟩;exact z (r':=r.ev g a) (q':=q.off) rfl rfl rfl rfl rfl rfl xv
 ·intro p s f d b x A D bC aD N
  refine Fl.sub (r.cE::r.ch.flatMap bn.es) ((sx r m q c i T W X f).1 d b [r.eE m,q.wE c,r.mE m,r.sE m] _ (aqT r m q c aD ai D N (by have:=V.ck;omega) (λw E=>by rw[V.ml];exact S.key w E) K)) uF ?_;rintro _ _ ⟨_,_,rfl,rfl,rfl⟩;exact z (r':=r) (q':=q) rfl rfl rfl rfl rfl rfl xv
 ·intro p s w f d b x A D E J
  have xX:(c.step c.wrote.length).pr=c.pr:=(c.C6 _).2.1;obtain⟨C,l,u,G,H,O⟩:=oI w.key J;refine Fl.sub ((r.ch.eraseIdx w.key).flatMap bn.es) ((sx r m q c i T W X f).1 d b ([r.eE m,q.wE c,r.mE m,r.sE m]++[r.cE,C.en]) _ (aqQ r m q c C l w K O ai D E H u (by rw[V.ml];exact J))) (by(apply aB.exact;simp only[eO,fT,fY,jC,um,iG,RC.es,vX u];try ac_rfl)) ?_;rintro _ _ ⟨_,_,⟨M,LU,rfl⟩,rfl,rfl⟩;have e:q.pE (c.step c.wrote.length)=q.pE c:=by unfold RC.pE;rw[xX]
  have em:m.bw.modify w.key (λl=>⟨c.bP,w.gone,w.val⟩::l)=m.bw.set w.key (⟨c.bP,w.gone,w.val⟩::l):=GW _ _ _ _ G;refine⟨_,⟨r.bj w.key M,q,rfl,⟨rfl,rfl,rfl,Q.set em rfl LU⟩,rfl⟩,?_⟩;show mY _ ([(r.bj w.key M).en {m with marks:=m.marks.set w.key .no},(r.bj w.key M).sE {m with marks:=m.marks.set w.key .no},(r.bj w.key M).cE,(r.bj w.key M).mE {m with marks:=m.marks.set w.key .no},r.lE,(r.bj w.key M).eE {m with marks:=m.marks.set w.key .no}]++([q.en (c.step c.wrote.length),q.pE (c.step c.wrote.length),q.wE (c.step c.wrote.length)]++(r.bj w.key M).ch.flatMap bn.es));rw[e]
  (apply aB.exact;simp only[eO,fT,fY,jC,OV u];try ac_rfl)
 ·intro p s f d b x A D bC aD
  refine Fl.sub (r.cE::r.ch.flatMap bn.es) ((sx r m q c i T W X f).1 d b [r.eE m,q.wE c,r.mE m,r.sE m] _ (aqP r m q c s x A K y B aD D)) uF ?_;rintro _ _ ⟨_,_,⟨g,a,rfl⟩,rfl,rfl⟩;exact z (r':=r.ev g a) (q':=q.off) rfl rfl rfl rfl rfl rfl xv
end
def JI:ag->bA
 |.func (.func f) _ _=>f
 |_=>0
def JH:ag->af ag
 |.func _ b c=>(b.toList++c.toList).toArray
 |_=>#[]
theorem acE{y:cO}{v:ag}(h:y.nx=v):y.lN v=y:=by cases y;cases h;rfl
theorem awZ{c:Cm}{y:cO}{W:ae Int}{X:ae En}(h:jS c y W X)(q:Nat)(x:aM){d:ae En}{R:ag->ae En->Prop}(a:Fl Sv (JI y.nx) (JH y.nx) (x.kE y::d) R):Fl Sv 67 [pt q].toArray (.ob q (.cells #[pt y.c] 149)::x.kE y::d) λv L=>∃b,R v b/\L=.ob q (.cells #[pt y.c] 149)::b:=by
 cases h
 all_goals
  rename_i f;rw[f]at a;have e:=acE f;rw[<-e]at a⊢;exact Fl.of 7 λk j=>ao [0,1] (m5 [.ob q (.cells #[pt y.c] 149)] _ a λv g i=>ao [] (dH [v] _ ⟨g,i,F⟩))
section
variable {K S:Nat}{c:Cm}{y:cO}{W:ae Int}{X:ae En}
theorem Cm.Ok.Bp(a:c.Ok K S)(b:c.out=U):c.phase=0/\c.keys=0:=by
 have:=a.nB (a.cls (.inl b));omega
theorem Cm.Ok.vT(a:c.Ok K S){p:Stp}(d:c.pr[c.at_]?=Z p)(b:p.kind=1):c.phase=0/\c.keys=0:=by
 have:=a.nB (a.m6 p d b);omega
theorem jS.sk(h:jS c y W X)(a:c.Ok K S)(b:c.out=U):y.nx=Td y.c/\X=[]:=by
 have:=a.Bp b;cases h<;>first|(refine⟨?_,rfl⟩;assumption)|(exfalso;simp_all;done)|(exfalso;omega)
theorem jS.rd(h:jS c y W X)(a:c.Ok K S)(k:c.out=Y)(i:c.phase=0)(j:c.keys=0)(e:∀p,c.pr[c.at_]?=Z p->p.kind=1->c.site=I):y.nx=.func (.func 60) #[pt y.c] #[]/\X=[]:=by
 cases h
 case read f=>exact⟨f,F⟩
 case m6 g d b _=>rw[e _ g d]at b;cases b
 all_goals first|omega|(have:=a.vT (by assumption) (by assumption);omega)|(have:=a.Bp (by assumption);omega)|simp_all
theorem jS.bg(h:jS c y W X)(d:c.Ok K S)(m:c.out=Y){p:Stp}{i:Nat}(j:c.pr[c.at_]?=Z p)(g:p.kind=1)(e:c.site=Z i):∃a b,y.nx=.func (.func 134) #[] #[pt a,pt b]/\X=[.ob a (.cells #[pt y.c] 149),.ob b (.cells #[ah i] 3)]:=by
 have:=d.vT j g;cases h
 case m6 a b _ _ _ f l=>rw[e]at f;cases f;exact⟨a,b,l,F⟩
 case read k _ _ _=>rw[k p j g]at e;cases e
 all_goals first|omega|(have:=d.vT (by assumption) (by assumption);omega)|(have:=d.Bp (by assumption);omega)|simp_all
theorem jS.mk(h:jS c y W X)(e:c.Ok K S)(n:c.out=Y){j:Nat}(l:c.phase=0)(m:c.keys=j+1):∃g a b d,W.length<=a/\y.nx=.func (.func 137) #[] #[pt b,pt d]/\X=[vc g a W,.ob b (.cells #[pt y.c] 149),.ob d (.cells #[kS g j W.length a] 55)]:=by
 cases h
 case mark i g a b d _ k e f=>
  obtain rfl:i=j:=by omega
  exact⟨g,a,b,d,e,f,F⟩
 all_goals first|omega|(have:=e.vT (by assumption) (by assumption);omega)|(have:=e.Bp (by assumption);omega)|simp_all
theorem jS.st(h:jS c y W X)(a:c.Ok K S)(d:c.phase=1):y.nx=.func (.func 138) #[pt y.c] #[]/\X=[]:=by
 cases h
 case bP b=>exact⟨b,F⟩
 all_goals first|omega|(have:=a.vT (by assumption) (by assumption);omega)|(have:=a.Bp (by assumption);omega)|simp_all
theorem jS.i0(h:jS c y W X)(a:c.Ok K S)(d:c.phase=2)(e:c.keys=0):∃z,y.nx=.func (.func 156) #[] #[pt z]/\X=[.ob z (.cells #[pt y.c] 149)]:=by
 cases h
 case MI b=>exact⟨_,b,F⟩
 all_goals first|omega|(have:=a.vT (by assumption) (by assumption);omega)|(have:=a.Bp (by assumption);omega)|simp_all
theorem jS.i1(h:jS c y W X)(e:c.Ok K S){j:Nat}(l:c.phase=2)(m:c.keys=j+1):∃g a b d,W.length<=a/\y.nx=.func (.func 161) #[] #[pt b,pt d]/\X=[vc g a W,.ob b (.cells #[pt y.c] 149),.ob d (.cells #[kS g j W.length a] 55)]:=by
 cases h
 case inst i g a b d _ k e f=>
  obtain rfl:i=j:=by omega
  exact⟨g,a,b,d,e,f,F⟩
 all_goals first|omega|(have:=e.vT (by assumption) (by assumption);omega)|(have:=e.Bp (by assumption);omega)|simp_all
theorem jS.lv(h:jS c y W X)(a:c.Ok K S)(d:c.phase=3):∃z,y.nx=.func (.func 162) #[] #[pt z]/\X=[.ob z (.cells #[pt y.c] 149)]:=by
 cases h
 case leave b=>exact⟨_,b,F⟩
 all_goals first|omega|(have:=a.vT (by assumption) (by assumption);omega)|(have:=a.Bp (by assumption);omega)|simp_all
end
structure SR(m:Mo)(x:aM)(ms:bL Mk)(km:Nat):Prop where
 ck:x.ck=m.clock
 li:x.li=m.cq
 si:x.si=m.sites.map oR
 mm:ayW m.marks ms
 mo:mq ms km
 ev:x.ev=m.events
def XK(x a:aM):Prop:=a.s=x.s/\a.mu=x.mu/\a.sw=x.sw/\a.qx=x.qx/\a.B3=x.B3/\a.cl=x.cl/\a.ch=x.ch
def PK(p a:PC):Prop:=a.k=p.k/\a.a=p.a/\a.b=p.b/\a.y.c=p.y.c/\a.y.wk=p.y.wk/\a.y.tl=p.y.tl
def nL(x:aM)(p:PC)(b:bL Mk)(a:Nat)(C:bI):ae En:=x.kE p.y::x.en::([x.eE,x.sE,x.cE,x.mE b a,p.y.wE p.ws p.kw,p.y.pE,C.hd,C.rw]++p.xs)
structure KH(x:aM)(p:PC)(k:Nat)(C:bI)(m:Mo)(T:Mo×Cm×Int)(x':aM)(p':PC)(ma:bL Mk)(l8:Nat)(C':bI):Prop where
 xk:XK x x'
 pk:PK p p'
 cc:C'.c=C.c
 ch:T.1.bw=m.bw.set k C'.vs.reverse
 sr:SR T.1 x' ma l8
 cr:sP T.2.1 p'
def BS(x:aM)(p:PC)(k:Nat)(C:bI)(m:Mo)(T:Mo×Cm×Int)(v:ag)(L:ae En):Prop:=∃f e d b a,v=ah T.2.2/\KH x p k C m T f e d b a/\L=nL f e d b a
def KG(x:aM)(p:PC)(b:bL Mk)(a:Nat)(m:Mo)(T:Mo×Cm×Int):Prop:=∃k,k<m.bw.length/\∀(C:bI)(l:ae bt),x.ch[k]?=Z C.c->m.bw[k]?=Z l->C.vs=l.reverse->Fl Sv (JI p.y.nx) (JH p.y.nx) (nL x p b a C) (BS x p k C m T)
theorem nkp{x:aM}{p:PC}{k:Nat}{C:bI}{m:Mo}{T:Mo×Cm×Int}{v:ag}{L:ae En}(f:aM)(e:PC)(d:bL Mk)(b:Nat)(a:bI)(j:v=ah T.2.2)(h:KH x p k C m T f e d b a)(i:L.Perm (nL f e d b a)):∃g,BS x p k C m T v g/\L.Perm g:=⟨_,⟨f,e,d,b,a,j,h,F⟩,i⟩
theorem La{m:Mo}{k:Nat}{l:ae bt}{C:bI}(a:m.bw[k]?=Z l)(b:C.vs=l.reverse):m.bw=m.bw.set k C.vs.reverse:=by
 rw[b,List.reverse_reverse];exact(CY a).symm
theorem aom{p:PC}{c:Cm}(X:sP c p){st:Stp}(hp:c.pr[c.at_]?=Z st):p.y.pr[p.y.at_]?=Z st:=by rw[X.pr,X.at_];exact hp
theorem M5{x:aM}{R:bL Mk}{S:Nat}{m:Mo}(W:SR m x R S):x.si.length=m.sites.length:=by rw[W.si,iV]
theorem aoo{m:Mo}(Q:m.Ok){k:Nat}{l:ae bt}{C:bI}(a:m.bw[k]?=Z l)(hv:C.vs=l.reverse):C.vs.length<1000000:=by
 have:=Q.Fe.2 l (lR a);rw[hv,Hz];omega
theorem aoq{p:PC}{m:Mo}{c:Cm}(Q:m.Ok)(V:c.Ok m.bw.length m.sites.length)(X:sP c p):p.ws.length<1000000:=by
 have h1:=X.wr.keys.length_eq;simp only[iV]at h1;have:=V.Ud;have:=Q.k;omega
theorem aop{p:PC}{c:Cm}(X:sP c p)(h:c.wrote=[]):p.ws=[]:=by
 have h1:=X.wr.keys.length_eq;rw[h]at h1;simp only[iV,ow]at h1;exact BK.1 h1
section
variable {x:aM}{p:PC}{R:bL Mk}{S:Nat}{m:Mo}{c:Cm}(Q:m.Ok)(V:c.Ok m.bw.length m.sites.length)(W:SR m x R S)(X:sP c p)
include Q V W X
theorem aol:x.Ok p.y:=⟨by rw[W.ev];have:=Q.Fe.1;omega,by rw[X.at_];have:=V.at_;have:=V.len;omega⟩
omit Q in
theorem JJ{s:Nat}(h:c.site=Z s):p.y.site<x.si.length:=by
 rw[X.site s h,M5 W];exact V.site s h
omit Q V in
theorem SR.ba(o:Int)(v:ByteArray)(t:Int)(g:aj Nat)(cap:Nat):SR (m.ba c o v t) (x.ba p.y o v t g cap) R S:=⟨W.ck,W.li,W.si,W.mm,W.mo,by
 show x.ev++[_]=m.events++[_];rw[W.ev,X.id,X.at_]⟩
omit Q W X in
theorem Zq{st q:Stp}(hp:c.pr[c.at_]?=Z st)(hk:st.kind≠5/\st.kind≠6)(hq:c.pr[c.at_+1]?=Z q):q.kind≠1:=λh1=>by
 have:=(V.lN hp hq).1 h1;rw[JP st hk]at this;cases this
omit Q V W in
theorem sP.rd{c':Cm}{p':PC}(e1:p'.y.id=p.y.id/\p'.y.pr=p.y.pr/\p'.y.at_=p.y.at_+1/\p'.y.nx=.func (.func 60) #[pt p'.y.c] #[]/\p'.xs=[])(e2:c'.me=c.me/\c'.pr=c.pr/\c'.at_=c.at_+1/\c'.out=Y/\c'.phase=0/\c'.keys=0)(hb:p'.y.b=c'.b)(fO:∀s,c'.site=Z s->p'.y.site=s)(hw:qu c'.wrote p'.ws)(AR:mq p'.ws p'.kw)(hn:c'.site=I\/∀q,c.pr[c.at_+1]?=Z q->q.kind≠1):sP c' p' where
 id:=by rw[e1.1,e2.1,X.id]
 pr:=by rw[e1.2.1,e2.2.1,X.pr]
 at_:=by rw[e1.2.2.1,e2.2.2.1,X.at_]
 b:=hb
 site:=fO
 bP:=λh=>by rw[e2.2.2.2.2.1]at h;omega
 wr:=hw
 mw:=AR
 nx:=by
  rw[e1.2.2.2.2];refine .read e2.2.2.2.1 (λq hq hk=>?_) e2.2.2.2.2.1 e2.2.2.2.2.2 e1.2.2.2.1;rw[e2.2.1,e2.2.2.1]at hq;exact hn.elim (λh=>h) λh=>absurd hk (h q hq)
omit Q V W X in
theorem vQ{p:Prop}(h:p:=by(apply aB.exact;simp only[eO,fT,fY,jC,nL,aM.ba,aM.lv,aM.tick,aM.en,aM.eE,aM.sE,aM.cE,aM.mE,aM.kE,cO.rd,cO.skip,cO.qv,cO.take,cO.NY,cO.wE,cO.pE,mZ,ff];try ac_rfl)):p:=h
omit Q V W X in
theorem nV{p:Prop}(h:p:=by unfold nL;exact bZ):p:=h
omit Q V W X in
theorem tz{k:Nat}{C:bI}{T:Mo×Cm×Int}{v:ag}{L:ae En}(x':aM)(p':PC)(ma:bL Mk)(l8:Nat)(C':bI)(h1:T.1.bw=m.bw.set k C'.vs.reverse)(h2:SR T.1 x' ma l8)(h3:sP T.2.1 p')(hL:L.Perm (nL x' p' ma l8 C'))(hv:v=ah T.2.2:=by rfl)(hx:XK x x':=by exact⟨rfl,rfl,rfl,rfl,rfl,rfl,rfl⟩)(hp:PK p p':=by exact⟨rfl,rfl,rfl,rfl,rfl,rfl⟩)(V:C'.c=C.c:=by rfl):∃L',BS x p k C m T v L'/\L.Perm L':=nkp x' p' ma l8 C' hv ⟨hx,hp,V,h1,h2,h3⟩ hL
theorem aon(γ:c.yi m.marks):KG x p R S m (m.eo c):=by
 obtain⟨y,E,a,b,e,n,P⟩:=p;have K:x.Ok y:=aol Q V W X;have nx:jS c y (c.wrote.map λw=>(w.key:Int)) P:=X.nx;have O:y.id=c.me:=X.id;have cH:y.at_=c.at_:=X.at_;have M:∀{T:Mo×Cm×Int}(k:Nat),k<m.bw.length→(∀(C:bI)(l:List bt),x.ch[k]?=some C.c→m.bw[k]?=some l→C.vs=l.reverse→m.bw=m.bw.set k C.vs.reverse→C.vs.length<1000000→Fl Sv (JI y.nx) (JH y.nx) (nL x ⟨y,E,a,b,e,n,P⟩ R S C) (BS x ⟨y,E,a,b,e,n,P⟩ k C m T))→KG x ⟨y,E,a,b,e,n,P⟩ R S m T:=λk hk h=>⟨k,hk,λC l H G hv=>h C l H G hv (La G hv) (aoo Q G hv)⟩;have k0:0<m.bw.length:=by have:=Q.k;omega
 have xX:∀{st:Stp},c.pr[c.at_]?=some st→y.pr[y.at_]?=some st:=λh=>aom X h;have rd:∀{st:Stp},c.pr[c.at_]?=some st→c.out=false→(st.kind=1→c.site=none)→c.phase=0∧c.keys=0→y.nx=.func (.func 60) #[pt y.c] #[]∧P=[]:=λhp f h1 A=>nx.rd V f A.1 A.2 λq hq h2=>by rw[hp]at hq;cases hq;exact h1 h2
 have zk:∀{st:Stp},c.pr[c.at_]?=some st→st.kind≠5→c.phase=0∧c.keys=0:=λhp hk=>by have:=V.no hp hk;omega
 have an:∀{st:Stp}{k:Nat}{C:bI}{o:Int}{u:ByteArray}{g:Option Nat}{cap ML:Nat}{Kl:bL Wr}{c':Cm}{L:List En},c.pr[c.at_]?=some st→st.kind≠5∧st.kind≠6→m.bw=m.bw.set k C.vs.reverse→c'.me=c.me∧c'.pr=c.pr∧c'.at_=c.at_+1∧c'.out=false∧c'.phase=0∧c'.keys=0→c'.b=c.b∧c'.site=c.site→qu c'.wrote Kl→mq Kl ML→L.Perm (nL (x.ba y o u 0 g cap) ⟨y.rd,E,a,b,Kl,ML,[]⟩ R S C)→∃L',BS x ⟨y,E,a,b,e,n,P⟩ k C m (m.ba c o u 0,c',1) (goInt 1) L'∧L.Perm L':=λ{st k C o u g cap ML Kl c' L}hp hk r h1 h2 h3 h4 h5=>
  tz _ ⟨y.rd,E,a,b,Kl,ML,[]⟩ R S C r (SR.ba W X _ _ _ _ _) (sP.rd X ⟨rfl,rfl,rfl,rfl,rfl⟩ h1 (X.b.trans h2.1.symm) (by rw[h2.2];exact X.site) h3 h4 (.inr λq hq=>Zq V hp hk hq)) h5
 have lv:∀(g:Option Nat)(cap:Nat){s k:Nat}{C:bI}{o t:Int}{L:List En},c.site=some s→c.out=false→m.bw=m.bw.set k C.vs.reverse→L.Perm (nL ((x.lv y).ba y o ff t g cap) ⟨y.rd,E,a,b,[],n,[]⟩ (vg y.id R) S C)→∃L',BS x ⟨y,E,a,b,e,n,P⟩ k C m ((m.leave c s).ba c o ff t,c.up.leave,1) (goInt 1) L'∧L.Perm L':=λg cap{s k C o t L}fO f r hL=>by
  refine tz ((x.lv y).ba y o ff t g cap) ⟨y.rd,E,a,b,[],n,[]⟩ (vg y.id R) S C r ⟨W.ck,W.li,?_,?_,W.mo.sub List.filter_sublist,?_⟩ (sP.rd X ⟨rfl,rfl,rfl,rfl,rfl⟩ ⟨rfl,rfl,rfl,f,rfl,rfl⟩ X.b (λs h=>by cases h) qu.nil ⟨by simp,by simp,λx hx=>by simp at hx⟩ (.inl rfl)) hL
  ·show x.si.set y.site ⟨false,false,0⟩=(m.sites.set s (-1)).map oR
   rw[List.map_set,W.si,X.site s fO];rfl
  ·rw[O]
   exact W.mm.leave W.mo.keys c.me
  ·show x.ev++[_]=m.events++[_]
   rw[W.ev,O,cH]
 have I0:jb e=c.wrote.map λw=>(w.key:Int):=X.wr.jb V.ng;have lq:e.length=c.wrote.length:=by
  have h1:=X.wr.keys.length_eq;simpa only[List.length_map]using h1
 have Eu:=aoq Q V X;have Cv:=c.C6 c.wrote.length;have aF:=c.N3 c.wrote.length;have cs:∀{q:Value}{ql:List En},(2≤(c.step c.wrote.length).phase→2≤c.phase)→jS (c.step c.wrote.length) (y.lN q) (c.wrote.map λw=>(w.key:Int)) ql→sP (c.step c.wrote.length) ⟨y.lN q,E,a,b,e,n,ql⟩:=λh2 hn=>⟨by rw[Cv.1];exact O,by rw[Cv.2.1];exact X.pr,by rw[Cv.2.2.1];exact cH,by rw[Cv.2.2.2.2.2.1];exact X.b,λs h=>X.site s (by rw[←Cv.2.2.2.2.1];exact h),λh=>by rw[Cv.2.2.2.2.2.2.2];exact X.bP (h2 h),by rw[Cv.2.2.2.2.2.2.1];exact X.wr,X.mw,by rw[Cv.2.2.2.2.2.2.1];exact hn⟩;have cm:∀{st:Stp}{s:Nat}{w:Wt}{T:Mo×Cm×Int}{B:Bool},c.pr[c.at_]?=some st→c.out=false→st.kind=5→c.site=some s→c.phase=0→c.wrote[c.keys]?=some w→w.key<m.bw.length→(((m.marks.getD w.key .no).set&&decide ((m.marks.getD w.key .no).c8≠c.me))||wI (m.bw.getD w.key []) c.b)=B→(∀{C:bI}{g cap:Nat}{v:Value}{L:List En},m.bw=m.bw.set w.key C.vs.reverse→clash R C.vs w.key y.id y.b=B→c.keys<c.wrote.length→c.wrote.length≤cap→yg x y R S e n C g c.keys cap (c.wrote.map λw=>(w.key:Int)) w.key v L→∃L',BS x ⟨y,E,a,b,e,n,P⟩ w.key C m T v L'∧(L++[y.pE]).Perm L')→KG x ⟨y,E,a,b,e,n,P⟩ R S m T:=by
  intro st s w T B hp f hk fO Gj hw jF hB hT;refine M w.key jF λC l H G hv r J=>?_;have Co:((c.wrote.map λw=>(w.key:Int)))[c.keys]?=some (w.key:Int):=by rw[List.getElem?_map,hw];rfl
  have dK:=(List.getElem?_eq_some_iff.1 hw).1;have dI:clash R C.vs (w.key:Nat) y.id y.b=B:=by
   rw[hv,O,X.b,←hB];exact aeI W.mm G Q.ml V.b
  have ia:=JJ V W X fO;rcases Nat.eq_zero_or_pos c.keys with A|A
  ·obtain⟨e1,rfl⟩:=rd hp f ai ⟨Gj,A⟩
   simp only[e1];refine Fl.sub ([]) ((Hg K (xX hp)).2.2.2.2 hk R S e n C w.key W.mo X.mw ⟨by omega,Eu⟩ ia H J (by rw[I0,←Co,A])) nV ?_;rintro v _ ⟨g,cap,L',N,d,rfl⟩;rw[I0,←A]at d;obtain⟨L2,q1,q2⟩:=hT r dI dK ai d;exact⟨L2,q1,.trans bZ q2⟩
  ·obtain⟨j,hj⟩:∃j,c.keys=j+1:=⟨c.keys-1,by omega⟩
   obtain⟨g,cap,b1,b2,N,e1,rfl⟩:=nx.mk V f Gj hj;simp only[e1];refine Fl.sub ([y.pE]) (anx x y R S e n C g j cap (c.wrote.map λw=>(w.key:Int)) w.key b1 b2 K W.mo ia H J (by rw[←hj];exact Co) N) nV ?_;intro v L1 d;rw[←hj]at d;rw[List.length_map]at N;exact hT r dI dK N d
 refine Oi V (KG x ⟨y,E,a,b,e,n,P⟩ R S m) ?_ ?_ ?_ ?_ ?_ ?_ ?_ ?_ ?_ ?_ ?_ ?_ ?_ ?_ ?_
 ·intro hn
  refine M 0 k0 λC l H G hv r J=>?_;have pv:y.pr[y.at_]?=none:=by rw[X.pr,cH];exact hn
  have β:y.at_≤y.pr.length:=by rw[X.pr,cH];exact V.at_
  cases f:c.out with
  |true=>
   obtain⟨e1,rfl⟩:=nx.sk V f;simp only[e1];refine Fl.sub ([x.sE,x.cE,x.mE R S,y.wE e n,C.hd,C.rw]) (aaJ x y K β) nV ?_;intro v L1 d;rw[pv]at d;obtain⟨rfl,rfl⟩:=d;exact tz x _ R S C r W X nV
  |false=>
   have A:c.phase=0∧c.keys=0:=by
    by_cases h:c.keys≠0∨c.phase≠0
    ·obtain⟨q,hq,_⟩:=V.vY h
     rw[hn]at hq;cases hq
    ·omega
   obtain⟨e1,rfl⟩:=nx.rd V f A.1 A.2 (λq hq=>by rw[hn]at hq;cases hq);simp only[e1];refine Fl.sub ([x.en,x.eE,x.sE,x.cE,x.mE R S,y.wE e n,y.pE,C.hd,C.rw]) (aq0 x y (by have:=List.getElem?_eq_none_iff.1 pv;omega)) nV ?_;rintro _ _ ⟨rfl,rfl⟩;exact tz x _ R S C r W X nV
 ·intro st hp f
  refine M 0 k0 λC l H G hv r J=>?_;have A:=V.Bp f;obtain⟨e1,rfl⟩:=nx.sk V f;simp only[e1];refine Fl.sub ([x.sE,x.cE,x.mE R S,y.wE e n,C.hd,C.rw]) (aaJ x y K (by rw[X.pr,cH];exact V.at_)) nV ?_;intro v L1 d;rw[xX hp]at d;obtain⟨rfl,g,cap,rfl⟩:=d;unfold G';by_cases hk:st.kind≠5∧st.kind≠6
  ·rw[if_pos hk]
   exact tz _ ⟨y.skip,E,a,b,e,n,[]⟩ R S C r (SR.ba W X 7 ff 0 g cap) ⟨O,X.pr,congrArg (·+1) cH,X.b,X.site,λh=>absurd (show 2≤c.phase from h) ai,X.wr,X.mw,.skip (JP st hk) rfl⟩ vQ
  ·rw[if_neg hk]
   exact tz _ ⟨y.rd,E,a,b,e,n,[]⟩ R S C r (SR.ba W X 7 ff 0 g cap) (sP.rd X ⟨rfl,rfl,rfl,rfl,rfl⟩ ⟨rfl,rfl,rfl,Zz st ai,A.1,A.2⟩ X.b X.site X.wr X.mw (.inl (V.out f))) vQ
 ·intro st i hp f hk fO hi
  refine M 0 k0 λC l H G hv r J=>?_;have A:=V.vT hp hk;obtain⟨bc,bi,e1,rfl⟩:=nx.bg V f hp hk fO;simp only[e1];refine Fl.sub ([x.cE,x.mE R S,y.wE e n,y.pE,C.hd,C.rw]) (ad3 x y i bc bi K (by rw[M5 W];exact hi)) nV ?_;rintro v _ ⟨rfl,g,cap,rfl⟩;refine tz (aM.ba {x with si:=x.si.set i ⟨true,true,x.ck⟩} y 1 ff x.ck g cap) ⟨(y.qv x.ck).rd,E,a,b,e,n,[]⟩ R S C r ⟨W.ck,W.li,?_,W.mm,W.mo,?_⟩ (sP.rd X ⟨rfl,rfl,rfl,rfl,rfl⟩ ⟨rfl,rfl,rfl,f,A.1,A.2⟩ W.ck X.site X.wr X.mw (.inr λq hq=>Zq V hp ai hq)) ?_
  ·show x.si.set i ⟨true,true,x.ck⟩=(m.sites.set i m.clock).map oR
   rw[List.map_set,W.si,W.ck,as4 _ Q.ck.1]
  ·show x.ev++[_]=m.events++[_]
   rw[W.ev,O,cH,W.ck]
  exact vQ
 ·intro st i hp f hk fO hf
  refine M 0 k0 λC l H G hv r J=>?_;obtain⟨e1,rfl⟩:=rd hp f (λ_=>fO) (V.vT hp hk);simp only[e1];have IS:tc x.si 0=some i:=by rw[W.si,Pw];exact hf
  refine Fl.sub ([x.cE,x.mE R S,y.wE e n,C.hd,C.rw]) ((Hg K (xX hp)).1 hk (by rw[M5 W];have:=Q.s;omega)) nV ?_;rintro v _ ⟨L',d,rfl⟩;unfold FZ at d;rw[IS]at d;obtain⟨rfl,w,bc,bi,hw,rfl⟩:=d;have uZ:w=⟨false,false,0⟩:=by
   have h1:=We m.sites 0 i hf;rw[W.si,List.getElem?_map]at hw;rw[Nat.sub_zero]at h1;rw[h1]at hw;simp only[Option.map_some,Option.some.injEq]at hw;rw[←hw];exact as3
  refine tz {x with si:=x.si.set i {w with busy:=true}} ⟨y.take i bc bi,E,a,b,e,n,[.ob bc (.cells #[pt y.c] 149),.ob bi (.cells #[goInt i] 3)]⟩ R S C r ⟨W.ck,W.li,?_,W.mm,W.mo,W.ev⟩ ⟨O,X.pr,cH,X.b,λs h=>by cases h;rfl,λh=>?_,X.wr,X.mw,.m6 st i bc bi f hp hk rfl rfl⟩ ?_
  ·show x.si.set i {w with busy:=true}=(m.sites.set i (-2)).map oR
   rw[List.map_set,W.si,uZ];rfl
  ·have:2≤c.phase:=h
   have:=V.vT hp hk;omega
  exact vQ
 ·intro st hp f hk fO hf
  refine M 0 k0 λC l H G hv r J=>?_;have A:=V.vT hp hk;obtain⟨e1,rfl⟩:=rd hp f (λ_=>fO) A;simp only[e1];have IS:tc x.si 0=none:=by rw[W.si,Pw];exact hf
  refine Fl.sub ([x.cE,x.mE R S,y.wE e n,C.hd,C.rw]) ((Hg K (xX hp)).1 hk (by rw[M5 W];have:=Q.s;omega)) nV ?_;rintro v _ ⟨L',d,rfl⟩;unfold FZ at d;rw[IS]at d;obtain⟨rfl,g,cap,rfl⟩:=d;exact tz _ ⟨y.skip,E,a,b,e,n,[]⟩ R S C r (SR.ba W X 5 ff 0 g cap) ⟨O,X.pr,congrArg (·+1) cH,X.b,X.site,λh=>absurd (show 2≤c.phase from h) ai,X.wr,X.mw,.skip rfl rfl⟩ vQ
 case' refine_6=>intro st k o s hp f hk eX dK fO _ hg
 case' refine_7=>intro st k s hp f hk eX dK fO _ hg
 iterate 2
  refine M k dK λC l H G hv r J=>?_;have A:=zk hp ai;obtain⟨e1,rfl⟩:=rd hp f ai A;simp only[e1];have oI:zj e R C.vs (k:Nat) y.id y.b=m.get c k:=by
   rw[hv,O,X.b];exact ag8 X.wr W.mm G Q.ml
  refine Fl.sub ([x.sE]) ((Hg K (xX hp)).2.1 hk R S e n C k H J eX) nV ?_;rintro v _ ⟨L',d,rfl⟩;unfold AE at d;rw[oI,hg]at d
  first
   |obtain⟨rfl,g,cap,rfl⟩:=d
    exact an hp ai r ⟨rfl,rfl,rfl,f,A.1,A.2⟩ ⟨rfl,rfl⟩ X.wr X.mw vQ
   |obtain⟨rfl,rfl⟩:=d
    exact tz x _ R S C r W X nV
 ·intro st k s hp f hk eX dK fO _
  refine M 0 k0 λC l H G hv r J=>?_;have A:=zk hp ai;obtain⟨e1,rfl⟩:=rd hp f ai A;simp only[e1];refine Fl.sub ([x.sE,x.cE,x.mE R S,C.hd,C.rw]) ((Hg K (xX hp)).2.2.1 (decide (st.kind=4)) (hk.imp (λh=>⟨h,by simp[h]⟩) λh=>⟨h,by simp[h]⟩) e n) nV ?_;rintro v _ ⟨rfl,g,cap,rfl⟩;rw[eX];exact an hp ai r ⟨rfl,rfl,rfl,f,A.1,A.2⟩ ⟨rfl,rfl⟩ (X.wr.put V.ng ⟨k,_,st.val⟩ n) (X.mw.set (k:Int) (_,st.val)) vQ
 ·intro st s hp f hk fO _
  refine M 0 k0 λC l H G hv r J=>?_;have ia:=JJ V W X fO;obtain⟨e1,rfl⟩:=rd hp f ai (hk.elim (λh=>zk hp ai) λh=>by have:=V.nB h.2;omega);simp only[e1];refine Fl.sub ([x.cE,C.hd,C.rw]) ((Hg K (xX hp)).2.2.2.1 R S e n (hk.imp_right λh=>⟨h.1,aop X h.2⟩) W.mo ia) nV ?_;rintro v _ ⟨rfl,g,cap,rfl⟩;exact lv g cap fO f r vQ
 ·intro st s w hp f hk fO _ Gj hw jF AI
  refine cm hp f hk fO Gj hw jF AI λr dI _ _ d=>?_;unfold yg at d;rw[dI,if_pos rfl]at d;obtain⟨rfl,g,cap,rfl⟩:=d;exact lv g cap fO f r vQ
 ·intro st s w hp f hk fO _ Gj hw jF AI
  refine cm hp f hk fO Gj hw jF AI λ{C}g cap _ _ r dI dK N d=>?_;unfold yg at d;rw[dI,if_neg aZ]at d;have sr:SR {m with marks:=m.marks.set w.key ⟨true,c.me,0⟩} x (j7 R w.key (y.id,0) S) (qb R w.key S):=⟨W.ck,W.li,W.si,by rw[O];exact W.mm.set w.key S c.me 0,W.mo.set _ _,W.ev⟩;obtain⟨rfl,d⟩:=d;rw[List.length_map]at d;split at d
  ·subst d
   exact tz x ⟨y.lN (.func (.func 138) #[pt y.c] #[]),E,a,b,e,n,[]⟩ _ _ C r sr (cs ai (.bP ai rfl)) nV
  ·obtain⟨b1,b2,rfl⟩:=d
   exact tz x ⟨y.lN (.func (.func 137) #[] #[pt b1,pt b2]),E,a,b,e,n,_⟩ _ _ C r sr (cs ai (.mark c.keys g cap b1 b2 ai ai (by rw[List.length_map];exact N) rfl)) (by unfold nL;simp only[List.length_map];exact bZ)
 ·intro st s hp f hk fO _ h1 cy aD G
  refine M 0 k0 λC l H uX hv r J=>?_;obtain⟨e1,rfl⟩:=nx.st V h1;simp only[e1];refine Fl.sub ([x.cE,y.pE,C.hd,C.rw]) (abD x y R S e n K W.mo X.mw Eu (JJ V W X fO) (by rw[W.ck];have:=Q.ck;omega)) nV ?_;intro v L1 d;unfold J' at d;rw[W.ck,W.li,if_pos G]at d;obtain⟨rfl,g,cap,rfl⟩:=d;exact lv g cap fO f r vQ
 ·intro st s hp f hk fO _ h1 cy aD G
  refine M 0 k0 λC l H uX hv r J=>?_;obtain⟨e1,rfl⟩:=nx.st V h1;simp only[e1];refine Fl.sub ([x.cE,y.pE,C.hd,C.rw]) (abD x y R S e n K W.mo X.mw Eu (JJ V W X fO) (by rw[W.ck];have:=Q.ck;omega)) nV ?_;intro v L1 d;unfold J' at d;rw[W.ck,W.li,if_neg G]at d;obtain⟨rfl,z,rfl⟩:=d;have IE:=ayW.bP (ws:=c.wrote) c.me (m.clock+1) c.wrote m.marks R S W.mm W.mo (λw hw=>by
   obtain⟨j,hj⟩:=List.getElem?_of_mem hw;exact γ j w hj (.inr (.inl h1)))
  rw[←I0,←O]at IE;exact tz x.tick ⟨y.NY (m.clock+1) z,E,a,b,e,n,[.ob z (.cells #[pt y.c] 149)]⟩ _ _ C r ⟨congrArg (·+1) W.ck,W.li,W.si,IE.1,IE.2,W.ev⟩ ⟨O,X.pr,cH,X.b,X.site,λ_=>rfl,X.wr,X.mw,.MI z rfl cy rfl⟩ vQ
 ·intro st s w hp f hk fO _ WA hw jF
  refine M w.key jF λC l H G hv r J=>?_;have Co:((c.wrote.map λw=>(w.key:Int)))[c.keys]?=some (w.key:Int):=by rw[List.getElem?_map,hw];rfl
  have dK:=(List.getElem?_eq_some_iff.1 hw).1;have rV:iC e (w.key:Nat)=some (w.gone,w.val):=X.wr.at_ V.ng hw;have fin:∀{g cap:Nat}{v:Value}{L:List En},c.wrote.length≤cap→Ez x y R S e n C g c.keys cap (c.wrote.map λw=>(w.key:Int)) w.key (w.gone,w.val) v L→∃L',BS x ⟨y,E,a,b,e,n,P⟩ w.key C m ({m with bw:=m.bw.modify w.key λl=>⟨c.bP,w.gone,w.val⟩::l,marks:=m.marks.set w.key .no},c.step c.wrote.length,1) v L'∧(L++[x.eE,x.sE,y.pE]).Perm L':=λ{g cap v L}N d=>by
   unfold Ez at d;rw[List.length_map]at d;obtain⟨rfl,d⟩:=d;have bY:∀g' D,(m.bw.modify w.key λl=>⟨c.bP,w.gone,w.val⟩::l)=m.bw.set w.key (C.put g' D ⟨y.bP,w.gone,w.val⟩).vs.reverse:=λg' D=>by
    rw[GW _ _ _ _ G];congr 1;show _=(C.vs++[_]).reverse;rw[hv,X.bP ai];simp
   have sr:SR {m with bw:=m.bw.modify w.key λl=>⟨c.bP,w.gone,w.val⟩::l,marks:=m.marks.set w.key .no} x (mV w.key R) S:=⟨W.ck,W.li,W.si,W.mm.del W.mo.keys w.key,W.mo.sub (YW _ _),W.ev⟩;split at d
   ·obtain⟨z,g',D,rfl⟩:=d
    exact tz x ⟨y.lN (.func (.func 162) #[] #[pt z]),E,a,b,e,n,[.ob z (.cells #[pt y.c] 149)]⟩ _ S (C.put g' D ⟨y.bP,w.gone,w.val⟩) (bY g' D) sr (cs ai (.leave z ai rfl)) nV
   ·obtain⟨b1,b2,g',D,rfl⟩:=d
    exact tz x ⟨y.lN (.func (.func 161) #[] #[pt b1,pt b2]),E,a,b,e,n,_⟩ _ S (C.put g' D ⟨y.bP,w.gone,w.val⟩) (bY g' D) sr (cs ai (.inst c.keys g cap b1 b2 ai ai (by rw[List.length_map];exact N) rfl)) (by unfold nL;simp only[List.length_map];exact bZ)
  rcases Nat.eq_zero_or_pos c.keys with A|A
  ·obtain⟨z0,e1,rfl⟩:=nx.i0 V WA A
   simp only[e1];refine Fl.sub ([x.eE,x.sE,y.pE]) (avQ x y R S e n C w.key (w.gone,w.val) z0 X.mw Eu rV H J (by rw[I0,←Co,A])) nV ?_;rintro v L1 ⟨g,cap,N,d⟩;rw[I0,←A]at d;exact fin ai d
  ·obtain⟨j,hj⟩:∃j,c.keys=j+1:=⟨c.keys-1,by omega⟩
   obtain⟨g,cap,b1,b2,N,e1,rfl⟩:=nx.i1 V WA hj;simp only[e1];refine Fl.sub ([x.eE,x.sE,y.pE]) (ak6 x y R S e n C g j cap (c.wrote.map λw=>(w.key:Int)) w.key (w.gone,w.val) b1 b2 rV H J (by rw[←hj];exact Co) N) nV ?_;intro v L1 d;rw[←hj]at d;rw[List.length_map]at N;exact fin N d
 ·intro st s hp f hk fO _ h3 _ _
  refine M 0 k0 λC l H G hv r J=>?_;obtain⟨z,e1,rfl⟩:=nx.lv V h3;simp only[e1];refine Fl.sub ([x.cE,y.pE,C.hd,C.rw]) (ak7 x y R S e n z K W.mo (JJ V W X fO)) nV ?_;rintro v _ ⟨rfl,g,cap,rfl⟩;rw[show y.bP=c.bP from X.bP ai];exact lv g cap fO f r vQ
end
theorem aw0(m:Mo)(c:Cm):(m.eo c).1.w=m.w:=by
 unfold Mo.eo;dsimp only
 repeat' split
 all_goals rfl
theorem jS.Ax{c:Cm}{y:cO}{q:ae Int}{r:ae En}(k:ed)(h:jS c y q r):jS c (y.by k) q r:=by
 cases h with
 |skip f a=>exact .skip f a
 |m6 p i s t f v d w a=>exact .m6 p i s t f v d w a
 |read f u b d a=>exact .read f u b d a
 |mark j g e l n b d o a=>exact .mark j g e l n b d o a
 |bP b a=>exact .bP b a
 |MI z b d a=>exact .MI z b d a
 |inst j g e l n b d o a=>exact .inst j g e l n b d o a
 |leave z b a=>exact .leave z b a
theorem sX.keep{m c:Mo}{u:dN}{f:ae En}(h:sX m u f)(g:c.at_=m.at_)(d:c.w=m.w)(j:c.sites.length=m.sites.length)(l:c.bw.length=m.bw.length):sX c u f:=by
 cases h with
 |first h a=>exact .first ai a
 |Hj z h b a=>exact .Hj z ai (by rw[d];exact b) a
 |site z e i h n b a=>exact .site z e i ai ai (by rw[d];exact b) a
 |GP z h b a=>exact .GP z ai (by rw[d];exact b) a
 |key z e k h o b a=>exact .key z e k ai ai (by rw[d];exact b) a
theorem anL{x:aM}{i:Int}(h:x.mu=i):x.aL i=x:=by cases x;cases h;rfl
theorem aeo{y:cO}{k:ed}(a:y.wk=.chan (Z k.w))(b:y.tl=.chan (Z k.t)):y.by k=y:=by cases y;cases a;cases b;rfl
theorem lH.sr{m:Mo}{σ:Sg}(h:lH m σ)(a:Int):SR m (σ.x.aL a) σ.ms σ.km:=⟨h.ck,h.li,h.si,h.mm,h.mo,h.ev⟩
theorem amc{x a:aM}(h:XK x a):a.lE=x.lE:=by
 obtain⟨_,_,_,b,c,d,_⟩:=h;unfold aM.lE;rw[b,c,d]
def Sg.lN(σ:Sg)(i k:Nat)(e:aM)(d:PC)(c:bL Mk)(b:Nat)(a:bI):Sg:={σ with x:=e,ms:=c,km:=b,bj:=σ.bj.set k a,cls:=σ.cls.set i d,a0:=σ.a0+1,b0:=σ.b0+1,ad:=σ.ad+1+1,bd:=σ.bd+1+1}
def Mo.with(m a:Mo)(i:Nat)(c:Cm):Mo:={a with cf:=m.cf.set i c}
section
variable {m:Mo}{σ:Sg}(W:m.Ok)(X:lH m σ)
include W X
theorem lH.lN{i k:Nat}{c:Cm}{p r:PC}{C l:bI}{g:aM}{z:bL Mk}{x:Nat}(s:m.cf[i]?=Z c)(u:σ.cls[i]?=Z p)(w:σ.bj[k]?=Z C)
  (h:KH (σ.x.aL 1) {p with y:=p.y.by p.k} k C m (m.eo c) g r z x l):
  lH (m.with (m.eo c).1 i (m.eo c).2.1) (σ.lN i k g {r with a:=p.a+1,b:=p.b+1} z x l):=by
 obtain⟨K,D,J,G,f,d⟩:=h;have B:=W.me i c s;have q:=T4 W B.2.1 B.2.2;have L:i<σ.cls.length:=(dv.1 u).1;have S:k<σ.bj.length:=(dv.1 w).1;have H:=X.cr i c p s u;obtain⟨x1,x2,P,x4,x5,Q,R⟩:=K;obtain⟨M,T,V,N,p5,p6⟩:=D;refine⟨f.ck,f.li,f.si,?_,?_,f.mm,f.mo,f.ev,?_,?_,λj v A t E=>?_,?_,X.ux.keep q.at_ (aw0 m c) q.s q.k,?_,?_⟩
 ·show g.ch=(σ.bj.set k l).map (·.c)
  rw[R,np,J,show(σ.x.aL 1).ch=σ.x.ch from F,X.ch];exact(CY (by rw[fq,w];rfl)).symm
 ·show(σ.bj.set k l).map (·.vs)=(m.eo c).1.bw.map List.reverse
  rw[G,np,np,X.vs,List.reverse_reverse]
 ·show g.cl=(σ.cls.set i _).map (·.y.c)
  rw[Q,np,show(σ.x.aL 1).cl=σ.x.cl from F,X.cl];exact(CY (by rw[fq,u];exact congrArg Z N.symm)).symm
 ·show(σ.cls.set i _).length=(m.cf.set i _).length
  rw[mZ,mZ,X.cn]
 ·have n:(m.cf.set i (m.eo c).2.1)[j]?=Z v:=t
  have o:(σ.cls.set i {r with a:=p.a+1,b:=p.b+1})[j]?=Z A:=E;by_cases e:i=j
  ·subst e
   have O:i<m.cf.length:=(dv.1 s).1;rw[sJ O]at n;rw[sJ L]at o;cases n;cases o;refine⟨⟨d.id,d.pr,d.at_,d.b,d.site,d.bP,d.wr,d.mw,d.nx⟩,?_⟩;show r.k.d=σ.k0.d;rw[M];exact H.2
  ·rw[kU e]at n o
   exact X.cr j v A n o
 ·show g.sw=σ.u.w
  rw[P];exact X.sw
 ·show σ.n=((m.cf.set i _).length:Int)+1
  rw[mZ];exact X.n
 ·show σ.st=(m.eo c).1.cU
  rw[q.st];exact X.st
theorem apf(H:m.cU=false){i:Nat}{c:Cm}(t:m.cf[i]?=some c)(o:Value)(a:Gc)(b:Nat):Fl Sv 41 [pt σ.x.s,goInt i].toArray (aP 4 o::gE a b::σ.all) λv L=>∃r,v=.tuple #[goInt r,.nilIface]∧∃x,r=(m.eo c).2.2∧lH (m.with (m.eo c).1 i (m.eo c).2.1) x∧x.x.s=σ.x.s∧L=aP 4 o::gE (a+1) (b+1)::x.all:=by
 have N:i<σ.cls.length:=by rw[X.cn];exact(List.getElem?_eq_some_iff.1 t).1
 obtain⟨p,u⟩:∃p,σ.cls[i]?=some p:=⟨_,List.getElem?_eq_getElem N⟩;obtain⟨f,hd⟩:=X.cr i c p t u;have P:=W.me i c t;have G:sP c {p with y:=p.y.by p.k}:=⟨f.id,f.pr,f.at_,f.b,f.site,f.bP,f.wr,f.mw,f.nx.Ax p.k⟩;obtain⟨k,T,V⟩:=aon W P.2.1 (X.sr 1) G P.2.2;have dI:σ.bj.length=m.bw.length:=by have:=congrArg List.length X.vs;simpa using this
 obtain⟨C,s⟩:∃C,σ.bj[k]?=some C:=⟨_,List.getElem?_eq_getElem ai⟩;obtain⟨l,M⟩:∃l,m.bw[k]?=some l:=⟨_,List.getElem?_eq_getElem T⟩;have Q:C.vs=l.reverse:=by
  have K:(σ.bj.map (·.vs))[k]?=some C.vs:=by rw[List.getElem?_map,s];rfl
  rw[X.vs,List.getElem?_map,M]at K;exact(Option.some.inj K).symm
 have S:=V C l (by rw[show(σ.x.aL 1).ch=σ.x.ch from rfl,X.ch,List.getElem?_map,s];rfl) M Q;have A:jS c (p.y.by p.k) (c.wrote.map λw=>(w.key:Int)) p.xs:=G.nx;have Qc:=W.cl;have hP:=aph σ.x p.y σ.u σ.k0 p.k i o σ.n a b σ.a0 σ.b0 p.a p.b σ.ad σ.bd ([σ.x.eE,σ.x.sE,σ.x.cE,σ.x.mE σ.ms σ.km,p.y.wE p.ws p.kw,p.y.pE,C.hd,C.rw]++p.xs)
  (λr e E=>∃d j h g,r=(m.eo c).2.2∧KH (σ.x.aL 1) {p with y:=p.y.by p.k} k C m (m.eo c) e d j h g∧E=e.kE d.y::([e.eE,e.sE,e.cE,e.mE j h,d.y.wE d.ws d.kw,d.y.pE,g.hd,g.rw]++d.xs))
  X.sw hd (by rw[X.cl,List.length_map,X.cn];omega) (by rw[X.cl,List.getElem?_map,u];rfl) (λq=>by
   refine Fl.post (Fl.perm (awZ A q (σ.x.aL 1) S) (by exact List.Perm.refl _)) ?_;rintro v _ ⟨L1,⟨e,d,j,h,g,rfl,n,rfl⟩,rfl⟩;refine⟨_,⟨(m.eo c).2.2,e,_,⟨rfl,n.xk.1,d,j,h,g,rfl,n,rfl⟩,rfl⟩,?_⟩;rw[anL (show e.mu=1 from n.xk.2.1)];exact List.Perm.cons _ (List.Perm.swap ..))
 refine Fl.sub (σ.tl i k) hP ?_ ?_
 ·have B:=σ.open u s
  refine((B.cons _).cons _).trans ?_;unfold Sg.top PC.hd bI.es;rw[show σ.st=false from X.st.trans H];exact bZ
 ·rintro v _ ⟨r,e,E,rfl,D,⟨d,j,h,g,rfl,n,rfl⟩,rfl⟩
  have xH:=X.lN W t u s n;refine⟨_,⟨_,rfl,_,rfl,xH,D,rfl⟩,?_⟩;have B:=(σ.lN i k e {d with a:=p.a+1,b:=p.b+1} j h g).open (i:=i) (k:=k) (by show(σ.cls.set i _)[i]?=_;rw[List.getElem?_set_self N]) (by show(σ.bj.set k g)[k]?=_;rw[List.getElem?_set_self ai])
  refine List.Perm.trans ?_ ((B.symm.cons _).cons _);rw[acN (σ:=σ) (σ':=σ.lN i k e {d with a:=p.a+1,b:=p.b+1} j h g) (c:={d with a:=p.a+1,b:=p.b+1}) (C:=g) rfl rfl rfl D];obtain⟨O,p2,p3,p4,p5,p6⟩:=n.pk;have R:d.y.by d.k=d.y:=by rw[O];exact aeo p5 p6
  have z:=amc n.xk;have J:e.s=σ.x.s:=D;show List.Perm _ (aP 4 o::gE (a+1) (b+1)::([(e.aL 0).en,e.uE (σ.u.by σ.k0),σ.k0.wE (σ.a0+1) (σ.b0+1),dE σ.k0.d e.s σ.n σ.st (σ.ad+1+1) (σ.bd+1+1),e.eE,e.sE,e.cE,e.lE,e.mE j h]++([g.hd,g.rw]++([e.kE (d.y.by d.k),d.k.wE (p.a+1) (p.b+1),d.y.wE d.ws d.kw,d.y.pE]++(d.xs++σ.tl i k)))));rw[R,z,show e.uE (σ.u.by σ.k0)=σ.x.uE (σ.u.by σ.k0) by unfold aM.uE;rw[J],O,J,show σ.st=false from X.st.trans H,show(σ.x.aL 1).lE=σ.x.lE from rfl];exact bZ
end
theorem acO{u:dN}{v:ag}(h:u.nx=v):u.go u.low v=u:=by cases u;cases h;rfl
theorem awM{m:Mo}{u:dN}{S:ae En}(h:sX m u S)(q:Nat)(x:aM)(d:x.sw=u.w){c:ae En}{R:ag->ae En->Prop}(a:Fl Sv (JI u.nx) (JH u.nx) (x.en::x.uE u::c) R):Fl Sv 69 [pt q].toArray (.ob q (.cells #[pt x.s] 39)::x.en::x.uE u::c) λv L=>∃b,R v b/\L=.ob q (.cells #[pt x.s] 39)::b:=by
 cases h
 all_goals
  rename_i hn;rw[hn]at a;have e:=acO hn;rw[<-e]at a⊢;obtain⟨w,n,nx,p,o⟩:=u;simp only at d;subst d;exact Fl.of 10 λj f=>ao [0,1,2] (m5 [.ob q (.cells #[pt x.s] 39)] _ a λv L1 hR=>ao [] (dH [v] _ ⟨L1,hR,rfl⟩))
section
variable {m:Mo}
theorem abT(W:m.cU=Y)(h:m.at_=0):m.fX=({m with at_:=1,w:=m.clock},Y,0):=by simp[Mo.fX,W,h]
theorem abW(W:m.cU=Y){i:Nat}(h:m.at_=i+1){v:Int}(hv:m.sites[i]?=Z v):m.fX=({m with at_:=i+2,w:=if 0<=v/\v<m.w then v else m.w},Y,0):=by
 have hi:i+1<=m.sites.length:=(dv.1 hv).1;unfold Mo.fX;rw[W,h];simp only[kg,if_false,Nat.add_one_ne_zero,if_pos hi,Nat.add_sub_cancel,hv]
theorem abV(W:m.cU=Y){k:Nat}(h:m.at_=m.sites.length+1+k)(hk:k+1=m.bw.length):m.fX=({m with at_:=0,bw:=m.bw.modify k λl=>qZ l m.w},U,0):=by
 have a:¬m.sites.length+1+k=0:=by omega
 have b:¬m.sites.length+1+k<=m.sites.length:=by omega
 have c:m.sites.length+1+k-1-m.sites.length=k:=by omega
 unfold Mo.fX;rw[W,h];simp only[kg,if_false,a,b,c,hk,if_true]
theorem abU(W:m.cU=Y){k:Nat}(h:m.at_=m.sites.length+1+k)(hk:k+1≠m.bw.length):m.fX=({m with at_:=m.sites.length+1+k+1,bw:=m.bw.modify k λl=>qZ l m.w},Y,0):=by
 have a:¬m.sites.length+1+k=0:=by omega
 have b:¬m.sites.length+1+k<=m.sites.length:=by omega
 have c:m.sites.length+1+k-1-m.sites.length=k:=by omega
 unfold Mo.fX;rw[W,h];simp only[kg,if_false,a,b,c,hk]
end
def uL(x:aM)(u:dN)(C:bI)(S:ae En):ae En:=x.en::x.uE u::([x.sE,x.cE,C.hd,C.rw]++S)
structure UM(u:dN)(k:Nat)(C:bI)(m m':Mo)(u':dN)(C':bI)(ql:ae En):Prop where
 uk:u'.w=u.w/\u'.wk=u.wk/\u'.tl=u.tl
 cc:C'.c=C.c
 ch:m'.bw=m.bw.set k C'.vs.reverse
 ux:sX m' u' ql
def OE(x:aM)(u:dN)(k:Nat)(C:bI)(m:Mo)(T:Mo×Bool×Int)(v:ag)(L:ae En):Prop:=∃c a b,v=ah (if T.2.1 then 1 else 0)/\UM u k C m T.1 c a b/\L=uL x c a b
def ac8(x:aM)(u:dN)(S:ae En)(m:Mo)(T:Mo×Bool×Int):Prop:=∃k,k<m.bw.length/\∀(C:bI)(l:ae bt),x.ch[k]?=Z C.c->m.bw[k]?=Z l->C.vs=l.reverse->Fl Sv (JI u.nx) (JH u.nx) (uL x u C S) (OE x u k C m T)
section
variable {x:aM}{u:dN}{N:bL Mk}{O:Nat}{m:Mo}{S:ae En}(V:m.Ok)(W:m.cU=Y)(Q:SR m x N O)(P:x.ch.length=m.bw.length)
include V W Q P
omit P in
theorem abQ{i:Nat}(hi:i<m.sites.length)(ha:m.at_=i+1)(xV:u.low=m.w){F:bA}{args:af ag}{Km:ae En}(hx:x.si.length<1000000)(hF:∀v,x.si[i]?=Z v->Fl Sv F args (Km++[x.en,x.uE u,x.sE]) (By x u i v)){k:Nat}{l:ae bt}{C:bI}(hl:m.bw[k]?=Z l)(hv:C.vs=l.reverse):Fl Sv F args (uL x u C Km) (OE x u k C m m.fX):=by
 obtain⟨v,QZ⟩:∃v,m.sites[i]?=Z v:=⟨_,dq hi⟩;have hxv:x.si[i]?=Z (oR v):=by rw[Q.si,fq,QZ];rfl
 have j6:ye (oR v) u.low=if 0<=v/\v<m.w then v else m.w:=by rw[xV];exact am4 v m.w (V.si v (lR QZ))
 have ia:x.si.length=m.sites.length:=by rw[Q.si,iV]
 rw[abW W ha QZ];refine Fl.sub [x.cE,C.hd,C.rw] (hF _ hxv) (by unfold uL;exact bZ) ?_;intro r L1 hR;refine S8 hR ?_ ?_
 ·rintro hn z rfl rfl
  rw[j6];refine⟨_,⟨u.go (if 0<=v/\v<m.w then v else m.w) (.func (.func 129) #[] #[pt z]),C,_,rfl,⟨⟨rfl,rfl,rfl⟩,rfl,La hl hv,.GP z ?_ rfl rfl⟩,rfl⟩,?_⟩
  ·show i+2=m.sites.length+1
   omega
  ·show mY _ (x.en::x.uE (u.go (if 0<=v/\v<m.w then v else m.w) (.func (.func 129) #[] #[pt z]))::([x.sE,x.cE,C.hd,C.rw]++[.ob z (.cells #[pt u.w] 99)]))
   exact bZ
 ·rintro hn z z' rfl rfl
  rw[j6];refine⟨_,⟨u.go (if 0<=v/\v<m.w then v else m.w) (.func (.func 128) #[] #[pt z,pt z']),C,_,rfl,⟨⟨rfl,rfl,rfl⟩,rfl,La hl hv,.site z z' i rfl ?_ rfl rfl⟩,rfl⟩,?_⟩
  ·show i+1<m.sites.length
   omega
  ·show mY _ (x.en::x.uE (u.go (if 0<=v/\v<m.w then v else m.w) (.func (.func 128) #[] #[pt z,pt z']))::([x.sE,x.cE,C.hd,C.rw]++[.ob z (.cells #[pt u.w] 99),.ob z' (.cells #[ah i] 3)]))
   exact bZ
omit V Q in
theorem abP{k:Nat}(hk:k<m.bw.length)(ha:m.at_=m.sites.length+1+k)(xV:u.low=m.w){F:bA}{args:af ag}{Km:ae En}{l:ae bt}{C:bI}(hl:m.bw[k]?=Z l)(hv:C.vs=l.reverse)(hF:Fl Sv F args (Km++[x.en,x.uE u,x.cE,C.hd,C.rw]) (wz x u C k)):Fl Sv F args (uL x u C Km) (OE x u k C m m.fX):=by
 have htr:mJ C.vs u.low=(qZ l m.w).reverse:=by rw[hv,xV];exact awX l m.w
 have bY:(m.bw.modify k λl=>qZ l m.w)=m.bw.set k (mJ C.vs u.low).reverse:=by
  rw[GW _ _ _ _ hl,htr,List.reverse_reverse]
 refine Fl.sub [x.sE] hF (by unfold uL;exact bZ) ?_;intro r L1 hR;refine Re hR ?_ ?_
 ·rintro hn g cap rfl rfl
  rw[abV W ha ai];refine⟨_,⟨u.go u.low (.func (.func 56) #[pt u.w] #[]),⟨C.c,g,cap,mJ C.vs u.low⟩,[],rfl,⟨⟨rfl,rfl,rfl⟩,rfl,bY,.first rfl rfl⟩,rfl⟩,?_⟩;show mY _ (x.en::x.uE (u.go u.low (.func (.func 56) #[pt u.w] #[]))::([x.sE,x.cE,bI.hd ⟨C.c,g,cap,mJ C.vs u.low⟩,bI.rw ⟨C.c,g,cap,mJ C.vs u.low⟩]++[]));exact bZ
 ·rintro hn g cap z z' rfl rfl
  rw[abU W ha ai];refine⟨_,⟨u.go u.low (.func (.func 153) #[] #[pt z,pt z']),⟨C.c,g,cap,mJ C.vs u.low⟩,_,rfl,⟨⟨rfl,rfl,rfl⟩,rfl,bY,.key z z' k ?_ ?_ xV rfl⟩,rfl⟩,?_⟩
  ·show m.sites.length+1+k+1=m.sites.length+2+k
   omega
  ·show k+1<(m.bw.modify k λl=>qZ l m.w).length
   rw[List.length_modify];omega
  ·show mY _ (x.en::x.uE (u.go u.low (.func (.func 153) #[] #[pt z,pt z']))::([x.sE,x.cE,bI.hd ⟨C.c,g,cap,mJ C.vs u.low⟩,bI.rw ⟨C.c,g,cap,mJ C.vs u.low⟩]++[.ob z (.cells #[pt u.w] 99),.ob z' (.cells #[ah k] 3)]))
   exact bZ
theorem awq(f:sX m u S):ac8 x u S m m.fX:=by
 have j:=V.k;have e:=V.s;have hx:x.si.length<1000000:=by rw[Q.si,iV];omega
 have c:x.ch.length<1000000:=by omega
 have d:∀{k:Nat}{l:ae bt}{C:bI},m.bw[k]?=Z l->C.vs=l.reverse->C.vs.length<1000000:=λ{k l C}hl hv=>by
  have:=V.Fe.2 l (lR hl);rw[hv,Hz];omega
 cases f with
 |first h hn=>
  refine⟨0,by omega,λC l b hl hv=>?_⟩;rw[hn,abT W h];refine Fl.sub [x.sE,x.cE,C.hd,C.rw] (agN x u) (by unfold uL;exact bZ) ?_;rintro _ _ ⟨rfl,z,rfl⟩;rw[Q.ck];refine⟨_,⟨u.go m.clock (.func (.func 96) #[] #[pt z]),C,_,rfl,⟨⟨rfl,rfl,rfl⟩,rfl,La hl hv,.Hj z rfl rfl rfl⟩,rfl⟩,?_⟩;show mY _ (x.en::x.uE (u.go m.clock (.func (.func 96) #[] #[pt z]))::([x.sE,x.cE,C.hd,C.rw]++[.ob z (.cells #[pt u.w] 99)]));exact bZ
 |Hj z h hl hn=>
  refine⟨0,by omega,λC l b a hv=>?_⟩;rw[hn];exact abQ V W Q (i:=0) ai ai hl hx (λv hv=>agM x u v z hv hx) a hv
 |site z z' i h hi hl hn=>
  refine⟨0,by omega,λC l b a hv=>?_⟩;rw[hn];exact abQ V W Q (i:=i+1) ai ai hl hx (λv hv=>as5 x u v i z z' hv hx) a hv
 |GP z h hl hn=>
  refine⟨0,by omega,λC l b a hv=>?_⟩;rw[hn];exact abP W P (k:=0) ai ai hl a hv (as6 x u C z b (d a hv) c)
 |key z z' k h hk hl hn=>
  refine⟨k+1,by omega,λC l b a hv=>?_⟩;rw[hn];exact abP W P (k:=k+1) ai ai hl a hv (alH x u C k z z' b (d a hv) c)
end
def Sg.swp(σ:Sg)(k:Nat)(c:dN)(a:bI)(b:ae En):Sg:={σ with bj:=σ.bj.set k a,u:=c,ux:=b,a0:=σ.a0+1+1,b0:=σ.b0+1+1,ad:=σ.ad+1+1,bd:=σ.bd+1+1}
theorem asl{u:dN}{k:ed}(a:u.wk=.chan (Z k.w))(b:u.tl=.chan (Z k.t)):u.by k=u:=by cases u;cases a;cases b;rfl
theorem sX.Ax{m:Mo}{u:dN}{S:ae En}(k:ed)(h:sX m u S):sX m (u.by k) S:=by
 cases h with
 |first h hn=>exact .first h hn
 |Hj z h hl hn=>exact .Hj z h hl hn
 |site z z' i h hi hl hn=>exact .site z z' i h hi hl hn
 |GP z h hl hn=>exact .GP z h hl hn
 |key z z' k h hk hl hn=>exact .key z z' k h hk hl hn
structure ade(m m':Mo):Prop where
 ck:m'.clock=m.clock/\m'.cq=m.cq
 si:m'.sites=m.sites
 mks:m'.marks=m.marks
 cl:m'.cf=m.cf
 ev:m'.events=m.events
 st:m'.cU=m.cU
theorem abR(m:Mo):ade m m.fX.1:=by
 unfold Mo.fX
 repeat' split
 all_goals exact⟨⟨rfl,rfl⟩,rfl,rfl,rfl,rfl,rfl⟩
section
variable {m:Mo}{σ:Sg}(V:m.Ok)(X:lH m σ)
include V X
theorem aws(W:m.cU=false)(h:Value)(a:Gc)(b:Nat):Fl Sv 42 [pt σ.x.s].toArray (aP 4 h::gE a b::σ.all) λv L=>∃r,v=.tuple #[.bool r,.nilIface]∧∃n,r=m.fX.2.1∧lH m.fX.1 n∧n.x.s=σ.x.s∧L=aP 4 h::gE (a+1) (b+1)::n.all:=by
 have P:σ.bj.length=m.bw.length:=by have:=congrArg List.length X.vs;simpa using this
 have y:(σ.x.aL 1).ch.length=m.bw.length:=by
  show σ.x.ch.length=_;rw[X.ch,List.length_map,P]
 obtain⟨k,A,B⟩:=awq V W (X.sr 1) y (X.ux.Ax σ.k0);obtain⟨C,j⟩:∃C,σ.bj[k]?=some C:=⟨_,List.getElem?_eq_getElem ai⟩;obtain⟨l,hl⟩:∃l,m.bw[k]?=some l:=⟨_,List.getElem?_eq_getElem A⟩;have s:C.vs=l.reverse:=by
  have p:(σ.bj.map (·.vs))[k]?=some C.vs:=by rw[List.getElem?_map,j];rfl
  rw[X.vs,List.getElem?_map,hl]at p;exact(Option.some.inj p).symm
 have w:=B C l (by rw[show(σ.x.aL 1).ch=σ.x.ch from rfl,X.ch,List.getElem?_map,j];rfl) hl s;have D:=awu σ.x σ.u σ.k0 h σ.n a b σ.a0 σ.b0 σ.ad σ.bd ([σ.x.sE,σ.x.cE,C.hd,C.rw]++σ.ux)
  (λr o=>∃d c f,r=(if m.fX.2.1 then 1 else 0)∧UM (σ.u.by σ.k0) k C m m.fX.1 d c f∧o=σ.x.uE d::([σ.x.sE,σ.x.cE,c.hd,c.rw]++f)) X.sw (λz=>by
    refine Fl.post (awM (X.ux.Ax σ.k0) z (σ.x.aL 1) X.sw w) ?_;rintro v _ ⟨L1,⟨d,c,f,rfl,hF,rfl⟩,rfl⟩;exact⟨_,⟨_,_,⟨rfl,d,c,f,rfl,hF,rfl⟩,rfl⟩,.refl _⟩)
 refine Fl.sub ([σ.x.eE,σ.x.lE,σ.x.mE σ.ms σ.km]++((σ.bj.eraseIdx k).flatMap bI.es++σ.cls.flatMap (PC.es σ.x))) D ?_ ?_
 ·refine((σ.Zy j).cons _|>.cons _).trans ?_
  unfold Sg.top bI.es;rw[show σ.st=false from X.st.trans W];exact bZ
 ·rintro v _ ⟨r,o,rfl,⟨d,c,f,rfl,hF,rfl⟩,rfl⟩
  have e:=abR m;have E:=m.fX.1.bw.length;have q:m.fX.1.bw.length=m.bw.length:=by rw[hF.ch,List.length_set]
  refine⟨_,⟨_,rfl,σ.swp k d c f,?_,⟨X.ck.trans e.ck.1.symm,X.li.trans e.ck.2.symm,by rw[e.si];exact X.si,?_,?_,by rw[e.mks];exact X.mm,X.mo,by rw[e.ev];exact X.ev,X.cl,by rw[e.cl];exact X.cn,by rw[e.cl];exact X.cr,?_,hF.ux,by rw[e.cl];exact X.n,by rw[e.st];exact X.st⟩,rfl,rfl⟩,?_⟩
  ·cases m.fX.2.1<;>rfl
  ·show σ.x.ch=(σ.bj.set k c).map (·.c)
   rw[List.map_set,hF.cc,X.ch];exact(CY (by rw[List.getElem?_map,j];rfl)).symm
  ·show(σ.bj.set k c).map (·.vs)=m.fX.1.bw.map List.reverse
   rw[hF.ch,List.map_set,List.map_set,X.vs,List.reverse_reverse]
  ·show σ.x.sw=d.w
   rw[hF.uk.1];exact X.sw
  ·have G:=(σ.swp k d c f).Zy (k:=k) (C:=c) (by show(σ.bj.set k c)[k]?=_;rw[List.getElem?_set_self ai])
   refine List.Perm.trans ?_ ((G.symm.cons _).cons _);have t:d.by σ.k0=d:=asl hF.uk.2.1 hF.uk.2.2;show List.Perm _ (aP 4 h::gE (a+1) (b+1)::([(σ.x.aL 0).en,σ.x.uE (d.by σ.k0),σ.k0.wE (σ.a0+1+1) (σ.b0+1+1),dE σ.k0.d σ.x.s σ.n σ.st (σ.ad+1+1) (σ.bd+1+1),σ.x.eE,σ.x.sE,σ.x.cE,σ.x.lE,σ.x.mE σ.ms σ.km]++([c.hd,c.rw]++(f++(((σ.bj.set k c).eraseIdx k).flatMap bI.es++σ.cls.flatMap (PC.es σ.x))))));rw[t,List.eraseIdx_set_eq,show σ.st=false from X.st.trans W];exact bZ
end
theorem aok(p:Stp):M4 p=qT p:=by
 unfold M4 qT;rw[Bool.eq_iff_iff];simp
theorem arv(K:Nat)(o:Bool)(p:Stp):oq K o p=lQ K o p:=by
 rw[Bool.eq_iff_iff];unfold oq qa lQ;have d:((p.val.size:Nat):Int)<=16↔p.val.size<=16:=by omega
 by_cases b:p.kind=2\/p.kind=3\/p.kind=4
 ·have a:¬p.kind<1/\¬p.kind>6:=by omega
  simp only[b,if_true,Se,a.1,a.2];simp;intro _;rw[d];simp only[and_assoc]
 ·by_cases c:p.kind=1\/p.kind=5\/p.kind=6
  ·have a:¬p.kind<1/\¬p.kind>6/\p.kind≠3:=by omega
   have e:(0<=p.key/\p.key<1)↔p.key=0:=by omega
   simp only[b,c,if_true,if_false,Se,a.1,a.2.1];simp[a.2.2];intro _;rw[d,<-e];simp only[and_assoc]
  ·have a:p.kind<1\/p.kind>6:=by omega
   simp only[b,c,if_false];rcases a with h|h<;>simp[h]
theorem aah(K:Nat):∀(o:Bool)(l:ae Stp),su K o l=pB K o l
 |_,[]=>rfl
 |o,p::l=>by
  simp only[su,pB,arv,aok,aah K _ l]
def Sg.ayV(σ:Sg):Sg:={σ with a0:=σ.a0+1,b0:=σ.b0+1,ad:=σ.ad+1,bd:=σ.bd+1}
theorem lH.ayV{m:Mo}{σ:Sg}(h:lH m σ):lH m σ.ayV:=⟨h.ck,h.li,h.si,h.ch,h.vs,h.mm,h.mo,h.ev,h.cl,h.cn,h.cr,h.sw,h.ux,h.n,h.st⟩
def Sg.iQ(σ:Sg):ae En:=σ.ux++(σ.bj.flatMap bI.es++σ.cls.flatMap (PC.es σ.x))
section
variable {S:Hp}{W:ae Nat}{A:Nat->aR}(V:xh S W A){m:Mo}{σ:Sg}(T:m.Ok)(X:lH m σ)
include V T X
theorem apq(n:Int)(a:Gc)(b:Nat):Fl Sv 24 [pt σ.x.s,goInt n].toArray (c7 S W A++(gE a b::σ.all)) λv L=>∃d l p,v=.tuple #[goInt (m.pick n).2.1,goInt (m.pick n).2.2]∧lH (m.pick n).1 d∧d.x.s=σ.x.s∧l.v=a.v∧L=c7 S W A++(gE l p::d.all):=by
 cases aF:m.cU with
 |true=>
  have f:m.pick n=(m,0,5):=by simp[Mo.pick,aF]
  rw[f];have g:=api σ.x σ.u σ.k0 n 272 (.pointer (some (A 4))) σ.n σ.a0 σ.b0 σ.ad σ.bd X.sw;refine Fl.post (ZL V (j:=4) aX (L1:=gE a b::σ.ayV.all) (Fl.sub ([.ro S W,aP 0 (aY (A 0)),aP 1 (aY (A 1)),aP 2 (aY (A 2)),aP 3 (aY (A 3)),.ob 5 (.cells #[ib 78] 202),gE a b,σ.x.eE,σ.x.sE,σ.x.cE,σ.x.lE,σ.x.mE σ.ms σ.km]++σ.iQ) g ?_ ?_)) ?_
  ·unfold c7 Sg.all Sg.top Sg.iQ
   rw[show σ.st=true from X.st.trans aF];exact bZ
  ·rintro v _ ⟨q,rfl,rfl⟩
   refine⟨_,⟨q,rfl,rfl⟩,?_⟩;unfold c7 Sg.all Sg.top Sg.iQ;show List.Perm _ ((([.ro S W,aP 0 (aY (A 0)),aP 1 (aY (A 1)),aP 2 (aY (A 2)),aP 3 (aY (A 3)),aP 4 (aY (A 4)),.ob 5 (.cells #[ib 78] 202)]++[iI q ⟨#[80,105,99,107]⟩ n (aY (A 4))])++(gE a b::([(σ.x.aL 0).en,σ.x.uE (σ.u.by σ.k0),σ.k0.wE (σ.a0+1) (σ.b0+1),dE σ.k0.d σ.x.s σ.n σ.st (σ.ad+1) (σ.bd+1),σ.x.eE,σ.x.sE,σ.x.cE,σ.x.lE,σ.x.mE σ.ms σ.km]++(σ.ux++(σ.bj.flatMap bI.es++σ.cls.flatMap (PC.es σ.x)))))));rw[show σ.st=true from X.st.trans aF];exact bZ
  ·rintro v L ⟨rfl,rfl⟩
   exact⟨_,⟨σ.ayV,a,b,rfl,X.ayV,rfl,rfl,rfl⟩,.refl _⟩
 |false=>
  by_cases e:n<0∨(m.cf.length:Int)≤n
  ·have f:m.pick n=(m,0,4):=by
    unfold Mo.pick;rw[aF];rcases e with e|e
    ·simp[e]
    ·have:m.cf[n.toNat]?=none:=List.getElem?_eq_none ai
     simp[this]
   rw[f];have g:=ape σ.x σ.u σ.k0 n 272 (aY (A 4)) (.pointer (some (A 3))) σ.n σ.a0 σ.b0 σ.ad σ.bd X.sw (by rw[X.cl,List.length_map,X.cn];exact e);refine Fl.post (ZL V (j:=3) aX (L1:=gE a b::σ.ayV.all) (Fl.sub ([.ro S W,aP 0 (aY (A 0)),aP 1 (aY (A 1)),aP 2 (aY (A 2)),.ob 5 (.cells #[ib 78] 202),gE a b,σ.x.eE,σ.x.sE,σ.x.cE,σ.x.lE,σ.x.mE σ.ms σ.km]++σ.iQ) g ?_ ?_)) ?_
   ·unfold c7 Sg.all Sg.top Sg.iQ
    rw[show σ.st=false from X.st.trans aF];exact bZ
   ·rintro v _ ⟨q,rfl,rfl⟩
    refine⟨_,⟨q,rfl,rfl⟩,?_⟩;unfold c7 Sg.all Sg.top Sg.iQ;show List.Perm _ ((([.ro S W,aP 0 (aY (A 0)),aP 1 (aY (A 1)),aP 2 (aY (A 2)),aP 3 (aY (A 3)),aP 4 (aY (A 4)),.ob 5 (.cells #[ib 78] 202)]++[iI q ⟨#[80,105,99,107]⟩ n (aY (A 3))])++(gE a b::([(σ.x.aL 0).en,σ.x.uE (σ.u.by σ.k0),σ.k0.wE (σ.a0+1) (σ.b0+1),dE σ.k0.d σ.x.s σ.n σ.st (σ.ad+1) (σ.bd+1),σ.x.eE,σ.x.sE,σ.x.cE,σ.x.lE,σ.x.mE σ.ms σ.km]++(σ.ux++(σ.bj.flatMap bI.es++σ.cls.flatMap (PC.es σ.x)))))));rw[show σ.st=false from X.st.trans aF];exact bZ
   ·rintro v L ⟨rfl,rfl⟩
    exact⟨_,⟨σ.ayV,a,b,rfl,X.ayV,rfl,rfl,rfl⟩,.refl _⟩
  ·obtain⟨i,rfl⟩:∃i:Nat,n=i:=⟨n.toNat,by omega⟩
   obtain⟨c,o⟩:∃c,m.cf[i]?=some c:=⟨_,List.getElem?_eq_getElem ai⟩;have f:m.pick i=(m.with (m.eo c).1 i (m.eo c).2.1,(m.eo c).2.2,0):=by
    unfold Mo.pick;rw[aF];have:¬(i:Int)<0:=by omega
    simp[this,o,Mo.with]
   rw[f];refine Fl.post (apu (R:=λr L=>∃d,r=(m.eo c).2.2∧lH (m.with (m.eo c).1 i (m.eo c).2.1) d∧d.x.s=σ.x.s∧L=c7 S W A++(gE (a+1) (b+1)::d.all)) (Fl.sub [.ro S W,aP 0 (aY (A 0)),aP 1 (aY (A 1)),aP 2 (aY (A 2)),aP 3 (aY (A 3)),.ob 5 (.cells #[ib 78] 202)] (apf T X aF o (aY (A 4)) a b) ?_ ?_)) ?_
   ·unfold c7
    exact bZ
   ·rintro v _ ⟨r,rfl,d,rfl,h,k,rfl⟩
    refine⟨_,⟨_,rfl,d,rfl,h,k,rfl⟩,?_⟩;unfold c7;exact bZ
   ·rintro v _ ⟨r,rfl,d,rfl,h,k,rfl⟩
    exact⟨_,⟨d,a+1,b+1,rfl,h,k,rfl,rfl⟩,.refl _⟩
theorem apr(a:Gc)(b:Nat):Fl Sv 25 [pt σ.x.s].toArray (c7 S W A++(gE a b::σ.all)) λv L=>∃c f g,v=.tuple #[.bool m.fX.2.1,goInt m.fX.2.2]∧lH m.fX.1 c∧c.x.s=σ.x.s∧f.v=a.v∧L=c7 S W A++(gE f g::c.all):=by
 cases aF:m.cU with
 |true=>
  have i:m.fX=(m,false,5):=by simp[Mo.fX,aF]
  rw[i];have h:=awv σ.x σ.u σ.k0 272 (.pointer (some (A 4))) σ.n σ.a0 σ.b0 σ.ad σ.bd X.sw;refine Fl.post (apx V (j:=4) aX (L1:=gE a b::σ.ayV.all) (Fl.sub ([.ro S W,aP 0 (aY (A 0)),aP 1 (aY (A 1)),aP 2 (aY (A 2)),aP 3 (aY (A 3)),.ob 5 (.cells #[ib 78] 202),gE a b,σ.x.eE,σ.x.sE,σ.x.cE,σ.x.lE,σ.x.mE σ.ms σ.km]++σ.iQ) h ?_ ?_)) ?_
  ·unfold c7 Sg.all Sg.top Sg.iQ
   rw[show σ.st=true from X.st.trans aF];exact bZ
  ·rintro v _ ⟨q,rfl,rfl⟩
   refine⟨_,⟨q,rfl,rfl⟩,?_⟩;unfold c7 Sg.all Sg.top Sg.iQ;show List.Perm _ ((([.ro S W,aP 0 (aY (A 0)),aP 1 (aY (A 1)),aP 2 (aY (A 2)),aP 3 (aY (A 3)),aP 4 (aY (A 4)),.ob 5 (.cells #[ib 78] 202)]++[iI q ⟨#[83,119,101,101,112]⟩ 0 (aY (A 4))])++(gE a b::([(σ.x.aL 0).en,σ.x.uE (σ.u.by σ.k0),σ.k0.wE (σ.a0+1) (σ.b0+1),dE σ.k0.d σ.x.s σ.n σ.st (σ.ad+1) (σ.bd+1),σ.x.eE,σ.x.sE,σ.x.cE,σ.x.lE,σ.x.mE σ.ms σ.km]++(σ.ux++(σ.bj.flatMap bI.es++σ.cls.flatMap (PC.es σ.x)))))));rw[show σ.st=true from X.st.trans aF];exact bZ
  ·rintro v L ⟨rfl,rfl⟩
   exact⟨_,⟨σ.ayV,a,b,rfl,X.ayV,rfl,rfl,rfl⟩,.refl _⟩
 |false=>
  have d:m.fX.2.2=0:=by
   unfold Mo.fX;rw[aF]
   repeat' split
   all_goals first|rfl|contradiction
  rw[d];refine Fl.post (apy (R:=λr L=>∃c,r=m.fX.2.1∧lH m.fX.1 c∧c.x.s=σ.x.s∧L=c7 S W A++(gE (a+1) (b+1)::c.all)) (Fl.sub [.ro S W,aP 0 (aY (A 0)),aP 1 (aY (A 1)),aP 2 (aY (A 2)),aP 3 (aY (A 3)),.ob 5 (.cells #[ib 78] 202)] (aws T X aF (aY (A 4)) a b) ?_ ?_)) ?_
  ·unfold c7
   exact bZ
  ·rintro v _ ⟨r,rfl,c,rfl,e,d,rfl⟩
   refine⟨_,⟨_,rfl,c,rfl,e,d,rfl⟩,?_⟩;unfold c7;exact bZ
  ·rintro v _ ⟨r,rfl,c,rfl,e,d,rfl⟩
   exact⟨_,⟨c,a+1,b+1,rfl,e,d,rfl,rfl⟩,.refl _⟩
end
def HR(N:ae En):Prop:=∀e∈N,∃t s,e=.row t s I 0 0 []
theorem Kn.JF{H:Hp}{L:ae En}:∀{N:ae En},HR N->Kn L H->Kn (N++L) H
 |[],_,h=>h
 |e::N,a,h=>by
  have b:=Kn.JF (N:=N) (λe d=>a e (eK _ d)) h;obtain⟨t,s,rfl⟩:=a e (fu ..);refine⟨λx hx=>?_,nQ.2 ⟨λx hx y f=>(by cases f),b.nd⟩⟩;rcases bQ.1 hx with rfl|hx
  ·exact⟨by simp,.inl ⟨rfl,rfl⟩⟩
  ·exact b.sat x hx
theorem Fl.JF{P:aA}{f:bA}{a:af ag}{L:ae En}{R g:ag->ae En->Prop}(h:Fl P f a L R)(hi:∀v d,R v d->∃N b,HR N/\g v b/\(N++d).Perm b):Fl P f a L g:=λj H l w e=>
 Fn.mono (h j H l w e) λv z⟨n,o,d,q3,r⟩=>by
  obtain⟨N,b,t,u,y⟩:=hi v d q3;exact⟨n,o,b,u,((Kn.JF t r).perm (by rw[<-gw])).perm (y.append_right _)⟩
theorem Um{P:aA}{f:bA}{a:af ag}{L:ae En}{R j:ag->ae En->Prop}(h:Fl P f a L R)(hi:∀v d,R v d->∃G b,j v b/\d.Perm (G++b)):Fl P f a L j:=λl H n w e=>
 Fn.mono (h l H n w e) λv B⟨r,t,d,q3,u⟩=>by
  obtain⟨G,b,y,z⟩:=hi v d q3;have g:=u.perm (z.append_right _);rw[gw]at g;exact⟨r,t,b,y,λe o=>g.sat e (HA _ o),(Di.1 g.nd).2.1⟩
theorem HR.cons{t s:Nat}{N:ae En}(h:HR N):HR (.row t s I 0 0 []::N):=λe a=>(bQ.1 a).elim (λh=>⟨t,s,h⟩) (h e)
def F3(c:Nat):bI:=⟨c,I,0,[]⟩
theorem Vj:∀a:ae Nat,aB.of ((a.map F3).flatMap bI.es)=(aB.of (a.map nF)).add (aB.of (a.map λ_=>(.row 216 3 I 0 0 []:En)))
 |[]=>rfl
 |c::a=>by
  have b:=Vj a;show aB.of ([nF c,.row 216 3 I 0 0 []]++(a.map F3).flatMap bI.es)=(aB.of (nF c::a.map nF)).add (aB.of (.row 216 3 I 0 0 []::a.map λ_=>(.row 216 3 I 0 0 []:En)));simp only[eO,fT,fY,b]
  ac_rfl
section
variable {S:Hp}{W:ae Nat}{A:Nat->aR}
theorem apn(g l w:Int)(a:Gc)(b c d:Nat):Fl Sv 21 [goInt g,goInt l,goInt w].toArray (c7 S W A++[gE a b,hE (.chan none) c d]) λv L=>match Mo.new g l w with
  |none=>v=.tuple #[.pointer none,goInt 1]∧L=c7 S W A++[gE a b,hE (.chan none) c d]
  |some m=>∃σ E H J K,v=.tuple #[pt σ.x.s,goInt 0]∧lH m σ∧E.v=.iface 3 a.v∧L=c7 S W A++(gE E H::hE (.chan none) J K::σ.all):=by
 unfold Mo.new;by_cases h:g<1∨g>8∨l<1∨l>20∨w<0∨w>1000000
 ·rw[if_pos h]
  refine Fl.sub ([.ro S W,aP 1 (aY (A 1)),aP 2 (aY (A 2)),aP 3 (aY (A 3)),aP 4 (aY (A 4)),.ob 5 (.cells #[ib 78] 202),gE a b,hE (.chan none) c d]) (aps (a:=g) (b:=l) (c:=w) (A 0) h) (by unfold c7;exact bZ) ?_;rintro v _ ⟨rfl,rfl⟩;exact⟨_,⟨rfl,rfl⟩,by unfold c7;exact bZ⟩
 ·rw[if_neg h]
  obtain⟨B,rfl⟩:∃n:Nat,g=n:=⟨g.toNat,by omega⟩;obtain⟨C,rfl⟩:∃n:Nat,l=n:=⟨l.toNat,by omega⟩;have M:=Sb B C w a b c d ai;simp only[Int.toNat_natCast];have N:=apt (R:=λs L=>∃z o r f y u k,f.length=C∧L=[gE (Gc.up a+2) (b+2),hE (.chan none) (c+2) (d+2),(x0 s z B o r f y w u).sE,(x0 s z B o r f y w u).mE [] 0,dE k.d s 1 false 2 1,(x0 s z B o r f y w u).en,(x0 s z B o r f y w u).cE,k.wE 1 0,(x0 s z B o r f y w u).uE ((u0 u).by k)]++f.reverse.map nF) (M.post λv L⟨s,z,o,r,f,y,u,k,h1,h2,D⟩=>⟨L,⟨s,h1,z,o,r,f,y,u,k,h2,D⟩,.refl _⟩);have G:=Fl.sub (R':=λv L=>∃s z o r f y u k,v=.tuple #[pt s,goInt 0]∧f.length=C∧L=c7 S W A++([gE (Gc.up a+2) (b+2),hE (.chan none) (c+2) (d+2),(x0 s z B o r f y w u).sE,(x0 s z B o r f y w u).mE [] 0,dE k.d s 1 false 2 1,(x0 s z B o r f y w u).en,(x0 s z B o r f y w u).cE,k.wE 1 0,(x0 s z B o r f y w u).uE ((u0 u).by k)]++f.map nF)) (c7 S W A) N (L:=c7 S W A++[gE a b,hE (.chan none) c d]) List.perm_append_comm (λv L⟨s,h1,z,o,r,f,y,u,k,h2,D⟩=>by
   subst D;exact⟨_,⟨s,z,o,r,f,y,u,k,h1,h2,rfl⟩,List.perm_append_comm.trans (((List.reverse_perm f).map nF).append_left _|>.append_left _)⟩)
  refine Fl.JF G ?_;rintro v _ ⟨s,z,o,r,f,y,u,k,rfl,hk,rfl⟩;refine⟨.row 34 5 none 0 0 []::.row 149 1 none 0 0 []::f.map λ_=>(.row 216 3 none 0 0 []:En),_,.cons (.cons λe O=>?_),⟨⟨x0 s z B o r f y w u,[],0,f.map F3,[],u0 u,k,1,0,[],1,2,1,false⟩,Gc.up a+2,b+2,c+2,d+2,rfl,⟨rfl,rfl,?_,?_,?_,λj t P=>?_,⟨by simp,by simp,λx hx=>by simp at hx⟩,rfl,rfl,rfl,λi c p h=>by simp[Mo.init]at h,rfl,.first rfl rfl,rfl,rfl⟩,rfl,rfl⟩,?_⟩
  ·obtain⟨x,_,rfl⟩:=List.mem_map.1 O
   exact⟨216,3,rfl⟩
  ·show List.replicate B _=(List.replicate B (-1)).map oR
   rw[List.map_replicate];rfl
  ·show f=(f.map F3).map (·.c)
   rw[List.map_map];exact(List.map_id f).symm
  ·show(f.map F3).map (·.vs)=(List.replicate C []).map List.reverse
   rw[List.map_map,List.map_replicate,←hk];exact List.map_const' ..
  ·have h1:(List.replicate C cF.no)[j]?=some t:=P
   rw[List.getElem?_replicate]at h1;split at h1
   ·cases h1;rfl
   ·cases h1
  ·unfold Sg.all Sg.top
   show List.Perm _ (c7 S W A++(gE (Gc.up a+2) (b+2)::hE (.chan none) (c+2) (d+2)::([(x0 s z B o r f y w u).en,(x0 s z B o r f y w u).uE ((u0 u).by k),k.wE 1 0,dE k.d s 1 false 2 1,.row 34 5 none 0 0 [],(x0 s z B o r f y w u).sE,(x0 s z B o r f y w u).cE,.row 149 1 none 0 0 [],(x0 s z B o r f y w u).mE [] 0]++([]++((f.map F3).flatMap bI.es++[])))))
   (apply aB.exact;simp only[eO,fT,fY,jC,Vj];try ac_rfl)
end
section
variable {m:Mo}{σ:Sg}(V:m.Ok)(X:lH m σ)
include V X
theorem ZK(a:Gc)(b:Nat)(n:m.cU=Y->∃w,a.v=.iface 3 w):Fl Sv 30 [pt σ.x.s].toArray (gE a b::σ.all) λv L=>∃f d l,v=.tuple #[]/\lH {m with cU:=U} f/\f.x.s=σ.x.s/\(if m.cU then d.v=a.v else a.v=.iface 3 d.v)/\L=gE d l::f.all:=by
 cases aF:m.cU with
 |true=>
  have e:{m with cU:=U}=m:=by cases m;cases aF;rfl
  rw[e];refine Fl.sub ([σ.x.eE,σ.x.sE,σ.x.cE,σ.x.lE,σ.x.mE σ.ms σ.km]++σ.iQ) (awg σ.x σ.u σ.k0 σ.n a b σ.a0 σ.b0 σ.ad σ.bd X.sw) ?_ ?_
  ·unfold Sg.all Sg.top Sg.iQ
   rw[show σ.st=U from X.st.trans aF];exact bZ
  ·rintro v _ ⟨rfl,rfl⟩
   refine⟨_,⟨σ.ayV,a+1,b+1,F,X.ayV,F,by rw[if_pos F];rfl,F⟩,?_⟩;unfold Sg.all Sg.top Sg.iQ;show mY _ (gE (a+1) (b+1)::([(σ.x.aL 0).en,σ.x.uE (σ.u.by σ.k0),σ.k0.wE (σ.a0+1) (σ.b0+1),dE σ.k0.d σ.x.s σ.n σ.st (σ.ad+1) (σ.bd+1),σ.x.eE,σ.x.sE,σ.x.cE,σ.x.lE,σ.x.mE σ.ms σ.km]++(σ.ux++(σ.bj.flatMap bI.es++σ.cls.flatMap (PC.es σ.x)))));rw[show σ.st=U from X.st.trans aF];exact bZ
 |false=>
  obtain⟨w,g⟩:=n aF;have j:gE a b=gE (Gc.up ⟨w,a.n⟩) b:=by unfold gE Gc.up;rw[g]
  rw[j];refine Fl.sub ([σ.x.eE,σ.x.sE,σ.x.cE,σ.x.lE,σ.x.mE σ.ms σ.km]++σ.iQ) (awk σ.x σ.u σ.k0 σ.n ⟨w,a.n⟩ b σ.a0 σ.b0 σ.ad σ.bd X.sw) ?_ ?_
  ·unfold Sg.all Sg.top Sg.iQ
   rw[show σ.st=Y from X.st.trans aF];exact bZ
  ·rintro v _ ⟨rfl,rfl⟩
   refine⟨_,⟨{σ.ayV with st:=U},(⟨w,a.n⟩:Gc)+2,b+2,F,⟨X.ck,X.li,X.si,X.ch,X.vs,X.mm,X.mo,X.ev,X.cl,X.cn,X.cr,X.sw,X.ux.keep F F F F,X.n,F⟩,F,by rw[if_neg aX];exact g,F⟩,?_⟩;unfold Sg.all Sg.top Sg.iQ;show mY _ (gE ((⟨w,a.n⟩:Gc)+2) (b+2)::([(σ.x.aL 0).en,σ.x.uE (σ.u.by σ.k0),σ.k0.wE (σ.a0+1) (σ.b0+1),dE σ.k0.d σ.x.s σ.n U (σ.ad+1) (σ.bd+1),σ.x.eE,σ.x.sE,σ.x.cE,σ.x.lE,σ.x.mE σ.ms σ.km]++(σ.ux++(σ.bj.flatMap bI.es++σ.cls.flatMap (PC.es σ.x)))));exact bZ
end
def Sg.more(σ:Sg)(q:Nat)(gl:aj Nat)(cl:Nat)(pr:ae Stp)(pg:aj Nat)(pc wb:Nat)(k:ed):Sg:={σ with x:=σ.x.more q gl cl,cls:=σ.cls++[⟨kP σ.x pr q pg pc wb,k,1,0,[],0,[]⟩],a0:=σ.a0+2,b0:=σ.b0+2,n:=σ.n+1,ad:=σ.ad+2,bd:=σ.bd+2}
section
variable {S:Hp}{W:ae Nat}{A:Nat->aR}(T:xh S W A){m:Mo}{σ:Sg}(V:m.Ok)(X:lH m σ)
include V X
omit V in
theorem lH.more(q:Nat)(gl:aj Nat)(cl:Nat)(pr:ae Stp)(pg:aj Nat)(pc wb:Nat)(k:ed)(hk:k.d=σ.k0.d):lH {m with cf:=m.cf++[.new m.cf.length pr]} (σ.more q gl cl pr pg pc wb k):=by
 have dI:σ.x.cl.length=m.cf.length:=by rw[X.cl,iV,X.cn]
 refine⟨X.ck,X.li,X.si,X.ch,X.vs,X.mm,X.mo,X.ev,?_,?_,λi c p h1 h2=>?_,X.sw,X.ux.keep rfl rfl rfl rfl,?_,X.st⟩
 ·show σ.x.cl++[q]=(σ.cls++[_]).map (λc:PC=>c.y.c)
  rw[List.map_append,X.cl];rfl
 ·show(σ.cls++[_]).length=(m.cf++[_]).length
  rw[mL,mL,X.cn];rfl
 ·have jD:(m.cf++[Cm.new m.cf.length pr])[i]?=Z c:=h1
  have zn:(σ.cls++[(⟨kP σ.x pr q pg pc wb,k,1,0,[],0,[]⟩:PC)])[i]?=Z p:=h2;by_cases hi:i<m.cf.length
  ·rw[Df hi]at jD
   rw[Df (by rw[X.cn];exact hi)]at zn;exact X.cr i c p jD zn
  ·have aE:=(dv.1 jD).1
   rw[mL,List.length_singleton]at aE;have fW:i=m.cf.length:=by omega
   subst fW;rw[Ab (df _),Nat.sub_self]at jD;rw[Ab (by rw[X.cn];exact df _),X.cn,Nat.sub_self]at zn;cases jD;cases zn;refine⟨⟨?_,rfl,rfl,rfl,(λs h=>by cases h),λh=>?_,qu.nil,⟨by simp,by simp,λx hx=>by simp at hx⟩,.read rfl (λ_ _ _=>rfl) rfl rfl rfl⟩,hk⟩
   ·show((σ.x.cl.length:Nat):Int)=((m.cf.length:Nat):Int)
    rw[dI]
   ·simp[Cm.new]at h
 ·show σ.n+1=((m.cf++[_]).length:Int)+1
  rw[mL,X.n];simp
include T
theorem apm(pr:List Stp)(f:Option Nat)(l:Nat)(w:pr.length≤4398046511104)(a:Gc)(b c d:Nat):Fl Sv 23 [pt σ.x.s,sv f pr.length l].toArray (eB f l pr::(c7 S W A++(gE a b::hE (.chan none) c d::σ.all))) λv L=>∃r t z B C,v=.tuple #[goInt (m.c8 pr).2.1,goInt (m.c8 pr).2.2]∧lH (m.c8 pr).1 r∧r.x.s=σ.x.s∧t.v=a.v∧L=eB f l pr::(c7 S W A++(gE t z::hE (.chan none) B C::r.all)):=by
 have H:σ.x.cl.length=m.cf.length:=by rw[X.cl,List.length_map,X.cn]
 have M:σ.x.ch.length=m.bw.length:=by
  have:=congrArg List.length X.vs;simp only[List.length_map]at this;rw[X.ch,List.length_map,this]
 have y:(su σ.x.ch.length false pr&&decide ((pr.length:Int)≤200))=m.right pr:=by
  rw[M,aah];unfold Mo.right;congr 1;simp;omega
 have o:∀(j:Nat)(K:j<5)(dI:m.c8 pr=(m,0,((j+1:Nat):Int)))(J:∀g e,(pr=[]∨(0<pr.length∧∃N,g=some N))→Fl Sv 39 [pt σ.x.s,sv g pr.length e].toArray (eB g e pr::(c7 S W A++(gE a b::hE (.chan none) c d::σ.all))) λv L=>∃q,v=.tuple #[goInt 0,.iface 154 (pt q)]∧L=eB g e pr::((c7 S W A++[iI q sf 0 (aY (A j))])++(gE a b::hE (.chan none) c d::σ.ayV.all))),Fl Sv 23 [pt σ.x.s,sv f pr.length l].toArray (eB f l pr::(c7 S W A++(gE a b::hE (.chan none) c d::σ.all))) λv L=>∃r t z B C,v=.tuple #[goInt (m.c8 pr).2.1,goInt (m.c8 pr).2.2]∧lH (m.c8 pr).1 r∧r.x.s=σ.x.s∧t.v=a.v∧L=eB f l pr::(c7 S W A++(gE t z::hE (.chan none) B C::r.all)):=λj K dI J=>by
  rw[dI];refine Fl.post (ZE (g0:=f) (kJ:=l) (Q:=λid u n=>∃q,id=0∧u=.iface 154 (pt q)∧n=(c7 S W A++[iI q sf 0 (aY (A j))])++(gE a b::hE (.chan none) c d::σ.ayV.all)) (R:=λid k L=>id=0∧k=((j+1:Nat):Int)∧L=c7 S W A++(gE a b::hE (.chan none) c d::σ.ayV.all)) w (λg e G=>(J g e G).post ?_) ?_) ?_
  ·rintro v _ ⟨q,rfl,rfl⟩
   exact⟨_,⟨0,_,_,rfl,⟨q,rfl,rfl,rfl⟩,rfl⟩,.refl _⟩
  ·rintro id u n ⟨q,rfl,rfl,rfl⟩
   refine Um (Fl.frame (gE a b::hE (.chan none) c d::σ.ayV.all) (Sk S W A T q j K sf 0)|>.perm List.perm_append_comm) ?_;rintro v _ ⟨_,⟨rfl,rfl⟩,rfl⟩;refine⟨[iI q sf 0 (aY (A j))],_,⟨_,rfl,rfl,rfl,rfl⟩,?_⟩;exact bZ
  ·rintro v _ ⟨id,k,n,rfl,⟨rfl,rfl,rfl⟩,rfl⟩
   exact⟨_,⟨σ.ayV,a,b,c,d,rfl,X.ayV,rfl,rfl,rfl⟩,.refl _⟩
 cases aF:m.cU with
 |true=>
  refine o 4 aX (by simp[Mo.c8,aF]) λg e _=>?_;refine Fl.sub ([.ro S W,aP 0 (aY (A 0)),aP 1 (aY (A 1)),aP 2 (aY (A 2)),aP 3 (aY (A 3)),.ob 5 (.cells #[ib 78] 202),eB g e pr,gE a b,hE (.chan none) c d,σ.x.eE,σ.x.sE,σ.x.cE,σ.x.lE,σ.x.mE σ.ms σ.km]++σ.iQ) (aeS σ.x σ.u σ.k0 g pr.length e 272 (.pointer (some (A 4))) σ.n σ.a0 σ.b0 σ.ad σ.bd X.sw) ?_ ?_
  ·unfold c7 Sg.all Sg.top Sg.iQ
   rw[show σ.st=true from X.st.trans aF];exact bZ
  ·rintro v _ ⟨q,rfl,rfl⟩
   refine⟨_,⟨q,rfl,rfl⟩,?_⟩;unfold c7 Sg.all Sg.top Sg.iQ;show List.Perm _ (eB g e pr::(([.ro S W,aP 0 (aY (A 0)),aP 1 (aY (A 1)),aP 2 (aY (A 2)),aP 3 (aY (A 3)),aP 4 (aY (A 4)),.ob 5 (.cells #[ib 78] 202)]++[iI q sf 0 (aY (A 4))])++(gE a b::hE (.chan none) c d::([(σ.x.aL 0).en,σ.x.uE (σ.u.by σ.k0),σ.k0.wE (σ.a0+1) (σ.b0+1),dE σ.k0.d σ.x.s σ.n σ.st (σ.ad+1) (σ.bd+1),σ.x.eE,σ.x.sE,σ.x.cE,σ.x.lE,σ.x.mE σ.ms σ.km]++(σ.ux++(σ.bj.flatMap bI.es++σ.cls.flatMap (PC.es σ.x)))))));rw[show σ.st=true from X.st.trans aF];exact bZ
 |false=>
  cases hr:m.right pr with
  |false=>
   refine o 1 aX (by simp[Mo.c8,aF,hr]) λg e _=>?_;refine Fl.sub ([.ro S W,aP 0 (aY (A 0)),aP 3 (aY (A 3)),.ob 5 (.cells #[ib 78] 202),σ.x.eE,σ.x.sE,σ.x.cE,σ.x.mE σ.ms σ.km]++σ.iQ) (aeO σ.x σ.u σ.k0 g e pr (aY (A 2)) (aY (A 4)) σ.n a b c d σ.a0 σ.b0 σ.ad σ.bd 272 (.pointer (some (A 1))) w (y.trans hr) X.sw) ?_ ?_
   ·unfold c7 Sg.all Sg.top Sg.iQ DG
    rw[show σ.st=false from X.st.trans aF];exact bZ
   ·rintro v _ ⟨q,rfl,rfl⟩
    refine⟨_,⟨q,rfl,rfl⟩,?_⟩;unfold c7 Sg.all Sg.top Sg.iQ;show List.Perm _ (eB g e pr::(([.ro S W,aP 0 (aY (A 0)),aP 1 (aY (A 1)),aP 2 (aY (A 2)),aP 3 (aY (A 3)),aP 4 (aY (A 4)),.ob 5 (.cells #[ib 78] 202)]++[iI q sf 0 (aY (A 1))])++(gE a b::hE (.chan none) c d::([(σ.x.aL 0).en,σ.x.uE (σ.u.by σ.k0),σ.k0.wE (σ.a0+1) (σ.b0+1),dE σ.k0.d σ.x.s σ.n σ.st (σ.ad+1) (σ.bd+1),σ.x.eE,σ.x.sE,σ.x.cE,σ.x.lE,σ.x.mE σ.ms σ.km]++(σ.ux++(σ.bj.flatMap bI.es++σ.cls.flatMap (PC.es σ.x)))))));rw[show σ.st=false from X.st.trans aF];exact bZ
  |true=>
   by_cases D:m.cf.length=8
   ·refine o 2 aX (by simp[Mo.c8,aF,hr,D]) λg e _=>?_
    refine Fl.sub ([.ro S W,aP 0 (aY (A 0)),aP 3 (aY (A 3)),.ob 5 (.cells #[ib 78] 202),σ.x.eE,σ.x.sE,σ.x.cE,σ.x.mE σ.ms σ.km]++σ.iQ) (aeQ σ.x σ.u σ.k0 g e pr (aY (A 1)) (aY (A 4)) σ.n a b c d σ.a0 σ.b0 σ.ad σ.bd 272 (.pointer (some (A 2))) w (y.trans hr) (H.trans D) X.sw) ?_ ?_
    ·unfold c7 Sg.all Sg.top Sg.iQ DG
     rw[show σ.st=false from X.st.trans aF];exact bZ
    ·rintro v _ ⟨q,rfl,rfl⟩
     refine⟨_,⟨q,rfl,rfl⟩,?_⟩;unfold c7 Sg.all Sg.top Sg.iQ;show List.Perm _ (eB g e pr::(([.ro S W,aP 0 (aY (A 0)),aP 1 (aY (A 1)),aP 2 (aY (A 2)),aP 3 (aY (A 3)),aP 4 (aY (A 4)),.ob 5 (.cells #[ib 78] 202)]++[iI q sf 0 (aY (A 2))])++(gE a b::hE (.chan none) c d::([(σ.x.aL 0).en,σ.x.uE (σ.u.by σ.k0),σ.k0.wE (σ.a0+1) (σ.b0+1),dE σ.k0.d σ.x.s σ.n σ.st (σ.ad+1) (σ.bd+1),σ.x.eE,σ.x.sE,σ.x.cE,σ.x.lE,σ.x.mE σ.ms σ.km]++(σ.ux++(σ.bj.flatMap bI.es++σ.cls.flatMap (PC.es σ.x)))))));rw[show σ.st=false from X.st.trans aF];exact bZ
   ·have O:=V.cl
    have E:m.c8 pr=({m with cf:=m.cf++[Cm.new m.cf.length pr]},((m.cf.length:Nat):Int),0):=by simp[Mo.c8,aF,hr,D]
    rw[E];refine Fl.post (ZE (g0:=f) (kJ:=l) (Q:=λid u n=>id=m.cf.length∧u=.nilIface∧∃q gl cl pg pc wb k,k.d=σ.k0.d∧n=c7 S W A++(gE (a+1) (b+1)::hE (.chan none) (c+1) (d+1)::(σ.more q gl cl pr pg pc wb k).all)) (R:=λid k L=>id=m.cf.length∧k=0∧∃q gl cl pg pc wb k,k.d=σ.k0.d∧L=c7 S W A++(gE (a+1) (b+1)::hE (.chan none) (c+1) (d+1)::(σ.more q gl cl pr pg pc wb k).all)) w (λg e G=>?_) ?_) ?_
    ·refine Fl.sub ([.ro S W,aP 0 (aY (A 0)),aP 3 (aY (A 3)),.ob 5 (.cells #[ib 78] 202),σ.x.eE,σ.x.sE,σ.x.cE,σ.x.mE σ.ms σ.km]++σ.iQ) (aeR σ.x σ.u σ.k0 g e pr (aY (A 1)) (aY (A 2)) (aY (A 4)) σ.n a b c d σ.a0 σ.b0 σ.ad σ.bd w (y.trans hr) ai X.sw (by have:=X.n;omega) G) ?_ ?_
     ·unfold c7 Sg.all Sg.top Sg.iQ DG
      rw[show σ.st=false from X.st.trans aF];exact bZ
     ·rintro v _ ⟨rfl,q,gl,cl,pg,pc,wb,k,hk,rfl⟩
      refine⟨_,⟨_,_,_,rfl,⟨by rw[H],rfl,q,gl,cl,pg,pc,wb,k,hk,rfl⟩,rfl⟩,?_⟩;unfold c7 Sg.all Sg.top Sg.iQ OY;show List.Perm _ (eB g e pr::([.ro S W,aP 0 (aY (A 0)),aP 1 (aY (A 1)),aP 2 (aY (A 2)),aP 3 (aY (A 3)),aP 4 (aY (A 4)),.ob 5 (.cells #[ib 78] 202)]++(gE (a+1) (b+1)::hE (.chan none) (c+1) (d+1)::([((σ.x.more q gl cl).aL 0).en,σ.x.uE (σ.u.by σ.k0),σ.k0.wE (σ.a0+2) (σ.b0+2),dE σ.k0.d σ.x.s (σ.n+1) σ.st (σ.ad+2) (σ.bd+2),σ.x.eE,σ.x.sE,σ.x.cE,(σ.x.more q gl cl).lE,σ.x.mE σ.ms σ.km]++(σ.ux++(σ.bj.flatMap bI.es++(σ.cls++[(⟨kP σ.x pr q pg pc wb,k,1,0,[],0,[]⟩:PC)]).flatMap (PC.es σ.x)))))));rw[show σ.st=false from X.st.trans aF,List.flatMap_append,show [(⟨kP σ.x pr q pg pc wb,k,1,0,[],0,[]⟩:PC)].flatMap (PC.es σ.x)=[σ.x.kE ((kP σ.x pr q pg pc wb).by k),k.wE 1 0,(kP σ.x pr q pg pc wb).wE [] 0,(kP σ.x pr q pg pc wb).pE]from rfl];exact bZ
    ·rintro id u n ⟨rfl,rfl,q,gl,cl,pg,pc,wb,k,hk,rfl⟩
     refine Fl.sub _ (Sj sf 0) (by rw[List.nil_append]) ?_;rintro v _ ⟨rfl,rfl⟩;exact⟨_,⟨0,rfl,rfl,rfl,q,gl,cl,pg,pc,wb,k,hk,rfl⟩,by rw[List.nil_append]⟩
    ·rintro v _ ⟨id,P,n,rfl,⟨rfl,rfl,q,gl,cl,pg,pc,wb,k,hk,rfl⟩,rfl⟩
     exact⟨_,⟨σ.more q gl cl pr pg pc wb k,a+1,b+1,c+1,d+1,rfl,X.more q gl cl pr pg pc wb k hk,rfl,rfl,rfl⟩,.refl _⟩
end
theorem Og{α β:Type}:∀(l:ae α)(c:ae β)(i:Nat)(a:α)(b:β),(l.set i a).zip (c.set i b)=(l.zip c).set i (a,b)
 |[],_,_,_,_=>by simp
 |_::_,[],_,_,_=>by simp
 |_::_,_::_,0,_,_=>rfl
 |x::l,y::c,i+1,a,b=>by
  simp only[List.set_cons_succ,List.zip_cons_cons,Og l c i a b]
theorem axI{α β:Type}{l:ae α}{c:ae β}{i:Nat}{a:α}{b:β}(d:l[i]?=Z a)(e:c[i]?=Z b):(l.zip c)[i]?=Z (a,b):=by
 rw[List.getElem?_zip_eq_some];exact⟨d,e⟩
def jc(m:Mo)(X:ae RC):ae En:=(X.zip m.cf).flatMap RC.es
theorem arJ{m:Mo}{X:ae RC}{i:Nat}{q:RC}{c:Cm}(b:X[i]?=Z q)(a:m.cf[i]?=Z c):aB.of (jc m X)=(aB.of (RC.es (q,c))).add (aB.of (((X.zip m.cf).eraseIdx i).flatMap RC.es)):=FB (uM RC.es _ _ _ (axI b a))
section
variable {m:Mo}{r:RS}{X:ae RC}(V:m.Ok)(W:sU m r X)
include V W
omit V in
theorem sU.K7:r.cl.length=m.cf.length:=by rw[W.cl,iV,W.cn]
theorem are(n:Int):Fl Sv 49 [pt r.s,ah n].toArray (dt r m X) λv L=>∃a l,v=.tuple #[ah (m.pick n).2.1,ah (m.pick n).2.2]/\sU (m.pick n).1 a l/\a.s=r.s/\L=dt a (m.pick n).1 l:=by
 cases aF:m.cU with
 |true=>
  have e:m.pick n=(m,0,5):=by simp[Mo.pick,aF]
  rw[e];refine Fl.sub ([r.sE m,r.cE,r.mE m,r.lE,r.eE m]++(r.ch.flatMap bn.es++jc m X)) (arI r m n aF) (by unfold dt iG jc;exact bZ) ?_;rintro v _ ⟨rfl,rfl⟩;exact⟨_,⟨r,X,F,W,F,F⟩,by unfold dt iG jc;exact bZ⟩
 |false=>
  by_cases d:n<0\/(m.cf.length:Int)<=n
  ·have e:m.pick n=(m,0,4):=by
    unfold Mo.pick;rw[aF];rcases d with d|d
    ·simp[d]
    ·have:m.cf[n.toNat]?=I:=Dg ai
     simp[this]
   rw[e];refine Fl.sub ([r.sE m,r.cE,r.mE m,r.lE,r.eE m]++(r.ch.flatMap bn.es++jc m X)) (arF r m n aF (by rw[W.K7];exact d)) (by unfold dt iG jc;exact bZ) ?_;rintro v _ ⟨rfl,rfl⟩;exact⟨_,⟨r,X,rfl,W,rfl,rfl⟩,by unfold dt iG jc;exact bZ⟩
  ·obtain⟨i,rfl⟩:∃i:Nat,n=i:=⟨n.toNat,by omega⟩
   obtain⟨c,b⟩:∃c,m.cf[i]?=Z c:=⟨_,dq ai⟩;have j:i<X.length:=by rw[W.cn];exact(dv.1 b).1
   obtain⟨q,h⟩:∃q,X[i]?=Z q:=⟨_,dq j⟩;have e:m.pick i=(m.with (m.eo c).1 i (m.eo c).2.1,(m.eo c).2.2,0):=by
    unfold Mo.pick;rw[aF];have:¬(i:Int)<0:=by omega
    simp[this,b,Mo.with]
   rw[e];have w:=V.me i c b;have x:=V.cl;have u:=arQ r m q c i aF (by rw[W.cl,fq,h];rfl) (by rw[W.K7];omega) V w.2.1 W.ch;refine Fl.sub ((((X.zip m.cf).eraseIdx i).flatMap RC.es)) u ?_ ?_
   ·apply aB.exact
    have:=arJ h b;unfold jc at this;simp only[dt,um,eO,this]
    ac_rfl
   ·rintro v _ ⟨a,f,rfl,⟨o,p,s,t⟩,rfl⟩
    refine⟨_,⟨a,X.set i f,rfl,⟨t.same rfl rfl,?_,?_⟩,o,rfl⟩,?_⟩
    ·rw[p,W.cl,np,s]
     exact(CY (by rw[fq,h];rfl)).symm
    ·show(X.set i f).length=(m.cf.set i _).length
     rw[mZ,mZ,W.cn]
    ·apply aB.exact
     have hz:((X.set i f).zip (m.cf.set i (m.eo c).2.1))[i]?=Z (f,(m.eo c).2.1):=by
      rw[Og,sJ];rw[List.length_zip,W.cn,Nat.min_self];exact(dv.1 b).1
     have k:=FB (uM RC.es _ _ _ hz);rw[Og,Fw,<-Og]at k;show _=aB.of (iG a (m.eo c).1++(a.ch.flatMap bn.es++((X.set i f).zip (m.cf.set i (m.eo c).2.1)).flatMap RC.es));simp only[eO,k]
     ac_rfl
theorem arf:Fl Sv 50 [pt r.s].toArray (dt r m X) λv L=>∃e,v=.tuple #[.bool m.fX.2.1,ah m.fX.2.2]/\sU m.fX.1 e X/\e.s=r.s/\L=dt e m.fX.1 X:=by
 have B:=V.k;have x:=V.s;have z:=W.ch.len;cases aF:m.cU with
 |true=>
  have y:m.fX=(m,Y,5):=by simp[Mo.fX,aF]
  rw[y];refine Fl.sub ([r.sE m,r.cE,r.mE m,r.lE,r.eE m]++(r.ch.flatMap bn.es++jc m X)) (arP r m aF) (by unfold dt iG jc;exact bZ) ?_;rintro v _ ⟨rfl,rfl⟩;exact⟨_,⟨r,F,W,F,F⟩,by unfold dt iG jc;exact bZ⟩
 |false=>
  rcases BM m.at_ with c|c
  ·rw[abT aF c]
   refine Fl.sub ([r.sE m,r.cE,r.mE m,r.lE,r.eE m]++(r.ch.flatMap bn.es++jc m X)) (arN r m aF c) (by unfold dt iG jc;exact bZ) ?_;rintro v _ ⟨rfl,rfl⟩;refine⟨_,⟨r,rfl,⟨W.ch.same rfl rfl,W.cl,W.cn⟩,rfl,rfl⟩,?_⟩;show mY _ ([r.en {m with at_:=1,w:=m.clock},r.sE m,r.cE,r.mE m,r.lE,r.eE m]++(r.ch.flatMap bn.es++jc m X));exact bZ
  ·by_cases D:m.at_<=m.sites.length
   ·obtain⟨i,s⟩:∃i,m.at_=i+1:=⟨m.at_-1,by omega⟩
    obtain⟨h,p⟩:∃h,m.sites[i]?=Z h:=⟨_,dq ai⟩;rw[abW aF s p];refine Fl.sub ([r.cE,r.mE m,r.lE,r.eE m]++(r.ch.flatMap bn.es++jc m X)) (arO r m h aF i s p ai) (by unfold dt iG jc;exact bZ) ?_;rintro v _ ⟨rfl,rfl⟩;refine⟨_,⟨r,rfl,⟨W.ch.same rfl rfl,W.cl,W.cn⟩,rfl,rfl⟩,?_⟩;show mY _ ([r.en {m with at_:=i+2,w:=if 0<=h/\h<m.w then h else m.w},r.sE m,r.cE,r.mE m,r.lE,r.eE m]++(r.ch.flatMap bn.es++jc m X));exact bZ
   ·have A:=V.at_
    obtain⟨k,b⟩:∃k,m.at_=m.sites.length+1+k:=⟨m.at_-m.sites.length-1,by omega⟩;have u:k<m.bw.length:=by omega
    obtain⟨l,d⟩:∃l,m.bw[k]?=Z l:=⟨_,dq u⟩;obtain⟨C,a⟩:∃C,r.ch[k]?=Z C:=⟨_,dq ai⟩;have f:=W.ch.is k C l a d;have E:=V.Fe.2 l (lR d);have n:(C.cut (ou l m.w)).Is (qZ l m.w):=by rw[awV];exact f.cut (awW l m.w)
    have o:(m.bw.modify k λl=>qZ l m.w)=m.bw.set k (qZ l m.w):=GW _ _ _ _ d;have j:(dt r m X).Perm ([r.en m,r.cE,C.en]++([r.sE m,r.mE m,r.lE,r.eE m]++((r.ch.eraseIdx k).flatMap bn.es++jc m X))):=by
     unfold dt iG jc
     (apply aB.exact;simp only[eO,fT,fY,jC,vX a];try ac_rfl)
    by_cases t:k+1=m.bw.length
    ·rw[abV aF b t]
     refine Fl.sub _ (aaq r m C l aF k b f a ai ai ai) j ?_;rintro v _ ⟨rfl,rfl⟩;rw[if_pos ai,decide_eq_true ai];refine⟨_,⟨r.bj k (C.cut (ou l m.w)),rfl,⟨W.ch.set o rfl n,W.cl,W.cn⟩,rfl,rfl⟩,?_⟩;show mY _ ([(r.bj k (C.cut (ou l m.w))).en {m with at_:=0},r.sE m,(r.bj k (C.cut (ou l m.w))).cE,r.mE m,r.lE,r.eE m]++((r.bj k (C.cut (ou l m.w))).ch.flatMap bn.es++jc m X))
     (apply aB.exact;simp only[eO,fT,fY,jC,OV a,Uk];try ac_rfl)
    ·rw[abU aF b t]
     refine Fl.sub _ (aaq r m C l aF k b f a ai ai ai) j ?_;rintro v _ ⟨rfl,rfl⟩;rw[if_neg ai,decide_eq_false ai,b];refine⟨_,⟨r.bj k (C.cut (ou l m.w)),rfl,⟨W.ch.set o rfl n,W.cl,W.cn⟩,rfl,rfl⟩,?_⟩;show mY _ ([(r.bj k (C.cut (ou l m.w))).en {m with at_:=m.sites.length+1+k+1},r.sE m,(r.bj k (C.cut (ou l m.w))).cE,r.mE m,r.lE,r.eE m]++((r.bj k (C.cut (ou l m.w))).ch.flatMap bn.es++jc m X))
     (apply aB.exact;simp only[eO,fT,fY,jC,OV a,Uk];try ac_rfl)
omit V in
theorem sU.more(q:RC)(g:aj Nat)(cap:Nat)(pr:ae Stp):sU {m with cf:=m.cf++[.new m.cf.length pr]} (r.more q.c g cap) (X++[q]):=⟨W.ch.same rfl rfl,by
 show r.cl++[q.c]=(X++[q]).map (λq:RC=>q.c);rw[W.cl,List.map_append];rfl,by simp[W.cn]⟩
omit V in
theorem sU.Y6(q:RC)(g:aj Nat)(cap:Nat)(pr:ae Stp):aB.of (dt (r.more q.c g cap) {m with cf:=m.cf++[.new m.cf.length pr]} (X++[q]))=(aB.of [(r.more q.c g cap).en m,r.sE m,r.cE,r.mE m,(r.more q.c g cap).lE,r.eE m]).add ((aB.of (r.ch.flatMap bn.es)).add ((aB.of (jc m X)).add (aB.of (RC.es (q,.new m.cf.length pr))))):=by
 have hz:(X++[q]).zip (m.cf++[.new m.cf.length pr])=X.zip m.cf++[(q,.new m.cf.length pr)]:=by
  rw[List.zip_append W.cn];rfl
 unfold dt jc;show aB.of ([(r.more q.c g cap).en m,r.sE m,r.cE,r.mE m,(r.more q.c g cap).lE,r.eE m]++(r.ch.flatMap bn.es++((X++[q]).zip (m.cf++[.new m.cf.length pr])).flatMap RC.es))=_;rw[hz,xc];simp only[eO];congr 3
theorem arb(e:aj aR)(cap:Nat):Fl Sv 48 [pt r.s,.slice e 0 cap].toArray (dt r m X) λv L=>∃b i,v=.tuple #[ah (m.c8 []).2.1,ah (m.c8 []).2.2]/\sU (m.c8 []).1 b i/\b.s=r.s/\L=dt b (m.c8 []).1 i:=by
 have c:=W.K7;have k:=V.cl;cases aF:m.cU with
 |true=>
  have a:m.c8 []=(m,0,5):=by simp[Mo.c8,aF]
  rw[a];refine Fl.sub ([r.sE m,r.cE,r.mE m,r.lE,r.eE m]++(r.ch.flatMap bn.es++jc m X)) (Z4 r m _ aF) (by unfold dt iG jc;exact bZ) ?_;rintro v _ ⟨rfl,rfl⟩;exact⟨_,⟨r,X,F,W,F,F⟩,by unfold dt iG jc;exact bZ⟩
 |false=>
  refine Fl.sub ([r.sE m,r.cE,r.mE m,r.eE m]++(r.ch.flatMap bn.es++jc m X)) (aqU r m aF ai e cap) (by unfold dt iG jc;exact bZ) ?_;intro v j h;have d:m.right []=U:=rfl;by_cases f:m.cf.length=8
  ·have a:m.c8 []=(m,0,3):=by simp[Mo.c8,aF,d,f]
   rw[a];rw[if_pos ai]at h;obtain⟨rfl,rfl⟩:=h;exact⟨_,⟨r,X,F,W,F,F⟩,by unfold dt iG jc;exact bZ⟩
  ·have a:m.c8 []=({m with cf:=m.cf++[.new m.cf.length []]},((m.cf.length:Nat):Int),0):=by simp[Mo.c8,aF,d,f]
   rw[a];rw[if_neg ai]at h;obtain⟨rfl,q,g,cap,rfl⟩:=h;refine⟨_,⟨r.more q.c g cap,X++[q],by rw[c],W.more q g cap [],F,F⟩,?_⟩;apply aB.exact;rw[W.Y6 q g cap [],c];simp only[RC.es,eO,fT,fY,jC]
   ac_rfl
theorem ara(b c:Nat)(d:af ag)(f:aJ)(e:Nat×Nat)(cap:Nat)(pr:ae Stp)(p:0<pr.length)(t:pr.length<=4398046511104)(s:CW d c pr):Fl Sv 48 [pt r.s,.slice (Z ⟨b,c,I⟩) pr.length cap].toArray (qh b d f e::dt r m X) λv L=>∃i l,v=.tuple #[ah (m.c8 pr).2.1,ah (m.c8 pr).2.2]/\sU (m.c8 pr).1 i l/\i.s=r.s/\L=qh b d f e::dt i (m.c8 pr).1 l:=by
 have j:=W.K7;have w:=V.cl;have n:=W.ch.len;cases aF:m.cU with
 |true=>
  have a:m.c8 pr=(m,0,5):=by simp[Mo.c8,aF]
  rw[a];refine Fl.sub ([qh b d f e,r.sE m,r.cE,r.mE m,r.lE,r.eE m]++(r.ch.flatMap bn.es++jc m X)) (Z4 r m _ aF) (by unfold dt iG jc;exact bZ) ?_;rintro v _ ⟨rfl,rfl⟩;exact⟨_,⟨r,X,F,W,F,F⟩,by unfold dt iG jc;exact bZ⟩
 |false=>
  refine Fl.sub ([r.sE m,r.cE,r.mE m,r.eE m]++(r.ch.flatMap bn.es++jc m X)) (aqV r m aF ai b c d f e cap pr p t s) (by unfold dt iG jc;exact bZ) ?_;intro v u h;have o:(pB r.ch.length Y pr&&decide ((pr.length:Int)<=200))=m.right pr:=by
   unfold Mo.right;rw[n];congr 1;simp;omega
  rw[o]at h;cases hr:m.right pr with
  |false=>
   rw[hr,if_pos F]at h;have a:m.c8 pr=(m,0,2):=by simp[Mo.c8,aF,hr]
   rw[a];obtain⟨rfl,rfl⟩:=h;exact⟨_,⟨r,X,F,W,F,F⟩,by unfold dt iG jc;exact bZ⟩
  |true=>
   rw[hr,if_neg aZ]at h;by_cases k:m.cf.length=8
   ·have a:m.c8 pr=(m,0,3):=by simp[Mo.c8,aF,hr,k]
    rw[a];rw[if_pos ai]at h;obtain⟨rfl,rfl⟩:=h;exact⟨_,⟨r,X,F,W,F,F⟩,by unfold dt iG jc;exact bZ⟩
   ·have a:m.c8 pr=({m with cf:=m.cf++[.new m.cf.length pr]},((m.cf.length:Nat):Int),0):=by simp[Mo.c8,aF,hr,k]
    rw[a];rw[if_neg ai]at h;obtain⟨rfl,q,g,cap,rfl⟩:=h;refine⟨_,⟨r.more q.c g cap,X++[q],by rw[j],W.more q g cap pr,F,F⟩,?_⟩;apply aB.exact;rw[fT,W.Y6 q g cap pr,j];simp only[RC.es,eO,fT,fY,jC]
    ac_rfl
end
theorem ard(a b d:Int):Fl Sv 47 [ah a,ah b,ah d].toArray [] λv L=>match Mo.new a b d with
  |none=>v=.tuple #[.pointer I,ah 1]/\L=[]
  |some m=>∃r,v=.tuple #[pt r.s,ah 0]/\sU m r []/\L=dt r m []:=by
 unfold Mo.new;by_cases h:a<1\/a>8\/b<1\/b>20\/d<0\/d>1000000
 ·rw[if_pos h]
  exact ary a b d h
 ·rw[if_neg h]
  obtain⟨z,rfl⟩:∃n:Nat,a=n:=⟨a.toNat,by omega⟩;obtain⟨c,rfl⟩:∃n:Nat,b=n:=⟨b.toNat,by omega⟩;simp only[Int.toNat_natCast];refine Fl.JF (arz z c d ai) ?_;rintro v _ ⟨s,sg,p,j,o,rfl,rfl⟩;refine⟨kh c (.row 187 3 I 0 0 []),_,λe x=>⟨187,3,List.eq_of_mem_replicate x⟩,⟨zO s sg p j o c,F,⟨⟨?_,λk C l u w=>?_⟩,F,F⟩,F⟩,?_⟩
  ·simp[zO,Mo.init]
  ·have f:(kh c (⟨I,0,0,#[]⟩:bn))[k]?=Z C:=u
   have i:(kh c ([]:ae bt))[k]?=Z l:=w;rw[List.getElem?_replicate]at f i;split at f
   ·rename_i y
    rw[if_pos y]at i;cases f;cases i;exact⟨F,df _,(λh=>by cases h),λ_=>rfl⟩
   ·cases f
  ·have t:(zO s sg p j o c).ch.flatMap bn.es=kh c (.row 187 3 I 0 0 []):=by
    show(kh c (⟨I,0,0,#[]⟩:bn)).flatMap bn.es=_;rw[List.flatMap_replicate];show(kh c [(.row 187 3 I 0 0 []:En)]).flatten=_;exact List.flatten_replicate_singleton
   unfold dt iG;rw[t];show mY _ (_++(_++[]));exact bZ
structure PR where
 σ:Sg
 m:Mo
 r:RS
 qs:ae RC
structure PR.Ok(p:PR):Prop where
 m:p.m.Ok
 s:lH p.m p.σ
 r:sU p.m p.r p.qs
def PR.cells(p:PR):ae ag:=[pt p.σ.x.s,pt p.r.s]
theorem PR.len(p:PR):p.cells.length=2:=rfl
def PR.es(p:PR):ae En:=p.σ.all++dt p.r p.m p.qs
def rI:Nat->ag
 |0=>ah 0
 |k+1=>.iface 3 (rI k)
def goes(p:PR):Nat:=if p.m.cU then 0 else 1
def live(a:ae PR):Nat:=(a.map goes).sum
structure WS where
 w:Nat
 g:aj Nat
 cap:Nat
 ps:ae PR
 a:Gc
 b:Nat
 c:Nat
 d:Nat
def WS.wE(x:WS):En:=.ob x.w (.cells #[sv x.g x.ps.length x.cap] 74)
def WS.pE(x:WS):En:=.row 123 2 x.g x.ps.length x.cap (x.ps.flatMap PR.cells)
def WS.all(S:Hp)(a:ae Nat)(A:Nat->aR)(x:WS):ae En:=x.wE::x.pE::(gE x.a x.b::hE (.chan I) x.c x.d::(c7 S a A++x.ps.flatMap PR.es))
structure WS.Ok(x:WS):Prop where
 ps:∀p∈x.ps,p.Ok
 a:x.a.v=rI (live x.ps)
theorem Br{ps:ae PR}{i}{p}(h:ps[i]?=Z p):aB.of (ps.flatMap PR.es)=(aB.of p.es).add (aB.of ((ps.eraseIdx i).flatMap PR.es)):=FB (uM _ _ _ _ h)
theorem apw{a:ae PR}{i}{p b}(h:a[i]?=Z p):aB.of ((a.set i b).flatMap PR.es)=(aB.of b.es).add (aB.of ((a.eraseIdx i).flatMap PR.es)):=by
 have c:=(dv.1 h).1;have:=Br (ps:=a.set i b) (i:=i) (p:=b) (by simp_all);rw[this,Fw]
theorem amF{a}{i}{p p'}(h:a[i]?=Z p):live (a.set i p')+goes p=live a+goes p':=Hs _ _ i p _ h
def WS.put(x:WS)(i:Nat)(p:PR)(a:Gc)(b c d:Nat):WS:={x with ps:=x.ps.set i p,a:=a,b:=b,c:=c,d:=d}
theorem WS.Ok.put{x:WS}(h:x.Ok){i}{p f}(j:x.ps[i]?=Z p)(l:f.Ok){a}{b c d}(n:∀k,x.a.v=rI (k+goes p)->a.v=rI (k+goes f)):(x.put i f a b c d).Ok:=by
 refine⟨λq g=>?_,?_⟩
 ·rcases List.mem_or_eq_of_mem_set g with g|rfl
  ·exact h.ps q g
  ·exact l
 ·have r:=amF (p':=f) j
  have m:∃k,live x.ps=k+goes p:=by
   refine⟨((x.ps.eraseIdx i).map goes).sum,?_⟩;have e:x.ps.Perm (p::x.ps.eraseIdx i):=by
    have:=uM (λq:PR=>[q]) _ i p j;simpa using this
   have:=(e.map goes).sum_nat;simp only[ft,xd]at this;unfold live;omega
  obtain⟨k,o⟩:=m;have:=n k (by rw[h.a,o]);rw[show live (x.put i f a b c d).ps=k+goes f from by show live (x.ps.set i f)=_;omega];exact this
theorem apD{b:ae PR}{i}{p a}(h:b[i]?=Z p)(c:a.σ.x.s=p.σ.x.s)(d:a.r.s=p.r.s):(b.set i a).flatMap PR.cells=b.flatMap PR.cells:=by
 rw[List.flatMap_def,List.flatMap_def,np];congr 1;refine CY ?_;rw[fq,h];simp only[iy,PR.cells,c,d]
structure lG where
 kind:Int
 W:Int
 A:Int
 B:Int
 C:Int
 P:ag
 pr:ae Stp
def lG.v(o:lG):ag:=.agg #[ah o.kind,ah o.W,ah o.A,ah o.B,ah o.C,o.P]
def Oy(S:Hp)(g:ae Nat)(v:ag)(d:ae Stp):Prop:=(d=[]/\∃f a,v=.slice f 0 a)\/(0<d.length/\∃b c a e i h,v=.slice (Z ⟨b,c,I⟩) d.length a/\S[b]?=Z (.cells e i h)/\CW e c d/\b∉g/\b≠8/\b≠10)
def uB(n:Int):Prop:=-9223372036854775808<=n/\n<9223372036854775808
structure lG.Ok(S:Hp)(ex:ae Nat)(o:lG):Prop where
 k:uB o.kind
 W:uB o.W
 A:uB o.A
 B:uB o.B
 C:uB o.C
 P:Oy S ex o.P o.pr
 l:o.pr.length<=4398046511104
abbrev lx(z:Nat)(o:lG):En:=.ob z (.cells #[ah o.kind,ah o.W,ah o.A,ah o.B,ah o.C,o.P] 44)
theorem aod{a b c}{m}(h:Mo.new a b c=Z m):m.cU=Y:=by
 unfold Mo.new at h;split at h
 ·cases h
 ·cases h;rfl
def WS.add(x:WS)(g e:Nat)(p:PR)(a:Gc)(b c d:Nat):WS:={x with g:=Z g,cap:=e,ps:=x.ps++[p],a:=a,b:=b,c:=c,d:=d}
theorem WS.Ok.add{x:WS}(h:x.Ok){g f}{σ}{m}{r}{i}{a}{b c d}(j:m.Ok)(k:lH m σ)(l:sU m r i)(n:m.cU=Y)(o:a.v=.iface 3 x.a.v):(x.add g f ⟨σ,m,r,i⟩ a b c d).Ok:=by
 refine⟨λq e=>?_,?_⟩
 ·rcases Ad.1 e with e|e
  ·exact h.ps q e
  ·rw[yL]at e
   subst e;exact⟨j,k,l⟩
 ·show a.v=rI (live (x.ps++[_]))
  rw[o,h.a];unfold live;simp[goes,n,rI]
def Ka(S:Hp)(b:ae Nat)(A:Nat->aR)(x:WS)(v:ag)(L:ae En):Prop:=∃a:WS,v=.bool U/\a.Ok/\a.w=x.w/\a.ps.length<=x.ps.length+1/\L=a.all S b A
theorem av3{S:Hp}{b:ae Nat}{A:Nat->aR}(x:WS)(k:x.Ok)(o:lG)(p:o.kind=1)(u:x.ps.length<2305843009213):Fl Sv 35 [pt x.w,o.v].toArray (x.all S b A) (Ka S b A x):=by
 refine Fl.of 195 λt s=>?_;refine du ([x.wE,x.pE]++([gE x.a x.b,hE (.chan I) x.c x.d]++(c7 S b A++x.ps.flatMap PR.es))) (fw _ _ ?_);refine cd (λ_=>[2,bT p,2,2,2]) λz=>eF ?_;refine du ([x.wE,x.pE,lx z o]++([gE x.a x.b,hE (.chan I) x.c x.d]++(c7 S b A++x.ps.flatMap PR.es))) ?_;refine nu _ ([x.wE,x.pE,lx z o]++x.ps.flatMap PR.es) (apn o.A o.B o.C _ _ _ _) bZ ?_;intro v q i;have c:=ard o.A o.B o.C;cases hn:Mo.new o.A o.B o.C with
 |none=>
  rw[hn]at i c;obtain⟨rfl,rfl⟩:=i;refine eP (L':=[x.wE,x.pE,lx z o]++([gE x.a x.b,hE (.chan I) x.c x.d]++(c7 S b A++x.ps.flatMap PR.es))) bZ (fw _ _ ?_);refine ao [2,2,2] (BP c ?_);rintro _ _ ⟨rfl,rfl⟩;refine ao [.d,.d,.d,.d,.d] (dP [2] (eF ?_));exact dH [.bool U] ([x.wE,x.pE]++([gE x.a x.b,hE (.chan I) x.c x.d]++(c7 S b A++x.ps.flatMap PR.es))) ⟨x,F,k,F,pL _,F⟩
 |some m=>
  rw[hn]at i c;obtain⟨σ,d,e,f,g,rfl,l,n,rfl⟩:=i;refine eP (L':=[x.wE,x.pE,lx z o]++([gE d e,hE (.chan I) f g]++(c7 S b A++(x.ps.flatMap PR.es++σ.all)))) bZ (fw _ _ ?_);refine ao [2,2,2] (BP c ?_);rintro _ _ ⟨r,rfl,j,rfl⟩;refine du (dt r m []++[x.wE,x.pE,lx z o]) (eP (L':=[x.wE,x.pE,lx z o]++dt r m []) bZ (fw _ _ ?_));refine cd (λ_=>[.d,.d,.d,.d,.d,0]) λy=>iW (OL 16 72 1 3 x.ps.length ai) ?_;rintro _ _ ⟨h,a,rfl,rfl⟩;refine ao [0] (dP [2,3] (eF (eF ?_)));refine du (([.ob x.w (.cells #[sv (Z h) (x.ps.length+1) a] 74),.row 123 2 (Z h) (x.ps.length+1) a (x.ps.flatMap PR.cells++[pt σ.x.s,pt r.s])]++dt r m [])++([gE d e,hE (.chan I) f g]++(c7 S b A++(x.ps.flatMap PR.es++σ.all)))) ?_;refine eP (L':=(x.add h a ⟨σ,m,r,[]⟩ d e f g).all S b A) ?_ (dH [.bool U] _ ⟨x.add h a ⟨σ,m,r,[]⟩ d e f g,F,k.add (aoc hn) l j (aod hn) n,F,by simp[WS.add],F⟩);unfold WS.all WS.wE WS.pE WS.add;simp only[mL,List.length_singleton,xc,List.flatMap_singleton];unfold PR.es PR.cells;exact bZ
theorem av4 {S:Hp} {ex:List Nat} {A:Nat→Addr} (x:WS) (hx:x.Ok) (o:lG) (hk:o.kind≠1) (h0:x.ps.length=0):Fl Sv 35 [pt x.w,o.v].toArray (x.all S ex A) (Ka S ex A x):=by
 refine Fl.of 195 λb a=>?_;refine du ([x.wE]++(x.pE::([gE x.a x.b,hE (.chan none) x.c x.d]++(c7 S ex A++x.ps.flatMap PR.es)))) (fw _ _ ?_);refine cd (λ_=>[1,bF hk,0,fB x.ps.length 0]) λz=>dP [1] (eF ?_);exact dH [.bool true] _ ⟨x,rfl,hx,rfl,Nat.le_succ _,rfl⟩
theorem acS{x:WS}{g:Nat}(h:x.g=Z g):∃x0:WS,x={x0 with g:=Z g}:=⟨x,by cases x;simp_all⟩
noncomputable def stT:ae aK:=pT (nx Sv ⟨35,195,.normal,[],[],λ_ _=>True⟩ (bG Sv 35 #[] .normal).todo [] (yZ [pt 0,.agg #[ah 2,ah 0,ah 0,ah 0,ah 0,aC]] 0) [.ob 0 (.cells #[sv (Z 1) 1 1] 74),.row 123 2 (Z 1) 1 1 [pt 5,pt 6]] [2,bR 2 1 aX,0,bR 1 0 aX] (.n 9)).todo
theorem av9 {S:Hp} {ex:List Nat} {A:Nat→Addr} (x:WS) (o:lG) (hk:o.kind≠1) (h0:0<x.ps.length) (hl:x.ps.length<2305843009213) (hW:uB o.W) (p:PR) (hp:x.ps[EW o.W x.ps.length]?=some p) {cs:List Frame} {L2:List En} {R:Value→List En→Prop}
  (hT:∀z h,Rs Sv (fx Sv 35 195 cs L2 R) stT [] [(3,pt z),(4,.bool false),(9,pt h)] ([x.wE,x.pE,lx z o,iT h p.σ.x.s p.r.s]++([gE x.a x.b,hE (.chan none) x.c x.d]++(c7 S ex A++x.ps.flatMap PR.es)))):
  Rs Sv (fx Sv 35 195 cs L2 R) (Frame.enter Sv 35 [pt x.w,o.v].toArray .normal).todo [] (yZ [pt x.w,o.v] 0) (x.all S ex A):=by
 refine lF 1 x.g x.ps.length x.cap h0 λg r _=>?_;obtain⟨x,rfl⟩:=acS r;simp only at h0 hl hp;obtain⟨w,_,e,f,a,b,c,d⟩:=x;simp only at h0 hl hp;generalize l:EW o.W f.length=i at*;have m:i<f.length:=(List.getElem?_eq_some_iff.1 hp).1;have k:∀q,q<2→(f.flatMap PR.cells)[i*2+q]?=p.cells[q]?:=λq s=>dS PR.len f i q p s hp;refine du ([WS.wE ⟨w,some g,e,f,a,b,c,d⟩,WS.pE ⟨w,some g,e,f,a,b,c,d⟩]++([gE a b,hE (.chan none) c d]++(c7 S ex A++f.flatMap PR.es))) (fw _ _ ?_);refine cd (λ_=>[2,bF hk,0,bR f.length 0]) λz=>?_;refine Up 16 ?_;refine acP (ι:=Nat) (λh=>[(3,pt z),(4,.bool false),(9,pt h)]) (λh=>[WS.wE ⟨w,some g,e,f,a,b,c,d⟩,WS.pE ⟨w,some g,e,f,a,b,c,d⟩,lx z o,iT h p.σ.x.s p.r.s]) (λh=>?_) λj=>?_
 ·exact eF (cx (hT z h))
 refine FH (n:=5) [0,1,2,3,4,5,6,7,8,9,10] [0,2,0] ?_;refine Dp [11,14] ⟨Kz [] (ZH o.W f.length h0 hW) ?_,Uw (λ_=>[]) λh=>?_,trivial⟩
 ·rintro _ _ ⟨rfl,rfl⟩
  rw[l];refine KA (FH (n:=2) [12,13] [iX 72 2 g e m,rr 1 (k 0 aX),rr 1 (k 1 aX)] ?_);refine Dp [14] ⟨Uw (λ_=>[]) λh=>Dp [15] ⟨Uv [3,3] (Om ?_),trivial⟩,trivial⟩;exact cx (j h)
 ·refine Dp [11] ⟨Kz [] (ZH o.W f.length h0 hW) ?_,trivial⟩
  rintro _ _ ⟨rfl,rfl⟩;rw[l];refine KA (FH (n:=1) [12,13] [iX 72 2 g e m,rr 1 (k 0 aX),rr 1 (k 1 aX)] ?_);refine Dp [15] ⟨Uv [3,3] (Om ?_),trivial⟩;exact cx (j h)
def k8(A:Nat->aR):ae En:=[aP 0 (aY (A 0)),aP 1 (aY (A 1)),aP 2 (aY (A 2)),aP 3 (aY (A 3)),aP 4 (aY (A 4)),.ob 5 (.cells #[ib 78] 202)]
theorem Ip(S:Hp)(X:ae Nat)(A:Nat->aR):c7 S X A=.ro S X::k8 A:=rfl
theorem amE{a:ae PR}{i:Nat}{p:PR}(W:a[i]?=Z p):∃k,live a=k+goes p:=by
 refine⟨((a.eraseIdx i).map goes).sum,?_⟩;have e:a.Perm (p::a.eraseIdx i):=by
  have:=uM (λq:PR=>[q]) a i p W;simpa using this
 have:=(e.map goes).sum_nat;simp only[ft,xd]at this;unfold live;omega
theorem abK{m:Mo}(a:m.Ok):({m with cU:=U}:Mo).Ok:=⟨a.k,a.s,a.ml,a.si,a.ck,a.cl,a.me,a.ev,a.ch,a.at_⟩
section
variable {S:Hp}{X:ae Nat}{A:Nat->aR}
theorem ahd{v:ag}{d:ae Stp}(h:Oy S X v d)(m:d.length<=4398046511104):Fl Sv 22 [v].toArray [.ro S X] λv L=>∃g c,v=sv g d.length c/\L=[.ro S X,eB g c d]:=by
 rcases h with⟨rfl,f,a,rfl⟩|⟨t,b,e,a,r,s,j,rfl,l,q,V,k,n⟩
 ·refine Fl.sub [.ro S X] (ahb f a) (.refl _) ?_
  rintro v _ ⟨rfl,rfl⟩;exact⟨_,⟨I,0,rfl,rfl⟩,BH ..⟩
 ·refine Fl.post (Fl.K6 (R:=λv L=>∃g c,v=sv g d.length c/\L=[eB g c d]) l k n V ((ahc b e r s j a d m q).post ?_)) ?_
  ·rintro v _ ⟨g,c,rfl,rfl⟩
   exact⟨_,⟨_,⟨g,c,rfl,rfl⟩,rfl⟩,.refl _⟩
  ·rintro v _ ⟨_,⟨g,c,rfl,rfl⟩,rfl⟩
   exact⟨_,⟨g,c,rfl,rfl⟩,.refl _⟩
theorem arc{m:Mo}{r:RS}{n:ae RC}(l:m.Ok)(k:sU m r n){v:ag}{d:ae Stp}(h:Oy S X v d)(y:d.length<=4398046511104):Fl Sv 48 [pt r.s,v].toArray (.ro S X::dt r m n) λv L=>∃a c,v=.tuple #[ah (m.c8 d).2.1,ah (m.c8 d).2.2]/\sU (m.c8 d).1 a c/\a.s=r.s/\L=.ro S X::dt a (m.c8 d).1 c:=by
 rcases h with⟨rfl,q,e,rfl⟩|⟨t,b,j,e,C,D,s,rfl,w,B,V,u,z⟩
 ·refine Fl.sub [.ro S X] (arb l k q e) bZ ?_
  rintro v _ ⟨a,c,rfl,f,g,rfl⟩;exact⟨_,⟨a,c,rfl,f,g,rfl⟩,by exact bZ⟩
 ·refine Fl.post (Fl.K6 (R:=λv L=>∃a c,v=.tuple #[ah (m.c8 d).2.1,ah (m.c8 d).2.2]/\sU (m.c8 d).1 a c/\a.s=r.s/\L=dt a (m.c8 d).1 c) w u z V ((ara l k b j C D s e d t y B).post ?_)) ?_
  ·rintro v _ ⟨a,c,rfl,f,g,rfl⟩
   exact⟨_,⟨_,⟨a,c,rfl,f,g,rfl⟩,rfl⟩,.refl _⟩
  ·rintro v _ ⟨_,⟨a,c,rfl,f,g,rfl⟩,rfl⟩
   exact⟨_,⟨a,c,rfl,f,g,rfl⟩,.refl _⟩
abbrev uI(o:lG)(p:PR)(z a:Nat):ae En:=[lx z o,iT a p.σ.x.s p.r.s]
abbrev uH(x:WS)(o:lG)(p:PR)(z a:Nat):ae En:=[x.wE,x.pE,lx z o,iT a p.σ.x.s p.r.s]
abbrev uT(S:Hp)(X:ae Nat)(A:Nat->aR)(x:WS)(a:Gc)(b:Nat)(T:ae En):ae En:=gE a b::hE (.chan I) x.c x.d::(c7 S X A++T)
theorem Nn(x:WS){i:Nat}{p p':PR}(W:x.ps[i]?=Z p)(g:p'.σ.x.s=p.σ.x.s)(h:p'.r.s=p.r.s)(a:Gc)(b c d:Nat):aB.of ((x.put i p' a b c d).all S X A)=(aB.of [x.wE,x.pE]).add ((aB.of [gE a b,hE (.chan I) c d]).add ((aB.of (c7 S X A)).add ((aB.of p'.es).add (aB.of ((x.ps.eraseIdx i).flatMap PR.es))))):=by
 have e:(x.put i p' a b c d).wE=x.wE:=by unfold WS.wE WS.put;simp only[mZ]
 have f:(x.put i p' a b c d).pE=x.pE:=by unfold WS.pE WS.put;simp only[mZ];rw[apD W g h]
 unfold WS.all;rw[e,f];show aB.of (x.wE::x.pE::(gE a b::hE (.chan I) c d::(c7 S X A++(x.ps.set i p').flatMap PR.es)))=_;simp only[eO,fT,fY,apw W]
 ac_rfl
def zV(S:Hp)(X:ae Nat)(A:Nat->aR)(x:WS)(o:lG)(p:PR):Prop:=∀(c:ae az)(b:ae En)(z a:Nat),Rs Sv (fx Sv 35 195 c b (Ka S X A x)) stT [] [(3,pt z),(4,.bool Y),(9,pt a)] ((uH x o p z a)++([gE x.a x.b,hE (.chan I) x.c x.d]++(c7 S X A++x.ps.flatMap PR.es)))
theorem anE(m:Mo)(l:ae Stp):(m.c8 l).1.cU=m.cU:=by
 unfold Mo.c8
 repeat' split
 all_goals rfl
theorem anK{m:Mo}(a:m.Ok)(n:Int):(m.pick n).1.cU=m.cU:=by
 unfold Mo.pick;dsimp only
 split
 ·rfl
 ·split
  ·rfl
  ·split
   ·rfl
   ·rename_i c d
    have b:=a.me _ c d;exact(T4 a b.2.1 b.2.2).st
variable (Q:xh S X A)(x:WS)(V:x.Ok)(o:lG)(P:o.Ok S X){i:Nat}{p:PR}(W:x.ps[i]?=Z p)
include V W
theorem No(e:PR)(a:Gc)(b c d:Nat)(f:e.Ok)(g:∀k,x.a.v=rI (k+goes p)->a.v=rI (k+goes e)):Ka S X A x (.bool U) ((x.put i e a b c d).all S X A):=⟨x.put i e a b c d,F,V.put W f g,F,by show(x.ps.set i e).length<=_;rw[mZ];exact pL _,F⟩
include Q
theorem av8 (hk:o.kind=3):zV S X A x o p:=by
 intro w v z e;have d:=V.ps p (List.mem_of_getElem? W);generalize l:(x.ps.eraseIdx i).flatMap PR.es=E;have s:aB.of (x.ps.flatMap PR.es)=(aB.of p.σ.all).add ((aB.of (dt p.r p.m p.qs)).add (aB.of E)):=by
  rw[Br W,l];unfold PR.es;simp only[eO]
  ac_rfl
 refine ao [2,bR o.kind 2,fB o.kind 3 hk,3,2] (du ((uH x o p z e)++([gE x.a x.b,hE (.chan none) x.c x.d]++(c7 S X A++x.ps.flatMap PR.es))) ?_);refine nu (c7 S X A++(gE x.a x.b::p.σ.all)) ((uH x o p z e)++(hE (.chan none) x.c x.d::(dt p.r p.m p.qs++E))) (apq Q d.m d.s o.A x.a x.b) (by(apply aB.exact;simp only[eO,fT,fY,jC,s];try ac_rfl)) ?_;rintro _ _ ⟨a,b,c,rfl,u,q,r,rfl⟩;refine eP (L':=(uH x o p z e)++(uT S X A x b c (a.all++(dt p.r p.m p.qs++E)))) bZ ?_;refine ao [3,2] (du ((uH x o p z e)++(uT S X A x b c (a.all++(dt p.r p.m p.qs++E)))) ?_);refine nu (dt p.r p.m p.qs) ((uH x o p z e)++(uT S X A x b c (a.all++E))) (are d.m d.r o.A) bZ ?_;rintro _ _ ⟨g,f,rfl,n,t,rfl⟩;refine eP (L':=(uI o p z e)++([x.wE,x.pE]++(uT S X A x b c (a.all++(dt g (p.m.pick o.A).1 f++E))))) bZ (fw _ _ ?_);refine ao [fB ((p.m.pick o.A).2.1) ((p.m.pick o.A).2.1) rfl,fB ((p.m.pick o.A).2.2) ((p.m.pick o.A).2.2) rfl] (dP [0,1] (eF ?_));refine du ([x.wE,x.pE]++(uT S X A x b c (a.all++(dt g (p.m.pick o.A).1 f++E)))) ?_;have m:PR.Ok ⟨a,(p.m.pick o.A).1,g,f⟩:=⟨apg d.m _,u,n⟩;have j:goes ⟨a,(p.m.pick o.A).1,g,f⟩=goes p:=by unfold goes;rw[anK d.m]
 refine eP (L':=(x.put i ⟨a,(p.m.pick o.A).1,g,f⟩ b c x.c x.d).all S X A) (aB.exact ?_) (dH [.bool true] _ (No x V W _ b c x.c x.d m λk h=>by rw[j,r,h]));rw[Nn x W q t,l];unfold PR.es;simp only[eO,fT,fY]
 ac_rfl
theorem awc (hk:o.kind=4):zV S X A x o p:=by
 intro y w z f;have g:=V.ps p (List.mem_of_getElem? W);generalize m:(x.ps.eraseIdx i).flatMap PR.es=E;have t:aB.of (x.ps.flatMap PR.es)=(aB.of p.σ.all).add ((aB.of (dt p.r p.m p.qs)).add (aB.of E)):=by
  rw[Br W,m];unfold PR.es;simp only[eO]
  ac_rfl
 refine ao [2,bR o.kind 2,bR o.kind 3,fB o.kind 4 hk,3] (du ((uH x o p z f)++([gE x.a x.b,hE (.chan none) x.c x.d]++(c7 S X A++x.ps.flatMap PR.es))) ?_);refine nu (c7 S X A++(gE x.a x.b::p.σ.all)) ((uH x o p z f)++(hE (.chan none) x.c x.d::(dt p.r p.m p.qs++E))) (apr Q g.m g.s x.a x.b) (by(apply aB.exact;simp only[eO,fT,fY,jC,t];try ac_rfl)) ?_;rintro _ _ ⟨c,d,e,rfl,v,r,s,rfl⟩;refine eP (L':=(uH x o p z f)++(uT S X A x d e (c.all++(dt p.r p.m p.qs++E)))) bZ ?_;refine ao [3] (du ((uH x o p z f)++(uT S X A x d e (c.all++(dt p.r p.m p.qs++E)))) ?_);refine nu (dt p.r p.m p.qs) ((uH x o p z f)++(uT S X A x d e (c.all++E))) (arf g.m g.r) bZ ?_;rintro _ _ ⟨j,rfl,q,u,rfl⟩;refine eP (L':=(uI o p z f)++([x.wE,x.pE]++(uT S X A x d e (c.all++(dt j p.m.fX.1 p.qs++E))))) bZ (fw _ _ ?_);refine ao [bB (a:=p.m.fX.2.1==p.m.fX.2.1) (b:=true) aZ,fB (p.m.fX.2.2) (p.m.fX.2.2) rfl] (dP [0,1] (eF ?_));refine du ([x.wE,x.pE]++(uT S X A x d e (c.all++(dt j p.m.fX.1 p.qs++E)))) ?_;have n:PR.Ok ⟨c,p.m.fX.1,j,p.qs⟩:=⟨awt g.m,v,q⟩;have l:goes ⟨c,p.m.fX.1,j,p.qs⟩=goes p:=by unfold goes;rw[(abR p.m).st]
 refine eP (L':=(x.put i ⟨c,p.m.fX.1,j,p.qs⟩ d e x.c x.d).all S X A) (aB.exact ?_) (dH [.bool true] _ (No x V W _ d e x.c x.d n λk h=>by rw[l,s,h]));rw[Nn x W r u,m];unfold PR.es;simp only[eO,fT,fY]
 ac_rfl
theorem av1 (P:o.Ok S X) (hk:o.kind=2):zV S X A x o p:=by
 intro G D z a;have m:=V.ps p (List.mem_of_getElem? W);generalize s:(x.ps.eraseIdx i).flatMap PR.es=E;have y:aB.of (x.ps.flatMap PR.es)=(aB.of p.σ.all).add ((aB.of (dt p.r p.m p.qs)).add (aB.of E)):=by
  rw[Br W,s];unfold PR.es;simp only[eO]
  ac_rfl
 refine ao [2,fB o.kind 2 hk] (du ((uH x o p z a)++([gE x.a x.b,hE (.chan none) x.c x.d]++(.ro S X::(k8 A++x.ps.flatMap PR.es)))) ?_);refine dk 11 [3,2] [4,5,.p [6,7,8,9,10]] ?_;refine HG (L0:=[.ro S X]) (Lr:=(uH x o p z a)++([gE x.a x.b,hE (.chan none) x.c x.d]++(k8 A++(p.σ.all++(dt p.r p.m p.qs++E))))) (F:=λl=>(uH x o p z a)++([gE x.a x.b,hE (.chan none) x.c x.d]++(k8 A++(p.σ.all++(dt p.r p.m p.qs++(E++l)))))) (ahd P.P P.l) ?_ (λl=>by exact bZ) ?_
 · (apply aB.exact;simp only[eO,fT,fY,jC,y];try ac_rfl)
 rintro _ _ ⟨g,c,rfl,rfl⟩;refine gY ?_;refine HG (L0:=eB g c o.pr::(c7 S X A++(gE x.a x.b::hE (.chan none) x.c x.d::p.σ.all))) (Lr:=(uH x o p z a)++(dt p.r p.m p.qs++E)) (F:=λl=>(uH x o p z a)++(dt p.r p.m p.qs++(E++l))) (apm Q m.m m.s o.pr g c P.l x.a x.b x.c x.d) ?_ (λl=>by exact bZ) ?_
 ·rw[Ip]
  exact bZ
 rintro _ _ ⟨b,d,e,f,j,rfl,C,v,w,rfl⟩;refine gY (FF [] (Fl.nil ?_));refine eP (L':=(uH x o p z a)++(gE d e::hE (.chan none) f j::(c7 S X A++(b.all++(dt p.r p.m p.qs++(E++[eB g c o.pr])))))) bZ ?_;refine ao [3,2] (du ((uH x o p z a)++(gE d e::hE (.chan none) f j::(c7 S X A++(b.all++(dt p.r p.m p.qs++(E++[eB g c o.pr])))))) ?_);refine nu (.ro S X::dt p.r p.m p.qs) ((uH x o p z a)++(gE d e::hE (.chan none) f j::(k8 A++(b.all++(E++[eB g c o.pr]))))) (arc m.m m.r P.P P.l) (by rw[Ip];exact bZ) ?_;rintro _ _ ⟨q,n,rfl,u,B,rfl⟩;refine eP (L':=[lx z o,iT a p.σ.x.s p.r.s,eB g c o.pr]++([x.wE,x.pE]++(gE d e::hE (.chan none) f j::(c7 S X A++(b.all++(dt q (p.m.c8 o.pr).1 n++E)))))) (by rw[Ip];exact bZ) (fw _ _ ?_);refine ao [fB ((p.m.c8 o.pr).2.1) ((p.m.c8 o.pr).2.1) rfl,fB ((p.m.c8 o.pr).2.2) ((p.m.c8 o.pr).2.2) rfl] (dP [0,1,2] (eF ?_));refine du ([x.wE,x.pE]++(gE d e::hE (.chan none) f j::(c7 S X A++(b.all++(dt q (p.m.c8 o.pr).1 n++E))))) ?_;have t:PR.Ok ⟨b,(p.m.c8 o.pr).1,q,n⟩:=⟨aeP m.m _,C,u⟩;have r:goes ⟨b,(p.m.c8 o.pr).1,q,n⟩=goes p:=by unfold goes;rw[anE]
 refine eP (L':=(x.put i ⟨b,(p.m.c8 o.pr).1,q,n⟩ d e f j).all S X A) (aB.exact ?_) (dH [.bool true] _ (No x V W _ d e f j t λk h=>by rw[r,w,h]));rw[Nn x W v B,s];unfold PR.es;simp only[eO,fT,fY]
 ac_rfl
omit Q in
theorem awb (j:o.kind=9):zV S X A x o p:=by
 intro u t z l;have b:=V.ps p (List.mem_of_getElem? W);generalize m:(x.ps.eraseIdx i).flatMap PR.es=E;have r:aB.of (x.ps.flatMap PR.es)=(aB.of p.σ.all).add ((aB.of (dt p.r p.m p.qs)).add (aB.of E)):=by
  rw[Br W,m];unfold PR.es;simp only[eO]
  ac_rfl
 refine ao [2,bR o.kind 2,bR o.kind 3,bR o.kind 4,bR o.kind 5,bR o.kind 6,bR o.kind 7,bR o.kind 8,fB o.kind 9 j,3] (du ((uH x o p z l)++([gE x.a x.b,hE (.chan none) x.c x.d]++(c7 S X A++x.ps.flatMap PR.es))) ?_);have g:∃k,live x.ps=k+goes p:=amE W;have f:p.m.cU=false→∃w,x.a.v=.iface 3 w:=λh=>by
  obtain⟨k,j⟩:=g;rw[V.a,j];unfold goes;rw[h];exact⟨_,rfl⟩
 refine nu (gE x.a x.b::p.σ.all) ((uH x o p z l)++(hE (.chan none) x.c x.d::(c7 S X A++(dt p.r p.m p.qs++E)))) (ZK b.m b.s x.a x.b f) (by(apply aB.exact;simp only[eO,fT,fY,jC,r];try ac_rfl)) ?_;rintro _ _ ⟨c,a,d,rfl,s,q,e,rfl⟩;refine eP (L':=[lx z o,iT l p.σ.x.s p.r.s,p.r.en p.m]++([x.wE,x.pE]++(uT S X A x a d (c.all++(([p.r.sE p.m,p.r.cE,p.r.mE p.m,p.r.lE,p.r.eE p.m]++(p.r.ch.flatMap bn.es++(p.qs.zip p.m.cf).flatMap RC.es))++E))))) (by unfold dt iG;exact bZ) (fw _ _ ?_);refine ao [1,2] (dP [0,1] (eF ?_));refine du ([p.r.en {p.m with cU:=true}]++([x.wE,x.pE]++(uT S X A x a d (c.all++(([p.r.sE p.m,p.r.cE,p.r.mE p.m,p.r.lE,p.r.eE p.m]++(p.r.ch.flatMap bn.es++(p.qs.zip p.m.cf).flatMap RC.es))++E))))) ?_;have n:PR.Ok ⟨c,{p.m with cU:=true},p.r,p.qs⟩:=⟨abK b.m,s,⟨b.r.ch.same rfl rfl,b.r.cl,b.r.cn⟩⟩;refine eP (L':=(x.put i ⟨c,{p.m with cU:=true},p.r,p.qs⟩ a d x.c x.d).all S X A) (aB.exact ?_) (dH [.bool true] _ (No x V W _ a d x.c x.d n λk h=>?_))
 ·rw[Nn x W (p':=⟨c,{p.m with cU:=true},p.r,p.qs⟩) q rfl,m]
  show _=(aB.of [x.wE,x.pE]).add ((aB.of [gE a d,hE (.chan none) x.c x.d]).add ((aB.of (c7 S X A)).add ((aB.of (c.all++([p.r.en {p.m with cU:=true},p.r.sE p.m,p.r.cE,p.r.mE p.m,p.r.lE,p.r.eE p.m]++(p.r.ch.flatMap bn.es++(p.qs.zip p.m.cf).flatMap RC.es)))).add (aB.of E))));simp only[eO,fT,fY]
  ac_rfl
 ·show a.v=rI k
  cases aF:p.m.cU with
  |true=>
   rw[aF,if_pos rfl]at e;rw[e,h];unfold goes;rw[aF];rfl
  |false=>
   rw[aF,if_neg aX]at e;have:goes p=1:=by unfold goes;rw[aF];rfl
   rw[this,e]at h;simp only[rI,Value.iface.injEq,true_and]at h;exact h
omit Q W in
theorem av7 (hk:∀k:Nat,k<10→1<k→o.kind≠k):zV S X A x o p:=by
 intro c b z a;refine eP (L':=(uI o p z a)++([x.wE,x.pE]++(uT S X A x x.a x.b (x.ps.flatMap PR.es)))) bZ (fw _ _ ?_);refine ao [0,bR o.kind 2 (hk 2 aX aX),bR o.kind 3 (hk 3 aX aX),bR o.kind 4 (hk 4 aX aX),bR o.kind 5 (hk 5 aX aX),bR o.kind 6 (hk 6 aX aX),bR o.kind 7 (hk 7 aX aX),bR o.kind 8 (hk 8 aX aX),bR o.kind 9 (hk 9 aX aX)] (dP [0,1] (eF ?_));refine du ([x.wE,x.pE]++(uT S X A x x.a x.b (x.ps.flatMap PR.es))) ?_;exact dH [.bool true] _ ⟨x,rfl,V,rfl,Nat.le_succ _,rfl⟩
omit Q in
theorem av2 (hk:o.kind=5):zV S X A x o p:=by
 intro g f z a;have b:=V.ps p (List.mem_of_getElem? W);generalize d:(x.ps.eraseIdx i).flatMap PR.es=E;have e:aB.of (x.ps.flatMap PR.es)=(aB.of p.σ.all).add ((aB.of (dt p.r p.m p.qs)).add (aB.of E)):=by
  rw[Br W,d];unfold PR.es;simp only[eO]
  ac_rfl
 refine ao [2,bR o.kind 2,bR o.kind 3,bR o.kind 4,fB o.kind 5 hk,3,3] (du ((uH x o p z a)++([gE x.a x.b,hE (.chan none) x.c x.d]++(c7 S X A++x.ps.flatMap PR.es))) ?_);have c:aB.of (x.ps.flatMap PR.es)=(aB.of ([(p.σ.x.aL 0).en,p.σ.x.eE,p.r.en p.m,p.r.eE p.m])).add ((aB.of ([p.σ.x.uE (p.σ.u.by p.σ.k0),p.σ.k0.wE p.σ.a0 p.σ.b0,dE p.σ.k0.d p.σ.x.s p.σ.n p.σ.st p.σ.ad p.σ.bd,p.σ.x.sE,p.σ.x.cE,p.σ.x.lE,p.σ.x.mE p.σ.ms p.σ.km,p.r.sE p.m,p.r.cE,p.r.mE p.m,p.r.lE]++(p.σ.iQ++(p.r.ch.flatMap bn.es++(p.qs.zip p.m.cf).flatMap RC.es)))).add (aB.of E)):=by
  rw[e];unfold Sg.all Sg.top dt iG Sg.iQ;simp only[eO,fT,fY]
  ac_rfl
 refine nu ([(p.σ.x.aL 0).en,p.σ.x.eE,p.r.en p.m,p.r.eE p.m]) ((uH x o p z a)++(uT S X A x x.a x.b ([p.σ.x.uE (p.σ.u.by p.σ.k0),p.σ.k0.wE p.σ.a0 p.σ.b0,dE p.σ.k0.d p.σ.x.s p.σ.n p.σ.st p.σ.ad p.σ.bd,p.σ.x.sE,p.σ.x.cE,p.σ.x.lE,p.σ.x.mE p.σ.ms p.σ.km,p.r.sE p.m,p.r.cE,p.r.mE p.m,p.r.lE]++(p.σ.iQ++(p.r.ch.flatMap bn.es++(p.qs.zip p.m.cf).flatMap RC.es))++E))) (amp p.σ.x p.r p.m b.s.ev (by have:=b.m.Fe.1;omega)) (by(apply aB.exact;simp only[eO,fT,fY,jC,c];try ac_rfl)) ?_;rintro _ _ ⟨rfl,rfl⟩;refine eP (L':=(uI o p z a)++([x.wE,x.pE]++(uT S X A x x.a x.b (x.ps.flatMap PR.es)))) (by(apply aB.exact;simp only[eO,fT,fY,jC,c];try ac_rfl)) (fw _ _ ?_);refine ao [] (dP [0,1] (eF ?_));refine du ([x.wE,x.pE]++(uT S X A x x.a x.b (x.ps.flatMap PR.es))) ?_;exact dH [.bool true] _ ⟨x,rfl,V,rfl,Nat.le_succ _,rfl⟩
omit Q in
theorem awa (hk:o.kind=7):zV S X A x o p:=by
 intro g f z b;have a:=V.ps p (List.mem_of_getElem? W);generalize d:(x.ps.eraseIdx i).flatMap PR.es=E;have e:aB.of (x.ps.flatMap PR.es)=(aB.of p.σ.all).add ((aB.of (dt p.r p.m p.qs)).add (aB.of E)):=by
  rw[Br W,d];unfold PR.es;simp only[eO]
  ac_rfl
 refine ao [2,bR o.kind 2,bR o.kind 3,bR o.kind 4,bR o.kind 5,bR o.kind 6,fB o.kind 7 hk,3,3] (du ((uH x o p z b)++([gE x.a x.b,hE (.chan none) x.c x.d]++(c7 S X A++x.ps.flatMap PR.es))) ?_);have c:aB.of (x.ps.flatMap PR.es)=(aB.of ([(p.σ.x.aL 0).en,p.σ.x.sE,p.r.en p.m,p.r.sE p.m])).add ((aB.of ([p.σ.x.uE (p.σ.u.by p.σ.k0),p.σ.k0.wE p.σ.a0 p.σ.b0,dE p.σ.k0.d p.σ.x.s p.σ.n p.σ.st p.σ.ad p.σ.bd,p.σ.x.eE,p.σ.x.cE,p.σ.x.lE,p.σ.x.mE p.σ.ms p.σ.km,p.r.cE,p.r.mE p.m,p.r.lE,p.r.eE p.m]++(p.σ.iQ++(p.r.ch.flatMap bn.es++(p.qs.zip p.m.cf).flatMap RC.es)))).add (aB.of E)):=by
  rw[e];unfold Sg.all Sg.top dt iG Sg.iQ;simp only[eO,fT,fY]
  ac_rfl
 refine nu ([(p.σ.x.aL 0).en,p.σ.x.sE,p.r.en p.m,p.r.sE p.m]) ((uH x o p z b)++(uT S X A x x.a x.b ([p.σ.x.uE (p.σ.u.by p.σ.k0),p.σ.k0.wE p.σ.a0 p.σ.b0,dE p.σ.k0.d p.σ.x.s p.σ.n p.σ.st p.σ.ad p.σ.bd,p.σ.x.eE,p.σ.x.cE,p.σ.x.lE,p.σ.x.mE p.σ.ms p.σ.km,p.r.cE,p.r.mE p.m,p.r.lE,p.r.eE p.m]++(p.σ.iQ++(p.r.ch.flatMap bn.es++(p.qs.zip p.m.cf).flatMap RC.es))++E))) (amt p.σ.x p.r p.m (by rw[a.s.si];exact aaI _ a.m.si) a.s.ck (by have:=a.m.s;omega)) (by(apply aB.exact;simp only[eO,fT,fY,jC,c];try ac_rfl)) ?_;rintro _ _ ⟨rfl,rfl⟩;refine eP (L':=(uI o p z b)++([x.wE,x.pE]++(uT S X A x x.a x.b (x.ps.flatMap PR.es)))) (by(apply aB.exact;simp only[eO,fT,fY,jC,c];try ac_rfl)) (fw _ _ ?_);refine ao [] (dP [0,1] (eF ?_));refine du ([x.wE,x.pE]++(uT S X A x x.a x.b (x.ps.flatMap PR.es))) ?_;exact dH [.bool true] _ ⟨x,rfl,V,rfl,Nat.le_succ _,rfl⟩
omit Q in
theorem step_marks (hk:o.kind=8):zV S X A x o p:=by
 intro k j z b;have a:=V.ps p (List.mem_of_getElem? W);generalize f:(x.ps.eraseIdx i).flatMap PR.es=E;have g:aB.of (x.ps.flatMap PR.es)=(aB.of p.σ.all).add ((aB.of (dt p.r p.m p.qs)).add (aB.of E)):=by
  rw[Br W,f];unfold PR.es;simp only[eO]
  ac_rfl
 have d:p.σ.x.ch.length=p.m.bw.length:=by
  have:=congrArg List.length a.s.vs;simp only[List.length_map]at this;rw[a.s.ch,List.length_map,this]
 have l:=a.m.k;have h:=a.m.ml;have e:oN p.σ.ms p.σ.x.ch.length=iK p.m.marks p.m.marks.length:=by rw[d,←h];exact YT a.s.mm _ (Nat.le_refl _)
 refine ao [2,bR o.kind 2,bR o.kind 3,bR o.kind 4,bR o.kind 5,bR o.kind 6,bR o.kind 7,fB o.kind 8 hk,3,3] (du ((uH x o p z b)++([gE x.a x.b,hE (.chan none) x.c x.d]++(c7 S X A++x.ps.flatMap PR.es))) ?_);have c:aB.of (x.ps.flatMap PR.es)=(aB.of ([(p.σ.x.aL 0).en,p.σ.x.mE p.σ.ms p.σ.km,p.r.en p.m,p.r.mE p.m])).add ((aB.of ([p.σ.x.uE (p.σ.u.by p.σ.k0),p.σ.k0.wE p.σ.a0 p.σ.b0,dE p.σ.k0.d p.σ.x.s p.σ.n p.σ.st p.σ.ad p.σ.bd,p.σ.x.eE,p.σ.x.sE,p.σ.x.cE,p.σ.x.lE,p.r.sE p.m,p.r.cE,p.r.lE,p.r.eE p.m]++(p.σ.iQ++(p.r.ch.flatMap bn.es++(p.qs.zip p.m.cf).flatMap RC.es)))).add (aB.of E)):=by
  rw[g];unfold Sg.all Sg.top dt iG Sg.iQ;simp only[eO,fT,fY]
  ac_rfl
 refine nu ([(p.σ.x.aL 0).en,p.σ.x.mE p.σ.ms p.σ.km,p.r.en p.m,p.r.mE p.m]) ((uH x o p z b)++(uT S X A x x.a x.b ([p.σ.x.uE (p.σ.u.by p.σ.k0),p.σ.k0.wE p.σ.a0 p.σ.b0,dE p.σ.k0.d p.σ.x.s p.σ.n p.σ.st p.σ.ad p.σ.bd,p.σ.x.eE,p.σ.x.sE,p.σ.x.cE,p.σ.x.lE,p.r.sE p.m,p.r.cE,p.r.lE,p.r.eE p.m]++(p.σ.iQ++(p.r.ch.flatMap bn.es++(p.qs.zip p.m.cf).flatMap RC.es))++E))) (amu p.σ.x p.σ.ms p.σ.km p.r p.m e ai ai) (by(apply aB.exact;simp only[eO,fT,fY,jC,c];try ac_rfl)) ?_;rintro _ _ ⟨rfl,rfl⟩;refine eP (L':=(uI o p z b)++([x.wE,x.pE]++(uT S X A x x.a x.b (x.ps.flatMap PR.es)))) (by(apply aB.exact;simp only[eO,fT,fY,jC,c];try ac_rfl)) (fw _ _ ?_);refine ao [] (dP [0,1] (eF ?_));refine du ([x.wE,x.pE]++(uT S X A x x.a x.b (x.ps.flatMap PR.es))) ?_;exact dH [.bool true] _ ⟨x,rfl,V,rfl,Nat.le_succ _,rfl⟩
end
section
variable {S:Hp}{V:ae Nat}{A:Nat->aR}(x:WS)(X:x.Ok)(o:lG)(T:o.Ok S V){i:Nat}{p:PR}(W:x.ps[i]?=Z p)
include X W T
omit X W in
theorem amq(a8:p.Ok):∃L0 Lr,aB.of p.es=(aB.of L0).add (aB.of Lr)/\Fl Sv 52 [.agg #[pt p.σ.x.s,pt p.r.s],ah o.A,ah o.B].toArray L0 λv L=>v=.bool U/\L=L0:=by
 have dI:p.σ.bj.length=p.m.bw.length:=by have:=congrArg List.length a8.s.vs;simpa using this
 have Q7:p.σ.x.ch.length=p.m.bw.length:=by rw[a8.s.ch,iV,dI]
 have hrc:=a8.r.ch.len;by_cases hk:o.A<0\/(p.m.bw.length:Int)<=o.A
 ·refine⟨[(p.σ.x.aL 0).en,p.r.en p.m],[p.σ.x.uE (p.σ.u.by p.σ.k0),p.σ.k0.wE p.σ.a0 p.σ.b0,dE p.σ.k0.d p.σ.x.s p.σ.n p.σ.st p.σ.ad p.σ.bd,p.σ.x.eE,p.σ.x.sE,p.σ.x.cE,p.σ.x.lE,p.σ.x.mE p.σ.ms p.σ.km,p.r.sE p.m,p.r.cE,p.r.mE p.m,p.r.lE,p.r.eE p.m]++(p.σ.iQ++(p.r.ch.flatMap bn.es++(p.qs.zip p.m.cf).flatMap RC.es)),?_,ams p.σ.x p.r p.m o.A o.B T.B (axk p.σ.x o.A (by rw[Q7];exact hk)) (by rw[hrc];exact hk)⟩
  unfold PR.es Sg.all Sg.top dt iG Sg.iQ;simp only[eO,fT,fY]
  ac_rfl
 ·obtain⟨k,eX⟩:∃k:Nat,o.A=k:=⟨o.A.toNat,by omega⟩
  rw[eX];have dK:k<p.m.bw.length:=by omega
  obtain⟨l,hl⟩:∃l,p.m.bw[k]?=Z l:=⟨_,dq dK⟩;obtain⟨C,hC⟩:∃C,p.σ.bj[k]?=Z C:=⟨_,dq ai⟩;obtain⟨Cr,uN⟩:∃C,p.r.ch[k]?=Z C:=⟨_,dq ai⟩;have GJ:C.vs=l.reverse:=by
   have h1:(p.σ.bj.map (·.vs))[k]?=Z C.vs:=by rw[fq,hC];rfl
   rw[a8.s.vs,fq,hl]at h1;exact(dQ h1).symm
  have tp:=a8.m.Fe.2 l (lR hl);have hV:=axl p.σ.x C k (by rw[a8.s.ch,fq,hC];rfl) (by rw[GJ,Hz];omega);rw[GJ,List.reverse_reverse,Hz]at hV;refine⟨_,[p.σ.x.uE (p.σ.u.by p.σ.k0),p.σ.k0.wE p.σ.a0 p.σ.b0,dE p.σ.k0.d p.σ.x.s p.σ.n p.σ.st p.σ.ad p.σ.bd,p.σ.x.eE,p.σ.x.sE,p.σ.x.lE,p.σ.x.mE p.σ.ms p.σ.km,p.r.sE p.m,p.r.mE p.m,p.r.lE,p.r.eE p.m]++(p.σ.ux++((p.σ.bj.eraseIdx k).flatMap bI.es++(p.σ.cls.flatMap (PC.es p.σ.x)++((p.r.ch.eraseIdx k).flatMap bn.es++(p.qs.zip p.m.cf).flatMap RC.es)))),?_,amr p.σ.x p.r p.m [p.σ.x.cE,C.hd,C.rw] k o.B T.B l Cr hV (a8.r.ch.is k Cr l uN hl) uN ai⟩;have h1:=FB (uM bI.es _ _ _ hC);unfold PR.es Sg.all Sg.top dt iG;simp only[eO,fT,fY,h1,vX uN,bI.es]
  ac_rfl
theorem av0 (hk:o.kind=6):zV S V A x o p:=by
 intro g f z a;have a8:=X.ps p (List.mem_of_getElem? W);generalize e:(x.ps.eraseIdx i).flatMap PR.es=E;obtain⟨L0,Lr,c,d⟩:=amq o T a8;have b:aB.of (x.ps.flatMap PR.es)=(aB.of L0).add ((aB.of Lr).add (aB.of E)):=by
  rw[Br W,e,c]
  ac_rfl
 refine ao [2,bR o.kind 2,bR o.kind 3,bR o.kind 4,bR o.kind 5,fB o.kind 6 hk,3,3,2,2] (du ([x.wE,x.pE,lx z o,iT a p.σ.x.s p.r.s]++([gE x.a x.b,hE (.chan none) x.c x.d]++(c7 S V A++x.ps.flatMap PR.es))) ?_);refine nu L0 ([x.wE,x.pE,lx z o,iT a p.σ.x.s p.r.s]++(gE x.a x.b::hE (.chan none) x.c x.d::(c7 S V A++(Lr++E)))) d (by(apply aB.exact;simp only[eO,fT,fY,jC,b];try ac_rfl)) ?_;rintro _ _ ⟨rfl,rfl⟩;refine eP (L':=[lx z o,iT a p.σ.x.s p.r.s]++([x.wE,x.pE]++(gE x.a x.b::hE (.chan none) x.c x.d::(c7 S V A++x.ps.flatMap PR.es)))) (by(apply aB.exact;simp only[eO,fT,fY,jC,b];try ac_rfl)) (fw _ _ ?_);refine ao [] (dP [0,1] (eF ?_));refine du ([x.wE,x.pE]++(gE x.a x.b::hE (.chan none) x.c x.d::(c7 S V A++x.ps.flatMap PR.es))) ?_;exact dH [.bool true] _ ⟨x,rfl,X,rfl,Nat.le_succ _,rfl⟩
end
theorem av6{S:Hp}{V:ae Nat}{A:Nat->aR}(b:xh S V A)(x:WS)(X:x.Ok)(o:lG)(T:o.Ok S V)(hl:x.ps.length<2305843009213):Fl Sv 35 [pt x.w,o.v].toArray (x.all S V A) (Ka S V A x):=by
 by_cases h1:o.kind=1
 ·exact av3 x X o h1 hl
 rcases BM x.ps.length with a|a
 ·exact av4 x X o h1 a
 obtain⟨p,W⟩:∃p,x.ps[EW o.W x.ps.length]?=Z p:=⟨_,dq (apd _ _ a)⟩;have r:zV S V A x o p:=by
  by_cases e:o.kind=2
  ·exact av1 b x X o W T e
  by_cases f:o.kind=3
  ·exact av8 b x X o W f
  by_cases g:o.kind=4
  ·exact awc b x X o W g
  by_cases h:o.kind=5
  ·exact av2 x X o W h
  by_cases j:o.kind=6
  ·exact av0 x X o T W j
  by_cases m:o.kind=7
  ·exact awa x X o W m
  by_cases n:o.kind=8
  ·exact step_marks x X o W n
  by_cases q:o.kind=9
  ·exact awb x X o W q
  refine av7 x X o λk u t hk=>?_;have:k=2\/k=3\/k=4\/k=5\/k=6\/k=7\/k=8\/k=9:=by omega
  rcases this with rfl|rfl|rfl|rfl|rfl|rfl|rfl|rfl<;>contradiction
 exact Fl.of 195 λd c=>av9 x o h1 a hl T.W p W λz s=>r d c z s
structure SP where
 σ:Sg
 m:Mo
structure SP.Ok(p:SP):Prop where
 m:p.m.Ok
 s:lH p.m p.σ
def SP.es(p:SP):ae En:=p.σ.all
def B8(p:SP):Nat:=if p.m.cU then 0 else 1
def Bg(a:ae SP):Nat:=(a.map B8).sum
theorem Yw:∀{ps:ae SP},(∀p∈ps,p.m.cU=U)->Bg ps=0
 |[],_=>rfl
 |p::ps,h=>by
  have a:=Yw (ps:=ps) λq c=>h q (eK _ c);have b:=h p (fu ..);unfold Bg at a⊢;rw[ft,xd,a];unfold B8;rw[b];rfl
theorem abA{ps:ae SP}{i:Nat}{p:SP}(h:ps[i]?=Z p):aB.of (ps.flatMap SP.es)=(aB.of p.σ.all).add (aB.of ((ps.eraseIdx i).flatMap SP.es)):=FB (uM SP.es _ _ _ h)
theorem avI{a:ae SP}{i:Nat}{p b:SP}(h:a[i]?=Z p):aB.of ((a.set i b).flatMap SP.es)=(aB.of b.σ.all).add (aB.of ((a.eraseIdx i).flatMap SP.es)):=by
 have c:=(dv.1 h).1;have:=abA (ps:=a.set i b) (i:=i) (p:=b) (by rw[sJ c]);rw[this,Fw]
theorem awi{m:Mo}{n k:Nat}{a d:Gc}(b:if m.cU then d.v=a.v else a.v=.iface 3 d.v)(h:a.v=rI n)(c:n=k+(if m.cU then 0 else 1)):d.v=rI k:=by
 cases aF:m.cU with
 |true=>
  rw[aF,if_pos F]at b c;rw[b,h,c];rfl
 |false=>
  rw[aF,if_neg aX]at b c;rw[c,b]at h;simp only[rI,Value.iface.injEq,true_and]at h;exact h
theorem awj{m:Mo}{n k:Nat}{a:Gc}(h:a.v=rI n)(b:n=k+(if m.cU then 0 else 1)):m.cU=Y->∃w,a.v=.iface 3 w:=λc=>by
 rw[h,b,c];exact⟨_,F⟩
abbrev yH(w:Nat)(g:aj Nat)(n a:Nat):En:=.ob w (.cells #[sv g n a] 74)
theorem awm (w:Nat) (g:Option Nat) (cap:Nat) (xs:List Value) (ss:List SP) (a:Gc) (b:Nat) (hs:∀p∈ss,p.Ok) (o:a.v=rI (Bg ss)) (t:∀(j:Nat)(p:SP),ss[j]?=some p→xs[j*2]?=some (pt p.σ.x.s)) (hl:ss.length<2305843009213):Fl Sv 36 [pt w].toArray ([yH w g ss.length cap,.row 123 2 g ss.length cap xs]++(gE a b::ss.flatMap SP.es)) λv L=>v=.tuple #[]∧∃f h,f.v=goInt 0∧L=[gE f h]:=by
 refine Um (R:=λv L=>v=.tuple #[]∧∃(f:Gc)(h:Nat)(x:List SP),f.v=goInt 0∧L=[yH w g ss.length cap,.row 123 2 g ss.length cap xs]++(gE f h::x.flatMap SP.es)) ?_ ?_
 rotate_left
 ·rintro v _ ⟨rfl,f,h,x,O,rfl⟩
  exact⟨[yH w g ss.length cap,.row 123 2 g ss.length cap xs]++x.flatMap SP.es,_,⟨rfl,f,h,O,rfl⟩,by exact bZ⟩
 generalize T:ss.length=n at*;refine Fl.of 21 λcs L2=>ao [.g,.x] ?_;refine j4 (ι:=Nat×List SP×Gc×Nat) (λi=>n-i.1) (λi=>[(0,pt w),(2,goInt i.1)]) (λi=>[yH w g n cap,.row 123 2 g n cap xs]++(gE i.2.2.1 i.2.2.2::i.2.1.flatMap SP.es)) (λi=>i.1≤n∧i.2.1.length=n∧(∀p∈i.2.1,p.Ok)∧i.2.2.1.v=rI (Bg i.2.1)∧(∀(j:Nat)(p:SP),i.2.1[j]?=some p→xs[j*2]?=some (pt p.σ.x.s))∧∀j p,j<i.1→i.2.1[j]?=some p→p.m.cU=true) (0,ss,a,b) ⟨Nat.zero_le _,T,hs,o,t,λj p r=>absurd r (Nat.not_lt_zero _)⟩ ?_;rintro⟨i,d,a,b⟩ ⟨S,C,A,o,t,z⟩ H;simp only at S C A o t z H;by_cases aE:i<n
 ·obtain⟨p,m⟩:∃p,d[i]?=some p:=⟨_,List.getElem?_eq_getElem ai⟩
  have y:=A p (List.mem_of_getElem? m);have X:=Hs B8 d i p p m;have s:∃k,Bg d=k+B8 p:=by
   refine⟨((d.eraseIdx i).map B8).sum,?_⟩;have e:d.Perm (p::d.eraseIdx i):=by
    have:=uM (λq:SP=>[q]) d i p m;simpa using this
   have:=(e.map B8).sum_nat;simp only[List.map_cons,List.sum_cons]at this;unfold Bg;omega
  obtain⟨k,s⟩:=s;generalize J:(d.eraseIdx i).flatMap SP.es=E;have K:=abA m;rw[J]at K;have G:=t i p m;refine lF 1 g n cap ai λl Q _=>?_;subst Q;refine fw _ _ ?_;refine ao [0,fp i n,0,iX 72 2 l cap aE,rr 1 G] (eF ?_);refine du ([yH w (some l) n cap,.row 123 2 (some l) n cap xs]++(gE a b::d.flatMap SP.es)) ?_;refine nu (gE a b::p.σ.all) ([yH w (some l) n cap,.row 123 2 (some l) n cap xs]++E) (ZK y.m y.s a b (awj o s)) (by(apply aB.exact;simp only[eO,fT,fY,jC,K];try ac_rfl)) ?_;rintro _ _ ⟨u,f,h,rfl,W,M,N,rfl⟩;refine eP (L':=[yH w (some l) n cap,.row 123 2 (some l) n cap xs]++(gE f h::(d.set i ⟨u,{p.m with cU:=true}⟩).flatMap SP.es)) (by
   apply aB.exact;simp only[eO,fT,fY,avI m,J]
   ac_rfl) ?_
  have B:=H (i+1,d.set i ⟨u,{p.m with cU:=true}⟩,f,h) (by simp only;omega) ⟨aE,by simp only[List.length_set];exact C,?_,?_,?_,?_⟩
  ·refine fw _ _ (ao [aS i,.g,.x] (eF ?_))
   exact cx B
  ·intro q c
   rcases List.mem_or_eq_of_mem_set c with c|rfl
   ·exact A q c
   ·exact⟨abK y.m,W⟩
  ·simp only
   have P:Bg (d.set i ⟨u,{p.m with cU:=true}⟩)=k:=by
    have:=Hs B8 d i p ⟨u,{p.m with cU:=true}⟩ m;have D:B8 ⟨u,{p.m with cU:=true}⟩=0:=rfl;unfold Bg at s⊢;omega
   rw[P];exact awi N o s
  ·intro j q c
   simp only at c;by_cases e:i=j
   ·subst e
    rw[List.getElem?_set_self ai]at c;cases c;rw[G,M]
   ·rw[List.getElem?_set_ne e]at c
    exact t j q c
  ·intro j q r c
   simp only at r c;by_cases e:i=j
   ·subst e
    rw[List.getElem?_set_self ai]at c;cases c;rfl
   ·rw[List.getElem?_set_ne e]at c
    exact z j q ai c
 ·have V:i=n:=by omega
  subst V;refine fw _ _ (ao [0,fH i i] (eF ?_));refine dH [] _ ⟨rfl,a,b,d,?_,rfl⟩;have D:=Yw (ps:=d) λq c=>by
   obtain⟨j,r⟩:=List.getElem?_of_mem c;exact z j q (by have:=(List.getElem?_eq_some_iff.1 r).1;omega) r
  rw[o,D];rfl
def Yu(t:aJ)(p:ag):Sem Next:=qo (sI t p) λv=>.pure (.value v)
def lG.cells(o:lG):ae ag:=[ah o.kind,ah o.W,ah o.A,ah o.B,ah o.C,o.P]
theorem lG.len(o:lG):o.cells.length=6:=rfl
def SZ(b:af ag)(a:Nat)(c:ae lG):Prop:=∀i o,c[i]?=Z o->∀j u,o.cells[j]?=Z u->b.toList[a+i*6+j]?=Z u
structure FO(S:Hp)(ex:ae Nat)(M:ae En)(ad:aj aR)(os:ae lG):Prop where
 ld:∃b off,(0<os.length->ad=Z ⟨b,off,I⟩)/\(∀i o,os[i]?=Z o->∀L2 R0,nS Sv L2 (M++(.ro S ex::R0)) (Yu 44 (.pointer (Z ⟨b,off+i*6,I⟩))) λu L'=>u=o.v/\L'=M++(.ro S ex::R0))/\(∀i o,os[i]?=Z o->∀L2 R0,nS Sv L2 (M++(.ro S ex::R0)) (Yu 3 (.pointer (Z ⟨b,off+i*6,I⟩))) λu L'=>u=ah o.kind/\L'=M++(.ro S ex::R0))
 ok:∀o∈os,o.Ok S ex
 len:os.length<=2199023255552
theorem asq{S:Hp}{c:List Nat}{b a:Nat}{d:Array Value}{k:TypeId}{f:Nat×Nat}{e:List lG}(m:S[b]?=some (.cells d k f))(p:b∉c)(l:b≠8)(q:b≠10)(n:SZ d a e)(t:∀o∈e,o.Ok S c)(j:e.length≤2199023255552):FO S c [] (some ⟨b,a,none⟩) e:=⟨⟨b,a,λ_=>rfl,λi o g r s=>by
                                                                                                                                                                                                                                have h:=n i o g;refine roB 0 S c b (.cells d k f) _ o.v [rr 0 (h 0 _ rfl),rr 0 (h 1 _ rfl),rr 0 (h 2 _ rfl),rr 0 (h 3 _ rfl),rr 0 (h 4 _ rfl),rr 0 (h 5 _ rfl)] m l q p,λi o g r s=>by
                                                                                                                                                                                                                                have h:=n i o g;refine roB 0 S c b (.cells d k f) _ (goInt o.kind) [rr 0 (h 0 _ rfl)] m l q p⟩,t,j⟩
theorem asp{S:Hp}{c:ae Nat}(b:aj aR):FO S c [] b []:=⟨⟨0,0,λh=>absurd h aZ,λi o a=>by simp at a,λi o a=>by simp at a⟩,λo a=>by simp at a,by simp⟩
def upR(S:Hp)(e:ae Nat)(A:Nat->aR)(M:ae En)(v:ag)(L:ae En):Prop:=v=ah (-1)/\∃(a:Gc)(b c d:Nat),a.v=ah 0/\L=M++(.ro S e::(k8 A++[gE a b,hE (.chan I) c d]))
theorem Ur{P:aA}{X:Cx}{a:ae aK}{c:ae bV}{b:Env}{L:ae En}:∀(G:ae En),Rs P X a c b L->Rs P X a c b (G++L)
 |[],h=>h
 |_::G,h=>BQ (Ur G h)
def PR.sp(p:PR):SP:=⟨p.σ,p.m⟩
def PR.rf(p:PR):ae En:=dt p.r p.m p.qs
theorem ZM:∀a:ae PR,aB.of (a.flatMap PR.es)=(aB.of ((a.map PR.sp).flatMap SP.es)).add (aB.of (a.flatMap PR.rf))
 |[]=>rfl
 |p::a=>by
  have b:=ZM a;show aB.of ((p.σ.all++dt p.r p.m p.qs)++a.flatMap PR.es)=(aB.of (p.σ.all++(a.map PR.sp).flatMap SP.es)).add (aB.of (dt p.r p.m p.qs++a.flatMap PR.rf));simp only[eO,b]
  ac_rfl
theorem axj {S:Hp} {ex:List Nat} {A:Nat→Addr} (hA:xh S ex A) (M:List En) (ad:Option Addr) (os:List lG) (cap:Nat) (hs:FO S ex M ad os) (a:Gc) (b c d:Nat) (ha:a.v=goInt 0):Fl Sv 19 [.slice ad os.length cap].toArray (M++(.ro S ex::(k8 A++[gE a b,hE (.chan none) c d]))) (upR S ex A M):=by
 obtain⟨⟨Q,t,n,r,_⟩,C,u⟩:=hs;refine Fl.of 31 λT R=>?_;refine eP (L':=[]++(M++(.ro S ex::(k8 A++[gE a b,hE (.chan none) c d])))) (.refl _) (fw _ _ ?_);refine cd (λ_=>[.g,.x]) λw=>jJ 123 2 (eF ?_);refine du ([yH w none 0 0,.row 123 2 none 0 0 []]++(M++(.ro S ex::(k8 A++[gE a b,hE (.chan none) c d])))) ?_;refine eP (L':=M++(.ro S ex::([yH w none 0 0,.row 123 2 none 0 0 []]++(gE a b::hE (.chan none) c d::(k8 A++[]))))) bZ ?_;refine j4 (ι:=Nat×WS) (λi=>os.length-i.1) (λi=>[(0,.slice ad os.length cap),(3,pt w),(4,goInt (-1)),(5,goInt i.1)]) (λi=>M++(.ro S ex::([i.2.wE,i.2.pE]++(gE i.2.a i.2.b::hE (.chan none) i.2.c i.2.d::(k8 A++i.2.ps.flatMap PR.es))))) (λi=>i.1≤os.length∧i.2.Ok∧i.2.w=w∧i.2.ps.length≤i.1) (0,⟨w,none,0,[],a,b,c,d⟩) ⟨Nat.zero_le _,⟨λp f=>by simp at f,ha⟩,rfl,Nat.le_refl _⟩ ?_;rintro⟨i,x⟩ ⟨L,g,y,N⟩ z;simp only at L g y N z;subst y;by_cases aE:i<os.length
 ·obtain⟨o,v⟩:∃o,os[i]?=some o:=⟨_,List.getElem?_eq_getElem aE⟩
  have P:=C o (List.mem_of_getElem? v);have l:=n ai;subst l;have s:∀e:WS,e.Ok→e.w=x.w→e.ps.length≤i+1→Rs Sv _ _ _ _ _:=λe H J K=>z (i+1,e) (by simp only;omega) ⟨aE,H,J,K⟩;refine ao [fp i os.length,fp i 1152921504606846976,Jn 22 6 Q t cap aE] ?_;refine du (M++(.ro S ex::([x.wE,x.pE]++(gE x.a x.b::hE (.chan none) x.c x.d::(k8 A++x.ps.flatMap PR.es))))) (iW (r i o v _ _) ?_);rintro _ _ ⟨rfl,rfl⟩;refine ao [] (du (M++(.ro S ex::([x.wE,x.pE]++(gE x.a x.b::hE (.chan none) x.c x.d::(k8 A++x.ps.flatMap PR.es))))) ?_);refine nu (x.all S ex A) M (av6 hA x g o P ai) (by unfold WS.all;rw[Ip];exact bZ) ?_;rintro _ _ ⟨e,rfl,D,B,V,rfl⟩;refine eP (L':=M++(.ro S ex::([e.wE,e.pE]++(gE e.a e.b::hE (.chan none) e.c e.d::(k8 A++e.ps.flatMap PR.es))))) (by unfold WS.all;rw[Ip];exact bZ) ?_;refine ao [aS i,.g,.x] ?_;exact cx (s e D B ai)
 ·have O:i=os.length:=by omega
  subst O;refine ao [fH os.length os.length] (du (M++(.ro S ex::([x.wE,x.pE]++(gE x.a x.b::hE (.chan none) x.c x.d::(k8 A++x.ps.flatMap PR.es))))) ?_);have E:=ZM x.ps;refine nu ([yH x.w x.g (x.ps.map PR.sp).length x.cap,.row 123 2 x.g (x.ps.map PR.sp).length x.cap (x.ps.flatMap PR.cells)]++(gE x.a x.b::(x.ps.map PR.sp).flatMap SP.es)) (M++(.ro S ex::(hE (.chan none) x.c x.d::(k8 A++x.ps.flatMap PR.rf)))) (awm x.w x.g x.cap (x.ps.flatMap PR.cells) (x.ps.map PR.sp) x.a x.b ?_ ?_ ?_ ?_) ?_ ?_
  ·intro p f
   obtain⟨q,h,rfl⟩:=List.mem_map.1 f;exact⟨(g.ps q h).m,(g.ps q h).s⟩
  ·rw[g.a]
   unfold live Bg;rw[List.map_map];rfl
  ·intro j p f
   rw[List.getElem?_map]at f;obtain⟨q,h,rfl⟩:=Option.map_eq_some_iff.1 f;exact dS PR.len x.ps j 0 q aX h
  ·rw[List.length_map]
   omega
  ·rw[List.length_map]
   rw[show x.wE=yH x.w x.g x.ps.length x.cap from rfl,show x.pE=.row 123 2 x.g x.ps.length x.cap (x.ps.flatMap PR.cells)from rfl]
   (apply aB.exact;simp only[eO,fT,fY,jC,E];try ac_rfl)
  rintro _ _ ⟨rfl,k,m,G,rfl⟩;refine eP (L':=x.ps.flatMap PR.rf++(M++(.ro S ex::(k8 A++[gE k m,hE (.chan none) x.c x.d])))) bZ ?_;refine ao [] (du (x.ps.flatMap PR.rf++(M++(.ro S ex::(k8 A++[gE k m,hE (.chan none) x.c x.d])))) (Ur _ ?_));exact dH [goInt (-1)] _ ⟨rfl,k,m,x.c,x.d,G,rfl⟩
def MQ(S:Hp)(X:ae Nat)(A:Nat->aR)(v:ag)(L:ae En):Prop:=v=.bool U/\∃(e:Gc)(f g h:Nat),e.v=ah 0/\L=.ro S X::(k8 A++[gE e f,hE (.chan I) g h])
abbrev ub(S:Hp)(X:ae Nat)(A:Nat->aR)(a:Gc)(b c d:Nat):ae En:=.ro S X::(k8 A++[gE a b,hE (.chan I) c d])
section
variable {S:Hp}{X:ae Nat}{A:Nat->aR}(T:xh S X A)(W:aj aR)(P:ae lG)(V:Nat)(Q:FO S X [] W P)(a:Gc)(b c d:Nat)(R:a.v=ah 0)
include T Q R
end
end
end Go.Proofs.YtgahemdblfapeaaGreatDoor
