/- Helper lemmas, part 7: what the steps of the program do in the model; each holds under its own hypotheses. -/
import Derived.Test.YtgahemdblfapeabGreatDoorA06
set_option maxRecDepth 100000
set_option maxHeartbeats 4000000
set_option linter.all false
namespace Go.Proofs.YtgahemdblfapeabGreatDoor
open Go.Conc
open _root_.Bool renaming false→Y,false_eq_true→hZ,true→U
open Go renaming Addr→aU,Deferred→cz,Frame→aA,FuncId→cH,Item→aJ,Program→aD,TypeId→aK,Value→ag,goInt→ai,undef→aB
open Go.Frame renaming enter→bO
open Go.Instr renaming loadAt→uG,sliceAt→aBq,sliceBound→aBu
open Go.Next renaming value→mR
open Go.Result renaming andThen→fy
open Go.Sem renaming bind→tB,pure→qi,run→bP
open _root_.List renaming Perm→rT,append_assoc→iL,eraseIdx_set_eq→aBO,flatMap_append→IE,flatMap_cons→vp,getD_eq_getElem?_getD→wI,getElem?_append_left→LZ,getElem?_append_right→Ma,getElem?_eq_getElem→eI,getElem?_eq_none→Gr,getElem?_eq_some_iff→dq,getElem?_map→fW,getElem?_set_ne→rK,getElem?_set_self→zD,getElem?_take→aBL,length_append→oe,length_eq_zero_iff→IF,length_map→jM,length_nil→tc,length_reverse→IH,length_set→wJ,length_take→CF,map_cons→fw,map_set→wL,mem_append→pz,mem_cons→bM,mem_cons_of_mem→eK,mem_cons_self→eX,mem_of_getElem?→jZ,mem_singleton→my,pairwise_append→CH,pairwise_cons→mQ,perm_append_comm→lD,replicate→kq,sum_cons→aBv
open _root_.List.Perm renaming append_left→Gq,swap→CC
open _root_.Nat renaming eq_zero_or_pos→zG,le_refl→dt,le_succ→wM,mul_one→x9,zero_le→gJ
open _root_.Option renaming map_some→jE,none→I,some→Z
open _root_.Option.some renaming inj→ee
section
def hiS(t:aK)(x a:ag):Sem Next:=tB (aBq t x I (Z a) I) λv=>.pure (.value v)
theorem aDF{P}{t b n a}{g}{k:Int}{i:Nat}(f:k=i)(p:i<=a)(h:oG P t b=U)(w):(hiS t (sv g n a) (ai k)).run P w=.ok (.value (sv g i a)) w:=by
 subst f;unfold oG at h;split at h
 ·rename_i e l
  split at h
  ·rename_i o d
   show((aBq t (sv g n a) I (Z (ai i)) I)>>=λv=>(qi (mR v))).run P w=_;have m:=zy l w;have j:=Lv d w;have c:bP P (aBu (ai i) a .sliceAcap) w=.ok i w:=by
    unfold aBu;simp only[fK,ai,asIntOf,pure,bP,fy];rw[if_pos (by constructor<;>omega)];simp[]
   unfold aBq Instr.slice;simp only[fK,m,fy,Instr.sliceBounds,pure,bP,if_true,c,j,Nat.zero_mul];cases g with
   |none=>simp
   |some g=>
    simp only[jE];have:(⟨g,0,I⟩:aU).add 0=⟨g,0,I⟩:=by
     unfold Addr.add;simp
    rw[this];simp
  ·cases h
 ·cases h
abbrev hiA{P}(t b)(g:aj Nat)(n a:Nat)(k:Int)(i:Nat)(c:k=i/\i<=a)(h:oG P t b=U:=by kernel_rfl):Aw P:=.s (hiS t (sv g n a) (ai k)) _ (aDF c.1 c.2 h)
theorem aB6{P}{X}{a}{c}{b}{L}(E)(LL)(d)(f:Rs P X (nx P X a c b L d).todo c E LL->Rs P X a c b L)(e:Rs P X (nx P X a c b L d).todo c E LL):Rs P X a c b L:=f e
abbrev aB8{P}(b:Bool):Aw P:=.e _ (.bool b) F
theorem ahr{n}(h:n<=0\/n>2000):sA n=2000:=by
 unfold sA;rw[if_neg ah]
theorem aCP{n}(a:¬n<=0)(b:¬n>2000):(sA n)=n:=by
 unfold sA;by_cases h:n=2000
 ·simp_all
 ·grind
theorem aDN(x:aR)(r:RS)(m:Mo)(A:ae En)(o:Nat)(n:Int)(hn:-9223372036854775808<=n/\n<9223372036854775808)(l:ae aZ)(C:a7)(D:Fl Sv 92 [pt x.s,ai o].toArray ((x.bf 0).en::A) (V7 x A l.length l))(y:C.Is l)(R:r.ch[o]?=Z C)(hl:l.length<1000000):Fl Sv 19 [.agg #[pt x.s,pt r.s],ai o,ai n].toArray ((x.bf 0).en::r.en m::r.cE::C.en::A) λv L=>v=.bool U/\L=(x.bf 0).en::r.en m::r.cE::C.en::A:=by
 obtain⟨k,j,h,d⟩:=C;have X:o<r.ch.length:=(dq.1 R).1;have hg:(r.ch.map a7.v)[o*1]?=Z (a7.v ⟨k,j,h,d⟩):=by rw[x9,fW,R];rfl
 refine Fl.of 96 λcs L2=>?_;refine cF [(x.bf 0).en,r.en m,r.cE,a7.en ⟨k,j,h,d⟩] A ?_;refine di (λ_=>[4]) λz=>?_;refine bE ?_;refine cM ([(x.bf 0).en,r.en m,r.cE,a7.en ⟨k,j,h,d⟩,oP z x.s r.s]++A) ?_;refine im _ [r.en m,r.cE,a7.en ⟨k,j,h,d⟩,oP z x.s r.s] (arB x o n hn l A D hl) cx ?_;rintro _ _ ⟨g,c,rfl,rfl⟩;refine du (L':=[oP z x.s r.s,vR g (l.take (sA n)).length c (l.take (sA n)),r.en m,r.cE,a7.en ⟨k,j,h,d⟩]++((x.bf 0).en::A)) cx ?_;generalize hK:(l.take (sA n)).length=K;refine cF _ _ ?_;refine av [He o 0,0,2,fu o r.ch.length,0,2,iX 56 1 r.cb r.ch.length X,rr 3 hg] ?_;refine bE ?_;refine cM ([oP z x.s r.s,vR g K c (l.take (sA n)),r.en m,r.cE,a7.en ⟨k,j,h,d⟩]++((x.bf 0).en::A)) ?_;refine du (L':=oP z x.s r.s::([vR g K c (l.take (sA n)),a7.en ⟨k,j,h,d⟩]++([(x.bf 0).en,r.en m,r.cE]++A))) cx (Bf ?_);refine cF _ _ ?_;have S:j=l.length:=y.n;obtain⟨N,B⟩:∃N:Int,N=sA n:=⟨_,F⟩;have t:K=if sA n<=l.length then sA n else l.length:=by
  rw[<-hK,CF];split<;>omega
 refine aB6 [(7,sv g K c),(8,sv k j h),(2,ai N),(41,ai N),(43,ai j)] [vR g K c (l.take (sA n)),a7.en ⟨k,j,h,d⟩] [aB8 U] (λf=>?_) ?_
 ·by_cases p:n<=0
  ·have e:N=2000:=by rw[B,ahr (.inl p)];rfl
   subst e;exact av [bT p] (cq f)
  ·by_cases w:n>2000
   ·have e:N=2000:=by rw[B,ahr (.inr w)];rfl
    subst e;exact av [bF p,bT w] (cq f)
   ·have e:N=n:=by rw[B,aCP p w]
    subst e;exact av [bF p,bF w] (cq f)
 refine aB6 [(7,sv g K c),(8,sv k K h),(49,ai K),(51,ai K)] [vR g K c (l.take (sA n)),a7.en ⟨k,j,h,d⟩] [aB8 Y] (λf=>?_) ?_
 ·by_cases p:N<(j:Int)
  ·have Hn:sA n<=h:=by have:=y.cap;simp only at this;omega
   have s:K=sA n:=by rw[t,if_pos ah]
   exact av [bT p,hiA 86 3 k j h N K ⟨by rw[B,s],by omega⟩] (cq f)
  ·have s:j=K:=by rw[t];split<;>omega
   subst s;exact av [bF p] (cq f)
 refine av [po K K F,.g,.x] ?_;refine ji (ι:=Nat) (λi=>K-i) (λi=>[(7,sv g K c),(8,sv k K h),(9,ai i)]) (λ_=>[vR g K c (l.take (sA n)),a7.en ⟨k,j,h,d⟩]) (λi=>i<=K) 0 (gJ _) ?_;intro i hi ih;by_cases aC:i<K
 ·have P:i<l.length:=by rw[t]at aC;split at aC<;>omega
  obtain⟨v,D⟩:∃v,l[i]?=Z v:=⟨_,eI P⟩;have W:(l.take (sA n))[i]?=Z v:=by
   rw[aBL,if_pos (by grind),D]
  rcases(Option.eq_none_or_eq_some k)with rfl|⟨G,rfl⟩
  ·have:=y.no rfl
   rw[this]at P;simp at P
  ·skip
   refine lJ 0 g K c ah λE oU ox=>?_;subst oU;have O:∀q,q<3->((l.take (sA n)).flatMap aZ.cells)[i*3+q]?=v.cells[q]?:=λq M=>gW aZ.len _ i q v M W;have J:∀q u,q<3->v.cells[q]?=Z u->d.toList[i*3+q]?=Z u:=λq u M hu=>y.get F M D hu;obtain⟨T,Q,V⟩:=v;refine av [fu i K] ?_;refine gw 37 [iX 94 3 E c aC,rr 0 (O 0 aT),iX 86 3 G h aC,rr 1 (J 0 _ aT F),po T T F,iX 94 3 E c aC,rr 0 (O 1 aT),iX 86 3 G h aC,rr 1 (J 1 _ aT F),bB (a:=(Q !=Q)) (b:=Y) ba,iX 94 3 E c aC,rr 0 (O 2 aT),iX 86 3 G h aC,rr 1 (J 2 _ aT F),bB (a:=(V.toList !=V.toList)) (b:=Y) ba] [] (Fl.nil ?_);refine av [aI ((i:Int)+1) ((i+1:Nat):Int) (by omega),.g,.x] ?_;exact cq (ih (i+1) ah ah)
 ·have H:i=K:=by omega
  subst H;refine av [gi i i] ?_;refine ey [0] (bE ?_);refine cM ([a7.en ⟨k,j,h,d⟩]++([(x.bf 0).en,r.en m,r.cE]++A)) (du (L':=(x.bf 0).en::r.en m::r.cE::a7.en ⟨k,j,h,d⟩::A) cx ?_);exact ez [.bool U] _ ⟨F,F⟩
theorem aDO(x)(r:RS)(m)(b)(n)(i:-9223372036854775808<=n/\n<9223372036854775808)(j:Fl Sv 92 [pt x.s,ai b].toArray [(x.bf 0).en] (V7 x [] 0 []))(p:b<0\/(r.ch.length)<=b):Fl Sv 19 [.agg #[pt x.s,pt r.s],ai b,ai n].toArray [(x.bf 0).en,r.en m] λv L=>v=.bool U/\L=[(x.bf 0).en,r.en m]:=by
 refine Fl.of 96 λl k=>?_;refine di (λ_=>[2]) λz=>?_;refine cM ([(x.bf 0).en,r.en m,oP z x.s r.s]) ?_;refine im _ [r.en m,oP z x.s r.s] (arB x _ n i [] _ j ba) cx ?_;rintro _ _ ⟨g,c,rfl,rfl⟩;rw[show([]).take (sA n)=[]from List.take_nil];refine cM [vR g 0 c [],(x.bf 0).en,r.en m,oP z x.s r.s] ?_;refine aB6 [(7,sv g 0 c),(8,sv I 0 0),(2,ai n),(35,ai n)] [vR g 0 c [],(x.bf 0).en,r.en m,oP z x.s r.s] [aB8 Y] (λa=>?_) ?_
 ·by_cases o:b<0
  ·exact av [Nr b 0] (cq a)
  ·exact av [He b 0,3,2,gi b r.ch.length] (cq a)
 obtain⟨N,h⟩:∃N:Int,N=sA n:=⟨_,F⟩;refine aB6 [(7,sv g 0 c),(8,sv I 0 0),(2,ai N),(41,ai N),(43,ai 0)] [vR g 0 c [],(x.bf 0).en,r.en m,oP z x.s r.s] [aB8 U] (λa=>?_) ?_
 ·by_cases d:n<=0
  ·have e:N=2000:=by rw[h,ahr (.inl d)];rfl
   subst e;exact av [bT d] (cq a)
  ·by_cases f:n>2000
   ·have e:N=2000:=by rw[h,ahr (.inr f)];rfl
    subst e;exact av [bF d,bT f] (cq a)
   ·have e:N=n:=by rw[h,aCP d f]
    subst e;exact av [bF d,bF f] (cq a)
 refine av [gi N 0,po 0 0 F,.g,gi 0 0] ?_;exact cU [0,3] [.bool U] _ ⟨F,F⟩
structure PC where
 y:c5
 k:eG
 a:Nat
 b:Nat
 ws:bU Wr
 kw:Nat
 xs:ae En
def PC.hd(x:aR)(c:PC):ae En:=[x.kE (c.y.by c.k),c.k.wE c.a c.b,c.y.wE c.ws c.kw,c.y.pE]
def PC.es(x:aR)(c:PC):ae En:=c.hd x++c.xs
structure Sg where
 x:aR
 ms:bU Mk
 km:Nat
 cd:ae bV
 cls:ae PC
 u:dT
 k0:eG
 a0:Nat
 b0:Nat
 ux:ae En
 n:Int
 ad:Nat
 bd:Nat
 st:Bool
def bV.es(C:bV):ae En:=[C.hd,C.rw]
def Sg.top(σ:Sg):ae En:=[(σ.x.bf 0).en,σ.x.uE (σ.u.by σ.k0),σ.k0.wE σ.a0 σ.b0,dE σ.k0.d σ.x.s σ.n σ.st σ.ad σ.bd,σ.x.eE,σ.x.sE,σ.x.cE,σ.x.lE,σ.x.mE σ.ms σ.km]
def Sg.all(σ:Sg):ae En:=σ.top++(σ.ux++(σ.cd.flatMap bV.es++σ.cls.flatMap (PC.es σ.x)))
theorem EK{α β:Type}(f:α->ae β):∀(l:ae α)(i)(a),l[i]?=Z a->(l.flatMap f).Perm (f a++(l.eraseIdx i).flatMap f)
 |[],i,a,h=>by simp at h
 |x::l,0,a,h=>by
  simp_all
 |x::l,i+1,a,h=>by
  have:=EK f l i a (by simpa using h);simp only[vp,List.eraseIdx_cons_succ];refine(this.append_left _).trans ?_;rw[<-iL,<-iL];exact List.perm_append_comm.append_right _
def Sg.tl(σ:Sg)(i k:Nat):ae En:=σ.ux++((σ.cd.eraseIdx k).flatMap bV.es++(σ.cls.eraseIdx i).flatMap (PC.es σ.x))
theorem Sg.open(σ:Sg){i k}{c}{C}(h:σ.cls[i]?=Z c)(g:σ.cd[k]?=Z C):σ.all.Perm (σ.top++(C.es++(c.hd σ.x++(c.xs++σ.tl i k)))):=by
 refine Gq _ ?_;refine(((EK _ _ _ _ g).append (EK _ _ _ _ h)).append_left _).trans ?_;unfold Sg.tl PC.es;generalize (σ.cd.eraseIdx k).flatMap bV.es=b;generalize (σ.cls.eraseIdx i).flatMap (λc=>c.hd σ.x++c.xs)=d;generalize c.hd σ.x=A;generalize c.xs=B;generalize C.es=D;generalize σ.ux=a;have e:(a++(D++b++(A++B++d))).Perm (D++(a++(b++(A++B++d)))):=by
  rw[iL,<-iL,<-iL D a];exact List.perm_append_comm.append_right _
 refine e.trans (Gq D ?_);have f:(a++(b++(A++B++d))).Perm ((A++B)++(a++(b++d))):=by
  rw[<-iL a _,<-iL a _,<-iL _,<-iL (A++B)];exact List.perm_append_comm.append_right _
 refine f.trans ?_;rw[iL]
theorem Sg.abU(σ:Sg){k}{C}(a:σ.cd[k]?=Z C):σ.all.Perm (σ.top++(C.es++(σ.ux++((σ.cd.eraseIdx k).flatMap bV.es++σ.cls.flatMap (PC.es σ.x))))):=by
 refine Gq _ ?_;refine(((EK _ _ _ _ a).append_right _).append_left _).trans ?_;rw[iL,<-iL,<-iL C.es];exact List.perm_append_comm.append_right _
theorem ae8{x a}(h:a.s=x.s):PC.es a=PC.es x:=by
 funext c;unfold PC.es PC.hd aR.kE;rw[h]
theorem afe{σ σ':Sg}{i k}{c}{C}(a:σ'.ux=σ.ux)(b:σ'.cd=σ.cd.set k C)(d:σ'.cls=σ.cls.set i c)(e:σ'.x.s=σ.x.s):σ'.tl i k=σ.tl i k:=by
 unfold Sg.tl;rw[a,b,d,ae8 e,aBO,aBO]
inductive jP:Cm->c5->ae Int->ae En->Prop
 |skip {c:Cm} {y:c5} {ks:ae Int} (ho:c.out=U) (hn:y.nx=Vj y.c):jP c y ks []
 |kz {c:Cm} {y:c5} {ks:ae Int} (p:Stp) (i bc bi:Nat) (ho:c.out=Y) (hp:c.pr[c.at_]?=Z p) (hk:p.kind=1) (hs:c.site=Z i) (hn:y.nx=.func (.func 113) #[] #[pt bc,pt bi]):jP c y ks [.ob bc (.cells #[pt y.c] 140),.ob bi (.cells #[ai i] 3)]
 |read {c:Cm} {y:c5} {ks:ae Int} (ho:c.out=Y) (hb:∀p,c.pr[c.at_]?=Z p->p.kind=1->c.site=I) (h0:c.phase=0) (hk:c.keys=0) (hn:y.nx=.func (.func 49) #[pt y.c] #[]):jP c y ks []
 |mark {c:Cm} {y:c5} {ks:ae Int} (j g cap b1 b2:Nat) (h0:c.phase=0) (hk:c.keys=j+1) (hc:ks.length<=cap) (hn:y.nx=.func (.func 116) #[] #[pt b1,pt b2]):jP c y ks [vT g cap ks,.ob b1 (.cells #[pt y.c] 140),.ob b2 (.cells #[kS g j ks.length cap] 55)]
 |aG {c:Cm} {y:c5} {ks:ae Int} (h0:c.phase=1) (hn:y.nx=.func (.func 117) #[pt y.c] #[]):jP c y ks []
 |Oh {c:Cm} {y:c5} {ks:ae Int} (z:Nat) (h0:c.phase=2) (hk:c.keys=0) (hn:y.nx=.func (.func 137) #[] #[pt z]):jP c y ks [.ob z (.cells #[pt y.c] 140)]
 |inst {c:Cm} {y:c5} {ks:ae Int} (j g cap b1 b2:Nat) (h0:c.phase=2) (hk:c.keys=j+1) (hc:ks.length<=cap) (hn:y.nx=.func (.func 142) #[] #[pt b1,pt b2]):jP c y ks [vT g cap ks,.ob b1 (.cells #[pt y.c] 140),.ob b2 (.cells #[kS g j ks.length cap] 55)]
 |leave {c:Cm} {y:c5} {ks:ae Int} (z:Nat) (h0:c.phase=3) (hn:y.nx=.func (.func 143) #[] #[pt z]):jP c y ks [.ob z (.cells #[pt y.c] 140)]
structure tz(c:Cm)(p:PC):Prop where
 id:p.y.id=c.me
 pr:p.y.pr=c.pr
 at_:p.y.at_=c.at_
 b:p.y.b=c.b
 site:∀s,c.site=Z s->p.y.site=s
 aG:2<=c.phase->p.y.aG=c.aG
 wr:rm c.wrote p.ws
 mw:mG p.ws p.kw
 nx:jP c p.y (c.wrote.map λw=>(w.key:Int)) p.xs
inductive tK(m:Mo):dT->ae En->Prop
 |first {u:dT} (h:m.at_=0) (hn:u.nx=.func (.func 45) #[pt u.w] #[]):tK m u []
 |aBT {u:dT} (z:Nat) (h:m.at_=1) (hl:u.low=m.w) (hn:u.nx=.func (.func 77) #[] #[pt z]):tK m u [.ob z (.cells #[pt u.w] 116)]
 |site {u:dT} (z z' i:Nat) (h:m.at_=i+2) (hi:i+1<m.sites.length) (hl:u.low=m.w) (hn:u.nx=.func (.func 107) #[] #[pt z,pt z']):tK m u [.ob z (.cells #[pt u.w] 116),.ob z' (.cells #[ai i] 3)]
 |HQ {u:dT} (z:Nat) (h:m.at_=m.sites.length+1) (hl:u.low=m.w) (hn:u.nx=.func (.func 108) #[] #[pt z]):tK m u [.ob z (.cells #[pt u.w] 116)]
 |key {u:dT} (z z' k:Nat) (h:m.at_=m.sites.length+2+k) (hk:k+1<m.aM.length) (hl:u.low=m.w) (hn:u.nx=.func (.func 134) #[] #[pt z,pt z']):tK m u [.ob z (.cells #[pt u.w] 116),.ob z' (.cells #[ai k] 3)]
structure kM(m:Mo)(σ:Sg):Prop where
 ck:σ.x.ck=m.clock
 li:σ.x.li=m.dX
 si:σ.x.si=m.sites.map pv
 ch:σ.x.ch=σ.cd.map (·.c)
 vs:σ.cd.map (·.vs)=m.aM.map List.reverse
 mm:pF m.marks σ.ms
 mo:mG σ.ms σ.km
 ev:σ.x.ev=m.events
 cl:σ.x.cl=σ.cls.map (·.y.c)
 cn:σ.cls.length=m.be.length
 cr:∀(i:Nat)(c:Cm)(p:PC),m.be[i]?=Z c->σ.cls[i]?=Z p->tz c p/\p.k.d=σ.k0.d
 sw:σ.x.sw=σ.u.w
 ux:tK m σ.u σ.ux
 n:σ.n=m.be.length+1
 st:σ.st=m.fE
theorem Fl.sub{P:aD}{f:cH}{a:af ag}{A L:ae En}{R R':ag->ae En->Prop}(B:ae En)(h:Fl P f a A R)(k:L.Perm (A++B))(W:∀v d,R v d->∃b,R' v b/\(d++B).Perm b):Fl P f a L R':=λg H j w e=>
 Fn.mono (h (B++g) H ((j.perm (k.append_right _)).perm (by rw[iL])) w e) λv t⟨l,n,d,q3,o⟩=>by
  obtain⟨b,p,s⟩:=W v d q3;exact⟨l,n,b,p,(o.perm (by rw[iL])).perm (s.append_right _)⟩
theorem P'{a b:ae En}(h:a.Perm b):bl.of a=bl.of b:=Quot.sound h
def a7.es(C:a7):ae En:=[C.en]
def RC.es(p:RC×Cm):ae En:=[p.1.en p.2,p.1.pE p.2,p.1.wE p.2]
def m5(r:RS)(m:Mo):ae En:=[r.en m,r.sE m,r.cE,r.mE m,r.lE,r.eE m]
def a8(r:RS)(m:Mo)(a:ae RC):ae En:=m5 r m++(r.ch.flatMap a7.es++(a.zip m.be).flatMap RC.es)
structure aBD(m:Mo)(r:RS):Prop where
 len:r.ch.length=m.aM.length
 is:∀(k:Nat)(C:a7)(l:ae aZ),r.ch[k]?=Z C->m.aM[k]?=Z l->C.Is l
structure wS(m:Mo)(r:RS)(qs:ae RC):Prop where
 ch:aBD m r
 cl:r.cl=qs.map (·.c)
 cn:qs.length=m.be.length
theorem aBt{r:RS}{k:Nat}{C:a7}(h:r.ch[k]?=Z C):bl.of (r.ch.flatMap a7.es)=(bl.one C.en).add (bl.of ((r.ch.eraseIdx k).flatMap a7.es)):=P' (EK a7.es _ _ _ h)
theorem aCn{r:RS}{k:Nat}{C a:a7}(h:r.ch[k]?=Z C):bl.of ((r.cd k a).ch.flatMap a7.es)=(bl.one a.en).add (bl.of ((r.ch.eraseIdx k).flatMap a7.es)):=by
 have b:k<r.ch.length:=(dq.1 h).1;have:=aBt (r:=r.cd k a) (k:=k) (C:=a) (by simp[RS.cd,b]);rw[this];simp[RS.cd,aBO]
theorem aBD.set{m g:Mo}{r n:RS}(h:aBD m r){k:Nat}{l:ae aZ}{d:a7}(V:g.aM=m.aM.set k l)(f:n.ch=r.ch.set k d)(o:d.Is l):aBD g n:=by
 refine⟨by rw[V,f,wJ,wJ,h.len],λj C p b a=>?_⟩;rw[f,List.getElem?_set]at b;rw[V,List.getElem?_set]at a;split at b
 ·rename_i e
  rw[if_pos e]at a;split at b<;>split at a<;>first|(cases b;cases a;exact o)|(cases b;done)|(cases a;done)
 ·rename_i e
  rw[if_neg e]at a;exact h.is j C p b a
theorem aBD.same{m b:Mo}{r d:RS}(h:aBD m r)(V:b.aM=m.aM)(a:d.ch=r.ch):aBD b d:=⟨by rw[V,a,h.len],λk C l e f=>h.is k C l (a▸e) (V▸f)⟩
def aCm(r:RS)(q:RC)(b:Mo)(e:Cm)(n:Int)(v:ag)(L:ae En):Prop:=∃a d,v=.tuple #[ai n,ai 0]/\(a.s=r.s/\a.cl=r.cl/\d.c=q.c/\aBD b a)/\L=m5 a b++(RC.es (d,e)++a.ch.flatMap a7.es)
def xt(r:RS)(m:Mo)(q:RC)(c:Cm):ae En:=m5 r m++(RC.es (q,c)++r.ch.flatMap a7.es)
theorem Mc{p:Prop}(h:p:=by(apply bl.exact;simp only[nN,pB,qk,tA,xt,m5,RC.es];try ac_rfl)):p:=h
theorem aBy{p:Prop}(h:p:=by(apply bl.exact;simp only[nN,pB,qk,tA,xt,m5,RC.es,RS.ev,RS.en,RS.eE,RS.sE,RS.mE,Mo.bA,Mo.leave,RC.wr,RC.off,RC.en,RC.pE,RC.wE,Cm.up,Cm.leave,Cm.skip,Cm.put,Cm.take,Cm.nk,Cm.tick,wJ];try ac_rfl)):p:=h
section
variable (r:RS)(m:Mo)(q:RC)(c:Cm)(i:Nat)(T:m.fE=Y)(W:r.cl[i]?=Z q.c)(X:r.cl.length<1000000)(V:m.Ok)(S:c.Ok m.aM.length m.sites.length)(Q:aBD m r)
include T W X V S Q
theorem aEq:Fl Sv 15 [pt r.s,ai i].toArray (xt r m q c) (aCm r q (m.bX c).1 (m.bX c).2.1 (m.bX c).2.2):=by
 have bJ:=V.Gb;have z:m.events.length<1000000:=by omega
 have h2:c.pr.length<1000000:=by have:=S.len;omega
 have dM:c.at_<=c.pr.length:=S.at_;have D:c.at_<1000000:=by omega
 have J:m.marks.length<1000000:=by have:=V.ml;have:=V.k;omega
 have bY:m.sites.length<1000000:=by have:=V.s;omega
 have mJ:c.wrote.length<100000:=by have:=S.aeQ;have:=V.k;omega
 have NT:∀k,k<m.aM.length->∃C l,r.ch[k]?=Z C/\m.aM[k]?=Z l/\C.Is l/\l.length<1000000:=λk b=>by
  obtain⟨l,X⟩:∃l,m.aM[k]?=Z l:=⟨_,eI b⟩;obtain⟨C,u⟩:∃C,r.ch[k]?=Z C:=⟨_,eI (by rw[Q.len];exact b)⟩;have:=bJ.2 l (jZ X);exact⟨C,l,u,X,Q.is k C l u X,by omega⟩
 have A:∀{m':Mo}{r':RS}{q':RC}{c':Cm}{n:Int}{v:ag}{L:ae En},v=.tuple #[ai n,ai 0]->r'.s=r.s->r'.cl=r.cl->q'.c=q.c->r'.ch=r.ch->m'.aM=m.aM->L.Perm (xt r' m' q' c')->∃L',aCm r q m' c' n v L'/\L.Perm L':=λ{m' r' q' c' n v L}z h2 D h4 h5 h6 h7=>⟨_,⟨r',q',z,⟨h2,D,h4,Q.same h6 h5⟩,F⟩,h7⟩;refine tC S (λR=>Fl Sv 15 [pt r.s,ai i].toArray (xt r m q c) (aCm r q R.1 R.2.1 R.2.2)) ?_ ?_ ?_ ?_ ?_ ?_ ?_ ?_ ?_ ?_ ?_ ?_ ?_ ?_ ?_
 ·intro hn
  refine Fl.sub (r.eE m::q.wE c::r.mE m::r.sE m::r.cE::r.ch.flatMap a7.es) (aEi r m q c i T W X hn dM) Mc ?_;rintro _ _ ⟨rfl,rfl⟩;exact A F F F F F F Mc
 ·intro p f d
  refine Fl.sub (q.wE c::r.mE m::r.sE m::r.cE::r.ch.flatMap a7.es) ((wG r m q c i T W X f).2.2.2.2.2 d z h2 _ F) Mc ?_;rintro _ _ ⟨rfl,g,a,rfl⟩;exact A (r':=r.ev g a) (q':=q) F F F F F F aBy
 ·intro p j f d b x hj
  refine Fl.sub (q.wE c::r.mE m::r.cE::r.ch.flatMap a7.es) ((wG r m q c i T W X f).2.1 d b [r.eE m,r.sE m] _ (aDY r m q c j x hj z D)) Mc ?_;rintro _ _ ⟨_,_,⟨g,a,rfl⟩,rfl,rfl⟩;exact A (r':=r.ev g a) (q':=q) F F F F F F aBy
 ·intro p j f d b x hf
  refine Fl.sub (q.wE c::r.mE m::r.cE::r.ch.flatMap a7.es) ((wG r m q c i T W X f).2.1 d b [r.eE m,r.sE m] _ (aC2 r m q c x z D bY)) Mc ?_;rintro _ _ ⟨_,_,h,rfl,rfl⟩;unfold aBZ at h;rw[hf]at h;simp only at h;subst h;exact A (r':=r) (q':=q) F F F F F F aBy
 ·intro p f d b x hf
  refine Fl.sub (q.wE c::r.mE m::r.cE::r.ch.flatMap a7.es) ((wG r m q c i T W X f).2.1 d b [r.eE m,r.sE m] _ (aC2 r m q c x z D bY)) Mc ?_;rintro _ _ ⟨_,_,h,rfl,rfl⟩;unfold aBZ at h;rw[hf]at h;obtain⟨g,a,rfl⟩:=h;exact A (r':=r.ev g a) (q':=q) F F F F F F aBy
 ·intro p k o s f d b dV P x B hg
  obtain⟨C,l,u,G,y,N⟩:=NT k P;have hG:=aC6 r m q c C l k y u G (by rw[V.ml];exact P) N z D ah;rw[<-dV]at hG;refine Fl.sub (r.sE m::(r.ch.eraseIdx k).flatMap a7.es) ((wG r m q c i T W X f).2.2.1 d b [r.eE m,q.wE c,r.mE m,r.cE,C.en] _ hG) (by(apply bl.exact;simp only[nN,pB,qk,tA,xt,m5,RC.es,aBt u];try ac_rfl)) ?_;rintro _ _ ⟨_,_,h,rfl,rfl⟩;unfold aBN at h;rw[hg]at h;obtain⟨rfl,g,a,rfl⟩:=h;exact A (r':=r.ev g a) (q':=q) F F F F F F (by(apply bl.exact;simp only[nN,pB,qk,tA,xt,m5,RC.es,RS.ev,RS.en,RS.eE,RS.sE,RS.mE,Mo.bA,Mo.leave,RC.wr,RC.off,RC.en,RC.pE,RC.wE,Cm.up,Cm.leave,Cm.skip,Cm.put,Cm.take,Cm.nk,Cm.tick,wJ,aBt u];try ac_rfl))
 ·intro p k s f d b dV P x B hg
  obtain⟨C,l,u,G,y,N⟩:=NT k P;have hG:=aC6 r m q c C l k y u G (by rw[V.ml];exact P) N z D ah;rw[<-dV]at hG;refine Fl.sub (r.sE m::(r.ch.eraseIdx k).flatMap a7.es) ((wG r m q c i T W X f).2.2.1 d b [r.eE m,q.wE c,r.mE m,r.cE,C.en] _ hG) (by(apply bl.exact;simp only[nN,pB,qk,tA,xt,m5,RC.es,aBt u];try ac_rfl)) ?_;rintro _ _ ⟨_,_,h,rfl,rfl⟩;unfold aBN at h;rw[hg]at h;obtain⟨rfl,rfl⟩:=h;exact A (r':=r) (q':=q) F F F F F F (by(apply bl.exact;simp only[nN,pB,qk,tA,xt,m5,RC.es,aBt u];try ac_rfl))
 ·intro p k s f d b dV P x B
  rcases b with b|b
  ·refine Fl.sub (r.mE m::r.sE m::r.cE::r.ch.flatMap a7.es) ((wG r m q c i T W X f).2.2.2.1 d _ k (.inl ⟨b,rfl⟩) dV S.lQ mJ z h2) Mc ?_
   rintro _ _ ⟨rfl,g,a,wg,wc,rfl⟩;simp only[decide_eq_false (show¬p.kind=4 by omega)];exact A (r':=r.ev g a) (q':=q.wr wg wc) rfl rfl rfl rfl rfl rfl aBy
  ·refine Fl.sub (r.mE m::r.sE m::r.cE::r.ch.flatMap a7.es) ((wG r m q c i T W X f).2.2.2.1 d _ k (.inr ⟨b,rfl⟩) dV S.lQ mJ z h2) Mc ?_
   rintro _ _ ⟨rfl,g,a,wg,wc,rfl⟩;simp only[decide_eq_true b];exact A (r':=r.ev g a) (q':=q.wr wg wc) rfl rfl rfl rfl rfl rfl aBy
 ·intro p s f d b x B
  rcases b with b|⟨b,H⟩
  ·refine Fl.sub (r.cE::r.ch.flatMap a7.es) ((wG r m q c i T W X f).2.2.2.2.1 d b s x B J z h2) Mc ?_
   rintro _ _ ⟨rfl,_,⟨g,a,rfl⟩,rfl⟩;exact A (r':=r.ev g a) (q':=q.off) rfl rfl rfl rfl rfl rfl aBy
  ·refine Fl.sub (r.cE::r.ch.flatMap a7.es) ((wG r m q c i T W X f).1 d b [r.eE m,q.wE c,r.mE m,r.sE m] _ (aD2 r m q c s x B J z D H)) Mc ?_
   rintro _ _ ⟨_,_,⟨g,a,rfl⟩,rfl,rfl⟩;exact A (r':=r.ev g a) (q':=q.off) rfl rfl rfl rfl rfl rfl aBy
 ·intro p s w f d b x B E H K O
  obtain⟨C,l,u,G,y,N⟩:=NT w.key K;obtain⟨t,ht⟩:∃t,m.marks[w.key]?=Z t:=⟨_,eI (by rw[V.ml];exact K)⟩;have Sa:aBG t l c=U:=by
   rw[<-O,wI,ht,wI,G];rfl
  refine Fl.sub ((r.ch.eraseIdx w.key).flatMap a7.es) ((wG r m q c i T W X f).1 d b ([r.eE m,q.wE c,r.mE m,r.sE m]++[r.cE,C.en]) _ (aC3 r m q c C l w t s x B J z D ah E H y u ht)) (by(apply bl.exact;simp only[nN,pB,qk,tA,xt,m5,RC.es,aBt u];try ac_rfl)) ?_;rintro _ _ ⟨_,_,h,rfl,rfl⟩;unfold aB1 at h;rw[Sa]at h;rw[if_pos rfl]at h;obtain⟨g,a,rfl⟩:=h;exact A (r':=r.ev g a) (q':=q.off) rfl rfl rfl rfl rfl rfl (by(apply bl.exact;simp only[nN,pB,qk,tA,xt,m5,RC.es,RS.ev,RS.en,RS.eE,RS.sE,RS.mE,Mo.bA,Mo.leave,RC.wr,RC.off,RC.en,RC.pE,RC.wE,Cm.up,Cm.leave,Cm.skip,Cm.put,Cm.take,Cm.nk,Cm.tick,wJ,aBt u];try ac_rfl))
 ·intro p s w f d b x B E H K O
  have iu:(c.step c.wrote.length).pr=c.pr:=(c.qX _).2.1;obtain⟨C,l,u,G,y,N⟩:=NT w.key K;obtain⟨t,ht⟩:∃t,m.marks[w.key]?=Z t:=⟨_,eI (by rw[V.ml];exact K)⟩;have Sa:aBG t l c=Y:=by
   rw[<-O,wI,ht,wI,G];rfl
  refine Fl.sub ((r.ch.eraseIdx w.key).flatMap a7.es) ((wG r m q c i T W X f).1 d b ([r.eE m,q.wE c,r.mE m,r.sE m]++[r.cE,C.en]) _ (aC3 r m q c C l w t s x B J z D ah E H y u ht)) (by(apply bl.exact;simp only[nN,pB,qk,tA,xt,m5,RC.es,aBt u];try ac_rfl)) ?_;rintro _ _ ⟨_,_,h,rfl,rfl⟩;unfold aB1 at h;rw[Sa]at h;rw[if_neg ba]at h;subst h;refine A (r':=r) (q':=q) rfl rfl rfl rfl rfl rfl ?_;have e:q.pE (c.step c.wrote.length)=q.pE c:=by unfold RC.pE;rw[iu]
  show rT _ ([r.en {m with marks:=m.marks.set w.key ⟨U,c.me,0⟩},r.sE {m with marks:=m.marks.set w.key ⟨U,c.me,0⟩},r.cE,r.mE {m with marks:=m.marks.set w.key ⟨U,c.me,0⟩},r.lE,r.eE {m with marks:=m.marks.set w.key ⟨U,c.me,0⟩}]++([q.en (c.step c.wrote.length),q.pE (c.step c.wrote.length),q.wE (c.step c.wrote.length)]++r.ch.flatMap a7.es));rw[e]
  (apply bl.exact;simp only[nN,pB,qk,tA,aBt u];try ac_rfl)
 ·intro p s f d b x B E bj az O
  refine Fl.sub (r.cE::r.ch.flatMap a7.es) ((wG r m q c i T W X f).1 d b [r.eE m,q.wE c,r.mE m,r.sE m] _ (aD1 r m q c s x B J z D az E O)) Mc ?_;rintro _ _ ⟨_,_,⟨g,a,rfl⟩,rfl,rfl⟩;exact A (r':=r.ev g a) (q':=q.off) rfl rfl rfl rfl rfl rfl aBy
 ·intro p s f d b x B E bj az O
  refine Fl.sub (r.cE::r.ch.flatMap a7.es) ((wG r m q c i T W X f).1 d b [r.eE m,q.wE c,r.mE m,r.sE m] _ (aD3 r m q c az ah E O (by have:=V.ck;omega) (λw H=>by rw[V.ml];exact S.key w H) J)) Mc ?_;rintro _ _ ⟨_,_,rfl,rfl,rfl⟩;exact A (r':=r) (q':=q) rfl rfl rfl rfl rfl rfl aBy
 ·intro p s w f d b x B E H K
  have iu:(c.step c.wrote.length).pr=c.pr:=(c.qX _).2.1;obtain⟨C,l,u,G,y,N⟩:=NT w.key K;refine Fl.sub ((r.ch.eraseIdx w.key).flatMap a7.es) ((wG r m q c i T W X f).1 d b ([r.eE m,q.wE c,r.mE m,r.sE m]++[r.cE,C.en]) _ (aD0 r m q c C l w J N ah E H y u (by rw[V.ml];exact K))) (by(apply bl.exact;simp only[nN,pB,qk,tA,xt,m5,RC.es,aBt u];try ac_rfl)) ?_;rintro _ _ ⟨_,_,⟨M,β,rfl⟩,rfl,rfl⟩;have e:q.pE (c.step c.wrote.length)=q.pE c:=by unfold RC.pE;rw[iu]
  have em:m.aM.modify w.key (λl=>⟨c.aG,w.gone,w.val⟩::l)=m.aM.set w.key (⟨c.aG,w.gone,w.val⟩::l):=Ub _ _ _ _ G;refine⟨_,⟨r.cd w.key M,q,rfl,⟨rfl,rfl,rfl,Q.set em rfl β⟩,rfl⟩,?_⟩;show rT _ ([(r.cd w.key M).en {m with marks:=m.marks.set w.key .no},(r.cd w.key M).sE {m with marks:=m.marks.set w.key .no},(r.cd w.key M).cE,(r.cd w.key M).mE {m with marks:=m.marks.set w.key .no},r.lE,(r.cd w.key M).eE {m with marks:=m.marks.set w.key .no}]++([q.en (c.step c.wrote.length),q.pE (c.step c.wrote.length),q.wE (c.step c.wrote.length)]++(r.cd w.key M).ch.flatMap a7.es));rw[e]
  (apply bl.exact;simp only[nN,pB,qk,tA,aCn u];try ac_rfl)
 ·intro p s f d b x B E bj az
  refine Fl.sub (r.cE::r.ch.flatMap a7.es) ((wG r m q c i T W X f).1 d b [r.eE m,q.wE c,r.mE m,r.sE m] _ (aDZ r m q c s x B J z D az E)) Mc ?_;rintro _ _ ⟨_,_,⟨g,a,rfl⟩,rfl,rfl⟩;exact A (r':=r.ev g a) (q':=q.off) rfl rfl rfl rfl rfl rfl aBy
end
def K7:ag->cH
 |.func (.func f) _ _=>f
 |_=>0
def K6:ag->af ag
 |.func _ b c=>(b.toList++c.toList).toArray
 |_=>#[]
theorem ae6{y:c5}{v:ag}(h:y.nx=v):y.lx v=y:=by cases y;cases h;rfl
theorem azb{c:Cm}{y:c5}{W:ae Int}{X:ae En}(h:jP c y W X)(q:Nat)(x:aR){d:ae En}{R:ag->ae En->Prop}(a:Fl Sv (K7 y.nx) (K6 y.nx) (x.kE y::d) R):Fl Sv 56 [pt q].toArray (.ob q (.cells #[pt y.c] 140)::x.kE y::d) λv L=>∃b,R v b/\L=.ob q (.cells #[pt y.c] 140)::b:=by
 cases h
 all_goals
  rename_i f;rw[f]at a;have e:=ae6 f;rw[<-e]at a⊢;exact Fl.of 7 λk j=>av [0,1] (lW [.ob q (.cells #[pt y.c] 140)] _ a λv g i=>av [] (ez [v] _ ⟨g,i,F⟩))
section
variable {K S:Nat}{c:Cm}{y:c5}{W:ae Int}{X:ae En}
theorem Cm.Ok.Cc(a:c.Ok K S)(b:c.out=U):c.phase=0/\c.keys=0:=by
 have:=a.kR (a.cls (.inl b));omega
theorem Cm.Ok.xc(a:c.Ok K S){p:Stp}(d:c.pr[c.at_]?=Z p)(b:p.kind=1):c.phase=0/\c.keys=0:=by
 have:=a.kR (a.kz p d b);omega
theorem jP.sk(h:jP c y W X)(a:c.Ok K S)(b:c.out=U):y.nx=Vj y.c/\X=[]:=by
 have:=a.Cc b;cases h<;>first|(refine⟨?_,rfl⟩;assumption)|(exfalso;simp_all;done)|(exfalso;omega)
theorem jP.rd(h:jP c y W X)(a:c.Ok K S)(k:c.out=Y)(i:c.phase=0)(j:c.keys=0)(e:∀p,c.pr[c.at_]?=Z p->p.kind=1->c.site=I):y.nx=.func (.func 49) #[pt y.c] #[]/\X=[]:=by
 cases h
 case read f=>exact⟨f,F⟩
 case kz g d b _=>rw[e _ g d]at b;cases b
 all_goals first|omega|(have:=a.xc (by assumption) (by assumption);omega)|(have:=a.Cc (by assumption);omega)|simp_all
theorem jP.bg(h:jP c y W X)(d:c.Ok K S)(m:c.out=Y){p:Stp}{i:Nat}(j:c.pr[c.at_]?=Z p)(g:p.kind=1)(e:c.site=Z i):∃a b,y.nx=.func (.func 113) #[] #[pt a,pt b]/\X=[.ob a (.cells #[pt y.c] 140),.ob b (.cells #[ai i] 3)]:=by
 have:=d.xc j g;cases h
 case kz a b _ _ _ f l=>rw[e]at f;cases f;exact⟨a,b,l,F⟩
 case read k _ _ _=>rw[k p j g]at e;cases e
 all_goals first|omega|(have:=d.xc (by assumption) (by assumption);omega)|(have:=d.Cc (by assumption);omega)|simp_all
theorem jP.mk(h:jP c y W X)(e:c.Ok K S)(n:c.out=Y){j:Nat}(l:c.phase=0)(m:c.keys=j+1):∃g a b d,W.length<=a/\y.nx=.func (.func 116) #[] #[pt b,pt d]/\X=[vT g a W,.ob b (.cells #[pt y.c] 140),.ob d (.cells #[kS g j W.length a] 55)]:=by
 cases h
 case mark i g a b d _ k e f=>
  obtain rfl:i=j:=by omega
  exact⟨g,a,b,d,e,f,F⟩
 all_goals first|omega|(have:=e.xc (by assumption) (by assumption);omega)|(have:=e.Cc (by assumption);omega)|simp_all
theorem jP.st(h:jP c y W X)(a:c.Ok K S)(d:c.phase=1):y.nx=.func (.func 117) #[pt y.c] #[]/\X=[]:=by
 cases h
 case aG b=>exact⟨b,F⟩
 all_goals first|omega|(have:=a.xc (by assumption) (by assumption);omega)|(have:=a.Cc (by assumption);omega)|simp_all
theorem jP.i0(h:jP c y W X)(a:c.Ok K S)(d:c.phase=2)(e:c.keys=0):∃z,y.nx=.func (.func 137) #[] #[pt z]/\X=[.ob z (.cells #[pt y.c] 140)]:=by
 cases h
 case Oh b=>exact⟨_,b,F⟩
 all_goals first|omega|(have:=a.xc (by assumption) (by assumption);omega)|(have:=a.Cc (by assumption);omega)|simp_all
theorem jP.i1(h:jP c y W X)(e:c.Ok K S){j:Nat}(l:c.phase=2)(m:c.keys=j+1):∃g a b d,W.length<=a/\y.nx=.func (.func 142) #[] #[pt b,pt d]/\X=[vT g a W,.ob b (.cells #[pt y.c] 140),.ob d (.cells #[kS g j W.length a] 55)]:=by
 cases h
 case inst i g a b d _ k e f=>
  obtain rfl:i=j:=by omega
  exact⟨g,a,b,d,e,f,F⟩
 all_goals first|omega|(have:=e.xc (by assumption) (by assumption);omega)|(have:=e.Cc (by assumption);omega)|simp_all
theorem jP.lv(h:jP c y W X)(a:c.Ok K S)(d:c.phase=3):∃z,y.nx=.func (.func 143) #[] #[pt z]/\X=[.ob z (.cells #[pt y.c] 140)]:=by
 cases h
 case leave b=>exact⟨_,b,F⟩
 all_goals first|omega|(have:=a.xc (by assumption) (by assumption);omega)|(have:=a.Cc (by assumption);omega)|simp_all
end
structure SR(m:Mo)(x:aR)(ms:bU Mk)(km:Nat):Prop where
 ck:x.ck=m.clock
 li:x.li=m.dX
 si:x.si=m.sites.map pv
 mm:pF m.marks ms
 mo:mG ms km
 ev:x.ev=m.events
def XK(x a:aR):Prop:=a.s=x.s/\a.mu=x.mu/\a.sw=x.sw/\a.rp=x.rp/\a.CZ=x.CZ/\a.cl=x.cl/\a.ch=x.ch
def PK(p a:PC):Prop:=a.k=p.k/\a.a=p.a/\a.b=p.b/\a.y.c=p.y.c/\a.y.wk=p.y.wk/\a.y.tl=p.y.tl
def nL(x:aR)(p:PC)(b:bU Mk)(a:Nat)(C:bV):ae En:=x.kE p.y::x.en::([x.eE,x.sE,x.cE,x.mE b a,p.y.wE p.ws p.kw,p.y.pE,C.hd,C.rw]++p.xs)
structure Mv(x:aR)(p:PC)(k:Nat)(C:bV)(m:Mo)(T:Mo×Cm×Int)(x':aR)(p':PC)(mg:bU Mk)(mf:Nat)(C':bV):Prop where
 xk:XK x x'
 pk:PK p p'
 cc:C'.c=C.c
 ch:T.1.aM=m.aM.set k C'.vs.reverse
 sr:SR T.1 x' mg mf
 cr:tz T.2.1 p'
def CM(x:aR)(p:PC)(k:Nat)(C:bV)(m:Mo)(T:Mo×Cm×Int)(v:ag)(L:ae En):Prop:=∃f e d b a,v=ai T.2.2/\Mv x p k C m T f e d b a/\L=nL f e d b a
def Mu(x:aR)(p:PC)(b:bU Mk)(a:Nat)(m:Mo)(T:Mo×Cm×Int):Prop:=∃k,k<m.aM.length/\∀(C:bV)(l:ae aZ),x.ch[k]?=Z C.c->m.aM[k]?=Z l->C.vs=l.reverse->Fl Sv (K7 p.y.nx) (K6 p.y.nx) (nL x p b a C) (CM x p k C m T)
theorem nkp{x:aR}{p:PC}{k:Nat}{C:bV}{m:Mo}{T:Mo×Cm×Int}{v:ag}{L:ae En}(f:aR)(e:PC)(d:bU Mk)(b:Nat)(a:bV)(j:v=ai T.2.2)(h:Mv x p k C m T f e d b a)(i:L.Perm (nL f e d b a)):∃g,CM x p k C m T v g/\L.Perm g:=⟨_,⟨f,e,d,b,a,j,h,F⟩,i⟩
theorem MW{m:Mo}{k:Nat}{l:ae aZ}{C:bV}(a:m.aM[k]?=Z l)(b:C.vs=l.reverse):m.aM=m.aM.set k C.vs.reverse:=by
 rw[b,List.reverse_reverse];exact(Pv a).symm
theorem aqI{p:PC}{c:Cm}(X:tz c p){st:Stp}(hp:c.pr[c.at_]?=Z st):p.y.pr[p.y.at_]?=Z st:=by rw[X.pr,X.at_];exact hp
theorem OL{x:aR}{R:bU Mk}{S:Nat}{m:Mo}(W:SR m x R S):x.si.length=m.sites.length:=by rw[W.si,jM]
theorem aqK{m:Mo}(Q:m.Ok){k:Nat}{l:ae aZ}{C:bV}(a:m.aM[k]?=Z l)(hv:C.vs=l.reverse):C.vs.length<1000000:=by
 have:=Q.Gb.2 l (jZ a);rw[hv,IH];omega
theorem aqM{p:PC}{m:Mo}{c:Cm}(Q:m.Ok)(V:c.Ok m.aM.length m.sites.length)(X:tz c p):p.ws.length<1000000:=by
 have h1:=X.wr.keys.length_eq;simp only[jM]at h1;have:=V.aeQ;have:=Q.k;omega
theorem aqL{p:PC}{c:Cm}(X:tz c p)(h:c.wrote=[]):p.ws=[]:=by
 have h1:=X.wr.keys.length_eq;rw[h]at h1;simp only[jM,tc]at h1;exact IF.1 h1
section
variable {x:aR}{p:PC}{R:bU Mk}{S:Nat}{m:Mo}{c:Cm}(Q:m.Ok)(V:c.Ok m.aM.length m.sites.length)(W:SR m x R S)(X:tz c p)
include Q V W X
theorem aqH:x.Ok p.y:=⟨by rw[W.ev];have:=Q.Gb.1;omega,by rw[X.at_];have:=V.at_;have:=V.len;omega⟩
omit Q in
theorem K8{s:Nat}(h:c.site=Z s):p.y.site<x.si.length:=by
 rw[X.site s h,OL W];exact V.site s h
omit Q V in
theorem SR.bA(o:Int)(v:ByteArray)(t:Int)(g:aj Nat)(cap:Nat):SR (m.bA c o v t) (x.bA p.y o v t g cap) R S:=⟨W.ck,W.li,W.si,W.mm,W.mo,by
 show x.ev++[_]=m.events++[_];rw[W.ev,X.id,X.at_]⟩
omit Q W X in
theorem abL{st q:Stp}(hp:c.pr[c.at_]?=Z st)(hk:st.kind≠5/\st.kind≠6)(hq:c.pr[c.at_+1]?=Z q):q.kind≠1:=λh1=>by
 have:=(V.lx hp hq).1 h1;rw[Ib st hk]at this;cases this
omit Q V W in
theorem tz.rd{c':Cm}{p':PC}(e1:p'.y.id=p.y.id/\p'.y.pr=p.y.pr/\p'.y.at_=p.y.at_+1/\p'.y.nx=.func (.func 49) #[pt p'.y.c] #[]/\p'.xs=[])(e2:c'.me=c.me/\c'.pr=c.pr/\c'.at_=c.at_+1/\c'.out=Y/\c'.phase=0/\c'.keys=0)(hb:p'.y.b=c'.b)(fJ:∀s,c'.site=Z s->p'.y.site=s)(hw:rm c'.wrote p'.ws)(BN:mG p'.ws p'.kw)(hn:c'.site=I\/∀q,c.pr[c.at_+1]?=Z q->q.kind≠1):tz c' p' where
 id:=by rw[e1.1,e2.1,X.id]
 pr:=by rw[e1.2.1,e2.2.1,X.pr]
 at_:=by rw[e1.2.2.1,e2.2.2.1,X.at_]
 b:=hb
 site:=fJ
 aG:=λh=>by rw[e2.2.2.2.2.1]at h;omega
 wr:=hw
 mw:=BN
 nx:=by
  rw[e1.2.2.2.2];refine .read e2.2.2.2.1 (λq hq hk=>?_) e2.2.2.2.2.1 e2.2.2.2.2.2 e1.2.2.2.1;rw[e2.2.1,e2.2.2.1]at hq;exact hn.elim (λh=>h) λh=>absurd hk (h q hq)
omit Q V W X in
theorem xa{p:Prop}(h:p:=by(apply bl.exact;simp only[nN,pB,qk,tA,nL,aR.bA,aR.lv,aR.tick,aR.en,aR.eE,aR.sE,aR.cE,aR.mE,aR.kE,c5.rd,c5.skip,c5.nk,c5.take,c5.PO,c5.wE,c5.pE,wJ,eH];try ac_rfl)):p:=h
omit Q V W X in
theorem ou{p:Prop}(h:p:=by unfold nL;exact cx):p:=h
omit Q V W X in
theorem ui{k:Nat}{C:bV}{T:Mo×Cm×Int}{v:ag}{L:ae En}(x':aR)(p':PC)(mg:bU Mk)(mf:Nat)(C':bV)(h1:T.1.aM=m.aM.set k C'.vs.reverse)(h2:SR T.1 x' mg mf)(h3:tz T.2.1 p')(hL:L.Perm (nL x' p' mg mf C'))(hv:v=ai T.2.2:=by rfl)(hx:XK x x':=by exact⟨rfl,rfl,rfl,rfl,rfl,rfl,rfl⟩)(hp:PK p p':=by exact⟨rfl,rfl,rfl,rfl,rfl,rfl⟩)(V:C'.c=C.c:=by rfl):∃L',CM x p k C m T v L'/\L.Perm L':=nkp x' p' mg mf C' hv ⟨hx,hp,V,h1,h2,h3⟩ hL
theorem aqJ(Kd:c.zd m.marks):Mu x p R S m (m.bX c):=by
 obtain⟨y,E,a,b,e,n,P⟩:=p;have K:x.Ok y:=aqH Q V W X;have nx:jP c y (c.wrote.map λw=>(w.key:Int)) P:=X.nx;have O:y.id=c.me:=X.id;have dM:y.at_=c.at_:=X.at_;have M:∀{T:Mo×Cm×Int}(k:Nat),k<m.aM.length→(∀(C:bV)(l:List aZ),x.ch[k]?=some C.c→m.aM[k]?=some l→C.vs=l.reverse→m.aM=m.aM.set k C.vs.reverse→C.vs.length<1000000→Fl Sv (K7 y.nx) (K6 y.nx) (nL x ⟨y,E,a,b,e,n,P⟩ R S C) (CM x ⟨y,E,a,b,e,n,P⟩ k C m T))→Mu x ⟨y,E,a,b,e,n,P⟩ R S m T:=λk hk h=>⟨k,hk,λC l H G hv=>h C l H G hv (MW G hv) (aqK Q G hv)⟩;have k0:0<m.aM.length:=by have:=Q.k;omega
 have iu:∀{st:Stp},c.pr[c.at_]?=some st→y.pr[y.at_]?=some st:=λh=>aqI X h;have rd:∀{st:Stp},c.pr[c.at_]?=some st→c.out=false→(st.kind=1→c.site=none)→c.phase=0∧c.keys=0→y.nx=.func (.func 49) #[pt y.c] #[]∧P=[]:=λhp f h1 A=>nx.rd V f A.1 A.2 λq hq h2=>by rw[hp]at hq;cases hq;exact h1 h2
 have zk:∀{st:Stp},c.pr[c.at_]?=some st→st.kind≠5→c.phase=0∧c.keys=0:=λhp hk=>by have:=V.no hp hk;omega
 have an:∀{st:Stp}{k:Nat}{C:bV}{o:Int}{u:ByteArray}{g:Option Nat}{cap Ol:Nat}{LX:bU Wr}{c':Cm}{L:List En},c.pr[c.at_]?=some st→st.kind≠5∧st.kind≠6→m.aM=m.aM.set k C.vs.reverse→c'.me=c.me∧c'.pr=c.pr∧c'.at_=c.at_+1∧c'.out=false∧c'.phase=0∧c'.keys=0→c'.b=c.b∧c'.site=c.site→rm c'.wrote LX→mG LX Ol→L.Perm (nL (x.bA y o u 0 g cap) ⟨y.rd,E,a,b,LX,Ol,[]⟩ R S C)→∃L',CM x ⟨y,E,a,b,e,n,P⟩ k C m (m.bA c o u 0,c',1) (goInt 1) L'∧L.Perm L':=λ{st k C o u g cap Ol LX c' L}hp hk r h1 h2 h3 h4 h5=>
  ui _ ⟨y.rd,E,a,b,LX,Ol,[]⟩ R S C r (SR.bA W X _ _ _ _ _) (tz.rd X ⟨rfl,rfl,rfl,rfl,rfl⟩ h1 (X.b.trans h2.1.symm) (by rw[h2.2];exact X.site) h3 h4 (.inr λq hq=>abL V hp hk hq)) h5
 have lv:∀(g:Option Nat)(cap:Nat){s k:Nat}{C:bV}{o t:Int}{L:List En},c.site=some s→c.out=false→m.aM=m.aM.set k C.vs.reverse→L.Perm (nL ((x.lv y).bA y o eH t g cap) ⟨y.rd,E,a,b,[],n,[]⟩ (vW y.id R) S C)→∃L',CM x ⟨y,E,a,b,e,n,P⟩ k C m ((m.leave c s).bA c o eH t,c.up.leave,1) (goInt 1) L'∧L.Perm L':=λg cap{s k C o t L}fJ f r hL=>by
  refine ui ((x.lv y).bA y o eH t g cap) ⟨y.rd,E,a,b,[],n,[]⟩ (vW y.id R) S C r ⟨W.ck,W.li,?_,?_,W.mo.sub List.filter_sublist,?_⟩ (tz.rd X ⟨rfl,rfl,rfl,rfl,rfl⟩ ⟨rfl,rfl,rfl,f,rfl,rfl⟩ X.b (λs h=>by cases h) rm.nil ⟨by simp,by simp,λx hx=>by simp at hx⟩ (.inl rfl)) hL
  ·show x.si.set y.site ⟨false,false,0⟩=(m.sites.set s (-1)).map pv
   rw[List.map_set,W.si,X.site s fJ];rfl
  ·rw[O]
   exact W.mm.leave W.mo.keys c.me
  ·show x.ev++[_]=m.events++[_]
   rw[W.ev,O,dM]
 have J9:jb e=c.wrote.map λw=>(w.key:Int):=X.wr.jb V.lQ;have mJ:e.length=c.wrote.length:=by
  have h1:=X.wr.keys.length_eq;simpa only[List.length_map]using h1
 have AD:=aqM Q V X;have Dv:=c.qX c.wrote.length;have aF:=c.xW c.wrote.length;have cs:∀{q:Value}{qZ:List En},(2≤(c.step c.wrote.length).phase→2≤c.phase)→jP (c.step c.wrote.length) (y.lx q) (c.wrote.map λw=>(w.key:Int)) qZ→tz (c.step c.wrote.length) ⟨y.lx q,E,a,b,e,n,qZ⟩:=λh2 hn=>⟨by rw[Dv.1];exact O,by rw[Dv.2.1];exact X.pr,by rw[Dv.2.2.1];exact dM,by rw[Dv.2.2.2.2.2.1];exact X.b,λs h=>X.site s (by rw[←Dv.2.2.2.2.1];exact h),λh=>by rw[Dv.2.2.2.2.2.2.2];exact X.aG (h2 h),by rw[Dv.2.2.2.2.2.2.1];exact X.wr,X.mw,by rw[Dv.2.2.2.2.2.2.1];exact hn⟩;have cm:∀{st:Stp}{s:Nat}{w:Wt}{T:Mo×Cm×Int}{B:Bool},c.pr[c.at_]?=some st→c.out=false→st.kind=5→c.site=some s→c.phase=0→c.wrote[c.keys]?=some w→w.key<m.aM.length→(((m.marks.getD w.key .no).set&&decide ((m.marks.getD w.key .no).bt≠c.me))||oJ (m.aM.getD w.key []) c.b)=B→(∀{C:bV}{g cap:Nat}{v:Value}{L:List En},m.aM=m.aM.set w.key C.vs.reverse→clash R C.vs w.key y.id y.b=B→c.keys<c.wrote.length→c.wrote.length≤cap→za x y R S e n C g c.keys cap (c.wrote.map λw=>(w.key:Int)) w.key v L→∃L',CM x ⟨y,E,a,b,e,n,P⟩ w.key C m T v L'∧(L++[y.pE]).Perm L')→Mu x ⟨y,E,a,b,e,n,P⟩ R S m T:=by
  intro st s w T B hp f hk fJ Hg hw fq hB hT;refine M w.key fq λC l H G hv r J=>?_;have yT:((c.wrote.map λw=>(w.key:Int)))[c.keys]?=some (w.key:Int):=by rw[List.getElem?_map,hw];rfl
  have dJ:=(List.getElem?_eq_some_iff.1 hw).1;have bx:clash R C.vs (w.key:Nat) y.id y.b=B:=by
   rw[hv,O,X.b,←hB];exact ag2 W.mm G Q.ml V.b
  have bY:=K8 V W X fJ;rcases Nat.eq_zero_or_pos c.keys with A|A
  ·obtain⟨e1,rfl⟩:=rd hp f ah ⟨Hg,A⟩
   simp only[e1];refine Fl.sub ([]) ((Ip K (iu hp)).2.2.2.2 hk R S e n C w.key W.mo X.mw ⟨by omega,AD⟩ bY H J (by rw[J9,←yT,A])) ou ?_;rintro v _ ⟨g,cap,L',N,d,rfl⟩;rw[J9,←A]at d;obtain⟨L2,q1,q2⟩:=hT r bx dJ ah d;exact⟨L2,q1,.trans cx q2⟩
  ·obtain⟨j,hj⟩:∃j,c.keys=j+1:=⟨c.keys-1,by omega⟩
   obtain⟨g,cap,b1,b2,N,e1,rfl⟩:=nx.mk V f Hg hj;simp only[e1];refine Fl.sub ([y.pE]) (apZ x y R S e n C g j cap (c.wrote.map λw=>(w.key:Int)) w.key b1 b2 K W.mo bY H J (by rw[←hj];exact yT) N) ou ?_;intro v L1 d;rw[←hj]at d;rw[List.length_map]at N;exact hT r bx dJ N d
 refine tC V (Mu x ⟨y,E,a,b,e,n,P⟩ R S m) ?_ ?_ ?_ ?_ ?_ ?_ ?_ ?_ ?_ ?_ ?_ ?_ ?_ ?_ ?_
 ·intro hn
  refine M 0 k0 λC l H G hv r J=>?_;have nc:y.pr[y.at_]?=none:=by rw[X.pr,dM];exact hn
  have β:y.at_≤y.pr.length:=by rw[X.pr,dM];exact V.at_
  cases f:c.out with
  |true=>
   obtain⟨e1,rfl⟩:=nx.sk V f;simp only[e1];refine Fl.sub ([x.sE,x.cE,x.mE R S,y.wE e n,C.hd,C.rw]) (ade x y K β) ou ?_;intro v L1 d;rw[nc]at d;obtain⟨rfl,rfl⟩:=d;exact ui x _ R S C r W X ou
  |false=>
   have A:c.phase=0∧c.keys=0:=by
    by_cases h:c.keys≠0∨c.phase≠0
    ·obtain⟨q,hq,_⟩:=V.tO h
     rw[hn]at hq;cases hq
    ·omega
   obtain⟨e1,rfl⟩:=nx.rd V f A.1 A.2 (λq hq=>by rw[hn]at hq;cases hq);simp only[e1];refine Fl.sub ([x.en,x.eE,x.sE,x.cE,x.mE R S,y.wE e n,y.pE,C.hd,C.rw]) (atz x y (by have:=List.getElem?_eq_none_iff.1 nc;omega)) ou ?_;rintro _ _ ⟨rfl,rfl⟩;exact ui x _ R S C r W X ou
 ·intro st hp f
  refine M 0 k0 λC l H G hv r J=>?_;have A:=V.Cc f;obtain⟨e1,rfl⟩:=nx.sk V f;simp only[e1];refine Fl.sub ([x.sE,x.cE,x.mE R S,y.wE e n,C.hd,C.rw]) (ade x y K (by rw[X.pr,dM];exact V.at_)) ou ?_;intro v L1 d;rw[iu hp]at d;obtain⟨rfl,g,cap,rfl⟩:=d;unfold If;by_cases hk:st.kind≠5∧st.kind≠6
  ·rw[if_pos hk]
   exact ui _ ⟨y.skip,E,a,b,e,n,[]⟩ R S C r (SR.bA W X 7 eH 0 g cap) ⟨O,X.pr,congrArg (·+1) dM,X.b,X.site,λh=>absurd (show 2≤c.phase from h) ah,X.wr,X.mw,.skip (Ib st hk) rfl⟩ xa
  ·rw[if_neg hk]
   exact ui _ ⟨y.rd,E,a,b,e,n,[]⟩ R S C r (SR.bA W X 7 eH 0 g cap) (tz.rd X ⟨rfl,rfl,rfl,rfl,rfl⟩ ⟨rfl,rfl,rfl,abV st ah,A.1,A.2⟩ X.b X.site X.wr X.mw (.inl (V.out f))) xa
 ·intro st i hp f hk fJ hi
  refine M 0 k0 λC l H G hv r J=>?_;have A:=V.xc hp hk;obtain⟨bc,bi,e1,rfl⟩:=nx.bg V f hp hk fJ;simp only[e1];refine Fl.sub ([x.cE,x.mE R S,y.wE e n,y.pE,C.hd,C.rw]) (agl x y i bc bi K (by rw[OL W];exact hi)) ou ?_;rintro v _ ⟨rfl,g,cap,rfl⟩;refine ui (aR.bA {x with si:=x.si.set i ⟨true,true,x.ck⟩} y 1 eH x.ck g cap) ⟨(y.nk x.ck).rd,E,a,b,e,n,[]⟩ R S C r ⟨W.ck,W.li,?_,W.mm,W.mo,?_⟩ (tz.rd X ⟨rfl,rfl,rfl,rfl,rfl⟩ ⟨rfl,rfl,rfl,f,A.1,A.2⟩ W.ck X.site X.wr X.mw (.inr λq hq=>abL V hp ah hq)) ?_
  ·show x.si.set i ⟨true,true,x.ck⟩=(m.sites.set i m.clock).map pv
   rw[List.map_set,W.si,W.ck,avp _ Q.ck.1]
  ·show x.ev++[_]=m.events++[_]
   rw[W.ev,O,dM,W.ck]
  exact xa
 ·intro st i hp f hk fJ hf
  refine M 0 k0 λC l H G hv r J=>?_;obtain⟨e1,rfl⟩:=rd hp f (λ_=>fJ) (V.xc hp hk);simp only[e1];have An:tR x.si 0=some i:=by rw[W.si,Rj];exact hf
  refine Fl.sub ([x.cE,x.mE R S,y.wE e n,C.hd,C.rw]) ((Ip K (iu hp)).1 hk (by rw[OL W];have:=Q.s;omega)) ou ?_;rintro v _ ⟨L',d,rfl⟩;unfold GW at d;rw[An]at d;obtain⟨rfl,w,bc,bi,hw,rfl⟩:=d;have ma:w=⟨false,false,0⟩:=by
   have h1:=Rm m.sites 0 i hf;rw[W.si,List.getElem?_map]at hw;rw[Nat.sub_zero]at h1;rw[h1]at hw;simp only[Option.map_some,Option.some.injEq]at hw;rw[←hw];exact avo
  refine ui {x with si:=x.si.set i {w with busy:=true}} ⟨y.take i bc bi,E,a,b,e,n,[.ob bc (.cells #[pt y.c] 140),.ob bi (.cells #[goInt i] 3)]⟩ R S C r ⟨W.ck,W.li,?_,W.mm,W.mo,W.ev⟩ ⟨O,X.pr,dM,X.b,λs h=>by cases h;rfl,λh=>?_,X.wr,X.mw,.kz st i bc bi f hp hk rfl rfl⟩ ?_
  ·show x.si.set i {w with busy:=true}=(m.sites.set i (-2)).map pv
   rw[List.map_set,W.si,ma];rfl
  ·have:2≤c.phase:=h
   have:=V.xc hp hk;omega
  exact xa
 ·intro st hp f hk fJ hf
  refine M 0 k0 λC l H G hv r J=>?_;have A:=V.xc hp hk;obtain⟨e1,rfl⟩:=rd hp f (λ_=>fJ) A;simp only[e1];have An:tR x.si 0=none:=by rw[W.si,Rj];exact hf
  refine Fl.sub ([x.cE,x.mE R S,y.wE e n,C.hd,C.rw]) ((Ip K (iu hp)).1 hk (by rw[OL W];have:=Q.s;omega)) ou ?_;rintro v _ ⟨L',d,rfl⟩;unfold GW at d;rw[An]at d;obtain⟨rfl,g,cap,rfl⟩:=d;exact ui _ ⟨y.skip,E,a,b,e,n,[]⟩ R S C r (SR.bA W X 5 eH 0 g cap) ⟨O,X.pr,congrArg (·+1) dM,X.b,X.site,λh=>absurd (show 2≤c.phase from h) ah,X.wr,X.mw,.skip rfl rfl⟩ xa
 case' refine_6=>intro st k o s hp f hk dV dJ fJ _ hg
 case' refine_7=>intro st k s hp f hk dV dJ fJ _ hg
 iterate 2
  refine M k dJ λC l H G hv r J=>?_;have A:=zk hp ah;obtain⟨e1,rfl⟩:=rd hp f ah A;simp only[e1];have NT:Aj e R C.vs (k:Nat) y.id y.b=m.get c k:=by
   rw[hv,O,X.b];exact ajy X.wr W.mm G Q.ml
  refine Fl.sub ([x.sE]) ((Ip K (iu hp)).2.1 hk R S e n C k H J dV) ou ?_;rintro v _ ⟨L',d,rfl⟩;unfold Bz at d;rw[NT,hg]at d
  first
   |obtain⟨rfl,g,cap,rfl⟩:=d
    exact an hp ah r ⟨rfl,rfl,rfl,f,A.1,A.2⟩ ⟨rfl,rfl⟩ X.wr X.mw xa
   |obtain⟨rfl,rfl⟩:=d
    exact ui x _ R S C r W X ou
 ·intro st k s hp f hk dV dJ fJ _
  refine M 0 k0 λC l H G hv r J=>?_;have A:=zk hp ah;obtain⟨e1,rfl⟩:=rd hp f ah A;simp only[e1];refine Fl.sub ([x.sE,x.cE,x.mE R S,C.hd,C.rw]) ((Ip K (iu hp)).2.2.1 (decide (st.kind=4)) (hk.imp (λh=>⟨h,by simp[h]⟩) λh=>⟨h,by simp[h]⟩) e n) ou ?_;rintro v _ ⟨rfl,g,cap,rfl⟩;rw[dV];exact an hp ah r ⟨rfl,rfl,rfl,f,A.1,A.2⟩ ⟨rfl,rfl⟩ (X.wr.put V.lQ ⟨k,_,st.val⟩ n) (X.mw.set (k:Int) (_,st.val)) xa
 ·intro st s hp f hk fJ _
  refine M 0 k0 λC l H G hv r J=>?_;have bY:=K8 V W X fJ;obtain⟨e1,rfl⟩:=rd hp f ah (hk.elim (λh=>zk hp ah) λh=>by have:=V.kR h.2;omega);simp only[e1];refine Fl.sub ([x.cE,C.hd,C.rw]) ((Ip K (iu hp)).2.2.2.1 R S e n (hk.imp_right λh=>⟨h.1,aqL X h.2⟩) W.mo bY) ou ?_;rintro v _ ⟨rfl,g,cap,rfl⟩;exact lv g cap fJ f r xa
 ·intro st s w hp f hk fJ _ Hg hw fq vL
  refine cm hp f hk fJ Hg hw fq vL λr bx _ _ d=>?_;unfold za at d;rw[bx,if_pos rfl]at d;obtain⟨rfl,g,cap,rfl⟩:=d;exact lv g cap fJ f r xa
 ·intro st s w hp f hk fJ _ Hg hw fq vL
  refine cm hp f hk fJ Hg hw fq vL λ{C}g cap _ _ r bx dJ N d=>?_;unfold za at d;rw[bx,if_neg ba]at d;have sr:SR {m with marks:=m.marks.set w.key ⟨true,c.me,0⟩} x (j9 R w.key (y.id,0) S) (qP R w.key S):=⟨W.ck,W.li,W.si,by rw[O];exact W.mm.set w.key S c.me 0,W.mo.set _ _,W.ev⟩;obtain⟨rfl,d⟩:=d;rw[List.length_map]at d;split at d
  ·subst d
   exact ui x ⟨y.lx (.func (.func 117) #[pt y.c] #[]),E,a,b,e,n,[]⟩ _ _ C r sr (cs ah (.aG ah rfl)) ou
  ·obtain⟨b1,b2,rfl⟩:=d
   exact ui x ⟨y.lx (.func (.func 116) #[] #[pt b1,pt b2]),E,a,b,e,n,_⟩ _ _ C r sr (cs ah (.mark c.keys g cap b1 b2 ah ah (by rw[List.length_map];exact N) rfl)) (by unfold nL;simp only[List.length_map];exact cx)
 ·intro st s hp f hk fJ _ h1 cK az G
  refine M 0 k0 λC l H oX hv r J=>?_;obtain⟨e1,rfl⟩:=nx.st V h1;simp only[e1];refine Fl.sub ([x.cE,y.pE,C.hd,C.rw]) (ad8 x y R S e n K W.mo X.mw AD (K8 V W X fJ) (by rw[W.ck];have:=Q.ck;omega)) ou ?_;intro v L1 d;unfold LF at d;rw[W.ck,W.li,if_pos G]at d;obtain⟨rfl,g,cap,rfl⟩:=d;exact lv g cap fJ f r xa
 ·intro st s hp f hk fJ _ h1 cK az G
  refine M 0 k0 λC l H oX hv r J=>?_;obtain⟨e1,rfl⟩:=nx.st V h1;simp only[e1];refine Fl.sub ([x.cE,y.pE,C.hd,C.rw]) (ad8 x y R S e n K W.mo X.mw AD (K8 V W X fJ) (by rw[W.ck];have:=Q.ck;omega)) ou ?_;intro v L1 d;unfold LF at d;rw[W.ck,W.li,if_neg G]at d;obtain⟨rfl,z,rfl⟩:=d;have RN:=pF.aG (ws:=c.wrote) c.me (m.clock+1) c.wrote m.marks R S W.mm W.mo (λw hw=>by
   obtain⟨j,hj⟩:=List.getElem?_of_mem hw;exact Kd j w hj (.inr (.inl h1)))
  rw[←J9,←O]at RN;exact ui x.tick ⟨y.PO (m.clock+1) z,E,a,b,e,n,[.ob z (.cells #[pt y.c] 140)]⟩ _ _ C r ⟨congrArg (·+1) W.ck,W.li,W.si,RN.1,RN.2,W.ev⟩ ⟨O,X.pr,dM,X.b,X.site,λ_=>rfl,X.wr,X.mw,.Oh z rfl cK rfl⟩ xa
 ·intro st s w hp f hk fJ _ YP hw fq
  refine M w.key fq λC l H G hv r J=>?_;have yT:((c.wrote.map λw=>(w.key:Int)))[c.keys]?=some (w.key:Int):=by rw[List.getElem?_map,hw];rfl
  have dJ:=(List.getElem?_eq_some_iff.1 hw).1;have KC:iI e (w.key:Nat)=some (w.gone,w.val):=X.wr.at_ V.lQ hw;have fin:∀{g cap:Nat}{v:Value}{L:List En},c.wrote.length≤cap→FD x y R S e n C g c.keys cap (c.wrote.map λw=>(w.key:Int)) w.key (w.gone,w.val) v L→∃L',CM x ⟨y,E,a,b,e,n,P⟩ w.key C m ({m with aM:=m.aM.modify w.key λl=>⟨c.aG,w.gone,w.val⟩::l,marks:=m.marks.set w.key .no},c.step c.wrote.length,1) v L'∧(L++[x.eE,x.sE,y.pE]).Perm L':=λ{g cap v L}N d=>by
   unfold FD at d;rw[List.length_map]at d;obtain⟨rfl,d⟩:=d;have cP:∀g' D,(m.aM.modify w.key λl=>⟨c.aG,w.gone,w.val⟩::l)=m.aM.set w.key (C.put g' D ⟨y.aG,w.gone,w.val⟩).vs.reverse:=λg' D=>by
    rw[Ub _ _ _ _ G];congr 1;show _=(C.vs++[_]).reverse;rw[hv,X.aG ah];simp
   have sr:SR {m with aM:=m.aM.modify w.key λl=>⟨c.aG,w.gone,w.val⟩::l,marks:=m.marks.set w.key .no} x (ng w.key R) S:=⟨W.ck,W.li,W.si,W.mm.del W.mo.keys w.key,W.mo.sub (aa9 _ _),W.ev⟩;split at d
   ·obtain⟨z,g',D,rfl⟩:=d
    exact ui x ⟨y.lx (.func (.func 143) #[] #[pt z]),E,a,b,e,n,[.ob z (.cells #[pt y.c] 140)]⟩ _ S (C.put g' D ⟨y.aG,w.gone,w.val⟩) (cP g' D) sr (cs ah (.leave z ah rfl)) ou
   ·obtain⟨b1,b2,g',D,rfl⟩:=d
    exact ui x ⟨y.lx (.func (.func 142) #[] #[pt b1,pt b2]),E,a,b,e,n,_⟩ _ S (C.put g' D ⟨y.aG,w.gone,w.val⟩) (cP g' D) sr (cs ah (.inst c.keys g cap b1 b2 ah ah (by rw[List.length_map];exact N) rfl)) (by unfold nL;simp only[List.length_map];exact cx)
  rcases Nat.eq_zero_or_pos c.keys with A|A
  ·obtain⟨z0,e1,rfl⟩:=nx.i0 V YP A
   simp only[e1];refine Fl.sub ([x.eE,x.sE,y.pE]) (ax8 x y R S e n C w.key (w.gone,w.val) z0 X.mw AD KC H J (by rw[J9,←yT,A])) ou ?_;rintro v L1 ⟨g,cap,N,d⟩;rw[J9,←A]at d;exact fin ah d
  ·obtain⟨j,hj⟩:∃j,c.keys=j+1:=⟨c.keys-1,by omega⟩
   obtain⟨g,cap,b1,b2,N,e1,rfl⟩:=nx.i1 V YP hj;simp only[e1];refine Fl.sub ([x.eE,x.sE,y.pE]) (anC x y R S e n C g j cap (c.wrote.map λw=>(w.key:Int)) w.key (w.gone,w.val) b1 b2 KC H J (by rw[←hj];exact yT) N) ou ?_;intro v L1 d;rw[←hj]at d;rw[List.length_map]at N;exact fin N d
 ·intro st s hp f hk fJ _ h3 _ _
  refine M 0 k0 λC l H G hv r J=>?_;obtain⟨z,e1,rfl⟩:=nx.lv V h3;simp only[e1];refine Fl.sub ([x.cE,y.pE,C.hd,C.rw]) (anE x y R S e n z K W.mo (K8 V W X fJ)) ou ?_;rintro v _ ⟨rfl,g,cap,rfl⟩;rw[show y.aG=c.aG from X.aG ah];exact lv g cap fJ f r xa
end
theorem azg(m:Mo)(c:Cm):(m.bX c).1.w=m.w:=by
 unfold Mo.bX;dsimp only
 repeat' split
 all_goals rfl
theorem jP.Br{c:Cm}{y:c5}{q:ae Int}{r:ae En}(k:eG)(h:jP c y q r):jP c (y.by k) q r:=by
 cases h with
 |skip f a=>exact .skip f a
 |kz p i s t f v d w a=>exact .kz p i s t f v d w a
 |read f u b d a=>exact .read f u b d a
 |mark j g e l n b d o a=>exact .mark j g e l n b d o a
 |aG b a=>exact .aG b a
 |Oh z b d a=>exact .Oh z b d a
 |inst j g e l n b d o a=>exact .inst j g e l n b d o a
 |leave z b a=>exact .leave z b a
theorem tK.keep{m c:Mo}{u:dT}{f:ae En}(h:tK m u f)(g:c.at_=m.at_)(d:c.w=m.w)(j:c.sites.length=m.sites.length)(l:c.aM.length=m.aM.length):tK c u f:=by
 cases h with
 |first h a=>exact .first ah a
 |aBT z h b a=>exact .aBT z ah (by rw[d];exact b) a
 |site z e i h n b a=>exact .site z e i ah ah (by rw[d];exact b) a
 |HQ z h b a=>exact .HQ z ah (by rw[d];exact b) a
 |key z e k h o b a=>exact .key z e k ah ah (by rw[d];exact b) a
theorem aqa{x:aR}{i:Int}(h:x.mu=i):x.bf i=x:=by cases x;cases h;rfl
theorem agH{y:c5}{k:eG}(a:y.wk=.chan (Z k.w))(b:y.tl=.chan (Z k.t)):y.by k=y:=by cases y;cases a;cases b;rfl
theorem kM.sr{m:Mo}{σ:Sg}(h:kM m σ)(a:Int):SR m (σ.x.bf a) σ.ms σ.km:=⟨h.ck,h.li,h.si,h.mm,h.mo,h.ev⟩
theorem aoI{x a:aR}(h:XK x a):a.lE=x.lE:=by
 obtain⟨_,_,_,b,c,d,_⟩:=h;unfold aR.lE;rw[b,c,d]
def Sg.lx(σ:Sg)(i k:Nat)(e:aR)(d:PC)(c:bU Mk)(b:Nat)(a:bV):Sg:={σ with x:=e,ms:=c,km:=b,cd:=σ.cd.set k a,cls:=σ.cls.set i d,a0:=σ.a0+1,b0:=σ.b0+1,ad:=σ.ad+1+1,bd:=σ.bd+1+1}
def Mo.with(m a:Mo)(i:Nat)(c:Cm):Mo:={a with be:=m.be.set i c}
section
variable {m:Mo}{σ:Sg}(W:m.Ok)(X:kM m σ)
include W X
theorem kM.lx{i k:Nat}{c:Cm}{p r:PC}{C l:bV}{g:aR}{x:bU Mk}{w:Nat}(s:m.be[i]?=Z c)(t:σ.cls[i]?=Z p)(v:σ.cd[k]?=Z C)
  (h:Mv (σ.x.bf 1) {p with y:=p.y.by p.k} k C m (m.bX c) g r x w l):
  kM (m.with (m.bX c).1 i (m.bX c).2.1) (σ.lx i k g {r with a:=p.a+1,b:=p.b+1} x w l):=by
 obtain⟨J,B,K,G,f,d⟩:=h;have z:=W.me i c s;have q:=LK W z.2.1 z.2.2;have L:i<σ.cls.length:=(dq.1 t).1;have S:k<σ.cd.length:=(dq.1 v).1;have H:=X.cr i c p s t;obtain⟨x1,x2,O,x4,x5,P,Q⟩:=J;obtain⟨M,T,V,N,p5,p6⟩:=B;refine⟨f.ck,f.li,f.si,?_,?_,f.mm,f.mo,f.ev,?_,?_,λj u A R D=>?_,?_,X.ux.keep q.at_ (azg m c) q.s q.k,?_,?_⟩
 ·show g.ch=(σ.cd.set k l).map (·.c)
  rw[Q,wL,K,show(σ.x.bf 1).ch=σ.x.ch from F,X.ch];exact(Pv (by rw[fW,v];rfl)).symm
 ·show(σ.cd.set k l).map (·.vs)=(m.bX c).1.aM.map List.reverse
  rw[G,wL,wL,X.vs,List.reverse_reverse]
 ·show g.cl=(σ.cls.set i _).map (·.y.c)
  rw[P,wL,show(σ.x.bf 1).cl=σ.x.cl from F,X.cl];exact(Pv (by rw[fW,t];exact congrArg Z N.symm)).symm
 ·show(σ.cls.set i _).length=(m.be.set i _).length
  rw[wJ,wJ,X.cn]
 ·have o:(m.be.set i (m.bX c).2.1)[j]?=Z u:=R
  have n:(σ.cls.set i {r with a:=p.a+1,b:=p.b+1})[j]?=Z A:=D;by_cases e:i=j
  ·subst e
   have E:i<m.be.length:=(dq.1 s).1;rw[zD E]at o;rw[zD L]at n;cases o;cases n;refine⟨⟨d.id,d.pr,d.at_,d.b,d.site,d.aG,d.wr,d.mw,d.nx⟩,?_⟩;show r.k.d=σ.k0.d;rw[M];exact H.2
  ·rw[rK e]at o n
   exact X.cr j u A o n
 ·show g.sw=σ.u.w
  rw[O];exact X.sw
 ·show σ.n=((m.be.set i _).length:Int)+1
  rw[wJ];exact X.n
 ·show σ.st=(m.bX c).1.fE
  rw[q.st];exact X.st
theorem arP(G:m.fE=false){i:Nat}{c:Cm}(t:m.be[i]?=some c)(o:Value)(a:Gc)(b:Nat):Fl Sv 27 [pt σ.x.s,goInt i].toArray (aQ 4 o::gE a b::σ.all) λv L=>∃r,v=.tuple #[goInt r,.nilIface]∧∃x,r=(m.bX c).2.2∧kM (m.with (m.bX c).1 i (m.bX c).2.1) x∧x.x.s=σ.x.s∧L=aQ 4 o::gE (a+1) (b+1)::x.all:=by
 have M:i<σ.cls.length:=by rw[X.cn];exact(List.getElem?_eq_some_iff.1 t).1
 obtain⟨p,u⟩:∃p,σ.cls[i]?=some p:=⟨_,List.getElem?_eq_getElem M⟩;obtain⟨g,hd⟩:=X.cr i c p t u;have O:=W.me i c t;have E:tz c {p with y:=p.y.by p.k}:=⟨g.id,g.pr,g.at_,g.b,g.site,g.aG,g.wr,g.mw,g.nx.Br p.k⟩;obtain⟨k,V,hN⟩:=aqJ W O.2.1 (X.sr 1) E O.2.2;have bx:σ.cd.length=m.aM.length:=by have:=congrArg List.length X.vs;simpa using this
 obtain⟨C,s⟩:∃C,σ.cd[k]?=some C:=⟨_,List.getElem?_eq_getElem ah⟩;obtain⟨l,K⟩:∃l,m.aM[k]?=some l:=⟨_,List.getElem?_eq_getElem V⟩;have P:C.vs=l.reverse:=by
  have J:(σ.cd.map (·.vs))[k]?=some C.vs:=by rw[List.getElem?_map,s];rfl
  rw[X.vs,List.getElem?_map,K]at J;exact(Option.some.inj J).symm
 have S:=hN C l (by rw[show(σ.x.bf 1).ch=σ.x.ch from rfl,X.ch,List.getElem?_map,s];rfl) K P;have Q:jP c (p.y.by p.k) (c.wrote.map λw=>(w.key:Int)) p.xs:=E.nx;have T:=W.cl;have hP:=arS σ.x p.y σ.u σ.k0 p.k i o σ.n a b σ.a0 σ.b0 p.a p.b σ.ad σ.bd ([σ.x.eE,σ.x.sE,σ.x.cE,σ.x.mE σ.ms σ.km,p.y.wE p.ws p.kw,p.y.pE,C.hd,C.rw]++p.xs)
  (λr e D=>∃d j h f,r=(m.bX c).2.2∧Mv (σ.x.bf 1) {p with y:=p.y.by p.k} k C m (m.bX c) e d j h f∧D=e.kE d.y::([e.eE,e.sE,e.cE,e.mE j h,d.y.wE d.ws d.kw,d.y.pE,f.hd,f.rw]++d.xs))
  X.sw hd (by rw[X.cl,List.length_map,X.cn];omega) (by rw[X.cl,List.getElem?_map,u];rfl) (λq=>by
   refine Fl.post (Fl.perm (azb Q q (σ.x.bf 1) S) (by exact List.Perm.refl _)) ?_;rintro v _ ⟨L1,⟨e,d,j,h,f,rfl,n,rfl⟩,rfl⟩;refine⟨_,⟨(m.bX c).2.2,e,_,⟨rfl,n.xk.1,d,j,h,f,rfl,n,rfl⟩,rfl⟩,?_⟩;rw[aqa (show e.mu=1 from n.xk.2.1)];exact List.Perm.cons _ (List.Perm.swap ..))
 refine Fl.sub (σ.tl i k) hP ?_ ?_
 ·have A:=σ.open u s
  refine((A.cons _).cons _).trans ?_;unfold Sg.top PC.hd bV.es;rw[show σ.st=false from X.st.trans G];exact cx
 ·rintro v _ ⟨r,e,D,rfl,B,⟨d,j,h,f,rfl,n,rfl⟩,rfl⟩
  have ny:=X.lx W t u s n;refine⟨_,⟨_,rfl,_,rfl,ny,B,rfl⟩,?_⟩;have A:=(σ.lx i k e {d with a:=p.a+1,b:=p.b+1} j h f).open (i:=i) (k:=k) (by show(σ.cls.set i _)[i]?=_;rw[List.getElem?_set_self M]) (by show(σ.cd.set k f)[k]?=_;rw[List.getElem?_set_self ah])
  refine List.Perm.trans ?_ ((A.symm.cons _).cons _);rw[afe (σ:=σ) (σ':=σ.lx i k e {d with a:=p.a+1,b:=p.b+1} j h f) (c:={d with a:=p.a+1,b:=p.b+1}) (C:=f) rfl rfl rfl B];obtain⟨N,p2,p3,p4,p5,p6⟩:=n.pk;have R:d.y.by d.k=d.y:=by rw[N];exact agH p5 p6
  have z:=aoI n.xk;have H:e.s=σ.x.s:=B;show List.Perm _ (aQ 4 o::gE (a+1) (b+1)::([(e.bf 0).en,e.uE (σ.u.by σ.k0),σ.k0.wE (σ.a0+1) (σ.b0+1),dE σ.k0.d e.s σ.n σ.st (σ.ad+1+1) (σ.bd+1+1),e.eE,e.sE,e.cE,e.lE,e.mE j h]++([f.hd,f.rw]++([e.kE (d.y.by d.k),d.k.wE (p.a+1) (p.b+1),d.y.wE d.ws d.kw,d.y.pE]++(d.xs++σ.tl i k)))));rw[R,z,show e.uE (σ.u.by σ.k0)=σ.x.uE (σ.u.by σ.k0) by unfold aR.uE;rw[H],N,H,show σ.st=false from X.st.trans G,show(σ.x.bf 1).lE=σ.x.lE from rfl];exact cx
end
theorem aff{u:dT}{v:ag}(h:u.nx=v):u.go u.low v=u:=by cases u;cases h;rfl
theorem ayX{m:Mo}{u:dT}{S:ae En}(h:tK m u S)(q:Nat)(x:aR)(d:x.sw=u.w){c:ae En}{R:ag->ae En->Prop}(a:Fl Sv (K7 u.nx) (K6 u.nx) (x.en::x.uE u::c) R):Fl Sv 60 [pt q].toArray (.ob q (.cells #[pt x.s] 34)::x.en::x.uE u::c) λv L=>∃b,R v b/\L=.ob q (.cells #[pt x.s] 34)::b:=by
 cases h
 all_goals
  rename_i hn;rw[hn]at a;have e:=aff hn;rw[<-e]at a⊢;obtain⟨w,n,nx,p,o⟩:=u;simp only at d;subst d;exact Fl.of 10 λj f=>av [0,1,2] (lW [.ob q (.cells #[pt x.s] 34)] _ a λv L1 hR=>av [] (ez [v] _ ⟨L1,hR,rfl⟩))
section
variable {m:Mo}
theorem ayw(W:m.fE=Y)(h:m.at_=0):m.da=({m with at_:=1,w:=m.clock},Y,0):=by simp[Mo.da,W,h]
theorem ayF(W:m.fE=Y){i:Nat}(h:m.at_=i+1){v:Int}(hv:m.sites[i]?=Z v):m.da=({m with at_:=i+2,w:=if 0<=v/\v<m.w then v else m.w},Y,0):=by
 have hi:i+1<=m.sites.length:=(dq.1 hv).1;unfold Mo.da;rw[W,h];simp only[hZ,if_false,Nat.add_one_ne_zero,if_pos hi,Nat.add_sub_cancel,hv]
theorem ayB(W:m.fE=Y){k:Nat}(h:m.at_=m.sites.length+1+k)(hk:k+1=m.aM.length):m.da=({m with at_:=0,aM:=m.aM.modify k λl=>mq l m.w},U,0):=by
 have a:¬m.sites.length+1+k=0:=by omega
 have b:¬m.sites.length+1+k<=m.sites.length:=by omega
 have c:m.sites.length+1+k-1-m.sites.length=k:=by omega
 unfold Mo.da;rw[W,h];simp only[hZ,if_false,a,b,c,hk,if_true]
theorem ayA(W:m.fE=Y){k:Nat}(h:m.at_=m.sites.length+1+k)(hk:k+1≠m.aM.length):m.da=({m with at_:=m.sites.length+1+k+1,aM:=m.aM.modify k λl=>mq l m.w},Y,0):=by
 have a:¬m.sites.length+1+k=0:=by omega
 have b:¬m.sites.length+1+k<=m.sites.length:=by omega
 have c:m.sites.length+1+k-1-m.sites.length=k:=by omega
 unfold Mo.da;rw[W,h];simp only[hZ,if_false,a,b,c,hk]
end
def uL(x:aR)(u:dT)(C:bV)(S:ae En):ae En:=x.en::x.uE u::([x.sE,x.cE,C.hd,C.rw]++S)
structure SwF(u:dT)(k:Nat)(C:bV)(m m':Mo)(u':dT)(C':bV)(qZ:ae En):Prop where
 uk:u'.w=u.w/\u'.wk=u.wk/\u'.tl=u.tl
 cc:C'.c=C.c
 ch:m'.aM=m.aM.set k C'.vs.reverse
 ux:tK m' u' qZ
def Qs(x:aR)(u:dT)(k:Nat)(C:bV)(m:Mo)(T:Mo×Bool×Int)(v:ag)(L:ae En):Prop:=∃c a b,v=ai (if T.2.1 then 1 else 0)/\SwF u k C m T.1 c a b/\L=uL x c a b
def afx(x:aR)(u:dT)(S:ae En)(m:Mo)(T:Mo×Bool×Int):Prop:=∃k,k<m.aM.length/\∀(C:bV)(l:ae aZ),x.ch[k]?=Z C.c->m.aM[k]?=Z l->C.vs=l.reverse->Fl Sv (K7 u.nx) (K6 u.nx) (uL x u C S) (Qs x u k C m T)
section
variable {x:aR}{u:dT}{N:bU Mk}{O:Nat}{m:Mo}{S:ae En}(V:m.Ok)(W:m.fE=Y)(Q:SR m x N O)(P:x.ch.length=m.aM.length)
include V W Q P
omit P in
theorem aek{i:Nat}(hi:i<m.sites.length)(ha:m.at_=i+1)(HA:u.low=m.w){F:cH}{args:af ag}{LY:ae En}(hx:x.si.length<1000000)(hF:∀v,x.si[i]?=Z v->Fl Sv F args (LY++[x.en,x.uE u,x.sE]) (Cn x u i v)){k:Nat}{l:ae aZ}{C:bV}(hl:m.aM[k]?=Z l)(hv:C.vs=l.reverse):Fl Sv F args (uL x u C LY) (Qs x u k C m m.da):=by
 obtain⟨v,Te⟩:∃v,m.sites[i]?=Z v:=⟨_,eI hi⟩;have hxv:x.si[i]?=Z (pv v):=by rw[Q.si,fW,Te];rfl
 have j8:y8 (pv v) u.low=if 0<=v/\v<m.w then v else m.w:=by rw[HA];exact apw v m.w (V.si v (jZ Te))
 have bY:x.si.length=m.sites.length:=by rw[Q.si,jM]
 rw[ayF W ha Te];refine Fl.sub [x.cE,C.hd,C.rw] (hF _ hxv) (by unfold uL;exact cx) ?_;intro r L1 hR;refine Vf hR ?_ ?_
 ·rintro hn z rfl rfl
  rw[j8];refine⟨_,⟨u.go (if 0<=v/\v<m.w then v else m.w) (.func (.func 108) #[] #[pt z]),C,_,rfl,⟨⟨rfl,rfl,rfl⟩,rfl,MW hl hv,.HQ z ?_ rfl rfl⟩,rfl⟩,?_⟩
  ·show i+2=m.sites.length+1
   omega
  ·show rT _ (x.en::x.uE (u.go (if 0<=v/\v<m.w then v else m.w) (.func (.func 108) #[] #[pt z]))::([x.sE,x.cE,C.hd,C.rw]++[.ob z (.cells #[pt u.w] 116)]))
   exact cx
 ·rintro hn z z' rfl rfl
  rw[j8];refine⟨_,⟨u.go (if 0<=v/\v<m.w then v else m.w) (.func (.func 107) #[] #[pt z,pt z']),C,_,rfl,⟨⟨rfl,rfl,rfl⟩,rfl,MW hl hv,.site z z' i rfl ?_ rfl rfl⟩,rfl⟩,?_⟩
  ·show i+1<m.sites.length
   omega
  ·show rT _ (x.en::x.uE (u.go (if 0<=v/\v<m.w then v else m.w) (.func (.func 107) #[] #[pt z,pt z']))::([x.sE,x.cE,C.hd,C.rw]++[.ob z (.cells #[pt u.w] 116),.ob z' (.cells #[ai i] 3)]))
   exact cx
omit V Q in
theorem aej{k:Nat}(hk:k<m.aM.length)(ha:m.at_=m.sites.length+1+k)(HA:u.low=m.w){F:cH}{args:af ag}{LY:ae En}{l:ae aZ}{C:bV}(hl:m.aM[k]?=Z l)(hv:C.vs=l.reverse)(hF:Fl Sv F args (LY++[x.en,x.uE u,x.cE,C.hd,C.rw]) (xz x u C k)):Fl Sv F args (uL x u C LY) (Qs x u k C m m.da):=by
 have htr:mP C.vs u.low=(mq l m.w).reverse:=by rw[hv,HA];exact ay7 l m.w
 have cP:(m.aM.modify k λl=>mq l m.w)=m.aM.set k (mP C.vs u.low).reverse:=by
  rw[Ub _ _ _ _ hl,htr,List.reverse_reverse]
 refine Fl.sub [x.sE] hF (by unfold uL;exact cx) ?_;intro r L1 hR;refine Tx hR ?_ ?_
 ·rintro hn g cap rfl rfl
  rw[ayB W ha ah];refine⟨_,⟨u.go u.low (.func (.func 45) #[pt u.w] #[]),⟨C.c,g,cap,mP C.vs u.low⟩,[],rfl,⟨⟨rfl,rfl,rfl⟩,rfl,cP,.first rfl rfl⟩,rfl⟩,?_⟩;show rT _ (x.en::x.uE (u.go u.low (.func (.func 45) #[pt u.w] #[]))::([x.sE,x.cE,bV.hd ⟨C.c,g,cap,mP C.vs u.low⟩,bV.rw ⟨C.c,g,cap,mP C.vs u.low⟩]++[]));exact cx
 ·rintro hn g cap z z' rfl rfl
  rw[ayA W ha ah];refine⟨_,⟨u.go u.low (.func (.func 134) #[] #[pt z,pt z']),⟨C.c,g,cap,mP C.vs u.low⟩,_,rfl,⟨⟨rfl,rfl,rfl⟩,rfl,cP,.key z z' k ?_ ?_ HA rfl⟩,rfl⟩,?_⟩
  ·show m.sites.length+1+k+1=m.sites.length+2+k
   omega
  ·show k+1<(m.aM.modify k λl=>mq l m.w).length
   rw[List.length_modify];omega
  ·show rT _ (x.en::x.uE (u.go u.low (.func (.func 134) #[] #[pt z,pt z']))::([x.sE,x.cE,bV.hd ⟨C.c,g,cap,mP C.vs u.low⟩,bV.rw ⟨C.c,g,cap,mP C.vs u.low⟩]++[.ob z (.cells #[pt u.w] 116),.ob z' (.cells #[ai k] 3)]))
   exact cx
theorem ayt(f:tK m u S):afx x u S m m.da:=by
 have j:=V.k;have e:=V.s;have hx:x.si.length<1000000:=by rw[Q.si,jM];omega
 have c:x.ch.length<1000000:=by omega
 have d:∀{k:Nat}{l:ae aZ}{C:bV},m.aM[k]?=Z l->C.vs=l.reverse->C.vs.length<1000000:=λ{k l C}hl hv=>by
  have:=V.Gb.2 l (jZ hl);rw[hv,IH];omega
 cases f with
 |first h hn=>
  refine⟨0,by omega,λC l b hl hv=>?_⟩;rw[hn,ayw W h];refine Fl.sub [x.sE,x.cE,C.hd,C.rw] (aje x u) (by unfold uL;exact cx) ?_;rintro _ _ ⟨rfl,z,rfl⟩;rw[Q.ck];refine⟨_,⟨u.go m.clock (.func (.func 77) #[] #[pt z]),C,_,rfl,⟨⟨rfl,rfl,rfl⟩,rfl,MW hl hv,.aBT z rfl rfl rfl⟩,rfl⟩,?_⟩;show rT _ (x.en::x.uE (u.go m.clock (.func (.func 77) #[] #[pt z]))::([x.sE,x.cE,C.hd,C.rw]++[.ob z (.cells #[pt u.w] 116)]));exact cx
 |aBT z h hl hn=>
  refine⟨0,by omega,λC l b a hv=>?_⟩;rw[hn];exact aek V W Q (i:=0) ah ah hl hx (λv hv=>ajd x u v z hv hx) a hv
 |site z z' i h hi hl hn=>
  refine⟨0,by omega,λC l b a hv=>?_⟩;rw[hn];exact aek V W Q (i:=i+1) ah ah hl hx (λv hv=>avq x u v i z z' hv hx) a hv
 |HQ z h hl hn=>
  refine⟨0,by omega,λC l b a hv=>?_⟩;rw[hn];exact aej W P (k:=0) ah ah hl a hv (avr x u C z b (d a hv) c)
 |key z z' k h hk hl hn=>
  refine⟨k+1,by omega,λC l b a hv=>?_⟩;rw[hn];exact aej W P (k:=k+1) ah ah hl a hv (aof x u C k z z' b (d a hv) c)
end
def Sg.swp(σ:Sg)(k:Nat)(c:dT)(a:bV)(b:ae En):Sg:={σ with cd:=σ.cd.set k a,u:=c,ux:=b,a0:=σ.a0+1+1,b0:=σ.b0+1+1,ad:=σ.ad+1+1,bd:=σ.bd+1+1}
theorem auF{u:dT}{k:eG}(a:u.wk=.chan (Z k.w))(b:u.tl=.chan (Z k.t)):u.by k=u:=by cases u;cases a;cases b;rfl
theorem tK.Br{m:Mo}{u:dT}{S:ae En}(k:eG)(h:tK m u S):tK m (u.by k) S:=by
 cases h with
 |first h hn=>exact .first h hn
 |aBT z h hl hn=>exact .aBT z h hl hn
 |site z z' i h hi hl hn=>exact .site z z' i h hi hl hn
 |HQ z h hl hn=>exact .HQ z h hl hn
 |key z z' k h hk hl hn=>exact .key z z' k h hk hl hn
structure afA(m m':Mo):Prop where
 ck:m'.clock=m.clock/\m'.dX=m.dX
 si:m'.sites=m.sites
 xC:m'.marks=m.marks
 cl:m'.be=m.be
 ev:m'.events=m.events
 st:m'.fE=m.fE
theorem ayv(m:Mo):afA m m.da.1:=by
 unfold Mo.da
 repeat' split
 all_goals exact⟨⟨rfl,rfl⟩,rfl,rfl,rfl,rfl,rfl⟩
section
variable {m:Mo}{σ:Sg}(V:m.Ok)(X:kM m σ)
include V X
theorem ayy(W:m.fE=false)(h:Value)(a:Gc)(b:Nat):Fl Sv 34 [pt σ.x.s].toArray (aQ 4 h::gE a b::σ.all) λv L=>∃r,v=.tuple #[.bool r,.nilIface]∧∃n,r=m.da.2.1∧kM m.da.1 n∧n.x.s=σ.x.s∧L=aQ 4 h::gE (a+1) (b+1)::n.all:=by
 have P:σ.cd.length=m.aM.length:=by have:=congrArg List.length X.vs;simpa using this
 have y:(σ.x.bf 1).ch.length=m.aM.length:=by
  show σ.x.ch.length=_;rw[X.ch,List.length_map,P]
 obtain⟨k,A,B⟩:=ayt V W (X.sr 1) y (X.ux.Br σ.k0);obtain⟨C,j⟩:∃C,σ.cd[k]?=some C:=⟨_,List.getElem?_eq_getElem ah⟩;obtain⟨l,hl⟩:∃l,m.aM[k]?=some l:=⟨_,List.getElem?_eq_getElem A⟩;have s:C.vs=l.reverse:=by
  have p:(σ.cd.map (·.vs))[k]?=some C.vs:=by rw[List.getElem?_map,j];rfl
  rw[X.vs,List.getElem?_map,hl]at p;exact(Option.some.inj p).symm
 have w:=B C l (by rw[show(σ.x.bf 1).ch=σ.x.ch from rfl,X.ch,List.getElem?_map,j];rfl) hl s;have D:=ayC σ.x σ.u σ.k0 h σ.n a b σ.a0 σ.b0 σ.ad σ.bd ([σ.x.sE,σ.x.cE,C.hd,C.rw]++σ.ux)
  (λr o=>∃d c f,r=(if m.da.2.1 then 1 else 0)∧SwF (σ.u.by σ.k0) k C m m.da.1 d c f∧o=σ.x.uE d::([σ.x.sE,σ.x.cE,c.hd,c.rw]++f)) X.sw (λz=>by
    refine Fl.post (ayX (X.ux.Br σ.k0) z (σ.x.bf 1) X.sw w) ?_;rintro v _ ⟨L1,⟨d,c,f,rfl,hF,rfl⟩,rfl⟩;exact⟨_,⟨_,_,⟨rfl,d,c,f,rfl,hF,rfl⟩,rfl⟩,.refl _⟩)
 refine Fl.sub ([σ.x.eE,σ.x.lE,σ.x.mE σ.ms σ.km]++((σ.cd.eraseIdx k).flatMap bV.es++σ.cls.flatMap (PC.es σ.x))) D ?_ ?_
 ·refine((σ.abU j).cons _|>.cons _).trans ?_
  unfold Sg.top bV.es;rw[show σ.st=false from X.st.trans W];exact cx
 ·rintro v _ ⟨r,o,rfl,⟨d,c,f,rfl,hF,rfl⟩,rfl⟩
  have e:=ayv m;have E:=m.da.1.aM.length;have q:m.da.1.aM.length=m.aM.length:=by rw[hF.ch,List.length_set]
  refine⟨_,⟨_,rfl,σ.swp k d c f,?_,⟨X.ck.trans e.ck.1.symm,X.li.trans e.ck.2.symm,by rw[e.si];exact X.si,?_,?_,by rw[e.xC];exact X.mm,X.mo,by rw[e.ev];exact X.ev,X.cl,by rw[e.cl];exact X.cn,by rw[e.cl];exact X.cr,?_,hF.ux,by rw[e.cl];exact X.n,by rw[e.st];exact X.st⟩,rfl,rfl⟩,?_⟩
  ·cases m.da.2.1<;>rfl
  ·show σ.x.ch=(σ.cd.set k c).map (·.c)
   rw[List.map_set,hF.cc,X.ch];exact(Pv (by rw[List.getElem?_map,j];rfl)).symm
  ·show(σ.cd.set k c).map (·.vs)=m.da.1.aM.map List.reverse
   rw[hF.ch,List.map_set,List.map_set,X.vs,List.reverse_reverse]
  ·show σ.x.sw=d.w
   rw[hF.uk.1];exact X.sw
  ·have G:=(σ.swp k d c f).abU (k:=k) (C:=c) (by show(σ.cd.set k c)[k]?=_;rw[List.getElem?_set_self ah])
   refine List.Perm.trans ?_ ((G.symm.cons _).cons _);have t:d.by σ.k0=d:=auF hF.uk.2.1 hF.uk.2.2;show List.Perm _ (aQ 4 h::gE (a+1) (b+1)::([(σ.x.bf 0).en,σ.x.uE (d.by σ.k0),σ.k0.wE (σ.a0+1+1) (σ.b0+1+1),dE σ.k0.d σ.x.s σ.n σ.st (σ.ad+1+1) (σ.bd+1+1),σ.x.eE,σ.x.sE,σ.x.cE,σ.x.lE,σ.x.mE σ.ms σ.km]++([c.hd,c.rw]++(f++(((σ.cd.set k c).eraseIdx k).flatMap bV.es++σ.cls.flatMap (PC.es σ.x))))));rw[t,List.eraseIdx_set_eq,show σ.st=false from X.st.trans W];exact cx
end
theorem aqG(p:Stp):OK p=xI p:=by
 unfold OK xI;rw[Bool.eq_iff_iff];simp
theorem atZ(K:Nat)(o:Bool)(p:Stp):oN K o p=qp K o p:=by
 rw[Bool.eq_iff_iff];unfold oN qO qp;have d:((p.val.size:Nat):Int)<=16↔p.val.size<=16:=by omega
 by_cases b:p.kind=2\/p.kind=3\/p.kind=4
 ·have a:¬p.kind<1/\¬p.kind>6:=by omega
  simp only[b,if_true,abE,a.1,a.2];simp;intro _;rw[d];simp only[and_assoc]
 ·by_cases c:p.kind=1\/p.kind=5\/p.kind=6
  ·have a:¬p.kind<1/\¬p.kind>6/\p.kind≠3:=by omega
   have e:(0<=p.key/\p.key<1)↔p.key=0:=by omega
   simp only[b,c,if_true,if_false,abE,a.1,a.2.1];simp[a.2.2];intro _;rw[d,<-e];simp only[and_assoc]
  ·have a:p.kind<1\/p.kind>6:=by omega
   simp only[b,c,if_false];rcases a with h|h<;>simp[h]
theorem acK(K:Nat):∀(o:Bool)(l:ae Stp),sZ K o l=vX K o l
 |_,[]=>rfl
 |o,p::l=>by
  simp only[sZ,vX,atZ,aqG,acK K _ l]
def Sg.pX(σ:Sg):Sg:={σ with a0:=σ.a0+1,b0:=σ.b0+1,ad:=σ.ad+1,bd:=σ.bd+1}
theorem kM.pX{m:Mo}{σ:Sg}(h:kM m σ):kM m σ.pX:=⟨h.ck,h.li,h.si,h.ch,h.vs,h.mm,h.mo,h.ev,h.cl,h.cn,h.cr,h.sw,h.ux,h.n,h.st⟩
def Sg.je(σ:Sg):ae En:=σ.ux++(σ.cd.flatMap bV.es++σ.cls.flatMap (PC.es σ.x))
section
variable {S:Hp}{W:ae Nat}{A:Nat->aU}(V:rj S W A){m:Mo}{σ:Sg}(T:m.Ok)(X:kM m σ)
include V T X
theorem Ig(n:Int)(a:Gc)(b:Nat):Fl Sv 14 [pt σ.x.s,goInt n].toArray (bQ S W A++(gE a b::σ.all)) λv L=>∃d l p,v=.tuple #[goInt (m.pick n).2.1,goInt (m.pick n).2.2]∧kM (m.pick n).1 d∧d.x.s=σ.x.s∧l.v=a.v∧L=bQ S W A++(gE l p::d.all):=by
 cases aF:m.fE with
 |true=>
  have f:m.pick n=(m,0,5):=by simp[Mo.pick,aF]
  rw[f];have g:=arV σ.x σ.u σ.k0 n 255 (.pointer (some (A 4))) σ.n σ.a0 σ.b0 σ.ad σ.bd X.sw;refine Fl.post (ab8 V (j:=4) aT (L1:=gE a b::σ.pX.all) (Fl.sub ([.ro S W,aQ 0 (aY (A 0)),aQ 1 (aY (A 1)),aQ 2 (aY (A 2)),aQ 3 (aY (A 3)),.ob 5 (.cells #[iw 63] 185),gE a b,σ.x.eE,σ.x.sE,σ.x.cE,σ.x.lE,σ.x.mE σ.ms σ.km]++σ.je) g ?_ ?_)) ?_
  ·unfold bQ Sg.all Sg.top Sg.je
   rw[show σ.st=true from X.st.trans aF];exact cx
  ·rintro v _ ⟨q,rfl,rfl⟩
   refine⟨_,⟨q,rfl,rfl⟩,?_⟩;unfold bQ Sg.all Sg.top Sg.je;show List.Perm _ ((([.ro S W,aQ 0 (aY (A 0)),aQ 1 (aY (A 1)),aQ 2 (aY (A 2)),aQ 3 (aY (A 3)),aQ 4 (aY (A 4)),.ob 5 (.cells #[iw 63] 185)]++[iM q ⟨#[80,105,99,107]⟩ n (aY (A 4))])++(gE a b::([(σ.x.bf 0).en,σ.x.uE (σ.u.by σ.k0),σ.k0.wE (σ.a0+1) (σ.b0+1),dE σ.k0.d σ.x.s σ.n σ.st (σ.ad+1) (σ.bd+1),σ.x.eE,σ.x.sE,σ.x.cE,σ.x.lE,σ.x.mE σ.ms σ.km]++(σ.ux++(σ.cd.flatMap bV.es++σ.cls.flatMap (PC.es σ.x)))))));rw[show σ.st=true from X.st.trans aF];exact cx
  ·rintro v L ⟨rfl,rfl⟩
   exact⟨_,⟨σ.pX,a,b,rfl,X.pX,rfl,rfl,rfl⟩,.refl _⟩
 |false=>
  by_cases e:n<0∨(m.be.length:Int)≤n
  ·have f:m.pick n=(m,0,4):=by
    unfold Mo.pick;rw[aF];rcases e with e|e
    ·simp[e]
    ·have:m.be[n.toNat]?=none:=List.getElem?_eq_none ah
     simp[this]
   rw[f];have g:=arO σ.x σ.u σ.k0 n 255 (aY (A 4)) (.pointer (some (A 3))) σ.n σ.a0 σ.b0 σ.ad σ.bd X.sw (by rw[X.cl,List.length_map,X.cn];exact e);refine Fl.post (ab8 V (j:=3) aT (L1:=gE a b::σ.pX.all) (Fl.sub ([.ro S W,aQ 0 (aY (A 0)),aQ 1 (aY (A 1)),aQ 2 (aY (A 2)),.ob 5 (.cells #[iw 63] 185),gE a b,σ.x.eE,σ.x.sE,σ.x.cE,σ.x.lE,σ.x.mE σ.ms σ.km]++σ.je) g ?_ ?_)) ?_
   ·unfold bQ Sg.all Sg.top Sg.je
    rw[show σ.st=false from X.st.trans aF];exact cx
   ·rintro v _ ⟨q,rfl,rfl⟩
    refine⟨_,⟨q,rfl,rfl⟩,?_⟩;unfold bQ Sg.all Sg.top Sg.je;show List.Perm _ ((([.ro S W,aQ 0 (aY (A 0)),aQ 1 (aY (A 1)),aQ 2 (aY (A 2)),aQ 3 (aY (A 3)),aQ 4 (aY (A 4)),.ob 5 (.cells #[iw 63] 185)]++[iM q ⟨#[80,105,99,107]⟩ n (aY (A 3))])++(gE a b::([(σ.x.bf 0).en,σ.x.uE (σ.u.by σ.k0),σ.k0.wE (σ.a0+1) (σ.b0+1),dE σ.k0.d σ.x.s σ.n σ.st (σ.ad+1) (σ.bd+1),σ.x.eE,σ.x.sE,σ.x.cE,σ.x.lE,σ.x.mE σ.ms σ.km]++(σ.ux++(σ.cd.flatMap bV.es++σ.cls.flatMap (PC.es σ.x)))))));rw[show σ.st=false from X.st.trans aF];exact cx
   ·rintro v L ⟨rfl,rfl⟩
    exact⟨_,⟨σ.pX,a,b,rfl,X.pX,rfl,rfl,rfl⟩,.refl _⟩
  ·obtain⟨i,rfl⟩:∃i:Nat,n=i:=⟨n.toNat,by omega⟩
   obtain⟨c,o⟩:∃c,m.be[i]?=some c:=⟨_,List.getElem?_eq_getElem ah⟩;have f:m.pick i=(m.with (m.bX c).1 i (m.bX c).2.1,(m.bX c).2.2,0):=by
    unfold Mo.pick;rw[aF];have:¬(i:Int)<0:=by omega
    simp[this,o,Mo.with]
   rw[f];refine Fl.post (ar6 (R:=λr L=>∃d,r=(m.bX c).2.2∧kM (m.with (m.bX c).1 i (m.bX c).2.1) d∧d.x.s=σ.x.s∧L=bQ S W A++(gE (a+1) (b+1)::d.all)) (Fl.sub [.ro S W,aQ 0 (aY (A 0)),aQ 1 (aY (A 1)),aQ 2 (aY (A 2)),aQ 3 (aY (A 3)),.ob 5 (.cells #[iw 63] 185)] (arP T X aF o (aY (A 4)) a b) ?_ ?_)) ?_
   ·unfold bQ
    exact cx
   ·rintro v _ ⟨r,rfl,d,rfl,h,k,rfl⟩
    refine⟨_,⟨_,rfl,d,rfl,h,k,rfl⟩,?_⟩;unfold bQ;exact cx
   ·rintro v _ ⟨r,rfl,d,rfl,h,k,rfl⟩
    exact⟨_,⟨d,a+1,b+1,rfl,h,k,rfl,rfl⟩,.refl _⟩
theorem UK(a:Gc)(b:Nat):Fl Sv 16 [pt σ.x.s].toArray (bQ S W A++(gE a b::σ.all)) λv L=>∃c f g,v=.tuple #[.bool m.da.2.1,goInt m.da.2.2]∧kM m.da.1 c∧c.x.s=σ.x.s∧f.v=a.v∧L=bQ S W A++(gE f g::c.all):=by
 cases aF:m.fE with
 |true=>
  have i:m.da=(m,false,5):=by simp[Mo.da,aF]
  rw[i];have h:=ayG σ.x σ.u σ.k0 255 (.pointer (some (A 4))) σ.n σ.a0 σ.b0 σ.ad σ.bd X.sw;refine Fl.post (asa V (j:=4) aT (L1:=gE a b::σ.pX.all) (Fl.sub ([.ro S W,aQ 0 (aY (A 0)),aQ 1 (aY (A 1)),aQ 2 (aY (A 2)),aQ 3 (aY (A 3)),.ob 5 (.cells #[iw 63] 185),gE a b,σ.x.eE,σ.x.sE,σ.x.cE,σ.x.lE,σ.x.mE σ.ms σ.km]++σ.je) h ?_ ?_)) ?_
  ·unfold bQ Sg.all Sg.top Sg.je
   rw[show σ.st=true from X.st.trans aF];exact cx
  ·rintro v _ ⟨q,rfl,rfl⟩
   refine⟨_,⟨q,rfl,rfl⟩,?_⟩;unfold bQ Sg.all Sg.top Sg.je;show List.Perm _ ((([.ro S W,aQ 0 (aY (A 0)),aQ 1 (aY (A 1)),aQ 2 (aY (A 2)),aQ 3 (aY (A 3)),aQ 4 (aY (A 4)),.ob 5 (.cells #[iw 63] 185)]++[iM q ⟨#[83,119,101,101,112]⟩ 0 (aY (A 4))])++(gE a b::([(σ.x.bf 0).en,σ.x.uE (σ.u.by σ.k0),σ.k0.wE (σ.a0+1) (σ.b0+1),dE σ.k0.d σ.x.s σ.n σ.st (σ.ad+1) (σ.bd+1),σ.x.eE,σ.x.sE,σ.x.cE,σ.x.lE,σ.x.mE σ.ms σ.km]++(σ.ux++(σ.cd.flatMap bV.es++σ.cls.flatMap (PC.es σ.x)))))));rw[show σ.st=true from X.st.trans aF];exact cx
  ·rintro v L ⟨rfl,rfl⟩
   exact⟨_,⟨σ.pX,a,b,rfl,X.pX,rfl,rfl,rfl⟩,.refl _⟩
 |false=>
  have d:m.da.2.2=0:=by
   unfold Mo.da;rw[aF]
   repeat' split
   all_goals first|rfl|contradiction
  rw[d];refine Fl.post (asb (R:=λr L=>∃c,r=m.da.2.1∧kM m.da.1 c∧c.x.s=σ.x.s∧L=bQ S W A++(gE (a+1) (b+1)::c.all)) (Fl.sub [.ro S W,aQ 0 (aY (A 0)),aQ 1 (aY (A 1)),aQ 2 (aY (A 2)),aQ 3 (aY (A 3)),.ob 5 (.cells #[iw 63] 185)] (ayy T X aF (aY (A 4)) a b) ?_ ?_)) ?_
  ·unfold bQ
   exact cx
  ·rintro v _ ⟨r,rfl,c,rfl,e,d,rfl⟩
   refine⟨_,⟨_,rfl,c,rfl,e,d,rfl⟩,?_⟩;unfold bQ;exact cx
  ·rintro v _ ⟨r,rfl,c,rfl,e,d,rfl⟩
   exact⟨_,⟨c,a+1,b+1,rfl,e,d,rfl,rfl⟩,.refl _⟩
end
def I5(N:ae En):Prop:=∀e∈N,∃t s,e=.row t s I 0 0 []
theorem Kn.OE{H}{L}:∀{N},I5 N->Kn L H->Kn (N++L) H
 |[],_,h=>h
 |e::N,a,h=>by
  have b:=Kn.OE (λe d=>a e (eK _ d)) h;obtain⟨t,s,rfl⟩:=a e (eX ..);refine⟨λx hx=>?_,mQ.2 ⟨λx hx y f=>(by cases f),b.nd⟩⟩;rcases bM.1 hx with rfl|hx
  ·exact⟨by simp,.inl ⟨rfl,rfl⟩⟩
  ·exact b.sat x hx
theorem Fl.OE{P}{f}{a}{L}{R g}(h:Fl P f a L R)(hi:∀v d,R v d->∃N b,I5 N/\g v b/\(N++d).Perm b):Fl P f a L g:=λy H j w e=>
 Fn.mono (h _ H j w e) λv z⟨l,n,d,q3,o⟩=>by
  obtain⟨N,b,r,t,u⟩:=hi v _ q3;exact⟨l,n,b,t,((Kn.OE r o).perm (by simp)).perm (u.append_right _)⟩
theorem ae7{P}{f}{a}{L}{R j}(h:Fl P f a L R)(hi:∀v d,R v d->∃G b,j v b/\d.Perm (G++b)):Fl P f a L j:=λz H l w e=>
 Fn.mono (h _ H l w e) λv B⟨o,r,d,q3,t⟩=>by
  obtain⟨G,b,u,y⟩:=hi v _ q3;have g:=t.perm (y.append_right _);rw[iL]at g;exact⟨o,r,b,u,λe n=>g.sat e (List.mem_append_right _ n),(CH.1 g.nd).2.1⟩
theorem I5.cons{t s:Nat}{N}(h:I5 N):I5 (.row t s I 0 0 []::N):=λe a=>(bM.1 a).elim (λh=>⟨t,s,h⟩) (h e)
def GZ(c:Nat):bV:=⟨c,I,0,[]⟩
theorem Xs:∀a:ae Nat,bl.of ((a.map GZ).flatMap bV.es)=(bl.of (a.map nB)).add (bl.of (a.map λ_=>(.row 229 3 I 0 0 [])))
 |[]=>rfl
 |c::a=>by
  have b:=Xs a;show bl.of ([nB c,.row 229 3 I 0 0 []]++(a.map GZ).flatMap bV.es)=(bl.of (nB c::a.map nB)).add (bl.of (.row 229 3 I 0 0 []::a.map λ_=>(.row 229 3 I 0 0 [])));simp only[nN,pB,b]
  ac_rfl
section
variable {S:Hp}{W:ae Nat}{A:Nat->aU}
theorem UJ(g z y)(a)(b c d):Fl Sv 8 [ai g,ai z,ai y].toArray (bQ S W A++[gE a b,hE (.chan I) c d]) λv L=>match Mo.new g z y with
  |none=>v=.tuple #[.pointer I,ai 1]/\L=bQ S W A++[gE a b,hE (.chan I) c d]
  |some m=>∃σ E H J K,v=.tuple #[pt σ.x.s,ai 0]/\kM m σ/\E.v=.iface 3 a.v/\L=bQ S W A++(gE E H::hE (.chan I) J K::σ.all):=by
 unfold Mo.new;by_cases h:g<1\/g>8\/z<1\/z>20\/y<0\/y>1000000
 ·rw[if_pos h]
  refine Fl.sub ([.ro S W,aQ 1 (aY (A 1)),aQ 2 (aY (A 2)),aQ 3 (aY (A 3)),aQ 4 (aY (A 4)),.ob 5 (.cells #[iw 63] 185),gE a b,hE (.chan I) c d]) (ar4 _ h) (by unfold bQ;exact cx) ?_;rintro v _ ⟨rfl,rfl⟩;exact⟨_,⟨F,F⟩,by unfold bQ;exact cx⟩
 ·rw[if_neg h]
  obtain⟨B,rfl⟩:∃n:Nat,g=n:=⟨g.toNat,by omega⟩;obtain⟨C,rfl⟩:∃n:Nat,z=n:=⟨z.toNat,by omega⟩;have M:=Un B C y a b c d ah;have N:=ar5 (R:=λs L=>∃w l o f r u k,f.length=C/\L=[gE (Gc.up a+2) (b+2),hE (.chan I) (c+2) (d+2),(x0 s w B l o f r y u).sE,(x0 s w B l o f r y u).mE [] 0,dE k.d s 1 Y 2 1,(x0 s w B l o f r y u).en,(x0 s w B l o f r y u).cE,k.wE 1 0,(x0 s w B l o f r y u).uE ((u0 u).by k)]++f.reverse.map nB) (M.post λv L⟨s,w,l,o,f,r,u,k,h1,h2,D⟩=>⟨L,⟨s,h1,w,l,o,f,r,u,k,h2,D⟩,.refl _⟩);have G:=Fl.sub (R':=λv L=>∃s w l o f r u k,v=.tuple #[pt s,ai 0]/\f.length=C/\L=bQ S W A++([gE (Gc.up a+2) (b+2),hE (.chan I) (c+2) (d+2),(x0 s w B l o f r y u).sE,(x0 s w B l o f r y u).mE [] 0,dE k.d s 1 Y 2 1,(x0 s w B l o f r y u).en,(x0 s w B l o f r y u).cE,k.wE 1 0,(x0 s w B l o f r y u).uE ((u0 u).by k)]++f.map nB)) _ N lD (λv L⟨s,h1,w,l,o,f,r,u,k,h2,D⟩=>by
   subst D;exact⟨_,⟨s,w,l,o,f,r,u,k,h1,h2,F⟩,List.perm_append_comm.trans (((List.reverse_perm _).map _).append_left _|>.append_left _)⟩)
  refine Fl.OE G ?_;rintro v _ ⟨s,w,l,o,f,r,u,k,rfl,hk,rfl⟩;refine⟨.row 92 5 I 0 0 []::.row 140 1 I 0 0 []::f.map λ_=>(.row 229 3 I 0 0 []),_,.cons (.cons λe P=>?_),⟨⟨x0 s w B l o f r y u,[],0,f.map GZ,[],u0 u,k,1,0,[],1,2,1,Y⟩,Gc.up a+2,b+2,c+2,d+2,F,⟨F,F,?_,?_,?_,λj t O=>?_,⟨by simp,by simp,λx hx=>by simp at hx⟩,F,F,F,λi c p h=>by simp[Mo.init]at h,F,.first F F,F,F⟩,F,F⟩,?_⟩
  ·grind
  ·show kq B _=(kq B (-1)).map pv
   rw[List.map_replicate];rfl
  ·show f=(f.map GZ).map (·.c)
   rw[List.map_map];exact(List.map_id _).symm
  ·show(f.map GZ).map (·.vs)=(kq C []).map List.reverse
   rw[List.map_map,List.map_replicate,<-hk];exact List.map_const' ..
  ·have h1:(kq C fV.no)[j]?=Z t:=O
   rw[List.getElem?_replicate]at h1;split at h1
   ·cases h1;rfl
   ·cases h1
  ·
   show rT _ (bQ S W A++(gE (Gc.up a+2) (b+2)::hE (.chan I) (c+2) (d+2)::([(x0 s w B l o f r y u).en,(x0 s w B l o f r y u).uE ((u0 u).by k),k.wE 1 0,dE k.d s 1 Y 2 1,.row 92 5 I 0 0 [],(x0 s w B l o f r y u).sE,(x0 s w B l o f r y u).cE,.row 140 1 I 0 0 [],(x0 s w B l o f r y u).mE [] 0]++([]++((f.map GZ).flatMap bV.es++[])))))
   (apply bl.exact;simp only[nN,pB,qk,tA,Xs];try ac_rfl)
end
section
variable {m:Mo}{σ:Sg}(V:m.Ok)(X:kM m σ)
include V X
theorem O4(a)(b)(n:m.fE=Y->∃w,a.v=.iface 3 w):Fl Sv 22 [pt σ.x.s].toArray (gE a b::σ.all) λv L=>∃e d l,v=.tuple #[]/\kM {m with fE:=U} e/\e.x.s=σ.x.s/\(if m.fE then d.v=a.v else a.v=.iface 3 d.v)/\L=gE d l::e.all:=by
 cases aF:m.fE with
 |true=>
  have j:{m with fE:=U}=m:=by cases m;cases aF;rfl
  rw[j];refine Fl.sub ([σ.x.eE,σ.x.sE,σ.x.cE,σ.x.lE,σ.x.mE σ.ms σ.km]++σ.je) (ayn _ _ σ.k0 σ.n a b σ.a0 σ.b0 σ.ad σ.bd X.sw) ?_ ?_
  ·unfold Sg.all Sg.top Sg.je
   rw[show σ.st=U from X.st.trans aF];exact cx
  ·rintro v _ ⟨rfl,rfl⟩
   refine⟨_,⟨σ.pX,a+1,b+1,F,X.pX,F,by rfl,F⟩,?_⟩;unfold Sg.all Sg.top Sg.je;show rT _ (gE (a+1) (b+1)::([(σ.x.bf 0).en,σ.x.uE (σ.u.by σ.k0),σ.k0.wE (σ.a0+1) (σ.b0+1),dE σ.k0.d σ.x.s σ.n σ.st (σ.ad+1) (σ.bd+1),σ.x.eE,σ.x.sE,σ.x.cE,σ.x.lE,σ.x.mE σ.ms σ.km]++(σ.ux++(σ.cd.flatMap bV.es++σ.cls.flatMap (PC.es σ.x)))));rw[show σ.st=U from X.st.trans aF];exact cx
 |false=>
  obtain⟨w,f⟩:=n aF;have g:gE a b=gE (Gc.up ⟨w,a.n⟩) b:=by unfold gE Gc.up;rw[f]
  rw[g];refine Fl.sub ([σ.x.eE,σ.x.sE,σ.x.cE,σ.x.lE,σ.x.mE σ.ms σ.km]++σ.je) (ayp _ _ σ.k0 σ.n ⟨w,a.n⟩ b σ.a0 σ.b0 σ.ad σ.bd X.sw) ?_ ?_
  ·unfold Sg.all Sg.top Sg.je
   rw[show σ.st=Y from X.st.trans aF];exact cx
  ·rintro v _ ⟨rfl,rfl⟩
   refine⟨_,⟨{σ.pX with st:=U},(⟨w,a.n⟩:Gc)+2,b+2,F,⟨X.ck,X.li,X.si,X.ch,X.vs,X.mm,X.mo,X.ev,X.cl,X.cn,X.cr,X.sw,X.ux.keep F F F F,X.n,F⟩,F,by exact f,F⟩,?_⟩;unfold Sg.all Sg.top Sg.je;show rT _ (gE ((⟨w,a.n⟩:Gc)+2) (b+2)::([(σ.x.bf 0).en,σ.x.uE (σ.u.by σ.k0),σ.k0.wE (σ.a0+1) (σ.b0+1),dE σ.k0.d σ.x.s σ.n U (σ.ad+1) (σ.bd+1),σ.x.eE,σ.x.sE,σ.x.cE,σ.x.lE,σ.x.mE σ.ms σ.km]++(σ.ux++(σ.cd.flatMap bV.es++σ.cls.flatMap (PC.es σ.x)))));exact cx
end
def Sg.more(σ:Sg)(q:Nat)(gl:aj Nat)(cl:Nat)(pr:ae Stp)(pg:aj Nat)(pc wb:Nat)(k:eG):Sg:={σ with x:=σ.x.more q gl cl,cls:=σ.cls++[⟨kY σ.x pr q pg pc wb,k,1,0,[],0,[]⟩],a0:=σ.a0+2,b0:=σ.b0+2,n:=σ.n+1,ad:=σ.ad+2,bd:=σ.bd+2}
section
variable {S:Hp}{W:ae Nat}{A:Nat->aU}(T:rj S W A){m:Mo}{σ:Sg}(V:m.Ok)(X:kM m σ)
include V X
omit V in
theorem kM.more(q)(gl)(cl)(pr)(pg)(pc wb)(k)(hk:k.d=σ.k0.d):kM {m with be:=m.be++[.new m.be.length pr]} (σ.more q gl cl pr pg pc wb k):=by
 have bx:σ.x.cl.length=m.be.length:=by rw[X.cl,jM,X.cn]
 refine⟨X.ck,X.li,X.si,X.ch,X.vs,X.mm,X.mo,X.ev,?_,?_,λi c p h1 h2=>?_,X.sw,X.ux.keep rfl rfl rfl rfl,?_,X.st⟩
 ·show σ.x.cl++[q]=(σ.cls++[_]).map (λc:PC=>c.y.c)
  rw[List.map_append,X.cl];rfl
 ·show(σ.cls++[_]).length=(m.be++[_]).length
  rw[oe,oe,X.cn];rfl
 ·have nv:=h1
  have Hh:(σ.cls++[(⟨kY σ.x pr q pg pc wb,k,1,0,[],0,[]⟩)])[i]?=Z p:=h2;by_cases hi:i<m.be.length
  ·rw[LZ hi]at nv
   rw[LZ (by rw[X.cn];exact hi)]at Hh;exact X.cr i c p nv Hh
  ·have aC:=(dq.1 nv).1
   rw[oe,List.length_singleton]at aC;have gu:i=m.be.length:=by omega
   subst gu;rw[Ma (dt _),Nat.sub_self]at nv;rw[Ma (by rw[X.cn];exact dt _),X.cn,Nat.sub_self]at Hh;cases nv;cases Hh;refine⟨⟨?_,rfl,rfl,rfl,(λs h=>by cases h),λh=>?_,rm.nil,⟨by simp,by simp,λx hx=>by simp at hx⟩,.read rfl (λ_ _ _=>rfl) rfl rfl rfl⟩,hk⟩
   ·show((σ.x.cl.length))=((m.be.length):Int)
    rw[bx]
   ·simp[Cm.new]at h
 ·show σ.n+1=((m.be++[_]).length)+1
  rw[oe,X.n];simp
include T
theorem O3(pr:ae Stp)(f:aj Nat)(l:Nat)(w:pr.length<=4398046511104)(a:Gc)(b c d:Nat):Fl Sv 11 [pt σ.x.s,sv f pr.length l].toArray (bK f l pr::(bQ S W A++(gE a b::hE (.chan I) c d::σ.all))) λv L=>∃r t B C D,v=.tuple #[ai (m.bt pr).2.1,ai (m.bt pr).2.2]/\kM (m.bt pr).1 r/\r.x.s=σ.x.s/\t.v=a.v/\L=bK f l pr::(bQ S W A++(gE t B::hE (.chan I) C D::r.all)):=by
 have J:σ.x.cl.length=m.be.length:=by rw[X.cl,jM,X.cn]
 have z:σ.x.ch.length=m.aM.length:=by
  have:=congrArg List.length X.vs;simp only[jM]at this;rw[X.ch,jM,this]
 have y:(sZ σ.x.ch.length Y pr&&decide ((pr.length:Int)<=200))=m.right pr:=by
  rw[z,acK];unfold Mo.right;congr 1;simp;omega
 have o:∀(j:Nat)(M:j<5)(bx:m.bt pr=(m,0,((j+1:Nat):Int)))(K:∀g e,(pr=[]\/(0<pr.length/\∃O,g=Z O))->Fl Sv 24 [pt σ.x.s,sv g pr.length e].toArray (bK g e pr::(bQ S W A++(gE a b::hE (.chan I) c d::σ.all))) λv L=>∃q,v=.tuple #[ai 0,.iface 145 (pt q)]/\L=bK g e pr::((bQ S W A++[iM q uj 0 (aY (A j))])++(gE a b::hE (.chan I) c d::σ.pX.all))),Fl Sv 11 [pt σ.x.s,sv f pr.length l].toArray (bK f l pr::(bQ S W A++(gE a b::hE (.chan I) c d::σ.all))) λv L=>∃r t B C D,v=.tuple #[ai (m.bt pr).2.1,ai (m.bt pr).2.2]/\kM (m.bt pr).1 r/\r.x.s=σ.x.s/\t.v=a.v/\L=bK f l pr::(bQ S W A++(gE t B::hE (.chan I) C D::r.all)):=λj M bx K=>by
  rw[bx];refine Fl.post (ab1 (g0:=f) (kP:=l) (Q:=λid u n=>∃q,id=0/\u=.iface 145 (pt q)/\n=(bQ S W A++[iM q uj 0 (aY (A j))])++(gE a b::hE (.chan I) c d::σ.pX.all)) (R:=λid k L=>id=0/\k=((j+1:Nat):Int)/\L=bQ S W A++(gE a b::hE (.chan I) c d::σ.pX.all)) w (λg e H=>(K g _ H).post ?_) ?_) ?_
  ·rintro v _ ⟨q,rfl,rfl⟩
   exact⟨_,⟨0,_,_,F,⟨q,F,F,F⟩,F⟩,.refl _⟩
  ·rintro id u n ⟨q,rfl,rfl,rfl⟩
   refine ae7 (Fl.frame _ (Ut S _ A T q j M _ 0)|>.perm lD) ?_;rintro v _ ⟨_,⟨rfl,rfl⟩,rfl⟩;refine⟨[iM q uj 0 (aY (A j))],_,⟨_,F,F,F,F⟩,?_⟩;exact cx
  ·rintro v _ ⟨id,k,n,rfl,⟨rfl,rfl,rfl⟩,rfl⟩
   exact⟨_,⟨σ.pX,a,b,c,d,F,X.pX,F,F,F⟩,.refl _⟩
 cases aF:m.fE with
 |true=>
  refine o 4 aT (by simp[Mo.bt,aF]) λg e _=>?_;refine Fl.sub ([.ro S W,aQ 0 (aY (A 0)),aQ 1 (aY (A 1)),aQ 2 (aY (A 2)),aQ 3 (aY (A 3)),.ob 5 (.cells #[iw 63] 185),bK g e pr,gE a b,hE (.chan I) c d,σ.x.eE,σ.x.sE,σ.x.cE,σ.x.lE,σ.x.mE σ.ms σ.km]++σ.je) (ahc _ _ σ.k0 g _ _ 255 (.pointer (Z (A 4))) σ.n σ.a0 σ.b0 σ.ad σ.bd X.sw) ?_ ?_
  ·unfold bQ Sg.all Sg.top Sg.je
   rw[show σ.st=U from X.st.trans aF];exact cx
  ·rintro v _ ⟨q,rfl,rfl⟩
   refine⟨_,⟨q,F,F⟩,?_⟩;unfold bQ Sg.all Sg.top Sg.je;show rT _ (bK g e pr::(([.ro S W,aQ 0 (aY (A 0)),aQ 1 (aY (A 1)),aQ 2 (aY (A 2)),aQ 3 (aY (A 3)),aQ 4 (aY (A 4)),.ob 5 (.cells #[iw 63] 185)]++[iM q uj 0 (aY (A 4))])++(gE a b::hE (.chan I) c d::([(σ.x.bf 0).en,σ.x.uE (σ.u.by σ.k0),σ.k0.wE (σ.a0+1) (σ.b0+1),dE σ.k0.d σ.x.s σ.n σ.st (σ.ad+1) (σ.bd+1),σ.x.eE,σ.x.sE,σ.x.cE,σ.x.lE,σ.x.mE σ.ms σ.km]++(σ.ux++(σ.cd.flatMap bV.es++σ.cls.flatMap (PC.es σ.x)))))));rw[show σ.st=U from X.st.trans aF];exact cx
 |false=>
  cases hr:m.right pr with
  |false=>
   refine o 1 aT (by simp[Mo.bt,aF,hr]) λg e _=>?_;refine Fl.sub ([.ro S W,aQ 0 (aY (A 0)),aQ 3 (aY (A 3)),.ob 5 (.cells #[iw 63] 185),σ.x.eE,σ.x.sE,σ.x.cE,σ.x.mE σ.ms σ.km]++σ.je) (ag8 _ _ σ.k0 g _ _ (aY (A 2)) (aY (A 4)) σ.n a b c d σ.a0 σ.b0 σ.ad σ.bd 255 (.pointer (Z (A 1))) w (y.trans hr) X.sw) ?_ ?_
   ·unfold bQ Sg.all Sg.top Sg.je EG
    rw[show σ.st=Y from X.st.trans aF];exact cx
   ·rintro v _ ⟨q,rfl,rfl⟩
    refine⟨_,⟨q,F,F⟩,?_⟩;unfold bQ Sg.all Sg.top Sg.je;show rT _ (bK g e pr::(([.ro S W,aQ 0 (aY (A 0)),aQ 1 (aY (A 1)),aQ 2 (aY (A 2)),aQ 3 (aY (A 3)),aQ 4 (aY (A 4)),.ob 5 (.cells #[iw 63] 185)]++[iM q uj 0 (aY (A 1))])++(gE a b::hE (.chan I) c d::([(σ.x.bf 0).en,σ.x.uE (σ.u.by σ.k0),σ.k0.wE (σ.a0+1) (σ.b0+1),dE σ.k0.d σ.x.s σ.n σ.st (σ.ad+1) (σ.bd+1),σ.x.eE,σ.x.sE,σ.x.cE,σ.x.lE,σ.x.mE σ.ms σ.km]++(σ.ux++(σ.cd.flatMap bV.es++σ.cls.flatMap (PC.es σ.x)))))));rw[show σ.st=Y from X.st.trans aF];exact cx
  |true=>
   by_cases E:m.be.length=8
   ·refine o 2 aT (by simp[Mo.bt,aF,hr,E]) λg e _=>?_
    refine Fl.sub ([.ro S W,aQ 0 (aY (A 0)),aQ 3 (aY (A 3)),.ob 5 (.cells #[iw 63] 185),σ.x.eE,σ.x.sE,σ.x.cE,σ.x.mE σ.ms σ.km]++σ.je) (ag9 _ _ σ.k0 g _ _ (aY (A 1)) (aY (A 4)) σ.n a b c d σ.a0 σ.b0 σ.ad σ.bd 255 (.pointer (Z (A 2))) w (y.trans hr) (J.trans E) X.sw) ?_ ?_
    ·unfold bQ Sg.all Sg.top Sg.je EG
     rw[show σ.st=Y from X.st.trans aF];exact cx
    ·rintro v _ ⟨q,rfl,rfl⟩
     refine⟨_,⟨q,F,F⟩,?_⟩;unfold bQ Sg.all Sg.top Sg.je;show rT _ (bK g e pr::(([.ro S W,aQ 0 (aY (A 0)),aQ 1 (aY (A 1)),aQ 2 (aY (A 2)),aQ 3 (aY (A 3)),aQ 4 (aY (A 4)),.ob 5 (.cells #[iw 63] 185)]++[iM q uj 0 (aY (A 2))])++(gE a b::hE (.chan I) c d::([(σ.x.bf 0).en,σ.x.uE (σ.u.by σ.k0),σ.k0.wE (σ.a0+1) (σ.b0+1),dE σ.k0.d σ.x.s σ.n σ.st (σ.ad+1) (σ.bd+1),σ.x.eE,σ.x.sE,σ.x.cE,σ.x.lE,σ.x.mE σ.ms σ.km]++(σ.ux++(σ.cd.flatMap bV.es++σ.cls.flatMap (PC.es σ.x)))))));rw[show σ.st=Y from X.st.trans aF];exact cx
   ·have N:=V.cl
    have G:m.bt pr=({m with be:=m.be++[Cm.new m.be.length pr]},((m.be.length:Nat):Int),0):=by simp[Mo.bt,aF,hr,E]
    rw[G];refine Fl.post (ab1 (g0:=f) (kP:=l) (Q:=λid u n=>id=m.be.length/\u=.nilIface/\∃q gl cl pg pc wb k,k.d=σ.k0.d/\n=bQ S W A++(gE (a+1) (b+1)::hE (.chan I) (c+1) (d+1)::(σ.more q gl cl pr pg pc wb k).all)) (R:=λid k L=>id=m.be.length/\k=0/\∃q gl cl pg pc wb k,k.d=σ.k0.d/\L=bQ S W A++(gE (a+1) (b+1)::hE (.chan I) (c+1) (d+1)::(σ.more q gl cl pr pg pc wb k).all)) w (λg e H=>?_) ?_) ?_
    ·refine Fl.sub ([.ro S W,aQ 0 (aY (A 0)),aQ 3 (aY (A 3)),.ob 5 (.cells #[iw 63] 185),σ.x.eE,σ.x.sE,σ.x.cE,σ.x.mE σ.ms σ.km]++σ.je) (aha _ _ σ.k0 g _ _ (aY (A 1)) (aY (A 2)) (aY (A 4)) σ.n a b c d σ.a0 σ.b0 σ.ad σ.bd w (y.trans hr) ah X.sw (by have:=X.n;omega) H) ?_ ?_
     ·unfold bQ Sg.all Sg.top Sg.je EG
      rw[show σ.st=Y from X.st.trans aF];exact cx
     ·rintro v _ ⟨rfl,q,gl,cl,pg,pc,wb,k,hk,rfl⟩
      refine⟨_,⟨_,_,_,F,⟨by rw[J],F,q,gl,cl,pg,pc,wb,k,hk,F⟩,F⟩,?_⟩;unfold bQ Sg.all Sg.top Sg.je QK;show rT _ (bK g e pr::([.ro S W,aQ 0 (aY (A 0)),aQ 1 (aY (A 1)),aQ 2 (aY (A 2)),aQ 3 (aY (A 3)),aQ 4 (aY (A 4)),.ob 5 (.cells #[iw 63] 185)]++(gE (a+1) (b+1)::hE (.chan I) (c+1) (d+1)::([((σ.x.more q gl cl).bf 0).en,σ.x.uE (σ.u.by σ.k0),σ.k0.wE (σ.a0+2) (σ.b0+2),dE σ.k0.d σ.x.s (σ.n+1) σ.st (σ.ad+2) (σ.bd+2),σ.x.eE,σ.x.sE,σ.x.cE,(σ.x.more q gl cl).lE,σ.x.mE σ.ms σ.km]++(σ.ux++(σ.cd.flatMap bV.es++(σ.cls++[(⟨kY σ.x pr q pg pc wb,k,1,0,[],0,[]⟩:PC)]).flatMap (PC.es σ.x)))))));rw[show σ.st=Y from X.st.trans aF,IE,show [(⟨kY σ.x pr q pg pc wb,k,1,0,[],0,[]⟩:PC)].flatMap (PC.es σ.x)=[σ.x.kE ((kY σ.x pr q pg pc wb).by k),k.wE 1 0,(kY σ.x pr q pg pc wb).wE [] 0,(kY σ.x pr q pg pc wb).pE]from F];exact cx
    ·rintro id u n ⟨rfl,rfl,q,gl,cl,pg,pc,wb,k,hk,rfl⟩
     refine Fl.sub _ (Us uj 0) (by rw[List.nil_append]) ?_;rintro v _ ⟨rfl,rfl⟩;exact⟨_,⟨0,F,F,F,q,gl,cl,pg,pc,wb,k,hk,F⟩,by rw[List.nil_append]⟩
    ·rintro v _ ⟨id,P,n,rfl,⟨rfl,rfl,q,gl,cl,pg,pc,wb,k,hk,rfl⟩,rfl⟩
     exact⟨_,⟨σ.more q gl cl pr pg pc wb k,a+1,b+1,c+1,d+1,F,X.more q gl cl pr pg pc wb k hk,F,F,F⟩,.refl _⟩
end
theorem aCk{α β:Type}:∀(l:ae α)(c:ae β)(i:Nat)(a:α)(b:β),(l.set i a).zip (c.set i b)=(l.zip c).set i (a,b)
 |[],_,_,_,_=>by simp
 |_::_,[],_,_,_=>by simp
 |_::_,_::_,0,_,_=>rfl
 |x::l,y::c,i+1,a,b=>by
  simp only[List.set_cons_succ,List.zip_cons_cons,aCk l c i a b]
theorem aER{α β:Type}{l:ae α}{c:ae β}{i:Nat}{a:α}{b:β}(d:l[i]?=Z a)(e:c[i]?=Z b):(l.zip c)[i]?=Z (a,b):=by
 rw[List.getElem?_zip_eq_some];exact⟨d,e⟩
def oW(m:Mo)(X:ae RC):ae En:=(X.zip m.be).flatMap RC.es
theorem aEk{m:Mo}{X:ae RC}{i:Nat}{q:RC}{c:Cm}(b:X[i]?=Z q)(a:m.be[i]?=Z c):bl.of (oW m X)=(bl.of (RC.es (q,c))).add (bl.of (((X.zip m.be).eraseIdx i).flatMap RC.es)):=P' (EK RC.es _ _ _ (aER b a))
section
variable {m:Mo}{r:RS}{X:ae RC}(V:m.Ok)(W:wS m r X)
include V W
omit V in
theorem wS.ccl:r.cl.length=m.be.length:=by rw[W.cl,jM,W.cn]
theorem aEa(n:Int):Fl Sv 15 [pt r.s,ai n].toArray (a8 r m X) λv L=>∃a l,v=.tuple #[ai (m.pick n).2.1,ai (m.pick n).2.2]/\wS (m.pick n).1 a l/\a.s=r.s/\L=a8 a (m.pick n).1 l:=by
 cases aF:m.fE with
 |true=>
  have e:m.pick n=(m,0,5):=by simp[Mo.pick,aF]
  rw[e];refine Fl.sub ([r.sE m,r.cE,r.mE m,r.lE,r.eE m]++(r.ch.flatMap a7.es++oW m X)) (aEj r m n aF) (by unfold a8 m5 oW;exact cx) ?_;rintro v _ ⟨rfl,rfl⟩;exact⟨_,⟨r,X,F,W,F,F⟩,by unfold a8 m5 oW;exact cx⟩
 |false=>
  by_cases d:n<0\/(m.be.length:Int)<=n
  ·have e:m.pick n=(m,0,4):=by
    unfold Mo.pick;rw[aF];rcases d with d|d
    ·simp[d]
    ·have:m.be[n.toNat]?=I:=Gr ah
     simp[this]
   rw[e];refine Fl.sub ([r.sE m,r.cE,r.mE m,r.lE,r.eE m]++(r.ch.flatMap a7.es++oW m X)) (aEh r m n aF (by rw[W.ccl];exact d)) (by unfold a8 m5 oW;exact cx) ?_;rintro v _ ⟨rfl,rfl⟩;exact⟨_,⟨r,X,rfl,W,rfl,rfl⟩,by unfold a8 m5 oW;exact cx⟩
  ·obtain⟨i,rfl⟩:∃i:Nat,n=i:=⟨n.toNat,by omega⟩
   obtain⟨c,b⟩:∃c,m.be[i]?=Z c:=⟨_,eI ah⟩;have j:i<X.length:=by rw[W.cn];exact(dq.1 b).1
   obtain⟨q,h⟩:∃q,X[i]?=Z q:=⟨_,eI j⟩;have e:m.pick i=(m.with (m.bX c).1 i (m.bX c).2.1,(m.bX c).2.2,0):=by
    unfold Mo.pick;rw[aF];have:¬(i:Int)<0:=by omega
    simp[this,b,Mo.with]
   rw[e];have w:=V.me i c b;have x:=V.cl;have u:=aEq r m q c i aF (by rw[W.cl,fW,h];rfl) (by rw[W.ccl];omega) V w.2.1 W.ch;refine Fl.sub ((((X.zip m.be).eraseIdx i).flatMap RC.es)) u ?_ ?_
   ·apply bl.exact
    have:=aEk h b;unfold oW at this;simp only[a8,xt,nN,this]
    ac_rfl
   ·rintro v _ ⟨a,f,rfl,⟨o,p,s,t⟩,rfl⟩
    refine⟨_,⟨a,X.set i f,rfl,⟨t.same rfl rfl,?_,?_⟩,o,rfl⟩,?_⟩
    ·rw[p,W.cl,wL,s]
     exact(Pv (by rw[fW,h];rfl)).symm
    ·show(X.set i f).length=(m.be.set i _).length
     rw[wJ,wJ,W.cn]
    ·apply bl.exact
     have hz:((X.set i f).zip (m.be.set i (m.bX c).2.1))[i]?=Z (f,(m.bX c).2.1):=by
      rw[aCk,zD];rw[List.length_zip,W.cn,Nat.min_self];exact(dq.1 b).1
     have k:=P' (EK RC.es _ _ _ hz);rw[aCk,aBO,<-aCk]at k;show _=bl.of (m5 a (m.bX c).1++(a.ch.flatMap a7.es++((X.set i f).zip (m.be.set i (m.bX c).2.1)).flatMap RC.es));simp only[nN,k]
     ac_rfl
theorem aEb:Fl Sv 17 [pt r.s].toArray (a8 r m X) λv L=>∃n,v=.tuple #[.bool m.da.2.1,ai m.da.2.2]/\wS m.da.1 n X/\n.s=r.s/\L=a8 n m.da.1 X:=by
 have D:=V.k;have y:=V.s;have u:=W.ch.len;cases aF:m.fE with
 |true=>
  have z:m.da=(m,Y,5):=by simp[Mo.da,aF]
  rw[z];refine Fl.sub ([r.sE m,r.cE,r.mE m,r.lE,r.eE m]++(r.ch.flatMap a7.es++oW m X)) (aEp r m aF) (by unfold a8 m5 oW;exact cx) ?_;rintro v _ ⟨rfl,rfl⟩;exact⟨_,⟨r,F,W,F,F⟩,by unfold a8 m5 oW;exact cx⟩
 |false=>
  rcases zG m.at_ with f|f
  ·rw[ayw aF f]
   refine Fl.sub ([r.sE m,r.cE,r.mE m,r.lE,r.eE m]++(r.ch.flatMap a7.es++oW m X)) (aEn r m aF f) (by unfold a8 m5 oW;exact cx) ?_;rintro v _ ⟨rfl,rfl⟩;refine⟨_,⟨r,rfl,⟨W.ch.same rfl rfl,W.cl,W.cn⟩,rfl,rfl⟩,?_⟩;show rT _ ([r.en {m with at_:=1,w:=m.clock},r.sE m,r.cE,r.mE m,r.lE,r.eE m]++(r.ch.flatMap a7.es++oW m X));exact cx
  ·by_cases E:m.at_<=m.sites.length
   ·obtain⟨i,t⟩:∃i,m.at_=i+1:=⟨m.at_-1,by omega⟩
    obtain⟨h,s⟩:∃h,m.sites[i]?=Z h:=⟨_,eI ah⟩;rw[ayF aF t s];refine Fl.sub ([r.cE,r.mE m,r.lE,r.eE m]++(r.ch.flatMap a7.es++oW m X)) (aEo r m h aF i t s ah) (by unfold a8 m5 oW;exact cx) ?_;rintro v _ ⟨rfl,rfl⟩;refine⟨_,⟨r,rfl,⟨W.ch.same rfl rfl,W.cl,W.cn⟩,rfl,rfl⟩,?_⟩;show rT _ ([r.en {m with at_:=i+2,w:=if 0<=h/\h<m.w then h else m.w},r.sE m,r.cE,r.mE m,r.lE,r.eE m]++(r.ch.flatMap a7.es++oW m X));exact cx
   ·have B:=V.at_
    obtain⟨k,e⟩:∃k,m.at_=m.sites.length+1+k:=⟨m.at_-m.sites.length-1,by omega⟩;have x:k<m.aM.length:=by omega
    obtain⟨l,j⟩:∃l,m.aM[k]?=Z l:=⟨_,eI x⟩;obtain⟨C,b⟩:∃C,r.ch[k]?=Z C:=⟨_,eI ah⟩;have a:=W.ch.is k C l b j;have A:=V.Gb.2 l (jZ j);have d:(C.cut (sx l m.w)).Is (mq l m.w):=by rw[aEJ];exact a.cut (aEK l m.w)
    have c:(m.aM.modify k λl=>mq l m.w)=m.aM.set k (mq l m.w):=Ub _ _ _ _ j;have o:(a8 r m X).Perm ([r.en m,r.cE,C.en]++([r.sE m,r.mE m,r.lE,r.eE m]++((r.ch.eraseIdx k).flatMap a7.es++oW m X))):=by
     unfold a8 m5 oW
     (apply bl.exact;simp only[nN,pB,qk,tA,aBt b];try ac_rfl)
    by_cases p:k+1=m.aM.length
    ·rw[ayB aF e p]
     refine Fl.sub _ (aC8 r m C l aF k e a b ah ah ah) o ?_;rintro v _ ⟨rfl,rfl⟩;rw[if_pos ah,decide_eq_true ah];refine⟨_,⟨r.cd k (C.cut (sx l m.w)),rfl,⟨W.ch.set c rfl d,W.cl,W.cn⟩,rfl,rfl⟩,?_⟩;show rT _ ([(r.cd k (C.cut (sx l m.w))).en {m with at_:=0},r.sE m,(r.cd k (C.cut (sx l m.w))).cE,r.mE m,r.lE,r.eE m]++((r.cd k (C.cut (sx l m.w))).ch.flatMap a7.es++oW m X))
     (apply bl.exact;simp only[nN,pB,qk,tA,aCn b];try ac_rfl)
    ·rw[ayA aF e p]
     refine Fl.sub _ (aC8 r m C l aF k e a b ah ah ah) o ?_;rintro v _ ⟨rfl,rfl⟩;rw[if_neg ah,decide_eq_false ah,e];refine⟨_,⟨r.cd k (C.cut (sx l m.w)),rfl,⟨W.ch.set c rfl d,W.cl,W.cn⟩,rfl,rfl⟩,?_⟩;show rT _ ([(r.cd k (C.cut (sx l m.w))).en {m with at_:=m.sites.length+1+k+1},r.sE m,(r.cd k (C.cut (sx l m.w))).cE,r.mE m,r.lE,r.eE m]++((r.cd k (C.cut (sx l m.w))).ch.flatMap a7.es++oW m X))
     (apply bl.exact;simp only[nN,pB,qk,tA,aCn b];try ac_rfl)
omit V in
theorem wS.more(q:RC)(g:aj Nat)(cap:Nat)(pr:ae Stp):wS {m with be:=m.be++[.new m.be.length pr]} (r.more q.c g cap) (X++[q]):=⟨W.ch.same rfl rfl,by
 show r.cl++[q.c]=(X++[q]).map (λq:RC=>q.c);rw[W.cl,List.map_append];rfl,by simp[W.cn]⟩
omit V in
theorem wS.aC0(q:RC)(g:aj Nat)(cap:Nat)(pr:ae Stp):bl.of (a8 (r.more q.c g cap) {m with be:=m.be++[.new m.be.length pr]} (X++[q]))=(bl.of [(r.more q.c g cap).en m,r.sE m,r.cE,r.mE m,(r.more q.c g cap).lE,r.eE m]).add ((bl.of (r.ch.flatMap a7.es)).add ((bl.of (oW m X)).add (bl.of (RC.es (q,.new m.be.length pr))))):=by
 have hz:(X++[q]).zip (m.be++[.new m.be.length pr])=X.zip m.be++[(q,.new m.be.length pr)]:=by
  rw[List.zip_append W.cn];rfl
 unfold a8 oW;show bl.of ([(r.more q.c g cap).en m,r.sE m,r.cE,r.mE m,(r.more q.c g cap).lE,r.eE m]++(r.ch.flatMap a7.es++((X++[q]).zip (m.be++[.new m.be.length pr])).flatMap RC.es))=_;rw[hz,IE];simp only[nN];congr 3
theorem aD7(e:aj aU)(cap:Nat):Fl Sv 13 [pt r.s,.slice e 0 cap].toArray (a8 r m X) λv L=>∃d i,v=.tuple #[ai (m.bt []).2.1,ai (m.bt []).2.2]/\wS (m.bt []).1 d i/\d.s=r.s/\L=a8 d (m.bt []).1 i:=by
 have a:=W.ccl;have j:=V.cl;cases aF:m.fE with
 |true=>
  have b:m.bt []=(m,0,5):=by simp[Mo.bt,aF]
  rw[b];refine Fl.sub ([r.sE m,r.cE,r.mE m,r.lE,r.eE m]++(r.ch.flatMap a7.es++oW m X)) (aC5 r m _ aF) (by unfold a8 m5 oW;exact cx) ?_;rintro v _ ⟨rfl,rfl⟩;exact⟨_,⟨r,X,F,W,F,F⟩,by unfold a8 m5 oW;exact cx⟩
 |false=>
  refine Fl.sub ([r.sE m,r.cE,r.mE m,r.eE m]++(r.ch.flatMap a7.es++oW m X)) (aD4 r m aF ah e cap) (by unfold a8 m5 oW;exact cx) ?_;intro v k h;have c:m.right []=U:=rfl;by_cases f:m.be.length=8
  ·have b:m.bt []=(m,0,3):=by simp[Mo.bt,aF,c,f]
   rw[b];rw[if_pos ah]at h;obtain⟨rfl,rfl⟩:=h;exact⟨_,⟨r,X,F,W,F,F⟩,by unfold a8 m5 oW;exact cx⟩
  ·have b:m.bt []=({m with be:=m.be++[.new m.be.length []]},((m.be.length:Nat):Int),0):=by simp[Mo.bt,aF,c,f]
   rw[b];rw[if_neg ah]at h;obtain⟨rfl,q,g,cap,rfl⟩:=h;refine⟨_,⟨r.more q.c g cap,X++[q],by rw[a],W.more q g cap [],F,F⟩,?_⟩;apply bl.exact;rw[W.aC0 q g cap [],a];simp only[RC.es,nN,pB,qk,tA]
   ac_rfl
theorem aD6(b c:Nat)(e:af ag)(i:aK)(f:Nat×Nat)(cap:Nat)(pr:ae Stp)(p:0<pr.length)(u:pr.length<=4398046511104)(t:U7 e c pr):Fl Sv 13 [pt r.s,.slice (Z ⟨b,c,I⟩) pr.length cap].toArray (Ir b e i f::a8 r m X) λv L=>∃l o,v=.tuple #[ai (m.bt pr).2.1,ai (m.bt pr).2.2]/\wS (m.bt pr).1 l o/\l.s=r.s/\L=Ir b e i f::a8 l (m.bt pr).1 o:=by
 have d:=W.ccl;have s:=V.cl;have j:=W.ch.len;cases aF:m.fE with
 |true=>
  have a:m.bt pr=(m,0,5):=by simp[Mo.bt,aF]
  rw[a];refine Fl.sub ([Ir b e i f,r.sE m,r.cE,r.mE m,r.lE,r.eE m]++(r.ch.flatMap a7.es++oW m X)) (aC5 r m _ aF) (by unfold a8 m5 oW;exact cx) ?_;rintro v _ ⟨rfl,rfl⟩;exact⟨_,⟨r,X,F,W,F,F⟩,by unfold a8 m5 oW;exact cx⟩
 |false=>
  refine Fl.sub ([r.sE m,r.cE,r.mE m,r.eE m]++(r.ch.flatMap a7.es++oW m X)) (aD5 r m aF ah b c e i f cap pr p u t) (by unfold a8 m5 oW;exact cx) ?_;intro v w h;have k:(vX r.ch.length Y pr&&decide ((pr.length:Int)<=200))=m.right pr:=by
   unfold Mo.right;rw[j];congr 1;simp;omega
  rw[k]at h;cases hr:m.right pr with
  |false=>
   rw[hr,if_pos F]at h;have a:m.bt pr=(m,0,2):=by simp[Mo.bt,aF,hr]
   rw[a];obtain⟨rfl,rfl⟩:=h;exact⟨_,⟨r,X,F,W,F,F⟩,by unfold a8 m5 oW;exact cx⟩
  |true=>
   rw[hr,if_neg ba]at h;by_cases n:m.be.length=8
   ·have a:m.bt pr=(m,0,3):=by simp[Mo.bt,aF,hr,n]
    rw[a];rw[if_pos ah]at h;obtain⟨rfl,rfl⟩:=h;exact⟨_,⟨r,X,F,W,F,F⟩,by unfold a8 m5 oW;exact cx⟩
   ·have a:m.bt pr=({m with be:=m.be++[.new m.be.length pr]},((m.be.length:Nat):Int),0):=by simp[Mo.bt,aF,hr,n]
    rw[a];rw[if_neg ah]at h;obtain⟨rfl,q,g,cap,rfl⟩:=h;refine⟨_,⟨r.more q.c g cap,X++[q],by rw[d],W.more q g cap pr,F,F⟩,?_⟩;apply bl.exact;rw[pB,W.aC0 q g cap pr,d];simp only[RC.es,nN,pB,qk,tA]
    ac_rfl
end
theorem aD9(a b d:Int):Fl Sv 9 [ai a,ai b,ai d].toArray [] λv L=>match Mo.new a b d with
  |none=>v=.tuple #[.pointer I,ai 1]/\L=[]
  |some m=>∃r,v=.tuple #[pt r.s,ai 0]/\wS m r []/\L=a8 r m []:=by
 unfold Mo.new;by_cases h:a<1\/a>8\/b<1\/b>20\/d<0\/d>1000000
 ·rw[if_pos h]
  exact aEf a b d h
 ·rw[if_neg h]
  obtain⟨z,rfl⟩:∃n:Nat,a=n:=⟨a.toNat,by omega⟩;obtain⟨c,rfl⟩:∃n:Nat,b=n:=⟨b.toNat,by omega⟩;simp only[Int.toNat_natCast];refine Fl.OE (aEg z c d ah) ?_;rintro v _ ⟨s,sg,p,j,o,rfl,rfl⟩;refine⟨kq c (.row 88 3 I 0 0 []),_,λe x=>⟨88,3,List.eq_of_mem_replicate x⟩,⟨rs0 s sg p j o c,F,⟨⟨?_,λk C l u w=>?_⟩,F,F⟩,F⟩,?_⟩
  ·simp[rs0,Mo.init]
  ·have f:(kq c (⟨I,0,0,#[]⟩:a7))[k]?=Z C:=u
   have i:(kq c ([]:ae aZ))[k]?=Z l:=w;rw[List.getElem?_replicate]at f i;split at f
   ·rename_i y
    rw[if_pos y]at i;cases f;cases i;exact⟨F,dt _,(λh=>by cases h),λ_=>rfl⟩
   ·cases f
  ·have t:(rs0 s sg p j o c).ch.flatMap a7.es=kq c (.row 88 3 I 0 0 []):=by
    show(kq c (⟨I,0,0,#[]⟩:a7)).flatMap a7.es=_;rw[List.flatMap_replicate];show(kq c [(.row 88 3 I 0 0 []:En)]).flatten=_;exact List.flatten_replicate_singleton
   unfold a8 m5;rw[t];show rT _ (_++(_++[]));exact cx
structure PR where
 σ:Sg
 m:Mo
 r:RS
 qs:ae RC
structure PR.Ok(p:PR):Prop where
 m:p.m.Ok
 s:kM p.m p.σ
 r:wS p.m p.r p.qs
def PR.cells(p:PR):ae ag:=[pt p.σ.x.s,pt p.r.s]
theorem PR.len(p:PR):p.cells.length=2:=rfl
def PR.es(p:PR):ae En:=p.σ.all++a8 p.r p.m p.qs
def vB:Nat->ag
 |0=>ai 0
 |k+1=>.iface 3 (vB k)
def goes(p:PR):Nat:=if p.m.fE then 0 else 1
def live(a:ae PR):Nat:=(a.map goes).sum
structure WS where
 w:Nat
 g:aj Nat
 cap:Nat
 ps:ae PR
 a:Gc
 b:Nat
 c:Nat
 d:Nat
def WS.wE(x:WS):En:=.ob x.w (.cells #[sv x.g x.ps.length x.cap] 32)
def WS.pE(x:WS):En:=.row 41 2 x.g x.ps.length x.cap (x.ps.flatMap PR.cells)
def WS.all(S:Hp)(a:ae Nat)(A:Nat->aU)(x:WS):ae En:=x.wE::x.pE::(gE x.a x.b::hE (.chan I) x.c x.d::(bQ S a A++x.ps.flatMap PR.es))
structure WS.Ok(x:WS):Prop where
 ps:∀p∈x.ps,p.Ok
 a:x.a.v=vB (live x.ps)
theorem aBF{ps:ae PR}{i}{p}(h:ps[i]?=Z p):bl.of (ps.flatMap PR.es)=(bl.of p.es).add (bl.of ((ps.eraseIdx i).flatMap PR.es)):=P' (EK _ _ _ _ h)
theorem aDW{a:ae PR}{i}{p b}(h:a[i]?=Z p):bl.of ((a.set i b).flatMap PR.es)=(bl.of b.es).add (bl.of ((a.eraseIdx i).flatMap PR.es)):=by
 have c:=(dq.1 h).1;have:=aBF (ps:=a.set i b) (i:=i) (p:=b) (by simp_all);rw[this,aBO]
theorem aDS{a}{i}{p p'}(h:a[i]?=Z p):live (a.set i p')+goes p=live a+goes p':=PT _ _ i p _ h
def WS.put(x:WS)(i:Nat)(p:PR)(a:Gc)(b c d:Nat):WS:={x with ps:=x.ps.set i p,a:=a,b:=b,c:=c,d:=d}
theorem WS.Ok.put{x:WS}(h:x.Ok){i}{p f}(j:x.ps[i]?=Z p)(l:f.Ok){a}{b c d}(n:∀k,x.a.v=vB (k+goes p)->a.v=vB (k+goes f)):(x.put i f a b c d).Ok:=by
 refine⟨λq g=>?_,?_⟩
 ·rcases List.mem_or_eq_of_mem_set g with g|rfl
  ·exact h.ps q g
  ·exact l
 ·have r:=aDS (p':=f) j
  have m:∃k,live x.ps=k+goes p:=by
   refine⟨((x.ps.eraseIdx i).map goes).sum,?_⟩;have e:x.ps.Perm (p::x.ps.eraseIdx i):=by
    have:=EK (λq:PR=>[q]) _ i p j;simpa using this
   have:=(e.map goes).sum_nat;simp only[fw,aBv]at this;unfold live;omega
  obtain⟨k,o⟩:=m;have:=n k (by rw[h.a,o]);rw[show live (x.put i f a b c d).ps=k+goes f from by show live (x.ps.set i f)=_;omega];exact this
theorem aDX{b:ae PR}{i}{p a}(h:b[i]?=Z p)(c:a.σ.x.s=p.σ.x.s)(d:a.r.s=p.r.s):(b.set i a).flatMap PR.cells=b.flatMap PR.cells:=by
 rw[List.flatMap_def,List.flatMap_def,wL];congr 1;refine Pv ?_;rw[fW,h];simp only[jE,PR.cells,c,d]
structure iY where
 kind:Int
 W:Int
 A:Int
 B:Int
 C:Int
 P:ag
 pr:ae Stp
def iY.v(o:iY):ag:=.agg #[ai o.kind,ai o.W,ai o.A,ai o.B,ai o.C,o.P]
def WK(S:Hp)(g:ae Nat)(v:ag)(d:ae Stp):Prop:=(d=[]/\∃f a,v=.slice f 0 a)\/(0<d.length/\∃b c a e i h,v=.slice (Z ⟨b,c,I⟩) d.length a/\S[b]?=Z (.cells e i h)/\U7 e c d/\b∉g/\b≠8/\b≠10)
def tG(n:Int):Prop:=-9223372036854775808<=n/\n<9223372036854775808
structure iY.Ok(S:Hp)(ex:ae Nat)(o:iY):Prop where
 k:tG o.kind
 W:tG o.W
 A:tG o.A
 B:tG o.B
 C:tG o.C
 P:WK S ex o.P o.pr
 l:o.pr.length<=4398046511104
abbrev qg(z:Nat)(o:iY):En:=.ob z (.cells #[ai o.kind,ai o.W,ai o.A,ai o.B,ai o.C,o.P] 28)
theorem aDU{a b c}{m}(h:Mo.new a b c=Z m):m.fE=Y:=by
 unfold Mo.new at h;split at h
 ·cases h
 ·cases h;rfl
def WS.add(x:WS)(g e:Nat)(p:PR)(a:Gc)(b c d:Nat):WS:={x with g:=Z g,cap:=e,ps:=x.ps++[p],a:=a,b:=b,c:=c,d:=d}
theorem WS.Ok.add{x:WS}(h:x.Ok){g f}{σ}{m}{r}{i}{a}{b c d}(j:m.Ok)(k:kM m σ)(l:wS m r i)(n:m.fE=Y)(o:a.v=.iface 3 x.a.v):(x.add g f ⟨σ,m,r,i⟩ a b c d).Ok:=by
 refine⟨λq e=>?_,?_⟩
 ·rcases pz.1 e with e|e
  ·exact h.ps q e
  ·rw[my]at e
   subst e;exact⟨j,k,l⟩
 ·show a.v=vB (live (x.ps++[_]))
  rw[o,h.a];unfold live;simp[goes,n,vB]
def aB3(S:Hp)(b:ae Nat)(A:Nat->aU)(x:WS)(v:ag)(L:ae En):Prop:=∃a:WS,v=.bool U/\a.Ok/\a.w=x.w/\a.ps.length<=x.ps.length+1/\L=a.all S b A
theorem aEx{S:Hp}{b:ae Nat}{A:Nat->aU}(x:WS)(k:x.Ok)(o:iY)(p:o.kind=1)(u:x.ps.length<2305843009213):Fl Sv 6 [pt x.w,o.v].toArray (x.all S b A) (aB3 S b A x):=by
 refine Fl.of 195 λt s=>?_;refine cM ([x.wE,x.pE]++([gE x.a x.b,hE (.chan I) x.c x.d]++(bQ S b A++x.ps.flatMap PR.es))) (cF _ _ ?_);refine di (λ_=>[2,bT p,2,2,2]) λz=>bE ?_;refine cM ([x.wE,x.pE,qg z o]++([gE x.a x.b,hE (.chan I) x.c x.d]++(bQ S b A++x.ps.flatMap PR.es))) ?_;refine im _ ([x.wE,x.pE,qg z o]++x.ps.flatMap PR.es) (UJ o.A o.B o.C _ _ _ _) cx ?_;intro v q i;have c:=aD9 o.A o.B o.C;cases hn:Mo.new o.A o.B o.C with
 |none=>
  rw[hn]at i c;obtain⟨rfl,rfl⟩:=i;refine du (L':=[x.wE,x.pE,qg z o]++([gE x.a x.b,hE (.chan I) x.c x.d]++(bQ S b A++x.ps.flatMap PR.es))) cx (cF _ _ ?_);refine av [2,2,2] (IU c ?_);rintro _ _ ⟨rfl,rfl⟩;refine av [.d,.d,.d,.d,.d] (ey [2] (bE ?_));exact ez [.bool U] ([x.wE,x.pE]++([gE x.a x.b,hE (.chan I) x.c x.d]++(bQ S b A++x.ps.flatMap PR.es))) ⟨x,F,k,F,wM _,F⟩
 |some m=>
  rw[hn]at i c;obtain⟨σ,d,e,f,g,rfl,l,n,rfl⟩:=i;refine du (L':=[x.wE,x.pE,qg z o]++([gE d e,hE (.chan I) f g]++(bQ S b A++(x.ps.flatMap PR.es++σ.all)))) cx (cF _ _ ?_);refine av [2,2,2] (IU c ?_);rintro _ _ ⟨r,rfl,j,rfl⟩;refine cM (a8 r m []++[x.wE,x.pE,qg z o]) (du (L':=[x.wE,x.pE,qg z o]++a8 r m []) cx (cF _ _ ?_));refine di (λ_=>[.d,.d,.d,.d,.d,0]) λy=>kr (Jf 16 30 1 3 x.ps.length ah) ?_;rintro _ _ ⟨h,a,rfl,rfl⟩;refine av [0] (ey [2,3] (bE (bE ?_)));refine cM (([.ob x.w (.cells #[sv (Z h) (x.ps.length+1) a] 32),.row 41 2 (Z h) (x.ps.length+1) a (x.ps.flatMap PR.cells++[pt σ.x.s,pt r.s])]++a8 r m [])++([gE d e,hE (.chan I) f g]++(bQ S b A++(x.ps.flatMap PR.es++σ.all)))) ?_;refine du (L':=(x.add h a ⟨σ,m,r,[]⟩ d e f g).all S b A) ?_ (ez [.bool U] _ ⟨x.add h a ⟨σ,m,r,[]⟩ d e f g,F,k.add (aqx hn) l j (aDU hn) n,F,by simp[WS.add],F⟩);unfold WS.all WS.wE WS.pE WS.add;simp only[oe,List.length_singleton,IE,List.flatMap_singleton];unfold PR.es PR.cells;exact cx
theorem aEy {S:Hp} {ex:List Nat} {A:Nat→Addr} (x:WS) (hx:x.Ok) (o:iY) (hk:o.kind≠1) (h0:x.ps.length=0):Fl Sv 6 [pt x.w,o.v].toArray (x.all S ex A) (aB3 S ex A x):=by
 refine Fl.of 195 λb a=>?_;refine cM ([x.wE]++(x.pE::([gE x.a x.b,hE (.chan none) x.c x.d]++(bQ S ex A++x.ps.flatMap PR.es)))) (cF _ _ ?_);refine di (λ_=>[1,bF hk,0,kT x.ps.length 0]) λz=>ey [1] (bE ?_);exact ez [.bool true] _ ⟨x,rfl,hx,rfl,Nat.le_succ _,rfl⟩
theorem aDl{x:WS}{g:Nat}(h:x.g=Z g):∃x0:WS,x={x0 with g:=Z g}:=⟨x,by cases x;simp_all⟩
noncomputable def stT:ae aJ:=tQ (nx Sv ⟨6,195,.normal,[],[],λ_ _=>True⟩ (bO Sv 6 #[] .normal).todo [] (CV [pt 0,.agg #[ai 2,ai 0,ai 0,ai 0,ai 0,aB]] 0) [.ob 0 (.cells #[sv (Z 1) 1 1] 32),.row 41 2 (Z 1) 1 1 [pt 5,pt 6]] [2,ie 2 1 aT,0,ie 1 0 aT] (.n 9)).todo
theorem aEC {S:Hp} {ex:List Nat} {A:Nat→Addr} (x:WS) (o:iY) (hk:o.kind≠1) (h0:0<x.ps.length) (hl:x.ps.length<2305843009213) (hW:tG o.W) (p:PR) (hp:x.ps[vh o.W x.ps.length]?=some p) {cs:List Frame} {L2:List En} {R:Value→List En→Prop}
  (hT:∀z h,Rs Sv (fx Sv 6 195 cs L2 R) stT [] [(3,pt z),(4,.bool false),(9,pt h)] ([x.wE,x.pE,qg z o,oP h p.σ.x.s p.r.s]++([gE x.a x.b,hE (.chan none) x.c x.d]++(bQ S ex A++x.ps.flatMap PR.es)))):
  Rs Sv (fx Sv 6 195 cs L2 R) (Frame.enter Sv 6 [pt x.w,o.v].toArray .normal).todo [] (CV [pt x.w,o.v] 0) (x.all S ex A):=by
 refine lJ 1 x.g x.ps.length x.cap h0 λg r _=>?_;obtain⟨x,rfl⟩:=aDl r;simp only at h0 hl hp;obtain⟨w,_,e,f,a,b,c,d⟩:=x;simp only at h0 hl hp;generalize l:vh o.W f.length=i at*;have m:i<f.length:=(List.getElem?_eq_some_iff.1 hp).1;have k:∀q,q<2→(f.flatMap PR.cells)[i*2+q]?=p.cells[q]?:=λq s=>gW PR.len f i q p s hp;refine cM ([WS.wE ⟨w,some g,e,f,a,b,c,d⟩,WS.pE ⟨w,some g,e,f,a,b,c,d⟩]++([gE a b,hE (.chan none) c d]++(bQ S ex A++f.flatMap PR.es))) (cF _ _ ?_);refine di (λ_=>[2,bF hk,0,ie f.length 0]) λz=>?_;refine afa 16 ?_;refine aDk (ι:=Nat) (λh=>[(3,pt z),(4,.bool false),(9,pt h)]) (λh=>[WS.wE ⟨w,some g,e,f,a,b,c,d⟩,WS.pE ⟨w,some g,e,f,a,b,c,d⟩,qg z o,oP h p.σ.x.s p.r.s]) (λh=>?_) λj=>?_
 ·exact bE (cq (hT z h))
 refine Qe (n:=5) [0,1,2,3,4,5,6,7,8,9,10] [0,2,0] ?_;refine Wu [11,14] ⟨Wq [] (UG o.W f.length h0 hW) ?_,aCN (λ_=>[]) λh=>?_,trivial⟩
 ·rintro _ _ ⟨rfl,rfl⟩
  rw[l];refine Ws (Qe (n:=2) [12,13] [iX 30 2 g e m,rr 1 (k 0 aT),rr 1 (k 1 aT)] ?_);refine Wu [14] ⟨aCN (λ_=>[]) λh=>Wu [15] ⟨aCM [3,3] (afg ?_),trivial⟩,trivial⟩;exact cq (j h)
 ·refine Wu [11] ⟨Wq [] (UG o.W f.length h0 hW) ?_,trivial⟩
  rintro _ _ ⟨rfl,rfl⟩;rw[l];refine Ws (Qe (n:=1) [12,13] [iX 30 2 g e m,rr 1 (k 0 aT),rr 1 (k 1 aT)] ?_);refine Wu [15] ⟨aCM [3,3] (afg ?_),trivial⟩;exact cq (j h)
def nR(A:Nat->aU):ae En:=[aQ 0 (aY (A 0)),aQ 1 (aY (A 1)),aQ 2 (aY (A 2)),aQ 3 (aY (A 3)),aQ 4 (aY (A 4)),.ob 5 (.cells #[iw 63] 185)]
theorem l6(S:Hp)(X:ae Nat)(A:Nat->aU):bQ S X A=.ro S X::nR A:=rfl
theorem aDR{a:ae PR}{i:Nat}{p:PR}(W:a[i]?=Z p):∃k,live a=k+goes p:=by
 refine⟨((a.eraseIdx i).map goes).sum,?_⟩;have e:a.Perm (p::a.eraseIdx i):=by
  have:=EK (λq:PR=>[q]) a i p W;simpa using this
 have:=(e.map goes).sum_nat;simp only[fw,aBv]at this;unfold live;omega
theorem aDh{m:Mo}(a:m.Ok):({m with fE:=U}:Mo).Ok:=⟨a.k,a.s,a.ml,a.si,a.ck,a.cl,a.me,a.ev,a.ch,a.at_⟩
section
variable {S:Hp}{X:ae Nat}{A:Nat->aU}
theorem YJ{v:ag}{d:ae Stp}(h:WK S X v d)(n:d.length<=4398046511104):Fl Sv 12 [v].toArray [.ro S X] λv L=>∃g c,v=sv g d.length c/\L=[.ro S X,bK g c d]:=by
 rcases h with⟨rfl,f,a,rfl⟩|⟨t,b,e,a,r,s,j,rfl,m,k,V,l,q⟩
 ·refine Fl.sub [.ro S X] (ajC f a) (.refl _) ?_
  rintro v _ ⟨rfl,rfl⟩;exact⟨_,⟨I,0,rfl,rfl⟩,CC ..⟩
 ·refine Fl.post (Fl.MS (R:=λv L=>∃g c,v=sv g d.length c/\L=[bK g c d]) m l q V ((ajD b e r s j a d n k).post ?_)) ?_
  ·rintro v _ ⟨g,c,rfl,rfl⟩
   exact⟨_,⟨_,⟨g,c,rfl,rfl⟩,rfl⟩,.refl _⟩
  ·rintro v _ ⟨_,⟨g,c,rfl,rfl⟩,rfl⟩
   exact⟨_,⟨g,c,rfl,rfl⟩,.refl _⟩
theorem aD8{m:Mo}{r:RS}{n:ae RC}(l:m.Ok)(k:wS m r n){v:ag}{d:ae Stp}(h:WK S X v d)(z:d.length<=4398046511104):Fl Sv 13 [pt r.s,v].toArray (.ro S X::a8 r m n) λv L=>∃a c,v=.tuple #[ai (m.bt d).2.1,ai (m.bt d).2.2]/\wS (m.bt d).1 a c/\a.s=r.s/\L=.ro S X::a8 a (m.bt d).1 c:=by
 rcases h with⟨rfl,q,e,rfl⟩|⟨u,b,j,e,C,D,s,rfl,y,t,V,w,B⟩
 ·refine Fl.sub [.ro S X] (aD7 l k q e) cx ?_
  rintro v _ ⟨a,c,rfl,f,g,rfl⟩;exact⟨_,⟨a,c,rfl,f,g,rfl⟩,by exact cx⟩
 ·refine Fl.post (Fl.MS (R:=λv L=>∃a c,v=.tuple #[ai (m.bt d).2.1,ai (m.bt d).2.2]/\wS (m.bt d).1 a c/\a.s=r.s/\L=a8 a (m.bt d).1 c) y w B V ((aD6 l k b j C D s e d u z t).post ?_)) ?_
  ·rintro v _ ⟨a,c,rfl,f,g,rfl⟩
   exact⟨_,⟨_,⟨a,c,rfl,f,g,rfl⟩,rfl⟩,.refl _⟩
  ·rintro v _ ⟨_,⟨a,c,rfl,f,g,rfl⟩,rfl⟩
   exact⟨_,⟨a,c,rfl,f,g,rfl⟩,.refl _⟩
abbrev uI(o:iY)(p:PR)(z a:Nat):ae En:=[qg z o,oP a p.σ.x.s p.r.s]
abbrev uH(x:WS)(o:iY)(p:PR)(z a:Nat):ae En:=[x.wE,x.pE,qg z o,oP a p.σ.x.s p.r.s]
abbrev uT(S:Hp)(X:ae Nat)(A:Nat->aU)(x:WS)(a:Gc)(b:Nat)(T:ae En):ae En:=gE a b::hE (.chan I) x.c x.d::(bQ S X A++T)
theorem aCg(x:WS){i:Nat}{p p':PR}(W:x.ps[i]?=Z p)(g:p'.σ.x.s=p.σ.x.s)(h:p'.r.s=p.r.s)(a:Gc)(b c d:Nat):bl.of ((x.put i p' a b c d).all S X A)=(bl.of [x.wE,x.pE]).add ((bl.of [gE a b,hE (.chan I) c d]).add ((bl.of (bQ S X A)).add ((bl.of p'.es).add (bl.of ((x.ps.eraseIdx i).flatMap PR.es))))):=by
 have e:(x.put i p' a b c d).wE=x.wE:=by unfold WS.wE WS.put;simp only[wJ]
 have f:(x.put i p' a b c d).pE=x.pE:=by unfold WS.pE WS.put;simp only[wJ];rw[aDX W g h]
 unfold WS.all;rw[e,f];show bl.of (x.wE::x.pE::(gE a b::hE (.chan I) c d::(bQ S X A++(x.ps.set i p').flatMap PR.es)))=_;simp only[nN,pB,qk,aDW W]
 ac_rfl
def stG(S:Hp)(X:ae Nat)(A:Nat->aU)(x:WS)(o:iY)(p:PR):Prop:=∀(c:ae aA)(b:ae En)(z a:Nat),Rs Sv (fx Sv 6 195 c b (aB3 S X A x)) stT [] [(3,pt z),(4,.bool Y),(9,pt a)] ((uH x o p z a)++([gE x.a x.b,hE (.chan I) x.c x.d]++(bQ S X A++x.ps.flatMap PR.es)))
theorem ap3(m:Mo)(l:ae Stp):(m.bt l).1.fE=m.fE:=by
 unfold Mo.bt
 repeat' split
 all_goals rfl
theorem ap9{m:Mo}(a:m.Ok)(n:Int):(m.pick n).1.fE=m.fE:=by
 unfold Mo.pick;dsimp only
 split
 ·rfl
 ·split
  ·rfl
  ·split
   ·rfl
   ·rename_i c d
    have b:=a.me _ c d;exact(LK a b.2.1 b.2.2).st
variable (Q:rj S X A)(x:WS)(V:x.Ok)(o:iY)(P:o.Ok S X){i:Nat}{p:PR}(W:x.ps[i]?=Z p)
include V W
theorem aCh(e:PR)(a:Gc)(b c d:Nat)(f:e.Ok)(g:∀k,x.a.v=vB (k+goes p)->a.v=vB (k+goes e)):aB3 S X A x (.bool U) ((x.put i e a b c d).all S X A):=⟨x.put i e a b c d,F,V.put W f g,F,by show(x.ps.set i e).length<=_;rw[wJ];exact wM _,F⟩
include Q
theorem aEB (hk:o.kind=3):stG S X A x o p:=by
 intro w v z e;have d:=V.ps p (List.mem_of_getElem? W);generalize n:(x.ps.eraseIdx i).flatMap PR.es=E;have t:bl.of (x.ps.flatMap PR.es)=(bl.of p.σ.all).add ((bl.of (a8 p.r p.m p.qs)).add (bl.of E)):=by
  rw[aBF W,n];unfold PR.es;simp only[nN]
  ac_rfl
 refine av [2,ie o.kind 2,kT o.kind 3 hk,3,2] (cM ((uH x o p z e)++([gE x.a x.b,hE (.chan none) x.c x.d]++(bQ S X A++x.ps.flatMap PR.es))) ?_);refine im (bQ S X A++(gE x.a x.b::p.σ.all)) ((uH x o p z e)++(hE (.chan none) x.c x.d::(a8 p.r p.m p.qs++E))) (Ig Q d.m d.s o.A x.a x.b) (by(apply bl.exact;simp only[nN,pB,qk,tA,t];try ac_rfl)) ?_;rintro _ _ ⟨a,b,c,rfl,s,q,r,rfl⟩;refine du (L':=(uH x o p z e)++(uT S X A x b c (a.all++(a8 p.r p.m p.qs++E)))) cx ?_;refine av [3,2] (cM ((uH x o p z e)++(uT S X A x b c (a.all++(a8 p.r p.m p.qs++E)))) ?_);refine im (a8 p.r p.m p.qs) ((uH x o p z e)++(uT S X A x b c (a.all++E))) (aEa d.m d.r o.A) cx ?_;rintro _ _ ⟨g,f,rfl,l,u,rfl⟩;refine du (L':=(uI o p z e)++([x.wE,x.pE]++(uT S X A x b c (a.all++(a8 g (p.m.pick o.A).1 f++E))))) cx (cF _ _ ?_);refine av [kT ((p.m.pick o.A).2.1) ((p.m.pick o.A).2.1) rfl,kT ((p.m.pick o.A).2.2) ((p.m.pick o.A).2.2) rfl] (ey [0,1] (bE ?_));refine cM ([x.wE,x.pE]++(uT S X A x b c (a.all++(a8 g (p.m.pick o.A).1 f++E)))) ?_;have j:PR.Ok ⟨a,(p.m.pick o.A).1,g,f⟩:=⟨ab5 d.m _,s,l⟩;have m:goes ⟨a,(p.m.pick o.A).1,g,f⟩=goes p:=by unfold goes;rw[ap9 d.m]
 refine du (L':=(x.put i ⟨a,(p.m.pick o.A).1,g,f⟩ b c x.c x.d).all S X A) (bl.exact ?_) (ez [.bool true] _ (aCh x V W _ b c x.c x.d j λk h=>by rw[m,r,h]));rw[aCg x W q u,n];unfold PR.es;simp only[nN,pB,qk]
 ac_rfl
theorem aEF (hk:o.kind=4):stG S X A x o p:=by
 intro y w z f;have g:=V.ps p (List.mem_of_getElem? W);generalize q:(x.ps.eraseIdx i).flatMap PR.es=E;have u:bl.of (x.ps.flatMap PR.es)=(bl.of p.σ.all).add ((bl.of (a8 p.r p.m p.qs)).add (bl.of E)):=by
  rw[aBF W,q];unfold PR.es;simp only[nN]
  ac_rfl
 refine av [2,ie o.kind 2,ie o.kind 3,kT o.kind 4 hk,3] (cM ((uH x o p z f)++([gE x.a x.b,hE (.chan none) x.c x.d]++(bQ S X A++x.ps.flatMap PR.es))) ?_);refine im (bQ S X A++(gE x.a x.b::p.σ.all)) ((uH x o p z f)++(hE (.chan none) x.c x.d::(a8 p.r p.m p.qs++E))) (UK Q g.m g.s x.a x.b) (by(apply bl.exact;simp only[nN,pB,qk,tA,u];try ac_rfl)) ?_;rintro _ _ ⟨c,d,e,rfl,t,r,s,rfl⟩;refine du (L':=(uH x o p z f)++(uT S X A x d e (c.all++(a8 p.r p.m p.qs++E)))) cx ?_;refine av [3] (cM ((uH x o p z f)++(uT S X A x d e (c.all++(a8 p.r p.m p.qs++E)))) ?_);refine im (a8 p.r p.m p.qs) ((uH x o p z f)++(uT S X A x d e (c.all++E))) (aEb g.m g.r) cx ?_;rintro _ _ ⟨j,rfl,m,v,rfl⟩;refine du (L':=(uI o p z f)++([x.wE,x.pE]++(uT S X A x d e (c.all++(a8 j p.m.da.1 p.qs++E))))) cx (cF _ _ ?_);refine av [bB (a:=p.m.da.2.1==p.m.da.2.1) (b:=true) ba,kT (p.m.da.2.2) (p.m.da.2.2) rfl] (ey [0,1] (bE ?_));refine cM ([x.wE,x.pE]++(uT S X A x d e (c.all++(a8 j p.m.da.1 p.qs++E)))) ?_;have l:PR.Ok ⟨c,p.m.da.1,j,p.qs⟩:=⟨ayz g.m,t,m⟩;have n:goes ⟨c,p.m.da.1,j,p.qs⟩=goes p:=by unfold goes;rw[(ayv p.m).st]
 refine du (L':=(x.put i ⟨c,p.m.da.1,j,p.qs⟩ d e x.c x.d).all S X A) (bl.exact ?_) (ez [.bool true] _ (aCh x V W _ d e x.c x.d l λk h=>by rw[n,s,h]));rw[aCg x W r v,q];unfold PR.es;simp only[nN,pB,qk]
 ac_rfl
theorem aEv (P:o.Ok S X) (hk:o.kind=2):stG S X A x o p:=by
 intro G D z a;have m:=V.ps p (List.mem_of_getElem? W);generalize u:(x.ps.eraseIdx i).flatMap PR.es=E;have B:bl.of (x.ps.flatMap PR.es)=(bl.of p.σ.all).add ((bl.of (a8 p.r p.m p.qs)).add (bl.of E)):=by
  rw[aBF W,u];unfold PR.es;simp only[nN]
  ac_rfl
 refine av [2,kT o.kind 2 hk] (cM ((uH x o p z a)++([gE x.a x.b,hE (.chan none) x.c x.d]++(.ro S X::(nR A++x.ps.flatMap PR.es)))) ?_);refine gw 11 [3,2] [4,5,.p [6,7,8,9,10]] ?_;refine Qa (L0:=[.ro S X]) (Lr:=(uH x o p z a)++([gE x.a x.b,hE (.chan none) x.c x.d]++(nR A++(p.σ.all++(a8 p.r p.m p.qs++E))))) (F:=λl=>(uH x o p z a)++([gE x.a x.b,hE (.chan none) x.c x.d]++(nR A++(p.σ.all++(a8 p.r p.m p.qs++(E++l)))))) (YJ P.P P.l) ?_ (λl=>by exact cx) ?_
 · (apply bl.exact;simp only[nN,pB,qk,tA,B];try ac_rfl)
 rintro _ _ ⟨g,c,rfl,rfl⟩;refine ib ?_;refine Qa (L0:=bK g c o.pr::(bQ S X A++(gE x.a x.b::hE (.chan none) x.c x.d::p.σ.all))) (Lr:=(uH x o p z a)++(a8 p.r p.m p.qs++E)) (F:=λl=>(uH x o p z a)++(a8 p.r p.m p.qs++(E++l))) (O3 Q m.m m.s o.pr g c P.l x.a x.b x.c x.d) ?_ (λl=>by exact cx) ?_
 ·rw[l6]
  exact cx
 rintro _ _ ⟨b,d,e,f,j,rfl,y,v,w,rfl⟩;refine ib (zL [] (Fl.nil ?_));refine du (L':=(uH x o p z a)++(gE d e::hE (.chan none) f j::(bQ S X A++(b.all++(a8 p.r p.m p.qs++(E++[bK g c o.pr])))))) cx ?_;refine av [3,2] (cM ((uH x o p z a)++(gE d e::hE (.chan none) f j::(bQ S X A++(b.all++(a8 p.r p.m p.qs++(E++[bK g c o.pr])))))) ?_);refine im (.ro S X::a8 p.r p.m p.qs) ((uH x o p z a)++(gE d e::hE (.chan none) f j::(nR A++(b.all++(E++[bK g c o.pr]))))) (aD8 m.m m.r P.P P.l) (by rw[l6];exact cx) ?_;rintro _ _ ⟨q,n,rfl,s,C,rfl⟩;refine du (L':=[qg z o,oP a p.σ.x.s p.r.s,bK g c o.pr]++([x.wE,x.pE]++(gE d e::hE (.chan none) f j::(bQ S X A++(b.all++(a8 q (p.m.bt o.pr).1 n++E)))))) (by rw[l6];exact cx) (cF _ _ ?_);refine av [kT ((p.m.bt o.pr).2.1) ((p.m.bt o.pr).2.1) rfl,kT ((p.m.bt o.pr).2.2) ((p.m.bt o.pr).2.2) rfl] (ey [0,1,2] (bE ?_));refine cM ([x.wE,x.pE]++(gE d e::hE (.chan none) f j::(bQ S X A++(b.all++(a8 q (p.m.bt o.pr).1 n++E))))) ?_;have r:PR.Ok ⟨b,(p.m.bt o.pr).1,q,n⟩:=⟨Xw m.m _,y,s⟩;have t:goes ⟨b,(p.m.bt o.pr).1,q,n⟩=goes p:=by unfold goes;rw[ap3]
 refine du (L':=(x.put i ⟨b,(p.m.bt o.pr).1,q,n⟩ d e f j).all S X A) (bl.exact ?_) (ez [.bool true] _ (aCh x V W _ d e f j r λk h=>by rw[t,w,h]));rw[aCg x W v C,u];unfold PR.es;simp only[nN,pB,qk]
 ac_rfl
omit Q in
theorem aEE (l:o.kind=9):stG S X A x o p:=by
 intro u t z m;have b:=V.ps p (List.mem_of_getElem? W);generalize n:(x.ps.eraseIdx i).flatMap PR.es=E;have s:bl.of (x.ps.flatMap PR.es)=(bl.of p.σ.all).add ((bl.of (a8 p.r p.m p.qs)).add (bl.of E)):=by
  rw[aBF W,n];unfold PR.es;simp only[nN]
  ac_rfl
 refine av [2,ie o.kind 2,ie o.kind 3,ie o.kind 4,ie o.kind 5,ie o.kind 6,ie o.kind 7,ie o.kind 8,kT o.kind 9 l,3] (cM ((uH x o p z m)++([gE x.a x.b,hE (.chan none) x.c x.d]++(bQ S X A++x.ps.flatMap PR.es))) ?_);have j:∃k,live x.ps=k+goes p:=aDR W;have g:p.m.fE=false→∃w,x.a.v=.iface 3 w:=λh=>by
  obtain⟨k,l⟩:=j;rw[V.a,l];unfold goes;rw[h];exact⟨_,rfl⟩
 refine im (gE x.a x.b::p.σ.all) ((uH x o p z m)++(hE (.chan none) x.c x.d::(bQ S X A++(a8 p.r p.m p.qs++E)))) (O4 b.m b.s x.a x.b g) (by(apply bl.exact;simp only[nN,pB,qk,tA,s];try ac_rfl)) ?_;rintro _ _ ⟨c,a,d,rfl,r,q,e,rfl⟩;refine du (L':=[qg z o,oP m p.σ.x.s p.r.s,p.r.en p.m]++([x.wE,x.pE]++(uT S X A x a d (c.all++(([p.r.sE p.m,p.r.cE,p.r.mE p.m,p.r.lE,p.r.eE p.m]++(p.r.ch.flatMap a7.es++(p.qs.zip p.m.be).flatMap RC.es))++E))))) (by unfold a8 m5;exact cx) (cF _ _ ?_);refine av [1,2] (ey [0,1] (bE ?_));refine cM ([p.r.en {p.m with fE:=true}]++([x.wE,x.pE]++(uT S X A x a d (c.all++(([p.r.sE p.m,p.r.cE,p.r.mE p.m,p.r.lE,p.r.eE p.m]++(p.r.ch.flatMap a7.es++(p.qs.zip p.m.be).flatMap RC.es))++E))))) ?_;have f:PR.Ok ⟨c,{p.m with fE:=true},p.r,p.qs⟩:=⟨aDh b.m,r,⟨b.r.ch.same rfl rfl,b.r.cl,b.r.cn⟩⟩;refine du (L':=(x.put i ⟨c,{p.m with fE:=true},p.r,p.qs⟩ a d x.c x.d).all S X A) (bl.exact ?_) (ez [.bool true] _ (aCh x V W _ a d x.c x.d f λk h=>?_))
 ·rw[aCg x W (p':=⟨c,{p.m with fE:=true},p.r,p.qs⟩) q rfl,n]
  show _=(bl.of [x.wE,x.pE]).add ((bl.of [gE a d,hE (.chan none) x.c x.d]).add ((bl.of (bQ S X A)).add ((bl.of (c.all++([p.r.en {p.m with fE:=true},p.r.sE p.m,p.r.cE,p.r.mE p.m,p.r.lE,p.r.eE p.m]++(p.r.ch.flatMap a7.es++(p.qs.zip p.m.be).flatMap RC.es)))).add (bl.of E))));simp only[nN,pB,qk]
  ac_rfl
 ·show a.v=vB k
  cases aF:p.m.fE with
  |true=>
   rw[aF,if_pos rfl]at e;rw[e,h];unfold goes;rw[aF];rfl
  |false=>
   rw[aF,if_neg aT]at e;have:goes p=1:=by unfold goes;rw[aF];rfl
   rw[this,e]at h;simp only[vB,Value.iface.injEq,true_and]at h;exact h
omit Q W in
theorem aEA (hk:∀k:Nat,k<10→1<k→o.kind≠k):stG S X A x o p:=by
 intro c b z a;refine du (L':=(uI o p z a)++([x.wE,x.pE]++(uT S X A x x.a x.b (x.ps.flatMap PR.es)))) cx (cF _ _ ?_);refine av [0,ie o.kind 2 (hk 2 aT aT),ie o.kind 3 (hk 3 aT aT),ie o.kind 4 (hk 4 aT aT),ie o.kind 5 (hk 5 aT aT),ie o.kind 6 (hk 6 aT aT),ie o.kind 7 (hk 7 aT aT),ie o.kind 8 (hk 8 aT aT),ie o.kind 9 (hk 9 aT aT)] (ey [0,1] (bE ?_));refine cM ([x.wE,x.pE]++(uT S X A x x.a x.b (x.ps.flatMap PR.es))) ?_;exact ez [.bool true] _ ⟨x,rfl,V,rfl,Nat.le_succ _,rfl⟩
omit Q in
theorem aEw (hk:o.kind=5):stG S X A x o p:=by
 intro g f z a;have b:=V.ps p (List.mem_of_getElem? W);generalize d:(x.ps.eraseIdx i).flatMap PR.es=E;have e:bl.of (x.ps.flatMap PR.es)=(bl.of p.σ.all).add ((bl.of (a8 p.r p.m p.qs)).add (bl.of E)):=by
  rw[aBF W,d];unfold PR.es;simp only[nN]
  ac_rfl
 refine av [2,ie o.kind 2,ie o.kind 3,ie o.kind 4,kT o.kind 5 hk,3,3] (cM ((uH x o p z a)++([gE x.a x.b,hE (.chan none) x.c x.d]++(bQ S X A++x.ps.flatMap PR.es))) ?_);have c:bl.of (x.ps.flatMap PR.es)=(bl.of ([(p.σ.x.bf 0).en,p.σ.x.eE,p.r.en p.m,p.r.eE p.m])).add ((bl.of ([p.σ.x.uE (p.σ.u.by p.σ.k0),p.σ.k0.wE p.σ.a0 p.σ.b0,dE p.σ.k0.d p.σ.x.s p.σ.n p.σ.st p.σ.ad p.σ.bd,p.σ.x.sE,p.σ.x.cE,p.σ.x.lE,p.σ.x.mE p.σ.ms p.σ.km,p.r.sE p.m,p.r.cE,p.r.mE p.m,p.r.lE]++(p.σ.je++(p.r.ch.flatMap a7.es++(p.qs.zip p.m.be).flatMap RC.es)))).add (bl.of E)):=by
  rw[e];unfold Sg.all Sg.top a8 m5 Sg.je;simp only[nN,pB,qk]
  ac_rfl
 refine im ([(p.σ.x.bf 0).en,p.σ.x.eE,p.r.en p.m,p.r.eE p.m]) ((uH x o p z a)++(uT S X A x x.a x.b ([p.σ.x.uE (p.σ.u.by p.σ.k0),p.σ.k0.wE p.σ.a0 p.σ.b0,dE p.σ.k0.d p.σ.x.s p.σ.n p.σ.st p.σ.ad p.σ.bd,p.σ.x.sE,p.σ.x.cE,p.σ.x.lE,p.σ.x.mE p.σ.ms p.σ.km,p.r.sE p.m,p.r.cE,p.r.mE p.m,p.r.lE]++(p.σ.je++(p.r.ch.flatMap a7.es++(p.qs.zip p.m.be).flatMap RC.es))++E))) (aDL p.σ.x p.r p.m b.s.ev (by have:=b.m.Gb.1;omega)) (by(apply bl.exact;simp only[nN,pB,qk,tA,c];try ac_rfl)) ?_;rintro _ _ ⟨rfl,rfl⟩;refine du (L':=(uI o p z a)++([x.wE,x.pE]++(uT S X A x x.a x.b (x.ps.flatMap PR.es)))) (by(apply bl.exact;simp only[nN,pB,qk,tA,c];try ac_rfl)) (cF _ _ ?_);refine av [] (ey [0,1] (bE ?_));refine cM ([x.wE,x.pE]++(uT S X A x x.a x.b (x.ps.flatMap PR.es))) ?_;exact ez [.bool true] _ ⟨x,rfl,V,rfl,Nat.le_succ _,rfl⟩
omit Q in
theorem aED (hk:o.kind=7):stG S X A x o p:=by
 intro g f z b;have a:=V.ps p (List.mem_of_getElem? W);generalize d:(x.ps.eraseIdx i).flatMap PR.es=E;have e:bl.of (x.ps.flatMap PR.es)=(bl.of p.σ.all).add ((bl.of (a8 p.r p.m p.qs)).add (bl.of E)):=by
  rw[aBF W,d];unfold PR.es;simp only[nN]
  ac_rfl
 refine av [2,ie o.kind 2,ie o.kind 3,ie o.kind 4,ie o.kind 5,ie o.kind 6,kT o.kind 7 hk,3,3] (cM ((uH x o p z b)++([gE x.a x.b,hE (.chan none) x.c x.d]++(bQ S X A++x.ps.flatMap PR.es))) ?_);have c:bl.of (x.ps.flatMap PR.es)=(bl.of ([(p.σ.x.bf 0).en,p.σ.x.sE,p.r.en p.m,p.r.sE p.m])).add ((bl.of ([p.σ.x.uE (p.σ.u.by p.σ.k0),p.σ.k0.wE p.σ.a0 p.σ.b0,dE p.σ.k0.d p.σ.x.s p.σ.n p.σ.st p.σ.ad p.σ.bd,p.σ.x.eE,p.σ.x.cE,p.σ.x.lE,p.σ.x.mE p.σ.ms p.σ.km,p.r.cE,p.r.mE p.m,p.r.lE,p.r.eE p.m]++(p.σ.je++(p.r.ch.flatMap a7.es++(p.qs.zip p.m.be).flatMap RC.es)))).add (bl.of E)):=by
  rw[e];unfold Sg.all Sg.top a8 m5 Sg.je;simp only[nN,pB,qk]
  ac_rfl
 refine im ([(p.σ.x.bf 0).en,p.σ.x.sE,p.r.en p.m,p.r.sE p.m]) ((uH x o p z b)++(uT S X A x x.a x.b ([p.σ.x.uE (p.σ.u.by p.σ.k0),p.σ.k0.wE p.σ.a0 p.σ.b0,dE p.σ.k0.d p.σ.x.s p.σ.n p.σ.st p.σ.ad p.σ.bd,p.σ.x.eE,p.σ.x.cE,p.σ.x.lE,p.σ.x.mE p.σ.ms p.σ.km,p.r.cE,p.r.mE p.m,p.r.lE,p.r.eE p.m]++(p.σ.je++(p.r.ch.flatMap a7.es++(p.qs.zip p.m.be).flatMap RC.es))++E))) (aDP p.σ.x p.r p.m (by rw[a.s.si];exact ada _ a.m.si) a.s.ck (by have:=a.m.s;omega)) (by(apply bl.exact;simp only[nN,pB,qk,tA,c];try ac_rfl)) ?_;rintro _ _ ⟨rfl,rfl⟩;refine du (L':=(uI o p z b)++([x.wE,x.pE]++(uT S X A x x.a x.b (x.ps.flatMap PR.es)))) (by(apply bl.exact;simp only[nN,pB,qk,tA,c];try ac_rfl)) (cF _ _ ?_);refine av [] (ey [0,1] (bE ?_));refine cM ([x.wE,x.pE]++(uT S X A x x.a x.b (x.ps.flatMap PR.es))) ?_;exact ez [.bool true] _ ⟨x,rfl,V,rfl,Nat.le_succ _,rfl⟩
omit Q in
theorem step_marks (hk:o.kind=8):stG S X A x o p:=by
 intro k j z c;have a:=V.ps p (List.mem_of_getElem? W);generalize e:(x.ps.eraseIdx i).flatMap PR.es=E;have h:bl.of (x.ps.flatMap PR.es)=(bl.of p.σ.all).add ((bl.of (a8 p.r p.m p.qs)).add (bl.of E)):=by
  rw[aBF W,e];unfold PR.es;simp only[nN]
  ac_rfl
 have b:p.σ.x.ch.length=p.m.aM.length:=by
  have:=congrArg List.length a.s.vs;simp only[List.length_map]at this;rw[a.s.ch,List.length_map,this]
 have l:=a.m.k;have g:=a.m.ml;have f:pU p.σ.ms p.σ.x.ch.length=KY p.m.marks p.m.marks.length:=by rw[b,←g];exact aa6 a.s.mm _ (Nat.le_refl _)
 refine av [2,ie o.kind 2,ie o.kind 3,ie o.kind 4,ie o.kind 5,ie o.kind 6,ie o.kind 7,kT o.kind 8 hk,3,3] (cM ((uH x o p z c)++([gE x.a x.b,hE (.chan none) x.c x.d]++(bQ S X A++x.ps.flatMap PR.es))) ?_);have d:bl.of (x.ps.flatMap PR.es)=(bl.of ([(p.σ.x.bf 0).en,p.σ.x.mE p.σ.ms p.σ.km,p.r.en p.m,p.r.mE p.m])).add ((bl.of ([p.σ.x.uE (p.σ.u.by p.σ.k0),p.σ.k0.wE p.σ.a0 p.σ.b0,dE p.σ.k0.d p.σ.x.s p.σ.n p.σ.st p.σ.ad p.σ.bd,p.σ.x.eE,p.σ.x.sE,p.σ.x.cE,p.σ.x.lE,p.r.sE p.m,p.r.cE,p.r.lE,p.r.eE p.m]++(p.σ.je++(p.r.ch.flatMap a7.es++(p.qs.zip p.m.be).flatMap RC.es)))).add (bl.of E)):=by
  rw[h];unfold Sg.all Sg.top a8 m5 Sg.je;simp only[nN,pB,qk]
  ac_rfl
 refine im ([(p.σ.x.bf 0).en,p.σ.x.mE p.σ.ms p.σ.km,p.r.en p.m,p.r.mE p.m]) ((uH x o p z c)++(uT S X A x x.a x.b ([p.σ.x.uE (p.σ.u.by p.σ.k0),p.σ.k0.wE p.σ.a0 p.σ.b0,dE p.σ.k0.d p.σ.x.s p.σ.n p.σ.st p.σ.ad p.σ.bd,p.σ.x.eE,p.σ.x.sE,p.σ.x.cE,p.σ.x.lE,p.r.sE p.m,p.r.cE,p.r.lE,p.r.eE p.m]++(p.σ.je++(p.r.ch.flatMap a7.es++(p.qs.zip p.m.be).flatMap RC.es))++E))) (aDQ p.σ.x p.σ.ms p.σ.km p.r p.m f ah ah) (by(apply bl.exact;simp only[nN,pB,qk,tA,d];try ac_rfl)) ?_;rintro _ _ ⟨rfl,rfl⟩;refine du (L':=(uI o p z c)++([x.wE,x.pE]++(uT S X A x x.a x.b (x.ps.flatMap PR.es)))) (by(apply bl.exact;simp only[nN,pB,qk,tA,d];try ac_rfl)) (cF _ _ ?_);refine av [] (ey [0,1] (bE ?_));refine cM ([x.wE,x.pE]++(uT S X A x x.a x.b (x.ps.flatMap PR.es))) ?_;exact ez [.bool true] _ ⟨x,rfl,V,rfl,Nat.le_succ _,rfl⟩
end
section
variable {S:Hp}{V:ae Nat}{A:Nat->aU}(x:WS)(X:x.Ok)(o:iY)(T:o.Ok S V){i:Nat}{p:PR}(W:x.ps[i]?=Z p)
include X W T
omit X W in
theorem aDM(cy:p.Ok):∃L0 Lr,bl.of p.es=(bl.of L0).add (bl.of Lr)/\Fl Sv 19 [.agg #[pt p.σ.x.s,pt p.r.s],ai o.A,ai o.B].toArray L0 λv L=>v=.bool U/\L=L0:=by
 have bx:p.σ.cd.length=p.m.aM.length:=by have:=congrArg List.length cy.s.vs;simpa using this
 have Tp:p.σ.x.ch.length=p.m.aM.length:=by rw[cy.s.ch,jM,bx]
 have hrc:=cy.r.ch.len;by_cases hk:o.A<0\/(p.m.aM.length:Int)<=o.A
 ·refine⟨[(p.σ.x.bf 0).en,p.r.en p.m],[p.σ.x.uE (p.σ.u.by p.σ.k0),p.σ.k0.wE p.σ.a0 p.σ.b0,dE p.σ.k0.d p.σ.x.s p.σ.n p.σ.st p.σ.ad p.σ.bd,p.σ.x.eE,p.σ.x.sE,p.σ.x.cE,p.σ.x.lE,p.σ.x.mE p.σ.ms p.σ.km,p.r.sE p.m,p.r.cE,p.r.mE p.m,p.r.lE,p.r.eE p.m]++(p.σ.je++(p.r.ch.flatMap a7.es++(p.qs.zip p.m.be).flatMap RC.es)),?_,aDO p.σ.x p.r p.m o.A o.B T.B (aEN p.σ.x o.A (by rw[Tp];exact hk)) (by rw[hrc];exact hk)⟩
  unfold PR.es Sg.all Sg.top a8 m5 Sg.je;simp only[nN,pB,qk]
  ac_rfl
 ·obtain⟨k,dV⟩:∃k:Nat,o.A=k:=⟨o.A.toNat,by omega⟩
  rw[dV];have dJ:k<p.m.aM.length:=by omega
  obtain⟨l,hl⟩:∃l,p.m.aM[k]?=Z l:=⟨_,eI dJ⟩;obtain⟨C,hC⟩:∃C,p.σ.cd[k]?=Z C:=⟨_,eI ah⟩;obtain⟨Cr,BC⟩:∃C,p.r.ch[k]?=Z C:=⟨_,eI ah⟩;have HL:C.vs=l.reverse:=by
   have h1:(p.σ.cd.map (·.vs))[k]?=Z C.vs:=by rw[fW,hC];rfl
   rw[cy.s.vs,fW,hl]at h1;exact(ee h1).symm
  have J':=cy.m.Gb.2 l (jZ hl);have hV:=azG p.σ.x C k (by rw[cy.s.ch,fW,hC];rfl) (by rw[HL,IH];omega);rw[HL,List.reverse_reverse,IH]at hV;refine⟨_,[p.σ.x.uE (p.σ.u.by p.σ.k0),p.σ.k0.wE p.σ.a0 p.σ.b0,dE p.σ.k0.d p.σ.x.s p.σ.n p.σ.st p.σ.ad p.σ.bd,p.σ.x.eE,p.σ.x.sE,p.σ.x.lE,p.σ.x.mE p.σ.ms p.σ.km,p.r.sE p.m,p.r.mE p.m,p.r.lE,p.r.eE p.m]++(p.σ.ux++((p.σ.cd.eraseIdx k).flatMap bV.es++(p.σ.cls.flatMap (PC.es p.σ.x)++((p.r.ch.eraseIdx k).flatMap a7.es++(p.qs.zip p.m.be).flatMap RC.es)))),?_,aDN p.σ.x p.r p.m [p.σ.x.cE,C.hd,C.rw] k o.B T.B l Cr hV (cy.r.ch.is k Cr l BC hl) BC ah⟩;have h1:=P' (EK bV.es _ _ _ hC);unfold PR.es Sg.all Sg.top a8 m5;simp only[nN,pB,qk,h1,aBt BC,bV.es]
  ac_rfl
theorem aEu (hk:o.kind=6):stG S V A x o p:=by
 intro g f z a;have cy:=X.ps p (List.mem_of_getElem? W);generalize d:(x.ps.eraseIdx i).flatMap PR.es=E;obtain⟨L0,Lr,c,e⟩:=aDM o T cy;have b:bl.of (x.ps.flatMap PR.es)=(bl.of L0).add ((bl.of Lr).add (bl.of E)):=by
  rw[aBF W,d,c]
  ac_rfl
 refine av [2,ie o.kind 2,ie o.kind 3,ie o.kind 4,ie o.kind 5,kT o.kind 6 hk,3,3,2,2] (cM ([x.wE,x.pE,qg z o,oP a p.σ.x.s p.r.s]++([gE x.a x.b,hE (.chan none) x.c x.d]++(bQ S V A++x.ps.flatMap PR.es))) ?_);refine im L0 ([x.wE,x.pE,qg z o,oP a p.σ.x.s p.r.s]++(gE x.a x.b::hE (.chan none) x.c x.d::(bQ S V A++(Lr++E)))) e (by(apply bl.exact;simp only[nN,pB,qk,tA,b];try ac_rfl)) ?_;rintro _ _ ⟨rfl,rfl⟩;refine du (L':=[qg z o,oP a p.σ.x.s p.r.s]++([x.wE,x.pE]++(gE x.a x.b::hE (.chan none) x.c x.d::(bQ S V A++x.ps.flatMap PR.es)))) (by(apply bl.exact;simp only[nN,pB,qk,tA,b];try ac_rfl)) (cF _ _ ?_);refine av [] (ey [0,1] (bE ?_));refine cM ([x.wE,x.pE]++(gE x.a x.b::hE (.chan none) x.c x.d::(bQ S V A++x.ps.flatMap PR.es))) ?_;exact ez [.bool true] _ ⟨x,rfl,X,rfl,Nat.le_succ _,rfl⟩
end
theorem aEz{S:Hp}{V:ae Nat}{A:Nat->aU}(b:rj S V A)(x:WS)(X:x.Ok)(o:iY)(T:o.Ok S V)(hl:x.ps.length<2305843009213):Fl Sv 6 [pt x.w,o.v].toArray (x.all S V A) (aB3 S V A x):=by
 by_cases h1:o.kind=1
 ·exact aEx x X o h1 hl
 rcases zG x.ps.length with a|a
 ·exact aEy x X o h1 a
 obtain⟨p,W⟩:∃p,x.ps[vh o.W x.ps.length]?=Z p:=⟨_,eI (Lf _ _ a)⟩;have r:stG S V A x o p:=by
  by_cases e:o.kind=2
  ·exact aEv b x X o W T e
  by_cases f:o.kind=3
  ·exact aEB b x X o W f
  by_cases g:o.kind=4
  ·exact aEF b x X o W g
  by_cases h:o.kind=5
  ·exact aEw x X o W h
  by_cases j:o.kind=6
  ·exact aEu x X o T W j
  by_cases m:o.kind=7
  ·exact aED x X o W m
  by_cases n:o.kind=8
  ·exact step_marks x X o W n
  by_cases q:o.kind=9
  ·exact aEE x X o W q
  refine aEA x X o λk u t hk=>?_;have:k=2\/k=3\/k=4\/k=5\/k=6\/k=7\/k=8\/k=9:=by omega
  rcases this with rfl|rfl|rfl|rfl|rfl|rfl|rfl|rfl<;>contradiction
 exact Fl.of 195 λd c=>aEC x o h1 a hl T.W p W λz s=>r d c z s
structure SP where
 σ:Sg
 m:Mo
structure SP.Ok(p:SP):Prop where
 m:p.m.Ok
 s:kM p.m p.σ
def SP.es(p:SP):ae En:=p.σ.all
def goS(p:SP):Nat:=if p.m.fE then 0 else 1
def aBE(a:ae SP):Nat:=(a.map goS).sum
theorem aCX:∀{ps:ae SP},(∀p∈ps,p.m.fE=U)->aBE ps=0
 |[],_=>rfl
 |p::ps,h=>by
  have a:=aCX (ps:=ps) λq c=>h q (eK _ c);have b:=h p (eX ..);unfold aBE at a⊢;rw[fw,aBv,a];unfold goS;rw[b];rfl
theorem aDe{ps:ae SP}{i:Nat}{p:SP}(h:ps[i]?=Z p):bl.of (ps.flatMap SP.es)=(bl.of p.σ.all).add (bl.of ((ps.eraseIdx i).flatMap SP.es)):=P' (EK SP.es _ _ _ h)
theorem aEs{a:ae SP}{i:Nat}{p b:SP}(h:a[i]?=Z p):bl.of ((a.set i b).flatMap SP.es)=(bl.of b.σ.all).add (bl.of ((a.eraseIdx i).flatMap SP.es)):=by
 have c:=(dq.1 h).1;have:=aDe (ps:=a.set i b) (i:=i) (p:=b) (by rw[zD c]);rw[this,aBO]
theorem aEG{m:Mo}{n k:Nat}{a d:Gc}(b:if m.fE then d.v=a.v else a.v=.iface 3 d.v)(h:a.v=vB n)(c:n=k+(if m.fE then 0 else 1)):d.v=vB k:=by
 cases aF:m.fE with
 |true=>
  rw[aF,if_pos F]at b c;rw[b,h,c];rfl
 |false=>
  rw[aF,if_neg aT]at b c;rw[c,b]at h;simp only[vB,Value.iface.injEq,true_and]at h;exact h
theorem aEH{m:Mo}{n k:Nat}{a:Gc}(h:a.v=vB n)(b:n=k+(if m.fE then 0 else 1)):m.fE=Y->∃w,a.v=.iface 3 w:=λc=>by
 rw[h,b,c];exact⟨_,F⟩
abbrev wsE(w:Nat)(g:aj Nat)(n a:Nat):En:=.ob w (.cells #[sv g n a] 32)
theorem aEI (w:Nat) (g:Option Nat) (cap:Nat) (xs:List Value) (ss:List SP) (a:Gc) (b:Nat) (hs:∀p∈ss,p.Ok) (r:a.v=vB (aBE ss)) (u:∀(j:Nat)(p:SP),ss[j]?=some p→xs[j*2]?=some (pt p.σ.x.s)) (hl:ss.length<2305843009213):Fl Sv 7 [pt w].toArray ([wsE w g ss.length cap,.row 41 2 g ss.length cap xs]++(gE a b::ss.flatMap SP.es)) λv L=>v=.tuple #[]∧∃f h,f.v=goInt 0∧L=[gE f h]:=by
 refine ae7 (R:=λv L=>v=.tuple #[]∧∃(f:Gc)(h:Nat)(o:List SP),f.v=goInt 0∧L=[wsE w g ss.length cap,.row 41 2 g ss.length cap xs]++(gE f h::o.flatMap SP.es)) ?_ ?_
 rotate_left
 ·rintro v _ ⟨rfl,f,h,o,O,rfl⟩
  exact⟨[wsE w g ss.length cap,.row 41 2 g ss.length cap xs]++o.flatMap SP.es,_,⟨rfl,f,h,O,rfl⟩,by exact cx⟩
 generalize T:ss.length=n at*;refine Fl.of 21 λcs L2=>av [.g,.x] ?_;refine ji (ι:=Nat×List SP×Gc×Nat) (λi=>n-i.1) (λi=>[(0,pt w),(2,goInt i.1)]) (λi=>[wsE w g n cap,.row 41 2 g n cap xs]++(gE i.2.2.1 i.2.2.2::i.2.1.flatMap SP.es)) (λi=>i.1≤n∧i.2.1.length=n∧(∀p∈i.2.1,p.Ok)∧i.2.2.1.v=vB (aBE i.2.1)∧(∀(j:Nat)(p:SP),i.2.1[j]?=some p→xs[j*2]?=some (pt p.σ.x.s))∧∀j p,j<i.1→i.2.1[j]?=some p→p.m.fE=true) (0,ss,a,b) ⟨Nat.zero_le _,T,hs,r,u,λj p s=>absurd s (Nat.not_lt_zero _)⟩ ?_;rintro⟨i,d,a,b⟩ ⟨S,D,A,r,u,y⟩ J;simp only at S D A r u y J;by_cases aC:i<n
 ·obtain⟨p,m⟩:∃p,d[i]?=some p:=⟨_,List.getElem?_eq_getElem ah⟩
  have z:=A p (List.mem_of_getElem? m);have X:=PT goS d i p p m;have t:∃k,aBE d=k+goS p:=by
   refine⟨((d.eraseIdx i).map goS).sum,?_⟩;have e:d.Perm (p::d.eraseIdx i):=by
    have:=EK (λq:SP=>[q]) d i p m;simpa using this
   have:=(e.map goS).sum_nat;simp only[List.map_cons,List.sum_cons]at this;unfold aBE;omega
  obtain⟨k,t⟩:=t;generalize C:(d.eraseIdx i).flatMap SP.es=E;have K:=aDe m;rw[C]at K;have H:=u i p m;refine lJ 1 g n cap ah λl Q _=>?_;subst Q;refine cF _ _ ?_;refine av [0,fu i n,0,iX 30 2 l cap aC,rr 1 H] (bE ?_);refine cM ([wsE w (some l) n cap,.row 41 2 (some l) n cap xs]++(gE a b::d.flatMap SP.es)) ?_;refine im (gE a b::p.σ.all) ([wsE w (some l) n cap,.row 41 2 (some l) n cap xs]++E) (O4 z.m z.s a b (aEH r t)) (by(apply bl.exact;simp only[nN,pB,qk,tA,K];try ac_rfl)) ?_;rintro _ _ ⟨x,f,h,rfl,W,M,N,rfl⟩;refine du (L':=[wsE w (some l) n cap,.row 41 2 (some l) n cap xs]++(gE f h::(d.set i ⟨x,{p.m with fE:=true}⟩).flatMap SP.es)) (by
   apply bl.exact;simp only[nN,pB,qk,aEs m,C]
   ac_rfl) ?_
  have B:=J (i+1,d.set i ⟨x,{p.m with fE:=true}⟩,f,h) (by simp only;omega) ⟨aC,by simp only[List.length_set];exact D,?_,?_,?_,?_⟩
  ·refine cF _ _ (av [aS i,.g,.x] (bE ?_))
   exact cq B
  ·intro q c
   rcases List.mem_or_eq_of_mem_set c with c|rfl
   ·exact A q c
   ·exact⟨aDh z.m,W⟩
  ·simp only
   have P:aBE (d.set i ⟨x,{p.m with fE:=true}⟩)=k:=by
    have:=PT goS d i p ⟨x,{p.m with fE:=true}⟩ m;have G:goS ⟨x,{p.m with fE:=true}⟩=0:=rfl;unfold aBE at t⊢;omega
   rw[P];exact aEG N r t
  ·intro j q c
   simp only at c;by_cases e:i=j
   ·subst e
    rw[List.getElem?_set_self ah]at c;cases c;rw[H,M]
   ·rw[List.getElem?_set_ne e]at c
    exact u j q c
  ·intro j q s c
   simp only at s c;by_cases e:i=j
   ·subst e
    rw[List.getElem?_set_self ah]at c;cases c;rfl
   ·rw[List.getElem?_set_ne e]at c
    exact y j q ah c
 ·have V:i=n:=by omega
  subst V;refine cF _ _ (av [0,gi i i] (bE ?_));refine ez [] _ ⟨rfl,a,b,d,?_,rfl⟩;have G:=aCX (ps:=d) λq c=>by
   obtain⟨j,s⟩:=List.getElem?_of_mem c;exact y j q (by have:=(List.getElem?_eq_some_iff.1 s).1;omega) s
  rw[r,G];rfl
def FM(t:aK)(p:ag):Sem Next:=tB (uG t p) λv=>.pure (.value v)
def iY.cells(o:iY):ae ag:=[ai o.kind,ai o.W,ai o.A,ai o.B,ai o.C,o.P]
def F8(b:af ag)(a:Nat)(c:ae iY):Prop:=∀i o,c[i]?=Z o->∀j u,o.cells[j]?=Z u->b.toList[a+i*6+j]?=Z u
structure zQ(S:Hp)(ex:ae Nat)(M:ae En)(ad:aj aU)(os:ae iY):Prop where
 ld:∃b off,(0<os.length->ad=Z ⟨b,off,I⟩)/\(∀i o,os[i]?=Z o->∀L2 R0,lU Sv L2 (M++(.ro S ex::R0)) (FM 28 (.pointer (Z ⟨b,off+i*6,I⟩))) λu L'=>u=o.v/\L'=M++(.ro S ex::R0))/\
  (∀i o,os[i]?=Z o->∀L2 R0,lU Sv L2 (M++(.ro S ex::R0)) (FM 3 (.pointer (Z ⟨b,off+i*6,I⟩))) λu L'=>u=ai o.kind/\L'=M++(.ro S ex::R0))/\
  (M=[]->0<os.length->∃oo ty fz,S[b]?=Z (.cells oo ty fz)/\F8 oo off os/\b∉ex/\b≠8/\b≠10)
 ok:∀o∈os,o.Ok S ex
 len:os.length<=2199023255552
theorem auK{S:Hp}{c:List Nat}{b a:Nat}{d:Array Value}{g:TypeId}{e:Nat×Nat}{f:List iY}(k:S[b]?=some (.cells d g e))(n:b∉c)(j:b≠8)(p:b≠10)(m:F8 d a f)(t:∀o∈f,o.Ok S c)(q:f.length≤2199023255552):zQ S c [] (some ⟨b,a,none⟩) f:=⟨⟨b,a,λ_=>rfl,λi o l r s=>by
                                                                                                                                                                                                                                have h:=m i o l;refine Lm 0 S c b (.cells d g e) _ o.v [rr 0 (h 0 _ rfl),rr 0 (h 1 _ rfl),rr 0 (h 2 _ rfl),rr 0 (h 3 _ rfl),rr 0 (h 4 _ rfl),rr 0 (h 5 _ rfl)] k j p n,λi o l r s=>by
                                                                                                                                                                                                                                have h:=m i o l;refine Lm 0 S c b (.cells d g e) _ (goInt o.kind) [rr 0 (h 0 _ rfl)] k j p n,λ_ _=>⟨d,g,e,k,m,n,j,p⟩⟩,t,q⟩
theorem auJ{S:Hp}{c:ae Nat}(b:aj aU):zQ S c [] b []:=⟨⟨0,0,λh=>absurd h ba,λi o a=>by simp at a,λi o a=>by simp at a,λ_ h=>absurd h ba⟩,λo a=>by simp at a,by simp⟩
def upR(S:Hp)(e:ae Nat)(A:Nat->aU)(M:ae En)(v:ag)(L:ae En):Prop:=v=ai (-1)/\∃(a:Gc)(b c d:Nat),a.v=ai 0/\L=M++(.ro S e::(nR A++[gE a b,hE (.chan I) c d]))
theorem zK{P:aD}{X:Cx}{a:ae aJ}{c:ae cz}{b:Env}{L:ae En}:∀(G:ae En),Rs P X a c b L->Rs P X a c b (G++L)
 |[],h=>h
 |_::G,h=>Bf (zK G h)
def PR.sp(p:PR):SP:=⟨p.σ,p.m⟩
def PR.rf(p:PR):ae En:=a8 p.r p.m p.qs
theorem aC1:∀a:ae PR,bl.of (a.flatMap PR.es)=(bl.of ((a.map PR.sp).flatMap SP.es)).add (bl.of (a.flatMap PR.rf))
 |[]=>rfl
 |p::a=>by
  have b:=aC1 a;show bl.of ((p.σ.all++a8 p.r p.m p.qs)++a.flatMap PR.es)=(bl.of (p.σ.all++(a.map PR.sp).flatMap SP.es)).add (bl.of (a8 p.r p.m p.qs++a.flatMap PR.rf));simp only[nN,b]
  ac_rfl
theorem aEM {S:Hp} {ex:List Nat} {A:Nat→Addr} (hA:rj S ex A) (M:List En) (ad:Option Addr) (os:List iY) (cap:Nat) (hs:zQ S ex M ad os) (a:Gc) (b c d:Nat) (ha:a.v=goInt 0):Fl Sv 5 [.slice ad os.length cap].toArray (M++(.ro S ex::(nR A++[gE a b,hE (.chan none) c d]))) (upR S ex A M):=by
 obtain⟨⟨Q,n,v,z,_⟩,B,r⟩:=hs;refine Fl.of 31 λT R=>?_;refine du (L':=[]++(M++(.ro S ex::(nR A++[gE a b,hE (.chan none) c d])))) (.refl _) (cF _ _ ?_);refine di (λ_=>[.g,.x]) λw=>pC 41 2 (bE ?_);refine cM ([wsE w none 0 0,.row 41 2 none 0 0 []]++(M++(.ro S ex::(nR A++[gE a b,hE (.chan none) c d])))) ?_;refine du (L':=M++(.ro S ex::([wsE w none 0 0,.row 41 2 none 0 0 []]++(gE a b::hE (.chan none) c d::(nR A++[]))))) cx ?_;refine ji (ι:=Nat×WS) (λi=>os.length-i.1) (λi=>[(0,.slice ad os.length cap),(3,pt w),(4,goInt (-1)),(5,goInt i.1)]) (λi=>M++(.ro S ex::([i.2.wE,i.2.pE]++(gE i.2.a i.2.b::hE (.chan none) i.2.c i.2.d::(nR A++i.2.ps.flatMap PR.es))))) (λi=>i.1≤os.length∧i.2.Ok∧i.2.w=w∧i.2.ps.length≤i.1) (0,⟨w,none,0,[],a,b,c,d⟩) ⟨Nat.zero_le _,⟨λp f=>by simp at f,ha⟩,rfl,Nat.le_refl _⟩ ?_;rintro⟨i,x⟩ ⟨J,g,t,K⟩ u;simp only at J g t K u;subst t;by_cases aC:i<os.length
 ·obtain⟨o,s⟩:∃o,os[i]?=some o:=⟨_,List.getElem?_eq_getElem aC⟩
  have P:=B o (List.mem_of_getElem? s);have y:=v ah;subst y;have m:∀e:WS,e.Ok→e.w=x.w→e.ps.length≤i+1→Rs Sv _ _ _ _ _:=λe E G H=>u (i+1,e) (by simp only;omega) ⟨aC,E,G,H⟩;refine av [fu i os.length,fu i 1152921504606846976,xr 22 6 Q n cap aC] ?_;refine cM (M++(.ro S ex::([x.wE,x.pE]++(gE x.a x.b::hE (.chan none) x.c x.d::(nR A++x.ps.flatMap PR.es))))) (kr (z i o s _ _) ?_);rintro _ _ ⟨rfl,rfl⟩;refine av [] (cM (M++(.ro S ex::([x.wE,x.pE]++(gE x.a x.b::hE (.chan none) x.c x.d::(nR A++x.ps.flatMap PR.es))))) ?_);refine im (x.all S ex A) M (aEz hA x g o P ah) (by unfold WS.all;rw[l6];exact cx) ?_;rintro _ _ ⟨e,rfl,C,O,V,rfl⟩;refine du (L':=M++(.ro S ex::([e.wE,e.pE]++(gE e.a e.b::hE (.chan none) e.c e.d::(nR A++e.ps.flatMap PR.es))))) (by unfold WS.all;rw[l6];exact cx) ?_;refine av [aS i,.g,.x] ?_;exact cq (m e C O ah)
 ·have L:i=os.length:=by omega
  subst L;refine av [gi os.length os.length] (cM (M++(.ro S ex::([x.wE,x.pE]++(gE x.a x.b::hE (.chan none) x.c x.d::(nR A++x.ps.flatMap PR.es))))) ?_);have N:=aC1 x.ps;refine im ([wsE x.w x.g (x.ps.map PR.sp).length x.cap,.row 41 2 x.g (x.ps.map PR.sp).length x.cap (x.ps.flatMap PR.cells)]++(gE x.a x.b::(x.ps.map PR.sp).flatMap SP.es)) (M++(.ro S ex::(hE (.chan none) x.c x.d::(nR A++x.ps.flatMap PR.rf)))) (aEI x.w x.g x.cap (x.ps.flatMap PR.cells) (x.ps.map PR.sp) x.a x.b ?_ ?_ ?_ ?_) ?_ ?_
  ·intro p f
   obtain⟨q,h,rfl⟩:=List.mem_map.1 f;exact⟨(g.ps q h).m,(g.ps q h).s⟩
  ·rw[g.a]
   unfold live aBE;rw[List.map_map];rfl
  ·intro j p f
   rw[List.getElem?_map]at f;obtain⟨q,h,rfl⟩:=Option.map_eq_some_iff.1 f;exact gW PR.len x.ps j 0 q aT h
  ·rw[List.length_map]
   omega
  ·rw[List.length_map]
   rw[show x.wE=wsE x.w x.g x.ps.length x.cap from rfl,show x.pE=.row 41 2 x.g x.ps.length x.cap (x.ps.flatMap PR.cells)from rfl]
   (apply bl.exact;simp only[nN,pB,qk,tA,N];try ac_rfl)
  rintro _ _ ⟨rfl,k,l,D,rfl⟩;refine du (L':=x.ps.flatMap PR.rf++(M++(.ro S ex::(nR A++[gE k l,hE (.chan none) x.c x.d])))) cx ?_;refine av [] (cM (x.ps.flatMap PR.rf++(M++(.ro S ex::(nR A++[gE k l,hE (.chan none) x.c x.d])))) (zK _ ?_));exact ez [goInt (-1)] _ ⟨rfl,k,l,x.c,x.d,D,rfl⟩
def KS(S:Hp)(X:ae Nat)(A:Nat->aU)(v:ag)(L:ae En):Prop:=v=.bool U/\∃(e:Gc)(f g h:Nat),e.v=ai 0/\L=.ro S X::(nR A++[gE e f,hE (.chan I) g h])
abbrev lN(S:Hp)(X:ae Nat)(A:Nat->aU)(a:Gc)(b c d:Nat):ae En:=.ro S X::(nR A++[gE a b,hE (.chan I) c d])
section
variable {S:Hp}{X:ae Nat}{A:Nat->aU}(T:rj S X A)(V:aj aU)(P:ae iY)(W:Nat)(Q:zQ S X [] V P)(a:Gc)(b c d:Nat)(R:a.v=ai 0)
include T Q R
theorem aDK(k):Fl Sv 4 [.slice V P.length W,ai k].toArray (lN S X A a b c d) (KS S X A):=by
 refine Fl.of 25 λl j=>av [] (lW [] _ (aEM T _ _ _ W Q a b c d R) ?_);rintro _ _ ⟨rfl,e,f,g,h,i,rfl⟩;exact av [fu (-1) 0 aT] (ez [.bool U] _ ⟨F,e,f,g,h,i,F⟩)
theorem aDJ:Fl Sv 3 [.slice V P.length W].toArray (lN S X A a b c d) (KS S X A):=by
 refine Fl.of 5 λk j=>av [] (lW [] _ (aDK T _ _ W Q a b c d R 4) ?_);rintro _ _ ⟨rfl,e,f,g,h,i,rfl⟩;exact av [] (ez [.bool U] _ ⟨F,e,f,g,h,i,F⟩)
end
end
end Go.Proofs.YtgahemdblfapeabGreatDoor
