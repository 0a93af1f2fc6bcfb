/- The given card of mvstore/mvstorelaw.Unswept holds: unswept_card proves UnsweptCardSaid; no condition beyond those that the statement itself makes. -/
import Derived.Test.YtgahemdblfapeaaGreatDoorA04
import Derived.Test.YtgahemdblfapeaaGreatDoorA07
set_option maxRecDepth 100000
set_option maxHeartbeats 4000000
set_option linter.all false
namespace Go.Proofs.YtgahemdblfapeaaGreatDoor
open Go.Conc
open _root_.Array renaming getElem?_toList→w7
open _root_.Bool renaming false→Y,true→U
open Go renaming Addr→aR,Func→dF,FuncId→bA,TypeId→aJ,Value→ag,World→au,goInt→ah,runN→di,runNT→iz
open Go.Frame renaming enter→bG
open Go.Proofs.Tryz renaming prog→ak
open Go.World renaming cell?→fR,var?_cell→Af
open _root_.List renaming all_eq_true→BI,append_nil→xb,getElem?_cons_zero→tL,getElem?_eq_getElem→dq,getElem?_eq_some_iff→dv,length_eq_zero_iff→BK,length_map→iV,mem_append→Ad,mem_append_right→HA,mem_cons→bQ,mem_cons_of_mem→eK,mem_cons_self→fu,mem_map→ox,mem_map_of_mem→kV,mem_of_getElem?→lR,mem_singleton→yL,not_mem_nil→gk,pairwise_cons→nQ,range→oz
open _root_.Nat renaming eq_zero_or_pos→BM,le_of_ble_eq_true→yP,le_refl→df,le_trans→sK,zero_add→qn,zero_le→je
open _root_.Option renaming bind_eq_some_iff→m4,bind_some→vG,map_eq_some_iff→gV,map_some→iy,none→I,some→Z
open _root_.Option.some renaming inj→dQ,injEq→ij
open _root_.Prod.mk renaming injEq→fK
section
theorem Oa:Tryz.prog.underlying 22=Z (.slice 44):=av
theorem u42:Tryz.prog.underlying 42=Z (.slice 81):=av
theorem u3:Tryz.prog.underlying 3=Z (.int .i64):=av
theorem u9:Tryz.prog.underlying 9=Z .string:=av
def Wj:af Field:=#[{name:= "Kind",type:=3,offset:=0,embedded:=Y,tag:= "",pkgPath:= "",byteOffset:=0},{name:= "W",type:=3,offset:=1,embedded:=Y,tag:= "",pkgPath:= "",byteOffset:=8},{name:= "A",type:=3,offset:=2,embedded:=Y,tag:= "",pkgPath:= "",byteOffset:=16},{name:= "B",type:=3,offset:=3,embedded:=Y,tag:= "",pkgPath:= "",byteOffset:=24},{name:= "C",type:=3,offset:=4,embedded:=Y,tag:= "",pkgPath:= "",byteOffset:=32},{name:= "P",type:=42,offset:=5,embedded:=Y,tag:= "",pkgPath:= "",byteOffset:=40}]
def Wk:af Field:=#[{name:= "Kind",type:=3,offset:=0,embedded:=Y,tag:= "",pkgPath:= "",byteOffset:=0},{name:= "Key",type:=3,offset:=1,embedded:=Y,tag:= "",pkgPath:= "",byteOffset:=8},{name:= "Value",type:=9,offset:=2,embedded:=Y,tag:= "",pkgPath:= "",byteOffset:=16}]
theorem u44:Tryz.prog.underlying 44=Z (.struct Wj):=av
theorem u81:Tryz.prog.underlying 81=Z (.struct Wk):=av
theorem Va:Tryz.prog.cellsOf 44=6:=av
theorem Vb:Tryz.prog.cellsOf 81=3:=av
theorem c3:Tryz.prog.cellsOf 3=1:=av
theorem c9:Tryz.prog.cellsOf 9=1:=av
theorem c42:Tryz.prog.cellsOf 42=1:=av
theorem b44:Tryz.prog.bytesOf 44=64:=av
theorem b81:Tryz.prog.bytesOf 81=32:=av
section
variable {H:Type}{X:aJ×ag->H}{W:au}
noncomputable abbrev tE(X:aJ×ag->H)(W):=DataW.trod X ak W 0 (λ_=>U) U
theorem Kj{n}(h:(Lit.int .i64 n).wf=U):uB n:=by
 simp[Lit.wf,IntKind.min,IntKind.signed,IntKind.bits]at h;unfold uB;omega
theorem amB{α:Type}{l:ae α}(h:l.length=3):∃a b c,l=[a,b,c]:=by
 rcases l with _|⟨a,_|⟨b,_|⟨c,_|⟨d,l⟩⟩⟩⟩<;>simp at h⊢
theorem amC{α:Type}{l:ae α}(h:l.length=6):∃a b c d e f,l=[a,b,c,d,e,f]:=by
 rcases l with _|⟨a,_|⟨b,_|⟨c,_|⟨d,_|⟨e,_|⟨f,_|⟨g,l⟩⟩⟩⟩⟩⟩⟩<;>simp at h⊢
theorem av5{d}{j}{x}(h:tE X W d 81 j=Z x):∃p:Stp,j=p.cells:=by
 obtain⟨B,n,rfl,rfl,A,G,e⟩:=DataW.trod_struct u81 h;obtain⟨a,b,c,rfl⟩:=amB A;have g:∀(i)(f),Wk[i]?=Z f->∃y,B[i]?=Z y:=λi f J=>⟨_,dq (by
  grind)⟩
 obtain⟨C,v⟩:=g 0 _ F;obtain⟨D,w⟩:=g 1 _ F;obtain⟨E,z⟩:=g 2 _ F;have l:tE X W n 3 (([a,b,c].drop 0).take (Tryz.prog.cellsOf 3))=Z C:=(e 0 _ F).trans v;have m:tE X W n 3 (([a,b,c].drop 1).take (Tryz.prog.cellsOf 3))=Z D:=(e 1 _ F).trans w;have o:tE X W n 9 (([a,b,c].drop 2).take (Tryz.prog.cellsOf 9))=Z E:=(e 2 _ F).trans z;rw[c3]at l m;rw[c9]at o;obtain⟨k,r,_⟩:=DataW.trod_int u3 l;obtain⟨q,t,_⟩:=DataW.trod_int u3 m;obtain⟨s,u,_⟩:=DataW.trod_string u9 o;simp only[List.drop_zero,List.take_succ_cons,List.take_zero,List.drop_succ_cons,List.cons.injEq,and_true]at r t u;exact⟨⟨k,q,s⟩,by rw[r,t,u];rfl⟩
theorem YX{H}{P}{e}{d}{n}:∀{a:ae (DataW H)},d∈a->n∈d.weights P e->n∈DataW.weightsAll P e a
 |x::a,b,c=>by
  simp only[DataW.weightsAll];rcases bQ.1 b with rfl|b
  ·simp_all
  ·exact HA _ (YX b c)
theorem Pf{α:Type}{Q:Nat->α->Prop}:∀n:Nat,(∀i,i<n->∃a,Q i a)->∃l:ae α,l.length=n/\∀i a,l[i]?=Z a->Q i a
 |0,_=>⟨[],F,λi a h=>by simp at h⟩
 |n+1,h=>by
  obtain⟨l,d,g⟩:=Pf n λi c=>h i ai;obtain⟨a,e⟩:=h n ai;refine⟨l++[a],by simp[d],λi b f=>?_⟩;by_cases c:i<n
  ·grind
  ·grind
theorem K9{a}{n}{e}(h:W.cells? 0 a n=Z e)(p:0<n):a.spot=I/\e.length=n/\∃c t f,W.heap[a.block]?=Z (.cells c t f)/\∀j,j<n->c[a.off+j]?=e[j]?:=by
 have o:∀j,j<n->W.cell? (a.add j)=e[j]?:=λj g=>mapM_some_get h j j (by simp[g]);have b:=mapM_some_length h;simp only[List.length_range]at b;have m:∀j,j<n->∃v,W.cell? (a.add j)=Z v:=λj g=>by
  simp_all
 obtain⟨s,d⟩:=m 0 p;have q:a.add 0=a:=rfl;unfold fR at d;split at d
 ·rename_i c t f i
  split at d
  ·cases d
  ·rename_i r
   have l:a.spot=I:=by
    cases hq:a.spot with
    |none=>rfl
    |some x=>simp_all
   refine⟨l,b,c,t,f,i,λj g=>?_⟩;rw[<-o j g];unfold fR;have k:W.heap[(a.add j).block]?=Z (.cells c t f):=by
    unfold Addr.add;split<;>exact i
   rw[k];simp only
   unfold Addr.add;split
   ·simp_all
   ·simp
 ·cases d
def UJ(W:au)(v:ag)(d:ae Stp):Prop:=(d=[]/\∃f a,v=.slice f 0 a)\/(0<d.length/\∃b c a e h g,v=.slice (Z ⟨b,c,I⟩) d.length a/\W.heap[b]?=Z (.cells e h g)/\CW e c d)
theorem apv{f}{b}{x}(h:tE X W f 42 b=Z x)(R:∀n∈x.1.weights ak 42,n<=reachBytes):∃v g,b=[v]/\UJ W v g/\g.length<=4398046511104:=by
 rcases DataW.trod_slice u42 h with⟨rfl,rfl⟩|⟨a,e,k,d,rest,n,rfl,rfl,rfl,_,O,_,L,M,_⟩
 ·exact⟨_,[],rfl,.inl ⟨rfl,I,0,rfl⟩,by simp⟩
 ·
  have A:e<=4398046511104:=by
   have:=R _ (by
    simp only[DataW.weights,u42,b81,iV];exact fu ..)
   unfold reachBytes at this;omega
  rcases BM e with l|l
  ·subst l
   exact⟨_,[],rfl,.inl ⟨rfl,_,_,rfl⟩,by simp⟩
  ·have z:∀i,i<e->∃b y,W.cells? 0 (a.add (i*3)) 3=Z b/\tE X W n 81 b=Z y:=λi m=>by
    have w:=M i m;obtain⟨y,S⟩:∃y,d[i]?=Z y:=⟨_,dq ai⟩;rw[S]at w;obtain⟨b,G,J⟩:=m4.1 w;exact⟨b,y,G,J⟩
   obtain⟨Ia,y0,q1,q2⟩:=z 0 l;obtain⟨s,Qu,c,t,r,K,_⟩:=K9 q1 aX;have D:a=⟨a.block,a.off,I⟩:=by
    have:a.add (0*3)=a:=rfl;rw[this]at s;cases a;subst s;rfl
   have o:W.heap[a.block]?=Z (.cells c t r):=K;obtain⟨g,tu,C⟩:=Pf (Q:=λi(p:Stp)=>∀j u,p.cells[j]?=Z u->c.toList[a.off+i*3+j]?=Z u) _ λi m=>by
    obtain⟨b,y,q3,q4⟩:=z i m;obtain⟨p,rfl⟩:=av5 q4;obtain⟨_,_,c',t',E,q,N⟩:=K9 q3 aX;have rN:(a.add (i*3)).block=a.block:=by unfold Addr.add;split<;>rfl
    have T:(a.add (i*3)).off=a.off+i*3:=by
     unfold Addr.add;split
     ·omega
     ·rfl
    rw[rN,o]at q;cases q;refine⟨p,λj u B=>?_⟩;have V:=(dv.1 B).1;have:=N j V;rw[T,B]at this;rw[w7];exact this
   refine⟨_,g,F,.inr ⟨by omega,a.block,a.off,k,c,t,r,by rw[tu,<-D],o,λi p P=>C i p P⟩,by omega⟩
structure KJ(W:au)(o:lG):Prop where
 k:uB o.kind
 w_:uB o.W
 A:uB o.A
 B:uB o.B
 C:uB o.C
 P:UJ W o.P o.pr
 l:o.pr.length<=4398046511104
theorem aoQ{l}{q}{x}(h:tE X W l 44 q=Z x)(R:∀n∈x.1.weights ak 44,n<=reachBytes):∃o:lG,q=o.cells/\KJ W o:=by
 obtain⟨xs,n,rfl,rfl,p,Ew,k⟩:=DataW.trod_struct u44 h;obtain⟨a,b,c,d,e,f,rfl⟩:=amC p;have g:∀(i)(f),Wj[i]?=Z f->∃y,xs[i]?=Z y:=λi f hi=>⟨_,dq (by
  grind)⟩
 obtain⟨y0,J⟩:=g 0 _ F;obtain⟨y1,K⟩:=g 1 _ F;obtain⟨y2,L⟩:=g 2 _ F;obtain⟨y3,M⟩:=g 3 _ F;obtain⟨y4,N⟩:=g 4 _ F;obtain⟨E,O⟩:=g 5 _ F;have r:tE X W n 3 (([a,b,c,d,e,f].drop 0).take (Tryz.prog.cellsOf 3))=Z y0:=(k 0 _ F).trans J;have s:tE X W n 3 (([a,b,c,d,e,f].drop 1).take (Tryz.prog.cellsOf 3))=Z y1:=(k 1 _ F).trans K;have t:tE X W n 3 (([a,b,c,d,e,f].drop 2).take (Tryz.prog.cellsOf 3))=Z y2:=(k 2 _ F).trans L;have u:tE X W n 3 (([a,b,c,d,e,f].drop 3).take (Tryz.prog.cellsOf 3))=Z y3:=(k 3 _ F).trans M;have w:tE X W n 3 (([a,b,c,d,e,f].drop 4).take (Tryz.prog.cellsOf 3))=Z y4:=(k 4 _ F).trans N;have z:tE X W n 42 (([a,b,c,d,e,f].drop 5).take (Tryz.prog.cellsOf 42))=Z E:=(k 5 _ F).trans O;rw[c3]at r s t u w;rw[c42]at z;obtain⟨S,q0,_,w0⟩:=DataW.trod_int u3 r;obtain⟨T,A,_,w1⟩:=DataW.trod_int u3 s;obtain⟨V,B,_,w2⟩:=DataW.trod_int u3 t;obtain⟨k3,q3,_,w3⟩:=DataW.trod_int u3 u;obtain⟨k4,C,_,w4⟩:=DataW.trod_int u3 w;have G:=λm Q=>R m (by
  exact DataW.weights_mem_each (j:=5) (d:=E.1) F (by simp_all) m Q)
 obtain⟨v,pr,D,P,p⟩:=apv z G;simp only[List.drop_zero,List.take_succ_cons,List.take_zero,List.drop_succ_cons,List.cons.injEq,and_true]at q0 A B q3 C D;refine⟨⟨S,T,V,k3,k4,v,pr⟩,by rw[q0,A,B,q3,C,D];rfl,Kj w0,Kj w1,Kj w2,Kj w3,Kj w4,P,p⟩
theorem asr{p}{v:ag}{x}(h:tE X W p 22 v.cells.toList=Z x)(hv:v.cells.toList=[v])(L:∀n∈x.1.weights ak 22,n<=reachBytes):∃(k:ae lG)(B:aj aR)(d:Nat),v=.slice B k.length d/\(0<k.length->∃b r N ty S,B=Z ⟨b,r,I⟩/\W.heap[b]?=Z (.cells N ty S)/\SZ N r k)/\(∀o∈k,KJ W o)/\k.length<=2199023255552:=by
 rw[hv]at h;rcases DataW.trod_slice Oa h with⟨e,rfl⟩|⟨a,g,d,f,rest,n,rfl,e,rfl,_,γ,_,β,hi,_⟩
 ·simp only[List.cons.injEq,and_true]at e
  exact⟨[],I,0,e,λh=>absurd h aZ,λo h=>by simp at h,by simp⟩
 ·simp only[List.cons.injEq,and_true]at e
  have J:g<=2199023255552:=by
   have:=L _ (by
    simp only[DataW.weights,Oa,b44,iV];exact fu ..)
   unfold reachBytes at this;omega
  rcases BM g with s|s
  ·subst s
   exact⟨[],Z a,d,e,λh=>absurd h aZ,λo h=>by simp at h,by simp⟩
  ·have G:∀i,i<g->∃l y,W.cells? 0 (a.add (i*6)) 6=Z l/\tE X W n 44 l=Z y/\∀m∈y.1.weights ak 44,m<=reachBytes:=λi w=>by
    have E:=hi i w;obtain⟨y,M⟩:∃y,f[i]?=Z y:=⟨_,dq ai⟩;rw[M]at E;obtain⟨l,V,h3⟩:=m4.1 E;refine⟨l,y,V,h3,λm hm=>L m ?_⟩;refine eK _ (List.mem_append_left _ (YX (ox.2 ⟨y,lR M,F⟩) hm))
   obtain⟨Ia,y0,q1,q2,_⟩:=G 0 s;obtain⟨T,Qu,c,t,D,hb,_⟩:=K9 q1 aX;have O:a=⟨a.block,a.off,I⟩:=by
    have:a.add (0*6)=a:=rfl;cases a;subst T;rfl
   have z:W.heap[a.block]?=Z (.cells c t D):=hb;obtain⟨k,tu,A⟩:=Pf (Q:=λi(o)=>KJ W o/\∀j u,o.cells[j]?=Z u->c.toList[a.off+i*6+j]?=Z u) _ λi w=>by
    obtain⟨l,y,q3,q4,q5⟩:=G i w;obtain⟨o,rfl,q⟩:=aoQ q4 q5;obtain⟨_,_,c',t',R,C,hj⟩:=K9 q3 aX;have rN:(a.add (i*6)).block=a.block:=by unfold Addr.add;split<;>rfl
    have lh:(a.add (i*6)).off=a.off+i*6:=by
     unfold Addr.add;split
     ·omega
     ·rfl
    rw[rN,z]at C;cases C;refine⟨o,q,λj u K=>?_⟩;have oa:=(dv.1 K).1;have:=hj j oa;rw[lh,K]at this;rw[w7];exact this
   refine⟨k,Z a,d,by rw[tu];exact e,λ_=>⟨a.block,a.off,c,t,D,by rw[<-O],z,λi o q=>(A i o q).2⟩,λo q=>?_,by omega⟩;obtain⟨i,P⟩:=List.getElem?_of_mem q;exact(A i o P).1
end
theorem adb:Sv=LL:=by
 unfold Sv;rfl
theorem amX{f}{a}{L}{R}(h:Fl Sv f a L R){W}(p:Kn L (low W).heap)(t)(d):Reach LL (λv w=>w.os=W.os/\w.output=W.output/\∃b,R v b/\Kn b w.heap) (lone (bG LL f a .normal) [gQ LL] (re (low W) t d)):=by
 have c:=h [] (low W).heap (by simp_all) (re (low W) t d) F;rw[adb]at c;obtain⟨e,o,i,⟨v,rfl,l,m,b,q3,g⟩,⟨n,k⟩,_,j⟩:=c _;rw[xb]at g;exact⟨n,_,k,i,o,v,F,j,l,m,b,q3,g⟩
def tQ:ae Nat:=[0,1,2,3,4,5]
structure Fy(W:au)(A:Nat->aR):Prop where
 g8:∃a b,W.heap[(8:Nat)]?=Z (.finalizers a b)
 nX:∃a b,W.heap[(10:Nat)]?=Z (.finalizers a b)
 er:∀k:Nat,k<5->W.heap[k]?=Z (.cells #[aY (A k)] 78 (0,0))
 ty:W.heap[(5:Nat)]?=Z (.cells #[ib 78] 202 (0,0))
 ob:∀k:Nat,k<5->∃c t,W.heap[(A k).block]?=Z (.cells c t (0,0))
 Gb:∀k:Nat,k<5->6<=(A k).block
 inj:∀i j,i<5->j<5->A i=A j->i=j
theorem EJ{W}{b}{c}{t}{a}(h:W.heap[b]?=Z (.cells c t a))(d:b≠8)(e:b≠10):(low W).heap[b]?=Z (.cells c t a):=by
 rw[Bh,h];simp only[iy,EI,bq,dx,d,e,if_false]
def l9(A:Nat->aR):ae (Nat×Obj):=[(0,.cells #[aY (A 0)] 78),(1,.cells #[aY (A 1)] 78),(2,.cells #[aY (A 2)] 78),(3,.cells #[aY (A 3)] 78),(4,.cells #[aY (A 4)] 78),(5,.cells #[ib 78] 202),(8,.chan 5 #[ah 0] Y 0 0 Y),(10,.chan 6 #[.chan I] Y 0 0 Y)]
section
variable {W:au}{A:Nat->aR}(X:Fy W A)
include X
theorem Fy.ne{b}{c}{t}{a}(h:W.heap[b]?=Z (.cells c t a)):b≠8/\b≠10:=by
 obtain⟨x,y,d⟩:=X.g8;obtain⟨f,g,e⟩:=X.nX;constructor
 ·grind
 ·grind
theorem Fy.ers:xh (low W).heap tQ A where
 ok:=λk b=>by
  obtain⟨c,t,h⟩:=X.ob k b;obtain⟨n8,a⟩:=X.ne h;refine⟨⟨c,t,EJ h n8 a⟩,n8,a,λd=>?_⟩;have:=X.Gb k b;simp only[tQ,bQ,gk,or_false]at d;omega
 inj:=X.inj
theorem Fy.kn:Kn (ub (low W).heap tQ A ⟨ah 0,0⟩ 0 0 0) (low W).heap:=by
 obtain⟨x,y,h⟩:=X.g8;obtain⟨r,s,n⟩:=X.nX;have e:=λk i=>EJ (X.er k i) ai ai;refine⟨λq a=>?_,?_⟩
 ·simp only[k8,bQ,Ad,gk,or_false]at a
  rcases a with rfl|(rfl|rfl|rfl|rfl|rfl|rfl)|rfl|rfl
  ·exact⟨df _,λx _ _ _ _=>rfl⟩
  ·exact e 0 aX
  ·exact e 1 aX
  ·exact e 2 aX
  ·exact e 3 aX
  ·exact e 4 aX
  ·exact EJ X.ty aX aX
  ·show(low W).heap[8]?=_
   rw[Bh,h];rfl
  ·show(low W).heap[10]?=_
   rw[Bh,n];rfl
 ·have j:k8 A++[gE ⟨ah 0,0⟩ 0,hE (.chan I) 0 0]=(l9 A).map λp=>En.ob p.1 p.2:=rfl
  have d:(l9 A).map (·.1)=[0,1,2,3,4,5,8,10]:=rfl;unfold ub;rw[j];refine nQ.2 ⟨λq a x b c=>?_,?_⟩
  ·obtain⟨p,m,rfl⟩:=ox.1 a
   have f:=d▸kV m;have e:=c;rw[<-e]at f;obtain⟨_,n8,o,nx⟩:=b;simp only[tQ,bQ,gk,or_false]at f nx;omega
  ·have l:((l9 A).map (·.1)).Nodup:=by rw[d];decide
   rw[List.pairwise_map];exact(List.pairwise_map.1 l).imp λg x b c=>g (b.symm.trans c)
theorem Fy.scr{i}{u}(G:0<i.length->∃b d h r m,u=Z ⟨b,d,I⟩/\W.heap[b]?=Z (.cells h r m)/\SZ h d i)(H:∀o∈i,KJ W o)(J:i.length<=2199023255552):FO (low W).heap tQ [] u i:=by
 have y:∀{b d:Nat}{h}{r}{m}{n},W.heap[b]?=Z (.cells h r m)->h.toList[d]?=Z (ah n)->b∉tQ:=λ{b d h r m n}f s z=>by
  have K:∃v:ag,h=#[v]/\∃a c,v=.iface a c:=by
   simp only[tQ,bQ,gk,or_false]at z;rcases z with rfl|rfl|rfl|rfl|rfl|rfl
   ·have:=f.symm.trans (X.er 0 aX);cases this;exact⟨_,rfl,_,_,rfl⟩
   ·have:=f.symm.trans (X.er 1 aX);cases this;exact⟨_,rfl,_,_,rfl⟩
   ·have:=f.symm.trans (X.er 2 aX);cases this;exact⟨_,rfl,_,_,rfl⟩
   ·have:=f.symm.trans (X.er 3 aX);cases this;exact⟨_,rfl,_,_,rfl⟩
   ·have:=f.symm.trans (X.er 4 aX);cases this;exact⟨_,rfl,_,_,rfl⟩
   ·have:=f.symm.trans X.ty;cases this;exact⟨_,rfl,_,_,rfl⟩
  obtain⟨v,rfl,a,c,rfl⟩:=K;cases d with
  |zero=>simp[ah]at s
  |succ k=>simp at s
 have E:∀o∈i,o.Ok (low W).heap tQ:=λo w=>by
  obtain⟨k,M,D,B,C,P,l⟩:=H o w;refine⟨k,M,D,B,C,?_,l⟩;rcases P with⟨e,u,j,x⟩|⟨q,b,d,j,h,r,m,x,f,t⟩
  ·exact .inl ⟨e,u,j,x⟩
  ·obtain⟨n8,g⟩:=X.ne f
   obtain⟨p,L⟩:∃p,o.pr[0]?=Z p:=⟨_,dq q⟩;have s:=t 0 p L 0 _ rfl;exact .inr ⟨q,b,d,j,h,r,m,x,EJ f n8 g,t,y f s,n8,g⟩
 rcases BM _ with q|q
 ·have e:i=[]:=BK.1 q
  subst e;exact asp _
 ·obtain⟨b,d,h,r,m,rfl,f,t⟩:=G q
  obtain⟨n8,g⟩:=X.ne f;obtain⟨o,w⟩:∃o,i[0]?=Z o:=⟨_,dq q⟩;have s:=t 0 o w 0 _ rfl;exact asq (EJ f n8 g) (y f s) n8 g t E J
theorem amw{f}{a}(x:inner f=Y)(l:hasB fs f=U)(h:Fl Sv f a (ub (low W).heap tQ A ⟨ah 0,0⟩ 0 0 0) (MQ (low W).heap tQ A)):∃M last o m p,iz ak (M+1) (solo (G (bG ak f a .normal) []) W) #[]=(.ended o m,p)/\di ak M (solo (G (bG ak f a .normal) []) W)=.next last/\step ak last=.ended o m/\Conc.Good ak (λv e=>v=.bool U/\e.os=W.os/\e.output=W.output/\W.heap.size<=e.heap.size/\∀b:Nat,b<W.heap.size->e.heap[b]?=W.heap[b]?) last o m p:=by
 refine close x l X.g8 X.nX ?_ (λt d=>amX h X.kn t d) ?_
 ·rintro v w ⟨C,D,_,⟨_,i,j,N,O,s,rfl⟩,c⟩
  have L:=c.sat (.ro (low W).heap tQ) (by simp[]);have r:∀k:Nat,k<5->w.heap[k]?=Z (.cells #[aY (A k)] 78 (0,0)):=λk P=>by
   have:k=0\/k=1\/k=2\/k=3\/k=4:=by omega
   rcases this with rfl|rfl|rfl|rfl|rfl
   ·exact c.sat (aP 0 (aY (A 0))) (by simp[k8])
   ·exact c.sat (aP 1 (aY (A 1))) (by simp[k8])
   ·exact c.sat (aP 2 (aY (A 2))) (by simp[k8])
   ·exact c.sat (aP 3 (aY (A 3))) (by simp[k8])
   ·exact c.sat (aP 4 (aY (A 4))) (by simp[k8])
  have q:=c.sat (.ob 5 (.cells #[ib 78] 202)) (by simp[k8]);have y:=c.sat (gE i j) (by simp[]);refine⟨⟨i.n,j,?_⟩,C,D,λb l u B=>?_⟩
  ·have n:w.heap[bq]?=Z (.chan 5 #[i.v] Y i.n j Y):=y
   rw[s]at n;exact n
  ·by_cases g:b∈tQ
   ·simp only[tQ,bQ,gk,or_false]at g
    have:b<5\/b=5:=by omega
    rcases this with g|rfl
    ·rw[r b g]
     exact(EJ (X.er b g) ai ai).symm
    ·rw[q]
     exact(EJ X.ty aX aX).symm
   ·exact L.2 b (by rw[MT];exact l) u B g
 ·rintro v w e ⟨_,_,_,⟨z,_⟩,_⟩ E H J K
  exact⟨z,E,H,J,K⟩
end
section
open Go.ChangeShapes Go.WideShapes
theorem gl0:Tryz.prog.globalNamed "mvstore/mv.ErrShape"=Z 0:=av
theorem gl1:Tryz.prog.globalNamed "mvstore/mv.ErrProgram"=Z 1:=av
theorem gl2:Tryz.prog.globalNamed "mvstore/mv.ErrMany"=Z 2:=av
theorem gl3:Tryz.prog.globalNamed "mvstore/mv.ErrClient"=Z 3:=av
theorem gl4:Tryz.prog.globalNamed "mvstore/mv.ErrStopped"=Z 4:=av
theorem gl5:Tryz.prog.globalNamed "errors.errorType"=Z 5:=av
theorem gt0:(Tryz.prog.globals[0]?).map (·.type)=Z 78:=av
theorem gt1:(Tryz.prog.globals[1]?).map (·.type)=Z 78:=av
theorem gt2:(Tryz.prog.globals[2]?).map (·.type)=Z 78:=av
theorem gt3:(Tryz.prog.globals[3]?).map (·.type)=Z 78:=av
theorem gt4:(Tryz.prog.globals[4]?).map (·.type)=Z 78:=av
theorem Kg:Tryz.prog.underlying 78=Z (.interface #[("Error",273)]):=av
theorem Ke:Tryz.prog.underlying 272=Z (.pointer 292):=av
theorem Kf:Tryz.prog.underlying 292=Z (.struct #[{name:= "s",type:=9,offset:=0,embedded:=Y,tag:= "",pkgPath:= "errors",byteOffset:=0}]):=av
theorem H8:Tryz.prog.cellsOf 292=1:=av
theorem star: "*"++ "errors.errorString"= "*errors.errorString":=by decide
theorem JZ(u)(h:Tryz.prog.typeName? 3 u=Z "*errors.errorString"):u=272:=typeName_ptr_named (by rw[star];kernel_rfl) av aX u (by exact h)
def Pp:ae (String×DataW Unit):=[("mvstore/mv.ErrShape",Rows.laid_mvstore_mv_ErrShape),("mvstore/mv.ErrProgram",Rows.laid_mvstore_mv_ErrProgram),("mvstore/mv.ErrMany",Rows.laid_mvstore_mv_ErrMany),("mvstore/mv.ErrClient",Rows.laid_mvstore_mv_ErrClient),("mvstore/mv.ErrStopped",Rows.laid_mvstore_mv_ErrStopped)]
def Jx:ae (String×DataW Unit):=("errors.errorType",Rows.laid_errors_errorType)::Pp
theorem asC{W}(h:laidMet ak Pp W):∃A:Nat->aR,(∀k,k<5->W.cell? ⟨k,0,I⟩=Z (aY (A k)))/\(∀k,k<5->∃s,W.cell? (A k)=Z (.string s))/\(∀k,k<5->∃c t,W.heap[(A k).block]?=Z (.cells c t (0,0)))/\∀k m,k<5->m<5->k≠m->A k≠A m:=by
 obtain⟨ps,⟨x0,y0,T,f0,p0,q0,D,C,N,nF,⟨x1,y1,ir,f1,p1,q1,l,S,Q,tj,⟨x2,y2,oH,f2,p2,q2,L,X,M,uS,⟨x3,y3,q,f3,p3,q3,n,Q4,O,y,⟨x4,y4,r,f4,p4,q4,o,V,P,z,B,e4⟩,e3⟩,e2⟩,e1⟩,e0⟩,nc,b⟩:=h;obtain rfl:=dQ (gl0.symm.trans D);obtain rfl:=dQ (gl1.symm.trans l);obtain rfl:=dQ (gl2.symm.trans L);obtain rfl:=dQ (gl3.symm.trans n);obtain rfl:=dQ (gl4.symm.trans o);obtain rfl:=dQ (gt0.symm.trans C);obtain rfl:=dQ (gt1.symm.trans S);obtain rfl:=dQ (gt2.symm.trans X);obtain rfl:=dQ (gt3.symm.trans Q4);obtain rfl:=dQ (gt4.symm.trans V);have p:=B;subst p e4 e3 e2 e1 e0;obtain⟨l0⟩:=T;obtain⟨l1⟩:=ir;obtain⟨l2⟩:=oH;obtain⟨l3⟩:=q;obtain⟨l4⟩:=r;have E:∀u v,l0=[.iface u v]->Value.okWide ak W .any 0 u v:=λu v e=>by
  subst e;exact(b 0 0 (by simp[MemPlace.row])).2 u v (by simpa using Af D N 0)
 have G:∀u v,l1=[.iface u v]->Value.okWide ak W .any 0 u v:=λu v e=>by
  subst e;exact(b 1 0 (by simp[MemPlace.row])).2 u v (by simpa using Af l Q 0)
 have H:∀u v,l2=[.iface u v]->Value.okWide ak W .any 0 u v:=λu v e=>by
  subst e;exact(b 2 0 (by simp[MemPlace.row])).2 u v (by simpa using Af L M 0)
 have J:∀u v,l3=[.iface u v]->Value.okWide ak W .any 0 u v:=λu v e=>by
  subst e;exact(b 3 0 (by simp[MemPlace.row])).2 u v (by simpa using Af n O 0)
 have K:∀u v,l4=[.iface u v]->Value.okWide ak W .any 0 u v:=λu v e=>by
  subst e;exact(b 4 0 (by simp[MemPlace.row])).2 u v (by simpa using Af o P 0)
 obtain⟨a0,s0,rfl,l6,rR,X7,rfl⟩:=errorString_of_trod Kg JZ Ke Kf F F u9 H8 c9 nF E;obtain⟨d,s1,rfl,gM,oc,Ex,rfl⟩:=errorString_of_trod Kg JZ Ke Kf F F u9 H8 c9 tj G;obtain⟨f,s2,rfl,R,gv,zD,rfl⟩:=errorString_of_trod Kg JZ Ke Kf F F u9 H8 c9 uS H;obtain⟨g,s3,rfl,w,Ep,β,rfl⟩:=errorString_of_trod Kg JZ Ke Kf F F u9 H8 c9 y J;obtain⟨i,s4,rfl,x,AZ,γ,rfl⟩:=errorString_of_trod Kg JZ Ke Kf F F u9 H8 c9 z K;have b0:=(b a0.block a0.off (by simp[MemPlace.row])).1;have b1:=(b d.block d.off (by simp[MemPlace.row])).1;have b2:=(b f.block f.off (by simp[MemPlace.row])).1;have b3:=(b g.block g.off (by simp[MemPlace.row])).1;have b4:=(b i.block i.off (by simp[MemPlace.row])).1;have a:∀k,k<5->k=0\/k=1\/k=2\/k=3\/k=4:=λk h=>by omega
 have aD:a0≠d/\a0≠f/\a0≠g/\a0≠i/\d≠f/\d≠g/\d≠i/\f≠g/\f≠i/\g≠i:=by
  refine⟨?_,?_,?_,?_,?_,?_,?_,?_,?_,?_⟩<;>(grind)
 obtain⟨δ,ε,ζ,η,θ,ι,κ,μ,ν,ξ⟩:=aD;refine⟨λk=>[a0,d,f,g,i].getD k a0,λk j=>?_,λk j=>?_,λk j=>?_,λk m j hm my=>?_⟩
 ·rcases a k j with rfl|rfl|rfl|rfl|rfl
  ·simpa using Af D N 0
  ·simpa using Af l Q 0
  ·simpa using Af L M 0
  ·simpa using Af n O 0
  ·simpa using Af o P 0
 ·rcases a k j with rfl|rfl|rfl|rfl|rfl
  ·exact⟨_,l6⟩
  ·exact⟨_,gM⟩
  ·exact⟨_,R⟩
  ·exact⟨_,w⟩
  ·exact⟨_,x⟩
 ·rcases a k j with rfl|rfl|rfl|rfl|rfl
  ·exact b0
  ·exact b1
  ·exact b2
  ·exact b3
  ·exact b4
 ·rcases a k j with rfl|rfl|rfl|rfl|rfl<;>rcases a m hm with rfl|rfl|rfl|rfl|rfl<;>first|exact absurd rfl my|assumption|exact Ne.symm (by assumption)
end
section
open Go.ChangeShapes Go.WideShapes
def isFin:Obj->Bool
 |.finalizers .. =>U
 |_=>Y
theorem ald{o}(h:isFin o=U):∃a b,o=.finalizers a b:=by
 cases o<;>simp[isFin]at h;exact⟨_,_,F⟩
theorem bg8:((begin ak (λ_ _=>0) default).world.heap[8]?).map isFin=Z U:=av
theorem ad8:((begin ak (λ_ _=>0) default).world.heap[10]?).map isFin=Z U:=av
theorem bgz:Nat.ble 11 (begin ak (λ_ _=>0) default).world.heap.size=U:=av
theorem bg0:(((begin ak (λ_ _=>0) default).world.heap[0]?).bind Obj.row?).map (λp=>(p.1.size,p.2))=Z (1,78):=av
theorem bg1:(((begin ak (λ_ _=>0) default).world.heap[1]?).bind Obj.row?).map (λp=>(p.1.size,p.2))=Z (1,78):=av
theorem bg2:(((begin ak (λ_ _=>0) default).world.heap[2]?).bind Obj.row?).map (λp=>(p.1.size,p.2))=Z (1,78):=av
theorem bg3:(((begin ak (λ_ _=>0) default).world.heap[3]?).bind Obj.row?).map (λp=>(p.1.size,p.2))=Z (1,78):=av
theorem bg4:(((begin ak (λ_ _=>0) default).world.heap[4]?).bind Obj.row?).map (λp=>(p.1.size,p.2))=Z (1,78):=av
theorem bg5:(((begin ak (λ_ _=>0) default).world.heap[5]?).bind Obj.row?).map (λp=>(p.1.size,p.2))=Z (1,202):=av
theorem PD:Tryz.prog.globals.size=6:=av
theorem arE:((oz Tryz.prog.types.size).all λt=>!Tryz.prog.rowNamed t [101,114,114,111,114]||t==78)=U:=av
theorem ae6:(Tryz.prog.cutTypes.find? (·.1== "internal/reflectlite.rtype")).map (·.2)=Z 235:=av
theorem aj4:Value.iface 235 (.agg #[typeHandle ak 78])=ib 78:=av
theorem nmE:(Rows.laid_errors_errorType:DataW Unit).handleName?=Z [101,114,114,111,114]:=av
section
variable {W:au}
theorem Wv(d:W.ShapedOpen ak){g}{t}(k:g<6)(h:(((begin ak (λ_ _=>0) default).world.heap[g]?).bind Obj.row?).map (λp=>(p.1.size,p.2))=Z (1,t)):∃v,W.heap[g]?=Z (.cells #[v] t (0,0)):=by
 obtain⟨⟨c,m⟩,e,b⟩:=gV.1 h;simp only[fK]at b;obtain⟨f,rfl⟩:=b;obtain⟨a,i,j,_⟩:=d.1 g _ _ (by exact k) e;obtain⟨v,rfl⟩:∃v,a=#[v]:=by
  obtain⟨l⟩:=a;have:l.length=1:=by rw[<-f];exact j
  rcases l with _|⟨v,_|⟨x,l⟩⟩<;>simp at this⊢
 exact⟨v,i⟩
theorem V6(c:W.ShapedOpen ak){k}(g:k=8\/k=10)(h:((begin ak (λ_ _=>0) default).world.heap[k]?).map isFin=Z U):∃a b,W.heap[k]?=Z (.finalizers a b):=by
 have j:=yP bgz;obtain⟨o,l,d,e,f⟩:=c.2 k (by rw[PD];omega) ai;have i:World.looseAt (k-Tryz.prog.globals.size)=U:=by
  rcases g with rfl|rfl<;>rfl
 rw[e]at h;simp only[iy,ij]at h;obtain⟨a,b,rfl⟩:=ald h;cases o<;>first|exact⟨_,_,d⟩|(simp[Obj.alike]at f)
theorem ad4(f:W.ShapedOpen ak)(G:laidMetH ak Jx W):∃A,Fy W A:=by
 have n:=G;obtain⟨A,E,J,H,L⟩:=asC n.1;have g:∀k:Nat,k<5->(((begin ak (λ_ _=>0) default).world.heap[k]?).bind Obj.row?).map (λp=>(p.1.size,p.2))=Z (1,78):=λk d=>by
  have:k=0\/k=1\/k=2\/k=3\/k=4:=by omega
  rcases this with rfl|rfl|rfl|rfl|rfl
  ·exact bg0
  ·exact bg1
  ·exact bg2
  ·exact bg3
  ·exact bg4
 have w:∀k:Nat,k<5->W.heap[k]?=Z (.cells #[aY (A k)] 78 (0,0)):=λk d=>by
  obtain⟨v,b⟩:=Wv f ai (g k d);have a:=E k d;unfold fR at a;rw[b]at a;have:v=aY (A k):=by simpa using a
  rw[b,this]
 have r:W.heap[(5)]?=Z (.cells #[ib 78] 202 (0,0)):=by
  obtain⟨v,b⟩:=Wv f aX bg5;have B:=n.2 _ (yL.2 F);have C:=B;obtain⟨q,u,K,h,l,x,y,c⟩:=C;rw[nmE]at h;rw[ae6]at l;cases h;cases l;have m:=BI.1 arE _ (List.mem_range.2 x);rw[y]at m;have z:K=78:=by simpa using m
  subst z;unfold World.var? at c;rw[gl5]at c;simp only[vG]at c;rw[b]at c;simp only[ij]at c;rw[b,c,aj4]
 refine⟨A,V6 f (.inl F) bg8,V6 f (.inr F) ad8,w,r,H,λk d=>?_,λi j M N e=>?_⟩
 ·obtain⟨s,a⟩:=J k d
  rcases Nat.lt_or_ge (A k).block 6 with o|o
  ·exfalso
   have:∃v t,W.heap[(A k).block]?=Z (.cells #[v] t (0,0))/\∀s,v≠.string s:=by
    rcases Nat.lt_or_ge (A k).block 5 with D|D
    ·simp_all
    ·grind
   obtain⟨v,t,b,O⟩:=this;unfold fR at a;rw[b]at a;simp only at a;split at a
   ·cases a
   ·grind
  ·exact o
 ·grind
end
end
section
open Go.ChangeShapes Go.WideShapes Go.RowKit
theorem own:ownKnob Tryz.prog.godebug=I:=av
theorem Ys:laidOutB ak=U:=av
theorem u4:Tryz.prog.underlying 4=Z .bool:=av
section
variable {H:Type}{X:aJ×ag->H}{W V:au}
theorem alG(c:V.os=W.os)(d:V.output=W.output)(e:∀b:Nat,b<W.heap.size->V.heap[b]?=W.heap[b]?)(a):W.keptBut V a:=by
 refine⟨c,d,λi f=>?_⟩;rw[e i f];cases W.heap[i]? with
 |none=>rfl
 |some o=>grind
theorem carry{t}(c:Tryz.prog.readableRec t=U)(d:t<Tryz.prog.types.size)(g:W.keptBut V λ_=>False){n}{f}{x}(h:DataW.trod X ak W 0 (λ_=>U) U n t f=Z x):DataW.trod X ak V 0 (λb=>decide (b<W.heap.size)) U n t f=Z x:=by
 have aE:=DataW.trod_lt n t _ x h;exact DataW.trod_stays (kids_book Ys c) (book_sized c) (λh=>by cases h) ⟨d,book_self t⟩ h
  (λp a=>g.sameAt (aE p a) (λh=>h) (λb e=>by
    have:=DataW.trod_good (kids_book Ys c) (λh=>by cases h) n t _ x ⟨d,book_self t⟩ h p a;subst e;exact this))
  (λp a=>by simpa using aE p a)
end
structure UG(f:bA)(fn:dF)(s:ChangeSpec):Prop where
 at_:Tryz.prog.funcs[f]?=Z fn
 params:fn.params.toList=[22]
 results:fn.resultTypes.toList=[4]
 aap:fn.resultTypes.size=1
 vars:s.vars=[]
 aay:∀(H:Type)(d:DataW H),s.fn H [d]={results:=[.lit (.bool U)],args:=[d]}
 out:inner f=Y
 body:hasB fs f=U
 law:∀(S:Hp)(ex:ae Nat)(A:Nat->aR),xh S ex A->∀(ad:aj aR)(os:ae lG)(cap:Nat),FO S ex [] ad os->Fl Sv f [.slice ad os.length cap].toArray (ub S ex A ⟨ah 0,0⟩ 0 0 0) (MQ S ex A)
theorem aqY:Tryz.prog.readableRec 22=U:=av
theorem ang:22<Tryz.prog.types.size:=by
 simp
theorem amx{f}{m}{s}(L:UG f m s)(y)(g:y.Started)(H)(X:aJ×ag->H)(F)
  (k:∃(w:au)(b:Tape)(i:Input),w.os=y/\(w.forCall b i).Shaped ak/\i.vars=[]/\Input.okWide ak (w.forCall b i) .any w.heap.size f i/\
    ((s.pre X ak m [] Y (w.forCall b i).memory i.args/\laidMetH ak Jx (w.forCall b i).memory)/\sizedMet X ak m (OpenSpec.ofChange s) Y (w.forCall b i).memory i.args)/\
    ({calm:=U}:Assume).holds ak (lone (bG ak f i.args .normal) [] (w.forCall b i))):
  ReturnsInLeavingWide {calm:=U} Tryz.checked y f .any (λw c=>(s.pre X ak m [] Y w c/\laidMetH ak Jx w)/\sizedMet X ak m (OpenSpec.ofChange s) Y w c) ((OpenSpec.ofChange s).postWith X ak m F (outsideKept [.timePasses]) Y U Y):=by
 refine returnsInLeavingWide_of_good own g k ?_;intro w b i _ fG _ a8 Ct _;obtain⟨_,_,_,Ge,G,_,_,_,_,zC⟩:=a8;have e:=dQ (G.symm.trans L.at_);subst e;obtain⟨⟨⟨ds,gs,z,hw,hc⟩,D⟩,hz⟩:=Ct;have hW:=DataW.Whole.of_heap (w':=w.forCall b i) (by rfl) hw;have E:=laidMetH.of_heap (w':=w.forCall b i) (by rfl) D;have β:=hz.weights hw;generalize w.forCall b i=W at*;have WT:=hW;obtain⟨p,q,hA,hV,rfl,Mi,nc⟩:=hW;have P:=L.params▸hA;obtain⟨v,d,C,rfl,t,hd⟩:=trodAll_one P;have R:=L.vars▸hV;obtain⟨rfl,rfl⟩:=trodVars_none R;have QQ:Ge.params[0]?=Z 22:=by rw[<-w7,L.params];rfl
 have hv:=zC 0 _ v QQ (by rw[C];rfl);obtain⟨a,ζ,ε,rfl⟩:=okWide_slice Oa hv;have K:=λn hn=>by
  have B:=BI.1 β n (DataW.weights_mem_each (j:=0) (by rw[L.params];rfl) rfl n hn);simpa using B
 obtain⟨δ,ad,l,T,jv,aT,u⟩:=asr hd rfl K;obtain⟨A,Q⟩:=ad4 fG E;have hF:=L.law _ _ A Q.ers _ _ l (Q.scr jv aT u);obtain⟨M,x,o,r,t',B,h2,h3,v',ho,⟨Jf,k1,k2,k3,k4⟩,r1,r2,r3,r4⟩:=amw Q L.out L.body hF;have S:i.args=[.slice ad δ.length l].toArray:=by rw[C,T]
 rw[<-S]at B h2;have hk:=λγ=>alG k1 k2 k4 γ;have N:s.post X ak Ge Y U Y Y W i.args v' {r with os:=W.os}:=by
  have J:({r with os:=W.os})=r:=by rw[<-k1]
  rw[J];have O:s.fn H ([d]++[])={results:=[.lit (.bool U)],args:=[d]}:=L.aay H d;refine⟨[d],[],p++[],[],p,[],WT,?_,?_,?_,hk _,λh=>by cases h⟩
  ·rw[O,L.results,L.aap,Jf]
   exact trodAll_mk1 (shut_bool u4 _)
  ·rw[O,L.params,C]
   exact trodAll_mk1 ⟨t,carry aqY ang (hk _) hd⟩
  ·rw[O,L.vars]
   rfl
 exact⟨M,x,o,r,t',B,h2,h3,v',ho,postWith_blind (postWith_of_post N (by rw[k1];exact Go.ConcM.OsLater.refl _)),r1,r2,r3,r4⟩
end
abbrev tx0:ByteArray:={data:=#[110,111,32,115,117,99,104,32,115,116,111,114,101]}
abbrev tx1:ByteArray:={data:=#[110,111,32,112,114,111,103,114,97,109]}
abbrev tx2:ByteArray:={data:=#[116,111,111,32,109,97,110,121,32,99,108,105,101,110,116,115]}
abbrev tx3:ByteArray:={data:=#[110,111,32,115,117,99,104,32,99,108,105,101,110,116]}
abbrev tx4:ByteArray:={data:=#[116,104,101,32,115,116,111,114,101,32,104,97,115,32,98,101,101,110,32,115,116,111,112,112,101,100]}
noncomputable def lowest:Nat:=(World.holding ak default ⟨#[],#[],[]⟩).heap.size
noncomputable def lay(k:Nat)(v:ag)(h:af Obj):af Obj:=h.modify k λ
 |.cells _ t frozen=>.cells #[v] t frozen
 |o=>o
noncomputable def Jy(k:Nat)(h:af Obj):af Obj:=lay k (aY ⟨lowest+k,0,I⟩) h
noncomputable def EG(b:Os):au:=
 let a:=World.holding ak b ⟨#[.cells #[.string tx0] 292,.cells #[.string tx1] 292,.cells #[.string tx2] 292,.cells #[.string tx3] 292,.cells #[.string tx4] 292],#[],[]⟩
 {a with heap:=lay 5 (ib 78) (Jy 0 (Jy 1 (Jy 2 (Jy 3 (Jy 4 a.heap)))))}
theorem amm(b)(a):laidMetH ak Jx ((EG b).forCall (λ_ _=>0) ⟨#[],a,[]⟩).memory:=by
 refine laidMetH_of_parts ?_ av;exact laidMet_of_run' 8 av av
theorem amy{f}{d}{s}(c){H}{b:aJ×ag->H}
  (k:((EG c).forCall (λ_ _=>0) ⟨#[],#[.slice I 0 0],[]⟩).variablesB ak=U)
  (j:(((EG c).forCall (λ_ _=>0) ⟨#[],#[.slice I 0 0],[]⟩).heap.toList.drop Tryz.prog.globals.size).take ((begin ak (λ_ _=>0) default).world.heap.size-Tryz.prog.globals.size)=(begin ak (λ_ _=>0) default).world.heap.toList.drop Tryz.prog.globals.size)
  (e:Input.okWideB ak ((EG c).forCall (λ_ _=>0) ⟨#[],#[.slice I 0 0],[]⟩) f ⟨#[],#[.slice I 0 0],[]⟩=U)
  (g:s.preB b ak d [] Y ((EG c).forCall (λ_ _=>0) ⟨#[],#[.slice I 0 0],[]⟩).memory #[.slice I 0 0] 8=U)
  (h:s.sizedB b ak d Y ((EG c).forCall (λ_ _=>0) ⟨#[],#[.slice I 0 0],[]⟩).memory #[.slice I 0 0] 8=U):
  ∃(w:au)(a:Tape)(i:Input),w.os=c/\(w.forCall a i).Shaped ak/\i.vars=[]/\Input.okWide ak (w.forCall a i) .any w.heap.size f i/\
   ((s.pre b ak d [] Y (w.forCall a i).memory i.args/\laidMetH ak Jx (w.forCall a i).memory)/\sizedMet b ak d (OpenSpec.ofChange s) Y (w.forCall a i).memory i.args)/\
   ({calm:=U}:Assume).holds ak (lone (bG ak f i.args .normal) [] (w.forCall a i)):=
 ⟨EG c,λ_ _=>0,⟨#[],#[.slice I 0 0],[]⟩,F,World.shaped_of_B k j,(Input.okWide_of_okWideB (base:=0) e).1,(Input.okWide_of_okWideB e).2,⟨⟨ChangeSpec.pre_of_preB g,amm .. ⟩,sizedMet_of_sizedB h⟩,by
  exact⟨by simp,λ_ _ _ _=>rfl,by simp,by simp,by simp⟩⟩
theorem awO{p}{s}{c}(a)(b)(lk)
  (n:c.holds p s)(w:c.wfByText s=U)(d:c.laidByTextAt .later p a U)
  (i:c.start=.entering)(g:c.noBlocks=Y/\c.again=Y)(u:p.checked.prog.mainIs=Z (b.1,b.2.toList))(v:(!b.1&&b.2.isEmpty&&!lk)=Y)
  (q:∀f e,p.checked.prog.funcNamed c.func=Z f->p.checked.prog.funcs[f]?=Z e->lk=p.checked.prog.looks []/\∀(j:Nat)t,e.params[j]?=Z t->p.checked.prog.wantsStandIn t=Y)
  (o:U=c.goesBy p.checked.prog):
  Claim7.holds p (.plain s) {stood:={row:=c,standIns:=[],harness:=b,looks:=lk},kinds:=[],alts:=[],goes:=U,laidByText:=U,laidKinds:=a,laidTests:=U,laidLooks:=.later}:=by
 have l:∀r:OpenClaim,Claim7.isSixth {stood:={row:=r,standIns:=[],harness:=b,looks:=lk},kinds:=[]}=Y:=λr=>by simpa[Claim7.isSixth]using v
 have k:=Claim7.tied_new_at .later a U (Claim7.new_of_sixth n _ _ i g u (l c) q) w;exact⟨k,(λD m=>by cases m),d,(λh=>by cases h),o⟩
theorem am3{f}{b}(e:Tryz.prog.funcs[f]?=Z b)(i:b.params=#[22]){g:bA}{c}(h:g=f)(d:Tryz.prog.funcs[g]?=Z c):U=Tryz.prog.looks []/\∀(j:Nat)t,c.params[j]?=Z t->Tryz.prog.wantsStandIn t=Y:=by
 subst h;obtain rfl:c=b:=dQ (d.symm.trans e);refine⟨by kernel_rfl,λj t a=>?_⟩;rw[i]at a;rcases j with _|j
 ·simp only[List.getElem?_toArray,tL,ij]at a
  subst a;kernel_rfl
 ·simp at a
theorem ay6{P}{L l}(i:Nat)(e)(s)(v)(d)(o:L[i]?=Z e:=by kernel_rfl)(n:((sE P s .r [e] d []).map λq=>(q.1,q.2.2.2.2))=Z (.value v,match sE P s .r [e] d []with
                                                                    |some q=>q.2.2.2.2.map Pr.rf
                                                                    |none=>[]):=by kernel_rfl):nS P l L s λu k=>u=v/\k=L:=λw h=>by
 obtain⟨⟨v',z,r,t,y⟩,c,b⟩:=gV.1 n;rw[c]at b;simp only[fK]at b;obtain⟨rfl,m⟩:=b;have g:=ym m;have f:Kn ([e]++[]) w.heap:=⟨λx a=>by
  simp only[xb,yL]at a;subst a;exact h.at o,by simp⟩
 obtain⟨p,j,_⟩:=zQ _ _ _ _ _ _ _ _ _ _ _ w c g f (λx a=>by cases a);obtain⟨rfl,_⟩:=E' _ _ _ _ _ w _ c j f.left g;exact⟨v,p,L,j,F,F,⟨F,F⟩,h⟩
abbrev ay0(g:aj Nat)(c:Nat)(a:ae lG):En:=.row 44 6 g a.length c (a.flatMap lG.cells)
theorem ay9{S}{f}{g}{c}{a}(l:∀o∈a,o.Ok S f)(e:a.length<=2199023255552)(p:0<a.length->∃b,g=Z b):FO S f [ay0 g c a] (g.map λb=>⟨b,0,I⟩) a:=by
 cases g with
 |none=>
  have:a=[]:=by
   by_cases h:0<a.length
   ·simp_all
   ·simp_all
  subst this;exact⟨⟨0,0,λh=>absurd h aZ,λi o d=>by simp at d,λi o d=>by simp at d⟩,l,e⟩
 |some b=>
  refine⟨⟨b,0,λ_=>rfl,λi o d m n=>?_,λi o d m n=>?_⟩,l,e⟩
  all_goals have h:∀j u,o.cells[j]?=Z u->(a.flatMap lG.cells)[0+i*6+j]?=Z u:=λj u k=>by
             have aE:j<6:=by
              have:=(dv.1 k).1;exact this
             rw[qn,dS lG.len _ i j o aE d];exact k
  ·exact ay6 0 (ay0 (Z b) c a) _ _ [rr 0 (h 0 _ F),rr 0 (h 1 _ F),rr 0 (h 2 _ F),rr 0 (h 3 _ F),rr 0 (h 4 _ F),rr 0 (h 5 _ F)]
  ·exact ay6 0 (ay0 (Z b) c a) _ _ [rr 0 (h 0 _ F)]
theorem Oy.at_{S}{f}{v}{d}(h:Oy S f v d):∃e a,v=.slice e d.length a/\∀j,j<d.length->∃b c p,e=Z ⟨b,c,I⟩/\d[j]?=Z p/\∀L g,nS Sv g (.ro S f::L) (Yu 3 (.pointer (Z ⟨b,c+j*3,I⟩))) λu k=>u=ah p.kind/\k=.ro S f::L:=by
 rcases h with⟨rfl,e,a,rfl⟩|⟨s,b,c,a,t,w,r,rfl,m,q,n,l,o⟩
 ·simp
 ·refine⟨_,a,rfl,λj i=>⟨b,c,_,rfl,dq i,λL g=>?_⟩⟩
  exact roB 0 S _ b _ _ _ [rr 0 (q j _ (dq i) 0 _ rfl)] m l o n
def aza(S:Hp)(e:ae Nat)(d:ae lG)(v:ag)(L:ae En):Prop:=∃g c a,v=sv g a.length c/\(∀o∈a,o∈d)/\a.length<=d.length/\(0<a.length->∃b,g=Z b)/\L=[.ro S e,ay0 g c a]
theorem azb{S:Hp}{q:ae Nat}(d:Bool)(O:aj aR)(k:ae lG)(n:Nat)(hs:FO S q [] O k):Fl Sv 31 [.slice O k.length n,.bool d].toArray [.ro S q] (aza S q k):=by
 obtain⟨⟨sb,A,Q,T,_⟩,a8,β⟩:=hs;refine Fl.of 89 λcs L2=>ao [.g,.x] (jJ 44 6 ?_);refine j4 (ι:=Nat×aj Nat×Nat×ae lG) (λi=>k.length-i.1) (λi=>[(0,.slice O k.length n),(1,.bool d),(5,sv i.2.1 i.2.2.2.length i.2.2.1),(6,ah i.1)]) (λi=>[.ro S q,ay0 i.2.1 i.2.2.1 i.2.2.2]) (λi=>i.1<=k.length/\(∀o∈i.2.2.2,o∈k)/\i.2.2.2.length<=i.1/\(0<i.2.2.2.length->∃b,i.2.1=Z b)) (0,I,0,[]) ⟨je _,λo h=>absurd h aZ,df _,λh=>absurd h aZ⟩ ?_;rintro⟨i,g,c,l⟩ ⟨hi,V,hl,R⟩ W;simp only at hi V hl R W;by_cases aE:i<k.length
 ·obtain⟨o,ho⟩:∃o,k[i]?=Z o:=⟨_,dq aE⟩
  have X:=a8 o (lR ho);have P:=Q ai;subst P;obtain⟨pa,u,hP,x⟩:=X.P.at_;refine ao [fp i k.length,fp i 1152921504606846976,Jn 22 6 sb A n aE] ?_;refine du ([]++(.ro S q::[ay0 g c l])) (iW (T i o ho _ _) ?_);rintro _ _ ⟨rfl,rfl⟩;obtain⟨B,J,E,G,H,oP,a⟩:=o;simp only at hP x;subst hP;refine cd (λ_=>[2,2,2,2,2,2,.g,.x]) λz=>?_;refine j4 (ι:=Nat×Bool) (λj=>a.length-j.1) (λj=>[(0,.slice (Z ⟨sb,A,I⟩) k.length n),(1,.bool d),(5,sv g l.length c),(6,ah i),(7,pt z),(8,.bool j.2),(9,ah j.1)]) (λ_=>[.ro S q,ay0 g c l,lx z ⟨B,J,E,G,H,.slice pa a.length u,a⟩]) (λj=>j.1<=a.length) (0,Y) (je _) ?_;rintro⟨j,b⟩ M f;simp only at M f;by_cases r:j<a.length
  ·obtain⟨C,D,p,rfl,hp,s⟩:=x j r
   have e:∀K,Rs Sv _ _ _ _ _:=λK=>f (j+1,K) (by simp only;omega) r;have tp:=X.l;simp only at tp;cases b with
   |true=>
    refine ao [2,fp j a.length,aS j,.g,.x] ?_;exact cx (e U)
   |false=>
    refine ao [2,fp j a.length,2,Jn 42 3 C D u r] (du (.ro S q::[ay0 g c l,lx z ⟨B,J,E,G,H,.slice (Z ⟨C,D,I⟩) a.length u,a⟩]) (iW (s _ _) ?_));rintro _ _ ⟨rfl,rfl⟩;by_cases L:p.kind=3
    ·exact ao [bT L,aS j,.g,.x] (cx (e U))
    ·refine ao [bF L,2,Jn 42 3 C D u r] (du (.ro S q::[ay0 g c l,lx z ⟨B,J,E,G,H,.slice (Z ⟨C,D,I⟩) a.length u,a⟩]) (iW (s _ _) ?_))
     rintro _ _ ⟨rfl,rfl⟩;by_cases h4:p.kind=4
     ·exact ao [bT h4,aS j,.g,.x] (cx (e U))
     ·exact ao [bF h4,aS j,.g,.x] (cx (e Y))
  ·have w:j=a.length:=by omega
   subst w;clear f r M;refine ao [2,fH a.length a.length,.g,.x] ?_;refine j4 (ι:=Nat×Bool) (λj=>a.length-j.1) (λj=>[(0,.slice (Z ⟨sb,A,I⟩) k.length n),(1,.bool d),(5,sv g l.length c),(6,ah i),(7,pt z),(8,.bool b),(10,.bool j.2),(11,ah j.1)]) (λ_=>[.ro S q,ay0 g c l,lx z ⟨B,J,E,G,H,.slice pa a.length u,a⟩]) (λj=>j.1<=a.length) (0,Y) (je _) ?_;rintro⟨j,b2⟩ M f;simp only at M f;by_cases r:j<a.length
   ·obtain⟨C,D,p,rfl,hp,s⟩:=x j r
    have e:∀K,Rs Sv _ _ _ _ _:=λK=>f (j+1,K) (by simp only;omega) r;have tp:=X.l;simp only at tp;cases b2 with
    |true=>exact ao [2,fp j a.length,aS j,.g,.x] (cx (e U))
    |false=>
     refine ao [2,fp j a.length,2,Jn 42 3 C D u r] (du (.ro S q::[ay0 g c l,lx z ⟨B,J,E,G,H,.slice (Z ⟨C,D,I⟩) a.length u,a⟩]) (iW (s _ _) ?_));rintro _ _ ⟨rfl,rfl⟩;by_cases L:p.kind=5
     ·exact ao [bT L,aS j,.g,.x] (cx (e U))
     ·exact ao [bF L,aS j,.g,.x] (cx (e Y))
   ·have w:j=a.length:=by omega
    subst w;clear f r M;refine ao [2,fH a.length a.length] ?_;have e1:∀o:lG,(l++[o]).length=l.length+1:=by simp
    have e2:∀o:lG,(l++[o]).flatMap lG.cells=l.flatMap lG.cells++o.cells:=by simp
    have skip:Rs Sv _ _ _ _ _:=W (i+1,g,c,l) (by simp only;omega) ⟨aE,V,by simp only;omega,R⟩
    have m:∀t v,Rs Sv _ _ _ _ _:=λt v=>W (i+1,Z t,v,l++[⟨B,J,E,G,H,.slice pa a.length u,a⟩]) (by simp only;omega) ⟨aE,by
     grind,by simp only[e1];omega,λ_=>⟨t,F⟩⟩
    simp only[ay0,e1,e2]at m;by_cases N:B=4
    ·exact ao [2,wG N,aS i,.g,.x] (dP [2] (cx skip))
    ·cases d with
     |false=>
      refine cd (λ_=>[2,se N,2,2,2,2,2,2]) λy=>iW (OL 64 22 1 3 l.length ai) ?_;rintro _ _ ⟨t,v,rfl,rfl⟩;exact ao [aS i,.g,.x] (dP [2,3] (cx (m t v)))
     |true=>
      cases b with
      |false=>
       refine cd (λ_=>[2,se N,2,2,2,2,2,2]) λy=>iW (OL 64 22 1 3 l.length ai) ?_;rintro _ _ ⟨t,v,rfl,rfl⟩;exact ao [aS i,.g,.x] (dP [2,3] (cx (m t v)))
      |true=>
       cases b2 with
       |false=>
        refine cd (λ_=>[2,se N,2,2,2,2,2,2]) λy=>iW (OL 64 22 1 3 l.length ai) ?_;rintro _ _ ⟨t,v,rfl,rfl⟩;exact ao [aS i,.g,.x] (dP [2,3] (cx (m t v)))
       |true=>exact ao [2,se N,aS i,.g,.x] (dP [2] (cx skip))
 ·have jE:i=k.length:=by omega
  subst jE;refine ao [fH k.length k.length] ?_;exact dH [sv g l.length c] _ ⟨g,c,l,F,V,hl,R,F⟩
section
variable {S:Hp}{W:ae Nat}{A:Nat->aR}(R:xh S W A)(T:aj aR)(P:ae lG)(X:Nat)(V:FO S W [] T P)(a:Gc)(b c d:Nat)(Q:a.v=ah 0)
include R V Q
theorem azc:Fl Sv 10 [.slice T P.length X].toArray (ub S W A a b c d) (MQ S W A):=by
 refine Fl.of 7 λs r=>ao [] (du _ (nu _ (k8 A++[gE a b,hE (.chan I) c d]) (azb Y _ _ X V) (.refl _) ?_));rintro _ _ ⟨g,f,e,rfl,q,p,n,rfl⟩;refine eP (L':=[ay0 g f e]++ub S W A a b c d) bZ (ao [] (m5 [] _ (axj R [ay0 g f e] _ _ f (ay9 (λo h=>V.ok o (q o h)) (sK p V.len) n) a b c d Q) ?_));rintro _ _ ⟨rfl,i,j,k,l,m,rfl⟩;exact ao [fB _ (-1) F] (dP [0] (dH [.bool U] _ ⟨F,i,j,k,l,m,F⟩))
end
theorem azd:UG 10 Tryz.f10 Rows.unsweptSpec where
 at_:=Tryz.func10
 params:=by kernel_rfl
 results:=by kernel_rfl
 aap:=by kernel_rfl
 vars:=rfl
 aay:=λ_ _=>rfl
 out:=by kernel_rfl
 body:=by kernel_rfl
 law:=λ_ _ _ c b e a d=>azc c b e a d ⟨ah 0,0⟩ 0 0 0 F
theorem unswept_row:Rows.UnsweptSaid:=OpenClaim.holds_of_wide_leaving_time 10 Tryz.f10 rfl rfl rfl rfl rfl rfl rfl ⟨rfl,rfl,rfl,rfl,rfl⟩ rfl rfl rfl rfl rfl av Tryz.func10 av
                                       (of_decide_eq_true av) (by unfold Func.isWrapper;rw[if_neg (of_decide_eq_false av)];exact⟨rfl,rfl⟩)
                                       (λc a H b _ F=>amx azd c a H b F (amy c av av av av av))
theorem unswept_card:Rows.UnsweptCardSaid:=awO [.handle,.sentinel,.sentinel,.sentinel,.sentinel,.sentinel] (U,"73fab06dd345ee8f2da4e3e1e123de50e4f4795a1c3bbbdcbdd05624b8a7bc81") U
                                            unswept_row av unswept_row_tie F ⟨F,F⟩ av F
                                            (λf c b a=>am3 Tryz.func10 av (dQ ((show Tryz.prog.funcNamed "mvstore/mvstorelaw.Unswept"=Z 10 by kernel_rfl).symm.trans b)).symm a)
                                            av
end
end Go.Proofs.YtgahemdblfapeaaGreatDoor
