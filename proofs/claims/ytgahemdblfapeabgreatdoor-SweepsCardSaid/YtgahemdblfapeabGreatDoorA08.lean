/- The given card of mvstore/mvstorelaw.Sweeps holds: sweeps_card proves SweepsCardSaid; no condition beyond those that the statement itself makes. -/
import Derived.Test.YtgahemdblfapeabGreatDoorA04
import Derived.Test.YtgahemdblfapeabGreatDoorA07
set_option maxRecDepth 100000
set_option maxHeartbeats 4000000
set_option linter.all false
namespace Go.Proofs.YtgahemdblfapeabGreatDoor
open Go.Conc
open _root_.Array renaming getElem?_toList→Cy
open _root_.Bool renaming false→Y,true→U
open Go renaming Addr→aU,Func→dK,FuncId→cH,TypeId→aK,Value→ag,World→ax,goInt→ai,runN→dG,runNT→iz
open Go.Frame renaming enter→bO
open Go.Proofs.Tryz renaming prog→ak
open Go.World renaming cell?→fU,var?_cell→Ba
open _root_.List renaming all_eq_true→Ei,append_nil→rb,getElem?_cons_zero→qe,getElem?_eq_getElem→eI,getElem?_eq_some_iff→dq,length_eq_zero_iff→IF,length_map→jM,mem_append→pz,mem_cons→bM,mem_cons_of_mem→eK,mem_cons_self→eX,mem_map→og,mem_map_of_mem→jg,mem_of_getElem?→jZ,mem_singleton→my,not_mem_nil→gV,pairwise_cons→mQ,range→qh
open _root_.Nat renaming eq_zero_or_pos→zG,le_of_ble_eq_true→zH,le_refl→dt
open _root_.Option renaming bind_eq_some_iff→nj,bind_some→wN,map_eq_some_iff→fX,map_some→jE,none→I,some→Z
open _root_.Option.some renaming inj→ee,injEq→gB
open _root_.Prod.mk renaming injEq→fN
section
theorem V3:Tryz.prog.underlying 22=Z (.slice 28):=al
theorem u42:Tryz.prog.underlying 26=Z (.slice 71):=al
theorem u3:Tryz.prog.underlying 3=Z (.int .i64):=al
theorem u9:Tryz.prog.underlying 9=Z .string:=al
def Yx:af Field:=#[{name:= "Kind",type:=3,offset:=0,embedded:=Y,tag:= "",pkgPath:= "",byteOffset:=0},{name:= "W",type:=3,offset:=1,embedded:=Y,tag:= "",pkgPath:= "",byteOffset:=8},{name:= "A",type:=3,offset:=2,embedded:=Y,tag:= "",pkgPath:= "",byteOffset:=16},{name:= "B",type:=3,offset:=3,embedded:=Y,tag:= "",pkgPath:= "",byteOffset:=24},{name:= "C",type:=3,offset:=4,embedded:=Y,tag:= "",pkgPath:= "",byteOffset:=32},{name:= "P",type:=26,offset:=5,embedded:=Y,tag:= "",pkgPath:= "",byteOffset:=40}]
def Yy:af Field:=#[{name:= "Kind",type:=3,offset:=0,embedded:=Y,tag:= "",pkgPath:= "",byteOffset:=0},{name:= "Key",type:=3,offset:=1,embedded:=Y,tag:= "",pkgPath:= "",byteOffset:=8},{name:= "Value",type:=9,offset:=2,embedded:=Y,tag:= "",pkgPath:= "",byteOffset:=16}]
theorem u44:Tryz.prog.underlying 28=Z (.struct Yx):=al
theorem u81:Tryz.prog.underlying 71=Z (.struct Yy):=al
theorem c44:Tryz.prog.cellsOf 28=6:=al
theorem c81:Tryz.prog.cellsOf 71=3:=al
theorem c3:Tryz.prog.cellsOf 3=1:=al
theorem c9:Tryz.prog.cellsOf 9=1:=al
theorem c42:Tryz.prog.cellsOf 26=1:=al
theorem b44:Tryz.prog.bytesOf 28=64:=al
theorem b81:Tryz.prog.bytesOf 71=32:=al
section
variable {H:Type}{X:aK×ag->H}{W:ax}
noncomputable abbrev uv(X:aK×ag->H)(W):=DataW.trod X ak W 0 (λ_=>U) U
theorem LR{n}(h:(Lit.int .i64 n).wf=U):tG n:=by
 simp[Lit.wf,IntKind.min,IntKind.signed,IntKind.bits]at h;unfold tG;omega
theorem ao1{α:Type}{l:ae α}(h:l.length=3):∃a b c,l=[a,b,c]:=by
 rcases l with _|⟨a,_|⟨b,_|⟨c,_|⟨d,l⟩⟩⟩⟩<;>simp at h⊢
theorem ao2{α:Type}{l:ae α}(h:l.length=6):∃a b c d e f,l=[a,b,c,d,e,f]:=by
 rcases l with _|⟨a,_|⟨b,_|⟨c,_|⟨d,_|⟨e,_|⟨f,_|⟨g,l⟩⟩⟩⟩⟩⟩⟩<;>simp at h⊢
theorem ayi{d}{j}{x}(h:uv X W d 71 j=Z x):∃p:Stp,j=p.cells:=by
 obtain⟨B,n,rfl,rfl,A,G,e⟩:=DataW.trod_struct u81 h;obtain⟨a,b,c,rfl⟩:=ao1 A;have g:∀(i)(f),Yy[i]?=Z f->∃y,B[i]?=Z y:=λi f J=>⟨_,eI (by
  grind)⟩
 obtain⟨C,v⟩:=g 0 _ F;obtain⟨D,w⟩:=g 1 _ F;obtain⟨E,z⟩:=g 2 _ F;have l:uv X W n 3 (([a,b,c].drop 0).take (Tryz.prog.cellsOf 3))=Z C:=(e 0 _ F).trans v;have m:uv X W n 3 (([a,b,c].drop 1).take (Tryz.prog.cellsOf 3))=Z D:=(e 1 _ F).trans w;have o:uv X W n 9 (([a,b,c].drop 2).take (Tryz.prog.cellsOf 9))=Z E:=(e 2 _ F).trans z;rw[c3]at l m;rw[c9]at o;obtain⟨k,r,_⟩:=DataW.trod_int u3 l;obtain⟨q,t,_⟩:=DataW.trod_int u3 m;obtain⟨s,u,_⟩:=DataW.trod_string u9 o;simp only[List.drop_zero,List.take_succ_cons,List.take_zero,List.drop_succ_cons,List.cons.injEq,and_true]at r t u;exact⟨⟨k,q,s⟩,by rw[r,t,u];rfl⟩
theorem aba{H}{P}{e}{d}{n}:∀{a:ae (DataW H)},d∈a->n∈d.weights P e->n∈DataW.weightsAll P e a
 |x::a,b,c=>by
  simp only[DataW.weightsAll];rcases bM.1 b with rfl|b
  ·simp_all
  ·exact List.mem_append_right _ (aba b c)
theorem Q5{α:Type}{Q:Nat->α->Prop}:∀n:Nat,(∀i,i<n->∃a,Q i a)->∃l:ae α,l.length=n/\∀i a,l[i]?=Z a->Q i a
 |0,_=>⟨[],F,λi a h=>by simp at h⟩
 |n+1,h=>by
  obtain⟨l,d,g⟩:=Q5 n λi c=>h i ah;obtain⟨a,e⟩:=h n ah;refine⟨l++[a],by simp[d],λi b f=>?_⟩;by_cases c:i<n
  ·grind
  ·grind
theorem MU{a}{n}{e}(h:W.cells? 0 a n=Z e)(o:0<n):a.spot=I/\e.length=n/\∃c t f,W.heap[a.block]?=Z (.cells c t f)/\∀j,j<n->c[a.off+j]?=e[j]?:=by
 have m:∀j,j<n->W.cell? (a.add j)=e[j]?:=λj g=>mapM_some_get h j j (by simp[g]);have b:=mapM_some_length h;simp only[List.length_range]at b;have l:∀j,j<n->∃v,W.cell? (a.add j)=Z v:=λj g=>by
  simp_all
 obtain⟨s,d⟩:=l 0 o;have q:a.add 0=a:=rfl;unfold fU at d;split at d
 ·rename_i c t f i
  split at d
  ·cases d
  ·rename_i r
   have p:a.spot=I:=by
    cases hq:a.spot with
    |none=>rfl
    |some x=>simp_all
   refine⟨p,b,c,t,f,i,λj g=>?_⟩;rw[<-m j g];unfold fU;have k:W.heap[(a.add j).block]?=Z (.cells c t f):=by
    unfold Addr.add;split<;>exact i
   rw[k];simp only
   unfold Addr.add;split
   ·simp_all
   ·simp
 ·cases d
def WI(W:ax)(v:ag)(d:ae Stp):Prop:=(d=[]/\∃f a,v=.slice f 0 a)\/(0<d.length/\∃b c a e h g,v=.slice (Z ⟨b,c,I⟩) d.length a/\W.heap[b]?=Z (.cells e h g)/\U7 e c d)
theorem ar7{f}{b}{x}(h:uv X W f 26 b=Z x)(R:∀n∈x.1.weights ak 26,n<=reachBytes):∃v g,b=[v]/\WI W v g/\g.length<=4398046511104:=by
 rcases DataW.trod_slice u42 h with⟨rfl,rfl⟩|⟨a,e,k,d,rest,n,rfl,rfl,rfl,_,O,_,Zl,L,_⟩
 ·exact⟨_,[],rfl,.inl ⟨rfl,I,0,rfl⟩,by simp⟩
 ·
  have z:e<=4398046511104:=by
   have:=R _ (by
    simp only[DataW.weights,u42,b81,jM];exact eX ..)
   unfold reachBytes at this;omega
  rcases zG e with l|l
  ·subst l
   exact⟨_,[],rfl,.inl ⟨rfl,_,_,rfl⟩,by simp⟩
  ·have w:∀i,i<e->∃b y,W.cells? 0 (a.add (i*3)) 3=Z b/\uv X W n 71 b=Z y:=λi m=>by
    have s:=L i m;obtain⟨y,S⟩:∃y,d[i]?=Z y:=⟨_,eI ah⟩;rw[S]at s;obtain⟨b,G,J⟩:=nj.1 s;exact⟨b,y,G,J⟩
   obtain⟨Jo,y0,q1,q2⟩:=w 0 l;obtain⟨B,N,c,t,q,K,_⟩:=MU q1 aT;have D:a=⟨a.block,a.off,I⟩:=by
    have:a.add (0*3)=a:=rfl;rw[this]at B;cases a;subst B;rfl
   have o:W.heap[a.block]?=Z (.cells c t q):=K;obtain⟨g,V,C⟩:=Q5 (Q:=λi(p:Stp)=>∀j u,p.cells[j]?=Z u->c.toList[a.off+i*3+j]?=Z u) _ λi m=>by
    obtain⟨b,y,q3,q4⟩:=w i m;obtain⟨p,rfl⟩:=ayi q4;obtain⟨_,_,c',t',E,r,M⟩:=MU q3 aT;have oS:(a.add (i*3)).block=a.block:=by unfold Addr.add;split<;>rfl
    have T:(a.add (i*3)).off=a.off+i*3:=by
     unfold Addr.add;split
     ·omega
     ·rfl
    rw[oS,o]at r;cases r;refine⟨p,λj u A=>?_⟩;have mH:=(dq.1 A).1;have:=M j mH;rw[T,A]at this;rw[Cy];exact this
   refine⟨_,g,F,.inr ⟨by omega,a.block,a.off,k,c,t,q,by rw[V,<-D],o,λi p P=>C i p P⟩,by omega⟩
structure Mx(W:ax)(o:iY):Prop where
 k:tG o.kind
 w_:tG o.W
 A:tG o.A
 B:tG o.B
 C:tG o.C
 P:WI W o.P o.pr
 l:o.pr.length<=4398046511104
theorem arc{l}{q}{x}(h:uv X W l 28 q=Z x)(Q:∀n∈x.1.weights ak 28,n<=reachBytes):∃o:iY,q=o.cells/\Mx W o:=by
 obtain⟨xs,n,rfl,rfl,p,KE,k⟩:=DataW.trod_struct u44 h;obtain⟨a,b,c,d,e,f,rfl⟩:=ao2 p;have g:∀(i)(f),Yx[i]?=Z f->∃y,xs[i]?=Z y:=λi f hi=>⟨_,eI (by
  grind)⟩
 obtain⟨y0,G⟩:=g 0 _ F;obtain⟨y1,J⟩:=g 1 _ F;obtain⟨y2,K⟩:=g 2 _ F;obtain⟨y3,L⟩:=g 3 _ F;obtain⟨y4,M⟩:=g 4 _ F;obtain⟨E,N⟩:=g 5 _ F;have r:uv X W n 3 (([a,b,c,d,e,f].drop 0).take (Tryz.prog.cellsOf 3))=Z y0:=(k 0 _ F).trans G;have s:uv X W n 3 (([a,b,c,d,e,f].drop 1).take (Tryz.prog.cellsOf 3))=Z y1:=(k 1 _ F).trans J;have t:uv X W n 3 (([a,b,c,d,e,f].drop 2).take (Tryz.prog.cellsOf 3))=Z y2:=(k 2 _ F).trans K;have u:uv X W n 3 (([a,b,c,d,e,f].drop 3).take (Tryz.prog.cellsOf 3))=Z y3:=(k 3 _ F).trans L;have w:uv X W n 3 (([a,b,c,d,e,f].drop 4).take (Tryz.prog.cellsOf 3))=Z y4:=(k 4 _ F).trans M;have z:uv X W n 26 (([a,b,c,d,e,f].drop 5).take (Tryz.prog.cellsOf 26))=Z E:=(k 5 _ F).trans N;rw[c3]at r s t u w;rw[c42]at z;obtain⟨R,q0,_,w0⟩:=DataW.trod_int u3 r;obtain⟨S,A,_,w1⟩:=DataW.trod_int u3 s;obtain⟨T,B,_,w2⟩:=DataW.trod_int u3 t;obtain⟨V,q3,_,w3⟩:=DataW.trod_int u3 u;obtain⟨k4,C,_,w4⟩:=DataW.trod_int u3 w;have uf:=λm P=>Q m (by
  exact DataW.weights_mem_each (j:=5) (d:=E.1) F (by simp_all) m P)
 obtain⟨v,pr,D,O,p⟩:=ar7 z uf;simp only[List.drop_zero,List.take_succ_cons,List.take_zero,List.drop_succ_cons,List.cons.injEq,and_true]at q0 A B q3 C D;refine⟨⟨R,S,T,V,k4,v,pr⟩,by rw[q0,A,B,q3,C,D];rfl,LR w0,LR w1,LR w2,LR w3,LR w4,O,p⟩
theorem auL{p}{v:ag}{x}(h:uv X W p 22 v.cells.toList=Z x)(hv:v.cells.toList=[v])(L:∀n∈x.1.weights ak 22,n<=reachBytes):∃(k:ae iY)(B:aj aU)(d:Nat),v=.slice B k.length d/\(0<k.length->∃b r N ty R,B=Z ⟨b,r,I⟩/\W.heap[b]?=Z (.cells N ty R)/\F8 N r k)/\(∀o∈k,Mx W o)/\k.length<=2199023255552:=by
 rw[hv]at h;rcases DataW.trod_slice V3 h with⟨e,rfl⟩|⟨a,g,d,f,rest,n,rfl,e,rfl,_,γ,_,Zl,hi,_⟩
 ·simp only[List.cons.injEq,and_true]at e
  exact⟨[],I,0,e,λh=>absurd h ba,λo h=>by simp at h,by simp⟩
 ·simp only[List.cons.injEq,and_true]at e
  have J:g<=2199023255552:=by
   have:=L _ (by
    simp only[DataW.weights,V3,b44,jM];exact eX ..)
   unfold reachBytes at this;omega
  rcases zG g with s|s
  ·subst s
   exact⟨[],Z a,d,e,λh=>absurd h ba,λo h=>by simp at h,by simp⟩
  ·have G:∀i,i<g->∃l y,W.cells? 0 (a.add (i*6)) 6=Z l/\uv X W n 28 l=Z y/\∀m∈y.1.weights ak 28,m<=reachBytes:=λi w=>by
    have E:=hi i w;obtain⟨y,M⟩:∃y,f[i]?=Z y:=⟨_,eI ah⟩;rw[M]at E;obtain⟨l,T,V⟩:=nj.1 E;refine⟨l,y,T,V,λm hm=>L m ?_⟩;refine eK _ (List.mem_append_left _ (aba (og.2 ⟨y,jZ M,F⟩) hm))
   obtain⟨Jo,y0,q1,q2,_⟩:=G 0 s;obtain⟨iU,β,c,t,C,hb,_⟩:=MU q1 aT;have O:a=⟨a.block,a.off,I⟩:=by
    have:a.add (0*6)=a:=rfl;cases a;subst iU;rfl
   have z:W.heap[a.block]?=Z (.cells c t C):=hb;obtain⟨k,kC,A⟩:=Q5 (Q:=λi(o)=>Mx W o/\∀j u,o.cells[j]?=Z u->c.toList[a.off+i*6+j]?=Z u) _ λi w=>by
    obtain⟨l,y,q3,q4,q5⟩:=G i w;obtain⟨o,rfl,q⟩:=arc q4 q5;obtain⟨_,_,c',t',P,D,hj⟩:=MU q3 aT;have oS:(a.add (i*6)).block=a.block:=by unfold Addr.add;split<;>rfl
    have jR:(a.add (i*6)).off=a.off+i*6:=by
     unfold Addr.add;split
     ·omega
     ·rfl
    rw[oS,z]at D;cases D;refine⟨o,q,λj u K=>?_⟩;have mH:=(dq.1 K).1;have:=hj j mH;rw[jR,K]at this;rw[Cy];exact this
   refine⟨k,Z a,d,by rw[kC];exact e,λ_=>⟨a.block,a.off,c,t,C,by rw[<-O],z,λi o q=>(A i o q).2⟩,λo q=>?_,by omega⟩;obtain⟨i,S⟩:=List.getElem?_of_mem q;exact(A i o S).1
end
theorem afz:Sv=LL:=by
 unfold Sv;rfl
theorem apq{f}{a}{L}{R}(h:Fl Sv f a L R){W}(p:Kn L (low W).heap)(t)(d):Reach LL (λv w=>w.os=W.os/\w.output=W.output/\∃b,R v b/\Kn b w.heap) (lone (bO LL f a .normal) [hY LL] (re (low W) t d)):=by
 have c:=h [] (low W).heap (by simp_all) (re (low W) t d) F;rw[afz]at c;obtain⟨e,o,i,⟨v,rfl,l,m,b,q3,g⟩,⟨n,k⟩,_,j⟩:=c _;rw[rb]at g;exact⟨n,_,k,i,o,v,F,j,l,m,b,q3,g⟩
def vG:ae Nat:=[0,1,2,3,4,5]
structure Gt(W:ax)(A:Nat->aU):Prop where
 g8:∃a b,W.heap[(8:Nat)]?=Z (.finalizers a b)
 ow:∃a b,W.heap[(10:Nat)]?=Z (.finalizers a b)
 er:∀k:Nat,k<5->W.heap[k]?=Z (.cells #[aY (A k)] 63 (0,0))
 ty:W.heap[(5:Nat)]?=Z (.cells #[iw 63] 185 (0,0))
 ob:∀k:Nat,k<5->∃c t,W.heap[(A k).block]?=Z (.cells c t (0,0))
 G9:∀k:Nat,k<5->6<=(A k).block
 inj:∀i j,i<5->j<5->A i=A j->i=j
theorem FO{W}{b}{c}{t}{a}(h:W.heap[b]?=Z (.cells c t a))(d:b≠8)(e:b≠10):(low W).heap[b]?=Z (.cells c t a):=by
 rw[B2,h];simp only[jE,FN,bw,dO,d,e,if_false]
def l9(A:Nat->aU):ae (Nat×Obj):=[(0,.cells #[aY (A 0)] 63),(1,.cells #[aY (A 1)] 63),(2,.cells #[aY (A 2)] 63),(3,.cells #[aY (A 3)] 63),(4,.cells #[aY (A 4)] 63),(5,.cells #[iw 63] 185),(8,.chan 5 #[ai 0] Y 0 0 Y),(10,.chan 6 #[.chan I] Y 0 0 Y)]
section
variable {W:ax}{A:Nat->aU}(X:Gt W A)
include X
theorem Gt.ne{b}{c}{t}{a}(h:W.heap[b]?=Z (.cells c t a)):b≠8/\b≠10:=by
 obtain⟨x,y,d⟩:=X.g8;obtain⟨f,g,e⟩:=X.ow;constructor
 ·grind
 ·grind
theorem Gt.ers:rj (low W).heap vG A where
 ok:=λk b=>by
  obtain⟨c,t,h⟩:=X.ob k b;obtain⟨n8,a⟩:=X.ne h;refine⟨⟨c,t,FO h n8 a⟩,n8,a,λd=>?_⟩;have:=X.G9 k b;simp only[vG,bM,gV,or_false]at d;omega
 inj:=X.inj
theorem Gt.kn:Kn (lN (low W).heap vG A ⟨ai 0,0⟩ 0 0 0) (low W).heap:=by
 obtain⟨x,y,h⟩:=X.g8;obtain⟨r,s,n⟩:=X.ow;have e:=λk i=>FO (X.er k i) ah ah;refine⟨λq a=>?_,?_⟩
 ·simp only[nR,bM,pz,gV,or_false]at a
  rcases a with rfl|(rfl|rfl|rfl|rfl|rfl|rfl)|rfl|rfl
  ·exact⟨dt _,λx _ _ _ _=>rfl⟩
  ·exact e 0 aT
  ·exact e 1 aT
  ·exact e 2 aT
  ·exact e 3 aT
  ·exact e 4 aT
  ·exact FO X.ty aT aT
  ·show(low W).heap[8]?=_
   rw[B2,h];rfl
  ·show(low W).heap[10]?=_
   rw[B2,n];rfl
 ·have j:nR A++[gE ⟨ai 0,0⟩ 0,hE (.chan I) 0 0]=(l9 A).map λp=>En.ob p.1 p.2:=rfl
  have d:(l9 A).map (·.1)=[0,1,2,3,4,5,8,10]:=rfl;unfold lN;rw[j];refine mQ.2 ⟨λq a x b c=>?_,?_⟩
  ·obtain⟨p,m,rfl⟩:=og.1 a
   have f:=d▸jg m;have e:=c;rw[<-e]at f;obtain⟨_,n8,o,nx⟩:=b;simp only[vG,bM,gV,or_false]at f nx;omega
  ·have l:((l9 A).map (·.1)).Nodup:=by rw[d];decide
   rw[List.pairwise_map];exact(List.pairwise_map.1 l).imp λg x b c=>g (b.symm.trans c)
theorem Gt.scr{i}{u}(G:0<i.length->∃b d h r m,u=Z ⟨b,d,I⟩/\W.heap[b]?=Z (.cells h r m)/\F8 h d i)(H:∀o∈i,Mx W o)(J:i.length<=2199023255552):zQ (low W).heap vG [] u i:=by
 have y:∀{b d:Nat}{h}{r}{m}{n},W.heap[b]?=Z (.cells h r m)->h.toList[d]?=Z (ai n)->b∉vG:=λ{b d h r m n}f s z=>by
  have K:∃v:ag,h=#[v]/\∃a c,v=.iface a c:=by
   simp only[vG,bM,gV,or_false]at z;rcases z with rfl|rfl|rfl|rfl|rfl|rfl
   ·have:=f.symm.trans (X.er 0 aT);cases this;exact⟨_,rfl,_,_,rfl⟩
   ·have:=f.symm.trans (X.er 1 aT);cases this;exact⟨_,rfl,_,_,rfl⟩
   ·have:=f.symm.trans (X.er 2 aT);cases this;exact⟨_,rfl,_,_,rfl⟩
   ·have:=f.symm.trans (X.er 3 aT);cases this;exact⟨_,rfl,_,_,rfl⟩
   ·have:=f.symm.trans (X.er 4 aT);cases this;exact⟨_,rfl,_,_,rfl⟩
   ·have:=f.symm.trans X.ty;cases this;exact⟨_,rfl,_,_,rfl⟩
  obtain⟨v,rfl,a,c,rfl⟩:=K;cases d with
  |zero=>simp[ai]at s
  |succ k=>simp at s
 have E:∀o∈i,o.Ok (low W).heap vG:=λo w=>by
  obtain⟨k,M,D,B,C,P,l⟩:=H o w;refine⟨k,M,D,B,C,?_,l⟩;rcases P with⟨e,u,j,x⟩|⟨q,b,d,j,h,r,m,x,f,t⟩
  ·exact .inl ⟨e,u,j,x⟩
  ·obtain⟨n8,g⟩:=X.ne f
   obtain⟨p,L⟩:∃p,o.pr[0]?=Z p:=⟨_,eI q⟩;have s:=t 0 p L 0 _ rfl;exact .inr ⟨q,b,d,j,h,r,m,x,FO f n8 g,t,y f s,n8,g⟩
 rcases zG _ with q|q
 ·have e:i=[]:=IF.1 q
  subst e;exact auJ _
 ·obtain⟨b,d,h,r,m,rfl,f,t⟩:=G q
  obtain⟨n8,g⟩:=X.ne f;obtain⟨o,w⟩:∃o,i[0]?=Z o:=⟨_,eI q⟩;have s:=t 0 o w 0 _ rfl;exact auK (FO f n8 g) (y f s) n8 g t E J
theorem aoY{f}{a}(x:inner f=Y)(l:hasB fs f=U)(h:Fl Sv f a (lN (low W).heap vG A ⟨ai 0,0⟩ 0 0 0) (KS (low W).heap vG A)):∃M last o m p,iz ak (M+1) (solo (G (bO ak f a .normal) []) W) #[]=(.ended o m,p)/\dG ak M (solo (G (bO ak f a .normal) []) W)=.next last/\step ak last=.ended o m/\Conc.Good ak (λv e=>v=.bool U/\e.os=W.os/\e.output=W.output/\W.heap.size<=e.heap.size/\∀b:Nat,b<W.heap.size->e.heap[b]?=W.heap[b]?) last o m p:=by
 refine close x l X.g8 X.ow ?_ (λt d=>apq h X.kn t d) ?_
 ·rintro v w ⟨C,D,_,⟨_,i,j,N,O,s,rfl⟩,c⟩
  have L:=c.sat (.ro (low W).heap vG) (by simp[]);have r:∀k:Nat,k<5->w.heap[k]?=Z (.cells #[aY (A k)] 63 (0,0)):=λk P=>by
   have:k=0\/k=1\/k=2\/k=3\/k=4:=by omega
   rcases this with rfl|rfl|rfl|rfl|rfl
   ·exact c.sat (aQ 0 (aY (A 0))) (by simp[nR])
   ·exact c.sat (aQ 1 (aY (A 1))) (by simp[nR])
   ·exact c.sat (aQ 2 (aY (A 2))) (by simp[nR])
   ·exact c.sat (aQ 3 (aY (A 3))) (by simp[nR])
   ·exact c.sat (aQ 4 (aY (A 4))) (by simp[nR])
  have q:=c.sat (.ob 5 (.cells #[iw 63] 185)) (by simp[nR]);have y:=c.sat (gE i j) (by simp[]);refine⟨⟨i.n,j,?_⟩,C,D,λb l u B=>?_⟩
  ·have n:w.heap[bw]?=Z (.chan 5 #[i.v] Y i.n j Y):=y
   rw[s]at n;exact n
  ·by_cases g:b∈vG
   ·simp only[vG,bM,gV,or_false]at g
    have:b<5\/b=5:=by omega
    rcases this with g|rfl
    ·rw[r b g]
     exact(FO (X.er b g) ah ah).symm
    ·rw[q]
     exact(FO X.ty aT aT).symm
   ·exact L.2 b (by rw[Ov];exact l) u B g
 ·rintro v w e ⟨_,_,_,⟨z,_⟩,_⟩ E H J K
  exact⟨z,E,H,J,K⟩
end
section
open Go.ChangeShapes Go.WideShapes
theorem gl0:Tryz.prog.globalNamed "mvstore/mv.ErrShape"=Z 0:=al
theorem gl1:Tryz.prog.globalNamed "mvstore/mv.ErrProgram"=Z 1:=al
theorem gl2:Tryz.prog.globalNamed "mvstore/mv.ErrMany"=Z 2:=al
theorem gl3:Tryz.prog.globalNamed "mvstore/mv.ErrClient"=Z 3:=al
theorem gl4:Tryz.prog.globalNamed "mvstore/mv.ErrStopped"=Z 4:=al
theorem gl5:Tryz.prog.globalNamed "errors.errorType"=Z 5:=al
theorem gt0:(Tryz.prog.globals[0]?).map (·.type)=Z 63:=al
theorem gt1:(Tryz.prog.globals[1]?).map (·.type)=Z 63:=al
theorem gt2:(Tryz.prog.globals[2]?).map (·.type)=Z 63:=al
theorem gt3:(Tryz.prog.globals[3]?).map (·.type)=Z 63:=al
theorem gt4:(Tryz.prog.globals[4]?).map (·.type)=Z 63:=al
theorem LO:Tryz.prog.underlying 63=Z (.interface #[("Error",256)]):=al
theorem LM:Tryz.prog.underlying 255=Z (.pointer 275):=al
theorem LN:Tryz.prog.underlying 275=Z (.struct #[{name:= "s",type:=9,offset:=0,embedded:=Y,tag:= "",pkgPath:= "errors",byteOffset:=0}]):=al
theorem Jj:Tryz.prog.cellsOf 275=1:=al
theorem star: "*"++ "errors.errorString"= "*errors.errorString":=by decide
theorem Ln(u)(h:Tryz.prog.typeName? 3 u=Z "*errors.errorString"):u=255:=typeName_ptr_named (by rw[star];kernel_rfl) al aT u (by exact h)
def Yn:ae (String×DataW Unit):=[("mvstore/mv.ErrShape",Rows.laid_mvstore_mv_ErrShape),("mvstore/mv.ErrProgram",Rows.laid_mvstore_mv_ErrProgram),("mvstore/mv.ErrMany",Rows.laid_mvstore_mv_ErrMany),("mvstore/mv.ErrClient",Rows.laid_mvstore_mv_ErrClient),("mvstore/mv.ErrStopped",Rows.laid_mvstore_mv_ErrStopped)]
def KR:ae (String×DataW Unit):=("errors.errorType",Rows.laid_errors_errorType)::Yn
theorem auY{W}(h:laidMet ak Yn W):∃A:Nat->aU,(∀k,k<5->W.cell? ⟨k,0,I⟩=Z (aY (A k)))/\(∀k,k<5->∃s,W.cell? (A k)=Z (.string s))/\(∀k,k<5->∃c t,W.heap[(A k).block]?=Z (.cells c t (0,0)))/\∀k m,k<5->m<5->k≠m->A k≠A m:=by
 obtain⟨ps,⟨x0,y0,T,f0,p0,q0,D,X,M,nB,⟨x1,y1,iC,f1,p1,q1,n,R,L,tW,⟨x2,y2,uO,f2,p2,q2,l,Tk,N,tX,⟨x3,y3,r,f3,p3,q3,o,Tm,O,z,⟨x4,y4,w,f4,p4,q4,p,V,P,B,C,e4⟩,e3⟩,e2⟩,e1⟩,e0⟩,nV,b⟩:=h;obtain rfl:=ee (gl0.symm.trans D);obtain rfl:=ee (gl1.symm.trans n);obtain rfl:=ee (gl2.symm.trans l);obtain rfl:=ee (gl3.symm.trans o);obtain rfl:=ee (gl4.symm.trans p);obtain rfl:=ee (gt0.symm.trans X);obtain rfl:=ee (gt1.symm.trans R);obtain rfl:=ee (gt2.symm.trans Tk);obtain rfl:=ee (gt3.symm.trans Tm);obtain rfl:=ee (gt4.symm.trans V);have q:=C;subst q e4 e3 e2 e1 e0;obtain⟨l0⟩:=T;obtain⟨l1⟩:=iC;obtain⟨l2⟩:=uO;obtain⟨l3⟩:=r;obtain⟨l4⟩:=w;have E:∀u v,l0=[.iface u v]->Value.okWide ak W .any 0 u v:=λu v e=>by
  subst e;exact(b 0 0 (by simp[MemPlace.row])).2 u v (by simpa using Ba D M 0)
 have G:∀u v,l1=[.iface u v]->Value.okWide ak W .any 0 u v:=λu v e=>by
  subst e;exact(b 1 0 (by simp[MemPlace.row])).2 u v (by simpa using Ba n L 0)
 have H:∀u v,l2=[.iface u v]->Value.okWide ak W .any 0 u v:=λu v e=>by
  subst e;exact(b 2 0 (by simp[MemPlace.row])).2 u v (by simpa using Ba l N 0)
 have J:∀u v,l3=[.iface u v]->Value.okWide ak W .any 0 u v:=λu v e=>by
  subst e;exact(b 3 0 (by simp[MemPlace.row])).2 u v (by simpa using Ba o O 0)
 have K:∀u v,l4=[.iface u v]->Value.okWide ak W .any 0 u v:=λu v e=>by
  subst e;exact(b 4 0 (by simp[MemPlace.row])).2 u v (by simpa using Ba p P 0)
 obtain⟨a0,s0,rfl,kW,oF,β,rfl⟩:=errorString_of_trod LO Ln LM LN F F u9 Jj c9 nB E;obtain⟨d,s1,rfl,gP,nE,FB,rfl⟩:=errorString_of_trod LO Ln LM LN F F u9 Jj c9 tW G;obtain⟨f,s2,rfl,S,gd,AE,rfl⟩:=errorString_of_trod LO Ln LM LN F F u9 Jj c9 tX H;obtain⟨g,s3,rfl,x,BT,γ,rfl⟩:=errorString_of_trod LO Ln LM LN F F u9 Jj c9 z J;obtain⟨i,s4,rfl,y,BU,δ,rfl⟩:=errorString_of_trod LO Ln LM LN F F u9 Jj c9 B K;have b0:=(b a0.block a0.off (by simp[MemPlace.row])).1;have b1:=(b d.block d.off (by simp[MemPlace.row])).1;have b2:=(b f.block f.off (by simp[MemPlace.row])).1;have b3:=(b g.block g.off (by simp[MemPlace.row])).1;have b4:=(b i.block i.off (by simp[MemPlace.row])).1;have a:∀k,k<5->k=0\/k=1\/k=2\/k=3\/k=4:=λk h=>by omega
 have az:a0≠d/\a0≠f/\a0≠g/\a0≠i/\d≠f/\d≠g/\d≠i/\f≠g/\f≠i/\g≠i:=by
  refine⟨?_,?_,?_,?_,?_,?_,?_,?_,?_,?_⟩<;>(grind)
 obtain⟨ε,ζ,η,θ,ι,κ,μ,ν,ξ,π⟩:=az;refine⟨λk=>[a0,d,f,g,i].getD k a0,λk j=>?_,λk j=>?_,λk j=>?_,λk m j hm Q=>?_⟩
 ·rcases a k j with rfl|rfl|rfl|rfl|rfl
  ·simpa using Ba D M 0
  ·simpa using Ba n L 0
  ·simpa using Ba l N 0
  ·simpa using Ba o O 0
  ·simpa using Ba p P 0
 ·rcases a k j with rfl|rfl|rfl|rfl|rfl
  ·exact⟨_,kW⟩
  ·exact⟨_,gP⟩
  ·exact⟨_,S⟩
  ·exact⟨_,x⟩
  ·exact⟨_,y⟩
 ·rcases a k j with rfl|rfl|rfl|rfl|rfl
  ·exact b0
  ·exact b1
  ·exact b2
  ·exact b3
  ·exact b4
 ·rcases a k j with rfl|rfl|rfl|rfl|rfl<;>rcases a m hm with rfl|rfl|rfl|rfl|rfl<;>first|exact absurd rfl Q|assumption|exact Ne.symm (by assumption)
end
section
open Go.ChangeShapes Go.WideShapes
def isFin:Obj->Bool
 |.finalizers .. =>U
 |_=>Y
theorem anJ{o}(h:isFin o=U):∃a b,o=.finalizers a b:=by
 cases o<;>simp[isFin]at h;exact⟨_,_,F⟩
theorem bg8:((begin ak (λ_ _=>0) default).world.heap[8]?).map isFin=Z U:=al
theorem agq:((begin ak (λ_ _=>0) default).world.heap[10]?).map isFin=Z U:=al
theorem bgz:Nat.ble 11 (begin ak (λ_ _=>0) default).world.heap.size=U:=al
theorem bg0:(((begin ak (λ_ _=>0) default).world.heap[0]?).bind Obj.row?).map (λp=>(p.1.size,p.2))=Z (1,63):=al
theorem bg1:(((begin ak (λ_ _=>0) default).world.heap[1]?).bind Obj.row?).map (λp=>(p.1.size,p.2))=Z (1,63):=al
theorem bg2:(((begin ak (λ_ _=>0) default).world.heap[2]?).bind Obj.row?).map (λp=>(p.1.size,p.2))=Z (1,63):=al
theorem bg3:(((begin ak (λ_ _=>0) default).world.heap[3]?).bind Obj.row?).map (λp=>(p.1.size,p.2))=Z (1,63):=al
theorem bg4:(((begin ak (λ_ _=>0) default).world.heap[4]?).bind Obj.row?).map (λp=>(p.1.size,p.2))=Z (1,63):=al
theorem bg5:(((begin ak (λ_ _=>0) default).world.heap[5]?).bind Obj.row?).map (λp=>(p.1.size,p.2))=Z (1,185):=al
theorem gsz:Tryz.prog.globals.size=6:=al
theorem aua:((qh Tryz.prog.types.size).all λt=>!Tryz.prog.rowNamed t [101,114,114,111,114]||t==63)=U:=al
theorem ahp:(Tryz.prog.cutTypes.find? (·.1== "internal/reflectlite.rtype")).map (·.2)=Z 216:=al
theorem amu:Value.iface 216 (.agg #[typeHandle ak 63])=iw 63:=al
theorem nmE:(Rows.laid_errors_errorType:DataW Unit).handleName?=Z [101,114,114,111,114]:=al
section
variable {W:ax}
theorem YK(d:W.ShapedOpen ak){g}{t}(k:g<6)(h:(((begin ak (λ_ _=>0) default).world.heap[g]?).bind Obj.row?).map (λp=>(p.1.size,p.2))=Z (1,t)):∃v,W.heap[g]?=Z (.cells #[v] t (0,0)):=by
 obtain⟨⟨c,m⟩,e,b⟩:=fX.1 h;simp only[fN]at b;obtain⟨f,rfl⟩:=b;obtain⟨a,i,j,_⟩:=d.1 g _ _ (by exact k) e;obtain⟨v,rfl⟩:∃v,a=#[v]:=by
  obtain⟨l⟩:=a;have:l.length=1:=by rw[<-f];exact j
  rcases l with _|⟨v,_|⟨x,l⟩⟩<;>simp at this⊢
 exact⟨v,i⟩
theorem Yl(c:W.ShapedOpen ak){k}(g:k=8\/k=10)(h:((begin ak (λ_ _=>0) default).world.heap[k]?).map isFin=Z U):∃a b,W.heap[k]?=Z (.finalizers a b):=by
 have j:=zH bgz;obtain⟨o,l,d,e,f⟩:=c.2 k (by rw[gsz];omega) ah;have i:World.looseAt (k-Tryz.prog.globals.size)=U:=by
  rcases g with rfl|rfl<;>rfl
 rw[e]at h;simp only[jE,gB]at h;obtain⟨a,b,rfl⟩:=anJ h;cases o<;>first|exact⟨_,_,d⟩|(simp[Obj.alike]at f)
theorem agm(f:W.ShapedOpen ak)(G:laidMetH ak KR W):∃A,Gt W A:=by
 have o:=G;obtain⟨A,E,J,H,L⟩:=auY o.1;have g:∀k:Nat,k<5->(((begin ak (λ_ _=>0) default).world.heap[k]?).bind Obj.row?).map (λp=>(p.1.size,p.2))=Z (1,63):=λk d=>by
  have:k=0\/k=1\/k=2\/k=3\/k=4:=by omega
  rcases this with rfl|rfl|rfl|rfl|rfl
  ·exact bg0
  ·exact bg1
  ·exact bg2
  ·exact bg3
  ·exact bg4
 have h:∀k:Nat,k<5->W.heap[k]?=Z (.cells #[aY (A k)] 63 (0,0)):=λk d=>by
  obtain⟨v,b⟩:=YK f ah (g k d);have a:=E k d;unfold fU at a;rw[b]at a;have:v=aY (A k):=by simpa using a
  rw[b,this]
 have w:W.heap[(5)]?=Z (.cells #[iw 63] 185 (0,0)):=by
  obtain⟨v,b⟩:=YK f aT bg5;have B:=o.2 _ (my.2 F);have C:=B;obtain⟨r,u,K,l,m,x,y,c⟩:=C;rw[nmE]at l;rw[ahp]at m;cases l;cases m;have n:=Ei.1 aua _ (List.mem_range.2 x);rw[y]at n;have z:K=63:=by simpa using n
  subst z;unfold World.var? at c;rw[gl5]at c;simp only[wN]at c;rw[b]at c;simp only[gB]at c;rw[b,c,amu]
 refine⟨A,Yl f (.inl F) bg8,Yl f (.inr F) agq,h,w,H,λk d=>?_,λi j M N e=>?_⟩
 ·obtain⟨s,a⟩:=J k d
  rcases Nat.lt_or_ge (A k).block 6 with q|q
  ·exfalso
   have:∃v t,W.heap[(A k).block]?=Z (.cells #[v] t (0,0))/\∀s,v≠.string s:=by
    rcases Nat.lt_or_ge (A k).block 5 with D|D
    ·simp_all
    ·grind
   obtain⟨v,t,b,O⟩:=this;unfold fU at a;rw[b]at a;simp only at a;split at a
   ·cases a
   ·grind
  ·exact q
 ·grind
end
end
section
open Go.ChangeShapes Go.WideShapes Go.RowKit
theorem own:ownKnob Tryz.prog.godebug=I:=al
theorem aaH:laidOutB ak=U:=al
theorem u4:Tryz.prog.underlying 4=Z .bool:=al
section
variable {H:Type}{X:aK×ag->H}{W V:ax}
theorem aoe(c:V.os=W.os)(d:V.output=W.output)(e:∀b:Nat,b<W.heap.size->V.heap[b]?=W.heap[b]?)(a):W.keptBut V a:=by
 refine⟨c,d,λi f=>?_⟩;rw[e i f];cases W.heap[i]? with
 |none=>rfl
 |some o=>grind
theorem carry{t}(c:Tryz.prog.readableRec t=U)(d:t<Tryz.prog.types.size)(g:W.keptBut V λ_=>False){n}{f}{x}(h:DataW.trod X ak W 0 (λ_=>U) U n t f=Z x):DataW.trod X ak V 0 (λb=>decide (b<W.heap.size)) U n t f=Z x:=by
 have aC:=DataW.trod_lt n t _ x h;exact DataW.trod_stays (kids_book aaH c) (book_sized c) (λh=>by cases h) ⟨d,book_self t⟩ h
  (λp a=>g.sameAt (aC p a) (λh=>h) (λb e=>by
    have:=DataW.trod_good (kids_book aaH c) (λh=>by cases h) n t _ x ⟨d,book_self t⟩ h p a;subst e;exact this))
  (λp a=>by simpa using aC p a)
end
structure Ms(f:cH)(fn:dK)(s:ChangeSpec):Prop where
 at_:Tryz.prog.funcs[f]?=Z fn
 params:fn.params.toList=[22]
 results:fn.resultTypes.toList=[4]
 Pj:fn.resultTypes.size=1
 vars:s.vars=[]
 Pq:∀(H:Type)(d:DataW H),s.fn H [d]={results:=[.lit (.bool U)],args:=[d]}
 out:inner f=Y
 body:hasB fs f=U
 law:∀(S:Hp)(ex:ae Nat)(A:Nat->aU),rj S ex A->∀(ad:aj aU)(os:ae iY)(cap:Nat),zQ S ex [] ad os->Fl Sv f [.slice ad os.length cap].toArray (lN S ex A ⟨ai 0,0⟩ 0 0 0) (KS S ex A)
theorem atx:Tryz.prog.readableRec 22=U:=al
theorem apH:22<Tryz.prog.types.size:=by
 simp
theorem TL{f}{m}{s}(L:Ms f m s)(y)(g:y.Started)(H)(X:aK×ag->H)(F)
  (k:∃(w:ax)(b:Tape)(i:Input),w.os=y/\(w.forCall b i).Shaped ak/\i.vars=[]/\Input.okWide ak (w.forCall b i) .any w.heap.size f i/\
    ((s.pre X ak m [] Y (w.forCall b i).memory i.args/\laidMetH ak KR (w.forCall b i).memory)/\sizedMet X ak m (OpenSpec.ofChange s) Y (w.forCall b i).memory i.args)/\
    ({calm:=U}:Assume).holds ak (lone (bO ak f i.args .normal) [] (w.forCall b i))):
  ReturnsInLeavingWide {calm:=U} Tryz.checked y f .any (λw c=>(s.pre X ak m [] Y w c/\laidMetH ak KR w)/\sizedMet X ak m (OpenSpec.ofChange s) Y w c) ((OpenSpec.ofChange s).postWith X ak m F (outsideKept [.timePasses]) Y U Y):=by
 refine returnsInLeavingWide_of_good own g k ?_;intro w b i _ fD _ cy Ko _;obtain⟨_,_,_,Ha,D,_,_,_,_,AB⟩:=cy;have e:=ee (D.symm.trans L.at_);subst e;obtain⟨⟨⟨ds,gs,z,hw,hc⟩,G⟩,hz⟩:=Ko;have hW:=DataW.Whole.of_heap (w':=w.forCall b i) (by rfl) hw;have J:=laidMetH.of_heap (w':=w.forCall b i) (by rfl) G;have β:=hz.weights hw;generalize w.forCall b i=W at*;have Y4:=hW;obtain⟨p,q,hA,hV,rfl,NR,nV⟩:=hW;have P:=L.params▸hA;obtain⟨v,d,C,rfl,t,hd⟩:=trodAll_one P;have R:=L.vars▸hV;obtain⟨rfl,rfl⟩:=trodVars_none R;have Kk:Ha.params[0]?=Z 22:=by rw[<-Cy,L.params];rfl
 have hv:=AB 0 _ v Kk (by rw[C];rfl);obtain⟨a,ζ,ε,rfl⟩:=okWide_slice V3 hv;have N:=λn hn=>by
  have B:=Ei.1 β n (DataW.weights_mem_each (j:=0) (by rw[L.params];rfl) rfl n hn);simpa using B
 obtain⟨δ,ad,l,T,gG,aO,u⟩:=auL hd rfl N;obtain⟨A,Q⟩:=agm fD J;have hF:=L.law _ _ A Q.ers _ _ l (Q.scr gG aO u);obtain⟨M,x,o,r,t',B,h2,h3,v',ho,⟨Fz,k1,k2,k3,k4⟩,r1,r2,r3,r4⟩:=aoY Q L.out L.body hF;have S:i.args=[.slice ad δ.length l].toArray:=by rw[C,T]
 rw[<-S]at B h2;have hk:=λγ=>aoe k1 k2 k4 γ;have E:s.post X ak Ha Y U Y Y W i.args v' {r with os:=W.os}:=by
  have K:({r with os:=W.os})=r:=by rw[<-k1]
  rw[K];have O:s.fn H ([d]++[])={results:=[.lit (.bool U)],args:=[d]}:=L.Pq H d;refine⟨[d],[],p++[],[],p,[],Y4,?_,?_,?_,hk _,λh=>by cases h⟩
  ·rw[O,L.results,L.Pj,Fz]
   exact trodAll_mk1 (shut_bool u4 _)
  ·rw[O,L.params,C]
   exact trodAll_mk1 ⟨t,carry atx apH (hk _) hd⟩
  ·rw[O,L.vars]
   rfl
 exact⟨M,x,o,r,t',B,h2,h3,v',ho,postWith_blind (postWith_of_post E (by rw[k1];exact Go.ConcM.OsLater.refl _)),r1,r2,r3,r4⟩
end
abbrev tx0:ByteArray:={data:=#[110,111,32,115,117,99,104,32,115,116,111,114,101]}
abbrev tx1:ByteArray:={data:=#[110,111,32,112,114,111,103,114,97,109]}
abbrev tx2:ByteArray:={data:=#[116,111,111,32,109,97,110,121,32,99,108,105,101,110,116,115]}
abbrev tx3:ByteArray:={data:=#[110,111,32,115,117,99,104,32,99,108,105,101,110,116]}
abbrev tx4:ByteArray:={data:=#[116,104,101,32,115,116,111,114,101,32,104,97,115,32,98,101,101,110,32,115,116,111,112,112,101,100]}
noncomputable def lowest:Nat:=(World.holding ak default ⟨#[],#[],[]⟩).heap.size
noncomputable def lay(k:Nat)(v:ag)(h:af Obj):af Obj:=h.modify k λ
 |.cells _ t frozen=>.cells #[v] t frozen
 |o=>o
noncomputable def KT(k:Nat)(h:af Obj):af Obj:=lay k (aY ⟨lowest+k,0,I⟩) h
noncomputable def FK(b:Os):ax:=
 let a:=World.holding ak b ⟨#[.cells #[.string tx0] 275,.cells #[.string tx1] 275,.cells #[.string tx2] 275,.cells #[.string tx3] 275,.cells #[.string tx4] 275],#[],[]⟩
 {a with heap:=lay 5 (iw 63) (KT 0 (KT 1 (KT 2 (KT 3 (KT 4 a.heap)))))}
theorem aoS(b)(a):laidMetH ak KR ((FK b).forCall (λ_ _=>0) ⟨#[],a,[]⟩).memory:=by
 refine laidMetH_of_parts ?_ al;exact laidMet_of_run' 8 al al
theorem TM{f}{d}{s}(c){H}{b:aK×ag->H}
  (k:((FK c).forCall (λ_ _=>0) ⟨#[],#[.slice I 0 0],[]⟩).variablesB ak=U)
  (j:(((FK c).forCall (λ_ _=>0) ⟨#[],#[.slice I 0 0],[]⟩).heap.toList.drop Tryz.prog.globals.size).take ((begin ak (λ_ _=>0) default).world.heap.size-Tryz.prog.globals.size)=(begin ak (λ_ _=>0) default).world.heap.toList.drop Tryz.prog.globals.size)
  (e:Input.okWideB ak ((FK c).forCall (λ_ _=>0) ⟨#[],#[.slice I 0 0],[]⟩) f ⟨#[],#[.slice I 0 0],[]⟩=U)
  (g:s.preB b ak d [] Y ((FK c).forCall (λ_ _=>0) ⟨#[],#[.slice I 0 0],[]⟩).memory #[.slice I 0 0] 8=U)
  (h:s.sizedB b ak d Y ((FK c).forCall (λ_ _=>0) ⟨#[],#[.slice I 0 0],[]⟩).memory #[.slice I 0 0] 8=U):
  ∃(w:ax)(a:Tape)(i:Input),w.os=c/\(w.forCall a i).Shaped ak/\i.vars=[]/\Input.okWide ak (w.forCall a i) .any w.heap.size f i/\
   ((s.pre b ak d [] Y (w.forCall a i).memory i.args/\laidMetH ak KR (w.forCall a i).memory)/\sizedMet b ak d (OpenSpec.ofChange s) Y (w.forCall a i).memory i.args)/\
   ({calm:=U}:Assume).holds ak (lone (bO ak f i.args .normal) [] (w.forCall a i)):=
 ⟨FK c,λ_ _=>0,⟨#[],#[.slice I 0 0],[]⟩,F,World.shaped_of_B k j,(Input.okWide_of_okWideB (base:=0) e).1,(Input.okWide_of_okWideB e).2,⟨⟨ChangeSpec.pre_of_preB g,aoS .. ⟩,sizedMet_of_sizedB h⟩,by
  exact⟨by simp,λ_ _ _ _=>rfl,by simp,by simp,by simp⟩⟩
theorem VY{p}{s}{c}(a)(b)(lk)
  (n:c.holds p s)(w:c.wfByText s=U)(d:c.laidByTextAt .later p a U)
  (i:c.start=.entering)(g:c.noBlocks=Y/\c.again=Y)(u:p.checked.prog.mainIs=Z (b.1,b.2.toList))(v:(!b.1&&b.2.isEmpty&&!lk)=Y)
  (q:∀f e,p.checked.prog.funcNamed c.func=Z f->p.checked.prog.funcs[f]?=Z e->lk=p.checked.prog.looks []/\∀(j:Nat)t,e.params[j]?=Z t->p.checked.prog.wantsStandIn t=Y)
  (o:U=c.goesBy p.checked.prog):
  Claim7.holds p (.plain s) {stood:={row:=c,standIns:=[],harness:=b,looks:=lk},kinds:=[],alts:=[],goes:=U,laidByText:=U,laidKinds:=a,laidTests:=U,laidLooks:=.later}:=by
 have l:∀r:OpenClaim,Claim7.isSixth {stood:={row:=r,standIns:=[],harness:=b,looks:=lk},kinds:=[]}=Y:=λr=>by simpa[Claim7.isSixth]using v
 have k:=Claim7.tied_new_at .later a U (Claim7.new_of_sixth n _ _ i g u (l c) q) w;exact⟨k,(λD m=>by cases m),d,(λh=>by cases h),o⟩
theorem TW{f}{b}(e:Tryz.prog.funcs[f]?=Z b)(i:b.params=#[22]){g:cH}{c}(h:g=f)(d:Tryz.prog.funcs[g]?=Z c):U=Tryz.prog.looks []/\∀(j:Nat)t,c.params[j]?=Z t->Tryz.prog.wantsStandIn t=Y:=by
 subst h;obtain rfl:c=b:=ee (d.symm.trans e);refine⟨by kernel_rfl,λj t a=>?_⟩;rw[i]at a;rcases j with _|j
 ·simp only[List.getElem?_toArray,qe,gB]at a
  subst a;kernel_rfl
 ·simp at a
theorem aDs:Ms 3 Tryz.f3 Rows.sweepsSpec where
 at_:=Tryz.func3
 params:=by kernel_rfl
 results:=by kernel_rfl
 Pj:=by kernel_rfl
 vars:=rfl
 Pq:=λ_ _=>rfl
 out:=by kernel_rfl
 body:=by kernel_rfl
 law:=λ_ _ _ c b e a d=>aDJ c b e a d ⟨ai 0,0⟩ 0 0 0 F
theorem sweeps_row:Rows.SweepsSaid:=OpenClaim.holds_of_wide_leaving_time 3 Tryz.f3 rfl rfl rfl rfl rfl rfl rfl ⟨rfl,rfl,rfl,rfl,rfl⟩ rfl rfl rfl rfl rfl al Tryz.func3 al
                                     (of_decide_eq_true al) (by unfold Func.isWrapper;rw[if_neg (of_decide_eq_false al)];exact⟨rfl,rfl⟩)
                                     (λc a H b _ F=>TL aDs c a H b F (TM c al al al al al))
theorem sweeps_card:Rows.SweepsCardSaid:=VY [.handle,.sentinel,.sentinel,.sentinel,.sentinel,.sentinel] (U,"12c968d1f2f6b1242e0865cadb3c3340cd010537220d92d12ac07f4d8ca8e1d6") U
                                          sweeps_row al sweeps_row_tie F ⟨F,F⟩ al F
                                          (λf c b a=>TW Tryz.func3 al (ee ((show Tryz.prog.funcNamed "mvstore/mvstorelaw.Sweeps"=Z 3 by kernel_rfl).symm.trans b)).symm a)
                                          al
end
end Go.Proofs.YtgahemdblfapeabGreatDoor
