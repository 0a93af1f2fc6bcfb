/- The given card of mvstore/mvstorelaw.Ends holds: ends_card proves EndsCardSaid; no condition beyond those that the statement itself makes. -/
import Derived.Test.YtgahemdblfapeaaGreatDoorA04
import Derived.Test.YtgahemdblfapeaaGreatDoorA06
set_option maxRecDepth 100000
set_option maxHeartbeats 4000000
set_option linter.all false
namespace Go.Proofs.YtgahemdblfapeaaGreatDoor
open Go.Conc
open _root_.Array renaming getElem?_toList→Cy
open _root_.Bool renaming and_eq_true→gT,false→Y,false_eq_true→hZ,true→U
open Go renaming Addr→aU,Code→bH,Deferred→cz,Func→dK,FuncId→cH,Item→aJ,Operand→iP,Program→aD,TypeId→aK,Value→ag,World→ax,goInt→ai,runN→dG,runNT→iz
open Go.Frame renaming enter→bO
open Go.Proofs.Tryz renaming prog→ak
open Go.Sem renaming run_bind→oh
open Go.World renaming cell?→fU,var?_cell→Ba
open _root_.Int renaming le_refl→gU
open _root_.List renaming all_eq_true→Ei,append_nil→rb,eq_nil_of_length_eq_zero→zC,getD_eq_getElem?_getD→wI,getElem?_append_left→LZ,getElem?_cons_zero→qe,getElem?_eq_getElem→eI,getElem?_eq_none→Gr,getElem?_eq_some_iff→dq,getElem?_map→fW,getElem?_modify→Gs,getElem?_of_mem→CE,getElem?_set_ne→uH,getElem?_set_self→zD,length→vq,length_append→oe,length_cons→jY,length_eq_zero_iff→IF,length_map→jM,length_nil→uI,length_pos_of_mem→IG,length_reverse→IH,map_cons→fw,map_set→wL,mem_append→pz,mem_cons→bM,mem_cons_of_mem→eK,mem_cons_self→eX,mem_map→og,mem_map_of_mem→jg,mem_of_getElem?→jZ,mem_singleton→my,nodup_cons→oO,not_mem_nil→gV,pairwise_append→CH,pairwise_cons→mQ,range→qh,replicate→kq
open _root_.List.Pairwise renaming nil→Eh
open _root_.Nat renaming eq_zero_or_pos→zG,le_of_ble_eq_true→zH,le_refl→dt,le_succ→wM,le_succ_of_le→El,le_trans→rU,zero_le→gJ
open _root_.Option renaming bind_eq_some_iff→nj,bind_some→wN,map_eq_some_iff→fX,map_some→jE,none→I,some→Z,some→iQ
open _root_.Option.some renaming inj→ee,injEq→gB
open _root_.Prod.mk renaming injEq→fN
section
variable {a:Gc}{S:Hp}{b t w:Int}{K i j k:Nat}{A:Nat→Addr}{σ:Sg}{p:Stp}{α:Type}{C:ae (ae aZ)}{l:ae aZ}
theorem V3:Tryz.prog.underlying 22=Z (.slice 44):=al
theorem u42:Tryz.prog.underlying 42=Z (.slice 81):=al
theorem u3:Tryz.prog.underlying 3=Z (.int .i64):=al
theorem u9:Tryz.prog.underlying 9=Z .string:=al
def Yx:af Field:=#[{name:= "Kind",type:=3,offset:=0,embedded:=Y,tag:= "",pkgPath:= "",byteOffset:=0},{name:= "W",type:=3,offset:=1,embedded:=Y,tag:= "",pkgPath:= "",byteOffset:=8},{name:= "A",type:=3,offset:=2,embedded:=Y,tag:= "",pkgPath:= "",byteOffset:=16},{name:= "B",type:=3,offset:=3,embedded:=Y,tag:= "",pkgPath:= "",byteOffset:=24},{name:= "C",type:=3,offset:=4,embedded:=Y,tag:= "",pkgPath:= "",byteOffset:=32},{name:= "P",type:=42,offset:=5,embedded:=Y,tag:= "",pkgPath:= "",byteOffset:=40}]
def Yy:af Field:=#[{name:= "Kind",type:=3,offset:=0,embedded:=Y,tag:= "",pkgPath:= "",byteOffset:=0},{name:= "Key",type:=3,offset:=1,embedded:=Y,tag:= "",pkgPath:= "",byteOffset:=8},{name:= "Value",type:=9,offset:=2,embedded:=Y,tag:= "",pkgPath:= "",byteOffset:=16}]
theorem u44:Tryz.prog.underlying 44=Z (.struct Yx):=al
theorem u81:Tryz.prog.underlying 81=Z (.struct Yy):=al
theorem c44:Tryz.prog.cellsOf 44=6:=al
theorem c81:Tryz.prog.cellsOf 81=3:=al
theorem c3:Tryz.prog.cellsOf 3=1:=al
theorem c9:Tryz.prog.cellsOf 9=1:=al
theorem c42:Tryz.prog.cellsOf 42=1:=al
theorem b44:Tryz.prog.bytesOf 44=64:=al
theorem b81:Tryz.prog.bytesOf 81=32:=al
section
variable {H:Type}{X:aK×ag->H}{W:ax}
noncomputable abbrev uv(X:aK×ag->H)(W):=DataW.trod X ak W 0 (λ_=>U) U
theorem LR{n}(h:(Lit.int .i64 n).wf=U):tG n:=by
 simp[Lit.wf,IntKind.min,IntKind.signed,IntKind.bits]at h;unfold tG;omega
theorem ao1{α:Type}{l:ae α}(h:l.length=3):∃a b c,l=[a,b,c]:=by
 rcases l with _|⟨a,_|⟨b,_|⟨c,_|⟨d,l⟩⟩⟩⟩<;>simp at h⊢
theorem ao2{α:Type}{l:ae α}(h:l.length=6):∃a b c d e f,l=[a,b,c,d,e,f]:=by
 rcases l with _|⟨a,_|⟨b,_|⟨c,_|⟨d,_|⟨e,_|⟨f,_|⟨g,l⟩⟩⟩⟩⟩⟩⟩<;>simp at h⊢
theorem ayi{d}{j}{x}(h:uv X W d 81 j=Z x):∃p:Stp,j=p.cells:=by
 obtain⟨B,n,rfl,rfl,A,G,e⟩:=DataW.trod_struct u81 h;obtain⟨a,b,c,rfl⟩:=ao1 A;have g:∀(i)(f),Yy[i]?=Z f->∃y,B[i]?=Z y:=λi f J=>⟨_,eI (by
  grind)⟩
 obtain⟨C,v⟩:=g 0 _ F;obtain⟨D,w⟩:=g 1 _ F;obtain⟨E,z⟩:=g 2 _ F;have l:uv X W n 3 (([a,b,c].drop 0).take (Tryz.prog.cellsOf 3))=Z C:=(e 0 _ F).trans v;have m:uv X W n 3 (([a,b,c].drop 1).take (Tryz.prog.cellsOf 3))=Z D:=(e 1 _ F).trans w;have o:uv X W n 9 (([a,b,c].drop 2).take (Tryz.prog.cellsOf 9))=Z E:=(e 2 _ F).trans z;rw[c3]at l m;rw[c9]at o;obtain⟨k,r,_⟩:=DataW.trod_int u3 l;obtain⟨q,t,_⟩:=DataW.trod_int u3 m;obtain⟨s,u,_⟩:=DataW.trod_string u9 o;simp only[List.drop_zero,List.take_succ_cons,List.take_zero,List.drop_succ_cons,List.cons.injEq,and_true]at r t u;exact⟨⟨k,q,s⟩,by rw[r,t,u];rfl⟩
theorem aba{H}{P}{e}{d}{n}:∀{a:ae (DataW H)},d∈a->n∈d.weights P e->n∈DataW.weightsAll P e a
 |x::a,b,c=>by
  simp only[DataW.weightsAll];rcases bM.1 b with rfl|b
  ·simp_all
  ·exact List.mem_append_right _ (aba b c)
theorem Q5{α:Type}{Q:Nat->α->Prop}:∀n:Nat,(∀i,i<n->∃a,Q i a)->∃l:ae α,l.length=n/\∀i a,l[i]?=Z a->Q i a
 |0,_=>⟨[],F,λi a h=>by simp at h⟩
 |n+1,h=>by
  obtain⟨l,d,g⟩:=Q5 n λi c=>h i ah;obtain⟨a,e⟩:=h n ah;refine⟨l++[a],by simp[d],λi b f=>?_⟩;by_cases c:i<n
  ·grind
  ·grind
theorem MU{a}{n}{e}(h:W.cells? 0 a n=Z e)(o:0<n):a.spot=I/\e.length=n/\∃c t f,W.heap[a.block]?=Z (.cells c t f)/\∀j,j<n->c[a.off+j]?=e[j]?:=by
 have m:∀j,j<n->W.cell? (a.add j)=e[j]?:=λj g=>mapM_some_get h j j (by simp[g]);have b:=mapM_some_length h;simp only[List.length_range]at b;have l:∀j,j<n->∃v,W.cell? (a.add j)=Z v:=λj g=>by
  simp_all
 obtain⟨s,d⟩:=l 0 o;have q:a.add 0=a:=rfl;unfold fU at d;split at d
 ·rename_i c t f i
  split at d
  ·cases d
  ·rename_i r
   have p:a.spot=I:=by
    cases hq:a.spot with
    |none=>rfl
    |some x=>simp_all
   refine⟨p,b,c,t,f,i,λj g=>?_⟩;rw[<-m j g];unfold fU;have k:W.heap[(a.add j).block]?=Z (.cells c t f):=by
    unfold Addr.add;split<;>exact i
   rw[k];simp only
   unfold Addr.add;split
   ·simp_all
   ·simp
 ·cases d
def WI(W:ax)(v:ag)(d:ae Stp):Prop:=(d=[]/\∃f a,v=.slice f 0 a)\/(0<d.length/\∃b c a e h g,v=.slice (Z ⟨b,c,I⟩) d.length a/\W.heap[b]?=Z (.cells e h g)/\U7 e c d)
theorem ar7{f}{b}{x}(h:uv X W f 42 b=Z x)(R:∀n∈x.1.weights ak 42,n<=reachBytes):∃v g,b=[v]/\WI W v g/\g.length<=4398046511104:=by
 rcases DataW.trod_slice u42 h with⟨rfl,rfl⟩|⟨a,e,k,d,rest,n,rfl,rfl,rfl,_,O,_,Zl,L,_⟩
 ·exact⟨_,[],rfl,.inl ⟨rfl,I,0,rfl⟩,by simp⟩
 ·
  have z:e<=4398046511104:=by
   have:=R _ (by
    simp only[DataW.weights,u42,b81,jM];exact eX ..)
   unfold reachBytes at this;omega
  rcases zG e with l|l
  ·subst l
   exact⟨_,[],rfl,.inl ⟨rfl,_,_,rfl⟩,by simp⟩
  ·have w:∀i,i<e->∃b y,W.cells? 0 (a.add (i*3)) 3=Z b/\uv X W n 81 b=Z y:=λi m=>by
    have s:=L i m;obtain⟨y,S⟩:∃y,d[i]?=Z y:=⟨_,eI ah⟩;rw[S]at s;obtain⟨b,G,J⟩:=nj.1 s;exact⟨b,y,G,J⟩
   obtain⟨Jo,y0,q1,q2⟩:=w 0 l;obtain⟨B,N,c,t,q,K,_⟩:=MU q1 aT;have D:a=⟨a.block,a.off,I⟩:=by
    have:a.add (0*3)=a:=rfl;rw[this]at B;cases a;subst B;rfl
   have o:W.heap[a.block]?=Z (.cells c t q):=K;obtain⟨g,V,C⟩:=Q5 (Q:=λi(p:Stp)=>∀j u,p.cells[j]?=Z u->c.toList[a.off+i*3+j]?=Z u) _ λi m=>by
    obtain⟨b,y,q3,q4⟩:=w i m;obtain⟨p,rfl⟩:=ayi q4;obtain⟨_,_,c',t',E,r,M⟩:=MU q3 aT;have oS:(a.add (i*3)).block=a.block:=by unfold Addr.add;split<;>rfl
    have T:(a.add (i*3)).off=a.off+i*3:=by
     unfold Addr.add;split
     ·omega
     ·rfl
    rw[oS,o]at r;cases r;refine⟨p,λj u A=>?_⟩;have mH:=(dq.1 A).1;have:=M j mH;rw[T,A]at this;rw[Cy];exact this
   refine⟨_,g,F,.inr ⟨by omega,a.block,a.off,k,c,t,q,by rw[V,<-D],o,λi p P=>C i p P⟩,by omega⟩
structure Mx(W:ax)(o:iY):Prop where
 k:tG o.kind
 w_:tG o.W
 A:tG o.A
 B:tG o.B
 C:tG o.C
 P:WI W o.P o.pr
 l:o.pr.length<=4398046511104
theorem arc{l}{q}{x}(h:uv X W l 44 q=Z x)(Q:∀n∈x.1.weights ak 44,n<=reachBytes):∃o:iY,q=o.cells/\Mx W o:=by
 obtain⟨xs,n,rfl,rfl,p,KE,k⟩:=DataW.trod_struct u44 h;obtain⟨a,b,c,d,e,f,rfl⟩:=ao2 p;have g:∀(i)(f),Yx[i]?=Z f->∃y,xs[i]?=Z y:=λi f hi=>⟨_,eI (by
  grind)⟩
 obtain⟨y0,G⟩:=g 0 _ F;obtain⟨y1,J⟩:=g 1 _ F;obtain⟨y2,K⟩:=g 2 _ F;obtain⟨y3,L⟩:=g 3 _ F;obtain⟨y4,M⟩:=g 4 _ F;obtain⟨E,N⟩:=g 5 _ F;have r:uv X W n 3 (([a,b,c,d,e,f].drop 0).take (Tryz.prog.cellsOf 3))=Z y0:=(k 0 _ F).trans G;have s:uv X W n 3 (([a,b,c,d,e,f].drop 1).take (Tryz.prog.cellsOf 3))=Z y1:=(k 1 _ F).trans J;have t:uv X W n 3 (([a,b,c,d,e,f].drop 2).take (Tryz.prog.cellsOf 3))=Z y2:=(k 2 _ F).trans K;have u:uv X W n 3 (([a,b,c,d,e,f].drop 3).take (Tryz.prog.cellsOf 3))=Z y3:=(k 3 _ F).trans L;have w:uv X W n 3 (([a,b,c,d,e,f].drop 4).take (Tryz.prog.cellsOf 3))=Z y4:=(k 4 _ F).trans M;have z:uv X W n 42 (([a,b,c,d,e,f].drop 5).take (Tryz.prog.cellsOf 42))=Z E:=(k 5 _ F).trans N;rw[c3]at r s t u w;rw[c42]at z;obtain⟨R,q0,_,w0⟩:=DataW.trod_int u3 r;obtain⟨S,A,_,w1⟩:=DataW.trod_int u3 s;obtain⟨T,B,_,w2⟩:=DataW.trod_int u3 t;obtain⟨V,q3,_,w3⟩:=DataW.trod_int u3 u;obtain⟨k4,C,_,w4⟩:=DataW.trod_int u3 w;have uf:=λm P=>Q m (by
  exact DataW.weights_mem_each (j:=5) (d:=E.1) F (by simp_all) m P)
 obtain⟨v,pr,D,O,p⟩:=ar7 z uf;simp only[List.drop_zero,List.take_succ_cons,List.take_zero,List.drop_succ_cons,List.cons.injEq,and_true]at q0 A B q3 C D;refine⟨⟨R,S,T,V,k4,v,pr⟩,by rw[q0,A,B,q3,C,D];rfl,LR w0,LR w1,LR w2,LR w3,LR w4,O,p⟩
theorem auL{p}{v:ag}{x}(h:uv X W p 22 v.cells.toList=Z x)(hv:v.cells.toList=[v])(L:∀n∈x.1.weights ak 22,n<=reachBytes):∃(k:ae iY)(B:aj aU)(d:Nat),v=.slice B k.length d/\(0<k.length->∃b r N ty R,B=Z ⟨b,r,I⟩/\W.heap[b]?=Z (.cells N ty R)/\F8 N r k)/\(∀o∈k,Mx W o)/\k.length<=2199023255552:=by
 rw[hv]at h;rcases DataW.trod_slice V3 h with⟨e,rfl⟩|⟨a,g,d,f,rest,n,rfl,e,rfl,_,γ,_,Zl,hi,_⟩
 ·simp only[List.cons.injEq,and_true]at e
  exact⟨[],I,0,e,λh=>absurd h ba,λo h=>by simp at h,by simp⟩
 ·simp only[List.cons.injEq,and_true]at e
  have J:g<=2199023255552:=by
   have:=L _ (by
    simp only[DataW.weights,V3,b44,jM];exact eX ..)
   unfold reachBytes at this;omega
  rcases zG g with s|s
  ·subst s
   exact⟨[],Z a,d,e,λh=>absurd h ba,λo h=>by simp at h,by simp⟩
  ·have G:∀i,i<g->∃l y,W.cells? 0 (a.add (i*6)) 6=Z l/\uv X W n 44 l=Z y/\∀m∈y.1.weights ak 44,m<=reachBytes:=λi w=>by
    have E:=hi i w;obtain⟨y,M⟩:∃y,f[i]?=Z y:=⟨_,eI ah⟩;rw[M]at E;obtain⟨l,T,V⟩:=nj.1 E;refine⟨l,y,T,V,λm hm=>L m ?_⟩;refine eK _ (List.mem_append_left _ (aba (og.2 ⟨y,jZ M,F⟩) hm))
   obtain⟨Jo,y0,q1,q2,_⟩:=G 0 s;obtain⟨iU,β,c,t,C,hb,_⟩:=MU q1 aT;have O:a=⟨a.block,a.off,I⟩:=by
    have:a.add (0*6)=a:=rfl;cases a;subst iU;rfl
   have z:W.heap[a.block]?=Z (.cells c t C):=hb;obtain⟨k,kC,A⟩:=Q5 (Q:=λi(o)=>Mx W o/\∀j u,o.cells[j]?=Z u->c.toList[a.off+i*6+j]?=Z u) _ λi w=>by
    obtain⟨l,y,q3,q4,q5⟩:=G i w;obtain⟨o,rfl,q⟩:=arc q4 q5;obtain⟨_,_,c',t',P,D,hj⟩:=MU q3 aT;have oS:(a.add (i*6)).block=a.block:=by unfold Addr.add;split<;>rfl
    have jR:(a.add (i*6)).off=a.off+i*6:=by
     unfold Addr.add;split
     ·omega
     ·rfl
    rw[oS,z]at D;cases D;refine⟨o,q,λj u K=>?_⟩;have mH:=(dq.1 K).1;have:=hj j mH;rw[jR,K]at this;rw[Cy];exact this
   refine⟨k,Z a,d,by rw[kC];exact e,λ_=>⟨a.block,a.off,c,t,C,by rw[<-O],z,λi o q=>(A i o q).2⟩,λo q=>?_,by omega⟩;obtain⟨i,S⟩:=CE q;exact(A i o S).1
end
theorem afz:Sv=LL:=by
 unfold Sv;rfl
theorem apq{f}{a}{L}{R}(h:Fl Sv f a L R){W}(p:Kn L (low W).heap)(t)(d):Reach LL (λv w=>w.os=W.os/\w.output=W.output/\∃b,R v b/\Kn b w.heap) (lone (bO LL f a .normal) [hY LL] (re (low W) t d)):=by
 have c:=h [] (low W).heap (by simp_all) (re (low W) t d) F;rw[afz]at c;obtain⟨e,o,i,⟨v,rfl,l,m,b,q3,g⟩,⟨n,k⟩,_,j⟩:=c _;rw[rb]at g;exact⟨n,_,k,i,o,v,F,j,l,m,b,q3,g⟩
def vG:ae Nat:=[0,1,2,3,4,5]
structure Gt(W:ax)(A:Nat->aU):Prop where
 g8:∃a b,W.heap[(8:Nat)]?=Z (.finalizers a b)
 ow:∃a b,W.heap[(10:Nat)]?=Z (.finalizers a b)
 er:∀k:Nat,k<5->W.heap[k]?=Z (.cells #[aY (A k)] 78 (0,0))
 ty:W.heap[(5:Nat)]?=Z (.cells #[iw 78] 202 (0,0))
 ob:∀k:Nat,k<5->∃c t,W.heap[(A k).block]?=Z (.cells c t (0,0))
 G9:∀k:Nat,k<5->6<=(A k).block
 inj:∀i j,i<5->j<5->A i=A j->i=j
theorem FO{W}{b}{c}{t}{a}(h:W.heap[b]?=Z (.cells c t a))(d:b≠8)(e:b≠10):(low W).heap[b]?=Z (.cells c t a):=by
 rw[B2,h];simp only[jE,FN,bw,dO,d,e,if_false]
def l9(A:Nat->aU):ae (Nat×Obj):=[(0,.cells #[aY (A 0)] 78),(1,.cells #[aY (A 1)] 78),(2,.cells #[aY (A 2)] 78),(3,.cells #[aY (A 3)] 78),(4,.cells #[aY (A 4)] 78),(5,.cells #[iw 78] 202),(8,.chan 5 #[ai 0] Y 0 0 Y),(10,.chan 6 #[.chan I] Y 0 0 Y)]
section
variable {W:ax}{A:Nat->aU}(X:Gt W A)
include X
theorem Gt.ne{b}{c}{t}{a}(h:W.heap[b]?=Z (.cells c t a)):b≠8/\b≠10:=by
 obtain⟨x,y,d⟩:=X.g8;obtain⟨f,g,e⟩:=X.ow;constructor
 ·grind
 ·grind
theorem Gt.ers:rj (low W).heap vG A where
 ok:=λk b=>by
  obtain⟨c,t,h⟩:=X.ob k b;obtain⟨n8,a⟩:=X.ne h;refine⟨⟨c,t,FO h n8 a⟩,n8,a,λd=>?_⟩;have:=X.G9 k b;simp only[vG,bM,gV,or_false]at d;omega
 inj:=X.inj
theorem Gt.kn:Kn (lN (low W).heap vG A ⟨ai 0,0⟩ 0 0 0) (low W).heap:=by
 obtain⟨x,y,h⟩:=X.g8;obtain⟨r,s,n⟩:=X.ow;have e:=λk i=>FO (X.er k i) ah ah;refine⟨λq a=>?_,?_⟩
 ·simp only[nR,bM,pz,gV,or_false]at a
  rcases a with rfl|(rfl|rfl|rfl|rfl|rfl|rfl)|rfl|rfl
  ·exact⟨dt _,λx _ _ _ _=>rfl⟩
  ·exact e 0 aT
  ·exact e 1 aT
  ·exact e 2 aT
  ·exact e 3 aT
  ·exact e 4 aT
  ·exact FO X.ty aT aT
  ·show(low W).heap[8]?=_
   rw[B2,h];rfl
  ·show(low W).heap[10]?=_
   rw[B2,n];rfl
 ·have j:nR A++[gE ⟨ai 0,0⟩ 0,hE (.chan I) 0 0]=(l9 A).map λp=>En.ob p.1 p.2:=rfl
  have d:(l9 A).map (·.1)=[0,1,2,3,4,5,8,10]:=rfl;unfold lN;rw[j];refine mQ.2 ⟨λq a x b c=>?_,?_⟩
  ·obtain⟨p,m,rfl⟩:=og.1 a
   have f:=d▸jg m;have e:=c;rw[<-e]at f;obtain⟨_,n8,o,nx⟩:=b;simp only[vG,bM,gV,or_false]at f nx;omega
  ·have l:((l9 A).map (·.1)).Nodup:=by rw[d];decide
   rw[List.pairwise_map];exact(List.pairwise_map.1 l).imp λg x b c=>g (b.symm.trans c)
theorem Gt.scr{i}{u}(G:0<i.length->∃b d h r m,u=Z ⟨b,d,I⟩/\W.heap[b]?=Z (.cells h r m)/\F8 h d i)(H:∀o∈i,Mx W o)(J:i.length<=2199023255552):zQ (low W).heap vG [] u i:=by
 have y:∀{b d:Nat}{h}{r}{m}{n},W.heap[b]?=Z (.cells h r m)->h.toList[d]?=Z (ai n)->b∉vG:=λ{b d h r m n}f s z=>by
  have K:∃v:ag,h=#[v]/\∃a c,v=.iface a c:=by
   simp only[vG,bM,gV,or_false]at z;rcases z with rfl|rfl|rfl|rfl|rfl|rfl
   ·have:=f.symm.trans (X.er 0 aT);cases this;exact⟨_,rfl,_,_,rfl⟩
   ·have:=f.symm.trans (X.er 1 aT);cases this;exact⟨_,rfl,_,_,rfl⟩
   ·have:=f.symm.trans (X.er 2 aT);cases this;exact⟨_,rfl,_,_,rfl⟩
   ·have:=f.symm.trans (X.er 3 aT);cases this;exact⟨_,rfl,_,_,rfl⟩
   ·have:=f.symm.trans (X.er 4 aT);cases this;exact⟨_,rfl,_,_,rfl⟩
   ·have:=f.symm.trans X.ty;cases this;exact⟨_,rfl,_,_,rfl⟩
  obtain⟨v,rfl,a,c,rfl⟩:=K;cases d with
  |zero=>simp[ai]at s
  |succ k=>simp at s
 have E:∀o∈i,o.Ok (low W).heap vG:=λo w=>by
  obtain⟨k,M,D,B,C,P,l⟩:=H o w;refine⟨k,M,D,B,C,?_,l⟩;rcases P with⟨e,u,j,x⟩|⟨q,b,d,j,h,r,m,x,f,t⟩
  ·exact .inl ⟨e,u,j,x⟩
  ·obtain⟨n8,g⟩:=X.ne f
   obtain⟨p,L⟩:∃p,o.pr[0]?=Z p:=⟨_,eI q⟩;have s:=t 0 p L 0 _ rfl;exact .inr ⟨q,b,d,j,h,r,m,x,FO f n8 g,t,y f s,n8,g⟩
 rcases zG _ with q|q
 ·have e:i=[]:=IF.1 q
  subst e;exact auJ _
 ·obtain⟨b,d,h,r,m,rfl,f,t⟩:=G q
  obtain⟨n8,g⟩:=X.ne f;obtain⟨o,w⟩:∃o,i[0]?=Z o:=⟨_,eI q⟩;have s:=t 0 o w 0 _ rfl;exact auK (FO f n8 g) (y f s) n8 g t E J
theorem aoY{f}{a}(x:inner f=Y)(l:hasB fs f=U)(h:Fl Sv f a (lN (low W).heap vG A ⟨ai 0,0⟩ 0 0 0) (KS (low W).heap vG A)):∃M last o m p,iz ak (M+1) (solo (G (bO ak f a .normal) []) W) #[]=(.ended o m,p)/\dG ak M (solo (G (bO ak f a .normal) []) W)=.next last/\step ak last=.ended o m/\Conc.Good ak (λv e=>v=.bool U/\e.os=W.os/\e.output=W.output/\W.heap.size<=e.heap.size/\∀b:Nat,b<W.heap.size->e.heap[b]?=W.heap[b]?) last o m p:=by
 refine close x l X.g8 X.ow ?_ (λt d=>apq h X.kn t d) ?_
 ·rintro v w ⟨C,D,_,⟨_,i,j,N,O,s,rfl⟩,c⟩
  have L:=c.sat (.ro (low W).heap vG) (by simp[]);have r:∀k:Nat,k<5->w.heap[k]?=Z (.cells #[aY (A k)] 78 (0,0)):=λk P=>by
   have:k=0\/k=1\/k=2\/k=3\/k=4:=by omega
   rcases this with rfl|rfl|rfl|rfl|rfl
   ·exact c.sat (aQ 0 (aY (A 0))) (by simp[nR])
   ·exact c.sat (aQ 1 (aY (A 1))) (by simp[nR])
   ·exact c.sat (aQ 2 (aY (A 2))) (by simp[nR])
   ·exact c.sat (aQ 3 (aY (A 3))) (by simp[nR])
   ·exact c.sat (aQ 4 (aY (A 4))) (by simp[nR])
  have q:=c.sat (.ob 5 (.cells #[iw 78] 202)) (by simp[nR]);have y:=c.sat (gE i j) (by simp[]);refine⟨⟨i.n,j,?_⟩,C,D,λb l u B=>?_⟩
  ·have n:w.heap[bw]?=Z (.chan 5 #[i.v] Y i.n j Y):=y
   rw[s]at n;exact n
  ·by_cases g:b∈vG
   ·simp only[vG,bM,gV,or_false]at g
    have:b<5\/b=5:=by omega
    rcases this with g|rfl
    ·rw[r b g]
     exact(FO (X.er b g) ah ah).symm
    ·rw[q]
     exact(FO X.ty aT aT).symm
   ·exact L.2 b (by rw[Ov];exact l) u B g
 ·rintro v w e ⟨_,_,_,⟨z,_⟩,_⟩ E H J K
  exact⟨z,E,H,J,K⟩
end
section
open Go.ChangeShapes Go.WideShapes
theorem gl0:Tryz.prog.globalNamed "mvstore/mv.ErrShape"=Z 0:=al
theorem gl1:Tryz.prog.globalNamed "mvstore/mv.ErrProgram"=Z 1:=al
theorem gl2:Tryz.prog.globalNamed "mvstore/mv.ErrMany"=Z 2:=al
theorem gl3:Tryz.prog.globalNamed "mvstore/mv.ErrClient"=Z 3:=al
theorem gl4:Tryz.prog.globalNamed "mvstore/mv.ErrStopped"=Z 4:=al
theorem gl5:Tryz.prog.globalNamed "errors.errorType"=Z 5:=al
theorem gt0:(Tryz.prog.globals[0]?).map (·.type)=Z 78:=al
theorem gt1:(Tryz.prog.globals[1]?).map (·.type)=Z 78:=al
theorem gt2:(Tryz.prog.globals[2]?).map (·.type)=Z 78:=al
theorem gt3:(Tryz.prog.globals[3]?).map (·.type)=Z 78:=al
theorem gt4:(Tryz.prog.globals[4]?).map (·.type)=Z 78:=al
theorem LO:Tryz.prog.underlying 78=Z (.interface #[("Error",273)]):=al
theorem LM:Tryz.prog.underlying 272=Z (.pointer 292):=al
theorem LN:Tryz.prog.underlying 292=Z (.struct #[{name:= "s",type:=9,offset:=0,embedded:=Y,tag:= "",pkgPath:= "errors",byteOffset:=0}]):=al
theorem Jj:Tryz.prog.cellsOf 292=1:=al
theorem star: "*"++ "errors.errorString"= "*errors.errorString":=by decide
theorem Ln(u)(h:Tryz.prog.typeName? 3 u=Z "*errors.errorString"):u=272:=typeName_ptr_named (by rw[star];kernel_rfl) al aT u (by exact h)
def Yn:ae (String×DataW Unit):=[("mvstore/mv.ErrShape",Rows.laid_mvstore_mv_ErrShape),("mvstore/mv.ErrProgram",Rows.laid_mvstore_mv_ErrProgram),("mvstore/mv.ErrMany",Rows.laid_mvstore_mv_ErrMany),("mvstore/mv.ErrClient",Rows.laid_mvstore_mv_ErrClient),("mvstore/mv.ErrStopped",Rows.laid_mvstore_mv_ErrStopped)]
def KR:ae (String×DataW Unit):=("errors.errorType",Rows.laid_errors_errorType)::Yn
theorem auY{W}(h:laidMet ak Yn W):∃A:Nat->aU,(∀k,k<5->W.cell? ⟨k,0,I⟩=Z (aY (A k)))/\(∀k,k<5->∃s,W.cell? (A k)=Z (.string s))/\(∀k,k<5->∃c t,W.heap[(A k).block]?=Z (.cells c t (0,0)))/\∀k m,k<5->m<5->k≠m->A k≠A m:=by
 obtain⟨ps,⟨x0,y0,T,f0,p0,q0,D,X,M,nB,⟨x1,y1,iC,f1,p1,q1,n,R,L,tW,⟨x2,y2,uO,f2,p2,q2,l,Tk,N,tX,⟨x3,y3,r,f3,p3,q3,o,Tm,O,z,⟨x4,y4,w,f4,p4,q4,p,V,P,B,C,e4⟩,e3⟩,e2⟩,e1⟩,e0⟩,nV,b⟩:=h;obtain rfl:=ee (gl0.symm.trans D);obtain rfl:=ee (gl1.symm.trans n);obtain rfl:=ee (gl2.symm.trans l);obtain rfl:=ee (gl3.symm.trans o);obtain rfl:=ee (gl4.symm.trans p);obtain rfl:=ee (gt0.symm.trans X);obtain rfl:=ee (gt1.symm.trans R);obtain rfl:=ee (gt2.symm.trans Tk);obtain rfl:=ee (gt3.symm.trans Tm);obtain rfl:=ee (gt4.symm.trans V);have q:=C;subst q e4 e3 e2 e1 e0;obtain⟨l0⟩:=T;obtain⟨l1⟩:=iC;obtain⟨l2⟩:=uO;obtain⟨l3⟩:=r;obtain⟨l4⟩:=w;have E:∀u v,l0=[.iface u v]->Value.okWide ak W .any 0 u v:=λu v e=>by
  subst e;exact(b 0 0 (by simp[MemPlace.row])).2 u v (by simpa using Ba D M 0)
 have G:∀u v,l1=[.iface u v]->Value.okWide ak W .any 0 u v:=λu v e=>by
  subst e;exact(b 1 0 (by simp[MemPlace.row])).2 u v (by simpa using Ba n L 0)
 have H:∀u v,l2=[.iface u v]->Value.okWide ak W .any 0 u v:=λu v e=>by
  subst e;exact(b 2 0 (by simp[MemPlace.row])).2 u v (by simpa using Ba l N 0)
 have J:∀u v,l3=[.iface u v]->Value.okWide ak W .any 0 u v:=λu v e=>by
  subst e;exact(b 3 0 (by simp[MemPlace.row])).2 u v (by simpa using Ba o O 0)
 have K:∀u v,l4=[.iface u v]->Value.okWide ak W .any 0 u v:=λu v e=>by
  subst e;exact(b 4 0 (by simp[MemPlace.row])).2 u v (by simpa using Ba p P 0)
 obtain⟨a0,s0,rfl,kW,oF,β,rfl⟩:=errorString_of_trod LO Ln LM LN F F u9 Jj c9 nB E;obtain⟨d,s1,rfl,gP,nE,FB,rfl⟩:=errorString_of_trod LO Ln LM LN F F u9 Jj c9 tW G;obtain⟨f,s2,rfl,S,gd,AE,rfl⟩:=errorString_of_trod LO Ln LM LN F F u9 Jj c9 tX H;obtain⟨g,s3,rfl,x,BT,γ,rfl⟩:=errorString_of_trod LO Ln LM LN F F u9 Jj c9 z J;obtain⟨i,s4,rfl,y,BU,δ,rfl⟩:=errorString_of_trod LO Ln LM LN F F u9 Jj c9 B K;have b0:=(b a0.block a0.off (by simp[MemPlace.row])).1;have b1:=(b d.block d.off (by simp[MemPlace.row])).1;have b2:=(b f.block f.off (by simp[MemPlace.row])).1;have b3:=(b g.block g.off (by simp[MemPlace.row])).1;have b4:=(b i.block i.off (by simp[MemPlace.row])).1;have a:∀k,k<5->k=0\/k=1\/k=2\/k=3\/k=4:=λk h=>by omega
 have az:a0≠d/\a0≠f/\a0≠g/\a0≠i/\d≠f/\d≠g/\d≠i/\f≠g/\f≠i/\g≠i:=by
  refine⟨?_,?_,?_,?_,?_,?_,?_,?_,?_,?_⟩<;>(grind)
 obtain⟨ε,ζ,η,θ,ι,κ,μ,ν,ξ,π⟩:=az;refine⟨λk=>[a0,d,f,g,i].getD k a0,λk j=>?_,λk j=>?_,λk j=>?_,λk m j hm Q=>?_⟩
 ·rcases a k j with rfl|rfl|rfl|rfl|rfl
  ·simpa using Ba D M 0
  ·simpa using Ba n L 0
  ·simpa using Ba l N 0
  ·simpa using Ba o O 0
  ·simpa using Ba p P 0
 ·rcases a k j with rfl|rfl|rfl|rfl|rfl
  ·exact⟨_,kW⟩
  ·exact⟨_,gP⟩
  ·exact⟨_,S⟩
  ·exact⟨_,x⟩
  ·exact⟨_,y⟩
 ·rcases a k j with rfl|rfl|rfl|rfl|rfl
  ·exact b0
  ·exact b1
  ·exact b2
  ·exact b3
  ·exact b4
 ·rcases a k j with rfl|rfl|rfl|rfl|rfl<;>rcases a m hm with rfl|rfl|rfl|rfl|rfl<;>first|exact absurd rfl Q|assumption|exact Ne.symm (by assumption)
end
section
open Go.ChangeShapes Go.WideShapes
def isFin:Obj->Bool
 |.finalizers .. =>U
 |_=>Y
theorem anJ{o}(h:isFin o=U):∃a b,o=.finalizers a b:=by
 cases o<;>simp[isFin]at h;exact⟨_,_,F⟩
theorem bg8:((begin ak (λ_ _=>0) default).world.heap[8]?).map isFin=Z U:=al
theorem agq:((begin ak (λ_ _=>0) default).world.heap[10]?).map isFin=Z U:=al
theorem bgz:Nat.ble 11 (begin ak (λ_ _=>0) default).world.heap.size=U:=al
theorem bg0:(((begin ak (λ_ _=>0) default).world.heap[0]?).bind Obj.row?).map (λp=>(p.1.size,p.2))=Z (1,78):=al
theorem bg1:(((begin ak (λ_ _=>0) default).world.heap[1]?).bind Obj.row?).map (λp=>(p.1.size,p.2))=Z (1,78):=al
theorem bg2:(((begin ak (λ_ _=>0) default).world.heap[2]?).bind Obj.row?).map (λp=>(p.1.size,p.2))=Z (1,78):=al
theorem bg3:(((begin ak (λ_ _=>0) default).world.heap[3]?).bind Obj.row?).map (λp=>(p.1.size,p.2))=Z (1,78):=al
theorem bg4:(((begin ak (λ_ _=>0) default).world.heap[4]?).bind Obj.row?).map (λp=>(p.1.size,p.2))=Z (1,78):=al
theorem bg5:(((begin ak (λ_ _=>0) default).world.heap[5]?).bind Obj.row?).map (λp=>(p.1.size,p.2))=Z (1,202):=al
theorem gsz:Tryz.prog.globals.size=6:=al
theorem aua:((qh Tryz.prog.types.size).all λt=>!Tryz.prog.rowNamed t [101,114,114,111,114]||t==78)=U:=al
theorem ahp:(Tryz.prog.cutTypes.find? (·.1== "internal/reflectlite.rtype")).map (·.2)=Z 235:=al
theorem amu:Value.iface 235 (.agg #[typeHandle ak 78])=iw 78:=al
theorem nmE:(Rows.laid_errors_errorType:DataW Unit).handleName?=Z [101,114,114,111,114]:=al
section
variable {W:ax}
theorem YK(d:W.ShapedOpen ak){g}{t}(k:g<6)(h:(((begin ak (λ_ _=>0) default).world.heap[g]?).bind Obj.row?).map (λp=>(p.1.size,p.2))=Z (1,t)):∃v,W.heap[g]?=Z (.cells #[v] t (0,0)):=by
 obtain⟨⟨c,m⟩,e,b⟩:=fX.1 h;simp only[fN]at b;obtain⟨f,rfl⟩:=b;obtain⟨a,i,j,_⟩:=d.1 g _ _ (by exact k) e;obtain⟨v,rfl⟩:∃v,a=#[v]:=by
  obtain⟨l⟩:=a;have:l.length=1:=by rw[<-f];exact j
  rcases l with _|⟨v,_|⟨x,l⟩⟩<;>simp at this⊢
 exact⟨v,i⟩
theorem Yl(c:W.ShapedOpen ak){k}(g:k=8\/k=10)(h:((begin ak (λ_ _=>0) default).world.heap[k]?).map isFin=Z U):∃a b,W.heap[k]?=Z (.finalizers a b):=by
 have j:=zH bgz;obtain⟨o,l,d,e,f⟩:=c.2 k (by rw[gsz];omega) ah;have i:World.looseAt (k-Tryz.prog.globals.size)=U:=by
  rcases g with rfl|rfl<;>rfl
 rw[e]at h;simp only[jE,gB]at h;obtain⟨a,b,rfl⟩:=anJ h;cases o<;>first|exact⟨_,_,d⟩|(simp[Obj.alike]at f)
theorem agm(f:W.ShapedOpen ak)(G:laidMetH ak KR W):∃A,Gt W A:=by
 have o:=G;obtain⟨A,E,J,H,L⟩:=auY o.1;have g:∀k:Nat,k<5->(((begin ak (λ_ _=>0) default).world.heap[k]?).bind Obj.row?).map (λp=>(p.1.size,p.2))=Z (1,78):=λk d=>by
  have:k=0\/k=1\/k=2\/k=3\/k=4:=by omega
  rcases this with rfl|rfl|rfl|rfl|rfl
  ·exact bg0
  ·exact bg1
  ·exact bg2
  ·exact bg3
  ·exact bg4
 have h:∀k:Nat,k<5->W.heap[k]?=Z (.cells #[aY (A k)] 78 (0,0)):=λk d=>by
  obtain⟨v,b⟩:=YK f ah (g k d);have a:=E k d;unfold fU at a;rw[b]at a;have:v=aY (A k):=by simpa using a
  rw[b,this]
 have w:W.heap[(5)]?=Z (.cells #[iw 78] 202 (0,0)):=by
  obtain⟨v,b⟩:=YK f aT bg5;have B:=o.2 _ (my.2 F);have C:=B;obtain⟨r,u,K,l,m,x,y,c⟩:=C;rw[nmE]at l;rw[ahp]at m;cases l;cases m;have n:=Ei.1 aua _ (List.mem_range.2 x);rw[y]at n;have z:K=78:=by simpa using n
  subst z;unfold World.var? at c;rw[gl5]at c;simp only[wN]at c;rw[b]at c;simp only[gB]at c;rw[b,c,amu]
 refine⟨A,Yl f (.inl F) bg8,Yl f (.inr F) agq,h,w,H,λk d=>?_,λi j M N e=>?_⟩
 ·obtain⟨s,a⟩:=J k d
  rcases Nat.lt_or_ge (A k).block 6 with q|q
  ·exfalso
   have:∃v t,W.heap[(A k).block]?=Z (.cells #[v] t (0,0))/\∀s,v≠.string s:=by
    rcases Nat.lt_or_ge (A k).block 5 with D|D
    ·simp_all
    ·grind
   obtain⟨v,t,b,O⟩:=this;unfold fU at a;rw[b]at a;simp only at a;split at a
   ·cases a
   ·grind
  ·exact q
 ·grind
end
end
section
open Go.ChangeShapes Go.WideShapes Go.RowKit
theorem own:ownKnob Tryz.prog.godebug=I:=al
theorem aaH:laidOutB ak=U:=al
theorem u4:Tryz.prog.underlying 4=Z .bool:=al
section
variable {H:Type}{X:aK×ag->H}{W V:ax}
theorem aoe(c:V.os=W.os)(d:V.output=W.output)(e:∀b:Nat,b<W.heap.size->V.heap[b]?=W.heap[b]?)(a):W.keptBut V a:=by
 refine⟨c,d,λi f=>?_⟩;rw[e i f];cases W.heap[i]? with
 |none=>rfl
 |some o=>grind
theorem carry{t}(c:Tryz.prog.readableRec t=U)(d:t<Tryz.prog.types.size)(g:W.keptBut V λ_=>False){n}{f}{x}(h:DataW.trod X ak W 0 (λ_=>U) U n t f=Z x):DataW.trod X ak V 0 (λb=>decide (b<W.heap.size)) U n t f=Z x:=by
 have aC:=DataW.trod_lt n t _ x h;exact DataW.trod_stays (kids_book aaH c) (book_sized c) (λh=>by cases h) ⟨d,book_self t⟩ h
  (λp a=>g.sameAt (aC p a) (λh=>h) (λb e=>by
    have:=DataW.trod_good (kids_book aaH c) (λh=>by cases h) n t _ x ⟨d,book_self t⟩ h p a;subst e;exact this))
  (λp a=>by simpa using aC p a)
end
structure Ms(f:cH)(fn:dK)(s:ChangeSpec):Prop where
 at_:Tryz.prog.funcs[f]?=Z fn
 params:fn.params.toList=[22]
 results:fn.resultTypes.toList=[4]
 Pj:fn.resultTypes.size=1
 vars:s.vars=[]
 Pq:∀(H:Type)(d:DataW H),s.fn H [d]={results:=[.lit (.bool U)],args:=[d]}
 out:inner f=Y
 body:hasB fs f=U
 law:∀(S:Hp)(ex:ae Nat)(A:Nat->aU),rj S ex A->∀(ad:aj aU)(os:ae iY)(cap:Nat),zQ S ex [] ad os->Fl Sv f [.slice ad os.length cap].toArray (lN S ex A ⟨ai 0,0⟩ 0 0 0) (KS S ex A)
theorem atx:Tryz.prog.readableRec 22=U:=al
theorem apH:22<Tryz.prog.types.size:=by
 simp
theorem TL{f}{m}{s}(L:Ms f m s)(y)(g:y.Started)(H)(X:aK×ag->H)(F)
  (k:∃(w:ax)(b:Tape)(i:Input),w.os=y/\(w.forCall b i).Shaped ak/\i.vars=[]/\Input.okWide ak (w.forCall b i) .any w.heap.size f i/\
    ((s.pre X ak m [] Y (w.forCall b i).memory i.args/\laidMetH ak KR (w.forCall b i).memory)/\sizedMet X ak m (OpenSpec.ofChange s) Y (w.forCall b i).memory i.args)/\
    ({calm:=U}:Assume).holds ak (lone (bO ak f i.args .normal) [] (w.forCall b i))):
  ReturnsInLeavingWide {calm:=U} Tryz.checked y f .any (λw c=>(s.pre X ak m [] Y w c/\laidMetH ak KR w)/\sizedMet X ak m (OpenSpec.ofChange s) Y w c) ((OpenSpec.ofChange s).postWith X ak m F (outsideKept [.timePasses]) Y U Y):=by
 refine returnsInLeavingWide_of_good own g k ?_;intro w b i _ fD _ cy Ko _;obtain⟨_,_,_,Ha,D,_,_,_,_,AB⟩:=cy;have e:=ee (D.symm.trans L.at_);subst e;obtain⟨⟨⟨ds,gs,z,hw,hc⟩,G⟩,hz⟩:=Ko;have hW:=DataW.Whole.of_heap (w':=w.forCall b i) (by rfl) hw;have J:=laidMetH.of_heap (w':=w.forCall b i) (by rfl) G;have β:=hz.weights hw;generalize w.forCall b i=W at*;have Y4:=hW;obtain⟨p,q,hA,hV,rfl,NR,nV⟩:=hW;have P:=L.params▸hA;obtain⟨v,d,C,rfl,t,hd⟩:=trodAll_one P;have R:=L.vars▸hV;obtain⟨rfl,rfl⟩:=trodVars_none R;have Kk:Ha.params[0]?=Z 22:=by rw[<-Cy,L.params];rfl
 have hv:=AB 0 _ v Kk (by rw[C];rfl);obtain⟨a,ζ,ε,rfl⟩:=okWide_slice V3 hv;have N:=λn hn=>by
  have B:=Ei.1 β n (DataW.weights_mem_each (j:=0) (by rw[L.params];rfl) rfl n hn);simpa using B
 obtain⟨δ,ad,l,T,gG,aO,u⟩:=auL hd rfl N;obtain⟨A,Q⟩:=agm fD J;have hF:=L.law _ _ A Q.ers _ _ l (Q.scr gG aO u);obtain⟨M,x,o,r,t',B,h2,h3,v',ho,⟨Fz,k1,k2,k3,k4⟩,r1,r2,r3,r4⟩:=aoY Q L.out L.body hF;have S:i.args=[.slice ad δ.length l].toArray:=by rw[C,T]
 rw[<-S]at B h2;have hk:=λγ=>aoe k1 k2 k4 γ;have E:s.post X ak Ha Y U Y Y W i.args v' {r with os:=W.os}:=by
  have K:({r with os:=W.os})=r:=by rw[<-k1]
  rw[K];have O:s.fn H ([d]++[])={results:=[.lit (.bool U)],args:=[d]}:=L.Pq H d;refine⟨[d],[],p++[],[],p,[],Y4,?_,?_,?_,hk _,λh=>by cases h⟩
  ·rw[O,L.results,L.Pj,Fz]
   exact trodAll_mk1 (shut_bool u4 _)
  ·rw[O,L.params,C]
   exact trodAll_mk1 ⟨t,carry atx apH (hk _) hd⟩
  ·rw[O,L.vars]
   rfl
 exact⟨M,x,o,r,t',B,h2,h3,v',ho,postWith_blind (postWith_of_post E (by rw[k1];exact Go.ConcM.OsLater.refl _)),r1,r2,r3,r4⟩
end
abbrev tx0:ByteArray:={data:=#[110,111,32,115,117,99,104,32,115,116,111,114,101]}
abbrev tx1:ByteArray:={data:=#[110,111,32,112,114,111,103,114,97,109]}
abbrev tx2:ByteArray:={data:=#[116,111,111,32,109,97,110,121,32,99,108,105,101,110,116,115]}
abbrev tx3:ByteArray:={data:=#[110,111,32,115,117,99,104,32,99,108,105,101,110,116]}
abbrev tx4:ByteArray:={data:=#[116,104,101,32,115,116,111,114,101,32,104,97,115,32,98,101,101,110,32,115,116,111,112,112,101,100]}
noncomputable def lowest:Nat:=(World.holding ak default ⟨#[],#[],[]⟩).heap.size
noncomputable def lay(k:Nat)(v:ag)(h:af Obj):af Obj:=h.modify k λ
 |.cells _ t frozen=>.cells #[v] t frozen
 |o=>o
noncomputable def KT(k:Nat)(h:af Obj):af Obj:=lay k (aY ⟨lowest+k,0,I⟩) h
noncomputable def FK(b:Os):ax:=
 let a:=World.holding ak b ⟨#[.cells #[.string tx0] 292,.cells #[.string tx1] 292,.cells #[.string tx2] 292,.cells #[.string tx3] 292,.cells #[.string tx4] 292],#[],[]⟩
 {a with heap:=lay 5 (iw 78) (KT 0 (KT 1 (KT 2 (KT 3 (KT 4 a.heap)))))}
theorem aoS(b)(a):laidMetH ak KR ((FK b).forCall (λ_ _=>0) ⟨#[],a,[]⟩).memory:=by
 refine laidMetH_of_parts ?_ al;exact laidMet_of_run' 8 al al
theorem TM{f}{d}{s}(c){H}{b:aK×ag->H}
  (k:((FK c).forCall (λ_ _=>0) ⟨#[],#[.slice I 0 0],[]⟩).variablesB ak=U)
  (j:(((FK c).forCall (λ_ _=>0) ⟨#[],#[.slice I 0 0],[]⟩).heap.toList.drop Tryz.prog.globals.size).take ((begin ak (λ_ _=>0) default).world.heap.size-Tryz.prog.globals.size)=(begin ak (λ_ _=>0) default).world.heap.toList.drop Tryz.prog.globals.size)
  (e:Input.okWideB ak ((FK c).forCall (λ_ _=>0) ⟨#[],#[.slice I 0 0],[]⟩) f ⟨#[],#[.slice I 0 0],[]⟩=U)
  (g:s.preB b ak d [] Y ((FK c).forCall (λ_ _=>0) ⟨#[],#[.slice I 0 0],[]⟩).memory #[.slice I 0 0] 8=U)
  (h:s.sizedB b ak d Y ((FK c).forCall (λ_ _=>0) ⟨#[],#[.slice I 0 0],[]⟩).memory #[.slice I 0 0] 8=U):
  ∃(w:ax)(a:Tape)(i:Input),w.os=c/\(w.forCall a i).Shaped ak/\i.vars=[]/\Input.okWide ak (w.forCall a i) .any w.heap.size f i/\
   ((s.pre b ak d [] Y (w.forCall a i).memory i.args/\laidMetH ak KR (w.forCall a i).memory)/\sizedMet b ak d (OpenSpec.ofChange s) Y (w.forCall a i).memory i.args)/\
   ({calm:=U}:Assume).holds ak (lone (bO ak f i.args .normal) [] (w.forCall a i)):=
 ⟨FK c,λ_ _=>0,⟨#[],#[.slice I 0 0],[]⟩,F,World.shaped_of_B k j,(Input.okWide_of_okWideB (base:=0) e).1,(Input.okWide_of_okWideB e).2,⟨⟨ChangeSpec.pre_of_preB g,aoS .. ⟩,sizedMet_of_sizedB h⟩,by
  exact⟨by simp,λ_ _ _ _=>rfl,by simp,by simp,by simp⟩⟩
theorem VY{p}{s}{c}(a)(b)(lk)
  (n:c.holds p s)(w:c.wfByText s=U)(d:c.laidByTextAt .later p a U)
  (i:c.start=.entering)(g:c.noBlocks=Y/\c.again=Y)(u:p.checked.prog.mainIs=Z (b.1,b.2.toList))(v:(!b.1&&b.2.isEmpty&&!lk)=Y)
  (q:∀f e,p.checked.prog.funcNamed c.func=Z f->p.checked.prog.funcs[f]?=Z e->lk=p.checked.prog.looks []/\∀(j:Nat)t,e.params[j]?=Z t->p.checked.prog.wantsStandIn t=Y)
  (o:U=c.goesBy p.checked.prog):
  Claim7.holds p (.plain s) {stood:={row:=c,standIns:=[],harness:=b,looks:=lk},kinds:=[],alts:=[],goes:=U,laidByText:=U,laidKinds:=a,laidTests:=U,laidLooks:=.later}:=by
 have l:∀r:OpenClaim,Claim7.isSixth {stood:={row:=r,standIns:=[],harness:=b,looks:=lk},kinds:=[]}=Y:=λr=>by simpa[Claim7.isSixth]using v
 have k:=Claim7.tied_new_at .later a U (Claim7.new_of_sixth n _ _ i g u (l c) q) w;exact⟨k,(λD m=>by cases m),d,(λh=>by cases h),o⟩
theorem TW{f}{b}(e:Tryz.prog.funcs[f]?=Z b)(i:b.params=#[22]){g:cH}{c}(h:g=f)(d:Tryz.prog.funcs[g]?=Z c):U=Tryz.prog.looks []/\∀(j:Nat)t,c.params[j]?=Z t->Tryz.prog.wantsStandIn t=Y:=by
 subst h;obtain rfl:c=b:=ee (d.symm.trans e);refine⟨by kernel_rfl,λj t a=>?_⟩;rw[i]at a;rcases j with _|j
 ·simp only[List.getElem?_toArray,qe,gB]at a
  subst a;kernel_rfl
 ·simp at a
theorem mZ{l:ae α}{c d:α}(h:(l.set i c)[j]?=Z d):(j=i/\d=c)\/(j≠i/\l[j]?=Z d):=by
 rw[List.getElem?_set]at h;split at h
 ·rename_i e
  split at h
  ·cases h;exact .inl ⟨e.symm,F⟩
  ·cases h
 ·rename_i e;exact .inr ⟨λh=>e h.symm,h⟩
theorem th{l:ae α}{c d:α}(h:l[i]?=Z d):(l.set i c)[i]?=Z c:=zD (dq.1 h).1
theorem uq{l:ae α}{c:α}(h:j≠i):(l.set i c)[j]?=l[j]?:=uH (λe=>h e.symm)
theorem F9{l:ae α}{c:α}(h:l[i]?=Z c):l.set i c=l:=List.ext_getElem? λj=>by
 by_cases e:j=i
 ·subst e;rw[th h,h]
 ·rw[uq e]
def Cm.uN(c:Cm):Bool:=match c.pr[c.at_]? with
 |some p=>decide (p.kind=1)
 |none=>Y
def Cm.held(c:Cm):Int:=if c.uN then-2 else c.b
structure vA(sites:ae Int)(cl:ae Cm):Prop where
 sv:∀(i:Nat)(c:Cm)(s:Nat),cl[i]?=Z c->c.site=Z s->sites[s]?=Z c.held
 sd:∀(i j:Nat)(c d:Cm)(s:Nat),cl[i]?=Z c->cl[j]?=Z d->c.site=Z s->d.site=Z s->i=j
 so:∀(s:Nat)(v:Int),sites[s]?=Z v->v≠-1->∃(i:Nat)(c:Cm),cl[i]?=Z c/\c.site=Z s
theorem vA.same{b:ae Int}{o:ae Cm}{c l:Cm}(h:vA b o)(g:o[i]?=Z c)(m:l.site=c.site)(w:∀s,c.site=Z s->l.held=c.held):vA b (o.set i l)where
 sv:=λj d s f a=>by
  rcases mZ f with⟨rfl,rfl⟩|⟨n,f⟩
  ·rw[m]at a;rw[w s a];exact h.sv _ _ _ g a
  ·exact h.sv _ _ _ f a
 sd:=λj k d e s f u a p=>by
  rcases mZ f with⟨rfl,rfl⟩|⟨n,r⟩<;>rcases mZ u with⟨rfl,rfl⟩|⟨x,q⟩
  ·rfl
  ·exact h.sd _ _ _ _ s g q (m▸a) p
  ·exact h.sd _ _ _ _ s r g a (m▸p)
  ·exact h.sd _ _ _ _ s r q a p
 so:=λs v t n=>by
  obtain⟨j,d,f,a⟩:=h.so s v t n;by_cases e:j=i
  ·subst e
   rw[g]at f;cases f;exact⟨j,l,th g,m▸a⟩
  ·exact⟨j,d,by rw[uq e];exact f,a⟩
theorem vA.hold{a:ae Int}{n:ae Cm}{s:Nat}{c c':Cm}(h:vA a n)(p:n[i]?=Z c)(q:c'.site=Z s)(g:c.site=Z s\/(c.site=I/\∃v,a[s]?=Z v/\∀(j:Nat)(d:Cm),n[j]?=Z d->d.site≠Z s)):vA (a.set s c'.held) (n.set i c'):=by
 have C:∃v,a[s]?=Z v:=by
  rcases g with g|⟨_,v,r,_⟩
  ·exact⟨_,h.sv _ _ _ p g⟩
  ·exact⟨v,r⟩
 have m:∀(j:Nat)(d:Cm),j≠i->n[j]?=Z d->d.site≠Z s:=by
  rcases g with g|⟨_,v,r,m⟩
  ·exactλj d l f b=>l (h.sd _ _ _ _ s f p b g)
  ·exactλj d _=>m j d
 obtain⟨v,r⟩:=C;exact{
  sv:=λj d t f b=>by
   rcases mZ f with⟨rfl,rfl⟩|⟨l,f⟩
   ·rw[q]at b;cases b;exact th r
   ·have:t≠s:=λe=>m j d l f (e▸b)
    rw[uq this];exact h.sv _ _ _ f b
  sd:=λj k d e t f B b o=>by
   rcases mZ f with⟨rfl,rfl⟩|⟨l,z⟩<;>rcases mZ B with⟨rfl,rfl⟩|⟨A,w⟩
   ·rfl
   ·rw[q]at b;cases b;exact absurd o (m _ _ A w)
   ·rw[q]at o;cases o;exact absurd b (m _ _ l z)
   ·exact h.sd _ _ _ _ t z w b o
  so:=λt u y l=>by
   by_cases e:t=s
   ·exact⟨i,c',th p,e▸q⟩
   ·rw[uq e]at y
    obtain⟨j,d,f,b⟩:=h.so t u y l;by_cases x:j=i
    ·subst x
     rw[p]at f;cases f;rcases g with g|⟨g,_⟩
     ·rw[g]at b;cases b;exact absurd rfl e
     ·rw[g]at b;cases b
    ·exact⟨j,d,by rw[uq x];exact f,b⟩}
theorem vA.free{f:ae Int}{l:ae Cm}{s:Nat}{c q:Cm}(h:vA f l)(r:l[i]?=Z c)(v:c.site=Z s)(n:q.site=I):vA (f.set s (-1)) (l.set i q)where
 sv:=λj d t b a=>by
  rcases mZ b with⟨rfl,rfl⟩|⟨g,b⟩
  ·rw[n]at a;cases a
  ·have:t≠s:=λe=>g (h.sd _ _ _ _ s b r (e▸a) v)
   rw[uq this];exact h.sv _ _ _ b a
 sd:=λj k d e t b o a m=>by
  rcases mZ b with⟨rfl,rfl⟩|⟨g,b⟩
  ·rw[n]at a;cases a
  ·rcases mZ o with⟨rfl,rfl⟩|⟨x,o⟩
   ·rw[n]at m;cases m
   ·exact h.sd _ _ _ _ t b o a m
 so:=λt u p g=>by
  rcases mZ p with⟨rfl,rfl⟩|⟨w,p⟩
  ·exact absurd rfl g
  ·obtain⟨j,d,b,a⟩:=h.so t u p g
   have:j≠i:=λe=>by subst e;rw[r]at b;cases b;rw[v]at a;cases a;exact w F
   exact⟨j,d,by rw[uq this];exact b,a⟩
theorem mY{c:Cm}(a:c.pr[c.at_]?=Z p):c.uN=decide (p.kind=1):=by unfold Cm.uN;rw[a]
theorem GQ{S:Nat}{c c':Cm}(h:c.Ok K S)(f:c.pr[c.at_]?=Z p)(a:c'.pr=c.pr)(b:c'.at_=c.at_+1)(d:p.kind≠5/\p.kind≠6):c'.uN=Y:=by
 unfold Cm.uN;rw[a,b];cases g:c.pr[c.at_+1]? with
 |none=>rfl
 |some q=>
  simp only[decide_eq_false_iff_not];intro e;have:=(h.lx f g).1 e;rw[Ib p d]at this;cases this
theorem zW{c c':Cm}(a:c'.pr=c.pr)(b:c'.at_=c.at_):c'.uN=c.uN:=by unfold Cm.uN;rw[a,b]
theorem Mo.Ok.qv{m:Mo}(b:m.Ok){c:Cm}(a:m.be[i]?=Z c):c.Ok m.aM.length m.sites.length:=(b.me i c a).2.1
theorem avt{m:Mo}(L:m.Ok)(h:vA m.sites m.be){c:Cm}(e:m.be[i]?=Z c):vA (m.bX c).1.sites (m.be.set i (m.bX c).2.1):=by
 have q:=L.qv e;refine tC q (λr=>vA r.1.sites (m.be.set i r.2.1)) ?_ ?_ ?_ ?_ ?_ ?_ ?_ ?_ ?_ ?_ ?_ ?_ ?_ ?_ ?_
 ·intro _;exact h.same e F λ_ _=>rfl
 ·intro p b g;exact h.same e F λs a=>by rw[q.out g]at a;cases a
 ·intro p s b g f a l
  have:=h.hold (c':=c.nk m.clock) e a (.inl a);rwa[show(c.nk m.clock).held=m.clock by unfold Cm.held;rw[GQ (c':=c.nk m.clock) q b F F ah];rfl]at this
 ·intro p s b g f a J
  have N:=Rm _ _ _ J;have:=h.hold (c':=c.take s) e F (.inr ⟨a,_,N,λj d K S=>by
   have G:=h.sv _ _ _ K S;have H:(-1:Int)=d.held:=by rw[show s=s-0 from F,N]at G;simpa using G
   have V:=(L.qv K).b;unfold Cm.held at H;split at H<;>omega⟩)
  rwa[show(c.take s).held=-2 by unfold Cm.held;rw[zW (c:=c) (c':=c.take s) F F,mY b];simp[f]]at this
 ·intro p b g f a J;exact h.same e F λW A=>by rw[a]at A;cases A
 ·intro p k o s b g f D C a l T
  exact h.same e F λ_ _=>by unfold Cm.held;rw[GQ (c':=c.up) q b F F ah,mY b];simp[f,Cm.up]
 ·intro p k s b g f D C a l T;exact h.same e F λ_ _=>rfl
 ·intro p k s b g f D C a l
  exact h.same e F λ_ _=>by unfold Cm.held;rw[GQ (c':=c.put _) q b F F ah,mY b];simp[show¬p.kind=1 by omega,Cm.put,Cm.up]
 ·intro p s b g f a l;exact h.free e a F
 ·intro p s w b g f a l n M E t;exact h.free e a F
 ·intro p s w b g f a l n M E t
  obtain⟨O,u,v,P,x,y,Q,R⟩:=c.qX c.wrote.length;exact h.same e x λ_ _=>by unfold Cm.held;rw[zW u v,y]
 ·intro p s b g f a l n B z t;exact h.free e a F
 ·intro p s b g f a l n B z t;exact h.same e F λ_ _=>rfl
 ·intro p s w b g f a l n M E
  obtain⟨O,u,v,P,x,y,Q,R⟩:=c.qX c.wrote.length;exact h.same e x λ_ _=>by unfold Cm.held;rw[zW u v,y]
 ·intro p s b g f a l n B z;exact h.free e a F
def Cm.DV(c:Cm):Int:=if c.phase=2 then c.aG else 0
def vz(marks:ae fV)(b:ae Cm):Prop:=∀(k:Nat)(a:fV),marks[k]?=Z a->a.set=U->∃(i:Nat)(c:Cm)(j:Nat)(w:Wt),b[i]?=Z c/\a.bt=(i:Nat)/\c.wrote[j]?=Z w/\w.key=k/\c.own j/\a.aG=c.DV
theorem vz.none_{marks:ae fV}{a:ae Cm}{c l:Cm}(h:vz marks a)(o:a[i]?=Z c)(u:c.keys=0/\c.phase=0):vz marks (a.set i l):=λk s p q=>by
 obtain⟨j,d,t,w,b,n,r,m,f,g⟩:=h k s p q;have:j≠i:=λe=>by subst e;rw[o]at b;cases b;unfold Cm.own at f;omega
 exact⟨j,d,t,w,by rw[uq this];exact b,n,r,m,f,g⟩
theorem vz.leave{marks:ae fV}{f:ae Cm}{c o:Cm}(h:vz marks f)(v:f[i]?=Z c)(r:c.me=i):vz (marks.map (yz c.me)) (f.set i o):=λk x b a=>by
 rw[fW,fX]at b;obtain⟨m,b,rfl⟩:=b;unfold yz at a⊢;split at a
 ·simp[fV.no]at a
 ·rename_i g
  simp only[if_neg g];obtain⟨j,d,t,w,q,l,u,p,s,n⟩:=h k m b a;have:j≠i:=λe=>g ⟨a,by rw[l,r,e]⟩;exact⟨j,d,t,w,by rw[uq this];exact q,l,u,p,s,n⟩
theorem vz.xu{marks:ae fV}{a:ae Cm}{c:Cm}(h:vz marks a)(b:a[i]?=Z c):vz marks (a.set i c):=by
 rw[F9 b];exact h
theorem ap0{m:Mo}(T:m.Ok)(h:vz m.marks m.be){c:Cm}(a:m.be[i]?=Z c):vz (m.bX c).1.marks (m.be.set i (m.bX c).2.1):=by
 have C:=T.qv a;have J:=(T.me i c a).1;refine tC C (λr=>vz r.1.marks (m.be.set i r.2.1)) ?_ ?_ ?_ ?_ ?_ ?_ ?_ ?_ ?_ ?_ ?_ ?_ ?_ ?_ ?_
 ·intro _;exact h.xu a
 ·intro p b f;exact h.none_ a (C.kR (C.cls (.inl f)))
 ·intro p s b f n q z;exact h.none_ a (C.no b ah)
 ·intro p s b f n q hf;exact h.none_ a (C.no b ah)
 ·intro p b f n q hf;exact h.none_ a (C.no b ah)
 ·intro p k o s b f n dV S q z hg;exact h.none_ a (C.no b ah)
 ·intro p k s b f n dV S q z hg;exact h.xu a
 ·intro p k s b f n dV S q z;exact h.none_ a (C.no b ah)
 ·intro p s b f n q z;exact h.leave a J
 ·intro p s w b f n q z G M fq R;exact h.leave a J
 ·intro p s w b f n q z G M fq R
  obtain⟨f1,f2,f3,f4,f5,f6,N,f8⟩:=c.qX c.wrote.length;have S:=(dq.1 M).1;have gG:=c.xW c.wrote.length;have X:(c.step c.wrote.length).DV=0:=by unfold Cm.DV;rw[if_neg ah]
  intro k O g E;rcases mZ g with⟨rfl,rfl⟩|⟨K,g⟩
  ·exact⟨i,_,c.keys,w,th a,by simp[J],by rw[N];exact M,rfl,(by unfold Cm.own;omega:(c.step c.wrote.length).own c.keys),X.symm⟩
  ·obtain⟨j,d,t,u,v,B,l,A,H,D⟩:=h k O g E
   by_cases e:j=i
   ·subst e
    rw[a]at v;cases v;refine⟨j,_,t,u,th a,B,by rw[N];exact l,A,?_,?_⟩
    ·show(c.step c.wrote.length).own t
     unfold Cm.own at H⊢;have:=(dq.1 l).1;omega
    ·rw[X,D];unfold Cm.DV;rw[if_neg ah]
   ·exact⟨j,d,t,u,by rw[uq e];exact v,B,l,A,H,D⟩
 ·intro p s b f n q z G Q K R;exact h.leave a J
 ·intro p s b f n q z G Q K R
  intro k O g E;simp only[Nj,fX]at g;obtain⟨W,g,rfl⟩:=g;have oF:W.set=U:=by split at E<;>exact E
  obtain⟨j,d,t,u,v,B,l,A,H,D⟩:=h k W g oF;by_cases e:j=i
  ·subst e
   rw[a]at v;cases v;have L:k∈c.wrote.map (·.key):=A▸jg (jZ l);rw[if_pos L];exact⟨j,_,t,u,th a,B,l,A,by unfold Cm.own Cm.tick;simp[Q],by simp[Cm.DV,Cm.tick]⟩
  ·have L:k∉c.wrote.map (·.key):=λL=>by
    obtain⟨x,hx,V⟩:=og.1 L;obtain⟨y,hy⟩:=CE hx;obtain⟨t',pS⟩:=(T.me i c a).2.2 y x hy (.inr (.inl G));rw[V,g]at pS;cases pS;simp only[J]at B;omega
   rw[if_neg L];exact⟨j,d,t,u,by rw[uq e];exact v,B,l,A,H,D⟩
 ·intro p s w b f n q z G M fq
  obtain⟨f1,f2,f3,f4,f5,f6,N,f8⟩:=c.qX c.wrote.length;have gG:=c.xW c.wrote.length;intro k O g E;rcases mZ g with⟨rfl,rfl⟩|⟨K,g⟩
  ·simp[fV.no]at E
  ·obtain⟨j,d,t,u,v,B,l,A,H,D⟩:=h k O g E
   by_cases e:j=i
   ·subst e
    rw[a]at v;cases v;have yX:t≠c.keys:=λe=>by subst e;rw[M]at l;cases l;exact K A.symm
    have Fw:=(dq.1 l).1;have oE:c.keys<t:=by unfold Cm.own at H;omega
    have P:(c.step c.wrote.length).phase=2/\(c.step c.wrote.length).keys=c.keys+1:=by omega
    refine⟨j,_,t,u,th a,B,by rw[N];exact l,A,?_,?_⟩
    ·show(c.step c.wrote.length).own t
     unfold Cm.own;omega
    ·rw[D];unfold Cm.DV;rw[if_pos G,if_pos P.1,f8]
   ·exact⟨j,d,t,u,by rw[uq e];exact v,B,l,A,H,D⟩
 ·intro p s b f n q z G Q K;exact h.leave a J
structure CJ(t:Int)(c:Cm):Prop where
 b:c.b<=t
 st:2<=c.phase->c.b<c.aG/\c.aG<=t/\0<c.aG
 wl:c.wrote.length<=c.at_
theorem Wd(w:Wt):∀l,(mr w l).length<=l.length+1
 |[]=>by simp[mr]
 |x::l=>by
  have:=Wd w l;simp only[mr];repeat' split
  all_goals simp only[jY]at*;omega
structure Mo.Fit(m:Mo):Prop where
 s:vA m.sites m.be
 xC:vz m.marks m.be
 ck:∀(i:Nat)(c:Cm),m.be[i]?=Z c->CJ m.clock c
theorem ahd{m:Mo}(D:m.Ok){c:Cm}(O:m.be[i]?=Z c)(h:CJ m.clock c):m.clock<=(m.bX c).1.clock/\CJ (m.bX c).1.clock (m.bX c).2.1:=by
 have C:=D.qv O;have P:=D.ck;have n:CJ m.clock c.up.leave:=⟨h.b,λg=>by simp[Cm.leave]at g,gJ _⟩;refine tC C (λr=>m.clock<=r.1.clock/\CJ r.1.clock r.2.1) ?_ ?_ ?_ ?_ ?_ ?_ ?_ ?_ ?_ ?_ ?_ ?_ ?_ ?_ ?_
 ·intro _;exact⟨gU _,h⟩
 ·intro p a b;exact⟨gU _,h.b,h.st,El h.wl⟩
 ·intro p s a b d e f;exact⟨gU _,gU _,λg=>by have:=(C.no a ah).2;simp only[Cm.nk,Cm.up]at g;omega,El h.wl⟩
 ·intro p s a b d e M;exact⟨gU _,h.b,h.st,h.wl⟩
 ·intro p a b d e M;exact⟨gU _,h.b,h.st,El h.wl⟩
 ·intro p k o s a b d z y e f N;exact⟨gU _,h.b,h.st,El h.wl⟩
 ·intro p k s a b d z y e f N;exact⟨gU _,h⟩
 ·intro p k s a b d z y e f;exact⟨gU _,h.b,h.st,rU (Wd _ _) (Nat.succ_le_succ h.wl)⟩
 ·intro p s a b d e f;exact⟨gU _,n⟩
 ·intro p s w a b d e f j E B q;exact⟨gU _,n⟩
 ·intro p s w a b d e f j E B q
  obtain⟨G,H,t,J,K,l,u,A⟩:=c.qX c.wrote.length;have L:=c.xW c.wrote.length;exact⟨gU _,by rw[l];exact h.b,λg=>by simp only at g;omega,by simp only[u,t];exact h.wl⟩
 ·intro p s a b d e f j x v q;exact⟨gU _,n⟩
 ·intro p s a b d e f j x v q
  have:=h.b;exact⟨by simp only;omega,by simp only[Cm.tick];omega,λ_=>by simp only[Cm.tick];omega,h.wl⟩
 ·intro p s w a b d e f j E B
  obtain⟨G,H,t,J,K,l,u,A⟩:=c.qX c.wrote.length;have L:=c.xW c.wrote.length;exact⟨gU _,by rw[l];exact h.b,λg=>by simp only at g;rw[l,A];exact h.st ah,by simp only[u,t];exact h.wl⟩
 ·intro p s a b d e f j x v;exact⟨gU _,n⟩
theorem CJ.le{u:Int}{c:Cm}(h:CJ t c)(b:t<=u):CJ u c:=⟨by have:=h.b;omega,λa=>by have:=h.st a;omega,h.wl⟩
theorem F1{m:Mo}(n:Int)(a:Mo×Int×Int->Prop)(d:m.fE=U->a (m,0,5))(b:m.fE=Y->n<0\/m.be.length<=n->a (m,0,4))(e:∀i c,m.fE=Y->n=(i:Nat)->m.be[i]?=Z c->a ({(m.bX c).1 with be:=m.be.set i (m.bX c).2.1},(m.bX c).2.2,0)):a (m.pick n):=by
 unfold Mo.pick;cases hs:m.fE with
 |true=>simpa using d hs
 |false=>
  simp only[hZ,if_false];split
  ·exact b hs (.inl ‹_›)
  ·split
   ·rename_i h;rw[List.getElem?_eq_none_iff]at h;exact b hs (.inr ah)
   ·rename_i c f;exact e n.toNat c hs ah f
theorem ab4{m:Mo}(e:m.Ok)(h:m.Fit)(n:Int):(m.pick n).1.Fit:=by
 refine F1 n (λr=>r.1.Fit) (λ_=>h) (λ_ _=>h) λi c _ _ a=>?_;have f:=ahd e a (h.ck i c a);refine⟨avt e h.s a,ap0 e h.xC a,λj d b=>?_⟩;rcases mZ b with⟨rfl,rfl⟩|⟨g,b⟩
 ·exact f.2
 ·exact(h.ck j d b).le f.1
theorem yv{l:ae α}{x d:α}(h:(l++[x])[j]?=Z d):l[j]?=Z d\/(j=l.length/\d=x):=by
 rw[List.getElem?_append]at h;split at h
 ·exact .inl h
 ·have a:=(dq.1 h).1
  simp only[jY,uI]at a;have e:j-l.length=0:=by omega
  rw[e]at h;simp only[qe,gB]at h;exact .inr ⟨by omega,h.symm⟩
theorem BA{l:ae α}{x d:α}(h:l[j]?=Z d):(l++[x])[j]?=Z d:=by
 rw[LZ (dq.1 h).1];exact h
theorem Xv{m:Mo}(p:m.Ok)(h:m.Fit)(l:ae Stp):(m.bt l).1.Fit:=by
 unfold Mo.bt;split
 ·exact h
 ·split
  ·exact h
  ·split
   ·exact h
   ·refine⟨⟨λi c s a b=>?_,λi j c d s a e b f=>?_,λs v r g=>?_⟩,λk t o b=>?_,λi c a=>?_⟩
    ·rcases yv a with a|⟨_,rfl⟩
     ·exact h.s.sv i c s a b
     ·cases b
    ·rcases yv a with a|⟨_,rfl⟩
     ·rcases yv e with e|⟨_,rfl⟩
      ·exact h.s.sd i j c d s a e b f
      ·cases f
     ·cases b
    ·obtain⟨i,c,a,b⟩:=h.s.so s v r g
     exact⟨i,c,BA a,b⟩
    ·obtain⟨i,c,j,w,a,q⟩:=h.xC k t o b
     exact⟨i,c,j,w,BA a,q⟩
    ·rcases yv a with a|⟨_,rfl⟩
     ·exact h.ck i c a
     ·exact⟨p.ck.1,λn=>by simp[Cm.new]at n,gJ _⟩
theorem ayx{m:Mo}(h:m.Fit):m.da.1.Fit:=by
 have:m.da.1.sites=m.sites/\m.da.1.be=m.be/\m.da.1.marks=m.marks/\m.da.1.clock=m.clock:=by
  unfold Mo.da
  repeat' split
  all_goals exact⟨F,F,F,F⟩
 obtain⟨b,a,c,d⟩:=this;exact⟨by rw[b,a];exact h.s,by rw[c,a];exact h.xC,by rw[a,d];exact h.ck⟩
theorem aqw{a c:Int}{m:Mo}(h:Mo.new a b c=Z m):m.Fit:=by
 unfold Mo.new at h;split at h
 ·cases h
 ·cases h
  refine⟨⟨λi c s e=>by simp[Mo.init]at e,λi j c d s e=>by simp[Mo.init]at e,λs v g l=>?_⟩,λk o f n=>?_,λi c e=>by simp[Mo.init]at e⟩
  ·simp only[Mo.init,List.getElem?_replicate]at g
   split at g
   ·cases g;exact absurd F l
   ·cases g
  ·simp only[Mo.init,List.getElem?_replicate]at f
   split at f
   ·cases f;simp[fV.no]at n
   ·cases f
variable {c:Cm}{m:Mo}
def pw(l:ae aZ)(b:Int):aj ByteArray:=match l[eo b l]? with
 |some v=>if v.gone then I else Z v.val
 |none=>I
def V8:aj ByteArray->Int×ByteArray
 |some v=>(2,v)
 |none=>(3,eH)
theorem get_none(h:lR k c.wrote=I):m.get c k=if(m.marks.getD k .no).set/\(m.marks.getD k .no).bt≠c.me/\(m.marks.getD k .no).aG≠0/\(m.marks.getD k .no).aG<=c.b then I else Z (V8 (pw (m.aM.getD k []) c.b)):=by
 unfold Mo.get;rw[h];simp only
 split
 ·rfl
 ·unfold pw
  cases(m.aM.getD k [])[eo c.b (m.aM.getD k [])]? with
  |none=>rfl
  |some v=>simp only[vj];cases v.gone<;>rfl
theorem get_some{w:Wt}(h:lR k c.wrote=Z w):m.get c k=Z (vj w.gone w.val):=by
 unfold Mo.get;rw[h]
theorem UW(v:aZ)(l:ae aZ)(b:Int):pw (v::l) b=if v.aG<=b then(if v.gone then I else Z v.val)else pw l b:=by
 unfold pw;by_cases h:v.aG<=b<;>simp[eo,h]
theorem aqA(l:ae aZ)(h:w<=b):eo b l<=eo w l:=by
 induction l with
 |nil=>exact dt _
 |cons v l a=>simp only[eo];split<;>split<;>omega
theorem Uo(b:Int):∀(l:ae aZ)(n:Nat),eo b l<n->eo b (l.take n)=eo b l
 |[],n,_=>by simp
 |v::l,0,h=>by omega
 |v::l,n+1,h=>by
  simp only[eo,List.take_succ_cons]at h⊢;split
  ·rfl
  ·rename_i a;rw[if_neg a]at h;rw[Uo b l n ah]
theorem abB(b:Int):∀(l:ae aZ),eo b (l.take (eo b l))=(l.take (eo b l)).length
 |[]=>rfl
 |v::l=>by
  by_cases h:v.aG<=b
  ·simp[eo,h]
  ·simp only[eo,if_neg h,List.take_succ_cons,jY,abB b l]
theorem ay9(l:ae aZ)(h:w<=b):pw (mq l w) b=pw l b:=by
 unfold mq;have a:=aqA l h;cases hv:l[eo w l]? with
 |none=>rfl
 |some v=>
  have aC:=(dq.1 hv).1;cases hg:v.gone with
  |false=>
   simp only[hg,hZ,if_false];unfold pw;rw[Uo b l _ ah,List.getElem?_take_of_lt ah]
  |true=>
   simp only[hg,if_true];by_cases e:eo b l<eo w l
   ·unfold pw;rw[Uo b l _ e,List.getElem?_take_of_lt e]
   ·have e:eo b l=eo w l:=by omega
    unfold pw;rw[<-e,abB,Gr (dt _),e,hv];simp[hg]
theorem ay6(l:ae aZ)(h:w<=b):oJ (mq l w) b=oJ l b:=by
 unfold mq;cases l with
 |nil=>simp
 |cons x l=>
  cases hv:(x::l)[eo w (x::l)]? with
  |none=>rfl
  |some v=>
   simp only
   by_cases a:x.aG<=w
   ·have e:eo w (x::l)=0:=by simp[eo,a]
    rw[e]at hv⊢;simp only[qe,gB]at hv;subst hv;cases x.gone
    ·simp[oJ]
    ·simp[oJ];omega
   ·have e:∃n,eo w (x::l)=n+1:=by simp[eo,a]
    obtain⟨n,e⟩:=e;rw[e];split<;>simp[oJ]
def Mo.swp(m:Mo)(C:ae (ae aZ))(a:Nat)(w:Int):Mo:={m with aM:=C,at_:=a,w:=w}
theorem YF{a:Nat}(h:pw (C.getD k []) c.b=pw (m.aM.getD k []) c.b):(m.swp C a w).get c k=m.get c k:=by
 cases hw:lR k c.wrote with
 |some x=>rw[get_some hw,get_some hw]
 |none=>rw[get_none hw,get_none hw,show(m.swp C a w).aM=C from F,show(m.swp C a w).marks=m.marks from F,h]
def Ad(k:Nat)(v:aZ)(C:ae (ae aZ)):ae (ae aZ):=C.modify k λl=>v::l
set_option linter.unusedSimpArgs false in
theorem azf{m:Mo}{C:List (List aZ)}{a:Nat}{w:Int}{c:Cm}(H:c.Ok m.aM.length m.sites.length)(y:(∃s,c.site=some s)→c.uN=false→∀k,pw (C.getD k []) c.b=pw (m.aM.getD k []) c.b∧oJ (C.getD k []) c.b=oJ (m.aM.getD k []) c.b):∃f:List (List aZ)→List (List aZ),(f=id∨∃k v,f=Ad k v)∧(m.bX c).1.aM=f m.aM∧(m.swp C a w).bX c=((m.bX c).1.swp (f C) a w,(m.bX c).2):=by
 refine tC H (λr=>∃f:List (List aZ)→List (List aZ),(f=id∨∃k v,f=Ad k v)∧r.1.aM=f m.aM∧(m.swp C a w).bX c=(r.1.swp (f C) a w,r.2)) ?_ ?_ ?_ ?_ ?_ ?_ ?_ ?_ ?_ ?_ ?_ ?_ ?_ ?_ ?_
 ·intro d;exact⟨id,.inl rfl,rfl,by simp[Mo.bX,d,Mo.swp]⟩
 ·intro p d g;exact⟨id,.inl rfl,rfl,by simp[Mo.bX,d,g,Mo.swp,Mo.bA]⟩
 ·intro p s d g b h n;exact⟨id,.inl rfl,rfl,by simp[Mo.bX,d,g,b,h,Mo.swp,Mo.bA]⟩
 ·intro p s d g b h z;exact⟨id,.inl rfl,rfl,by simp[Mo.bX,d,g,b,h,z,Mo.swp,Mo.bA]⟩
 ·intro p d g b h z;exact⟨id,.inl rfl,rfl,by simp[Mo.bX,d,g,b,h,z,Mo.swp,Mo.bA]⟩
 ·intro p k o s d g b E D h n A
  have u:=(y ⟨s,h⟩ (by rw[mY d];simp[b]) k).1;have e:p.key.toNat=k:=by omega
  refine⟨id,.inl rfl,rfl,?_⟩;unfold Mo.bX;simp only[d,g,b,e];rw[YF u,A];rfl
 ·intro p k s d g b E D h n A
  have u:=(y ⟨s,h⟩ (by rw[mY d];simp[b]) k).1;have e:p.key.toNat=k:=by omega
  refine⟨id,.inl rfl,rfl,?_⟩;unfold Mo.bX;simp only[d,g,b,e];rw[YF u,A];rfl
 ·intro p k s d g b E D h n
  have e:p.key.toNat=k:=by omega
  refine⟨id,.inl rfl,rfl,?_⟩;rcases b with b|b<;>simp[Mo.bX,d,g,b,e,Mo.swp,Mo.bA]
 ·intro p s d g b h n
  refine⟨id,.inl rfl,rfl,?_⟩;rcases b with b|⟨b,q⟩
  ·simp[Mo.bX,d,g,b,h,Mo.swp,Mo.bA,Mo.leave]
  ·simp[Mo.bX,d,g,b,h,q,Mo.swp,Mo.bA,Mo.leave]
 ·intro p s x d g b h n j q G t
  have u:=(y ⟨s,h⟩ (by rw[mY d];simp[b]) x.key).2;have i:c.wrote.length≠0:=by have:=(List.getElem?_eq_some_iff.1 q).1;omega
  refine⟨id,.inl rfl,rfl,?_⟩;unfold Mo.bX;simp only[d,g,b,h,j,q];rw[show(m.swp C a w).aM=C from rfl,u,show(m.swp C a w).marks=m.marks from rfl,t];simp[i];rfl
 ·intro p s x d g b h n j q G t
  have u:=(y ⟨s,h⟩ (by rw[mY d];simp[b]) x.key).2;have i:c.wrote.length≠0:=by have:=(List.getElem?_eq_some_iff.1 q).1;omega
  refine⟨id,.inl rfl,rfl,?_⟩;unfold Mo.bX;simp only[d,g,b,h,j,q];rw[show(m.swp C a w).aM=C from rfl,u,show(m.swp C a w).marks=m.marks from rfl,t];simp[i];rfl
 ·intro p s d g b h n j B l t
  have i:c.wrote.length≠0:=by simpa using l
  exact⟨id,.inl rfl,rfl,by simp[Mo.bX,d,g,b,h,j,i,t,Mo.swp,Mo.bA,Mo.leave,l]⟩
 ·intro p s d g b h n j B l t
  have i:c.wrote.length≠0:=by simpa using l
  exact⟨id,.inl rfl,rfl,by simp[Mo.bX,d,g,b,h,j,i,t,Mo.swp,Mo.bA,Mo.leave,l]⟩
 ·intro p s x d g b h n j q G
  have i:c.wrote.length≠0:=by have:=(List.getElem?_eq_some_iff.1 q).1;omega
  have l:c.wrote≠[]:=λe=>by rw[e]at i;simp at i
  refine⟨Ad x.key ⟨c.aG,x.gone,x.val⟩,.inr ⟨_,_,rfl⟩,rfl,by simp[Mo.bX,d,g,b,h,j,i,q,Mo.swp,Mo.bA,Mo.leave,l,Ad]⟩
 ·intro p s d g b h n j B l
  have i:c.wrote.length≠0:=by simpa using l
  exact⟨id,.inl rfl,rfl,by simp[Mo.bX,d,g,b,h,j,i,Mo.swp,Mo.bA,Mo.leave,l]⟩
def Live(m:Mo)(b:Int):Prop:=m.clock<=b\/∃(s:Nat)(h:Int),m.sites[s]?=Z h/\0<=h/\h<=b
structure yp(m:Mo):Prop where
 w:m.at_≠0->m.w<=m.clock
 s:m.at_≠0->∀(j:Nat)h,j+1<m.at_->m.sites[j]?=Z h->0<=h->m.w<=h
theorem yp.live(h:yp m)(e:m.sites.length<m.at_)(a:Live m b):m.w<=b:=by
 rcases a with a|⟨s,x,c,d,g⟩
 ·have:=h.w ah;omega
 ·have f:=(dq.1 c).1
  have:=h.s ah s x ah c d;omega
structure Hid(m:Mo)(C:ae (ae aZ)):Prop where
 len:C.length=m.aM.length
 rd:∀k b,Live m b->pw (C.getD k []) b=pw (m.aM.getD k []) b/\oJ (C.getD k []) b=oJ (m.aM.getD k []) b
theorem azd(f:m.Ok)(d:c.Ok m.aM.length m.sites.length):m.clock<=(m.bX c).1.clock/\∀(s:Nat)h,(m.bX c).1.sites[s]?=Z h->0<=h->m.sites[s]?=Z h\/h=m.clock:=by
 have a:∀(t:Nat)(v:Int),(v<0\/v=m.clock)->∀(s:Nat)h,(m.sites.set t v)[s]?=Z h->0<=h->m.sites[s]?=Z h\/h=m.clock:=λt v g s h b e=>by
  rcases mZ b with⟨rfl,rfl⟩|⟨_,b⟩
  ·exact .inr ah
  ·exact .inl b
 have nx:∀(s:Nat)h,m.sites[s]?=Z h->0<=h->m.sites[s]?=Z h\/h=m.clock:=λs h b _=>.inl b;refine tC d (λr=>m.clock<=r.1.clock/\∀(s:Nat)h,r.1.sites[s]?=Z h->0<=h->m.sites[s]?=Z h\/h=m.clock) ?_ ?_ ?_ ?_ ?_ ?_ ?_ ?_ ?_ ?_ ?_ ?_ ?_ ?_ ?_
 ·intro _;exact⟨gU _,nx⟩
 ·intro _ _ _;exact⟨gU _,nx⟩
 ·intro p s _ _ _ _ _;exact⟨gU _,a s _ (.inr F)⟩
 ·intro p s _ _ _ _ _;exact⟨gU _,a s _ (.inl ah)⟩
 ·intro _ _ _ _ _ _;exact⟨gU _,nx⟩
 ·intro _ _ _ _ _ _ _ _ _ _ _ _;exact⟨gU _,nx⟩
 ·intro _ _ _ _ _ _ _ _ _ _ _;exact⟨gU _,nx⟩
 ·intro _ _ _ _ _ _ _ _ _ _;exact⟨gU _,nx⟩
 ·intro p s _ _ _ _ _;exact⟨gU _,a s _ (.inl ah)⟩
 ·intro p s w _ _ _ _ _ _ _ _ _;exact⟨gU _,a s _ (.inl ah)⟩
 ·intro _ _ _ _ _ _ _ _ _ _ _ _;exact⟨gU _,nx⟩
 ·intro p s _ _ _ _ _ _ _ _ _;exact⟨gU _,a s _ (.inl ah)⟩
 ·intro _ _ _ _ _ _ _ _ _ _ _;exact⟨by simp only;omega,nx⟩
 ·intro _ _ _ _ _ _ _ _ _ _ _;exact⟨gU _,nx⟩
 ·intro p s _ _ _ _ _ _ _ _;exact⟨gU _,a s _ (.inl ah)⟩
theorem QO(k j:Nat)(v:aZ)(C:ae (ae aZ)):(Ad k v C).getD j []=if k=j/\k<C.length then v::C.getD j []else C.getD j []:=by
 unfold Ad;simp only[wI,Gs];by_cases e:k=j
 ·subst e
  by_cases a:k<C.length
  ·simp[a]
  ·simp[a]
 ·cases C[j]?<;>simp[e]
theorem alQ{a:Nat}(o:m.Ok)(K:m.Fit)(t:yp m)(n:Hid m C)(q:m.be[i]?=Z c):∃u,(m.swp C a w).bX c=((m.bX c).1.swp u a w,(m.bX c).2)/\yp (m.bX c).1/\Hid (m.bX c).1 u:=by
 have l:=o.qv q;obtain⟨L,y⟩:=azd o l;have B:=LK o l (o.me i c q).2.2;have J:∀b,Live (m.bX c).1 b->Live m b:=λb g=>by
  rcases g with g|⟨s,h,p,d,g⟩
  ·exact .inl ah
  ·rcases y s h p d with e|e
   ·exact .inr ⟨s,h,e,d,g⟩
   ·exact .inl ah
 obtain⟨f,E,z,H⟩:=azf (C:=C) (a:=a) (w:=w) l λ⟨s,p⟩g k=>n.rd k c.b (.inr ⟨s,c.b,by have:=K.s.sv i c s q p;rwa[show c.held=c.b by unfold Cm.held;rw[g];rfl]at this,l.b,gU _⟩);refine⟨f C,H,⟨λd=>?_,λd j h A G x=>?_⟩,?_,λk b g=>?_⟩
 ·have:=t.w (by rw[B.at_]at d;exact d)
  have D:(m.bX c).1.w=m.w:=by
   refine tC l (λr=>r.1.w=m.w) ?_ ?_ ?_ ?_ ?_ ?_ ?_ ?_ ?_ ?_ ?_ ?_ ?_ ?_ ?_<;>intros<;>rfl
  omega
 ·have D:(m.bX c).1.w=m.w:=by
   refine tC l (λr=>r.1.w=m.w) ?_ ?_ ?_ ?_ ?_ ?_ ?_ ?_ ?_ ?_ ?_ ?_ ?_ ?_ ?_<;>intros<;>rfl
  rw[B.at_]at d A;rw[D];rcases y j h G x with e|e
  ·exact t.s d j h A e x
  ·have:=t.w d;omega
 ·rw[z]
  rcases E with rfl|⟨k,v,rfl⟩
  ·exact n.len
  ·simp[Ad,n.len]
 ·have e:=n.rd k b (J b g)
  rw[z];rcases E with rfl|⟨j,v,rfl⟩
  ·exact e
  ·rw[QO,QO,n.len]
   split
   ·rw[UW,UW,e.1];exact⟨rfl,rfl⟩
   ·exact e
theorem alO{a:Nat}(p:m.Ok)(o:m.Fit)(j:yp m)(i:Hid m C)(n:Int):∃h,(m.swp C a w).pick n=((m.pick n).1.swp h a w,(m.pick n).2)/\yp (m.pick n).1/\Hid (m.pick n).1 h:=by
 have q:∀r:Mo×Int×Int,m.pick n=r->(m.swp C a w).pick n=(m.swp C a w).pick n:=λ_ _=>rfl;by_cases b:m.fE=U
 ·have d:m.pick n=(m,0,5):=by simp[Mo.pick,b]
  have f:(m.swp C a w).pick n=(m.swp C a w,0,5):=by simp[Mo.pick,b,Mo.swp]
  rw[d,f];exact⟨C,F,j,i⟩
 ·by_cases g:n<0
  ·have d:m.pick n=(m,0,4):=by simp[Mo.pick,b,g]
   have f:(m.swp C a w).pick n=(m.swp C a w,0,4):=by simp[Mo.pick,b,Mo.swp,g]
   rw[d,f];exact⟨C,F,j,i⟩
  ·cases hc:m.be[n.toNat]? with
   |none=>
    have d:m.pick n=(m,0,4):=by simp[Mo.pick,b,g,hc]
    have f:(m.swp C a w).pick n=(m.swp C a w,0,4):=by
     unfold Mo.pick;rw[show(m.swp C a w).be=m.be from F,show(m.swp C a w).fE=m.fE from F,hc];simp[b,g]
    rw[d,f];exact⟨C,F,j,i⟩
   |some c=>
    obtain⟨h,e,k,l⟩:=alQ (a:=a) (w:=w) p o j i hc;have d:m.pick n=({(m.bX c).1 with be:=m.be.set n.toNat (m.bX c).2.1},(m.bX c).2.2,0):=by simp[Mo.pick,b,g,hc]
    have f:(m.swp C a w).pick n=({(m.bX c).1.swp h a w with be:=m.be.set n.toNat (m.bX c).2.1},(m.bX c).2.2,0):=by
     unfold Mo.pick;rw[show(m.swp C a w).be=m.be from F,show(m.swp C a w).fE=m.fE from F,hc];simp only[b,g,if_false,e,hZ]
    rw[d,f];exact⟨h,F,⟨k.w,k.s⟩,l.len,l.rd⟩
theorem Zx{a:Nat}(c:yp m)(b:Hid m C)(l:ae Stp):(m.swp C a w).bt l=((m.bt l).1.swp C a w,(m.bt l).2)/\yp (m.bt l).1/\Hid (m.bt l).1 C:=by
 have e:(m.swp C a w).right l=m.right l:=by unfold Mo.right;rw[show(m.swp C a w).aM=C from F,b.len]
 unfold Mo.bt;rw[e,show(m.swp C a w).be=m.be from F,show(m.swp C a w).fE=m.fE from F]
 repeat' split
 all_goals exact⟨F,⟨c.w,c.s⟩,b.len,b.rd⟩
theorem ap6(k j:Nat)(f:ae aZ->ae aZ)(a:f []=[])(C:ae (ae aZ)):(C.modify k f).getD j []=if k=j then f (C.getD j [])else C.getD j []:=by
 simp only[wI,Gs];cases C[j]?<;>by_cases e:k=j<;>simp[e,a]
theorem Sy(v:m.Ok)(i:yp m)(d:Hid m C):yp m.da.1/\Hid m.da.1 C/\∃A a w,m.da.1=m.swp A a w:=by
 have n:m.sites.length<m.at_->∀k j b,Live m b->pw (C.getD j []) b=pw ((m.aM.modify k λl=>mq l m.w).getD j []) b/\oJ (C.getD j []) b=oJ ((m.aM.modify k λl=>mq l m.w).getD j []) b:=λs k j b g=>by
  rw[ap6 _ _ _ (by simp[mq,eo])];have c:=d.rd j b g;have o:=i.live s g;split
  ·rw[ay9 _ o,ay6 _ o];exact c
  ·exact c
 unfold Mo.da;split
 ·exact⟨i,d,_,_,_,F⟩
 ·split
  ·exact⟨⟨λ_=>gU _,λ_ j h p=>by simp only at p;omega⟩,⟨d.len,d.rd⟩,_,_,_,F⟩
  ·split
   ·rename_i r c o
    have t:=i.w c;refine⟨⟨λ_=>?_,λ_ j h p f q=>?_⟩,⟨d.len,d.rd⟩,_,_,_,F⟩
    ·simp only
     split
     ·split<;>omega
     ·exact t
    ·simp only at p f⊢
     by_cases e:j=m.at_-1
     ·subst e
      rw[f];simp only
      split<;>omega
     ·have:=i.s c j h ah f q
      split
      ·split<;>omega
      ·exact this
   ·split
    ·exact⟨⟨λh=>absurd F h,λh=>absurd F h⟩,⟨by simp[d.len],λj b g=>n ah _ j b g⟩,_,_,_,F⟩
    ·rename_i r c o u
     refine⟨⟨λ_=>i.w c,λ_ j h p f q=>?_⟩,⟨by simp[d.len],λj b g=>n ah _ j b g⟩,_,_,_,F⟩;have:=(dq.1 f).1;simp only at this;exact i.s c j h ah f q
def Cm.pg(c:Cm):Nat:=if c.phase=0 then c.keys else if c.phase=1 then c.wrote.length else if c.phase=2 then c.wrote.length+1+c.keys else 2*c.wrote.length+1
def Cm.left(c:Cm):Nat:=3*(c.pr.length-c.at_)+2*c.wrote.length-c.pg-(if c.uN&&c.site.isSome then 1 else 0)
theorem arD{S:Nat}(h:c.Ok K S):c.pg<=2*c.wrote.length+1/\(c.wrote=[]->c.pg=0):=by
 have b:=h.keys;have a:=h.kR;have d:=h.qU;refine⟨?_,λe=>by have:=a e;simp[Cm.pg,this]⟩;by_cases e:c.wrote=[]
 ·have:=a e;simp[Cm.pg,this]
 ·have:=b e
  unfold Cm.pg;repeat' split
  all_goals omega
theorem avB{a:Cm}(f:a.wrote=[])(d:a.pg=0)(g:a.pr=c.pr)(b:a.at_=c.at_+1)(e:a.site=I):a.left=3*(c.pr.length-(c.at_+1)):=by
 simp[Cm.left,f,d,g,b,e]
def Told(m:Mo)(c:Cm)(r:Mo×Cm×Int):Prop:=(r.2.2=1/\r.2.1.left+1<=c.left)\/(r=(m,c,-1)/\c.at_=c.pr.length)\/(r=(m,c,0)/\∃(k:Nat)(a:fV),m.marks[k]?=Z a/\a.set=U/\a.aG≠0)
theorem aex(g:c.Ok m.aM.length m.sites.length):Told m c (m.bX c):=by
 have A:=arD g;have low:∀(p:Stp),c.pr[c.at_]?=Z p->(p.kind=1/\c.site.isSome=U->c.wrote=[])->3*(c.pr.length-c.at_)<=c.left+1:=λp a hb=>by
  have:=Cm.Ok.lt a;unfold Cm.left;split
  ·rename_i i
   rw[mY a]at i;simp only[gT,decide_eq_true_eq]at i;have b:=hb i;have:=A.2 b;simp only[b,uI];omega
  ·omega
 have D:∀(p:Stp)(j:Cm),c.pr[c.at_]?=Z p->j.wrote=[]->j.pg=0->j.pr=c.pr->j.at_=c.at_+1->j.site=I->j.left+1<=c.left:=λp j a i N V W X=>by
  rw[avB i N V W X];have:=low p a λh=>g.kz p a h.1;have:=Cm.Ok.lt a;omega
 have B:∀(p:Stp),c.pr[c.at_]?=Z p->c.up.leave.left+1<=c.left:=λp a=>D p _ a F (by simp[Cm.pg,Cm.leave]) F F F;refine tC g (Told m c) ?_ ?_ ?_ ?_ ?_ ?_ ?_ ?_ ?_ ?_ ?_ ?_ ?_ ?_ ?_
 ·intro a
  have:=g.at_;have i:=List.getElem?_eq_none_iff.1 a;exact .inr (.inl ⟨F,by omega⟩)
 ·intro p a f
  have e:=g.out f;have b:=g.cls (.inl f);exact .inl ⟨F,D p _ a b (A.2 b) F F e⟩
 ·intro p s a f d e l
  have b:=g.kz p a d;have n:=A.2 b;have i:=Cm.Ok.lt a;refine .inl ⟨F,?_⟩;have q:(c.nk m.clock).left=3*(c.pr.length-(c.at_+1)):=by
   have:(c.nk m.clock).pg=c.pg:=rfl;unfold Cm.left;rw[GQ (c':=c.nk m.clock) g a F F ah,this,n];simp[Cm.nk,Cm.up,b]
  have H:c.left=3*(c.pr.length-c.at_)-1:=by
   unfold Cm.left;rw[mY a,n];simp[d,e,b]
  simp only;omega
 ·intro p s a f d e hf
  have b:=g.kz p a d;have n:=A.2 b;have i:=Cm.Ok.lt a;refine .inl ⟨F,?_⟩;have q:(c.take s).left=3*(c.pr.length-c.at_)-1:=by
   have:(c.take s).pg=c.pg:=rfl;unfold Cm.left;rw[zW (c:=c) (c':=c.take s) F F,this,mY a,n];simp[d,Cm.take,b]
  have H:c.left=3*(c.pr.length-c.at_):=by
   unfold Cm.left;rw[mY a,n];simp[e,b]
  simp only;omega
 ·intro p a f d e hf
  have b:=g.kz p a d;exact .inl ⟨F,D p _ a b (A.2 b) F F e⟩
 ·intro p k o s a f d L K e l t
  have i:=Cm.Ok.lt a;have C:=g.no a ah;refine .inl ⟨F,?_⟩;have n:c.pg=0:=by simp[Cm.pg,C]
  have q:c.up.left=3*(c.pr.length-(c.at_+1))+2*c.wrote.length:=by
   have:c.up.pg=c.pg:=rfl;unfold Cm.left;rw[GQ (c':=c.up) g a F F ah,this,n];simp[Cm.up]
  have H:c.left=3*(c.pr.length-c.at_)+2*c.wrote.length:=by
   unfold Cm.left;rw[mY a,n];simp[d]
  simp only;omega
 ·intro p k s a f d L K e l t
  refine .inr (.inr ⟨F,k,?_⟩);cases b:lR k c.wrote with
  |some x=>rw[get_some b]at t;cases t
  |none=>
   rw[get_none b]at t;split at t
   ·rename_i h
    refine⟨m.marks.getD k .no,?_,h.1,h.2.2.1⟩;rw[wI]at h⊢;cases hx:m.marks[k]? with
    |none=>rw[hx]at h;simp[fV.no]at h
    |some y=>rfl
   ·cases t
 ·intro p k s a f d L K e l
  have i:=Cm.Ok.lt a;have C:=g.no a ah;refine .inl ⟨F,?_⟩;have n:c.pg=0:=by simp[Cm.pg,C]
  have N:=Wd ⟨k,decide (p.kind=4),p.val⟩ c.wrote;have q:(c.put ⟨k,decide (p.kind=4),p.val⟩).left=3*(c.pr.length-(c.at_+1))+2*(mr ⟨k,decide (p.kind=4),p.val⟩ c.wrote).length:=by
   have:(c.put ⟨k,decide (p.kind=4),p.val⟩).pg=0:=by simp[Cm.pg,Cm.put,Cm.up,C]
   unfold Cm.left;rw[GQ (c':=c.put _) g a F F ah,this];simp[Cm.up,Cm.put]
  have H:c.left=3*(c.pr.length-c.at_)+2*c.wrote.length:=by
   unfold Cm.left;rw[mY a,n];simp[show¬p.kind=1 by omega]
  simp only;omega
 ·intro p s a f d e l;exact .inl ⟨F,B p a⟩
 ·intro p s w a f d e l r b M G;exact .inl ⟨F,B p a⟩
 ·intro p s w a f d e l r b M G
  obtain⟨O,u,v,P,Q,R,z,S⟩:=c.qX c.wrote.length;have T:=c.xW c.wrote.length;have i:=Cm.Ok.lt a;have q:(c.step c.wrote.length).pg=c.pg+1:=by
   unfold Cm.pg;rw[z];repeat' split
   all_goals omega
  refine .inl ⟨F,?_⟩;simp only;unfold Cm.left;rw[q,u,v,z,zW u v,mY a];simp[d];omega
 ·intro p s a f d e l r E J G;exact .inl ⟨F,B p a⟩
 ·intro p s a f d e l r E J G
  have i:=Cm.Ok.lt a;refine .inl ⟨F,?_⟩;have q:(c.tick (m.clock+1)).pg=c.pg+1:=by simp[Cm.pg,Cm.tick,r,E]
  simp only;unfold Cm.left;rw[q,zW (c:=c) (c':=c.tick _) F F,mY a];simp[d,Cm.tick];omega
 ·intro p s w a f d e l r b M
  obtain⟨O,u,v,P,Q,R,z,S⟩:=c.qX c.wrote.length;have T:=c.xW c.wrote.length;have i:=Cm.Ok.lt a;have q:(c.step c.wrote.length).pg=c.pg+1:=by
   unfold Cm.pg;rw[z];repeat' split
   all_goals omega
  refine .inl ⟨F,?_⟩;simp only;unfold Cm.left;rw[q,u,v,z,zW u v,mY a];simp[d];omega
 ·intro p s a f d e l r E J;exact .inl ⟨F,B p a⟩
def Mo.left(m:Mo):Nat:=(m.be.map Cm.left).sum
theorem ary(x:m.Ok)(u:m.Fit){b:fV}(v:m.marks[k]?=Z b)(z:b.set=U)(n:b.aG≠0):∃(i:Nat)(c:Cm),m.be[i]?=Z c/\(m.bX c).2.2=1:=by
 obtain⟨i,c,j,w,e,_,E,D,f,d⟩:=u.xC k b v z;have C:c.phase=2:=by
  unfold Cm.DV at d;split at d
  ·assumption
  ·exact absurd d n
 refine⟨i,c,e,?_⟩;have a:=x.qv e;obtain⟨p,g,y⟩:=a.tO (.inr ah);have A:c.out=Y:=by
  cases f:c.out with
  |false=>rfl
  |true=>have:=a.kR (a.cls (.inl f));omega
 have:∀r:Mo×Cm×Int,Told m c r->(r=(m,c,-1)->False)->(r=(m,c,0)->False)->r.2.2=1:=λr h o t=>by
  rcases h with h|⟨h,_⟩|⟨h,_⟩
  ·exact h.1
  ·exact(o h).elim
  ·exact(t h).elim
 refine tC a (λr=>r.2.2=1) ?_ ?_ ?_ ?_ ?_ ?_ ?_ ?_ ?_ ?_ ?_ ?_ ?_ ?_ ?_
 ·intro h;rw[g]at h;cases h
 · intros;rfl
 · intros;rfl
 · intros;rfl
 · intros;rfl
 · intros;rfl
 ·intro q k s l _ B;rw[g]at l;cases l;omega
 all_goals intros;rfl
def I8(b:Mo)(j:Nat)(a:Bool)(m:Mo):Prop:=(a=U/\m.left+1<=b.left)\/(m=b/\(∀(i:Nat)(c:Cm),i<j->b.be[i]?=Z c->(b.bX c).2.2≠1/\(a=Y->c.at_=c.pr.length))/\(a=U->∃(k:Nat)(d:fV),b.marks[k]?=Z d/\d.set=U/\d.aG≠0))
theorem arN(a:m.fE=Y)(b:m.be[i]?=Z c):m.pick (i:Nat)=({(m.bX c).1 with be:=m.be.set i (m.bX c).2.1},(m.bX c).2.2,0):=by
 simp[Mo.pick,a,b,show¬((i:Nat):Int)<0 by omega]
theorem at1{s:Mo}{a:Bool}(x:m.Ok)(u:m.fE=Y)(h:I8 s j a m)(w:j<m.be.length):(m.pick (j:Nat)).2.2=0/\I8 s (j+1) (a||decide ((m.pick (j:Nat)).2.1≠-1)) (m.pick (j:Nat)).1:=by
 obtain⟨c,f⟩:∃c,m.be[j]?=Z c:=⟨_,eI w⟩;rw[arN u f];refine⟨F,?_⟩;have y:=PT Cm.left m.be j c (m.bX c).2.1 f;have o:=x.qv f;simp only
 rcases aex o with⟨t,k⟩|⟨e,k⟩|⟨e,k⟩
 ·have r:Mo.left {(m.bX c).1 with be:=m.be.set j (m.bX c).2.1}+1<=m.left:=by
   simp only[Mo.left];omega
  have b:(a||decide ((m.bX c).2.2≠-1))=U:=by rw[t];simp
  rcases h with⟨_,h⟩|⟨rfl,_⟩
  ·exact .inl ⟨b,rU r ah⟩
  ·exact .inl ⟨b,r⟩
 ·have l:({(m.bX c).1 with be:=m.be.set j (m.bX c).2.1}:Mo)=m:=by rw[e,F9 f]
  rw[l];rcases h with⟨b,h⟩|⟨rfl,n,q⟩
  ·exact .inl ⟨by rw[b];rfl,h⟩
  ·refine .inr ⟨rfl,λi d v g=>?_,λb=>?_⟩
   ·by_cases p:i=j
    ·subst p
     rw[f]at g;cases g;rw[e];exact⟨by simp,λ_=>k⟩
    ·have:=n i d ah g
     rw[e];simpa using this
   ·rw[e]at b;exact q (by simpa using b)
 ·have l:({(m.bX c).1 with be:=m.be.set j (m.bX c).2.1}:Mo)=m:=by rw[e,F9 f]
  rw[l];rcases h with⟨b,h⟩|⟨rfl,n,q⟩
  ·exact .inl ⟨by rw[b];rfl,h⟩
  ·refine .inr ⟨rfl,λi d v g=>?_,λ_=>k⟩
   by_cases p:i=j
   ·subst p
    rw[f]at g;cases g;rw[e];exact⟨by simp,by simp⟩
   ·have:=n i d ah g
    rw[e];exact⟨this.1,by simp⟩
theorem at3(m:Mo):I8 m 0 Y m:=.inr ⟨F,λi c h=>absurd h ah,λh=>by cases h⟩
def Mo.over(m:Mo):Prop:=∀(i:Nat)(c:Cm),m.be[i]?=Z c->c.at_=c.pr.length
theorem at0{b:Mo}{a:Bool}(p:b.Ok)(n:b.Fit)(h:I8 b b.be.length a m):(a=U->m.left+1<=b.left)/\(a=Y->m=b/\m.over):=by
 refine⟨λe=>?_,λe=>?_⟩
 ·rcases h with⟨_,h⟩|⟨rfl,f,g⟩
  ·exact h
  ·obtain⟨k,r,o,q,j⟩:=g e
   obtain⟨i,c,d,l⟩:=ary p n o q j;exact absurd l (f i c (dq.1 d).1 d).1
 ·rcases h with⟨h,_⟩|⟨rfl,f,g⟩
  ·rw[e]at h;cases h
  ·exact⟨rfl,λi c d=>(f i c (dq.1 d).1 d).2 e⟩
theorem ao0(b:m.Ok)(e:m.Fit):m.left<=4800:=by
 have h:=PS Cm.left 600 m.be λc d=>by
  obtain⟨i,a⟩:=CE d;have h:=b.qv a;have f:=h.len;have g:=(e.ck i c a).wl;have j:=h.at_;unfold Cm.left;omega
 have:=b.cl;unfold Mo.left;omega
theorem arw(h:m.Ok)(f:m.Fit)(l:m.over):∀a∈m.marks,a.set=Y:=λa d=>by
 obtain⟨k,g⟩:=CE d;cases hs:a.set with
 |false=>rfl
 |true=>
  obtain⟨i,c,j,w,b,_,s,r,o,q⟩:=f.xC k a g hs;have e:=h.qv b;obtain⟨p,n,_⟩:=e.tO (by unfold Cm.own at o;omega);have:=l i c b;have:=Cm.Ok.lt n;omega
def Cb(l:ae Stp):Bool:=match l.getLast? with
 |some p=>decide (p.kind<5)
 |none=>Y
def Cm.ub(c:Cm):Prop:=c.site.isSome=U->c.uN=U\/∃p,c.pr[c.at_-1]?=Z p/\0<c.at_/\p.kind<5
theorem azc(C:c.Ok m.aM.length m.sites.length)(h:c.ub):(m.bX c).2.1.ub:=by
 have nx:∀(p:Stp)(g:Cm),c.pr[c.at_]?=Z p->g.pr=c.pr->g.at_=c.at_+1->p.kind<5->g.ub:=λp g a v q L _=>.inr ⟨p,by rw[v,q];exact a,by omega,L⟩;have i:∀g:Cm,g.site=I->g.ub:=λg v q=>by rw[v]at q;cases q
 refine tC C (λr=>r.2.1.ub) ?_ ?_ ?_ ?_ ?_ ?_ ?_ ?_ ?_ ?_ ?_ ?_ ?_ ?_ ?_
 ·intro _;exact h
 ·intro p a b;exact i _ (C.out b)
 ·intro p s a b d e f;exact nx p _ a F F ah
 ·intro p s a b d e M _;exact .inl (by rw[zW (c:=c) (c':=c.take s) F F,mY a];simp[d])
 ·intro p a b d e M;exact i _ e
 ·intro p k o s a b d A z e f N;exact nx p _ a F F ah
 ·intro p k s a b d A z e f N;exact h
 ·intro p k s a b d A z e f;exact nx p _ a F F ah
 ·intro p s a b d e f;exact i _ F
 ·intro p s w a b d e f j D B t;exact i _ F
 ·intro p s w a b d e f j D B t
  obtain⟨E,l,n,G,u,H,J,K⟩:=c.qX c.wrote.length;simp only[Cm.ub,l,n,u,zW l n];exact h
 ·intro p s a b d e f j y x t;exact i _ F
 ·intro p s a b d e f j y x t;exact h
 ·intro p s w a b d e f j D B
  obtain⟨E,l,n,G,u,H,J,K⟩:=c.qX c.wrote.length;simp only[Cm.ub,l,n,u,zW l n];exact h
 ·intro p s a b d e f j y x;exact i _ F
def CO(t:Int)(C:ae (ae aZ)):Prop:=∀l∈C,∀v∈l,v.aG<=t
structure Mo.Set(m:Mo):Prop where
 ub:∀(i:Nat)(c:Cm),m.be[i]?=Z c->c.ub
 st:CO m.clock m.aM
theorem CO.mod{f:ae aZ->ae aZ}(h:CO t C)(k:Nat)(c:∀l,(∀v∈l,v.aG<=t)->∀v∈f l,v.aG<=t):CO t (C.modify k f):=λl d=>by
 obtain⟨j,a⟩:=CE d;rw[Gs]at a;cases hx:C[j]? with
 |none=>rw[hx]at a;cases a
 |some x=>
  have b:=h x (jZ hx);rw[hx]at a;simp only[Option.map_eq_map,jE,gB]at a;subst a;split
  ·exact c x b
  ·exact b
theorem aze(g:m.Ok)(f:m.Fit)(h:CO m.clock m.aM)(d:m.be[i]?=Z c):CO (m.bX c).1.clock (m.bX c).1.aM:=by
 have e:=g.qv d;refine tC e (λr=>CO r.1.clock r.1.aM) ?_ ?_ ?_ ?_ ?_ ?_ ?_ ?_ ?_ ?_ ?_ ?_ ?_ ?_ ?_
 case refine_13=>intros;exactλl b v a=>Int.le_trans (h l b v a) (by simp only;omega)
 case refine_14=>
  intro p s w t q o u j k x n;refine h.mod _ λl b v a=>?_;rcases bM.1 a with rfl|a
  ·exact((f.ck i c d).st ah).2.1
  ·exact b v a
 all_goals intros;exact h
theorem arU(e:m.Ok)(f:m.Fit)(h:m.Set)(n:Int):(m.pick n).1.Set:=by
 refine F1 n (λr=>r.1.Set) (λ_=>h) (λ_ _=>h) λi c _ _ a=>?_;refine⟨λj d b=>?_,aze e f h.st a⟩;rcases mZ b with⟨rfl,rfl⟩|⟨g,b⟩
 ·exact azc (e.qv a) (h.ub j c a)
 ·exact h.ub j d b
theorem ahb(h:m.Set)(l:ae Stp):(m.bt l).1.Set:=by
 unfold Mo.bt;split
 ·exact h
 ·split
  ·exact h
  ·split
   ·exact h
   ·refine⟨λi c a=>?_,h.st⟩
    rcases yv a with a|⟨_,rfl⟩
    ·exact h.ub i c a
    ·intro h;cases h
theorem ay5{v:aZ}(h:v∈mq l w):v∈l:=by
 unfold mq at h;split at h
 ·exact List.mem_of_mem_take h
 ·exact h
theorem ayE(h:m.Set):m.da.1.Set:=by
 have b:∀k,CO m.clock (m.aM.modify k λl=>mq l m.w):=λk=>h.st.mod k λl a v c=>a v (ay5 c);unfold Mo.da
 repeat' split
 all_goals first|exact h|exact⟨h.ub,h.st⟩|exact⟨h.ub,b _⟩
theorem aqy{a c:Int}(h:Mo.new a b c=Z m):m.Set:=by
 unfold Mo.new at h;split at h
 ·cases h
 ·cases h
  refine⟨λi c f=>by simp[Mo.init]at f,λl d v e=>?_⟩;simp only[Mo.init,List.mem_replicate]at d;rw[d.2]at e;cases e
theorem aeg:∀(l r:ae Nat),l.Nodup->(∀x∈l,x∈r)->l.length<=r.length
 |[],_,_,_=>gJ _
 |x::l,r,h,b=>by
  rw[oO]at h;have a:=b x (eX ..);have d:=aeg l (r.erase x) h.2 λy c=>(List.mem_erase_of_ne (λe:y=x=>h.1 (e▸c))).2 (b y (eK _ c));rw[List.length_erase_of_mem a]at d;have:=IG a;simp only[jY];omega
def cnt(p:α->Bool)(l:ae α):Nat:=(l.filter p).length
theorem QM{α:Type}(p:α->Bool):∀(l:ae α)(n:Nat),∃r:ae Nat,r.length=cnt p l/\r.Nodup/\(∀i,i∈r↔n<=i/\∃a,l[i-n]?=Z a/\p a=U)
 |[],n=>⟨[],F,List.nodup_nil,λi=>by simp⟩
 |x::l,n=>by
  obtain⟨r,j,k,g⟩:=QM p l (n+1);have f:∀i,n+1<=i->(x::l)[i-n]?=l[i-(n+1)]?:=λi m=>by
   rw[show i-n=(i-(n+1))+1 by omega,List.getElem?_cons_succ]
  cases hp:p x with
  |false=>
   refine⟨r,by rw[j];simp[cnt,hp],k,λi=>?_⟩;rw[g];constructor
   ·rintro⟨c,b⟩;exact⟨by omega,by rw[f i c];exact b⟩
   ·rintro⟨c,a,b,d⟩
    by_cases e:i=n
    ·subst e;simp only[Nat.sub_self,qe,gB]at b;subst b;rw[hp]at d;cases d
    ·exact⟨by omega,a,by rw[<-f i ah];exact b,d⟩
  |true=>
   refine⟨n::r,by simp[cnt,hp,j],oO.2 ⟨λh=>by have:=(g n).1 h;omega,k⟩,λi=>?_⟩;rw[bM,g];constructor
   ·rintro(rfl|⟨c,b⟩)
    ·exact⟨dt _,x,by simp,hp⟩
    ·exact⟨by omega,by rw[f i c];exact b⟩
   ·rintro⟨c,a,b,d⟩
    by_cases e:i=n
    ·exact .inl e
    ·exact .inr ⟨by omega,a,by rw[<-f i ah];exact b,d⟩
theorem aam{α β:Type}(f:α->β):∀l:ae α,l.Nodup->(∀x∈l,∀y∈l,f x=f y->x=y)->(l.map f).Nodup
 |[],_,_=>List.nodup_nil
 |x::l,h,c=>by
  rw[oO]at h;rw[fw,oO];refine⟨λj=>?_,aam f l h.2 λa g b i=>c a (eK _ g) b (eK _ i)⟩;obtain⟨y,d,e⟩:=og.1 j;have:=c y (eK _ d) x (eX ..) e;exact h.1 (this▸d)
theorem arv(D:m.Fit)(J:m.Set)(G:m.over):cnt (λv:Int=>v !=-1) m.sites<=cnt Cb (m.be.map (·.pr)):=by
 obtain⟨r,A,B,C⟩:=QM (λv:Int=>v !=-1) m.sites 0;obtain⟨q,w,N,z⟩:=QM Cb (m.be.map (·.pr)) 0;have own:∀s,∃i:Nat,s∈r->∃c:Cm,m.be[i]?=Z c/\c.site=Z s:=λs=>by
  by_cases o:s∈r
  ·obtain⟨_,v,K,u⟩:=(C s).1 o
   obtain⟨i,c,g,a⟩:=D.s.so s v K (by simpa using u);exact⟨i,λ_=>⟨c,g,a⟩⟩
  ·exact⟨0,λh=>absurd h o⟩
 have b:=λs=>Classical.choose_spec (own s);rw[<-A,<-w,<-jM (f:=λs=>Classical.choose (own s))];refine aeg _ _ (aam _ _ B λx L y M e=>?_) λi g=>?_
 ·obtain⟨c,a,j⟩:=b x L
  obtain⟨d,l,k⟩:=b y M;rw[<-e,a]at l;cases l;rw[j]at k;cases k;rfl
 ·obtain⟨s,t,rfl⟩:=og.1 g
  obtain⟨c,a,j⟩:=b s t;refine(z _).2 ⟨gJ _,c.pr,by rw[Nat.sub_zero,fW,a];rfl,?_⟩;have n:=G _ c a;rcases J.ub _ c a (by rw[j];rfl)with h|⟨p,H,O,E⟩
  ·unfold Cm.uN at h
   rw[n,Gr (dt _)]at h;cases h
  ·unfold Cb
   rw[List.getLast?_eq_getElem?,<-n,H];simpa using E
def short(l:ae aZ):Bool:=match l with
 |[]=>U
 |[v]=>!v.gone
 |_=>Y
theorem aza(h:∀v∈l,v.aG<=w):short (mq l w)=U:=by
 cases l with
 |nil=>simp[mq,eo,short]
 |cons x l=>
  have a:=h x (eX ..);have e:eo w (x::l)=0:=by simp[eo,a]
  unfold mq;rw[e];simp only[qe];cases hg:x.gone<;>simp[short,hg]
structure Pass(m0:Mo)(p:Nat)(m:Mo):Prop where
 st:m.fE=m0.fE
 si:m.sites=m0.sites
 ck:m.clock=m0.clock
 cl:m.be=m0.be
 xC:m.marks=m0.marks
 len:m.aM.length=m0.aM.length
 w:p=1->m.at_≠0->(∀v∈m.sites,v=-1)->m.w=m.clock
 sh:1<=p->(∀v∈m.sites,v=-1)->∀(k:Nat)l,(p=2\/k+1+m.sites.length<m.at_)->m.aM[k]?=Z l->short l=U
theorem arA(m:Mo):Pass m 0 m:=⟨F,F,F,F,F,F,λh=>by omega,λh=>by omega⟩
theorem abZ{z:Mo}{p:Nat}(y:m.Ok)(C:m.Set)(i:m.fE=Y)(J:p<=1)(h:Pass z p m):m.da.2.2=0/\Pass z (if m.da.2.1 then p+1 else p) m.da.1/\(m.da.2.1=U->m.da.1.at_=0)/\(m.da.2.1=Y->m.da.1.at_=m.at_+1)/\(m.da.2.1=U↔m.at_=m.sites.length+m.aM.length):=by
 have H:=y.k;have G:=y.at_;obtain⟨n,o,q3,q,r,s,t,D⟩:=h;have A:∀a,(∀v∈m.sites,v=-1)->1<=p->m.sites.length<m.at_->∀(k:Nat)l,k<=m.at_-1-m.sites.length->(m.aM.modify (m.at_-1-m.sites.length) λl=>mq l m.w)[k]?=Z l->a=l->short l=U:=λa f c u k l b d _=>by
  rw[Gs]at d;cases hx:m.aM[k]? with
  |none=>rw[hx]at d;cases d
  |some x=>
   rw[hx]at d;simp only[Option.map_eq_map,jE,gB]at d;subst d;split
   ·have j:=t ah ah f
    exact aza (by rw[j];exact C.st x (jZ hx))
   ·exact D c f k x (.inr ah) hx
 unfold Mo.da;rw[i];simp only[hZ,if_false];split
 ·rename_i g
  refine⟨F,⟨i.symm.trans n,o,q3,q,r,s,λ_ _ _=>rfl,λc _ k l b=>?_⟩,by simp,by simp[g],by simp;omega⟩;rcases b with b|b
  ·simp only[hZ,if_false]at b;omega
  ·simp only at b;omega
 ·split
  ·rename_i g w
   refine⟨rfl,⟨i.symm.trans n,o,q3,q,r,s,λc _ f=>?_,λc _ k l b=>?_⟩,by simp,by simp,by simp;omega⟩
   ·have j:=t (by simpa using c) g f
    simp only
    cases hx:m.sites[m.at_-1]? with
    |none=>exact j
    |some x=>simp only;rw[f x (jZ hx)];simpa using j
   ·rcases b with b|b
    ·simp only[hZ,if_false]at b;omega
    ·simp only at b;omega
  ·split
   ·rename_i g w B
    refine⟨rfl,⟨i.symm.trans n,o,q3,q,r,by simpa using s,λ_ u=>absurd rfl u,λc f k l b d=>?_⟩,by simp,by simp,by simp;omega⟩;have E:k<m.aM.length:=by
     have:=(dq.1 d).1;simpa using this
    by_cases e:p=1
    ·exact A l f ah ah k l ah d rfl
    ·rcases b with b|b
     ·simp only[if_true]at b;omega
     ·simp only at b;omega
   ·rename_i g w B
    refine⟨rfl,⟨i.symm.trans n,o,q3,q,r,by simpa using s,λc _ f=>t (by simpa using c) g f,λc f k l b d=>?_⟩,by simp,by simp,by simp;omega⟩;simp only[hZ,if_false]at c b;exact A l f c ah k l ah d rfl
def jf(b:ae Stp)(a:Nat):Nat->Nat->aj (Bool×ByteArray)
 |0,_=>I
 |n+1,k=>if n<a then I else match b[n]? with
  |some p=>if(p.kind=3\/p.kind=4)/\p.key=(k:Nat)then Z (decide (p.kind=4),p.val)else jf b a n k
  |none=>jf b a n k
theorem We(b:ae Stp)(a k:Nat):jf b a a k=I:=by
 cases a with
 |zero=>rfl
 |succ n=>simp[jf]
theorem aeZ{b:ae Stp}{a n k:Nat}(e:a<=n)(d:b[n]?=Z p)(c:¬(p.kind=3\/p.kind=4)):jf b a (n+1) k=jf b a n k:=by
 simp[jf,d,c,show¬n<a by omega]
theorem aeP(w:Wt)(k:Nat):∀l,lR k (mr w l)=if w.key=k then Z w else lR k l
 |[]=>by
  by_cases h:w.key=k<;>simp[lR,mr,h]
 |x::l=>by
  have c:=aeP w k l;simp only[mr];by_cases a:w.key<x.key
  ·rw[if_pos a];by_cases h:w.key=k<;>simp[lR,h]
  ·rw[if_neg a]
   by_cases b:x.key=w.key
   ·rw[if_pos b]
    by_cases h:w.key=k
    ·simp[lR,h]
    ·have:¬x.key=k:=by omega
     simp[lR,h,this]
   ·rw[if_neg b]
    unfold lR at c⊢;rw[List.find?_cons,List.find?_cons,c];by_cases h:w.key=k
    ·have:(x.key==k)=Y:=by simp;omega
     simp[h,this]
    ·simp[h]
structure iq where
 next:Nat
 jG:Nat
 fst:Nat
 b:Int
 acc:ae Ev
structure wZ where
 aG:Int
 b:Int
 fin:Nat
 bt:Nat
 fst:Nat
 to:Nat
 outs:ae Ev
structure gk where
 cs:ae iq
 out:ae wZ
 i:Nat
def iq.up(t:iq)(p:Stp)(i:Nat)(e:Ev):iq:=if p.kind=1 then⟨t.next+1,i,t.next,e.aG,[e]⟩else⟨t.next+1,t.jG,t.fst,t.b,t.acc++[e]⟩
def gk.put(s:gk)(c:Nat)(t:iq)(p:Stp)(e:Ev):gk:=⟨s.cs.set c t,if p.kind=5/\e.out=1 then s.out++[⟨e.aG,t.b,s.i,c,t.fst,t.next-1,t.acc⟩]else s.out,s.i+1⟩
inductive tJ(bL:ae (ae Stp))(s:gk)(e:Ev):gk->Prop
 |mk (c:Nat) (t:iq) (pr:ae Stp) (p:Stp) (hc:e.bt=(c:Nat)) (ht:s.cs[c]?=Z t) (iu:bL[c]?=Z pr) (hp:pr[t.next]?=Z p) (hs:e.step=(t.next:Nat)):tJ bL s e (s.put c (t.up p s.i e) p e)
def calm(marks:ae fV)(k:Nat)(b:Int):Prop:=∀a,marks[k]?=Z a->a.set=U->a.aG≠0->b<a.aG
def GK(c:ae Stp)(a:Nat)(b:Int)(C:ae (ae aZ))(marks:ae fV)(o:Ev):Prop:=∀(n:Nat)p(k:Nat),o.step=(n:Nat)->c[n]?=Z p->p.kind=2->p.key=(k:Nat)->
 match jf c a n k with
 |some (g,v)=>(o.out,o.val)=vj g v
 |none=>(o.out,o.val)=V8 (pw (C.getD k []) b)/\calm marks k b
structure mV(me:Nat)(t:Int)(C C':ae (ae aZ))(marks zb:ae fV):Prop where
 ch:∀k,C'.getD k []=C.getD k []\/∃v,C'.getD k []=v::C.getD k []/\(∃mk,marks[k]?=Z mk/\mk.set=U/\mk.bt=(me:Nat)/\mk.aG=v.aG/\v.aG≠0)/\∀u∈C.getD k [],u.aG<v.aG
 xC:∀(k:Nat)(mk':fV),zb[k]?=Z mk'->mk'.set=U->mk'.aG≠0->(∃mk,marks[k]?=Z mk/\mk.set=U/\mk.aG=mk'.aG)\/t<mk'.aG
section
variable {me:Nat}{t:Int}{C C':ae (ae aZ)}{marks zb:ae fV}
theorem mV.xu:mV me t C C marks marks:=⟨λ_=>.inl F,λ_ c a b _=>.inl ⟨c,a,b,F⟩⟩
theorem mV.agP(h:mV me t C C' marks zb){k:Nat}{b:Int}(n:b<=t)(j:calm marks k b):calm zb k b:=λa g i d=>by
 rcases h.xC k a g i d with⟨l,e,f,c⟩|m
 ·rw[<-c];exact j l e f (c▸d)
 ·omega
theorem mV.read(h:mV me t C C' marks zb){f:ae Stp}{a:Nat}{b:Int}{o:Ev}(m:b<=t)(q:GK f a b C marks o):GK f a b C' zb o:=λn p k g i j l=>by
 have:=q n p k g i j l;split
 ·rename_i e;rw[e]at this;exact this
 ·rename_i e
  rw[e]at this;obtain⟨c,d⟩:=this;refine⟨?_,h.agP m d⟩;rcases h.ch k with e|⟨v,e,⟨r,s,u,_,q3,w⟩,_⟩
  ·rw[e];exact c
  ·have:=d r s u ah
   rw[e,UW,if_neg ah];exact c
theorem mV.mem(h:mV me t C C' marks zb){k:Nat}{v:aZ}(a:v∈C.getD k []):v∈C'.getD k []:=by
 rcases h.ch k with e|⟨u,e,_⟩<;>rw[e]
 ·exact a
 ·exact eK _ a
def I6(C:ae (ae aZ))(s b:Int)(k:Nat)(g:Bool)(x:ByteArray):Prop:=(⟨s,g,x⟩:aZ)∈C.getD k []/\∀v∈C.getD k [],v.aG<s->v.aG<=b
theorem mV.put(h:mV me t C C' marks zb){s b:Int}{k:Nat}{g:Bool}{x:ByteArray}(c:I6 C s b k g x):I6 C' s b k g x:=by
 refine⟨h.mem c.1,λv a aC=>?_⟩;rcases h.ch k with e|⟨u,e,_,d⟩
 ·rw[e]at a;exact c.2 v a aC
 ·rw[e]at a
  rcases bM.1 a with rfl|a
  ·have:=d _ c.1;simp only at this;omega
  ·exact c.2 v a aC
end
def Cm.done(c:Cm)(j:Nat):Prop:=(c.phase=2/\j<c.keys)\/c.phase=3
def Cm.runs(c:Cm):Prop:=c.site.isSome=U/\c.uN=Y
structure I9(C:ae (ae aZ))(marks:ae fV)(c:Cm)(t:iq):Prop where
 b:t.b=c.b
 fst:t.fst<=c.at_
 wr:∀k,(lR k c.wrote).map (λw=>(w.gone,w.val))=jf c.pr t.fst c.at_ k
 rd:∀o∈t.acc,GK c.pr t.fst c.b C marks o
 own:∀j w,c.wrote[j]?=Z w->c.own j->∀v∈C.getD w.key [],v.aG<=c.b
 dn:∀j w,c.wrote[j]?=Z w->c.done j->I6 C c.aG c.b w.key w.gone w.val
structure Mf(C:ae (ae aZ))(marks:ae fV)(t:Int)(pr:ae Stp)(x:wZ):Prop where
 le:x.aG<=t/\x.b<=t
 st:x.aG≠0->x.b<x.aG/\0<x.aG
 rd:∀o∈x.outs,GK pr x.fst x.b C marks o
 wr:x.aG≠0->∀k g v,jf pr x.fst x.to k=Z (g,v)->I6 C x.aG x.b k g v
def ME(b:ae Cm)(a:ae wZ)(k:Nat)(v:aZ):Prop:=(∃x c,x∈a/\b[x.bt]?=Z c/\x.aG=v.aG/\jf c.pr x.fst x.to k=Z (v.gone,v.val))\/∃(i:Nat)(c:Cm)(j:Nat)(w:Wt),b[i]?=Z c/\c.wrote[j]?=Z w/\w.key=k/\c.done j/\c.aG=v.aG/\w.gone=v.gone/\w.val=v.val
structure wX(m:Mo)(C:ae (ae aZ))(s:gk):Prop where
 len:s.cs.length=m.be.length
 nx:∀(i:Nat)(c:Cm)(t:iq),m.be[i]?=Z c->s.cs[i]?=Z t->t.next=c.at_/\(c.runs->I9 C m.marks c t)
 cm:∀x∈s.out,∃c,m.be[x.bt]?=Z c/\Mf C m.marks m.clock c.pr x
 vr:∀k,∀v∈C.getD k [],ME m.be s.out k v
 lQ:∀k,((C.getD k []).map (·.aG)).Pairwise (·>·)
 pos:∀k,∀v∈C.getD k [],0<v.aG
 ds:s.out.Pairwise λx y=>x.aG≠0->x.aG≠y.aG
 dp:∀x∈s.out,∀(i:Nat)(c:Cm),m.be[i]?=Z c->2<=c.phase->x.aG≠c.aG
 pp:∀(i j:Nat)(c d:Cm),m.be[i]?=Z c->m.be[j]?=Z d->2<=c.phase->2<=d.phase->c.aG=d.aG->i=j
theorem wX.others{A:Mo}{C C':ae (ae aZ)}{s H:gk}{i:Nat}{c':Cm}{t':iq}(hm:m.Ok)(h:wX m C s)(K:m.be[i]?=Z c)(J:A.be=m.be.set i c')(iu:c'.pr=c.pr)(Zc:m.clock<=A.clock)(G:mV i m.clock C C' m.marks A.marks)(tV:∀(i:Nat)(c:Cm),m.be[i]?=Z c->c.b<=m.clock)
  (l7:H.cs=s.cs.set i t')(Kh:t'.next=c'.at_/\(c'.runs->I9 C' A.marks c' t'))
  (pQ:H.out=s.out\/∃x,H.out=s.out++[x]/\x.bt=i/\Mf C' A.marks A.clock c.pr x/\(∀y∈s.out,y.aG≠0->y.aG≠x.aG)/\∀(j:Nat)(d:Cm),(m.be.set i c')[j]?=Z d->2<=d.phase->x.aG≠d.aG)
  (dh:2<=c'.phase->(2<=c.phase/\c'.aG=c.aG)\/((∀x∈s.out,x.aG≠c'.aG)/\(∀(j:Nat)(d:Cm),j≠i->m.be[j]?=Z d->2<=d.phase->d.aG≠c'.aG)))
  (γ:∀k,∀v∈C.getD k [],∀j w,c.wrote[j]?=Z w->w.key=k->c.done j->c.aG=v.aG->w.gone=v.gone->w.val=v.val->ME (m.be.set i c') H.out k v)
  (Fp:∀k v,C'.getD k []=v::C.getD k []->ME (m.be.set i c') H.out k v/\0<v.aG):wX A C' H:=by
 have ja:∀x∈s.out,x∈H.out:=λx f=>by
  rcases pQ with e|⟨y,e,_⟩<;>rw[e]
  ·exact f
  ·exact List.mem_append_left _ f
 have lq:∀(j:Nat)(d:Cm),m.be[j]?=Z d->∃M,(m.be.set i c')[j]?=Z M/\M.pr=d.pr:=λj d l=>by
  by_cases e:j=i
  ·subst e;rw[K]at l;cases l;exact⟨c',th K,iu⟩
  ·exact⟨d,by rw[uq e];exact l,F⟩
 have cP:∀k,∃p,C'.getD k []=p++C.getD k []/\(p=[]\/∃v,p=[v]/\∀u∈C.getD k [],u.aG<v.aG):=λk=>by
  rcases G.ch k with e|⟨v,e,_,hu⟩
  ·exact⟨[],e,.inl rfl⟩
  ·exact⟨[v],e,.inr ⟨v,rfl,hu⟩⟩
 refine⟨by rw[l7,J];simp[h.len],λj d t l X=>?_,λx f=>?_,λk v n=>?_,λk=>?_,λk v n=>?_,?_,λx f j d l D=>?_,λj k d e l Q D V P=>?_⟩
 ·rw[J]at l
  rw[l7]at X;rcases mZ l with⟨rfl,rfl⟩|⟨L,l⟩
  ·rcases mZ X with⟨_,rfl⟩|⟨L,_⟩
   ·exact Kh
   ·exact absurd rfl L
  ·rw[uq L]at X
   obtain⟨z,B⟩:=h.nx j d t l X;refine⟨z,λhr=>?_⟩;obtain⟨r1,r2,r3,r4,r5,r6⟩:=B hr;refine⟨r1,r2,r3,λo N=>G.read (tV j d l) (r4 o N),λq w W N v n=>?_,λq w W E=>G.put (r6 q w W E)⟩;rcases G.ch w.key with e|⟨u,e,⟨mk,q1,q2,q3,_⟩,_⟩
   ·rw[e]at n;exact r5 q w W N v n
   ·exfalso
    obtain⟨pP,_,Kd⟩:=hm.me j d l;obtain⟨tt,Ky⟩:=Kd q w W N;rw[q1]at Ky;cases Ky;simp only at q3;omega
 ·have r:∀x∈s.out,∃c,A.be[x.bt]?=Z c/\Mf C' A.marks A.clock c.pr x:=λx f=>by
   obtain⟨d,E,z,B,g3,g4⟩:=h.cm x f;obtain⟨M,JY,Au⟩:=lq _ d E;exact⟨M,by rw[J];exact JY,by rw[Au];exact⟨by omega,B,λo N=>G.read z.2 (g3 o N),λh0 k g v O=>G.put (g4 h0 k g v O)⟩⟩
  rcases pQ with e|⟨y,e,R,S,_⟩
  ·rw[e]at f;exact r x f
  ·rw[e]at f
   rcases pz.1 f with f|f
   ·exact r x f
   ·rw[my]at f;subst f
    exact⟨c',by rw[J,R];exact th K,by rw[iu];exact S⟩
 ·rw[J]
  have r:v∈C.getD k []->ME (m.be.set i c') H.out k v:=λn=>by
   rcases h.vr k v n with⟨x,d,f,E,hs,O⟩|⟨j,d,q,w,l,O,Q,E,R,S,T⟩
   ·obtain⟨M,JY,Au⟩:=lq _ d E
    exact .inl ⟨x,M,ja x f,JY,hs,by rw[Au];exact O⟩
   ·by_cases e:j=i
    ·subst e
     rw[K]at l;cases l;exact γ k v n q w O Q E R S T
    ·exact .inr ⟨j,d,q,w,by rw[uq e];exact l,O,Q,E,R,S,T⟩
  rcases G.ch k with e|⟨u,e,_⟩
  ·rw[e]at n;exact r n
  ·rw[e]at n
   rcases bM.1 n with rfl|n
   ·exact(Fp k v e).1
   ·exact r n
 ·obtain⟨p,e,hp⟩:=cP k
  rw[e];rcases hp with rfl|⟨v,rfl,hu⟩
  ·exact h.lQ k
  ·simp only[List.singleton_append,fw,mQ]
   refine⟨λx f=>?_,h.lQ k⟩;obtain⟨u,β,rfl⟩:=og.1 f;exact hu u β
 ·rcases G.ch k with e|⟨u,e,_⟩
  ·rw[e]at n;exact h.pos k v n
  ·rw[e]at n
   rcases bM.1 n with rfl|n
   ·exact(Fp k v e).2
   ·exact h.pos k v n
 ·rcases pQ with e|⟨y,e,_,_,T,_⟩
  ·rw[e];exact h.ds
  ·rw[e,CH]
   exact⟨h.ds,List.pairwise_singleton ..,λa ha b hb=>by rw[my]at hb;subst hb;exact T a ha⟩
 ·rw[J]at l
  have r:x∈s.out->x.aG≠d.aG:=λf=>by
   rcases mZ l with⟨rfl,rfl⟩|⟨L,Ap⟩
   ·rcases dh D with⟨z,B⟩|⟨z,_⟩
    ·rw[B];exact h.dp x f j c K z
    ·exact z x f
   ·exact h.dp x f j d Ap D
  rcases pQ with e|⟨y,e,_,_,_,e4⟩
  ·rw[e]at f;exact r f
  ·rw[e]at f
   rcases pz.1 f with f|f
   ·exact r f
   ·rw[my]at f;subst f;exact e4 j d l D
 ·rw[J]at l Q
  rcases mZ l with⟨rfl,rfl⟩|⟨L,yR⟩<;>rcases mZ Q with⟨rfl,rfl⟩|⟨Kf,dx⟩
  ·rfl
  ·rcases dh D with⟨z,B⟩|⟨_,z⟩
   ·exact h.pp _ _ _ _ K dx z V (B▸P)
   ·exact absurd P.symm (z k e Kf dx V)
  ·rcases dh V with⟨z,B⟩|⟨_,z⟩
   ·exact h.pp _ _ _ _ yR K D z (by rw[P,B])
   ·exact absurd P (z j d L yR D)
  ·exact h.pp _ _ _ _ yR dx D V P
variable {s:gk}
theorem OH{l:ae α}{v:α}(h:l=v::l):False:=by
 have:=congrArg vq h;simp at this
theorem mV.leave{e:Nat}{marks:ae fV}(n:Nat):mV e t C C marks (marks.map (yz n)):=⟨λ_=>.inl F,λk f a b _=>by
 rw[fW,fX]at a;obtain⟨c,a,rfl⟩:=a;unfold yz at b⊢;split at b
 ·simp[fV.no]at b
 ·rename_i d;rw[if_neg d];exact .inl ⟨c,a,b,F⟩⟩
theorem aeO{l:ae Wt}{w:Wt}(h:lR k l=Z w):∃j:Nat,l[j]?=Z w/\w.key=k:=by
 unfold lR at h;have a:=List.mem_of_find?_eq_some h;have b:=List.find?_some h;obtain⟨j,c⟩:=CE a;exact⟨j,c,by simpa using b⟩
theorem ajA{S:Nat}(d:c.Ok K S){w:Wt}(a:c.wrote[j]?=Z w)(f:w.key=k):lR k c.wrote=Z w:=by
 cases h:lR k c.wrote with
 |none=>
  unfold lR at h;rw[List.find?_eq_none]at h;have:=h w (jZ a);simp[f]at this
 |some u=>
  obtain⟨i,b,e⟩:=aeO h;have:=Ui d b a ah;subst this;rw[b]at a;exact a
def Jb(m:Mo)(i:Nat)(c:Cm)(s:gk)(r:Mo×Cm×Int):Prop:=∃a,((r.1.events=m.events/\a=s)\/∃e,r.1.events=m.events++[e]/\tJ (m.be.map (·.pr)) s e a)/\wX {r.1 with be:=m.be.set i r.2.1} r.1.aM a
theorem azr(hm:m.Ok)(hf:m.Fit)(h:wX m m.aM s)(L:m.be[i]?=Z c):Jb m i c s (m.bX c):=by
 have V:=hm.qv L;obtain⟨pP,_,Kd⟩:=hm.me i c L;have tV:∀(i:Nat)(c:Cm),m.be[i]?=Z c->c.b<=m.clock:=λj d P=>(hf.ck j d P).b;have nD:=(dq.1 L).1;obtain⟨t,ht⟩:∃t,s.cs[i]?=Z t:=⟨_,eI (by rw[h.len];exact nD)⟩;obtain⟨hn,aL⟩:=h.nx i c t L ht;have iT:(m.be.map (·.pr))[i]?=Z c.pr:=by rw[fW,L];rfl
 have Q2:∀(p:Stp)(o:Int)(v:ByteArray)(E:Int),c.pr[c.at_]?=Z p->tJ (m.be.map (·.pr)) s ⟨c.me,c.at_,o,v,E⟩ (s.put i (t.up p s.i ⟨c.me,c.at_,o,v,E⟩) p ⟨c.me,c.at_,o,v,E⟩):=λp o v E f=>
  .mk i t c.pr p (by simp[pP]) ht iT (by rw[hn];exact f) (by simp[hn])
 have δ:∀(p:Stp)(e:Ev),(t.up p s.i e).next=c.at_+1:=λp e=>by unfold iq.up;split<;>simp[hn]
 have P1:∀(p:Stp)(e:Ev),p.kind≠1->(t.up p s.i e)=⟨t.next+1,t.jG,t.fst,t.b,t.acc++[e]⟩:=λp e z=>by unfold iq.up;rw[if_neg z]
 have XR:c.phase<=1->∀j,¬c.done j:=λh0 j M=>by unfold Cm.done at M;omega
 have ε:∀(pr:ae Stp)(a:Nat)(b:Int)(C:ae (ae aZ))(marks:ae fV)(p:Stp)(o:Int)(v:ByteArray)(E:Int),pr=c.pr->c.pr[c.at_]?=Z p->p.kind≠2->GK pr a b C marks ⟨c.me,c.at_,o,v,E⟩:=λpr a b C marks p o v E e f z n q k T B h3 _=>by
  subst e;simp only at T;have:n=c.at_:=by omega
  subst this;rw[f]at B;cases B;exact absurd h3 z
 have γ:∀{C':ae (ae aZ)}{zb:ae fV}{p:Stp}{o:Int}{v:ByteArray}{E:Int},c.runs->mV i m.clock m.aM C' m.marks zb->c.pr[c.at_]?=Z p->p.kind≠2->∀x∈t.acc++[⟨c.me,c.at_,o,v,E⟩],GK c.pr t.fst c.b C' zb x:=λH S f z x O=>by
  rcases pz.1 O with O|O
  ·exact S.read (tV i c L) ((aL H).rd x O)
  ·rw[my]at O;subst O;exact ε _ _ _ _ _ _ _ _ _ rfl f z
 have qt:∀(W:Mo)(D:Cm)(p:Stp)(o:Int)(v:ByteArray)(E:Int),c.pr[c.at_]?=Z p->¬(p.kind=5/\o=1)->W.aM=m.aM->W.clock=m.clock->W.events=m.events++[⟨c.me,c.at_,o,v,E⟩]->mV i m.clock m.aM m.aM m.marks W.marks->D.pr=c.pr->D.at_=c.at_+1->D.phase=0->(c.wrote=[]\/c.phase<=1)->(D.runs->I9 m.aM W.marks D (t.up p s.i ⟨c.me,c.at_,o,v,E⟩))->Jb m i c s (W,D,1):=λW D p o v E f h5 R J e3 S e4 e5 e6 e7 H=>by
  refine⟨_,.inr ⟨_,e3,Q2 p o v E f⟩,?_⟩;simp only[R]
  exact h.others (i:=i) (c:=c) (c':=D) (t':=t.up p s.i ⟨c.me,c.at_,o,v,E⟩) hm L F e4 (by simp only[J];exact gU _) S tV F ⟨by rw[δ,e5],H⟩ (.inl (by simp only[gk.put,if_neg h5])) (λB=>by omega) (λk v A j w r _ M=>by
                                                                                                                                                                                                  rcases e7 with e7|e7
                                                                                                                                                                                                  ·rw[e7]at r;simp at r
                                                                                                                                                                                                  ·exact absurd M (XR e7 j)) (λk v A=>absurd A OH)
 have HZ:∀{C:ae (ae aZ)}{marks:ae fV}{D:Cm}{t':iq},D.site=I->D.runs->I9 C marks D t':=λK H=>by unfold Cm.runs at H;rw[K]at H;cases H.1
 have XA:∀(Q:Nat)(p:Stp)(E:Int),c.pr[c.at_]?=Z p->p.kind=5->c.site=Z Q->((c.phase=3/\E=c.aG)\/(c.wrote=[]/\E=0))->Jb m i c s ((m.leave c Q).bA c 1 eH E,c.up.leave,1):=λQ p E f z K aF=>by
  have H:c.runs:=⟨by rw[K];rfl,by rw[mY f];simp[z]⟩;obtain⟨r1,r2,r3,r4,r5,r6⟩:=aL H;have bx:=hf.ck i c L;have S:mV i m.clock m.aM m.aM m.marks (m.marks.map (yz c.me)):=mV.leave _;have Zc:=hm.ck;have Sb:Mf m.aM (m.marks.map (yz c.me)) m.clock c.pr ⟨E,t.b,s.i,i,t.fst,c.at_,t.acc++[(⟨c.me,c.at_,1,eH,E⟩:Ev)]⟩:=by
   refine⟨?_,?_,λx O=>by rw[r1];exact γ H S f ah x O,λh0 k g v r=>?_⟩
   ·rcases aF with⟨R,J⟩|⟨R,J⟩
    ·have:=bx.st ah;simp only;omega
    ·have:=bx.b;simp only;omega
   ·rcases aF with⟨R,J⟩|⟨R,J⟩
    ·have:=bx.st ah;simp only;omega
    ·intro h0;exact absurd J h0
   ·rcases aF with⟨R,J⟩|⟨R,J⟩
    ·simp only at r
     rw[<-r3]at r;obtain⟨w,ju,ma⟩:=fX.1 r;cases ma;obtain⟨j,P,Dj⟩:=aeO ju;have:=r6 j w P (.inr R);simp only[J,r1];rw[<-Dj];exact this
    ·exact absurd J h0
  refine⟨_,.inr ⟨_,rfl,Q2 p 1 eH E f⟩,?_⟩;refine h.others (i:=i) (c:=c) (c':=c.up.leave) (t':=t.up p s.i ⟨c.me,c.at_,1,eH,E⟩) hm L rfl rfl (gU _) S tV rfl ⟨δ _ _,HZ rfl⟩ (.inr ⟨⟨E,t.b,s.i,i,t.fst,c.at_,t.acc++[(⟨c.me,c.at_,1,eH,E⟩:Ev)]⟩,?_,rfl,Sb,λy hy h0=>?_,λj d P B=>?_⟩) (λB=>by simp[Cm.leave]at B) (λk v A j w r fq M R J e3=>?_) (λk v A=>absurd A OH)
  ·simp only[gk.put,z,and_self,if_true]
   rw[P1 p _ ah];simp[hn]
  ·rcases aF with⟨R,J⟩|⟨R,J⟩
   ·simp only[J];exact h.dp y hy i c L ah
   ·simp only[J];exact h0
  ·rcases mZ P with⟨rfl,rfl⟩|⟨az,P⟩
   ·simp[Cm.leave]at B
   ·rcases aF with⟨R,J⟩|⟨R,J⟩
    ·simp only[J];exactλe=>az (h.pp _ _ _ _ P L B ah e.symm)
    ·have:=(hf.ck j d P).st B;simp only[J];omega
  ·rcases aF with⟨g1,g2⟩|⟨g1,g2⟩
   ·refine .inl ⟨⟨E,t.b,s.i,i,t.fst,c.at_,t.acc++[(⟨c.me,c.at_,1,eH,E⟩:Ev)]⟩,c.up.leave,?_,th L,by simp only[g2,R],?_⟩
    ·simp only[gk.put,z,and_self,if_true]
     rw[P1 p _ ah];simp[hn]
    ·simp only[Cm.leave,Cm.up]
     rw[<-r3,ajA V r fq];simp[J,e3]
   ·rw[g1]at r;simp at r
 have nq:∀(W:Mo)(D:Cm),W.events=m.events->W.aM=m.aM->m.clock<=W.clock->mV i m.clock m.aM m.aM m.marks W.marks->D.pr=c.pr->D.at_=c.at_->(D.runs->I9 m.aM W.marks D t)->(2<=D.phase->(2<=c.phase/\D.aG=c.aG)\/D.aG=m.clock+1)->(c.phase<=1\/D=c)->∀n:Int,Jb m i c s (W,D,n):=λW D R J e3 S e4 e5 H X M n=>by
  refine⟨s,.inl ⟨R,F⟩,?_⟩;simp only[J];refine h.others (i:=i) (c:=c) (c':=D) (t':=t) hm L F e4 e3 S tV (F9 ht).symm ⟨by rw[hn,e5],H⟩ (.inl F) (λB=>?_) (λk v A j w r fq NO g1 g2 g3=>?_) (λk v A=>absurd A OH)
  ·rcases X B with g|g
   ·exact .inl g
   ·refine .inr ⟨λx O=>?_,λj d _ P tX=>?_⟩
    ·obtain⟨_,_,O⟩:=h.cm x O
     have:=O.le;omega
    ·have:=(hf.ck j d P).st tX;omega
  ·rcases M with M|rfl
   ·exact absurd NO (XR M j)
   ·exact .inr ⟨i,D,j,w,th L,r,fq,NO,g1,g2,g3⟩
 refine tC V (Jb m i c s) ?_ ?_ ?_ ?_ ?_ ?_ ?_ ?_ ?_ ?_ ?_ ?_ ?_ ?_ ?_
 ·intro _;exact nq _ _ rfl rfl (gU _) .xu rfl rfl aL (λB=>.inl ⟨B,rfl⟩) (.inr rfl) _
 ·intro p f G
  have r:=V.cls (.inl G);exact qt _ _ p 7 eH 0 f ah rfl rfl rfl .xu rfl rfl (V.kR r).2 (.inl r) (HZ (V.out G))
 ·intro p Q f G z K bY
  have r:=V.kz p f z;refine qt _ _ p 1 eH m.clock f ah rfl rfl rfl .xu rfl rfl (V.kR r).2 (.inl r) λH=>?_;have e:t.up p s.i ⟨c.me,c.at_,1,eH,m.clock⟩=⟨c.at_+1,s.i,c.at_,m.clock,[⟨c.me,c.at_,1,eH,m.clock⟩]⟩:=by unfold iq.up;rw[if_pos z,hn]
  rw[e];refine⟨F,wM _,λk=>?_,λo G=>?_,λj w P=>?_,λj w P=>?_⟩
  ·simp only[Cm.nk,Cm.up,r]
   rw[aeZ (dt _) f ah,We];rfl
  ·rw[my]at G;subst G;exact ε _ _ _ _ _ _ _ _ _ F f ah
  ·simp[Cm.nk,Cm.up,r]at P
  ·simp[Cm.nk,Cm.up,r]at P
 ·intro p Q f G z K An
  have r:=V.kz p f z;exact nq {m with sites:=m.sites.set Q (-2)} (c.take Q) F F (gU _) .xu F F (λH=>by
   have:c.uN=Y:=H.2;rw[mY f]at this;simp[z]at this) (λB=>.inl ⟨B,F⟩) (.inl (by have:=V.kR r;omega)) _
 ·intro p f G z K An
  have r:=V.kz p f z;exact qt _ _ p 5 eH 0 f ah F F F .xu F F (V.kR r).2 (.inl r) (HZ K)
 ·intro p k o Q f G z dV dJ K bY hg
  have cL:=V.no f ah;have H:c.runs:=⟨by rw[K];rfl,by rw[mY f];simp[z]⟩;obtain⟨r1,r2,r3,r4,r5,r6⟩:=aL H;refine qt _ _ p o.1 o.2 0 f ah F F F .xu F F cL.2 (.inr ah) λ_=>?_;rw[P1 p _ ah];refine⟨r1,El r2,λk=>by simp only[Cm.up];rw[aeZ r2 f ah];exact r3 k,λx O=>?_,r5,r6⟩;rcases pz.1 O with O|O
  ·exact r4 x O
  ·rw[my]at O;subst O
   intro n q k' T B h3 h4;simp only at T;have:n=c.at_:=by omega
   subst this;simp only[Cm.up]at B;rw[f]at B;cases B;have:k'=k:=by omega
   subst this;have r:=r3 k';simp only[Cm.up];rw[<-r];cases KC:lR k' c.wrote with
   |some w=>rw[get_some KC]at hg;cases hg;rfl
   |none=>
    rw[get_none KC]at hg;split at hg
    ·cases hg
    ·rename_i hb
     cases hg;refine⟨F,λmk h5 h6 h7=>?_⟩;have h5:m.marks[k']?=Z mk:=h5;have e:m.marks.getD k' .no=mk:=by rw[wI,h5];rfl
     rw[e]at hb;by_cases bx:mk.bt=c.me
     ·obtain⟨j,d,q,w,P,M,r,_,G,_⟩:=hf.xC k' mk h5 h6
      have:j=i:=by omega
      subst this;rw[L]at P;cases P;unfold Cm.own at G;omega
     ·have:¬mk.aG<=c.b:=λβ=>hb ⟨h6,bx,h7,β⟩
      omega
 ·intro p k Q f G z dV dJ K bY hg
  exact nq _ _ F F (gU _) .xu F F aL (λB=>.inl ⟨B,F⟩) (.inr F) _
 ·intro p k Q f G z dV dJ K bY
  have cL:=V.no f ah;have H:c.runs:=⟨by rw[K];rfl,by rw[mY f];simp;omega⟩;obtain⟨r1,r2,r3,r4,r5,r6⟩:=aL H;refine qt _ _ p 1 eH 0 f ah F F F .xu F F cL.2 (.inr ah) λ_=>?_;rw[P1 p _ ah];refine⟨r1,El r2,λk'=>?_,λx O=>γ H .xu f ah x O,λj w _ oE=>?_,λj w _ M=>?_⟩
  ·simp only[Cm.put,Cm.up,aeP,jf,f,show¬c.at_<t.fst by omega,if_false,z,true_and]
   by_cases e:k=k'
   ·rw[if_pos e,if_pos ah];rfl
   ·rw[if_neg e,if_neg ah];exact r3 k'
  ·unfold Cm.own Cm.put Cm.up at oE;simp only at oE;omega
  ·unfold Cm.done Cm.put Cm.up at M;simp only at M;omega
 ·intro p Q f G z K bY
  rcases z with z|⟨z,r⟩
  ·have cL:=V.no f ah
   exact qt _ _ p 1 eH 0 f ah rfl rfl rfl (mV.leave _) rfl rfl rfl (.inr ah) (HZ rfl)
  ·exact XA Q p 0 f z K (.inr ⟨r,rfl⟩)
 ·intro p Q w f G z K bY X r fq bx
  exact qt _ _ p 4 eH 0 f ah rfl rfl rfl (mV.leave _) rfl rfl rfl (.inr ah) (HZ rfl)
 ·intro p Q w f G z K bY X r fq bx
  obtain⟨f1,f2,f3,f4,f5,f6,f7,f8⟩:=c.qX c.wrote.length;have gG:=c.xW c.wrote.length;have H:c.runs:=⟨by rw[K];rfl,by rw[mY f];simp[z]⟩;obtain⟨r1,r2,r3,r4,r5,r6⟩:=aL H;have S:mV i m.clock m.aM m.aM m.marks (m.marks.set w.key ⟨U,c.me,0⟩):=⟨λ_=>.inl rfl,λk mk T B h3=>by
   rcases mZ T with⟨rfl,rfl⟩|⟨_,T⟩
   ·exact absurd rfl h3
   ·exact .inl ⟨mk,T,B,rfl⟩⟩
  refine nq {m with marks:=m.marks.set w.key ⟨U,c.me,0⟩} (c.step c.wrote.length) rfl rfl (gU _) S f2 f3 (λ_=>⟨by rw[f6];exact r1,by rw[f3];exact r2,by rw[f2,f3,f7];exact r3,by rw[f2,f6];exactλo G=>S.read (tV i c L) (r4 o G),λj u N oE v A=>?_,λj u _ M=>?_⟩) (λB=>by omega) (.inl ah) _
  ·rw[f7]at N
   rw[f6];by_cases e:j<c.keys
   ·exact r5 j u N (.inl ⟨X,e⟩) v A
   ·have mH:=(dq.1 N).1
    have:j=c.keys:=by unfold Cm.own at oE;omega
    subst this;rw[r]at N;cases N;simp only[Bool.or_eq_false_iff]at bx;have Ar:=bx.2;have cX:=h.lQ w.key;cases hC:m.aM.getD w.key []with
    |nil=>rw[hC]at A;cases A
    |cons x l=>
     rw[hC]at A Ar cX;simp only[oJ,decide_eq_false_iff_not]at Ar;simp only[fw,mQ]at cX;rcases bM.1 A with rfl|A
     ·omega
     ·have:=cX.1 v.aG (jg A);omega
  ·unfold Cm.done at M;omega
 ·intro p Q f G z K bY X bj az bx
  exact qt _ _ p 6 eH 0 f ah rfl rfl rfl (mV.leave _) rfl rfl rfl (.inr ah) (HZ rfl)
 ·intro p Q f G z K bY X bj az bx
  have H:c.runs:=⟨by rw[K];rfl,by rw[mY f];simp[z]⟩;obtain⟨r1,r2,r3,r4,r5,r6⟩:=aL H;have S:mV i m.clock m.aM m.aM m.marks (c.wrote.foldl (λl w=>l.modify w.key λk=>{k with aG:=m.clock+1}) m.marks):=⟨λ_=>.inl rfl,λk mk T B h3=>by
   rw[Nj,fX]at T;obtain⟨DT,T,rfl⟩:=T;split
   ·exact .inr (by simp only;omega)
   ·rename_i SU;rw[if_neg SU]at B;exact .inl ⟨DT,T,B,rfl⟩⟩
  refine nq {m with clock:=m.clock+1,marks:=c.wrote.foldl (λl w=>l.modify w.key λk=>{k with aG:=m.clock+1}) m.marks} (c.tick (m.clock+1)) rfl rfl (by simp only;omega) S rfl rfl (λ_=>⟨r1,r2,r3,λo G=>S.read (tV i c L) (r4 o G),λj u N oE v A=>r5 j u N (.inr (.inl X)) v A,λj u _ M=>?_⟩) (λ_=>.inr rfl) (.inl ah) _;unfold Cm.done Cm.tick at M;simp only at M;omega
 ·intro p Q w f G z K bY X r fq
  obtain⟨f1,f2,f3,f4,f5,f6,f7,f8⟩:=c.qX c.wrote.length;have gG:=c.xW c.wrote.length;have H:c.runs:=⟨by rw[K];rfl,by rw[mY f];simp[z]⟩;obtain⟨r1,r2,r3,r4,r5,r6⟩:=aL H;have aF:=(hf.ck i c L).st ah;have oE:c.own c.keys:=.inr (.inr ⟨X,dt _⟩);have β:=r5 c.keys w r oE;have JL:∀k,(Ad w.key ⟨c.aG,w.gone,w.val⟩ m.aM).getD k []=if w.key=k then⟨c.aG,w.gone,w.val⟩::m.aM.getD k []else m.aM.getD k []:=λk=>by
   rw[QO];by_cases e:w.key=k<;>simp[e];omega
  obtain⟨tt,Ky⟩:=Kd c.keys w r oE;obtain⟨j0,d0,q0,w0,nT,nB,rF,η,θ,Z8⟩:=hf.xC _ _ Ky F;have:j0=i:=by simp only at nB;omega
  subst this;rw[L]at nT;cases nT;have ζ:tt=c.aG:=by simp only at Z8;rw[Z8];unfold Cm.DV;rw[if_pos X]
  subst ζ;have S:mV j0 m.clock m.aM (Ad w.key ⟨c.aG,w.gone,w.val⟩ m.aM) m.marks (m.marks.set w.key .no):=⟨λk=>by
   rw[JL];by_cases e:w.key=k
   ·subst e
    rw[if_pos F];exact .inr ⟨_,F,⟨_,Ky,F,by simp[pP],F,by simp only;omega⟩,λu N=>by have:=β u N;simp only;omega⟩
   ·rw[if_neg e];exact .inl F,λk mk T B _=>by
   rcases mZ T with⟨rfl,rfl⟩|⟨_,T⟩
   ·simp[fV.no]at B
   ·exact .inl ⟨mk,T,B,rfl⟩⟩
  have Ho:∀j,j<=c.keys->(c.step c.wrote.length).done j:=λj P=>by unfold Cm.done;omega
  refine⟨s,.inl ⟨F,F⟩,?_⟩;refine h.others (i:=j0) (c:=c) (c':=c.step c.wrote.length) (t':=t) (C':=Ad w.key ⟨c.aG,w.gone,w.val⟩ m.aM) hm L F f2 (gU _) S tV (F9 ht).symm ⟨by rw[hn,f3],λ_=>⟨by rw[f6];exact r1,by rw[f3];exact r2,by rw[f2,f3,f7];exact r3,by rw[f2,f6];exactλo G=>S.read (tV j0 c L) (r4 o G),λj u N oY v A=>?_,λj u N M=>?_⟩⟩ (.inl F) (λ_=>.inl ⟨by omega,f8⟩) (λk v A j u N xp M R J e3=>?_) (λk v A=>?_)
  ·rw[f7]at N
   rw[f6];have P:c.keys<j:=by unfold Cm.own at oY;omega
   rw[JL,if_neg (λe=>by have:=Ui V r N e;omega)]at A;exact r5 j u N (.inr (.inr ⟨X,by omega⟩)) v A
  ·rw[f7]at N
   rw[f6,f8];have mH:=(dq.1 N).1;by_cases e:j=c.keys
   ·subst e
    rw[r]at N;cases N;refine⟨by rw[JL,if_pos F];exact eX ..,λv A aC=>?_⟩;rw[JL,if_pos F]at A;rcases bM.1 A with rfl|A
    ·simp only at aC;omega
    ·exact β v A
   ·exact S.put (r6 j u N (.inl ⟨X,by unfold Cm.done at M;omega⟩))
  ·exact .inr ⟨j0,_,j,u,th L,by rw[f7];exact N,xp,Ho j (by unfold Cm.done at M;omega),by rw[f8];exact R,J,e3⟩
  ·rw[JL]at A
   by_cases e:w.key=k
   ·rw[if_pos e]at A
    simp only[List.cons.injEq,and_true]at A;subst A;exact⟨.inr ⟨j0,_,c.keys,w,th L,by rw[f7];exact r,e,Ho _ (dt _),f8,rfl,rfl⟩,by simp only;omega⟩
   ·rw[if_neg e]at A;exact absurd A OH
 ·intro p Q f G z K bY X bj az
  exact XA Q p c.aG f z K (.inl ⟨X,rfl⟩)
def iq.zero:iq:=⟨0,0,0,0,[]⟩
def Mo.bL(m:Mo):ae (ae Stp):=m.be.map (·.pr)
inductive lK(bL:ae (ae Stp)):ae Ev->gk->Prop
 |nil:lK bL [] ⟨kq bL.length .zero,[],0⟩
 |snoc (l:ae Ev) (s:gk) (e:Ev) (s':gk) (h:lK bL l s) (he:tJ bL s e s'):lK bL (l++[e]) s'
theorem tJ.more{a:ae (ae Stp)}{b:gk}{e:Ev}(h:tJ a s e b)(q:ae Stp):tJ (a++[q]) ⟨s.cs++[.zero],s.out,s.i⟩ e ⟨b.cs++[.zero],b.out,b.i⟩:=by
 cases h with
 |mk c t l p g d k i j=>
  have:=tJ.mk (bL:=a++[q]) (s:=⟨s.cs++[.zero],s.out,s.i⟩) c t l p g (BA d) (BA k) i j;have f:(s.cs++[iq.zero]).set c (t.up p s.i e)=s.cs.set c (t.up p s.i e)++[.zero]:=List.set_append_left _ _ (dq.1 d).1;simpa only[gk.put,f]using this
theorem lK.more{a:ae (ae Stp)}{l:ae Ev}(h:lK a l s)(q:ae Stp):lK (a++[q]) l ⟨s.cs++[.zero],s.out,s.i⟩:=by
 induction h with
 |nil=>
  have:=lK.nil (bL:=a++[q]);rw[oe,jY,uI,List.replicate_succ']at this;exact this
 |snoc l s e d _ b c=>exact .snoc _ _ _ _ c (b.more q)
inductive Mc
 |pick (n:Int)
 |bt (l:ae Stp)
 |da
def Mo.act(m:Mo):Mc->Mo
 |.pick n=>(m.pick n).1
 |.bt l=>(m.bt l).1
 |.da=>m.da.1
def Mo.run(m:Mo)(l:ae Mc):Mo:=l.foldl Mo.act m
structure sf(m:Mo)(C:ae (ae aZ))(s:gk):Prop where
 ok:m.Ok
 fit:m.Fit
 st:m.Set
 sw:yp m
 bN:Hid m C
 vo:(m.swp C 0 0).Ok
 zx:(m.swp C 0 0).Fit
 tx:wX (m.swp C 0 0) C s
 run:lK m.bL m.events s
theorem IC(h:sf m C s)(n:Int):∃d b,sf (m.pick n).1 d b/\(m.pick n).1.bL=m.bL/\(m.swp C 0 0).pick n=((m.pick n).1.swp d 0 0,(m.pick n).2):=by
 obtain⟨d,e,j,k⟩:=alO (a:=0) (w:=0) h.ok h.fit h.sw h.bN n;have p:=ab5 h.vo n;have q:=ab4 h.vo h.zx n;rw[e]at p q;have o:(m.pick n).1.bL=m.bL:=by
  refine F1 n (λr=>r.1.bL=m.bL) (λ_=>rfl) (λ_ _=>rfl) λi c _ _ g=>?_;have u:=h.ok.qv g;have f:(m.bX c).2.1.pr=c.pr:=by
   refine tC u (λr=>r.2.1.pr=c.pr) ?_ ?_ ?_ ?_ ?_ ?_ ?_ ?_ ?_ ?_ ?_ ?_ ?_ ?_ ?_
   case refine_11=>intros;exact(c.qX _).2.1
   case refine_14=>intros;exact(c.qX _).2.1
   all_goals intros;rfl
  simp only[Mo.bL,wL,f];exact F9 (by rw[fW,g];rfl)
 have l:∃b,wX ((m.pick n).1.swp d 0 0) d b/\lK m.bL (m.pick n).1.events b:=by
  have B:(m.swp C 0 0).aM=C:=rfl;have v:∀r,(m.swp C 0 0).pick n=r->∃b,wX r.1 r.1.aM b/\lK m.bL r.1.events b:=λr x=>by
   subst x;refine F1 n (λr=>∃b,wX r.1 r.1.aM b/\lK m.bL r.1.events b) (λ_=>⟨s,h.tx,h.run⟩) (λ_ _=>⟨s,h.tx,h.run⟩) λi c _ _ g=>?_;obtain⟨b,j,k⟩:=azr h.vo h.zx h.tx g;refine⟨b,k,?_⟩;rcases j with⟨f,rfl⟩|⟨A,f,t⟩
   ·simp only[f];exact h.run
   ·simp only[f];exact .snoc _ _ _ _ h.run t
  exact v _ e
 obtain⟨b,y,z⟩:=l;exact⟨d,b,⟨ab5 h.ok n,ab4 h.ok h.fit n,arU h.ok h.fit h.st n,j,k,p,q,y,by rw[o];exact z⟩,o,e⟩
theorem azp(h:wX m C s)(l:ae Stp):wX {m with be:=m.be++[.new m.be.length l]} C ⟨s.cs++[.zero],s.out,s.i⟩:=by
 obtain⟨q,r,u,y,z,A,B,D,E⟩:=h;refine⟨by simp[q],λi c t a g=>?_,λx f=>?_,λk v J=>?_,z,A,B,λx f i c a b=>?_,λi j c d a o b p H=>?_⟩
 ·rcases yv a with a|⟨K,rfl⟩<;>rcases yv g with g|⟨L,rfl⟩
  ·exact r i c t a g
  ·have:=(dq.1 a).1;omega
  ·have:=(dq.1 g).1;omega
  ·exact⟨rfl,λe=>by have:=e.1;simp[Cm.new]at this⟩
 ·obtain⟨c,n,G⟩:=u x f
  exact⟨c,BA n,G⟩
 ·rcases y k v J with⟨x,c,f,n,e⟩|⟨i,c,j,w,a,e⟩
  ·exact .inl ⟨x,c,f,BA n,e⟩
  ·exact .inr ⟨i,c,j,w,BA a,e⟩
 ·rcases yv a with a|⟨_,rfl⟩
  ·exact D x f i c a b
  ·simp[Cm.new]at b
 ·rcases yv a with a|⟨_,rfl⟩
  ·rcases yv o with o|⟨_,rfl⟩
   ·exact E i j c d a o b p H
   ·simp[Cm.new]at p
  ·simp[Cm.new]at b
theorem LV(h:sf m C s)(l:ae Stp):(∃n,sf (m.bt l).1 C n)/\(m.bt l).1.bL=m.bL++(if(m.bt l).2.2=0 then [l]else []):=by
 obtain⟨e,g,i⟩:=Zx (a:=0) (w:=0) h.sw h.bN l;have d:=Xw h.vo l;have f:=Xv h.vo h.zx l;rw[e]at d f;have j:=Xw h.ok l;have c:=Xv h.ok h.fit l;have k:=ahb h.st l;have o:m.bt l=(m,0,5)\/m.bt l=(m,0,2)\/m.bt l=(m,0,3)\/m.bt l=(({m with be:=m.be++[Cm.new m.be.length l]},(m.be.length:Int),(0:Int)):Mo×Int×Int):=by
  unfold Mo.bt
  repeat' split
  all_goals simp
 rcases o with b|b|b|b
 ·rw[b];exact⟨⟨s,h⟩,by simp⟩
 ·rw[b];exact⟨⟨s,h⟩,by simp⟩
 ·rw[b];exact⟨⟨s,h⟩,by simp⟩
 ·rw[b]at d f j c k g i⊢
  refine⟨⟨⟨s.cs++[iq.zero],s.out,s.i⟩,j,c,k,g,i,d,f,azp h.tx l,?_⟩,by simp[Mo.bL,Cm.new]⟩;have:=h.run.more l;simpa[Mo.bL,Cm.new]using this
theorem LW(h:sf m C s):sf m.da.1 C s/\m.da.1.bL=m.bL:=by
 obtain⟨c,d,A,a,w,e⟩:=Sy h.ok h.sw h.bN;have f:=ayz h.ok;have b:=ayx h.fit;have g:=ayE h.st;rw[e]at c d f b g⊢;exact⟨⟨f,b,g,c,d,h.vo,h.zx,h.tx,h.run⟩,F⟩
theorem P7{a c:Int}(h:Mo.new a b c=Z m):sf m m.aM ⟨[],[],0⟩/\m.bL=[]/\m.events=[]/\m.fE=Y/\m.be=[]:=by
 have o:=aqx h;have f:=aqw h;have p:=aqy h;unfold Mo.new at h;split at h
 ·cases h
 ·cases h
  have g:∀k,(kq b.toNat ([]:ae aZ)).getD k []=[]:=λk=>by
   rw[wI,List.getElem?_replicate];split<;>rfl
  refine⟨⟨o,f,p,⟨λh=>absurd F h,λh=>absurd F h⟩,⟨F,λ_ _ _=>⟨F,F⟩⟩,o,f,⟨F,λi c t l=>by(simp[Mo.init,Mo.swp]at l),λx n=>by(cases n),λk v e=>?_,λk=>?_,λk v e=>?_,Eh,λx n=>by(cases n),λi j c d l=>by simp[Mo.init,Mo.swp]at l⟩,.nil⟩,F,F,F,F⟩
  ·simp only[Mo.init]at e;rw[g]at e;cases e
  ·simp only[Mo.init];rw[g];exact Eh
  ·simp only[Mo.init]at e;rw[g]at e;cases e
theorem azT(h:sf m C s)(o:Mc):∃b a,sf (m.act o) b a:=by
 cases o with
 |pick n=>obtain⟨b,a,c,_⟩:=IC h n;exact⟨b,a,c⟩
 |bt l=>obtain⟨a,c⟩:=(LV h l).1;exact⟨C,a,c⟩
 |da=>exact⟨C,s,(LW h).1⟩



abbrev fQ(g:aj Nat)(c:Nat)(l:ae Ev):En:=.row 34 5 g l.length c (l.flatMap Ev.cells)
def MQ:bH->aj Nat
 |.region i _ _=>Z i
 |.seq a _=>MQ a
 |.block _ b=>MQ b
 |.loop b=>MQ b
 |_=>I
def Gg(n:Nat):bH->ae aJ->aj (ae aJ)
 |.seq a b,k=>match Gg n a (.code b::k)with
  |some r=>Z r
  |none=>Gg n b k
 |.cond _ a b,k=>match Gg n a k with
  |some r=>Z r
  |none=>Gg n b k
 |.block i b,k=>Gg n b (.inBlock i::k)
 |.loop b,k=>if MQ b=Z n then Z (.code b::.inLoop b::k)else Gg n b (.inLoop b::k)
 |_,_=>I
noncomputable def ve(f n:Nat):ae aJ:=match(bO Sv f #[] .normal).todo with
 |.code c::k=>match Gg n c k with
  |some r=>r
  |none=>[]
 |_=>[]
def rJ(n:Int):Int:=IntKind.i64.wrap (n-1)
abbrev aW(x:Int):Aw Sv:=.e (ai (IntKind.i64.wrap x)) (ai (IntKind.i64.wrap x)) F
theorem aaL(n:Int):tG (rJ n):=by
 have e:rJ n=if(n-1)%18446744073709551616>=9223372036854775808 then(n-1)%18446744073709551616-18446744073709551616 else(n-1)%18446744073709551616:=by
  simp[rJ,IntKind.wrap,IntKind.signed,IntKind.bits]
 rw[e];unfold tG;split<;>omega
def gS:ae iY->Nat×Nat×Nat
 |[]=>(3,4,50)
 |o::l=>if o.kind=1 then(1+vh (rJ o.A) 8,1+vh (rJ o.B) 20,vh o.C 1000001)else gS l
theorem avx(l:ae iY):1<=(gS l).1/\(gS l).1<=8/\1<=(gS l).2.1/\(gS l).2.1<=20/\(gS l).2.2<=1000000:=by
 induction l with
 |nil=>simp[gS]
 |cons o l a=>
  unfold gS;split
  ·have b:=Lf (rJ o.A) 8 aT
   have c:=Lf (rJ o.B) 20 aT;have d:=Lf o.C 1000001 aT;simp only;omega
  ·exact a
theorem avy (b off:Nat) (oo:Array Value) (ty:TypeId) (fz:Nat×Nat) (os:List iY) (cap:Nat) (gG:F8 oo off os) (hC:∀o∈os,tG o.C) (hlen:os.length≤2199023255552):Fl Sv 20 [.slice (some ⟨b,off,none⟩) os.length cap].toArray [Ir b oo ty fz] λv L=>v=.tuple #[goInt (gS os).1,goInt (gS os).2.1,goInt (gS os).2.2]∧L=[Ir b oo ty fz]:=by
 refine Fl.of 40 λk j=>av [.g,.x] ?_;refine ji (ι:=Nat) (λi=>os.length-i) (λi=>[(0,.slice (some ⟨b,off,none⟩) os.length cap),(5,goInt i)]) (λ_=>[Ir b oo ty fz]) (λi=>i≤os.length∧gS os=gS (os.drop i)) 0 ⟨Nat.zero_le _,rfl⟩ ?_;rintro i ⟨l,d⟩ g;by_cases aC:i<os.length
 ·obtain⟨o,c⟩:∃o,os[i]?=some o:=⟨_,List.getElem?_eq_getElem aC⟩
  have h:=gG i o c;have e:os.drop i=o::os.drop (i+1):=by
   rw[List.drop_eq_getElem_cons aC];congr 1;exact(List.getElem?_eq_some_iff.1 c).2
  by_cases a:o.kind=1
  ·refine av [fu i os.length,xr 22 6 b off cap aC,rr 0 (h 0 _ rfl),bT a] ?_
   refine jO 24 [xr 22 6 b off cap aC,rr 0 (h 2 _ rfl),aW (o.A-1),xr 22 6 b off cap aC,rr 0 (h 3 _ rfl),aW (o.B-1),xr 22 6 b off cap aC,rr 0 (h 4 _ rfl)] [6,.p [7],14,.p [15],21,.p [22,23]] [24] (qq [] (UG (rJ o.A) 8 aT (aaL o.A)) ?_);rintro _ _ ⟨rfl,rfl⟩;refine ib (zL [aI (1+(vh (rJ o.A) 8:Nat)) ((1+vh (rJ o.A) 8:Nat):Int) (by have:=Lf (rJ o.A) 8 aT;omega)] (qq [] (UG (rJ o.B) 20 aT (aaL o.B)) ?_));rintro _ _ ⟨rfl,rfl⟩;refine ib (zL [aI (1+(vh (rJ o.B) 20:Nat)) ((1+vh (rJ o.B) 20:Nat):Int) (by have:=Lf (rJ o.B) 20 aT;omega)] (qq [] (UG o.C 1000001 aT (hC o (List.mem_of_getElem? c))) ?_));rintro _ _ ⟨rfl,rfl⟩;refine ib (zL [] (Fl.run [] ?_));refine ez [goInt ((1+vh (rJ o.A) 8:Nat):Int),goInt ((1+vh (rJ o.B) 20:Nat):Int),goInt (vh o.C 1000001)] _ ⟨?_,rfl⟩;rw[d,e,gS,if_pos a];rfl
  ·refine av [fu i os.length,xr 22 6 b off cap aC,rr 0 (h 0 _ rfl),bF a,aS i,.g,.x] ?_
   exact cq (g (i+1) ah ⟨aC,by rw[d,e,gS,if_neg a]⟩)
 ·have f:i=os.length:=by omega
  subst f;refine av [gi os.length os.length] ?_;refine ez [goInt 3,goInt 4,goInt 50] _ ⟨?_,rfl⟩;rw[d,List.drop_length];rfl
theorem avz(b:aj aU)(a:Nat):Fl Sv 20 [.slice b 0 a].toArray [] λv L=>v=.tuple #[ai 3,ai 4,ai 50]/\L=[]:=by
 exact Fl.of 40 λd c=>av [.g,gi (0:Nat) 0] (ez [ai 3,ai 4,ai 50] _ ⟨F,F⟩)
theorem adb{d:ae Nat}(f:aj aU)(a:ae iY)(b:Nat)(q:zQ S d [] f a):Fl Sv 20 [.slice f a.length b].toArray [.ro S d] λv L=>v=.tuple #[ai (gS a).1,ai (gS a).2.1,ai (gS a).2.2]/\L=[.ro S d]:=by
 obtain⟨⟨u,g,i,_,_,j⟩,k,c⟩:=q;rcases zG a.length with e|e
 ·have:a=[]:=zC e
  subst this;refine Fl.sub [.ro S d] (avz f b) (.refl _) ?_;rintro v _ ⟨rfl,rfl⟩;exact⟨_,⟨rfl,rfl⟩,.refl _⟩
 ·obtain⟨t,w,l,p,m,r,n,s⟩:=j rfl e
  rw[i e];refine Fl.post (Fl.MS (R:=λv L=>v=.tuple #[ai (gS a).1,ai (gS a).2.1,ai (gS a).2.2]/\L=[]) p n s r ((avy u g t w l a b m (λo h=>(k o h).C) c).post ?_)) ?_
  ·rintro v _ ⟨rfl,rfl⟩
   exact⟨_,⟨_,⟨rfl,rfl⟩,rfl⟩,.refl _⟩
  ·rintro v _ ⟨_,⟨rfl,rfl⟩,rfl⟩
   exact⟨_,⟨rfl,rfl⟩,.refl _⟩
theorem Es(m:Mo)(l:ae Mc)(o:Mc):m.run (l++[o])=(m.run l).act o:=by simp[Mo.run]
structure kN(m0:Mo)(s0:Nat)(v0:ag)(m:Mo)(σ:Sg)(a:Gc):Prop where
 w:∃C s,sf m C s
 s:kM m σ
 x:σ.x.s=s0
 st:m.fE=Y
 a:a.v=v0
theorem kN.ok{b:Mo}{c:Nat}{d:ag}(h:kN b c d m σ a):m.Ok:=by obtain⟨_,_,h⟩:=h.w;exact h.ok
theorem arQ(n:Int):(m.pick n).1.be.length=m.be.length:=by
 refine F1 n (λr=>r.1.be.length=m.be.length) (λ_=>rfl) (λ_ _=>rfl) λi c _ _ _=>?_;simp
theorem kN.pick{e:Mo}{f:Nat}{g:ag}{n:Int}(h:kN e f g m σ a){b:Sg}{c:Gc}(j:kM (m.pick n).1 b)(k:b.x.s=σ.x.s)(l:c.v=a.v):kN e f g (m.pick n).1 b c:=by
 obtain⟨C,s,d⟩:=h.w;obtain⟨i,p,o,_⟩:=IC d n;exact⟨⟨i,p,o⟩,j,k.trans h.x,(ap9 d.ok n).trans h.st,l.trans h.a⟩
theorem ac2  {ex:List Nat}  (hA:rj S ex A) {m0:Mo} {σ0:Sg} {a0:Gc} {b0:Nat} (h0:kN m0 σ0.x.s a0.v m0 σ0 a0) (n:Nat) (hn:m0.be.length=n):Fl Sv 26 [pt σ0.x.s,goInt n].toArray (bQ S ex A++(gE a0 b0::σ0.all)) λv L=>∃(M:Sg)(C:Gc)(Q:Nat)(l:List Int),v=.bool true∧kN m0 σ0.x.s a0.v (m0.run (l.map Mc.pick)) M C∧(m0.run (l.map Mc.pick)).over∧L=bQ S ex A++(gE C Q::M.all):=by
 have Ke:n≤8:=by have:=h0.ok.cl;omega
 refine Fl.of 34 λcs L2=>du (L':=[]++(bQ S ex A++(gE a0 b0::σ0.all))) (.refl _) (cF _ _ (av [.g,.x] (bE ?_)));refine ji (ι:=Nat×Sg×Gc×Nat×List Int) (λi=>5000-i.1) (λi=>[(0,pt σ0.x.s),(1,goInt n),(5,goInt i.1)]) (λi=>[]++(bQ S ex A++(gE i.2.2.1 i.2.2.2.1::i.2.1.all))) (λi=>i.1+(m0.run (i.2.2.2.2.map Mc.pick)).left≤4800∧kN m0 σ0.x.s a0.v (m0.run (i.2.2.2.2.map Mc.pick)) i.2.1 i.2.2.1∧(m0.run (i.2.2.2.2.map Mc.pick)).be.length=n) (0,σ0,a0,b0,[]) ⟨by
  obtain⟨_,_,h⟩:=h0.w;have:=ao0 h.ok h.fit;simp only[List.map_nil,Mo.run,List.foldl_nil];omega,h0,hn⟩ ?_
 rintro⟨i,σ,a,b,l⟩ ⟨G,h,q⟩ H;simp only at G h q H;generalize x:m0.run (l.map Mc.pick)=m at G h q;refine du (L':=[]++(bQ S ex A++(gE a b::σ.all))) (.refl _) (cF _ _ (av [fu i 5000,.g,.x] (bE ?_)));refine ji (ι:=Nat×Bool×Sg×Gc×Nat×List Int) (λj=>n-j.1) (λj=>[(0,pt σ0.x.s),(1,goInt n),(5,goInt i),(6,.bool j.2.1),(7,goInt j.1)]) (λj=>[]++(bQ S ex A++(gE j.2.2.2.1 j.2.2.2.2.1::j.2.2.1.all))) (λj=>j.1≤n∧I8 m j.1 j.2.1 (m0.run (j.2.2.2.2.2.map Mc.pick))∧kN m0 σ0.x.s a0.v (m0.run (j.2.2.2.2.2.map Mc.pick)) j.2.2.1 j.2.2.2.1∧(m0.run (j.2.2.2.2.2.map Mc.pick)).be.length=n) (0,false,σ,a,b,l) ⟨Nat.zero_le _,by simp only[x];exact at3 m,by simp only[x];exact h,by simp only[x];exact q⟩ ?_;rintro⟨j,c,p,f,g,o⟩ ⟨hj,s,d,t⟩ K;simp only at hj s d t K;by_cases O:j<n
 ·have z:=at1 d.ok d.st s ah
  refine du (L':=[]++(bQ S ex A++(gE f g::p.all))) (.refl _) (cF _ _ (av [fu j n] (bE (cM (bQ S ex A++(gE f g::p.all)) ?_))));have J:=Ig hA d.ok d.s (j:Nat) f g;rw[d.x]at J;refine im (bQ S ex A++(gE f g::p.all)) [] J (by rw[List.append_nil]) ?_;rintro _ _ ⟨N,D,E,rfl,R,T,V,rfl⟩;have nf:=d.pick R (T.trans d.x.symm) V;have u:m0.run ((o++[(j:Int)]).map Mc.pick)=((m0.run (o.map Mc.pick)).pick (j:Nat)).1:=by
   rw[List.map_append,List.map_singleton,Es];rfl
  have e:∀w,w=(c||decide (((m0.run (o.map Mc.pick)).pick (j:Nat)).2.1≠-1))→Rs Sv _ _ _ _ _:=λw W=>K (j+1,w,N,D,E,o++[(j:Int)]) (by simp only;omega) ⟨O,by simp only[u];rw[W];exact z.2,by simp only[u];exact nf,by simp only[u];rw[arQ];exact t⟩;rw[z.1];generalize ((m0.run (o.map Mc.pick)).pick (j:Nat)).2.1=k at e;refine du (L':=[]++(bQ S ex A++(gE D E::N.all))) ba (cF _ _ ?_);cases c with
  |true=>
   refine av [po 0 0 rfl,aS j,.g,.x] (bE ?_);exact cq (e true ba)
  |false=>
   by_cases r:k=-1
   ·refine av [po 0 0 rfl,po k (-1) r,aS j,.g,.x] (bE ?_)
    exact cq (e false (by simp[r]))
   ·refine av [po 0 0 rfl,nqT k (-1) r,aS j,.g,.x] (bE ?_)
    exact cq (e true (by simp[r]))
 ·have P:j=n:=by omega
  obtain⟨_,_,y⟩:=h.w;have B:=at0 y.ok y.fit (by rw[q,←P];exact s);cases c with
  |true=>
   have X:=B.1 rfl;refine du (L':=[]++(bQ S ex A++(gE f g::p.all))) (.refl _) (cF _ _ (av [gi j n,aS i,.g,.x] (bE ?_)));exact cq (H (i+1,p,f,g,o) (by simp only;omega) ⟨by simp only;omega,d,t⟩)
  |false=>
   obtain⟨X,ho⟩:=B.2 rfl;refine du (L':=[]++(bQ S ex A++(gE f g::p.all))) (.refl _) (cF _ _ (av [gi j n] (bE ?_)));exact ez [.bool true] _ ⟨p,f,g,o,rfl,d,ho,rfl⟩
theorem Ml(m:Mo)(l r:ae Mc):m.run (l++r)=(m.run l).run r:=by simp[Mo.run]
theorem kN.bt{d:Mo}{e:Nat}{f:ag}{l:ae Stp}(h:kN d e f m σ a){b:Sg}{c:Gc}(g:kM (m.bt l).1 b)(i:b.x.s=σ.x.s)(j:c.v=a.v):kN d e f (m.bt l).1 b c:=by
 obtain⟨C,s,k⟩:=h.w;obtain⟨o,n⟩:=(LV k l).1;exact⟨⟨C,o,n⟩,g,i.trans h.x,(ap3 m l).trans h.st,j.trans h.a⟩
theorem kN.da{f:Mo}{g:Nat}{i:ag}(h:kN f g i m σ a){c:Sg}{d:Gc}(j:kM m.da.1 c)(k:c.x.s=σ.x.s)(l:d.v=a.v):kN f g i m.da.1 c d:=by
 obtain⟨C,s,b⟩:=h.w;have:=(LW b).1;refine⟨⟨C,s,this⟩,j,k.trans h.x,?_,l.trans h.a⟩;obtain⟨_,_,A,a,w,e⟩:=Sy b.ok b.sw b.bN;rw[e];exact h.st
theorem Xx(a:m.fE=Y)(l:ae Stp):((m.bt l).2.2≠0)\/((m.bt l).2.2=0/\(m.bt l).2.1=m.be.length):=by
 unfold Mo.bt;rw[a];simp only[hZ,if_false];split
 ·exact .inl ba
 ·split
  ·exact .inl ba
  ·exact .inr ⟨F,F⟩
theorem ar0(d:m.Ok)(b:kM m σ):Fl Sv 32 [pt σ.x.s].toArray σ.all λv L=>∃g c,v=sv g m.events.length c/\L=σ.all++[fQ g c m.events]:=by
 have a:=b.ev;have e:=d.Gb.1;refine Fl.sub ([σ.x.uE (σ.u.by σ.k0),σ.k0.wE σ.a0 σ.b0,dE σ.k0.d σ.x.s σ.n σ.st σ.ad σ.bd,σ.x.sE,σ.x.cE,σ.x.lE,σ.x.mE σ.ms σ.km]++σ.je) (ai0 σ.x (by rw[a];omega)) (by unfold Sg.all Sg.top Sg.je;exact cx) ?_;rintro v _ ⟨g,c,rfl,rfl⟩;rw[a];exact⟨_,⟨g,c,F,F⟩,by unfold Sg.all Sg.top Sg.je;exact cx⟩
theorem UI{d:Mo}{b:Nat}{e:ag}(h:kN d b e m σ a):Fl Sv 32 [pt b].toArray σ.all λv L=>∃g c,v=sv g m.events.length c/\L=σ.all++[fQ g c m.events]:=by
 have:=ar0 h.ok h.s;rw[h.x]at this;exact this
theorem abx(a:ae iY):∃m,Mo.new (gS a).1 (gS a).2.1 (gS a).2.2=Z m/\m.aM.length=(gS a).2.1:=by
 have h:=avx a;refine⟨_,if_neg ah,?_⟩;simp[Mo.init]
theorem acF(m:Mo)(l:ae Int):∀C s,sf m C s->(m.run (l.map Mc.pick)).bL=m.bL:=by
 induction l generalizing m with
 |nil=>intro _ _ _;rfl
 |cons n l c=>
  intro C s h;obtain⟨a,d,b,e,_⟩:=IC h n;exact(c (m.pick n).1 a d b).trans e
def vB:ByteArray:=⟨#[118]⟩
def uB:ByteArray:=⟨#[117]⟩
def jd:ae Stp:=[⟨1,0,⟨#[]⟩⟩,⟨3,1,vB⟩,⟨5,0,⟨#[]⟩⟩]
def jc:ae Stp:=[⟨1,0,⟨#[]⟩⟩,⟨2,1,⟨#[]⟩⟩,⟨3,1,uB⟩,⟨5,0,⟨#[]⟩⟩,⟨1,0,⟨#[]⟩⟩,⟨2,1,⟨#[]⟩⟩,⟨5,0,⟨#[]⟩⟩]
def pT:ae Ev:=[⟨1,0,1,⟨#[]⟩,0⟩,⟨0,0,1,⟨#[]⟩,0⟩,⟨0,1,1,⟨#[]⟩,0⟩,⟨0,2,1,⟨#[]⟩,1⟩,⟨1,1,3,⟨#[]⟩,0⟩,⟨1,2,1,⟨#[]⟩,0⟩,⟨1,3,4,⟨#[]⟩,0⟩,⟨1,4,1,⟨#[]⟩,1⟩,⟨1,5,2,vB,0⟩,⟨1,6,1,⟨#[]⟩,0⟩]
def AI:Mo:=.init 4 2 100
theorem aaM:Mo.new 4 2 100=Z AI:=al
theorem ao5:(AI.bt jd).2=(0,0):=al
theorem ao4:((AI.bt jd).1.bt jc).2=(1,0):=al
def AJ(m:Mo)(n:Int):Nat->Mo
 |0=>m
 |k+1=>((AJ m n k).pick n).1
theorem ao3:(AJ (AJ (AJ ((AI.bt jd).1.bt jc).1 1 2) 0 9) 1 9).events=pT:=al
theorem Qc{P:aD}{X:Cx}{c:ae aJ}{j:ae cz}{d:Env}{L:ae En}(i e a n b:Nat)(arr:af ag)(r:n<=1000000)(g:arr.size=n*a)(h:Rs P X c j d (L.set i (.row e a (iQ b) n n arr.toList)))(l:L[i]?=iQ (.ob b (.cells arr e)):=by kernel_rfl):Rs P X c j d L:=λm f H p k=>by
 have o:H[b]?=iQ (.cells arr e):=k.at l;refine h m f H p (yf k l ?_ (λx q=>.inl ?_) (dt _) λx _ _=>rfl)
 ·refine⟨by simp[g],.inr ⟨b,n,arr,F,o,dt _,by unfold maxLen;omega,g,?_⟩⟩
  rw[List.take_of_length_le (by simp[g])]
 ·cases q;rfl
theorem X'{d:Nat}{e g:af ag}{w:ax}:∀fs:ae Field,(∀f∈fs,∃a b,(part f.type e f.offset).run Sv w=.ok a w/\(part f.type g f.offset).run Sv w=.ok b w/\(Op.equalIn d f.type a b).run Sv w=.ok U w)->(Op.eqFields d e g fs).run Sv w=.ok U w
 |[],_=>by simp[Op.eqFields]
 |f::fs,h=>by
  obtain⟨a,b,i,j,k⟩:=h f (eX ..);have c:=X' fs λf l=>h f (eK _ l);unfold Op.eqFields;split
  ·simp only[oh,i,j,k,Result.andThen_ok,Bool.not_true,hZ,if_false]
   exact c
  ·exact c
abbrev Ev.v(e:Ev):ag:=.agg #[ai e.bt,ai e.step,ai e.out,.string e.val,ai e.aG]
theorem aiW:((Sv.fieldsOf 34).toList.map λf=>(f.type,f.offset))=[(3,0),(3,1),(3,2),(9,3),(3,4)]:=al
theorem aiY(e:Ev)(w:ax):(Op.equalIn 10000 34 e.v e.v).run Sv w=.ok U w:=by
 rw[show(10000:Nat)=9999+1 from F,run_equalIn_agg w 9999 34 _ _ al al];have b:∀a:Int,(Op.equalIn 9999 3 (ai a) (ai a)).run Sv w=.ok U w:=λa=>by
  have:=run_equalIn_int (P:=Sv) w 9998 3 .i64 .i64 a a al;simpa[ai]using this
 have h:(Op.equalIn 9999 9 (.string e.val) (.string e.val)).run Sv w=.ok U w:=by
  have:=run_equalIn_string (P:=Sv) w 9998 9 e.val e.val al;simpa using this
 refine X' _ λf i=>?_;have g:=jg (f:=λf:Field=>(f.type,f.offset)) i;rw[aiW]at g;simp only[bM,fN,gV,or_false]at g;rcases g with⟨c,d⟩|⟨c,d⟩|⟨c,d⟩|⟨c,d⟩|⟨c,d⟩<;>rw[c,d]
 ·exact⟨ai e.bt,ai e.bt,by kernel_rfl,by kernel_rfl,b _⟩
 ·exact⟨ai e.step,ai e.step,by kernel_rfl,by kernel_rfl,b _⟩
 ·exact⟨ai e.out,ai e.out,by kernel_rfl,by kernel_rfl,b _⟩
 ·exact⟨.string e.val,.string e.val,by kernel_rfl,by kernel_rfl,h⟩
 ·exact⟨ai e.aG,ai e.aG,by kernel_rfl,by kernel_rfl,b _⟩
theorem aiX(p q:iP)(e:Ev)(w:ax):(Ab .neq 34 p q e.v e.v).run Sv w=.ok (.value (.bool Y)) w:=by
 refine Jm (run_eqGuard_agg w .neq 34 p q _ _ al) ?_;rw[run_neq_struct,aiY];rfl
abbrev abt(p q:iP)(e:Ev):Aw Sv:=.s (Ab .neq 34 p q e.v e.v) (.value (.bool Y)) (aiX p q e)
theorem ao7 {cs:List Frame} {L2 B:List En} {R:Value→List En→Prop} (ge:Option Nat) (ce z3:Nat) (hR:R (.bool true) B):Rs Sv ⟨14,118,.normal,cs,B++L2,(fx Sv 14 118 cs L2 R).eZ⟩ (ve 14 26) [] [(12,sv ge 10 ce),(13,sv (some z3) 10 10),(14,goInt 0)] [fQ ge ce pT,fQ (some z3) 10 pT]:=by
 refine ji (ι:=Nat) (λi=>10-i) (λi=>[(12,sv ge 10 ce),(13,sv (some z3) 10 10),(14,goInt i)]) (λ_=>[fQ ge ce pT,fQ (some z3) 10 pT]) (λi=>i≤10) 0 (Nat.zero_le _) ?_;intro i k h;by_cases aC:i<10
 ·have b:i<pT.length:=aC
  obtain⟨e,c⟩:∃e,pT[i]?=some e:=⟨_,List.getElem?_eq_getElem b⟩;have a:∀q,q<5→(pT.flatMap Ev.cells)[i*5+q]?=e.cells[q]?:=λq f=>gW Ev.len pT i q e f c;refine lJ 0 ge 10 ce aT λj d _=>?_;subst d;refine av [fu i 10] ?_;refine gw 9 [iX 25 5 j ce aC,rr 0 (a 0 aT),rr 0 (a 1 aT),rr 0 (a 2 aT),rr 0 (a 3 aT),rr 0 (a 4 aT),iX 25 5 z3 10 aC,rr 1 (a 0 aT),rr 1 (a 1 aT),rr 1 (a 2 aT),rr 1 (a 3 aT),rr 1 (a 4 aT),abt (tm 112) (tm 116) e] [] (Fl.nil ?_);refine av [aS i,.g,.x] ?_;exact cq (h (i+1) ah aC)
 ·have g:i=10:=by omega
  subst g;refine av [gi (10:Nat) 10] (ey [0,1] (bE ?_));exact ez [.bool true] _ hR
theorem TP  {ex:List Nat}  (hA:rj S ex A) (a:Gc) (b c d:Nat) (ha:a.v=goInt 0):Fl Sv 14 #[] (lN S ex A a b c d) λv L=>∃g j c' d',v=.bool true∧g.v=goInt 0∧L=lN S ex A g j c' d':=by
 have hN:=UJ (S:=S) (ex:=ex) (A:=A) 4 2 100 a b c d;rw[aaM]at hN;obtain⟨rF,_,_,oF,_⟩:=P7 aaM;refine Fl.of 118 λcs L2=>du (L':=[]++(bQ S ex A++[gE a b,hE (.chan none) c d])) (.refl _) (cF _ _ (av [] (bE (cM (bQ S ex A++[gE a b,hE (.chan none) c d]) ?_))));refine im (bQ S ex A++[gE a b,hE (.chan none) c d]) [] hN (by rw[List.append_nil]) ?_;rintro _ _ ⟨σ,B,N,P,R,rfl,hS,iF,rfl⟩;have V:kN AI σ.x.s (.iface 3 (goInt 0)) AI σ B:=⟨⟨_,_,rF⟩,hS,rfl,oF,by rw[iF,ha]⟩;refine du (L':=[]++(bQ S ex A++(gE B N::hE (.chan none) P R::σ.all))) ba (cF _ _ (di (λ_=>[.d,po 0 0 rfl]) λz=>?_));refine cM [.ob z (.cells (jd.flatMap Stp.cells).toArray 50),.ob (z+1) (.cells (jc.flatMap Stp.cells).toArray 50)] (Qc 0 50 3 3 z (jd.flatMap Stp.cells).toArray aT (by rfl) (Qc 1 50 3 7 (z+1) (jc.flatMap Stp.cells).toArray aT (by rfl) (bE ?_)));refine cM ([bK (some z) 3 jd,bK (some (z+1)) 7 jc]++(bQ S ex A++(gE B N::hE (.chan none) P R::σ.all))) ?_;refine im (bK (some z) 3 jd::(bQ S ex A++(gE B N::hE (.chan none) P R::σ.all))) [bK (some (z+1)) 7 jc] (O3 hA V.ok V.s jd (some z) 3 aT B N P R) cx ?_;rintro _ _ ⟨σ2,M,O,Q,T,rfl,JP,gd,BF,rfl⟩;have E:=V.bt JP (gd.trans V.x.symm) BF;rw[ao5];have kB:=O3 hA E.ok E.s jc;rw[E.x]at kB;generalize Kb:(AI.bt jd).1=m1 at*;refine du (L':=[]++([bK (some z) 3 jd,bK (some (z+1)) 7 jc]++(bQ S ex A++(gE M O::hE (.chan none) Q T::σ2.all)))) cx (cF _ _ (av [] (bE (cM ([bK (some z) 3 jd,bK (some (z+1)) 7 jc]++(bQ S ex A++(gE M O::hE (.chan none) Q T::σ2.all))) ?_))));refine im (bK (some (z+1)) 7 jc::(bQ S ex A++(gE M O::hE (.chan none) Q T::σ2.all))) [bK (some z) 3 jd] (kB (some (z+1)) 7 aT M O Q T) cx ?_;rintro _ _ ⟨σ3,X,b3,c3,e,rfl,β,BT,vJ,rfl⟩;have h3:=E.bt β (BT.trans E.x.symm) vJ;have hr:(m1.bt jc).2=(1,0):=by rw[←Kb];exact ao4
 rw[hr];generalize N7:(m1.bt jc).1=m2 at*;refine du (L':=[]++([bK (some z) 3 jd,bK (some (z+1)) 7 jc]++(bQ S ex A++(gE X b3::hE (.chan none) c3 e::σ3.all)))) cx (cF _ _ (av [.g,.x] (bE ?_)));refine cM ([]++([bK (some z) 3 jd,bK (some (z+1)) 7 jc]++(bQ S ex A++(gE X b3::hE (.chan none) c3 e::σ3.all)))) ?_;refine ji (ι:=Nat×Sg×Gc×Nat) (λi=>2-i.1) (λi=>[(1,pt σ.x.s),(5,goInt 0),(6,goInt 0),(7,goInt 1),(8,goInt 0),(9,goInt i.1)]) (λi=>[]++([bK (some z) 3 jd,bK (some (z+1)) 7 jc]++(bQ S ex A++(gE i.2.2.1 i.2.2.2::hE (.chan none) c3 e::i.2.1.all)))) (λi=>i.1≤2∧kN AI σ.x.s (.iface 3 (goInt 0)) (AJ m2 1 i.1) i.2.1 i.2.2.1) (0,σ3,X,b3) ⟨Nat.zero_le _,h3⟩ ?_;rintro⟨i,J,u,x⟩ ⟨m,r⟩ h;simp only at m r h;by_cases aC:i<2
 ·have n:=Ig hA r.ok r.s 1 u x
  rw[r.x]at n;refine cF _ _ (av [fu i 2] (bE (cM ([bK (some z) 3 jd,bK (some (z+1)) 7 jc]++(bQ S ex A++(gE u x::hE (.chan none) c3 e::J.all))) ?_)));refine im (bQ S ex A++(gE u x::J.all)) [bK (some z) 3 jd,bK (some (z+1)) 7 jc,hE (.chan none) c3 e] n cx ?_;rintro _ _ ⟨o,g,j,rfl,H,C,D,rfl⟩;refine du (L':=[]++([bK (some z) 3 jd,bK (some (z+1)) 7 jc]++(bQ S ex A++(gE g j::hE (.chan none) c3 e::o.all)))) cx (cF _ _ (av [aS i,.g,.x] (bE ?_)));exact cq (h (i+1,o,g,j) (by simp only;omega) ⟨aC,r.pick H (C.trans r.x.symm) D⟩)
 have G:i=2:=by omega
 subst G;clear h m aC;refine cF _ _ (av [gi (2:Nat) 2,.g,.x] (bE (cM ([bK (some z) 3 jd,bK (some (z+1)) 7 jc]++(bQ S ex A++(gE u x::hE (.chan none) c3 e::J.all))) ?_)));generalize γ:AJ m2 1 2=m3 at*;refine cM ([]++([bK (some z) 3 jd,bK (some (z+1)) 7 jc]++(bQ S ex A++(gE u x::hE (.chan none) c3 e::J.all)))) ?_;refine ji (ι:=Nat×Sg×Gc×Nat) (λi=>9-i.1) (λi=>[(1,pt σ.x.s),(5,goInt 0),(6,goInt 0),(7,goInt 1),(8,goInt 0),(10,goInt i.1)]) (λi=>[]++([bK (some z) 3 jd,bK (some (z+1)) 7 jc]++(bQ S ex A++(gE i.2.2.1 i.2.2.2::hE (.chan none) c3 e::i.2.1.all)))) (λi=>i.1≤9∧kN AI σ.x.s (.iface 3 (goInt 0)) (AJ m3 0 i.1) i.2.1 i.2.2.1) (0,J,u,x) ⟨Nat.zero_le _,r⟩ ?_;rintro⟨i,K,w,y⟩ ⟨m,s⟩ h;simp only at m s h;by_cases aC:i<9
 ·have n:=Ig hA s.ok s.s 0 w y
  rw[s.x]at n;refine cF _ _ (av [fu i 9] (bE (cM ([bK (some z) 3 jd,bK (some (z+1)) 7 jc]++(bQ S ex A++(gE w y::hE (.chan none) c3 e::K.all))) ?_)));refine im (bQ S ex A++(gE w y::K.all)) [bK (some z) 3 jd,bK (some (z+1)) 7 jc,hE (.chan none) c3 e] n cx ?_;rintro _ _ ⟨o,g,j,rfl,H,C,D,rfl⟩;refine du (L':=[]++([bK (some z) 3 jd,bK (some (z+1)) 7 jc]++(bQ S ex A++(gE g j::hE (.chan none) c3 e::o.all)))) cx (cF _ _ (av [aS i,.g,.x] (bE ?_)));exact cq (h (i+1,o,g,j) (by simp only;omega) ⟨aC,s.pick H (C.trans s.x.symm) D⟩)
 have G:i=9:=by omega
 subst G;clear h m aC;refine cF _ _ (av [gi (9:Nat) 9,.g,.x] (bE (cM ([bK (some z) 3 jd,bK (some (z+1)) 7 jc]++(bQ S ex A++(gE w y::hE (.chan none) c3 e::K.all))) ?_)));generalize δ:AJ m3 0 9=m4 at*;refine cM ([]++([bK (some z) 3 jd,bK (some (z+1)) 7 jc]++(bQ S ex A++(gE w y::hE (.chan none) c3 e::K.all)))) ?_;refine ji (ι:=Nat×Sg×Gc×Nat) (λi=>9-i.1) (λi=>[(1,pt σ.x.s),(5,goInt 0),(6,goInt 0),(7,goInt 1),(8,goInt 0),(11,goInt i.1)]) (λi=>[]++([bK (some z) 3 jd,bK (some (z+1)) 7 jc]++(bQ S ex A++(gE i.2.2.1 i.2.2.2::hE (.chan none) c3 e::i.2.1.all)))) (λi=>i.1≤9∧kN AI σ.x.s (.iface 3 (goInt 0)) (AJ m4 1 i.1) i.2.1 i.2.2.1) (0,K,w,y) ⟨Nat.zero_le _,s⟩ ?_;rintro⟨i,t,k,l⟩ ⟨m,f⟩ h;simp only at m f h;by_cases aC:i<9
 ·have n:=Ig hA f.ok f.s 1 k l
  rw[f.x]at n;refine cF _ _ (av [fu i 9] (bE (cM ([bK (some z) 3 jd,bK (some (z+1)) 7 jc]++(bQ S ex A++(gE k l::hE (.chan none) c3 e::t.all))) ?_)));refine im (bQ S ex A++(gE k l::t.all)) [bK (some z) 3 jd,bK (some (z+1)) 7 jc,hE (.chan none) c3 e] n cx ?_;rintro _ _ ⟨o,g,j,rfl,H,C,D,rfl⟩;refine du (L':=[]++([bK (some z) 3 jd,bK (some (z+1)) 7 jc]++(bQ S ex A++(gE g j::hE (.chan none) c3 e::o.all)))) cx (cF _ _ (av [aS i,.g,.x] (bE ?_)));exact cq (h (i+1,o,g,j) (by simp only;omega) ⟨aC,f.pick H (C.trans f.x.symm) D⟩)
 have G:i=9:=by omega
 subst G;clear h m aC;refine cF _ _ (av [gi (9:Nat) 9] (bE (cM ([bK (some z) 3 jd,bK (some (z+1)) 7 jc]++(bQ S ex A++(gE k l::hE (.chan none) c3 e::t.all))) ?_)));generalize ε:AJ m4 1 9=m5 at*;have gQ:m5.events=pT:=by rw[←ε,←δ,←γ,←N7,←Kb];exact ao3
 have HD:=UI f;rw[gQ]at HD;refine im t.all ([bK (some z) 3 jd,bK (some (z+1)) 7 jc,gE k l,hE (.chan none) c3 e]++bQ S ex A) HD cx ?_;rintro _ _ ⟨q,p,rfl,rfl⟩;refine du (L':=[]++((gE k l::t.all)++([fQ q p pT,bK (some z) 3 jd,bK (some (z+1)) 7 jc,hE (.chan none) c3 e]++bQ S ex A))) cx (cF _ _ (av [] (bE (cM ((gE k l::t.all)++([fQ q p pT,bK (some z) 3 jd,bK (some (z+1)) 7 jc,hE (.chan none) c3 e]++bQ S ex A)) ?_))));have aF:=O4 f.ok f.s k l (λ_=>⟨_,f.a⟩);rw[f.x]at aF;refine im (gE k l::t.all) ([fQ q p pT,bK (some z) 3 jd,bK (some (z+1)) 7 jc,hE (.chan none) c3 e]++bQ S ex A) aF (.refl _) ?_;rintro _ _ ⟨σ9,a9,b9,rfl,_,_,pK,rfl⟩;rw[f.st,if_neg aT,f.a]at pK;simp only[Value.iface.injEq,true_and]at pK;refine du (L':=(σ9.all++[bK (some z) 3 jd,bK (some (z+1)) 7 jc])++([fQ q p pT]++lN S ex A a9 b9 c3 e)) (by rw[l6];exact cx) (zK _ (cF _ _ ?_));refine di (λ_=>[po 0 0 rfl,po 0 0 rfl,po 1 1 rfl,po 0 0 rfl,po 10 10 rfl,.g,.x]) λW=>?_;refine cM [fQ q p pT,.ob W (.cells (pT.flatMap Ev.cells).toArray 34)] (Qc 1 34 5 10 W (pT.flatMap Ev.cells).toArray aT (by rfl) ?_);refine cM [fQ q p pT,fQ (some W) 10 pT] ?_;exact cq (ao7 q p W ⟨a9,b9,c3,e,rfl,pK.symm,rfl⟩)




section
variable {W m:Mo}{X:Nat}{V:ag}{σ:Sg}{a:Gc}(h:kN W X V m σ a)
include h
theorem ar3:Fl Sv 27 [pt X].toArray σ.all λv L=>∃g c,v=sv g m.sites.length c/\L=σ.all++[.row 3 1 g m.sites.length c (m.sites.map ai)]:=by
 have e:=h.ok;have i:=e.s;have d:σ.x.si.map zq=m.sites:=by rw[h.s.si];exact ada _ e.si
 have f:σ.x.si.length=m.sites.length:=by rw[<-d,jM]
 have b:=avu σ.x ah;unfold ac9 at b;rw[d,f,h.x]at b;refine Fl.sub ([σ.x.uE (σ.u.by σ.k0),σ.k0.wE σ.a0 σ.b0,dE σ.k0.d σ.x.s σ.n σ.st σ.ad σ.bd,σ.x.eE,σ.x.cE,σ.x.lE,σ.x.mE σ.ms σ.km]++σ.je) b (by unfold Sg.all Sg.top Sg.je;exact cx) ?_;rintro v _ ⟨g,c,rfl,rfl⟩;exact⟨_,⟨g,c,F,F⟩,by unfold Sg.all Sg.top Sg.je;exact cx⟩
theorem ar1(k:∀o∈m.marks,o.set=Y):Fl Sv 28 [pt X].toArray σ.all λv L=>∃g c,v=sv g 0 c/\L=σ.all++[.row 116 3 g 0 c []]:=by
 have d:=h.ok;have p:=d.k;have f:σ.cd.length=m.aM.length:=by have:=congrArg vq h.s.vs;simpa using this
 have e:σ.x.ch.length=m.aM.length:=by rw[h.s.ch,jM,f]
 have i:∀n,KY m.marks n=[]:=λn=>by
  induction n with
  |zero=>rfl
  |succ n l=>
   rw[KY,l];cases ht:m.marks[n]? with
   |none=>rfl
   |some t=>simp[k t (jZ ht)]
 have j:pU σ.ms σ.x.ch.length=[]:=by rw[aa6 h.s.mm _ (by rw[e,d.ml];exact dt _),i]
 have b:=ap2 σ.x σ.ms σ.km ah;unfold aa4 at b;rw[j,h.x]at b;refine Fl.sub ([σ.x.uE (σ.u.by σ.k0),σ.k0.wE σ.a0 σ.b0,dE σ.k0.d σ.x.s σ.n σ.st σ.ad σ.bd,σ.x.eE,σ.x.sE,σ.x.cE,σ.x.lE]++σ.je) b (by unfold Sg.all Sg.top Sg.je;exact cx) ?_;rintro v _ ⟨g,c,rfl,rfl⟩;exact⟨_,⟨g,c,F,F⟩,by unfold Sg.all Sg.top Sg.je;exact cx⟩
theorem arZ{k:Nat}(o:m.aM[k]?=Z l)(p:l.length<=2000):Fl Sv 29 [pt X,ai k,ai 0].toArray σ.all λv L=>∃g c,v=sv g l.length c/\L=σ.all++[vR g l.length c l]:=by
 have q:σ.cd.length=m.aM.length:=by have:=congrArg vq h.s.vs;simpa using this
 have r:=(dq.1 o).1;obtain⟨C,e⟩:∃C,σ.cd[k]?=Z C:=⟨_,eI ah⟩;have i:C.vs=l.reverse:=by
  have b:(σ.cd.map (·.vs))[k]?=Z C.vs:=by rw[fW,e];rfl
  rw[h.s.vs,fW,o]at b;exact(ee b).symm
 have n:=azG σ.x C k (by rw[h.s.ch,fW,e];rfl) (by rw[i,IH];omega);rw[i,List.reverse_reverse,IH]at n;have f:=arB σ.x k 0 ah l [σ.x.cE,C.hd,C.rw] n ah;have d:l.take (sA 0)=l:=List.take_of_length_le (by rw[ahr (.inl (gU _))];exact p);unfold ab0 at f;rw[d,h.x]at f;have b:=P' (EK bV.es _ _ _ e);have j:bl.of σ.all=(bl.of ((σ.x.bf 0).en::[σ.x.cE,C.hd,C.rw])).add (bl.of ([σ.x.uE (σ.u.by σ.k0),σ.k0.wE σ.a0 σ.b0,dE σ.k0.d σ.x.s σ.n σ.st σ.ad σ.bd,σ.x.eE,σ.x.sE,σ.x.lE,σ.x.mE σ.ms σ.km]++(σ.ux++((σ.cd.eraseIdx k).flatMap bV.es++σ.cls.flatMap (PC.es σ.x))))):=by
  unfold Sg.all Sg.top;simp only[nN,pB,qk,b,bV.es]
  ac_rfl
 refine Fl.sub ([σ.x.uE (σ.u.by σ.k0),σ.k0.wE σ.a0 σ.b0,dE σ.k0.d σ.x.s σ.n σ.st σ.ad σ.bd,σ.x.eE,σ.x.sE,σ.x.lE,σ.x.mE σ.ms σ.km]++(σ.ux++((σ.cd.eraseIdx k).flatMap bV.es++σ.cls.flatMap (PC.es σ.x)))) f (by apply bl.exact;rw[j];simp only[nN,pB,qk]) ?_;rintro v _ ⟨g,c,rfl,rfl⟩;refine⟨_,⟨g,c,F,F⟩,?_⟩;apply bl.exact;rw[nN (a:=σ.all),j];simp only[nN,pB,qk]
 ac_rfl
end
structure IS where
 i:Nat
 σ:Sg
 a:Gc
 b:Nat
 c:Nat
 d:Nat
 n:Nat
 op:Nat
 l:ae Mc
def fC(A:Nat->aU)(σ:Sg)(a:Gc)(b c d:Nat):ae En:=nR A++(gE a b::hE (.chan I) c d::σ.all)
structure IS.Ok(m0:Mo)(s0:Nat)(v0:ag)(os:ae iY)(x:IS):Prop where
 i:x.i<=os.length
 w:kN m0 s0 v0 (m0.run x.l) x.σ x.a
 n:(m0.run x.l).be.length=x.n
 op:cnt Cb (m0.run x.l).bL=x.op
theorem XB(p:α->Bool)(l:ae α)(x:α):cnt p (l++[x])=cnt p l+(if p x then 1 else 0):=by
 unfold cnt;rw[List.filter_append,oe];cases h:p x<;>simp[h]
theorem QN(p:α->Bool)(l:ae α):cnt p l<=l.length:=List.length_filter_le ..
theorem Cg(m:Mo):m.bL.length=m.be.length:=by simp[Mo.bL]
theorem aip  {ex:List Nat}  (hA:rj S ex A) {cs:List Frame} {m:List En} {eZ:Frame→Hp→Prop} (G:Option Addr) (sb h:Nat) (os:List iY) (j:Nat) (BG:0<os.length→G=some ⟨sb,h,none⟩)
  (oo:Array Value) (ty:TypeId) (fz:Nat×Nat) (hb:0<os.length→S[sb]?=some (.cells oo ty fz)∧F8 oo h os∧sb∉ex∧sb≠8∧sb≠10) (cy:∀o∈os,o.Ok S ex) (hlen:os.length≤2199023255552)
  (m0:Mo) (s0 keys:Nat) (v0:Value) (x0:IS) (h0:x0.Ok m0 s0 v0 os)
  (hT:∀x:IS,x.Ok m0 s0 v0 os→x.i=os.length→Rs Sv ⟨7,195,.normal,cs,m,eZ⟩ (ve 7 11) [] [(0,.slice G os.length j),(5,goInt keys),(7,pt s0),(9,goInt x.n),(10,goInt x.op),(11,goInt x.i)] ([.ro S ex]++fC A x.σ x.a x.b x.c x.d)):
  Rs Sv ⟨7,195,.normal,cs,m,eZ⟩ (ve 7 11) [] [(0,.slice G os.length j),(5,goInt keys),(7,pt s0),(9,goInt x0.n),(10,goInt x0.op),(11,goInt x0.i)] ([.ro S ex]++fC A x0.σ x0.a x0.b x0.c x0.d):=by
 refine ji (ι:=IS) (λx=>os.length-x.i) (λx=>[(0,.slice G os.length j),(5,goInt keys),(7,pt s0),(9,goInt x.n),(10,goInt x.op),(11,goInt x.i)]) (λx=>[.ro S ex]++fC A x.σ x.a x.b x.c x.d) (λx=>x.Ok m0 s0 v0 os) x0 h0 ?_;intro x hx y;by_cases aC:x.i<os.length
 ·obtain⟨o,ho⟩:∃o,os[x.i]?=some o:=⟨_,List.getElem?_eq_getElem aC⟩
  have jR:=cy o (List.mem_of_getElem? ho);have RV:=BG ah;subst RV;obtain⟨oS,gG,Tt,h8,iN⟩:=hb ah;obtain⟨i,σ,a,b,c,d,n,v,l⟩:=x;obtain⟨hi,g,E,D⟩:=hx;simp only at hi g E D aC ho y;have bx:=g.ok.cl;have Ki:=QN Cb (m0.run l).bL;rw[Cg]at Ki;have oT:=gG i o ho;obtain⟨T,oW,C,oB,oC,oP,f⟩:=o;have Tb:=jR.P;have bY:=jR.l;simp only at Tb bY;obtain⟨X,pn,pc,rfl⟩:∃X pn pc,oP=.slice X pn pc:=by
   rcases Tb with⟨_,G,j,e⟩|⟨_,b,h,j,_,_,_,e,_⟩
   ·exact⟨_,_,_,e⟩
   ·exact⟨_,_,_,e⟩
  have rK:∀m,lU Sv m [.ro S ex] (FM 3 (.pointer (some ⟨sb,h+i*6,none⟩))) λu w=>u=goInt T∧w=[.ro S ex]:=λm=>Lm 0 S ex sb (.cells oo ty fz) _ (goInt T) [rr 0 (oT 0 _ rfl)] oS h8 iN Tt;have rA:∀m,lU Sv m [.ro S ex] (FM 3 (.pointer (some ⟨sb,h+i*6+2,none⟩))) λu w=>u=goInt C∧w=[.ro S ex]:=λm=>Lm 0 S ex sb (.cells oo ty fz) _ (goInt C) [rr 0 (oT 2 _ rfl)] oS h8 iN Tt;have rP:∀m,lU Sv m [.ro S ex] (FM 42 (.pointer (some ⟨sb,h+i*6+5,none⟩))) λu w=>u=.slice X pn pc∧w=[.ro S ex]:=λm=>Lm 0 S ex sb (.cells oo ty fz) _ (.slice X pn pc) [rr 0 (oT 5 _ rfl)] oS h8 iN Tt;refine vw [(0,.slice (some ⟨sb,h,none⟩) os.length j),(5,goInt keys),(7,pt s0),(9,goInt n),(10,goInt v),(11,goInt i)] ?_;refine cF _ _ (av [fu i os.length,fu i 1152921504606846976,xr 22 6 sb h j aC] (cM [.ro S ex] (kr (rK _) ?_)));rintro _ _ ⟨rfl,rfl⟩;by_cases W:T=2
  ·have z:m0.run (l++[.bt f])=((m0.run l).bt f).1:=by rw[Es];rfl
   obtain⟨_,_,P⟩:=g.w;have k:=(LV P f).2;have kB:=O3 hA g.ok g.s f;rw[g.x]at kB;refine av [bT W,xr 22 6 sb h j aC] (cM [.ro S ex] (kr (rP _) ?_));rintro _ _ ⟨rfl,rfl⟩;refine av [] (cM [.ro S ex] (eR [0] (YJ Tb bY) ?_));rintro _ _ ⟨L,B,rfl,rfl⟩;refine av [] (bE (cM ([.ro S ex,bK L B f]++fC A σ a b c d) ?_));refine im (bK L B f::(bQ S ex A++(gE a b::hE (.chan none) c d::σ.all))) [] (kB L B bY a b c d) (by unfold fC;rw[l6,List.append_nil];exact cx) ?_;rintro _ _ ⟨t,p,r,J,K,rfl,R,H,M,rfl⟩;have s:=g.bt R (H.trans g.x.symm) M;rw[←z]at s;refine du (L':=[.ro S ex,bK L B f]++fC A t p r J K) (by unfold fC;rw[l6,List.append_nil];exact cx) (cF _ _ ?_);rcases Xx g.st f with N|⟨N,bN⟩
   ·rw[if_neg N,List.append_nil,←z]at k
    have Q:(m0.run (l++[.bt f])).be.length=n:=by rw[←Cg,k,Cg];exact E
    refine av [ie _ 0 N,aS i,.g,.x] (ey [1] (bE ?_));exact cq (y ⟨i+1,t,p,r,J,K,n,v,l++[.bt f]⟩ (by simp only;omega) ⟨aC,s,Q,by rw[k];exact D⟩)
   ·rw[if_pos N,←z]at k
    rw[N];have Q:(m0.run (l++[.bt f])).be.length=n+1:=by rw[←Cg,k,List.length_append,Cg,E];rfl
    have S2:cnt Cb (m0.run (l++[.bt f])).bL=v+(if Cb f then 1 else 0):=by rw[k,XB,D]
    rcases Nat.eq_zero_or_pos f.length with hz|hz
    ·have:f=[]:=List.eq_nil_of_length_eq_zero hz
     subst this;refine av [kT 0 0 rfl,aS n,ER (0:Nat) 0,aS i,.g,.x] (ey [1] (bE ?_));exact cq (y ⟨i+1,t,p,r,J,K,n+1,v,l++[.bt []]⟩ (by simp only;omega) ⟨aC,s,Q,by rw[S2];rfl⟩)
    ·obtain⟨q,hq⟩:∃q,f[f.length-1]?=some q:=⟨_,List.getElem?_eq_getElem ah⟩
     have Dt:(f.flatMap Stp.cells)[(f.length-1)*3]?=some (goInt q.kind):=gW Stp.len f (f.length-1) 0 q aT hq;have ZQ:Cb f=decide (q.kind<5):=by unfold Cb;rw[List.getLast?_eq_getElem?,hq]
     refine lJ 1 L f.length B hz λg3 hg _=>?_;subst hg;by_cases V:q.kind<5
     ·refine av [kT 0 0 rfl,aS n,Nu f.length 0,aI ((f.length:Int)-1) ((f.length-1:Nat):Int) ah,ix 45 3 g3 f.length B ((f.length-1:Nat):Int) (f.length-1) ⟨rfl,by omega⟩,rr 1 Dt,bT V,aS v,aS i,.g,.x] (ey [1] (bE ?_))
      exact cq (y ⟨i+1,t,p,r,J,K,n+1,v+1,l++[.bt f]⟩ (by simp only;omega) ⟨aC,s,Q,by rw[S2,ZQ];simp[V]⟩)
     ·refine av [kT 0 0 rfl,aS n,Nu f.length 0,aI ((f.length:Int)-1) ((f.length-1:Nat):Int) ah,ix 45 3 g3 f.length B ((f.length-1:Nat):Int) (f.length-1) ⟨rfl,by omega⟩,rr 1 Dt,bF V,aS i,.g,.x] (ey [1] (bE ?_))
      exact cq (y ⟨i+1,t,p,r,J,K,n+1,v,l++[.bt f]⟩ (by simp only;omega) ⟨aC,s,Q,by rw[S2,ZQ];simp[V]⟩)
  by_cases k3:T=3
  ·have z:m0.run (l++[.pick C])=((m0.run l).pick C).1:=by rw[Es];rfl
   obtain⟨_,_,P⟩:=g.w;obtain⟨_,_,_,k,_⟩:=IC P C;have O:=Ig hA g.ok g.s C a b;rw[g.x]at O;refine av [bF W,bT k3,xr 22 6 sb h j aC] (cM [.ro S ex] (kr (rA _) ?_));rintro _ _ ⟨rfl,rfl⟩;refine av [] (bE (cM ([.ro S ex]++fC A σ a b c d) ?_));refine im (bQ S ex A++(gE a b::σ.all)) [hE (.chan none) c d] O (by unfold fC;rw[l6];exact cx) ?_;rintro _ _ ⟨t,p,r,rfl,R,H,M,rfl⟩;have s:=g.pick R (H.trans g.x.symm) M;rw[←z]at s k;refine du (L':=[.ro S ex]++fC A t p r c d) (by unfold fC;rw[l6];exact cx) (cF _ _ (av [aS i,.g,.x] (bE ?_)));exact cq (y ⟨i+1,t,p,r,c,d,n,v,l++[.pick C]⟩ (by simp only;omega) ⟨aC,s,by rw[←Cg,k,Cg];exact E,by rw[k];exact D⟩)
  by_cases k4:T=4
  ·have z:m0.run (l++[.da])=(m0.run l).da.1:=by rw[Es];rfl
   obtain⟨_,_,P⟩:=g.w;have k:=(LW P).2;have O:=UK hA g.ok g.s a b;rw[g.x]at O;refine av [bF W,bF k3,bT k4] (bE (cM ([.ro S ex]++fC A σ a b c d) ?_));refine im (bQ S ex A++(gE a b::σ.all)) [hE (.chan none) c d] O (by unfold fC;rw[l6];exact cx) ?_;rintro _ _ ⟨t,p,r,rfl,R,H,M,rfl⟩;have s:=g.da R (H.trans g.x.symm) M;rw[←z]at s k;refine du (L':=[.ro S ex]++fC A t p r c d) (by unfold fC;rw[l6];exact cx) (cF _ _ (av [aS i,.g,.x] (bE ?_)));exact cq (y ⟨i+1,t,p,r,c,d,n,v,l++[.da]⟩ (by simp only;omega) ⟨aC,s,by rw[←Cg,k,Cg];exact E,by rw[k];exact D⟩)
  refine av [bF W,bF k3,bF k4,aS i,.g,.x] (bE ?_);exact cq (y ⟨i+1,σ,a,b,c,d,n,v,l⟩ (by simp only;omega) ⟨aC,g,E,D⟩)
 ·have iO:x.i=os.length:=by have:=hx.i;omega
  exact hT x hx iO
theorem ahf(p:α->Bool){l:ae α}{x:α}(h:l[i]?=Z x):cnt p (l.take (i+1))=cnt p (l.take i)+(if p x then 1 else 0):=by
 rw[List.take_add_one,h];exact XB p _ x
theorem aiq {cs:List Frame} {L2 T:List En} {eZ:Frame→Hp→Prop} (w0 w5 w7 Cu P3:Value) (g:Option Nat) (cap:Nat) (si:List Int) (hl:si.length≤1000)
  (hT:Rs Sv ⟨7,195,.normal,cs,L2,eZ⟩ (ve 7 29) [] [(0,w0),(5,w5),(7,w7),(10,Cu),(15,P3),(16,goInt (cnt (λv:Int=>v !=-1) si)),(17,sv g si.length cap),(18,goInt si.length)] ([.row 3 1 g si.length cap (si.map goInt)]++T)):
  Rs Sv ⟨7,195,.normal,cs,L2,eZ⟩ (ve 7 29) [] [(0,w0),(5,w5),(7,w7),(10,Cu),(15,P3),(16,goInt 0),(17,sv g si.length cap),(18,goInt 0)] ([.row 3 1 g si.length cap (si.map goInt)]++T):=by
 refine ji (ι:=Nat×Nat) (λi=>si.length-i.1) (λi=>[(0,w0),(5,w5),(7,w7),(10,Cu),(15,P3),(16,goInt i.2),(17,sv g si.length cap),(18,goInt i.1)]) (λ_=>[.row 3 1 g si.length cap (si.map goInt)]++T) (λi=>i.1≤si.length∧i.2=cnt (λv:Int=>v !=-1) (si.take i.1)) (0,0) ⟨Nat.zero_le _,rfl⟩ ?_;rintro⟨i,n⟩ ⟨l,a⟩ e;simp only at l a e;by_cases aC:i<si.length
 ·obtain⟨v,j⟩:∃v,si[i]?=some v:=⟨_,List.getElem?_eq_getElem aC⟩
  have h:(si.map goInt)[i*1]?=some (goInt v):=by rw[Nat.mul_one,List.getElem?_map,j];rfl
  have f:=ahf (λv:Int=>v !=-1) j;have d:=QN (λv:Int=>v !=-1) (si.take i);rw[List.length_take]at d;refine lJ 0 g si.length cap ah λc k _=>?_;subst k;refine vw [(0,w0),(5,w5),(7,w7),(10,Cu),(15,P3),(16,goInt n),(17,sv (some c) si.length cap),(18,goInt i)] ?_;refine cF _ _ ?_;by_cases b:v=-1
  ·refine av [fu i si.length,iX 55 1 c cap aC,rr 0 h,po v (-1) b,aS i,.g,.x] (bE ?_)
   exact cq (e (i+1,n) (by simp only;omega) ⟨aC,by simp only;rw[f,a];simp[b]⟩)
  ·refine av [fu i si.length,iX 55 1 c cap aC,rr 0 h,nqT v (-1) b,aS n,aS i,.g,.x] (bE ?_)
   exact cq (e (i+1,n+1) (by simp only;omega) ⟨aC,by simp only;rw[f,a];simp[b]⟩)
 ·have m:i=si.length:=by omega
  subst m;rw[List.take_length]at a;subst a;exact hT
def Ld(m:Mo)(p:Nat):Nat:=if p=2 then 0 else(m.sites.length+m.aM.length+1-m.at_)+(1-p)*(m.sites.length+m.aM.length+1)
theorem arz{r:Mo}{p:Nat}(c:m.Ok)(o:m.Set)(i:m.fE=Y)(n:p<=1)(h:Pass r p m):Ld m.da.1 (if m.da.2.1 then p+1 else p)+1=Ld m p:=by
 obtain⟨_,q,j,k,b⟩:=abZ c o i n h;have s:=c.at_;have f:=q.si.trans h.si.symm;have g:=q.len.trans h.len.symm;unfold Ld;rw[f,g];cases ho:m.da.2.1 with
 |true=>
  have a:=j ho;have l:=b.1 ho;rw[a];have d:p=0\/p=1:=by omega
  rcases d with rfl|rfl
  ·simp;omega
  ·simp;omega
 |false=>
  have a:=k ho;have l:m.at_≠m.sites.length+m.aM.length:=λe=>by rw[b.2 e]at ho;cases ho
  rw[a];simp only[hZ,if_false,show¬p=2 by omega];generalize (1-p)*(m.sites.length+m.aM.length+1)=X;omega
theorem air  {ex:List Nat}  (hA:rj S ex A) {cs:List Frame} {L2:List En} {eZ:Frame→Hp→Prop} (w0 w5 Cu P4:Value) (m0 m1:Mo) (s0:Nat) (v0:Value) (σ0:Sg) (a0:Gc) (b0 c d:Nat) (h0:kN m0 s0 v0 m1 σ0 a0)
  (hT:∀(m:Mo)(σ:Sg)(a:Gc)(b k:Nat),kN m0 s0 v0 m σ a→Pass m1 2 m→k<100→Rs Sv ⟨7,195,.normal,cs,L2,eZ⟩ (ve 7 37) [] [(0,w0),(5,w5),(7,pt s0),(10,Cu),(15,.bool true),(16,P4),(20,goInt 2),(21,goInt k)] ([]++(.ro S ex::fC A σ a b c d))):
  Rs Sv ⟨7,195,.normal,cs,L2,eZ⟩ (ve 7 37) [] [(0,w0),(5,w5),(7,pt s0),(10,Cu),(15,.bool true),(16,P4),(20,goInt 0),(21,goInt 0)] ([]++(.ro S ex::fC A σ0 a0 b0 c d)):=by
 refine ji (ι:=Nat×Nat×Mo×Sg×Gc×Nat) (λi=>100-i.1) (λi=>[(0,w0),(5,w5),(7,pt s0),(10,Cu),(15,.bool true),(16,P4),(20,goInt i.2.1),(21,goInt i.1)]) (λi=>[]++(.ro S ex::fC A i.2.2.2.1 i.2.2.2.2.1 i.2.2.2.2.2 c d)) (λi=>i.2.1≤2∧kN m0 s0 v0 i.2.2.1 i.2.2.2.1 i.2.2.2.2.1∧Pass m1 i.2.1 i.2.2.1∧i.1+Ld i.2.2.1 i.2.1≤60) (0,0,m1,σ0,a0,b0) ⟨Nat.zero_le _,h0,arA m1,by
  have x:=h0.ok.k;have D:=h0.ok.s;simp only[Ld];simp;omega⟩ ?_
 rintro⟨k,p,m,σ,a,b⟩ ⟨B,e,q,x⟩ v;simp only at B e q x v;by_cases z:p=2
 ·subst z
  exact hT m σ a b k e q ah
 ·obtain⟨C,s,n⟩:=e.w
  obtain⟨y,f,_,_,_⟩:=abZ n.ok n.st e.st ah q;have o:=arz n.ok n.st e.st ah q;have j:=UK hA e.ok e.s a b;rw[e.x,y]at j;refine vw [(0,w0),(5,w5),(7,pt s0),(10,Cu),(15,.bool true),(16,P4),(20,goInt p),(21,goInt k)] ?_;refine cF _ _ (av [fu k 100,fu p 2] (bE (cM (.ro S ex::fC A σ a b c d) ?_)));cases ho:m.da.2.1 with
  |true=>
   rw[ho]at j f o;simp only[if_true]at f o;refine im (bQ S ex A++(gE a b::σ.all)) [hE (.chan none) c d] j (by unfold fC;rw[l6];exact cx) ?_;rintro _ _ ⟨l,g,h,rfl,w,r,t,rfl⟩;have u:=e.da w (r.trans e.x.symm) t;refine du (L':=[]++(.ro S ex::fC A l g h c d)) (by unfold fC;rw[l6];exact cx) (cF _ _ (av [aS p,kT 0 0 rfl,aS k,.g,.x] (bE ?_)));exact cq (v (k+1,p+1,m.da.1,l,g,h) (by simp only;omega) ⟨by simp only;omega,u,f,by simp only;omega⟩)
  |false=>
   rw[ho]at j f o;simp only[Bool.false_eq_true,if_false]at f o;refine im (bQ S ex A++(gE a b::σ.all)) [hE (.chan none) c d] j (by unfold fC;rw[l6];exact cx) ?_;rintro _ _ ⟨l,g,h,rfl,w,r,t,rfl⟩;have u:=e.da w (r.trans e.x.symm) t;refine du (L':=[]++(.ro S ex::fC A l g h c d)) (by unfold fC;rw[l6];exact cx) (cF _ _ (av [kT 0 0 rfl,aS k,.g,.x] (bE ?_)));exact cq (v (k+1,p,m.da.1,l,g,h) (by simp only;omega) ⟨by simp only;omega,u,f,by simp only;omega⟩)
theorem ais  {ex:List Nat}  {cs:List Frame} {L2:List En} {eZ:Frame→Hp→Prop} (w0:Value) (keys busy:Nat) (m0 m:Mo) (s0:Nat) (v0:Value) (σ:Sg) (a:Gc) (b c d:Nat) (hw:kN m0 s0 v0 m σ a) (aAA:m.aM.length=keys) (fD:busy=0→∀(k:Nat)l,m.aM[k]?=some l→short l=true)
  (hT:∀k:Nat,busy≠0∨k=keys→Rs Sv ⟨7,195,.normal,cs,L2,eZ⟩ (ve 7 45) [] [(0,w0),(5,goInt keys),(7,pt s0),(15,.bool true),(16,goInt busy),(24,goInt k)] ([]++(.ro S ex::fC A σ a b c d))):
  Rs Sv ⟨7,195,.normal,cs,L2,eZ⟩ (ve 7 45) [] [(0,w0),(5,goInt keys),(7,pt s0),(15,.bool true),(16,goInt busy),(24,goInt 0)] ([]++(.ro S ex::fC A σ a b c d)):=by
 have p:=hw.ok.k;refine ji (ι:=Nat) (λk=>keys-k) (λk=>[(0,w0),(5,goInt keys),(7,pt s0),(15,.bool true),(16,goInt busy),(24,goInt k)]) (λ_=>[]++(.ro S ex::fC A σ a b c d)) (λk=>k≤keys) 0 (Nat.zero_le _) ?_;intro k B u;by_cases h:busy=0
 ·by_cases aC:k<keys
  ·subst h
   obtain⟨l,i⟩:∃l,m.aM[k]?=some l:=⟨_,List.getElem?_eq_getElem ah⟩;have j:=fD rfl k l i;have f:l=[]∨∃v,l=[v]∧v.gone=false:=by
    cases l with
    |nil=>exact .inl rfl
    |cons v l=>
     cases l with
     |nil=>exact .inr ⟨v,rfl,by simpa[short]using j⟩
     |cons x l=>simp[short]at j
   have r:=arZ hw i (by rcases f with rfl|⟨v,rfl,_⟩<;>simp);refine cF _ _ (av [fu k keys,kT (0:Nat) 0] (bE (cM (.ro S ex::fC A σ a b c d) ?_)));refine im σ.all (.ro S ex::(nR A++[gE a b,hE (.chan none) c d])) r (by unfold fC;exact cx) ?_;rintro _ _ ⟨g,e,rfl,rfl⟩;refine du (L':=[vR g l.length e l]++(.ro S ex::fC A σ a b c d)) (by unfold fC;exact cx) (cF _ _ ?_);have o:=u (k+1) ah aC;rcases f with rfl|⟨v,rfl,n⟩
   ·refine av [ER (0:Nat) 1,ie (0:Nat) 1,aS k,.g,.x] (ey [0] (bE ?_))
    exact cq o
   ·obtain⟨w,z,y⟩:=v
    simp only at n;subst n;have t:(([⟨w,false,y⟩]:List aZ).flatMap aZ.cells)[0*3+1]?=some (.bool false):=rfl;refine lJ 0 g 1 e aT λq s _=>?_;subst s;refine av [ER (1:Nat) 1,kT (1:Nat) 1,ix 59 3 q 1 e 0 0 ⟨rfl,by decide⟩,rr 0 t,aS k,.g,.x] (ey [0] (bE ?_));exact cq o
  ·exact hT k (.inr ah)
 ·exact hT k (.inl h)
theorem afB(a:m.Ok)(o:Mc):(m.act o).aM.length=m.aM.length:=by
 cases o with
 |pick n=>exact F1 n (λr=>r.1.aM.length=m.aM.length) (λ_=>rfl) (λ_ _=>rfl) λi c _ _ b=>(LK a (a.qv b) (a.me i c b).2.2).k
 |bt l=>
  show(m.bt l).1.aM.length=_;unfold Mo.bt
  repeat' split
  all_goals rfl
 |da=>
  show m.da.1.aM.length=_;unfold Mo.da
  repeat' split
  all_goals simp
theorem auc(l:ae Mc):∀C s,sf m C s->(m.run l).aM.length=m.aM.length:=by
 induction l generalizing m with
 |nil=>intro _ _ _;rfl
 |cons o l c=>
  intro C s h;obtain⟨a,d,b⟩:=azT h o;exact(c a d b).trans (afB h.ok o)
theorem ahg{l:ae Int}(h:cnt (λv:Int=>v !=-1) l=0):∀v∈l,v=-1:=λv a=>by
 have:=zC h;rw[List.filter_eq_nil_iff]at this;have:=this v a;simpa using this
theorem aoX  {ex:List Nat}  (hA:rj S ex A) (ad:Option Addr) (os:List iY) (cap:Nat) (hs:zQ S ex [] ad os) (a:Gc) (b c d:Nat) (ha:a.v=goInt 0):Fl Sv 7 [.slice ad os.length cap].toArray (lN S ex A a b c d) (KS S ex A):=by
 have bJ:=adb ad os cap hs;obtain⟨⟨K,J,BG,_,_,R3⟩,cy,H⟩:=hs;obtain⟨B,L,G,hb⟩:∃B L G,0<os.length→S[K]?=some (.cells B L G)∧F8 B J os∧K∉ex∧K≠8∧K≠10:=by
  rcases Nat.eq_zero_or_pos os.length with X|X
  ·exact⟨#[],0,(0,0),λh=>absurd h ah⟩
  ·obtain⟨B,L,G,h⟩:=R3 rfl X
   exact⟨B,L,G,λ_=>h⟩
 obtain⟨o,rD,hK⟩:=abx os;obtain⟨rF,Kk,_,oF,kW⟩:=P7 rD;refine Fl.of 195 λcs L2=>av [] (lW [] _ (TP hA a b c d ha) ?_);rintro _ _ ⟨O,Q,V,W,rfl,iF,rfl⟩;have hN:=UJ (S:=S) (ex:=ex) (A:=A) (gS os).1 (gS os).2.1 (gS os).2.2 O Q V W;rw[rD]at hN;refine du (L':=[.ro S ex]++(nR A++[gE O Q,hE (.chan none) V W])) (.refl _) (cF _ _ (av [] (eR [0] bJ ?_)));rintro _ _ ⟨rfl,rfl⟩;refine av [] (bE (cM (bQ S ex A++[gE O Q,hE (.chan none) V W]) ?_));refine im (bQ S ex A++[gE O Q,hE (.chan none) V W]) [] hN (by rw[List.append_nil]) ?_;rintro _ _ ⟨σ,a2,b2,c2,d2,rfl,hS,BF,rfl⟩;refine du (L':=[]++([.ro S ex]++fC A σ a2 b2 c2 d2)) (by unfold fC;rw[l6,List.append_nil];exact cx) (cF _ _ (av [.d,po 0 0 rfl,.g,.x] (bE ?_)));refine cq (aip hA ad K J os cap BG B L G hb cy H o σ.x.s (gS os).2.1 (.iface 3 (goInt 0)) ⟨0,σ,a2,b2,c2,d2,0,0,[]⟩ ⟨Nat.zero_le _,⟨⟨_,_,rF⟩,hS,rfl,oF,by rw[BF,iF]⟩,by simp only[Mo.run,List.foldl_nil,kW];rfl,by simp only[Mo.run,List.foldl_nil,Kk];rfl⟩ ?_);rintro⟨i,σ3,P,R,c3,e,n,op,l⟩ ⟨_,w,hn,aO⟩ hi;simp only at w hn aO hi;subst hi;have lq:=ac2 hA (m0:=o.run l) (σ0:=σ3) (a0:=P) (b0:=R) ⟨w.w,w.s,rfl,w.st,rfl⟩ n hn;rw[w.x]at lq;refine vw [(0,.slice ad os.length cap),(5,goInt (gS os).2.1),(7,pt σ.x.s),(9,goInt n),(10,goInt op),(11,goInt os.length)] ?_;refine du (L':=[]++([.ro S ex]++fC A σ3 P R c3 e)) (.refl _) (cF _ _ (av [gi os.length os.length] (bE (cM ([.ro S ex]++fC A σ3 P R c3 e) ?_))));refine im (bQ S ex A++(gE P R::σ3.all)) [hE (.chan none) c3 e] lq (by unfold fC;rw[l6];exact cx) ?_;rintro _ _ ⟨p,j,r,q,rfl,g,N,rfl⟩;rw[←Ml]at g N;have g:kN o σ.x.s (.iface 3 (goInt 0)) (o.run (l++q.map Mc.pick)) p j:=⟨g.w,g.s,g.x,g.st,g.a.trans w.a⟩;have iu:(o.run (l++q.map Mc.pick)).bL=(o.run l).bL:=by
  obtain⟨C,s,u⟩:=w.w;rw[Ml,acF _ q C s u]
 have YZ:(o.run (l++q.map Mc.pick)).aM.length=(gS os).2.1:=(auc _ _ _ rF).trans hK;generalize o.run (l++q.map Mc.pick)=m at g N iu YZ;obtain⟨_,_,u⟩:=g.w;have Kc:=arw u.ok u.fit N;have rB:=arv u.fit u.st N;rw[show m.be.map (·.pr)=m.bL from rfl,iu,aO]at rB;have bY:=u.ok.s;have bx:=QN (λv:Int=>v !=-1) m.sites;refine du (L':=[]++(.ro S ex::fC A p j r c3 e)) (by unfold fC;rw[l6];exact cx) (cF _ _ (av [] (bE (cM (.ro S ex::fC A p j r c3 e) ?_))));refine im p.all (.ro S ex::(nR A++[gE j r,hE (.chan none) c3 e])) (ar3 g) (by unfold fC;exact cx) ?_;rintro _ _ ⟨g1,k1,rfl,rfl⟩;refine du (L':=[]++([.row 3 1 g1 m.sites.length k1 (m.sites.map goInt)]++(.ro S ex::fC A p j r c3 e))) (by unfold fC;exact cx) (cF _ _ (av [.g,.x] (bE ?_)));refine cq (aiq (T:=.ro S ex::fC A p j r c3 e) (.slice ad os.length cap) (goInt (gS os).2.1) (pt σ.x.s) (goInt op) (.bool true) g1 k1 m.sites ah ?_);generalize β:cnt (λv:Int=>v !=-1) m.sites=f at rB bx;refine du (L':=[.row 3 1 g1 m.sites.length k1 (m.sites.map goInt)]++(.ro S ex::fC A p j r c3 e)) (.refl _) (cF _ _ (av [gi m.sites.length m.sites.length] (ey [0] (bE (cM (.ro S ex::fC A p j r c3 e) ?_)))));refine im p.all (.ro S ex::(nR A++[gE j r,hE (.chan none) c3 e])) (ar1 g Kc) (by unfold fC;exact cx) ?_;rintro _ _ ⟨g2,k2,rfl,rfl⟩;refine du (L':=[.row 116 3 g2 0 k2 []]++(.ro S ex::fC A p j r c3 e)) (by unfold fC;exact cx) (cF _ _ (av [KU f op,kT (0:Nat) 0,.g,.x] (ey [0] (bE ?_))));refine cq (air (S:=S) (ex:=ex) (A:=A) hA (.slice ad os.length cap) (goInt (gS os).2.1) (goInt op) (goInt f) o m σ.x.s (.iface 3 (goInt 0)) p j r c3 e g ?_);intro m5 M y z k5 t S7 J8;refine cF _ _ (av [fu k5 100,gi (2:Nat) 2,kT (2:Nat) 2,.g,.x] (bE ?_));refine cq (ais (S:=S) (ex:=ex) (A:=A) (.slice ad os.length cap) (gS os).2.1 f o m5 σ.x.s (.iface 3 (goInt 0)) M y z c3 e t (S7.len.trans YZ) (λX k l hl=>?_) ?_)
 ·refine S7.sh aT ?_ k l (.inl rfl) hl
  rw[S7.si];exact ahg (by rw[β];exact X)
 ·intro k hk
  have aF:=O4 t.ok t.s y z (λ_=>⟨_,t.a⟩);rw[t.x]at aF;by_cases aC:k<(gS os).2.1
  ·have qJ:f≠0:=by omega
   refine cF _ _ (av [fu k (gS os).2.1,ie f 0] (bE (cM (.ro S ex::fC A M y z c3 e) ?_)));refine im (gE y z::M.all) (.ro S ex::(nR A++[hE (.chan none) c3 e])) aF (by unfold fC;exact cx) ?_;rintro _ _ ⟨σ9,D,E,rfl,_,_,x,rfl⟩;rw[t.st,if_neg aT,t.a]at x;simp only[Value.iface.injEq,true_and]at x;refine du (L':=σ9.all++([]++lN S ex A D E c3 e)) cx (zK _ (cF _ _ (av [] (bE ?_))));exact ez [.bool true] _ ⟨rfl,D,E,c3,e,x.symm,rfl⟩
  ·refine cF _ _ (av [gi k (gS os).2.1] (bE (cM (.ro S ex::fC A M y z c3 e) ?_)))
   refine im (gE y z::M.all) (.ro S ex::(nR A++[hE (.chan none) c3 e])) aF (by unfold fC;exact cx) ?_;rintro _ _ ⟨σ9,D,E,rfl,_,_,x,rfl⟩;rw[t.st,if_neg aT,t.a]at x;simp only[Value.iface.injEq,true_and]at x;refine du (L':=σ9.all++([]++lN S ex A D E c3 e)) cx (zK _ (cF _ _ (av [] (bE ?_))));exact ez [.bool true] _ ⟨rfl,D,E,c3,e,x.symm,rfl⟩
theorem ait:Ms 7 Tryz.f7 Rows.endsSpec where
 at_:=Tryz.func7
 params:=by kernel_rfl
 results:=by kernel_rfl
 Pj:=by kernel_rfl
 vars:=rfl
 Pq:=λ_ _=>rfl
 out:=by kernel_rfl
 body:=by kernel_rfl
 law:=λ_ _ _ c b e a d=>aoX c b e a d ⟨ai 0,0⟩ 0 0 0 F
theorem ends_row:Rows.EndsSaid:=OpenClaim.holds_of_wide_leaving_time 7 Tryz.f7 rfl rfl rfl rfl rfl rfl rfl ⟨rfl,rfl,rfl,rfl,rfl⟩ rfl rfl rfl rfl rfl al Tryz.func7 al
                                 (of_decide_eq_true al) (by unfold Func.isWrapper;rw[if_neg (of_decide_eq_false al)];exact⟨rfl,rfl⟩)
                                 (λc a H b _ F=>TL ait c a H b F (TM c al al al al al))
theorem ends_card:Rows.EndsCardSaid:=VY [.handle,.sentinel,.sentinel,.sentinel,.sentinel,.sentinel] (U,"73fab06dd345ee8f2da4e3e1e123de50e4f4795a1c3bbbdcbdd05624b8a7bc81") U
                                      ends_row al ends_row_tie F ⟨F,F⟩ al F
                                      (λf c b a=>TW Tryz.func7 al (ee ((show Tryz.prog.funcNamed "mvstore/mvstorelaw.Ends"=Z 7 by kernel_rfl).symm.trans b)).symm a)
                                      al
end
end Go.Proofs.YtgahemdblfapeaaGreatDoor
