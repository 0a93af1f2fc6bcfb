/- Helper lemmas, part 2: what the steps of the program do in the model; each holds under its own hypotheses. -/
import Derived.Test.YtgahemdblfapeaaGreatDoorA01
set_option maxRecDepth 100000
set_option maxHeartbeats 4000000
set_option linter.all false
namespace Go.Proofs.YtgahemdblfapeaaGreatDoor
open Go.Conc
open _root_.Array renaming ext_getElem?→yI,getD_eq_getD_getElem?→nk,getElem?_eq_getElem→wZ,getElem?_eq_none_iff→Aa,getElem?_eq_some_iff→gG,getElem?_modify→Fs,getElem?_push→Ft,getElem?_setIfInBounds→tJ,getElem?_setIfInBounds_ne→ie,replicate→pG,size_setIfInBounds→pH
open _root_.Bool renaming and_eq_true→ig,false→Y,false_eq_true→kg,false_ne_true→jQ,not_eq_true'→Fu,true→U
open Go renaming Addr→aR,CallKind→dD,Code→bl,Deferred→bV,Event→cX,Frame→az,Func→dF,FuncId→bA,Goroutine→aH,Item→aK,Machine→fg,Oper→bh,Operand→gU,Program→aA,Trace→dJ,TypeId→aJ,Value→ag,World→au,callFunc→gz,commResult→qp,deafBehind→gW,doReturn→rh,eqGuard→kX,execOp→cu,getObj→jZ,goInt→ah,runN→di,runNT→iz,stepG→aG,undef→aC,unwind→lU
open Go.Conc renaming heap_setChan_ne→mM,heap_setChan_self→oE,mem_seen→BF,runNT_then→kG,runT_crowd_go→vJ,served→jz,woken→eM
open Go.Deferred renaming ofValue→Db
open Go.Frame renaming enter→bG,eval→bJ,finish→jd
open Go.GStep renaming after→kF
open Go.Instr renaming fieldAt→sH,loadAt→sI
open Go.MemAct renaming ofEvent→gy,touch?→lS
open Go.MemOp renaming ofEvents→db
open Go.Next renaming value→lT
open Go.Proofs.Tryz renaming prog→ak
open Go.Region renaming wanted→vH
open Go.Result renaming andThen→eh
open Go.Sem renaming run→bx,runT→nt,runT_eq→jR,runT_fst→xe,run_bind→oD,run_bind'→yQ
open Go.Stepped.next renaming injEq→xf
open Go.World renaming cell?→fR,frozen?→pN,shape?→fD
open Go.stepG renaming apply→ik,exec→bE
open _root_.List renaming all_eq_true→BI,getElem?_map→fq,getElem?_take→BJ,map_cons→ft,mem_cons→bQ,mem_toArray→jA,not_mem_nil→gk,range→oz
open _root_.Nat renaming add_assoc→yO,le_of_ble_eq_true→yP,le_refl→df,le_succ→pL,le_trans→sK,lt_of_lt_of_le→ayS,zero_add→qn
open _root_.Option renaming bind_eq_some_iff→m4,bind_some→vG,getD_some→pM,isSome_iff_exists→Ae,map_eq_some_iff→gV,map_some→iy,none→I,some→Z
open _root_.Option.some renaming injEq→ij
open _root_.Prod.mk renaming injEq→fK
section
variable {b m r:Nat}{s:Sem Next}{d:Tmp}{α:Type}{g:aH}{t:aJ}{a:aR}{c:af ag}{w:au}{f:bA}
section
open Go.Conc (G)
section
variable {P:aA}{fs:af dF}{V:Loc->Prop}{Spec:Wh->ae aK->ae aK->bl->bl->Prop}{E:az->ae az->az->ae az->Prop}{R:ag->au->Prop}
variable {T:Bool}{X S:ae az}{w W:au}
theorem aqW(w)(t b)(d a):re (re w t d) b a=re w b a:=rfl
theorem aqX(w):re w w.tape w.drawn=w:=rfl
theorem Rel.re{fx}(h:Rel fx V w W)(t)(d):Rel fx V (re w t d) (re W t d):=⟨h.size,F,F,h.os,h.output,h.obj,h.mT,h.pd⟩
theorem fE.FY{a c}(h:fE P Spec a c):sO P a:=by
 obtain⟨t,rfl,k,j,n⟩:=h;obtain⟨m,g,i,b,f,d,o⟩:=c;refine⟨j.defers,?_,λl e=>?_⟩
 ·
  cases k with
  |nil=>rfl
  |cons h _=>cases h<;>rfl
 ·simp_all
structure Dl(P L:aA)(E:az->ae az->az->ae az->Prop):Prop where
 mode:∀a' l' a l,E a' l' a l->a'.mode=.run/\a.mode=.run
 below:∀a' l' a l,E a' l' a l->Below P L (a'::l')
 ne:∀a' l' a l,E a' l' a l->l'≠[]
theorem mO.belows(hE:Dl P (Lo P fs) E){a c}(h:mO P Spec (gQ (Lo P fs)) E a X c S):Below P (Lo P fs) X:=by
 induction h with
 |BZ=>exact .last
 |under h d e=>exact .cons d.fr.FY e
 |bound h f b=>exact hE.below _ _ _ _ b
theorem mO.ne{a b}(h:mO P Spec (gQ (Lo P fs)) E a X b S):X≠[]:=by cases h<;>simp
theorem mO.last(hE:Dl P (Lo P fs) E){a d c}(h:mO P Spec (gQ (Lo P fs)) E a [c] d S):S=[]:=by
 cases h with
 |BZ=>rfl
 |under h e=>exact absurd F e.ne
 |bound h f b=>exact absurd F (hE.ne _ _ _ _ b)
theorem sS.tk(h:sS (bN P) w):iY P w:=λb c a=>h b _ a
theorem amO{p}{k a}{j}{m}{t}{d}{τ}{δ}(h:Am p k X (re w t d) a j m)(s:∀i q,t (d+i) q=τ (δ+i) q):∃n c,m=re c t (d+n)/\UE p ⟨k,X,re w τ δ⟩ ⟨a,j,re c τ (δ+n)⟩ 1 n/\∃es,aG p U (G k X) (re w τ δ)=dO a j (re c τ (δ+n)) es:=by
 obtain⟨n,c,o,r⟩:=h;have g:∀b f,(∀i,i<n->∀q,b (f+i) q=τ (δ+i) q)->∃es,aG p U (G k X) (re w b f)=dO a j (re c b (f+n)) es:=λb f l=>by
  obtain⟨es,e⟩:=r b _ λi u q=>by rw[l i u q];exact(s i q).symm
  exact⟨es,e⟩
 refine⟨n,c,o,λb f l=>?_,g _ _ λ_ _ _=>rfl⟩;obtain⟨es,e⟩:=g _ _ l;have:=eY e;simp only[di,il.on,aqW];rw[this]
theorem apo(L:OA P fs Spec V)(hE:Dl P (Lo P fs) E)(O:HV P (Lo P fs) R){a p}(j:mO P Spec (gQ (Lo P fs)) E a X p S)(hr:Rel (bN P) V w W)
  (ju:¬J8 Spec a p)(z:¬over p S)(hg:acW (Lo P fs) R ⟨a,X,w⟩):
  ∃B A f n,UE (Lo P fs) ⟨a,X,w⟩ ⟨B,A,f⟩ 1 n/\∃k ir y us,aG P T (G p S) W=dO k ir y us/\FQ P fs Spec (gQ (Lo P fs)) E B A k ir/\Rel (bN P) V f y/\iS w W f y/\∀e∈us,qt V f.heap.size e:=by
 obtain⟨t,d,kM,K,m',c,r⟩:=hg;simp only[il.on]at kM c;have M:=aaF (main:=T) L hE.mode j (hr.re t d) ju z;cases K with
 |zero=>
  exfalso;simp only[di,xf]at c;subst c;obtain⟨C,w2,v,he,s,_⟩:=r;have jM:a=C:=by
   have:=congrArg (λm:fg=>(m.gs[0]?).map (·.frame)) he;simpa[lone]using this
  have nY:X=[gQ (Lo P fs)]:=by
   have:=congrArg (λm:fg=>(m.gs[0]?).map (·.callers)) he;simpa[lone]using this
  subst jM nY;refine z ⟨j.last hE,?_,?_⟩
  ·obtain⟨x,rfl,_⟩:=j.fr;exact s.1
  ·obtain⟨x,rfl,_⟩:=j.fr;exact s.2.1
 |succ K=>
  simp only[di]at c;rcases M.1 with⟨B,A,f,N,e⟩|⟨o,f,N,e⟩|⟨g,f,N,e,Q⟩
  ·have D:=eY e
   rw[D]at c;rcases M.2 _ _ _ _ e with⟨qz,C,vs,u,rfl,J,rfl,H⟩|⟨s,_⟩
   ·exact absurd r (OO O _ _ _ _ _ (.top (u.FY.raise J) (raise_mode .. ) (j.belows hE)) H.tk c)
   ·obtain⟨n,w0,rfl,hL,Ir,l⟩:=amO s (λi q=>kM i q)
    rw[aqX]at hL l;have GC:=aaF (main:=T) L hE.mode j hr ju z;rcases GC.2 _ _ _ _ l with⟨qz,C,vs,u,rfl,J,rfl,H⟩|⟨_,ME⟩
    ·exact absurd r (OO O _ _ _ (YtgahemdblfapeaaGreatDoor.re w0 t (d+n)) _ (.top (u.FY.raise J) (raise_mode .. ) (j.belows hE)) (λb ds hb=>H.tk b _ hb) c)
    ·grind
  ·exfalso
   obtain⟨o2,w2,l⟩:=zX (by rw[e];rfl);rw[l]at c;cases c
  ·exfalso
   have I1:g.status≠.finished:=by
    rcases Q with⟨h,_⟩|⟨h,_⟩|⟨h,_⟩<;>rw[h]<;>simp
   have D:step (Lo P fs) (lone a X (re w t d))=.next (lu g f):=Kb rfl e I1
   rw[D]at c;exact O4 Q ⟨K,m',c,r⟩
end
end
section
open Go.Conc (G scase rcase)
section
variable {P:aA}{fs:af dF}{L:aA}{R:ag->au->Prop}{x y z:il}{a:Nat->Question->Nat}
def eV(L:aA)(x y:il)(k:Nat):Prop:=∀t d,di L k (x.on t d)=.next (y.on t d)
theorem eV.refl:eV L x x 0:=λ_ _=>rfl
theorem eV.trans{k m:Nat}(h:eV L x y k)(b:eV L y z m):eV L x z (k+m):=λt d=>by rw[vn (h t d)];exact b t d
theorem eV.vz{k:Nat}(h:eV L x y k):kj L x y k 0 a:=λt d _=>h t d
theorem kj.trans{k m n l:Nat}{b:Nat->Question->Nat}(h:kj L x y k n a)(f:kj L y z m l b):kj L x z (k+m) (n+l) (λi=>if i<n then a i else b (i-n)):=λt d e=>by
 rw[vn (h t d λi c q=>by rw[e i ai];simp[c])]
 have:=f t (d+n) λi c q=>by rw[yO,e (n+i) ai];have g:¬(n+i<n):=by omega
                            simp[g]
 rw[yO]at this;exact this
def Good(L:aA)(R:ag->au->Prop)(x:il):Prop:=∀a,KB L R x a
theorem Ns{m m1:fg}{k:Nat}(p:Reach L R m)(h:di L k m=.next m1)(l:∀fr w,m1≠lone fr [] w):Reach L R m1:=by
 obtain⟨n,q,c,d⟩:=p;have j:k<=n:=by
  refine Nat.le_of_not_lt λaE=>?_;obtain⟨fr,w,o,r,e,f⟩:=d.ends;by_cases i:k=n+1
  ·rw[i,vn c,e]at h
   exact l fr w (Stepped.next.inj h).symm
  ·obtain⟨b,g⟩:∃b,k=n+2+b:=⟨k-(n+2),by omega⟩
   rw[g,runN_ended (o:=o) (w:=r)]at h
   ·cases h
   ·rw[vn c,f]
 obtain⟨b,rfl⟩:∃b,n=k+b:=⟨n-k,by omega⟩;rw[vn h]at c;exact⟨b,q,c,d⟩
theorem Zu(b:y.cs≠[]){t:Nat->Question->Nat}{d:Nat}(fr:az)(w:au):y.on t d≠lone fr [] w:=λe=>b (by
 have:=congrArg (λm:fg=>(m.gs[0]?).map (·.callers)) e;simpa[il.on,lone]using this)
theorem Good.mF(b:Good L R x){k:Nat}(h:eV L x y k)(f:y.cs≠[]):Good L R y:=λa=>by
 obtain⟨t,d,e,c⟩:=b a;exact⟨t,d,e,Ns c (h t d) (Zu f)⟩
theorem Good.vz(e:Good L R x){k n:Nat}(h:kj L x y k n a)(l:y.cs≠[]):Good L R y:=λb=>by
 obtain⟨t,d,c,g⟩:=e (λi=>if i<n then a i else b (i-n));refine⟨t,d+n,λi q=>?_,Ns g (h t d λi f q=>by rw[c];simp[f]) (Zu l)⟩;rw[yO,c];have j:¬(n+i<n):=by omega
 simp[j]
theorem MU:∀(k:Nat)(fr:az)(cs:ae az)(w:au),∃m,eV L ⟨fr,cs,w⟩ ⟨(aN L k (G fr cs)).frame,(aN L k (G fr cs)).callers,w⟩ m/\G (aN L k (G fr cs)).frame (aN L k (G fr cs)).callers=aN L k (G fr cs):=by
 intro k;induction k with
 |zero=>intro fr cs w;exact⟨0,eV.refl,F⟩
 |succ k i=>
  intro fr cs w;unfold aN;cases b:om L (G fr cs)with
  |none=>exact⟨0,eV.refl,F⟩
  |some e=>
   obtain⟨t,c,rfl⟩:∃t c,e=G t c:=aqv b;obtain⟨m,f,g⟩:=i t c w;refine⟨1+m,eV.trans (y:=⟨t,c,w⟩) (λτ d=>?_) f,g⟩;have:=eY (L:=L) (fr:=fr) (cs:=cs) (t:=t) (c:=c) (w:=re w τ d) (w':=re w τ d) (es:=#[]) ((CO (main:=U) b).2 _);simp only[il.on,di,this]
where aqv {fr:az} {cs:ae az} {e:aH} (b:om L (G fr cs)=Z e):∃t c,e=G t c:=by
       have j:=(CO (main:=U) b).2 default;unfold om at b;split at b
       ·dsimp only at b
        repeat' split at b
        all_goals first|(cases b;done)|(cases b;exact⟨_,_,rfl⟩)|skip
        all_goals first|(obtain⟨x,l,h⟩:=m4.1 b;cases h;exact⟨_,_,rfl⟩)
       · repeat' split at b
         all_goals first|(cases b;done)|(cases b;exact⟨_,_,rfl⟩)
       ·cases b
theorem Good.quiet(c:Good L R x)(k:Nat){fr:az}{cs:ae az}(h:aN L k (G x.fr x.cs)=G fr cs)(d:cs≠[]):∃m,eV L x ⟨fr,cs,x.w⟩ m/\Good L R ⟨fr,cs,x.w⟩:=by
 obtain⟨m,b,_⟩:=MU (L:=L) k x.fr x.cs x.w;rw[h]at b;exact⟨m,b,c.mF b d⟩
end
section
variable {P:aA}{fs:af dF}{R:ag->au->Prop}{fr:az}{cs:ae az}{w:au}
theorem YB(A:xq P fs)(W:HV P (Lo P fs) R)(hs:eU (Lo P fs) (G fr cs)=Z s)(ti:sO P fr)(O:Below P (Lo P fs) cs){t:Nat->Question->Nat}{d:Nat}(hg:Reach (Lo P fs) R ((⟨fr,cs,w⟩:il).on t d)){x:Halt}{K:au}(B:s.run (Lo P fs) (re w t d)=.halt x K)(hk:iY P K):False:=by
 obtain⟨n,m',l,u⟩:=hg;obtain⟨p,f,j,i,rest,k,b,c,r,o,e,bC,J,hw,V⟩:=yk hs;cases e;have S:bJ ⟨p,f,.inRegion j (i::rest)::k,b,.run,c,I⟩=bJ ⟨p,f,[],b,.run,c,I⟩:=funext λx=>by cases x<;>rfl
 have step:aG (Lo P fs) U (G ⟨p,f,.inRegion j (i::rest)::k,b,.run,c,I⟩ cs) (re w t d)=ik (Lo P fs) U ⟨p,f,.inRegion j (i::rest)::k,b,.run,c,I⟩ cs I s (re w t d):=by
  simp only[G,aG,bE,J,iy,hw,pM,if_true];unfold stepG.oper;simp only[Frame.oper?,J,S,V]
 have C:=NL (fr':=⟨p,f,.inRegion j (i::rest)::k,b,.run,c,I⟩) (cs':=cs) A B;rw[<-step]at C;cases n with
 |zero=>
  simp only[di,xf]at l;subst l;obtain⟨Q,q,v,X,hl,_⟩:=u;have H:=congrArg (λm:fg=>(m.gs[0]?).map (·.frame.mode)) X;simp only[il.on,lone]at H;have:Q.mode=.run:=by simpa using H.symm
  rw[hl.1]at this;cases this
 |succ n=>
  simp only[di,il.on]at l;rcases C with⟨dn,dg,q,D,e⟩|⟨o2,q,D,e⟩|⟨g,q,D,e,E⟩
  ·rw[eY e]at l
   rw[step]at e;obtain⟨vs,rfl,hv,rfl,rfl⟩:=LZ A B e;exact OO W n _ _ _ _ (.top (ti.raise hv) (raise_mode _ _) O) hk l u
  ·obtain⟨o3,w3,N⟩:=zX (L:=Lo P fs) (fr:=⟨p,f,.inRegion j (i::rest)::k,b,.run,c,I⟩) (cs:=cs) (w:=re w t d) (by rw[e];rfl)
   rw[N]at l;cases l
  ·have M:g.status≠.finished:=by
    rcases E with⟨h,_⟩|⟨h,_⟩|⟨h,_⟩<;>rw[h]<;>simp
   have T:Go.step (Lo P fs) (lone ⟨p,f,.inRegion j (i::rest)::k,b,.run,c,I⟩ cs (re w t d))=.next (lu g q):=Kb (g:=G ⟨p,f,.inRegion j (i::rest)::k,b,.run,c,I⟩ cs) rfl e M
   rw[T]at l;exact O4 E ⟨n,m',l,u⟩
theorem CI(c:xq P fs)(g:HV P (Lo P fs) R)(l:eU (Lo P fs) (G fr cs)=Z s)(m:sO P fr)(f:Below P (Lo P fs) cs)(h:Good (Lo P fs) R ⟨fr,cs,w⟩)(i:∀t d,∃x b,s.run (Lo P fs) (re w t d)=.halt x b/\iY P b):False:=by
 obtain⟨t,d,_,k⟩:=h (λ_ _=>0);obtain⟨x,b,e,j⟩:=i t d;exact YB c g l m f k e j
theorem CJ{L:aA}{n:Next}{g':aH}{w1:au}(D:eU L (G fr cs)=Z s)(B:mg L (G fr cs) n=Z g')(C:∀t d,s.run L (re w t d)=.ok n (re w1 t d)):eV L ⟨fr,cs,w⟩ ⟨g'.frame,g'.callers,w1⟩ 1:=λt d=>by
 have p:s.runT L (re w t d) #[]=(.ok n (re w1 t d),s.events L (re w t d) #[]):=by rw[jR,C]
 obtain⟨j,f,g,i,rest,k,b,c,r,o,e,J,m,E,v⟩:=yk D;cases e;obtain⟨⟨H,q⟩,l,A⟩:=gV.1 B;cases A;have u:bJ ⟨j,f,.inRegion g (i::rest)::k,b,.run,c,I⟩=bJ ⟨j,f,[],b,.run,c,I⟩:=funext λx=>by cases x<;>rfl
 have step:aG L U (G ⟨j,f,.inRegion g (i::rest)::k,b,.run,c,I⟩ cs) (re w t d)=ik L U ⟨j,f,.inRegion g (i::rest)::k,b,.run,c,I⟩ cs I s (re w t d):=by
  simp only[G,aG,bE,m,iy,E,pM,if_true];unfold stepG.oper;simp only[Frame.oper?,m,u,v]
 have h:∃es,aG L U (G ⟨j,f,.inRegion g (i::rest)::k,b,.run,c,I⟩ cs) (re w t d)=dO H q (re w1 t d) es:=by
  rw[step];unfold ik;simp only[if_true,p];cases n<;>simp only[BV,ij,fK,reduceCtorEq]at l<;>obtain⟨rfl,rfl⟩:=l<;>exact⟨_,F⟩
 obtain⟨es,h⟩:=h;simp only[di,il.on];rw[eY h]
theorem Lf{L:aA}{cases:af CommCase}{b:Bool}{shape:CommShape}(q:eU L (G fr cs)=Z s)(p:fQ L s=Z (.comm cases b shape))(w:au):aG L U (G fr cs) w=.comm (G fr cs) cases b shape w #[]:=by
 obtain⟨h,f,g,i,rest,k,c,d,l,o,e,t,j,r,n⟩:=yk q;cases e;have m:bJ ⟨h,f,.inRegion g (i::rest)::k,c,.run,d,I⟩=bJ ⟨h,f,[],c,.run,d,I⟩:=funext λx=>by cases x<;>rfl
 have step:aG L U (G ⟨h,f,.inRegion g (i::rest)::k,c,.run,d,I⟩ cs) w=ik L U ⟨h,f,.inRegion g (i::rest)::k,c,.run,d,I⟩ cs I s w:=by
  simp only[G,aG,bE,j,iy,r,pM,if_true];unfold stepG.oper;simp only[Frame.oper?,j,m,n]
 rw[step];unfold ik;simp only[if_true,Bs p w #[]];simp[Go.Conc.seen_none,kF,G]
theorem JV{L:aA}{R:ag->au->Prop}{fr:az}{cs:ae az}{w:au}(h:Reach L R (lone fr cs w))(j:fr.mode=.run):∃c,step L (lone fr cs w)=.next c/\Reach L R c:=by
 obtain⟨n,k,b,e⟩:=h;cases n with
 |zero=>
  simp only[di,xf]at b;subst b;obtain⟨d,l,v,g,i,_⟩:=e;have f:=congrArg (λm:fg=>(m.gs[0]?).map (·.frame.mode)) g;simp only[lone]at f;have:d.mode=.run:=by
   have:fr.mode=d.mode:=by simpa using f
   rw[<-this];exact j
  rw[i.1]at this;cases this
 |succ n=>
  simp only[di]at b;cases hs:step L (lone fr cs w)with
  |next c=>rw[hs]at b;exact⟨c,F,n,k,b,e⟩
  |ended o l=>rw[hs]at b;cases b
theorem Zv{L:aA}(g:eU L (G fr cs)=Z s):fr.mode=.run:=by
 obtain⟨j,d,h,i,rest,k,b,c,f,o,e,_⟩:=yk g;cases e;rfl
theorem Le{L:aA}{cases:af CommCase}{b:Bool}{shape:CommShape}{w:au}{es:af cX}(h:aG L U (G fr cs) w=.comm g cases b shape w es){o:Outcome}{w2:au}(e:∀c,(communicate L {timers:=#[],alone:=I,slice:=I} c 0 g cases b shape w).1=.ended o w2):step L (lone fr cs w)=.ended o w2:=by
 have d:aG L U {frame:=fr,callers:=cs,status:=.running,dying:=I} w=.comm g cases b shape w es:=h;rw[step,stepT,move_lone];simp[runT,lone,Array.swapAt!,d,e]
theorem Ld{L:aA}{cases:af CommCase}{shape:CommShape}{w:au}{es:af cX}(h:aG L U (G fr cs) w=.comm g cases U shape w es)
  (b:∀c:af aH,(communicate L {timers:=#[],alone:=I,slice:=I} #[{(default:aH)with status:=.finished}] 0 g cases U shape w).1=.next {world:=w,gs:=#[{g with status:=.blocked,offers:=Z (cases,shape)}],rest:={timers:=#[],alone:=I,slice:=I}}):
  step L (lone fr cs w)=.next (lu {g with status:=.blocked,offers:=Z (cases,shape)} w):=by
 have d:aG L U {frame:=fr,callers:=cs,status:=.running,dying:=I} w=.comm g cases U shape w es:=h;have b:=b #[];rw[step,stepT,move_lone];simp[runT,lone,Array.swapAt!,d,b,lu]
theorem RG{L:aA}{v z:ag}{R:ag->au->Prop}(E:eU L (G fr cs)=Z s)(T:fQ L s=Z (.comm #[{chan:=v,send:=I,zero:=z}] U (.recv Y)))(S:Good L R ⟨fr,cs,w⟩):∃c i f j a b tm,v=.chan (Z c)/\w.heap[c]?=Z (.chan i f j a b tm)/\(j=Y->0<f.size/\eV L ⟨fr,cs,w⟩ ⟨fr.finish (f.getD 0 aC),cs,w.setChan c i (f.extract 1 f.size) Y a (b+1) tm⟩ 1):=by
 have l:=Lf E T;obtain⟨t,d,_,B⟩:=S (λ_ _=>0);obtain⟨J,u,D⟩:=JV B (Zv E);have W:=u;by_cases H:∃c i f j a b tm,v=.chan (Z c)/\w.heap[c]?=Z (.chan i f j a b tm)
 ·obtain⟨c,i,f,j,a,b,tm,rfl,A⟩:=H
  refine⟨c,i,f,j,a,b,tm,F,A,λe=>?_⟩;subst e;have C:0<f.size:=by
   refine Nat.pos_of_ne_zero λN=>?_;have p:f=#[]:=Array.eq_empty_of_size_eq_zero N;subst p;have:=Ld (l (re w t d)) (λ_=>by
    have V:(re w t d).heap[c]?=Z (.chan i #[] Y a b tm):=A;simp[communicate,ways,V,partners,waitingAt,timerAhead])
   have k:step L (lone fr cs (re w t d))=.next J:=u
   rw[this]at k;cases k;exact K2 F D
  refine⟨C,λt d=>?_⟩;have:=Go.Conc.step_lone_recv_buf Y (l (re w t d)) (c:=c) (cap:=i) (buf:=f) (closed:=Y) (s:=a) (r:=b) (tm:=tm) A C;simp only[il.on,di];rw[show lone fr cs (re w t d)=Go.Conc.solo (G fr cs) (re w t d)from F,this];rfl
 ·exfalso
  have k:step L (lone fr cs (re w t d))=.next J:=u
  cases v with
  |chan o=>
   cases o with
   |none=>
    have:=Ld (l (re w t d)) (λ_=>by simp[communicate,ways,partners,waitingAt,timerAhead]);rw[this]at k;cases k;exact K2 F D
   |some c=>
    have X:∀i f j a b tm,(re w t d).heap[c]?≠Z (.chan i f j a b tm):=λi f j a b tm h=>H ⟨c,i,f,j,a,b,tm,F,h⟩;have:=Le (l (re w t d)) (o:=.stuck "a communication at a channel whose block is no channel's" ((G fr cs).frame.pos L)) (w2:=re w t d) (λM=>by
     unfold communicate;dsimp only
     rw[if_pos];simp only[List.any_toArray,List.any_cons,List.any_nil,Bool.or_false,Fu])
    rw[this]at k;cases k
  |_=>
   have:=Le (l (re w t d)) (o:=.stuck "a communication at a channel whose block is no channel's" ((G fr cs).frame.pos L)) (w2:=re w t d) (λM=>by simp[communicate]);rw[this]at k;cases k
where K2 {L:aA} {R:ag->au->Prop} {g:aH} {w:au} (p:g.status=.blocked) (B:Reach L R (lu g w)):False:=by
       obtain⟨n,m',q,Q⟩:=B;obtain⟨o,w',e⟩:=abE (L:=L) (w:=w) p;cases n with
       |zero=>
        simp only[di,xf]at q;subst q;obtain⟨ee,K,v,O,_⟩:=Q;have:=congrArg (λm:fg=>(m.gs[0]?).map (·.status)) O;simp only[lu,lone]at this;have:g.status=.running:=by simpa using this
        rw[p]at this;cases this
       |succ n=>
        simp only[di,e]at q;cases q
theorem amY{L:aA}{v x z:ag}{R:ag->au->Prop}(u:eU L (G fr cs)=Z s)(H:fQ L s=Z (.comm #[{chan:=v,send:=Z x,zero:=z}] U .send))(E:Good L R ⟨fr,cs,w⟩):∃c g f i a b tm,v=.chan (Z c)/\w.heap[c]?=Z (.chan g f i a b tm)/\(i=Y->f.size<g/\eV L ⟨fr,cs,w⟩ ⟨fr.finish aC,cs,w.setChan c g (f.push x) Y (a+1) b tm⟩ 1):=by
 have k:=Lf u H;obtain⟨t,d,_,J⟩:=E (λ_ _=>0);obtain⟨B,q,p⟩:=JV J (Zv u);by_cases A:∃c g f i a b tm,v=.chan (Z c)/\w.heap[c]?=Z (.chan g f i a b tm)
 ·obtain⟨c,g,f,i,a,b,tm,rfl,m⟩:=A
  refine⟨c,g,f,i,a,b,tm,F,m,λe=>?_⟩;subst e;have n:f.size<g:=by
   refine Nat.lt_of_not_le λD=>?_;have l:¬(f.size<g):=Nat.not_lt.2 D;have:=Ld (k (re w t d)) (λ_=>by
    have K:(re w t d).heap[c]?=Z (.chan g f Y a b tm):=m;simp[communicate,ways,K,partners,waitingAt,timerAhead,l])
   have j:step L (lone fr cs (re w t d))=.next B:=q
   rw[this]at j;cases j;exact RG.K2 F p
  refine⟨n,λt d=>?_⟩;have:=Go.Conc.step_lone_send_room (z':=z) (v:=x) (k (re w t d)) (c:=c) (cap:=g) (buf:=f) (s:=a) (r:=b) (tm:=tm) m n;simp only[il.on,di];rw[show lone fr cs (re w t d)=Go.Conc.solo (G fr cs) (re w t d)from F,this];rfl
 ·exfalso
  have j:step L (lone fr cs (re w t d))=.next B:=q
  cases v with
  |chan o=>
   cases o with
   |none=>
    have:=Ld (k (re w t d)) (λ_=>by simp[communicate,ways,partners,waitingAt,timerAhead]);rw[this]at j;cases j;exact RG.K2 F p
   |some c=>
    have M:∀g f i a b tm,(re w t d).heap[c]?≠Z (.chan g f i a b tm):=λg f i a b tm h=>A ⟨c,g,f,i,a,b,tm,F,h⟩;have:=Le (k (re w t d)) (o:=.stuck "a communication at a channel whose block is no channel's" ((G fr cs).frame.pos L)) (w2:=re w t d) (λC=>by
     unfold communicate;dsimp only
     rw[if_pos];simp only[List.any_toArray,List.any_cons,List.any_nil,Bool.or_false,Fu])
    rw[this]at j;cases j
  |_=>
   have:=Le (k (re w t d)) (o:=.stuck "a communication at a channel whose block is no channel's" ((G fr cs).frame.pos L)) (w2:=re w t d) (λC=>by simp[communicate]);rw[this]at j;cases j
end
end
structure dp where
 g:Nat
 S:Nat
 W:Nat
 T:Nat
 D:Nat
 wb:Nat
 sb:Nat
abbrev ay(c:Nat):ag:=.chan (Z c)
abbrev be(b o:Nat):aR:=⟨b,o,I⟩
structure wK(k:dp)(w:au):Prop where
 work:eC w (be k.wb 0) (ay k.W) (Z (142,2))
 told:eC w (be k.wb 1) (ay k.T) (Z (142,2))
 store:eC w (be k.sb 0) (ptr k.S 0) (Z (39,1))
 done:eC w (be k.S 10) (ay k.D) (Z (109,14))
def tH(k:dp)(l:Loc):Prop:=l=.cell (be k.wb 0)\/l=.cell (be k.wb 1)\/l=.cell (be k.sb 0)\/l=.cell (be k.S 10)
def Oe(k:dp)(l:Loc):Prop:=l=.cell (be k.S 11)\/l=.cell (be k.S 12)
def wrap:az:={(default:az)with fn:=225,defers:=[],mode:=.panicking [goexitEntry]}
def doneD(k:dp):bV:={target:=.fn (.func 95) #[],args:=#[ptr k.S 11]}
def Lb(k:dp):aH:={frame:={(default:az)with fn:=225,defers:=[{target:=.fn (.func 94) #[ptr k.sb 0,ptr k.wb 0],args:=#[]}],mode:=.panicking [goexitEntry]},callers:=[],status:=.running,dying:=I}
def axq(k:dp)(a:ag)(j:Fin 9->ag):af ag:=#[ptr k.sb 0,ptr k.wb 0,a,ptr k.S 0,ptr k.S 0,ptr k.S 11,ptr k.wb 0,ay k.W,ptr k.S 0,ptr k.S 0,ptr k.S 10,ay k.D,j 0,j 1,j 2,j 3,j 4,j 5,j 6,j 7,j 8]
def dW:dp:=⟨0,0,0,0,0,0,0⟩
def C7(k:dp)(tm:af ag)(a:ae aK):az:=⟨94,tm,a,[doneD k],.run,.deferred,I⟩
theorem aeF(k)(w):aG ak Y (Lb k) w=.go (G (bG ak 94 #[ptr k.sb 0,ptr k.wb 0] .deferred) [wrap]) w #[]:=av
def Way(P:aA)(X:Bool)(K:au->Prop)(R:Loc->Prop)(B:Nat)(V:aH->Prop)(g:aH):Prop:=∃n,Goes P X (RK K) (DS R B) (λg _=>V g) n g default
section
variable {P:aA}{X:Bool}{K:au->Prop}{R:Loc->Prop}{B:Nat}{V:aH->Prop}{g g':aH}
theorem ahl{n}{w d}(h:Goes P X (RK K) (DS R B) (λg _=>V g) n g w):Goes P X (RK K) (DS R B) (λg _=>V g) n g d:=by
 cases n with
 |zero=>exactλb a=>h _ a
 |succ n=>
  rcases h with h|⟨c,h⟩
  ·exact .inl λb a=>h _ a
  ·exact .inr ⟨c,λb a=>h _ a⟩
theorem Way.stop(h:V g):Way P X K R B V g:=⟨0,λ_ _=>h⟩
theorem Way.step{es}(d:g.status=.running)(h:∀w,K w->aG P X g w=.go g' w es)(a:∀e∈es,EvC R B e)(f:Way P X K R B V g'):Way P X K R B V g:=by
 obtain⟨n,c⟩:=f;refine⟨n+1,Goes.step d λw b=>?_⟩;rw[h w b];exact⟨⟨F,a⟩,ahl c⟩
theorem Way.quiet:∀(n)(g),Way P X K R B V (aN P n g)->Way P X K R B V g:=by
 intro n;induction n with
 |zero=>intro g h;exact h
 |succ n c=>
  intro g h;unfold aN at h;cases hq:om P g with
  |none=>rw[hq]at h;exact h
  |some g'=>
   rw[hq]at h;obtain⟨a,b⟩:=CO hq;exact Way.step a (λw _=>b w) aZ (c _ h)
theorem Way.read{a}{v}{c}(d:(stage P c v g).map (λr=>r.2)=Z (v,[.ev ⟨.cell a,Y,Y⟩]))(j:∀w,K w->eC w a v c)(k:R (.cell a))(i:a.block<B)(o:Way P X K R B V (gT P c v g)):Way P X K R B V g:=by
 refine Way.quiet 400 g ?_;have n:=BA d;obtain⟨f,h⟩:=wB n ⟨F,trivial⟩;refine Way.step (es:=seen P (aN P 400 g).frame.fn (dc [iR.ev ⟨.cell a,Y,Y⟩]).toArray) f (λw m=>?_) (λe l=>?_) o
 ·have b:=j w m
  rw[h w b.cell b.free b.shape,wR b.cell]
 ·have:=mem_seen l
  simp only[dc,jA,bQ,gk,or_false]at this;subst this;exact⟨a,F,k,i⟩
theorem Way.wS{s}(h:Way P X K R B (λg=>∃a,AtIn P X K R B s g a) g):∃n,Sits P X K R B s n g:=by
 obtain⟨n,b⟩:=h;exact⟨n+1,.inl ⟨n,default,F,b⟩⟩
end
noncomputable def ast:ae aK:=(aN ak 400 (gT ak (Z (109,14)) (ay 0) (gT ak (Z (39,1)) (ptr 0 0) (gT ak (Z (142,2)) (ay 0) (gT ak (Z (39,1)) (ptr 0 0) (G (bG ak 94 #[ptr 0 0,ptr 0 0] .deferred) [wrap])))))).frame.todo
noncomputable def yu(k:dp)(a:ag)(j:Fin 9->ag):aH:=G (C7 k (axq k a j) ast) [wrap]
theorem asw(k):aN ak 400 (gT ak (Z (109,14)) (ay k.D) (gT ak (Z (39,1)) (ptr k.S 0) (gT ak (Z (142,2)) (ay k.W) (gT ak (Z (39,1)) (ptr k.S 0) (G (bG ak 94 #[ptr k.sb 0,ptr k.wb 0] .deferred) [wrap])))))=yu k aC (λ_=>aC):=av
def sA(k:dp):af CommCase:=#[rcase k.W .nilFunc,rcase k.D (.agg #[])]
theorem asv(k)(a)(j)(w):aG ak Y (yu k a j) w=.comm (yu k a j) (sA k) U .select w #[]:=av
def rH(k:Int)(b:Bool)(f:ag):ag:=.tuple #[ah k,.bool b,f,.agg #[]]
theorem ahq(k)(f):qp (sA k) .select 0 f U=rH 0 U f:=av
theorem ahr(k):qp (sA k) .select 1 (.agg #[]) Y=rH 1 Y .nilFunc:=av
noncomputable def yE(k:dp)(a:ag)(j:Fin 9->ag)(v:ag):aH:=jz (yu k a j) v
noncomputable def vj:af bh:=match(aN ak 100 (yE dW .nilFunc (λ_=>.nilFunc) (rH 0 U .nilFunc))).frame.todo with
 |.code (.region _ a _)::_=>a
 |_=>#[]
noncomputable def EC:ae aK:=match(aN ak 100 (yE dW .nilFunc (λ_=>.nilFunc) (rH 0 U .nilFunc))).frame.todo with
 |_::k=>k
 |_=>[]
def awy(k:dp)(f:ag)(j:Fin 4->ag):af ag:=#[ptr k.sb 0,ptr k.wb 0,f,ptr k.S 0,ptr k.S 0,ptr k.S 11,ptr k.wb 0,ay k.W,ptr k.S 0,ptr k.S 0,ptr k.S 10,ay k.D,rH 0 U f,ah 0,.bool U,.bool Y,f,j 0,j 1,j 2,j 3]
theorem awS(k)(a)(j)(f):aN ak 100 (yE k a j (rH 0 U f))=G (C7 k (awy k f λi=>j ⟨i+5,by omega⟩) (.code (.region 5 vj U)::EC)) [wrap]:=av
theorem aoY:yX .any vj vj.size (pG vj.size Y)=[[0,1,2,3,4],[0,2,1,3,4],[0,2,3,1,4],[2,0,1,3,4],[2,0,3,1,4],[2,3,0,1,4]]:=av
def F1(k:dp)(f x y z r:ag):af ag:=#[ptr k.sb 0,ptr k.wb 0,f,ptr k.S 0,ptr k.S 0,ptr k.S 11,ptr k.wb 0,ay k.W,ptr k.S 0,ptr k.S 0,ptr k.S 10,ay k.D,rH 0 U f,ah 0,.bool U,.bool Y,f,x,y,z,r]
noncomputable def cG(k:dp)(f x y z r:ag)(l:ae Nat):aH:=G (C7 k (F1 k f x y z r) (.inRegion vj l::EC)) [wrap]
inductive Fz(k:dp)(j:Fin 4->ag):ae Nat->ag->ag->Prop
 |all:Fz k j [4] (ptr k.wb 1) (ay k.T)
 |part:Fz k j [1,4] (ptr k.wb 1) (j 1)
 |none:Fz k j [0,1,4] (j 0) (j 1)
section
variable (k:dp)(f x y z r v:ag)
theorem stA:stage ak (Z (142,2)) (ay k.T) (cG k f x y z r [0,1,2,3,4])=Z (cG k f (ptr k.wb 1) (ay k.T) z r [2,3,4],ay k.T,[.ev ⟨.cell (be k.wb 1),Y,Y⟩]):=av
theorem avJ:aN ak 1 (cG k f x y z r [2,3,4])=cG k f x y f r [3,4]:=av
theorem stB:stage ak (Z (142,2)) (ay k.T) (cG k f x y z r [0,2,1,3,4])=Z (cG k f (ptr k.wb 1) (ay k.T) f r [3,4],ay k.T,[.ev ⟨.cell (be k.wb 1),Y,Y⟩]):=av
theorem stC:aN ak 2 (cG k f x y z r [0,2,3,1,4])=cG k f (ptr k.wb 1) y f r [3,1,4]:=av
theorem stD:stage ak (Z (142,2)) (ay k.T) (cG k f x y z r [2,0,1,3,4])=Z (cG k f (ptr k.wb 1) (ay k.T) f r [3,4],ay k.T,[.ev ⟨.cell (be k.wb 1),Y,Y⟩]):=av
theorem stE:aN ak 2 (cG k f x y z r [2,0,3,1,4])=cG k f (ptr k.wb 1) y f r [3,1,4]:=av
theorem stF:aN ak 1 (cG k f x y z r [2,3,0,1,4])=cG k f x y f r [3,0,1,4]:=av
theorem adN:stage ak (Z (142,2)) (ay k.T) (cG k f (ptr k.wb 1) y z v [1,4])=Z (cG k f (ptr k.wb 1) (ay k.T) z v [4],ay k.T,[.ev ⟨.cell (be k.wb 1),Y,Y⟩]):=av
theorem DK(l):(C7 k (F1 k f x y z r) (.inRegion vj (3::l)::EC)).finish v=C7 k (F1 k f x y z v) (.inRegion vj l::EC):=av
theorem awL(w):aG ak Y (cG k f x (ay k.T) z v [4]) w=.comm (cG k f x (ay k.T) z v [4]) #[scase k.T v (.tuple #[])] U .send w #[]:=av
theorem again:aN ak 400 (gT ak (Z (109,14)) (ay k.D) (gT ak (Z (39,1)) (ptr k.S 0) (gT ak (Z (142,2)) (ay k.W) (jz (cG k f x y z v [4]) aC))))=yu k f (λi=>#[rH 0 U f,ah 0,.bool U,.bool Y,f,x,y,z,v].getD i aC):=av
end
theorem wK.ON{k:dp}{w b:au}(h:wK k w)(a:AtRel w b):wK k b:=⟨h.work.at a,h.told.at a,h.store.at a,h.done.at a⟩
section
variable {P:aA}{W At:Nat->Loc->Prop}{X:Loc->Prop}{V:Nat->aj YS}{h d B n:Nat}{T:dJ}{R:af aH}{w:au}{q:Nat->Nat}
def dw(P:aA)(W At:Nat->Loc->Prop)(X:Loc->Prop)(V:Nat->aj YS)(h B n:Nat)(S:au)(m:fg)(T:dJ)(d:Nat)(Q:aH->Prop):Prop:=mP P W At X V h B n m T λb a c=>b=d/\Q a/\AtRel S c
section
variable {m:fg}{S:au}{g g':aH}{Q O:aH->Prop}
theorem dw.begin{sl:aj (Nat×Nat)}(C:YH P W At X V h d B T R w q)(a:R[h]?=Z g):dw P W At X V h B R.size w (crowd R w sl) T d (·=g):=HH C a ⟨F,F,atRel_refl w⟩
theorem dw.mono(H:dw P W At X V h B n S m T d Q)(e:∀g,Q g->O g):dw P W At X V h B n S m T d O:=by
 obtain⟨N,f,u,i,a,t,c,b,j,k,l,o,p,r,s⟩:=H;exact⟨N,f,u,i,a,t,c,b,j,k,l,o,p,e _ r,s⟩
theorem dw.split(H:dw P W At X V h B n S m T d Q)(r:∀g,Q g->∀R w K a q,R.size=n->R[h]?=Z g->YH P W At X V h d B a R w q->AtRel S w->dw P W At X V h B n w (crowd R w K) a d O):dw P W At X V h B n S m T d O:=by
 refine mP.then H λE L jP e G d1 i k D c⟨o,p,b⟩=>?_;subst o;obtain⟨N,s,M,t,f,J,l,j,u,v,x,y,z,A,C⟩:=r i p E L jP e G k D c b;exact⟨N,s,M,t,f,J,l,j,u,v,x,y,z,A,atRel_trans _ _ _ b C⟩
theorem dw.quiet(H:dw P W At X V h B n S m T d (·=g))(k:Nat)(f:aN P k g=g'):dw P W At X V h B n S m T d (·=g'):=by
 refine H.split λa e R w sl i q b c C _=>?_;subst e;have:=YH.quiet C (sl:=sl) k c f;rw[b]at this;exact this
theorem dw.read(H:dw P W At X V h B n S m T d (·=g)){v:ag}{i:aj (aJ×Nat)}(L:¬X (.cell a))(A:a.block<B)(G:eC S a v i)(p:stage P i v g=Z (g',v,[.ev ⟨.cell a,Y,Y⟩])):dw P W At X V h B n S m T d (·=g'):=by
 have l:=H.quiet (g':=aN P 400 g) 400 F;refine l.split λx e R w k N q s E C K=>?_;subst e;have u:=G.at K;obtain⟨r,z⟩:=wB (main:=h==0) (show nK P i v (aN P 400 g)=Z (g',v,[.ev ⟨.cell a,Y,Y⟩])from p) ⟨F,trivial⟩;have:=C.told (sl:=k) E r (Q:=λt o M=>t=d/\o=g'/\AtRel w M) λf=>by
  have c:=u.at ⟨f,F⟩;refine⟨g',w.at f,_,(z _ c.cell c.free c.shape).trans (by rw[wR c.cell]),⟨λ_ _ _ _ _=>rfl,λ_ _ _ J=>J,λe b=>?_⟩,?_,F,⟨f,F⟩⟩
  ·have b:=mem_seen b
   simp only[dc,jA,bQ,gk,or_false]at b;subst b;refine⟨λy j=>?_,A⟩;simp only[gy,lS,ij]at j;subst j;exact⟨λ_ _=>rfl,λD=>absurd D L⟩
  ·refine deafBehind_still (λe b=>?_) _
   have b:=mem_seen b;simp only[dc,jA,bQ,gk,or_false]at b;subst b;exact⟨by simp,by simp⟩
 rw[s]at this;exact this
theorem dw.still(H:dw P W At X V h B n S m T d (·=g))(k:g.status=.running)(j:∀w,∃g' a,aG P (h==0) g w=.go g' (w.at a) #[]/\Q g'):dw P W At X V h B n S m T d Q:=by
 refine H.split λx e R w c z q l s C A=>?_;subst e;have:=C.told (sl:=c) s k (Q:=λo f v=>o=d/\Q f/\AtRel w v) λa=>by
  obtain⟨g',b,p,r⟩:=j (w.at a);exact⟨g',(w.at a).at b,#[],p,⟨λ_ _ _ _ _=>rfl,λi y e u=>(C.yd.wf i y e).2.2.1 _ _ u,λe t=>by simp at t⟩,F,r,⟨b,F⟩⟩
 rw[l]at this;exact this
end
end
section
variable {W At:Nat->Loc->Prop}{X:Loc->Prop}{V:Nat->aj YS}{h d B n:Nat}{T:dJ}{S:au}{m:fg}
theorem awP(k:dp)(t:ag)(j:Fin 9->ag)(f:ag)(D:wK k S)(p:¬X (.cell (be k.wb 1)))(b:k.wb<B)(H:dw ak W At X V h B n S m T 0 (·=yE k t j (rH 0 U f))):dw ak W At X V h B n S m T 0 (λg=>∃l x y r,Fz k (λi=>j ⟨i+5,by omega⟩) l x y/\g=cG k f x y f r (3::l)):=by
 have v:=H.quiet 100 (awS k t j f);have z:=v.still (Q:=λg=>∃o∈yX .any vj vj.size (pG vj.size Y),g=cG k f (j 5) (j 6) (j 7) (j 8) o) F λw=>⟨_,_,F8 av w,_,NH _ _,F⟩;refine z.split λg G R w u K q A E C J=>?_;obtain⟨o,c,rfl⟩:=G;have a:=dw.begin (sl:=u) C E;rw[A]at a;have s:=D.ON J;rw[aoY]at c;simp only[bQ,gk,or_false]at c;rcases c with rfl|rfl|rfl|rfl|rfl|rfl
 ·exact((a.read p b s.told (stA k f _ _ _ _)).quiet 1 (avJ k f _ _ _ _)).mono λg e=>⟨_,_,_,_,.all,e⟩
 ·exact(a.read p b s.told (stB k f _ _ _ _)).mono λg e=>⟨_,_,_,_,.all,e⟩
 ·exact(a.quiet 2 (stC k f _ _ _ _)).mono λg e=>⟨_,_,_,_,.part,e⟩
 ·exact(a.read p b s.told (stD k f _ _ _ _)).mono λg e=>⟨_,_,_,_,.all,e⟩
 ·exact(a.quiet 2 (stE k f _ _ _ _)).mono λg e=>⟨_,_,_,_,.part,e⟩
 ·exact(a.quiet 1 (stF k f _ _ _ _)).mono λg e=>⟨_,_,_,_,.none,e⟩
end
noncomputable def oS(k:dp):Seat:={cases:=sA k,shape:=.select,home:=λg=>∃a j,g=yu k a j}
noncomputable def wY(k:dp)(B:Nat):YS:={s:=oS k,own:=k.W,K:=wK k,St:=tH k,B:=B}
theorem F2{w}{a}{v}{g}(b:eC w a v g){c cap s r}{buf}{cl tm}(l:∃o,w.heap[c]?=Z o/\o.isChan=U):eC (w.setChan c cap buf cl s r tm) a v g:=by
 obtain⟨o,d,j⟩:=l;obtain⟨m,t,f,i,p,n,q⟩:=kK b.cell;have h:c≠a.block:=λe=>by rw[e,i]at d;cases d;cases j
 have e:(w.setChan c cap buf cl s r tm).heap[a.block]?=w.heap[a.block]?:=mM w _ _ _ _ _ _ h;refine⟨?_,?_,?_⟩
 ·have:=b.cell
  unfold fR at this⊢;rw[e];exact this
 ·have:=b.free
  unfold pN at this⊢;rw[e];exact this
 ·have:=b.shape
  unfold fD at this⊢;rw[e];exact this
theorem wK.setChan{k}{w}(h:wK k w){c d s r}{b}{e tm}(a:∃o,w.heap[c]?=Z o/\o.isChan=U):wK k (w.setChan c d b e s r tm):=⟨F2 h.work a,F2 h.told a,F2 h.store a,F2 h.done a⟩
theorem acj(k)(B)(g:k.W≠k.D):(wY k B).s.Wf/\(wY k B).s.has (wY k B).own/\(wY k B).HL:=by
 refine⟨⟨λm h=>?_,λa b c z o e f=>?_⟩,⟨0,.nilFunc,F⟩,λw d h=>h.ON ⟨d,F⟩,λw c j i n a b tm l h=>h.setChan l⟩
 ·simp only[wY,oS,sA,jA,bQ,gk,or_false]at h
  rcases h with rfl|rfl
  ·exact⟨_,_,rfl⟩
  ·exact⟨_,_,rfl⟩
 ·rcases a with _|_|a<;>rcases b with _|_|b
  ·rfl
  ·simp[wY,oS,sA,rcase]at e f
   exact absurd (e.1.trans f.1.symm) g
  ·simp[wY,oS,sA]at f
  ·simp[wY,oS,sA,rcase]at e f
   exact absurd (f.1.trans e.1.symm) g
  ·rfl
  ·simp[wY,oS,sA]at f
  ·simp[wY,oS,sA]at e
  ·simp[wY,oS,sA]at e
  ·simp[wY,oS,sA]at e
theorem zZ(k)(B){c}:(wY k B).s.has c↔c=k.W\/c=k.D:=by
 constructor
 ·rintro⟨m,z,h⟩
  rcases m with _|_|m
  ·simp[wY,oS,sA,rcase]at h;exact .inl h.1.symm
  ·simp[wY,oS,sA,rcase]at h;exact .inr h.1.symm
  ·simp[wY,oS,sA]at h
 ·rintro(rfl|rfl)
  ·exact⟨0,.nilFunc,rfl⟩
  ·exact⟨1,.agg #[],rfl⟩
theorem asu(k)(B)(a)(j):AtIn ak Y (wK k) (tH k) B (oS k) (yu k a j) (yu k a j):=⟨F,F,F,F,⟨a,j,F⟩,#[],by simp,λw _=>asv k _ j w⟩
structure Of(k:dp)(B:Nat):Prop where
 wb:k.wb<B
 sb:k.sb<B
 S:k.S<B
 W:k.W<B
 T:k.T<B
 D:k.D<B
section
variable (k:dp){B:Nat}(X:Of k B)
include X
theorem acm{g}(b:stage ak (Z (142,2)) (ay k.W) g=Z (gT ak (Z (142,2)) (ay k.W) g,ay k.W,[.ev ⟨.cell (be k.wb 0),Y,Y⟩]))
  (c:(stage ak (Z (39,1)) (ptr k.S 0) (gT ak (Z (142,2)) (ay k.W) g)).map (λr=>r.2)=Z (ptr k.S 0,[.ev ⟨.cell (be k.sb 0),Y,Y⟩]))
  (d:(stage ak (Z (109,14)) (ay k.D) (gT ak (Z (39,1)) (ptr k.S 0) (gT ak (Z (142,2)) (ay k.W) g))).map (λr=>r.2)=Z (ay k.D,[.ev ⟨.cell (be k.S 10),Y,Y⟩]))
  {f}{j}(e:aN ak 400 (gT ak (Z (109,14)) (ay k.D) (gT ak (Z (39,1)) (ptr k.S 0) (gT ak (Z (142,2)) (ay k.W) g)))=yu k f j):
  Way ak Y (wK k) (tH k) B (λg=>∃a,AtIn ak Y (wK k) (tH k) B (oS k) g a) g:=by
 refine Way.read (by rw[b];rfl) (λw h=>h.work) (.inl F) X.wb ?_;refine Way.read c (λw h=>h.store) (.inr (.inr (.inl F))) X.sb ?_;refine Way.read d (λw h=>h.done) (.inr (.inr (.inr F))) X.S ?_;refine Way.quiet 400 _ ?_;rw[e];exact Way.stop ⟨_,asu k B _ j⟩
theorem axu(f x y z v):Way ak Y (wK k) (tH k) B (λg=>∃a,AtIn ak Y (wK k) (tH k) B (oS k) g a) (jz (cG k f x y z v [4]) aC):=acm k X (BA av) av av (again k f x y z v)
theorem axv:Way ak Y (wK k) (tH k) B (λg=>∃a,AtIn ak Y (wK k) (tH k) B (oS k) g a) (Lb k):=by
 refine Way.step F (λw _=>aeF k w) aZ ?_;refine Way.read av (λw h=>h.store) (.inr (.inr (.inl F))) X.sb ?_;exact acm k X (BA av) av av (asw k)
theorem ata(f x y z v):∃n,Sits ak Y (wY k B).K (wY k B).St (wY k B).B (wY k B).s n (jz (cG k f x y z v [4]) aC):=(axu k X f x y z v).wS
theorem atb:∃n,Sits ak Y (wY k B).K (wY k B).St (wY k B).B (wY k B).s n (Lb k):=(axv k X).wS
end
structure iq where
 t:Nat->ag
 l:ae ag
def iq.z:iq:=⟨λ_=>aC,[]⟩
def Vu(o:iq)(W T N:Nat)(f:ag)(s:Fin 6->ag)(a:ae aK):az:=⟨66,⟨[.agg #[ay W,ay T],f,ptr N 0,o.t 1,ah 0,s 0,s 1,s 2,s 3,s 4,s 5]++o.l⟩,a,[],.run,.normal,I⟩
noncomputable def If(o:iq)(W T:Nat)(f:ag):az:=B6 66 11 (Ht o.t (.agg #[ay W,ay T]) f) o.l .normal
noncomputable def afc:ae aK:=(aN ak 3 (G (If .z 0 0 .nilFunc) [])).frame.todo.tail
noncomputable def afb:af bh:=match(aN ak 3 (G (If .z 0 0 .nilFunc) [])).frame.todo with
 |.inRegion a _::_=>a
 |_=>#[]
noncomputable def Ie(o:iq)(W T N:Nat)(f:ag)(X:ae az):aH:=G ⟨66,⟨[.agg #[ay W,ay T],f,ptr N 0,o.t 1,o.t 2,o.t 3,o.t 4,o.t 5,o.t 6,o.t 7,o.t 8]++o.l⟩,.inRegion afb [1]::afc,[],.run,.normal,I⟩ X
noncomputable def ar4:af bh:=match(aN ak 400 (gT ak (Z (142,2)) (ay 0) (Ie .z 0 0 0 .nilFunc []))).frame.todo with
 |.inRegion a _::_=>a
 |_=>#[]
noncomputable def ar6:ae aK:=(aN ak 400 (gT ak (Z (142,2)) (ay 0) (Ie .z 0 0 0 .nilFunc []))).frame.todo.tail
def ar5(o:iq)(W N:Nat)(f:ag):Fin 6->ag:=λi=>#[ptr N 0,ay W,f,o.t 6,o.t 7,o.t 8].getD i aC
noncomputable def sG(o:iq)(W T N:Nat)(f:ag)(X:ae az):aH:=G (Vu o W T N f (ar5 o W N f) (.inRegion ar4 [3]::ar6)) X
section
variable (o:iq)(W T N:Nat)(f v:ag)(X:ae az)
theorem aei:(stage ak (Z (142,2)) (ay W) (Ie o W T N f X)).map (λr=>r.2)=Z (ay W,[.ev ⟨.cell (be N 0),Y,Y⟩]):=av
theorem aej:aN ak 400 (gT ak (Z (142,2)) (ay W) (Ie o W T N f X))=sG o W T N f X:=av
theorem asB(w):aG ak U (sG o W T N f X) w=.comm (sG o W T N f X) #[scase W f (.tuple #[])] U .send w #[]:=av
noncomputable def aqK:af bh:=match(aN ak 400 (gT ak (Z (142,2)) (ay 0) (jz (sG .z 0 0 0 .nilFunc []) aC))).frame.todo with
 |.inRegion a _::_=>a
 |_=>#[]
noncomputable def aqM:ae aK:=(aN ak 400 (gT ak (Z (142,2)) (ay 0) (jz (sG .z 0 0 0 .nilFunc []) aC))).frame.todo.tail
def aqL:Fin 6->ag:=λi=>#[ptr N 0,ay W,f,ptr N 1,ay T,o.t 8].getD i aC
noncomputable def rG:aH:=G (Vu o W T N f (aqL o W T N f) (.inRegion aqK [2,3]::aqM)) X
theorem aq9:(stage ak (Z (142,2)) (ay T) (jz (sG o W T N f X) aC)).map (λr=>r.2)=Z (ay T,[.ev ⟨.cell (be N 1),Y,Y⟩]):=av
theorem aq8:aN ak 400 (gT ak (Z (142,2)) (ay T) (jz (sG o W T N f X) aC))=rG o W T N f X:=av
theorem aq6(w):aG ak U (rG o W T N f X) w=.comm (rG o W T N f X) #[rcase T (ah 0)] U (.recv Y) w #[]:=av
theorem aq7:qp #[rcase T (ah 0)] (.recv Y) 0 v U=v:=av
end
section
variable (o:iq)(W T N:Nat)(f v:ag)(X:ae az){P:bA}{S:af ag}{R:ae aK}{Q:ae bV}{V:dD}{O:aj Nat}
theorem aq5:aN ak 4 (jz (rG o W T N f (⟨P,S,R,Q,.run,V,O⟩::X)) v)=G (jd ⟨P,S,R,Q,.run,V,O⟩ v) X:=av
end
def Il:bV:={target:=.fn (.func 76) #[],args:=#[]}
theorem Vy(a:Bool)(P:bA)(W:af ag)(V:ae aK)(N:ae bV)(X:dD)(O:ae az)(w:au):aG ak a (G ⟨P,W,V,Il::N,.returning,X,I⟩ O) w=.go (G ⟨P,W,V,N,.returning,X,I⟩ O) w (seen ak P #[⟨.mark (.extern 76),Y,U⟩,⟨.mark .enable,Y,U⟩]):=av
def jI(n:Nat):ag:=.int .u64 ((n:Int)*4294967296)
section
variable {M At:Nat->Loc->Prop}{R:Loc->Prop}{L:Nat->aj YS}{h B n:Nat}{T:dJ}{w:au}{A:aR->Prop}{m:fg}{S t l:Nat}
variable {P:bA}{W:af ag}{V:ae aK}{N:ae bV}{X:dD}{K:aj Nat}{O:ae az}
theorem ji.enable{a:aR}{c:au}{v z:ag}{y:aj (aJ×Nat)}{P:bA}{W:af ag}{V:ae aK}{N:ae bV}{X:dD}{O:ae az}(H:ji ak M At R L h B n a c m T 1 v (G ⟨P,W,V,Il::N,.returning,X,I⟩ O))(hc:eC c a z y)(r:gW 1 (seen ak P #[⟨.mark (.extern 76),Y,U⟩,⟨.mark .enable,Y,U⟩])=0):ji ak M At R L h B n a c m T 0 v (G ⟨P,W,V,N,.returning,X,I⟩ O):=by
 refine mP.then H λmr w1 jP D q1 J E i u f⟨o,p,q⟩=>?_;subst o p;have:=f.told (sl:=jP) u F (Q:=λj g C=>j=0/\g=G ⟨P,W,V,N,.returning,X,I⟩ O/\xr a v c C) λk=>⟨_,_,_,Vy _ _ _ _ _ _ _ _,⟨λ_ _ _ _ _=>rfl,λ_ _ _ s=>s,λe b=>?_⟩,r,F,q.at ⟨k,F⟩⟩
 ·rw[i]at this
  exact this
 ·have b:=mem_seen b
  simp only[jA,bQ,gk,or_false]at b;rcases b with rfl|rfl
  ·exact⟨λx d=>by simp[gy,lS]at d,trivial⟩
  ·exact⟨λx d=>by simp[gy,lS]at d,trivial⟩
noncomputable def O7(g:aH):aH:=G ⟨g.frame.fn,g.frame.tmps,g.frame.todo,g.frame.defers.tail,.returning,g.frame.kind,I⟩ g.callers
theorem Uy{a:aR}{b:au}{v i:ag}{f:aj (aJ×Nat)}(H:ji ak M At R L h B n a b m T 1 v g)(c:eC b a i f)
  (e:g=G ⟨g.frame.fn,g.frame.tmps,g.frame.todo,Il::g.frame.defers.tail,.returning,g.frame.kind,I⟩ g.callers)
  (d:gW 1 (seen ak g.frame.fn #[⟨.mark (.extern 76),Y,U⟩,⟨.mark .enable,Y,U⟩])=0):ji ak M At R L h B n a b m T 0 v (O7 g):=by
 rw[e]at H;exact ji.enable H c d
theorem adm{k:Nat}(r:k<9)(c:Gate M L A)(b:A ⟨S,11,I⟩)(d:A ⟨S,12,I⟩)(g:S<B)(a:eC w ⟨S,11,I⟩ (jI k) (Z (109,14)))
  (H:ji ak M At R L h B n ⟨S,11,I⟩ w m T 0 (jI k) (G (bG ak 93 #[ptr S 11,ah 1] .normal) (⟨P,W,V,N,.run,X,K⟩::O))):
  ji ak M At R L h B n ⟨S,11,I⟩ w m T 0 (jI (k+1)) (G (jd ⟨P,W,V,N,.run,X,K⟩ (.tuple #[])) O):=by
 have:k=0\/k=1\/k=2\/k=3\/k=4\/k=5\/k=6\/k=7\/k=8:=by omega
 rcases this with e|e|e|e|e|e|e|e|e
 all_goals
  have i:=H.stage a c b (v':=jI k) (l:=[.ev ⟨.mark (.extern 74),Y,U⟩,.ev ⟨.mark .disable,Y,U⟩]) (d':=1) (by subst e;kernel_rfl) (by simp[eH]) (by simp[dc,lC]) (by subst e;kernel_rfl);have j:=i.stage a c b (v':=jI k) (l:=[.ev ⟨.mark (.extern 82),Y,U⟩]) (d':=1) (by subst e;kernel_rfl) (by simp[eH]) (by simp[dc,lC]) (by subst e;kernel_rfl);have f:=j.stage a c b (v':=jI (k+1)) (l:=[.ev ⟨.mark (.extern 150),Y,U⟩,.ev ⟨.cell ⟨S,11,I⟩,Y,U⟩,.ev ⟨.cell ⟨S,11,I⟩,U,U⟩]) (d':=1) (by subst e;kernel_rfl) (by simp[eH]) (by simp[dc,lC,b,g]) (by subst e;kernel_rfl)
  first
   |have q:k=0:=by omega
    have o:=f.stage a c b (v':=jI (k+1)) (l:=[.shape S,.shape S]) (d':=1) (by subst e;kernel_rfl) (by simp[eH]) (by simp[dc,lC]) (by subst e;kernel_rfl);have p:=o.stage a c b (v':=jI (k+1)) (l:=[.ev ⟨.mark (.extern 125),Y,U⟩,.ev ⟨.mark (.read ⟨S,12,I⟩),Y,U⟩]) (d':=1) (by subst e;kernel_rfl) (by simp[eH]) (by simp[dc,lC,d,g]) (by subst e;kernel_rfl);exact(Uy (p.quiet 400 rfl) a (by subst e;kernel_rfl) (by subst e;kernel_rfl)).quiet 1 (by subst e;kernel_rfl)
   |exact(Uy (f.quiet 400 rfl) a (by subst e;kernel_rfl) (by subst e;kernel_rfl)).quiet 1 (by subst e;kernel_rfl)
end
def bM(w:au)(o:Obj):au:={w with heap:=w.heap.push o}
def gZ(w:au)(b:Nat)(c:af ag)(t:aJ):au:={w with heap:=w.heap.setIfInBounds b (.cells c t)}
def vf{α:Type}(P:aA)(N:Nat):Sem α->aj (α×Obj)
 |.program k=>vf P N (k P)
 |.new o k=>(fQ P (k N)).map λa=>(a,o)
 |_=>I
theorem R9{P:aA}{N:Nat}:∀{s:Sem α}{a:α}{o:Obj},vf P N s=Z (a,o)->∀w es,w.heap.size=N->s.runT P w es=(.ok a (bM w o),es):=by
 intro s;induction s with
 |program k c=>intro a o h w es b;exact c P h w es b
 |new o k c=>
  intro a i h w es b;simp only[vf]at h;obtain⟨x,e,f⟩:=gV.1 h;cases f;simp only[nt,b];exact Bs e _ es
 |_=>intro a o h;cases h
def pS{α:Type}(P:aA)(t:aJ):Sem α->af ag->aj (α×af ag×ae iR)
 |.pure a,c=>Z (a,c,[])
 |.program k,c=>pS P t (k P) c
 |.load m a k,c=>match a.spot,c[a.off]? with
  |none,Z v=>(pS P t (k v) c).map λr=>(r.1,r.2.1,.ev ⟨.cell a,Y,m==.atomic⟩::r.2.2)
  |_,_=>I
 |.store m a x k,c=>match x with
  |.agg _|.tuple _=>I
  |x=>match a.spot,c[a.off]? with
   |none,Z _=>(pS P t k (c.setIfInBounds a.off x)).map λr=>(r.1,r.2.1,.ev ⟨.cell a,U,m==.atomic⟩::r.2.2)
   |_,_=>I
 |.frozen a k,c=>(pS P t (k Y) c).map λx=>(x.1,x.2.1,.frozen a::x.2.2)
 |.shape r k,c=>(pS P t (k (Z (t,c.size))) c).map λx=>(x.1,x.2.1,.shape r::x.2.2)
 |.mark m k,c=>(pS P t k c).map λr=>(r.1,r.2.1,.ev ⟨.mark m,Y,U⟩::r.2.2)
 |_,_=>I
def Ap(b:Nat):ae iR->Prop
 |[]=>True
 |.ev ⟨.cell a,_,_⟩::l=>a.block=b/\Ap b l
 |.ev _::l=>Ap b l
 |.shape r::l=>r=b/\Ap b l
 |.frozen a::l=>a.block=b/\Ap b l
theorem H7{w:au}{b:Nat}(h:w.heap[b]?=Z (.cells c t)):gZ w b c t=w:=by
 refine Hx (yI λi=>?_) F F F F;show(w.heap.setIfInBounds b _)[i]?=_;rw[tJ];by_cases e:b=i
 ·subst e
  have a:=(gG.1 h).1;rw[if_pos F,if_pos a,h]
 ·simp[e]
theorem aeg(w:au)(b:Nat)(c a:af ag)(t:aJ):gZ (gZ w b c t) b a t=gZ w b a t:=by
 refine Hx ?_ F F F F;show(w.heap.setIfInBounds b _).setIfInBounds b _=w.heap.setIfInBounds b _;simp
theorem OQ{w:au}(h:w.heap[a.block]?=Z (.cells c t))(b:a.spot=I):w.cell? a=c[a.off]?:=by
 unfold fR;rw[h];simp[b]
theorem aeh{w:au}{x y:ag}(h:w.heap[a.block]?=Z (.cells c t))(l:c[a.off]?=Z y)(k:a.spot=I):w.setCell a x=gZ w a.block (c.setIfInBounds a.off x) t:=by
 have rP:w.cell? a=Z y:=by rw[OQ h k];exact l
 obtain⟨p,r,f,b,o,q,_⟩:=kK rP;rw[h]at b;cases b;refine Hx (yI λi=>?_) F F F F;rw[heap_setCell h o];show _=(w.heap.setIfInBounds a.block _)[i]?;rw[tJ];have aE:=(gG.1 h).1;by_cases e:i=a.block
 ·subst e;simp[aE]
 ·have j:¬(a.block=i):=λx=>e x.symm
  simp[e,j]
theorem OP{P:aA}{b:Nat}:∀{s:Sem α}{c:af ag}{n:α}{i:af ag}{l:ae iR},pS P t s c=Z (n,i,l)->Ap b l->∀w es,w.heap[b]?=Z (.cells c t)->s.runT P w es=(.ok n (gZ w b i t),es++(dc l).toArray):=by
 intro s;induction s with
 |pure x=>intro c n i l h e w es f;cases h;rw[H7 f];simp[nt,dc]
 |program k p=>intro c n i l h e w es f;exact p P h e w es f
 |load m a k p=>
  intro c n i l h e w es f;simp only[pS]at h;split at h
  ·rename_i v q J
   obtain⟨⟨C,u,A⟩,j,o⟩:=gV.1 h;cases o;obtain⟨rfl,e⟩:=e;have rP:w.cell? a=Z v:=by rw[OQ f q];exact J
   simp only[nt,rP];rw[p v j e w _ f];simp[dc]
  ·cases h
 |store m a x k p=>
  intro c n i l h e w es f;have K:∃y r,a.spot=I/\c[a.off]?=Z y/\pS P t k (c.setIfInBounds a.off x)=Z r/\(r.1,r.2.1,iR.ev ⟨.cell a,U,m==.atomic⟩::r.2.2)=(n,i,l)/\x.oneCell'=U:=by
   cases x<;>first
    |(simp only[pS]at h;cases h;done)
    |(simp only[pS]at h
      split at h
      ·rename_i y q z
       obtain⟨r,j,o⟩:=gV.1 h;exact⟨y,r,q,z,j,o,rfl⟩
      ·cases h)
  obtain⟨y,⟨C,u,A⟩,q,z,j,o,E⟩:=K;cases o;obtain⟨rfl,e⟩:=e;have rP:w.cell? a=Z y:=by rw[OQ f q];exact z
  have D:w.frozen? a=Y:=by
   unfold pN;rw[f];simp
  have G:(Sem.store m a x k).runT P w es=k.runT P (w.setCell a x) (es.push ⟨.cell a,U,m==.atomic⟩):=by
   cases x<;>first|(cases E;done)|(simp only[nt,rP,D];rfl)
  have aE:=(gG.1 f).1;rw[G,aeh f z q,p j e _ _ (by show(w.heap.setIfInBounds a.block _)[a.block]?=_;simp[aE]),aeg];simp[dc]
 |shape r k p=>
  intro c n i l h e w es f;simp only[pS]at h;obtain⟨⟨C,u,A⟩,j,o⟩:=gV.1 h;cases o;obtain⟨rfl,e⟩:=e;have H:w.shape? r=Z (t,c.size):=by unfold fD;rw[f]
  simp only[nt,H];rw[p _ j e w _ f];simp[dc]
 |frozen a k p=>
  intro c n i l h e w es f;simp only[pS]at h;obtain⟨⟨C,u,A⟩,j,o⟩:=gV.1 h;cases o;obtain⟨rfl,e⟩:=e;have D:w.frozen? a=Y:=by unfold pN;rw[f];simp
  simp only[nt,D];rw[p _ j e w _ f];simp[dc]
 |mark m k p=>
  intro c n i l h e w es f;simp only[pS]at h;obtain⟨⟨C,u,A⟩,j,o⟩:=gV.1 h;cases o;simp only[nt];rw[p j e _ _ f];simp[dc]
 |_=>intro c n i l h;simp only[pS]at h;cases h
def oe(P:aA)(N:Nat)(g:aH):aj (aH×Obj):=(eU P (aN P 400 g)).bind λs=>(vf P N s).bind λr=>(mg P (aN P 400 g) r.1).map λg'=>(g',r.2)
def vU(P:aA)(t:aJ)(c:af ag)(g:aH):aj (aH×af ag×ae iR):=(eU P (aN P 400 g)).bind λs=>(pS P t s c).bind λr=>(mg P (aN P 400 g) r.1).map λg'=>(g',r.2.1,r.2.2)
theorem Zw{P:aA}{g:aH}(h:eU P g=Z s):g.status=.running:=by
 obtain⟨j,c,e,i,rest,k,a,b,f,o,rfl,_⟩:=yk h;rfl
theorem Zh{P:aA}{main:Bool}{N:Nat}{g g':aH}{o:Obj}(h:oe P N g=Z (g',o)):(aN P 400 g).status=.running/\∀w,w.heap.size=N->aG P main (aN P 400 g) w=.go g' (bM w o) (seen P (aN P 400 g).frame.fn #[]):=by
 unfold oe at h;obtain⟨s,a,b⟩:=m4.1 h;obtain⟨⟨n,l⟩,i,c⟩:=m4.1 b;obtain⟨k,f,e⟩:=gV.1 c;cases e;exact⟨Zw a,λw j=>(zL a f (R9 i w #[] j)).2⟩
theorem U5{P:aA}{main:Bool}{b:Nat}{a:af ag}{g g':aH}{l:ae iR}(h:vU P t c g=Z (g',a,l))(k:Ap b l):(aN P 400 g).status=.running/\∀w,w.heap[b]?=Z (.cells c t)->aG P main (aN P 400 g) w=.go g' (gZ w b a t) (seen P (aN P 400 g).frame.fn (dc l).toArray):=by
 unfold vU at h;obtain⟨s,e,f⟩:=m4.1 h;obtain⟨⟨n,r,v⟩,p,i⟩:=m4.1 f;obtain⟨u,o,j⟩:=gV.1 i;cases j;refine⟨Zw e,λw q=>?_⟩;have:=(zL (main:=main) e o (OP p k w #[] q)).2;simpa using this
section
variable {P:aA}{V At:Nat->Loc->Prop}{X:Loc->Prop}{W:Nat->aj YS}{h d d' B n:Nat}{T:dJ}{m:fg}{S R:au}{g g':aH}
theorem dw.act(H:dw P V At X W h B n S m T d (·=g))(i:g.status=.running){es:af cX}(f:∀w,AtRel S w->∃a,aG P (h==0) g w=.go g' a es/\AtRel R a/\DZ V W X B w a es)(t:gW d es=d'):dw P V At X W h B n R m T d' (·=g'):=by
 refine mP.then H λC a jP y D A z j u c⟨l,o,p⟩=>?_;subst l o;have:=c.told (sl:=jP) u i (Q:=λk e v=>k=d'/\e=g'/\AtRel R v) λb=>by
  obtain⟨x,q,r,s⟩:=f (a.at b) (atRel_trans _ _ _ p ⟨b,F⟩);exact⟨g',x,es,q,s,t,F,r⟩
 rw[j]at this;exact this
theorem FW{w a:au}(h:AtRel w a):a.heap=w.heap:=by obtain⟨d,rfl⟩:=h;rfl
theorem UY{w a:au}(h:AtRel w a)(o:Obj):AtRel (bM w o) (bM a o):=by obtain⟨d,rfl⟩:=h;exact⟨d,F⟩
theorem adz{w a:au}(h:AtRel w a)(b:Nat)(c:af ag)(t:aJ):AtRel (gZ w b c t) (gZ a b c t):=by obtain⟨d,rfl⟩:=h;exact⟨d,F⟩
theorem dw.new(H:dw P V At X W h B n S m T d (·=g)){N:Nat}{o:Obj}(f:oe P N g=Z (g',o))(p:S.heap.size=N)(s:∀i y,W i=Z y->∀w o,y.K w->y.K (bM w o))(k:∀i y c,W i=Z y->y.s.has c->c<N):dw P V At X W h B n (bM S o) m T d (·=g'):=by
 have t:=H.quiet (g':=aN P 400 g) 400 F;obtain⟨j,u⟩:=Zh (main:=h==0) f;refine t.act j (es:=#[]) (λw b=>⟨bM w o,?_,UY b o,λi y c a q=>?_,λi y a l=>s i y a w o l,λe r=>by simp at r⟩) F
 ·rw[u w (by rw[FW b];exact p),seen_none]
 ·have aE:=k i y c a q
  show(w.heap.push o)[c]?=w.heap[c]?;rw[Ft,if_neg (by rw[FW b];omega)]
theorem dw.blk(H:dw P V At X W h B n S m T d (·=g)){b:Nat}{o:af ag}{l:ae iR}(L:vU P t c g=Z (g',o,l))(j:Ap b l)(hb:S.heap[b]?=Z (.cells c t))(hk:∀i y,W i=Z y->∀w,y.K w->y.K (gZ w b o t))
  (N:∀i y x,W i=Z y->y.s.has x->x≠b)(J:∀e∈dc l,∃a,e.loc=.cell a/\e.sync=Y/\(e.write=U->∀g,¬V g (.cell a))/\¬X (.cell a))(E:b<B):
  dw P V At X W h B n (gZ S b o t) m T d (·=g'):=by
 have hq:=H.quiet (g':=aN P 400 g) 400 F;obtain⟨M,hs⟩:=U5 (main:=h==0) L j;have A:∀(l:ae iR),Ap b l->∀e∈dc l,∀a,e.loc=.cell a->a.block=b:=λl=>by
  induction l with
  |nil=>intro _ e f;simp[dc]at f
  |cons x l u=>
   intro j e f a k;cases x with
   |ev O=>
    obtain⟨q,K,sy⟩:=O;simp only[dc,bQ]at f;cases q with
    |cell a'=>
     rcases f with rfl|f
     ·cases k;exact j.1
     ·exact u j.2 e f a k
    |_=>
     rcases f with rfl|f
     ·cases k
     ·exact u j e f a k
   |shape r=>exact u j.2 e f a k
   |frozen r=>exact u j.2 e f a k
 refine hq.act M (es:=seen P (aN P 400 g).frame.fn (dc l).toArray) (λw G=>⟨gZ w b o t,?_,adz G b o t,λi y x z s=>?_,λi y z hK=>hk i y z w hK,λe f=>?_⟩) ?_
 ·exact hs w (by rw[FW G];exact hb)
 ·show(w.heap.setIfInBounds b _)[x]?=w.heap[x]?
  rw[ie (λe=>N i y x z s e.symm)]
 ·have f:=mem_seen f
  simp only[jA]at f;obtain⟨a,p,C,D,Q⟩:=J e f;have pW:=A l j e f a p;obtain⟨q,K,sy⟩:=e;simp only at p C D;subst p C;refine⟨λx s=>?_,by rw[<-pW]at E;exact E⟩;simp only[gy,lS,ij]at s;subst s;refine⟨λg v=>?_,λv=>absurd v Q⟩;cases K with
  |false=>rfl
  |true=>exact absurd v (D F g)
 ·refine deafBehind_still (λe f=>?_) _
  have f:=mem_seen f;simp only[jA]at f;obtain⟨a,p,_⟩:=J e f;rw[p];exact⟨by simp,by simp⟩
end
def NG(tm:af ag)(a:ae aK):az:=⟨55,tm,a,[],.run,.normal,I⟩
noncomputable def NF(z:iq)(S:Nat):az:=B6 55 13 (cN z.t (ptr S 0)) z.l .normal
def sT(z:iq)(x:ae ag)(n:Nat):af ag:=⟨x++(((oz 12).map z.t).drop n++z.l)⟩
def gA:af ag:=#[.chan I,.chan I]
noncomputable def s1(z:iq)(S N:Nat)(X:ae az):aH:=((oe ak N (G (NF z S) X)).getD default).1
noncomputable def s2(z:iq)(S N M:Nat)(X:ae az):aH:=((oe ak M (s1 z S N X)).getD default).1
noncomputable def Rc:ae aK:=(aN ak 400 (s2 .z 0 0 0 [])).frame.todo.tail
theorem asb(z:iq)(S N M:Nat)(X:ae az):aN ak 400 (s2 z S N M X)=G (NG (sT z [ptr S 0,ptr N 0,ptr M 0] 2) (.code (.region 1 vi U)::Rc)) X:=av
theorem aoX:yX .any vi vi.size (pG vi.size Y)=[[0,1,2,3,4],[0,1,3,2,4],[0,3,1,2,4],[1,0,2,3,4],[1,0,3,2,4],[1,3,0,2,4],[3,0,1,2,4],[3,1,0,2,4]]:=av
noncomputable def sR(z:iq)(S N M:Nat)(V R Q P:ag)(l:ae Nat)(X:ae az):aH:=G (NG (sT z [ptr S 0,ptr N 0,ptr M 0,V,R,Q,P] 6) (.inRegion vi l::Rc)) X
section
variable (z:iq)(S N M W T b:Nat)(V R Q P:ag)(X:ae az)
theorem so0(r:ae Nat):oe ak W (sR z S N M V R Q P (0::r) X)=Z (sR z S N M V (ay W) Q P r X,.chan 0 #[] Y 0 0 Y):=av
theorem NT(r:ae Nat):oe ak W (sR z S N M V R Q P (1::r) X)=Z (sR z S N M V R (ay W) P r X,.chan 0 #[] Y 0 0 Y):=av
theorem NU(u v:aj Nat)(r:ae Nat):aN ak 1 (sR z S N M V (.chan u) (.chan v) P (2::r) X)=sR z S N M V (.chan u) (.chan v) (.agg #[.chan u,.chan v]) r X:=av
theorem NV(r:ae Nat):oe ak W (sR z S N M V R Q P (3::r) X)=Z (sR z S N M (ptr W 0) R Q P r X,.cells gA 142):=av
theorem avB:vU ak 142 gA (sR z S N M (ptr b 0) R Q (.agg #[ay W,ay T]) [4] X)=Z (sR z S N M (ptr b 0) R Q (.agg #[ay W,ay T]) [] X,#[ay W,ay T],[.ev ⟨.cell (be b 0),U,Y⟩,.ev ⟨.cell (be b 1),U,Y⟩]):=av
noncomputable def s3:aH:=((vU ak 39 #[ptr S 0] (sR z S N M (ptr b 0) (ay W) (ay T) (.agg #[ay W,ay T]) [] X)).getD default).1
def NC(a c d:ag):af ag:=⟨[ptr S 0,ptr N 0,ptr M 0,ptr b 0,ay W,ay T,.agg #[ay W,ay T],ptr S 0,ptr S 0,ptr S 11,a,c,d]++z.l⟩
noncomputable def arW:af bh:=match(aN ak 2 (s3 .z 0 0 0 0 0 0 [])).frame.todo with
 |.inRegion a _::_=>a
 |_=>#[]
noncomputable def s4k:ae aK:=(aN ak 2 (s3 .z 0 0 0 0 0 0 [])).frame.todo.tail
noncomputable def CQ:az:=NG (NC z S N M W T b (z.t 9) (z.t 10) (z.t 11)) (.inRegion arW [3]::s4k)
theorem asa:aN ak 3 (s3 z S N M W T b X)=G (bG ak 93 #[ptr S 11,ah 1] .normal) (CQ z S N M W T b::X):=av
noncomputable def arY:af bh:=match(aN ak 400 (G ((CQ .z 0 0 0 0 0 0).finish (.tuple #[])) [])).frame.todo with
 |.inRegion a _::_=>a
 |_=>#[]
noncomputable def s5k:ae aK:=(aN ak 400 (G ((CQ .z 0 0 0 0 0 0).finish (.tuple #[])) [])).frame.todo.tail
def Pu:ag:=.func (.func 94) #[] #[ptr N 0,ptr b 0]
noncomputable def s5(l:ae Nat):aH:=G (NG (NC z S N M W T b (.tuple #[]) (Pu N b) (z.t 11)) (.inRegion arY l::s5k)) X
theorem asd:aN ak 400 (G ((CQ z S N M W T b).finish (.tuple #[])) X)=s5 z S N M W T b X [1]:=av
theorem asi(g D:Nat)(a:Bool)(w:au):aG ak a (s5 z S N M W T b X [1]) w=.spawn (s5 z S N M W T b X []) (Lb ⟨g,S,W,T,D,b,N⟩) w #[]:=av
noncomputable def s6:aH:=((vU ak 142 #[ay W,ay T] (s5 z S N M W T b X [])).getD default).1
noncomputable def s7:aH:=((vU ak 142 gA (s6 z S N M W T b X)).getD default).1
noncomputable def s8:aH:=G ⟨55,NC z S N M W T b (.tuple #[]) (Pu N b) (.agg #[ay W,ay T]),[.code .ret],[],.returning,.normal,I⟩ X
theorem ash:aN ak 2 (s7 z S N M W T b X)=s8 z S N M W T b X:=av
end
section
open Go.Extern
section
variable {P:aA}{fs:af dF}{fx:Obj->Prop}{X:Loc->Prop}{α β γ:Type}{W:ae Nat}
theorem TS(fs:af dF)(f:Tables->Sem α):f (Lo P fs).toTables=f P.toTables:=rfl
theorem atY(t:aJ):Sm P fs fx X W (elemOf t):=by
 unfold elemOf;refine bf (pD t) λu=>?_;split
 ·exact br _
 ·exact dm _
theorem NP(h:ag):Sm P fs fx X W (Rtype.ofHandle h):=by
 unfold Rtype.ofHandle;exact cP
theorem aa5(t:aJ):Sm P fs fx X W (Rtype.handle t):=by
 unfold Rtype.handle;exact cP
theorem Zb:∀(n:Nat)(t:aJ),Program.namesPacked (Lo P fs) n t=Program.namesPacked P n t
 |0,_=>rfl
 |n+1,t=>by
  have a:=Zb n;unfold Program.namesPacked;simp only[funext a,Ni];rfl
theorem YY:∀(n:Nat)(t:aJ),Program.methodsOfAPack (Lo P fs) n t=Program.methodsOfAPack P n t
 |0,_=>rfl
 |n+1,t=>by
  have a:=YY n;unfold Program.methodsOfAPack;simp only[a,Ni];rfl
theorem Tx(s:String)(t:aJ):Sm P fs fx X W (Rtype.noPack s t):=by
 unfold Rtype.noPack;exact nO (by simp only[Ni]) (jX (λ_=>lA _) λ_=>br _)
theorem auW(s:String)(t:aJ):Sm P fs fx X W (Rtype.noPackHeld s t):=by
 unfold Rtype.noPackHeld;exact nO (by simp only[QM]) (nO (TS fs (λT=>if P.holdsPacked (2*(T.types.size+Made.depth)+2) t then unsupported _ else pure ())) (jX (λ_=>lA _) λ_=>br _))
theorem auZ(s:String)(t:aJ):Sm P fs fx X W (Rtype.noPackNamed s t):=by
 unfold Rtype.noPackNamed;exact nO (by simp only[Zb]) (nO (TS fs (λT=>if P.namesPacked (2*(T.types.size+Made.depth)+2) t then unsupported _ else pure ())) (jX (λ_=>lA _) λ_=>br _))
theorem auY(s:String)(t:aJ):Sm P fs fx X W (Rtype.noPackMethods s t):=by
 unfold Rtype.noPackMethods;exact nO (by simp only[YY]) (nO (TS fs (λT=>if P.methodsOfAPack (2*(T.types.size+Made.depth)+2) t then unsupported _ else pure ())) (jX (λ_=>lA _) λ_=>br _))
theorem TG(t:aJ):Sm P fs fx X W (Rtype.spelt t):=by
 unfold Rtype.spelt;exact cP
theorem avx(t:aJ):Sm P fs fx X W (Rtype.under t):=by
 unfold Rtype.under;exact cP
theorem Tt(t:aJ):Sm P fs fx X W (Rtype.kind t):=by
 unfold Rtype.kind;exact cP
theorem auu(t:aJ):Sm P fs fx X W (Rtype.hasName t):=by
 unfold Rtype.hasName;exact cP
theorem atZ(t:aJ):Sm P fs fx X W (Rtype.elem? t):=by
 unfold Rtype.elem?;exact cP
theorem aa6(t u:aJ):Sm P fs fx X W (Rtype.implements t u):=by
 unfold Rtype.implements;exact cP
theorem aaU(t u:aJ):Sm P fs fx X W (Rtype.directlyAssignable t u):=by
 unfold Rtype.directlyAssignable;exact cP
theorem atU(n:String):Sm P fs fx X W (cutType n):=by
 unfold cutType;exact cP
theorem TA(s:String):Sm P fs fx X W ((panicString s:Sem α)):=by
 unfold panicString;exact cP
theorem auQ(t:aJ)(a:aR)(f:Nat):Sm P fs fx X W (ReflectliteValue.mk t a f):=by
 unfold ReflectliteValue.mk;exact cP
theorem abo(v:ag):Sm P fs fx X W (ReflectliteValue.unpack v):=by
 unfold ReflectliteValue.unpack;exact cP
theorem abi(v:ag):Sm P fs fx X W (ReflectliteValue.partsAny v):=by
 unfold ReflectliteValue.partsAny;cases v<;>try exact dm _
 rename_i b;obtain⟨l⟩:=b;rcases l with _|⟨x,_|⟨y,_|⟨z,_|⟨u,l⟩⟩⟩⟩<;>try exact dm _
 cases z<;>try exact dm _
 rename_i k n;cases k<;>try exact dm _
 cases n with
 |ofNat m=>
  cases m with
  |zero=>exact br _
  |succ m=>
   cases y<;>try exact dm _
   rename_i a;cases a with
   |none=>exact dm _
   |some a=>exact bf (NP _) λ_=>br _
 |negSucc m=>
  cases y<;>try exact dm _
  rename_i a;cases a with
  |none=>exact dm _
  |some a=>exact bf (NP _) λ_=>br _
theorem TB(v:ag):Sm P fs fx X W (ReflectliteValue.parts v):=by
 unfold ReflectliteValue.parts;exact cP
theorem NR(m:String)(k:Nat):Sm P fs fx X W ((ReflectliteValue.valueError m k:Sem α)):=by
 unfold ReflectliteValue.valueError;exact cP
theorem TI(t:aJ):Sm P fs fx X W (ReflectliteType.toType t):=by
 unfold ReflectliteType.toType;exact cP
theorem Tz(v:ag):Sm P fs fx X W (ReflectliteType.ofRtype v):=by
 unfold ReflectliteType.ofRtype;cases v<;>try exact dm _
 rename_i a;obtain⟨l⟩:=a;rcases l with _|⟨x,_|⟨y,l⟩⟩<;>try exact dm _
 exact bf (NP _) λ_=>bf (Tx _ _) λ_=>br _
theorem au8(t:aJ):Sm P fs fx X W (ReflectliteType.elem t):=by
 unfold ReflectliteType.elem;exact cP
theorem au9(t u:aJ):Sm P fs fx X W (ReflectliteType.implements_ t u):=by
 unfold ReflectliteType.implements_;exact cP
theorem au7(t u:aJ):Sm P fs fx X W (ReflectliteType.assignableTo t u):=by
 unfold ReflectliteType.assignableTo;exact cP
theorem avb(t:aJ)(a:aR)(x k:Nat):Sm P fs fx X W (ReflectliteValue.isNil t a x k):=by
 unfold ReflectliteValue.isNil;exact cP
theorem ava(t:aJ)(a:aR)(x k:Nat):Sm P fs fx X W (ReflectliteValue.elem t a x k):=by
 unfold ReflectliteValue.elem;exact cP
end
end
section
open Go.Proofs Go.Extern
section
variable {P:aA}{fs:af dF}{fx:Obj->Prop}{X:Loc->Prop}{W:ae Nat}
theorem avd(c:af ag):Sm P fs fx X W (ReflectliteValue.set c):=by
 obtain⟨l⟩:=c;rcases l with _|⟨x,_|⟨y,_|⟨z,l⟩⟩⟩<;>try exact dm _
 show Sm P fs fx X W (ReflectliteValue.set #[x,y]);unfold ReflectliteValue.set;dsimp only
 refine bf (TB _) λp=>bf (TB _) λq=>?_;rcases p with _|⟨d,a,e⟩
 ·exact lA _
 rcases q with _|⟨s,b,m⟩
 ·exact lA _
 dsimp only
 refine jX (λ_=>bf (lA _) λ_=>?_) λ_=>?_<;>
 refine bf (Tu _ _) λv=>bf (aaU _ _) λr=>jX (λ_=>bf (NQ _ _ _) λ_=>br _) λ_=>bf (aa6 _ _) λi=>jX (λ_=>bf (Tt _) λk=>jX (λ_=>?_) λ_=>bf (NQ _ _ _) λ_=>br _) λ_=>bf (TG _) λ_=>bf (TG _) λ_=>bf (TA _) λ_=>br _
 all_goals(split<;>first|exact bf (lA _) λ_=>br _|exact bf (NQ _ _ _) λ_=>br _)
theorem abm(z:Sem ag)(f:aJ->aR->Nat->Nat->Sem ag)(e:Sm P fs fx X W z)(c:∀t a x k,Sm P fs fx X W (f t a x k))(b:af ag):Sm P fs fx X W (ReflectliteValue.method z f b):=by
 obtain⟨l⟩:=b;rcases l with _|⟨x,_|⟨y,l⟩⟩<;>try exact dm _
 refine bf (TB _) λp=>?_;rcases p with _|⟨d,a,g⟩
 ·exact e
 ·exact c _ _ _ _
theorem avc(z:Sem ag)(f:aJ->aR->Nat->Nat->Sem ag)(e:Sm P fs fx X W z)(c:∀t a x k,Sm P fs fx X W (f t a x k))(b:af ag):Sm P fs fx X W (ReflectliteValue.methodAny z f b):=by
 obtain⟨l⟩:=b;rcases l with _|⟨x,_|⟨y,l⟩⟩<;>try exact dm _
 refine bf (abi _) λp=>?_;rcases p with _|⟨d,a,g⟩
 ·exact e
 ·exact c _ _ _ _
theorem TD(f:aJ->Sem ag)(b:∀t,Sm P fs fx X W (f t))(a:af ag):Sm P fs fx X W (ReflectliteType.method f a):=by
 obtain⟨l⟩:=a;rcases l with _|⟨x,_|⟨y,l⟩⟩<;>try exact dm _
 exact bf (Tz _) λt=>b t
theorem abl(s:String)(f:aJ->aJ->Sem Bool)(b:∀t u,Sm P fs fx X W (f t u))(a:af ag):Sm P fs fx X W (ReflectliteType.relation s f a):=by
 obtain⟨l⟩:=a;rcases l with _|⟨x,_|⟨y,_|⟨z,l⟩⟩⟩<;>try exact dm _
 cases y<;>first|exact dm _|exact TA _|exact bf (Tz _) λt=>bf (Tz _) λu=>bf (b _ _) λ_=>br _
theorem atm(f:aJ->Sem ag)(b:∀t,Sm P fs fx X W (f t))(a:af ag):Sm P fs fx X W (ReflectliteType.abiMethod f a):=by
 obtain⟨l⟩:=a;rcases l with _|⟨x,_|⟨y,l⟩⟩<;>try exact dm _
 exact bf (NP _) λt=>bf (Tx _ _) λ_=>b t
theorem avv(a:af ag):Sm P fs fx X W (ReflectliteType.typeOf a):=by
 obtain⟨l⟩:=a;rcases l with _|⟨x,_|⟨y,l⟩⟩<;>try exact dm _
 cases x<;>first|exact dm _|exact br _|exact TI _
theorem wT{fn:dF}{e:af ag->Sem ag}(c:fs[f]?=Z fn)(b:P.funcs[f]?=Z fn)(h:(fn.name== "runtime.NumGoroutine")=Y)(d:fn.body.isNone=U)(j:Extern.findNext fn=I)(g:Extern.find fn=Z e)(i:∀a,Sm P fs fx X W (e a))(a:af ag):Sm P fs fx X W (gz f a):=by
 unfold gz;refine nO (by simp only[c,b]) ?_;simp only[b,h,d,j,g,kg,if_false,if_true];exact bf (auK _) λ_=>bf (i a) λ_=>br _
theorem atF{c b:dF}(i:fs[f]?=Z b)(d:P.funcs[f]?=Z c)(g:(c.name== "runtime.NumGoroutine")=Y)(j:(b.name== "runtime.NumGoroutine")=Y)(e:c.body.isNone=Y)(h:b.body.isNone=Y)(a:af ag):Sm P fs fx X W (gz f a):=by
 unfold gz;refine nO (by simp only[i,d,g,j,e,h,kg,if_false]) ?_;simp only[d,g,e,kg,if_false];exact br _
theorem agJ(f:dF):Extern.findNext (cS f)=I:=av
theorem agK(f:dF):Extern.find (cS f)=I:=av
theorem af5:("no".endsWith ".init")=Y:=av
theorem run_program{p:aA}{k:aA->Sem α}:(program>>=k).run p w=(k p).run p w:=rfl
theorem auL(f:bA):nU P fs (mark (.extern f):Sem Unit):=λfx w a=>⟨λv b e=>by cases e;exact a,λx b e=>by cases e⟩
theorem Vx{g:dF}(b:fs[f]?=Z (cS g))(a:af ag):mj P fs (gz f a):=by
 have e:∀w,(gz f a).run (Lo P fs) w=((mark (.extern f):Sem Unit)>>=λ_=>(unsupported (.extern "no"):Sem Next)).run (Lo P fs) w:=λw=>by
  unfold gz;rw[run_program];simp only[b,agJ,agK,show(cS g).name= "no"from F,show((cS g).body.isNone)=U from F,show("no"== "runtime.NumGoroutine")=Y from F,af5,Bool.false_and,kg,if_false,if_true]
 exactλw=>by
  rw[e];exact Az (auL f) (λ_=>s9 _) w
theorem atG{g:dF}(b:fs[f]?=Z (cS g))(a:af ag):Sm P fs fx X W (gz f a):=(Vx b a).kA
theorem Zm{f:dF}(h:(f.name== "no"&&f.origin== ""&&f.body.isNone)=U):f=cS f:=by
 obtain⟨i,b,c,a,d,e,results,g⟩:=f;simp only[ig,beq_iff_eq,Option.isNone_iff_eq_none]at h;obtain⟨⟨rfl,rfl⟩,rfl⟩:=h;rfl
end
def Pk:ae Nat:=[104,105,106,108,140,141,195,203,204,205,206,210]
noncomputable def NW(f:Nat):Bool:=Pk.contains f||match fs[f]?,Tryz.prog.funcs[f]? with
 |some a,Z b=>(!a.body.isNone&&!b.body.isNone&&!(a.name== "runtime.NumGoroutine")&&!(b.name== "runtime.NumGoroutine"))||(a.name== "no"&&a.origin== ""&&a.body.isNone)
 |_,_=>Y
theorem sorted:(oz 225).all NW=U:=av
theorem Wm:fs.size=225:=av
theorem LB:Tryz.prog.funcs.size=225:=av
theorem abw{f:Nat}(h:f<225):NW f=U:=BI.1 sorted f (List.mem_range.2 h)
theorem Sf{f:Nat}(h:225<=f):fs[f]?=I:=by
 rw[Aa,Wm];exact h
section
variable {X:Loc->Prop}{fx:Obj->Prop}{W:ae Nat}
theorem at5(a:af ag):Sm ak fs fx X W (gz 104 a):=wT (fn:=Tryz.f104) av av av av av F (λa=>abo _) a
theorem at6(a:af ag):Sm ak fs fx X W (gz 105 a):=wT (fn:=Tryz.f105) av av av av av F (avc _ _ (NR _ _) (λ_ _ _ _=>TI _)) a
theorem at7(a:af ag):Sm ak fs fx X W (gz 106 a):=wT (fn:=Tryz.f106) av av av av av F (abm _ _ (NR _ _) (λ_ _ _ _=>avb _ _ _ _)) a
theorem aua(a:af ag):Sm ak fs fx X W (gz 108 a):=wT (fn:=Tryz.f108) av av av av av F (avv) a
theorem aub(a:af ag):Sm ak fs fx X W (gz 140 a):=wT (fn:=Tryz.f140) av av av av av F (abm _ _ (NR _ _) (λ_ _ _ _=>ava _ _ _ _)) a
theorem auc(a:af ag):Sm ak fs fx X W (gz 141 a):=wT (fn:=Tryz.f141) av av av av av F (avd) a
theorem aud(a:af ag):Sm ak fs fx X W (gz 195 a):=wT (fn:=Tryz.f195) av av av av av F (atm _ (λ_=>bf (Tt _) λ_=>br _)) a
theorem aue(a:af ag):Sm ak fs fx X W (gz 203 a):=wT (fn:=Tryz.f203) av av av av av F (abl _ _ (λ_ _=>au7 _ _)) a
theorem auf(a:af ag):Sm ak fs fx X W (gz 204 a):=wT (fn:=Tryz.f204) av av av av av F (TD _ (λ_=>bf (auW _ _) λ_=>bf (Bz _) λ_=>br _)) a
theorem aug(a:af ag):Sm ak fs fx X W (gz 205 a):=wT (fn:=Tryz.f205) av av av av av F (TD _ (λ_=>au8 _)) a
theorem auh(a:af ag):Sm ak fs fx X W (gz 206 a):=wT (fn:=Tryz.f206) av av av av av F (abl _ _ (λ_ _=>au9 _ _)) a
theorem aui(a:af ag):Sm ak fs fx X W (gz 210 a):=wT (fn:=Tryz.f210) av av av av av F (TD _ (λ_=>aa5 _)) a
theorem Vh:Ai ak fs fx X:=λW f c=>by
 by_cases i:f<225
 ·have h:=abw i
  unfold NW at h;rw[Bool.or_eq_true]at h;rcases h with h|h
  ·have:f=104\/f=105\/f=106\/f=108\/f=140\/f=141\/f=195\/f=203\/f=204\/f=205\/f=206\/f=210:=by simpa[Pk]using h
   rcases this with rfl|rfl|rfl|rfl|rfl|rfl|rfl|rfl|rfl|rfl|rfl|rfl
   ·exact at5 c
   ·exact at6 c
   ·exact at7 c
   ·exact aua c
   ·exact aub c
   ·exact auc c
   ·exact aud c
   ·exact aue c
   ·exact auf c
   ·exact aug c
   ·exact auh c
   ·exact aui c
  ·split at h
   ·rename_i a b d n
    rw[Bool.or_eq_true]at h;rcases h with h|h
    ·simp only[ig,Fu]at h
     obtain⟨⟨⟨j,k⟩,l⟩,m⟩:=h;exact atF d n m l k j c
    ·exact atG (g:=a) (d.trans (congrArg Z (Zm h))) c
   ·cases h
 ·have o:mj ak fs (gz f c):=λw=>by
   have e:∀w,(gz f c).run (Lo ak fs) w=(stuck "call: no such function":Sem Next).run (Lo ak fs) w:=λw=>by
    unfold gz;rw[run_program];simp only[Sf (Nat.le_of_not_lt i)]
   rw[e];exact fJ _ w
  exact o.kA
theorem dZ.congr{P:aA}{fs:af dF}{t:Sem Next}(h:∀w,s.run (Lo P fs) w=t.run (Lo P fs) w)(k:dZ P fs t):dZ P fs s:=λw n a e=>k w n a ((h w).symm.trans e)
theorem wy{P:aA}{fs:af dF}{fn:dF}{e:af ag->Sem ag}(b:fs[f]?=Z fn)(g:(fn.name== "runtime.NumGoroutine")=Y)(c:fn.body.isNone=U)(h:Extern.findNext fn=I)(d:Extern.find fn=Z e)(a:af ag):dZ P fs (gz f a):=by
 refine dZ.congr (t:=(mark (.extern f):Sem Unit)>>=λ_=>e a>>=λv=>pure (.value v)) (λw=>?_) (rZ λ_=>rZ λ_=>u6 F);unfold gz;rw[run_program];simp only[b,g,c,h,d,kg,if_false,if_true]
theorem alq(a:af ag):dZ ak fs (gz 104 a):=wy (fn:=Tryz.f104) av av av av F a
theorem alr(a:af ag):dZ ak fs (gz 105 a):=wy (fn:=Tryz.f105) av av av av F a
theorem alu(a:af ag):dZ ak fs (gz 106 a):=wy (fn:=Tryz.f106) av av av av F a
theorem alv(a:af ag):dZ ak fs (gz 108 a):=wy (fn:=Tryz.f108) av av av av F a
theorem alw(a:af ag):dZ ak fs (gz 140 a):=wy (fn:=Tryz.f140) av av av av F a
theorem alx(a:af ag):dZ ak fs (gz 141 a):=wy (fn:=Tryz.f141) av av av av F a
theorem aly(a:af ag):dZ ak fs (gz 195 a):=wy (fn:=Tryz.f195) av av av av F a
theorem alz(a:af ag):dZ ak fs (gz 203 a):=wy (fn:=Tryz.f203) av av av av F a
theorem alA(a:af ag):dZ ak fs (gz 204 a):=wy (fn:=Tryz.f204) av av av av F a
theorem alB(a:af ag):dZ ak fs (gz 205 a):=wy (fn:=Tryz.f205) av av av av F a
theorem alC(a:af ag):dZ ak fs (gz 206 a):=wy (fn:=Tryz.f206) av av av av F a
theorem alD(a:af ag):dZ ak fs (gz 210 a):=wy (fn:=Tryz.f210) av av av av F a
theorem OT:Ah ak fs:=λf c=>by
 by_cases i:f<225
 ·have h:=abw i
  unfold NW at h;rw[Bool.or_eq_true]at h;rcases h with h|h
  ·have:f=104\/f=105\/f=106\/f=108\/f=140\/f=141\/f=195\/f=203\/f=204\/f=205\/f=206\/f=210:=by simpa[Pk]using h
   rcases this with rfl|rfl|rfl|rfl|rfl|rfl|rfl|rfl|rfl|rfl|rfl|rfl
   ·exact alq c
   ·exact alr c
   ·exact alu c
   ·exact alv c
   ·exact alw c
   ·exact alx c
   ·exact aly c
   ·exact alz c
   ·exact alA c
   ·exact alB c
   ·exact alC c
   ·exact alD c
  ·split at h
   ·rename_i a b d m
    rw[Bool.or_eq_true]at h;rcases h with h|h
    ·simp only[ig,Fu]at h
     obtain⟨⟨⟨e,k⟩,j⟩,l⟩:=h;refine dZ.congr (t:=pure (.enter f c)) (λw=>?_) (u6 ?_)
     ·unfold gz
      rw[run_program];simp only[d,e,j,kg,if_false]
     ·show hasB fs f=U
      unfold hasB;rw[d];simpa using e
    ·exact p9 (Vx (g:=a) (d.trans (congrArg Z (Zm h))) c)
   ·cases h
 ·refine dZ.congr (t:=stuck "call: no such function") (λw=>?_) (p9 (fJ _))
  unfold gz;rw[run_program];simp only[Sf (Nat.le_of_not_lt i)]
end
end
section
open Go.Proofs Go.Extern
def Nj:ae Nat:=[3,4,5,6,7,8,9,10,11,12,13,14,15,16,17,18,19,20,21,22,23,24,25,26,27,28,29,31,32,33,34,35,36,37,39,40,41,42,45,47,48,49,50,51,52,53,54,56,58,59,60,61,62,63,64,65,67,68,69,72,73,84,85,86,87,88,89,90,91,92,96,97,98,99,100,101,102,103,104,105,106,107,108,109,115,116,119,120,128,129,130,131,132,133,134,135,136,137,138,139,140,141,152,153,154,155,156,157,158,159,160,161,162,163,164,165,166,167,168,169,170,171,172,173,174,175,176,177,178,179,180,203,204,205,206,210,195]
def Hq:ae Nat:=[30,38,43,44,46,55,57,66]
noncomputable def pU(f:Nat):dF:=if Nj.contains f then Tryz.prog.funcs.getD f default else if f==30 then MM else if f==38 then MN else if f==43 then Rj else if f==44 then Ju else if f==46 then Yo else if f==55 then EE else if f==57 then MO else if f==66 then EF else cS (Tryz.prog.funcs.getD f default)
theorem agU:fs=((oz 225).map pU).toArray:=av
theorem Wl{f:Nat}(h:f<225):fs[f]?=Z (pU f):=by
 rw[agU];simp[h]
theorem Wn{f:Nat}(h:f<225):Tryz.prog.funcs[f]?=Z (Tryz.prog.funcs.getD f default):=by
 have a:f<Tryz.prog.funcs.size:=by rw[LB];exact h
 rw[wZ a,nk,wZ a];rfl
theorem agV{f:Nat}{a:dF}(h:fs[f]?=Z a):f<225:=by
 have:=(gG.1 h).1;rw[Wm]at this;exact this
theorem aoV:Nj.all (λf=>((Tryz.prog.funcs.getD f default).body.map (jf ak)).getD U)=U:=av
noncomputable def d38:bl:=match Tryz.f38.body with
 |some (.seq _ (.seq _ (.seq _ d)))=>d
 |_=>.skip
noncomputable def DI:bl:=match Tryz.f57.body with
 |some (.seq _ (.seq _ (.seq _ (.seq _ (.seq (.seq _ e) _)))))=>e
 |_=>.skip
noncomputable def DJ:bl:=match Tryz.f57.body with
 |some (.seq _ (.seq _ (.seq _ (.seq _ (.seq _ f)))))=>f
 |_=>.skip
inductive sV:Wh->ae aK->ae aK->bl->bl->Prop
 |CP (n:Nat) (h:74<=n):sV (38,n,I) [.code d38] [.code d38] E7 CP
 |Bv (n:Nat) (h:33<=n):sV (57,n,I) [.code DI,.code DJ] [.code DI,.code DJ] Hf Bv
 |oQ (n:Nat) (h:25<=n):sV (30,n,I) [] [] Bu oQ
abbrev CR(a:Wh):=uz ak (sV a) [] []
theorem aoZ(f:dF)(h:(f.body.map (jf ak)).getD U=U):jf ak (f.body.getD .skip)=U:=by
 cases hb:f.body with
 |none=>rfl
 |some c=>rw[hb]at h;exact h
theorem aeZ(n:Nat)(h:74<=n):CR (38,n,I) (MN.body.getD .skip) (Tryz.f38.body.getD .skip):=by
 show CR (38,n,I) (.seq _ (.seq _ (.seq E7 d38))) (.seq _ (.seq _ (.seq CP d38)));exact .seq (.same _ av) (.seq (.same _ av) (.seq (.spec (.CP n h)) (.same _ av)))
theorem ae0(n:Nat)(h:33<=n):CR (57,n,I) (MO.body.getD .skip) (Tryz.f57.body.getD .skip):=by
 show CR (57,n,I) (.seq _ (.seq _ (.seq _ (.seq _ (.seq (.seq Hf DI) DJ))))) (.seq _ (.seq _ (.seq _ (.seq _ (.seq (.seq Bv DI) DJ)))));exact .seq (.same _ av) (.seq (.same _ av) (.seq (.same _ av) (.seq (.same _ av) (.seq (.seq (.spec (.Bv n h)) (.same _ av)) (.same _ av)))))
theorem aeY(n:Nat)(h:25<=n):CR (30,n,I) (MM.body.getD .skip) (Tryz.f30.body.getD .skip):=by
 show CR (30,n,I) (.seq _ (.seq _ Bu)) (.seq _ (.seq _ oQ));exact .seq (.same _ av) (.seq (.same _ av) (.spec (.oQ n h)))
theorem agn(P:aA)(f:bA)(a:af ag)(c:dD){b:dF}(h:P.funcs[f]?=Z b):b.ntmps<=(bG P f a c).tmps.size:=by
 simp only[bG,h,iy,pM,Array.size_append,Array.size_replicate];omega
theorem Ls{a b:dF}(o:fs[f]?=Z a)(i:Tryz.prog.funcs[f]?=Z b)(q:a.ntmps=b.ntmps)(e:a.body.isSome=U)(g:b.body.isSome=U)(r:qO ak f=Y)(h:∀n,b.ntmps<=n->CR (f,n,I) (a.body.getD .skip) (b.body.getD .skip))(d:af ag)(c:dD)(p:c=.normal\/(c=.deferred/\wx ak f=U)):fE ak sV (bG (Lo ak fs) f d c) (bG ak f d c):=by
 obtain⟨j,e⟩:=Ae.1 e;obtain⟨k,g⟩:=Ae.1 g;have h:=h _ (agn ak f d c i);rw[e,g]at h;refine⟨[.code j],?_,?_,⟨p,by simp[bG],r⟩,.inl F⟩
 ·have l:(Lo ak fs).funcs[f]?=Z a:=o
  simp only[bG,l,i,iy,vG,e,q,pM]
 ·have m:(bG ak f d c).todo=[.code k]:=by simp only[bG,i,vG,g,pM]
  rw[m];exact .cons (.code h) .nil
theorem O8(f:bA)(d:af ag)(c:dD)(g:hasB fs f=U)(j:c=.normal\/(c=.deferred/\wx ak f=U)):FP ak fs sV c (bG (Lo ak fs) f d c) (bG ak f d c):=by
 cases pZ:qO ak f with
 |true=>exact .inr ⟨f,d,pZ,F,F,λh=>j.elim (λe=>by rw[e]at h;cases h) (·.2)⟩
 |false=>
 refine .inl ?_;have m:f<225:=by
  unfold hasB at g;cases h:fs[f]? with
  |none=>rw[h]at g;cases g
  |some a=>exact agV h
 have k:=Wl m;have p:=Wn m;have i:(pU f).body.isSome=U:=by
  unfold hasB at g;rw[k]at g;exact g
 by_cases l:Nj.contains f=U
 ·have e:pU f=Tryz.prog.funcs.getD f default:=by unfold pU;rw[if_pos l]
  rw[e]at k i;exact Ls k p F i i pZ (λn _=>.same _ (aoZ _ (BI.1 aoV f (by simpa using l)))) d c j
 ·by_cases o:Hq.contains f=U
  ·have:f=30\/f=38\/f=43\/f=44\/f=46\/f=55\/f=57\/f=66:=by simpa[Hq]using o
   rcases this with rfl|rfl|rfl|rfl|rfl|rfl|rfl|rfl
   ·exact Ls (a:=MM) (b:=Tryz.f30) av av av av av pZ aeY d c j
   ·exact Ls (a:=MN) (b:=Tryz.f38) av av av av av pZ aeZ d c j
   ·exact absurd pZ (by rw[show qO ak 43=U from by kernel_rfl];simp)
   ·exact absurd pZ (by rw[show qO ak 44=U from by kernel_rfl];simp)
   ·exact absurd pZ (by rw[show qO ak 46=U from by kernel_rfl];simp)
   ·exact absurd pZ (by rw[show qO ak 55=U from by kernel_rfl];simp)
   ·exact Ls (a:=MO) (b:=Tryz.f57) av av av av av pZ ae0 d c j
   ·exact absurd pZ (by rw[show qO ak 66=U from by kernel_rfl];simp)
  ·have e:pU f=cS (Tryz.prog.funcs.getD f default):=by
    have:¬(f=30\/f=38\/f=43\/f=44\/f=46\/f=55\/f=57\/f=66):=λh=>o (by simpa[Hq]using h);simp only[not_or]at this;unfold pU;simp only[l,this,beq_iff_eq,if_false,kg]
   rw[e]at i;cases i
theorem Ob(h:wx ak f=U):f=44:=by
 have c:f<225:=by
  unfold wx at h;cases h2:Tryz.prog.funcs[f]? with
  |none=>rw[h2]at h;cases h
  |some a=>have:=(gG.1 h2).1;rw[LB]at this;exact this
 have b:(oz 225).all (λf=>!(wx ak f)||f==44)=U:=by kernel_rfl
 have:=BI.1 b f (List.mem_range.2 c);rw[h]at this;simpa using this
theorem call44(p:aA)(a:p=Lo ak fs\/p=ak)(x:af ag)(w:au):(gz 44 x).runT p w #[]=(.ok (.enter 44 x) w,#[]):=by
 rcases a with rfl|rfl
 ·exact Bs av w #[]
 ·exact Bs av w #[]
theorem aoi(g:dF):(cS g).results=g.results:=rfl
theorem ari:(pU 30).results=(Tryz.prog.funcs.getD 30 default).results:=av
theorem arj:(pU 38).results=(Tryz.prog.funcs.getD 38 default).results:=av
theorem ark:(pU 43).results=(Tryz.prog.funcs.getD 43 default).results:=av
theorem arl:(pU 44).results=(Tryz.prog.funcs.getD 44 default).results:=av
theorem arn:(pU 46).results=(Tryz.prog.funcs.getD 46 default).results:=av
theorem aro:(pU 55).results=(Tryz.prog.funcs.getD 55 default).results:=av
theorem arp:(pU 57).results=(Tryz.prog.funcs.getD 57 default).results:=av
theorem arq:(pU 66).results=(Tryz.prog.funcs.getD 66 default).results:=av
theorem ars(f:bA):(fs[f]?=I/\Tryz.prog.funcs[f]?=I)\/∃b g,fs[f]?=Z b/\Tryz.prog.funcs[f]?=Z g/\b.results=g.results:=by
 by_cases a:f<225
 ·refine .inr ⟨_,_,Wl a,Wn a,?_⟩
  show(pU f).results=(Tryz.prog.funcs.getD f default).results;by_cases c:Nj.contains f=U
  ·unfold pU;rw[if_pos c]
  ·by_cases d:Hq.contains f=U
   ·have:f=30\/f=38\/f=43\/f=44\/f=46\/f=55\/f=57\/f=66:=by simpa[Hq]using d
    rcases this with rfl|rfl|rfl|rfl|rfl|rfl|rfl|rfl
    ·exact ari
    ·exact arj
    ·exact ark
    ·exact arl
    ·exact arn
    ·exact aro
    ·exact arp
    ·exact arq
   ·have:¬(f=30\/f=38\/f=43\/f=44\/f=46\/f=55\/f=57\/f=66):=λh=>d (by simpa[Hq]using h)
    simp only[not_or]at this;unfold pU;simp only[c,this,beq_iff_eq,if_false,kg];exact aoi _
 ·exact .inl ⟨Sf (Nat.le_of_not_lt a),by rw[Aa,LB];exact Nat.le_of_not_lt a⟩
theorem wJ:xq ak fs:=by
 refine⟨λg=>?_,by kernel_rfl⟩;unfold Program.stepOf;have a:(Lo ak fs).funcs.all (λf=>match f.body with|some c=>(readies c).isEmpty|none=>U)=U:=by kernel_rfl
 rw[Array.findIdx?_eq_none_iff];intro f d;have:=Array.all_eq_true'.1 a f d;cases hb:f.body with
 |none=>rfl
 |some c=>
  rw[hb]at this;have b:readies c=[]:=List.isEmpty_iff.1 this;simp[b]
theorem S7(c:Loc->Prop):OA ak fs sV c:=⟨wJ,Vh,OT,λf a d=>O8 f a .normal d (.inl F),λf a b=>O8 f a .deferred (by rw[Ob b];kernel_rfl) (.inr ⟨F,b⟩),λf b p e x w=>by rw[Ob b];exact call44 p e x w,ars⟩
end
structure cz where
 S:Nat
 D:Nat
 n:Nat
 st:Bool
def cV(s:cz):ag:=.agg #[ptr s.S 0,ah s.n,.bool s.st]
def qY(k:dp):ag:=.agg #[ay k.D,ay k.T]
structure yU(Hid:Loc->Prop)(w W:au)(s:cz):Prop where
 lone:∃a b,w.heap[s.D]?=Z (.chan 2 #[cV s] Y a b Y)
 real:∃k,W.heap[s.D]?=Z (.chan 0 #[] s.st k k Y)
 sh:w.shape? s.S=Z (109,10)/\W.shape? s.S=Z (109,14)
 done:W.cell? (be s.S 10)=Z (ay s.D)
 cnt:W.cell? (be s.S 11)=Z (jI (if s.st then 0 else s.n))
 qi:W.cell? (be s.S 12)=Z (.int .u32 0)
 stop:W.cell? (be s.S 13)=Z (.bool s.st)
 bU:∀i,10<=i->i<14->Hid (.cell (be s.S i))
 le:s.n<=9
structure KF(Hid:Loc->Prop)(w W:au)(ss:ae cz)(k:dp):Prop where
 pF:∃s∈ss,s.S=k.S/\s.D=k.D
 work:∃a b,w.heap[k.W]?=Z (.chan 1 #[qY k] Y a b Y)
 told:∃a b,w.heap[k.T]?=Z (.chan 3 #[] Y a b Y)
 yD:∃j,W.heap[k.T]?=Z (.chan 0 #[] Y j j Y)
 wb:∃a b,w.heap[k.wb]?=Z (.chan 4 #[] Y a b Y)
 ra:W.heap[k.wb]?=Z (.cells #[ay k.W,ay k.T] 142)
 sb:∃a b,w.heap[k.sb]?=Z (.chan 4 #[] Y a b Y)
 tC:W.heap[k.sb]?=Z (.cells #[ptr k.S 0] 39)
 bU:Hid (.cell (be k.wb 0))/\Hid (.cell (be k.wb 1))/\Hid (.cell (be k.sb 0))
inductive Dk(ws:ae dp)(ss:ae cz)(b:Nat):Nat->Prop
 |work (k:dp) (h:k∈ws) (e:b=k.W):Dk ws ss b 1
 |done (s:cz) (h:s∈ss) (e:b=s.D):Dk ws ss b 2
 |told (k:dp) (h:k∈ws) (e:b=k.T):Dk ws ss b 3
 |box:Dk ws ss b 4
 |gate (e:b=bq):Dk ws ss b 5
 |hand (e:b=dx):Dk ws ss b 6
def yA(v:ag):ag:=.iface 3 v
def bK:ae cz->ag
 |[]=>ah 0
 |s::ss=>if s.st then bK ss else yA (bK ss)
theorem Yy:∀ss:ae cz,(bK ss=ah 0\/∃x,bK ss=yA x/\∀o,x≠.chan o)/\∀o,bK ss≠.chan o
 |[]=>⟨.inl F,λo e=>by cases e⟩
 |s::ss=>by
  have h:=Yy ss;simp only[bK];split
  ·exact h
  ·exact⟨.inr ⟨_,F,h.2⟩,λo e=>by cases e⟩
theorem RA{f}:∀{ss},(∀s∈ss,(f s).st=s.st)->bK (ss.map f)=bK ss
 |[],_=>rfl
 |s::ss,h=>by
  simp only[ft,bK];rw[h s aZ,RA λx a=>h x (by simp[a])]
theorem Ze{f:cz->cz}(h:∀s,(f s).S=s.S)(ss:ae cz):(ss.map f).map (·.S)=ss.map (·.S):=by
 simp_all
structure fL(Hid:Loc->Prop)(main:Bool)(ws:ae dp)(ss:ae cz)(w W:au):Prop where
 s:∀s∈ss,yU Hid w W s
 k:∀k∈ws,KF Hid w W ss k
 chans:∀b cap buf cl x y tm,w.heap[b]?=Z (.chan cap buf cl x y tm)->cl=Y/\tm=Y/\Dk ws ss b cap/\(cap=4->buf=#[])
 gate:∃a b,w.heap[bq]?=Z (.chan 5 (if main then#[bK ss]else#[]) Y a b Y)
 hand:∃v a b,w.heap[dx]?=Z (.chan 6 #[v] Y a b Y)/\(v=.chan I\/∃s∈ss,v=ay s.D)
 CC:∀k∈ws,∀k'∈ws,k.W=k'.W->k=k'
 CB:∀k∈ws,∀k'∈ws,k.T=k'.T->k=k'
 zE:∀k∈ws,∀k'∈ws,k.g=k'.g->k=k'
 x9:∀s∈ss,∀s'∈ss,s.D=s'.D->s=s'
 ua:∀s∈ss,∀s'∈ss,s.S=s'.S->s=s'
 count:∀s∈ss,(ws.filter λk=>k.S==s.S).length=s.n
 nodup:ws.Nodup
 Bm:(ss.map (·.S)).Nodup
section
variable {Hid:Loc->Prop}{main:Bool}{ws:ae dp}{ss:ae cz}{w W V X:au}
theorem iS.CF(K:iS w W V X){c s:Nat}{a}{d tm}(h:w.heap[b]?=Z (.chan c a d s r tm)):V.heap[b]?=Z (.chan c a d s r tm):=(K.chan b _ h F).1
theorem iS.ED(K:iS w W V X){c s:Nat}{a}{d tm}(h:w.heap[b]?=Z (.chan c a d s r tm)):X.heap[b]?=W.heap[b]?:=(K.chan b _ h F).2
theorem Mp(b:Rel (bN ak) Hid w W)(K:iS w W V X){a}(h:Hid (.cell a)):X.cell? a=W.cell? a:=(K.cell a (b.mT a h).1 (b.mT a h).2).2
theorem vt{w:au}{b}{x}(h:w.shape? b=Z x):b<w.heap.size:=by
 unfold fD at h;cases hb:w.heap[b]? with
 |none=>rw[hb]at h;cases h
 |some o=>grind
theorem fL.keep(L:fL Hid main ws ss w W)(e:Rel (bN ak) Hid w W)(K:iS w W V X):fL Hid main ws ss V X:=by
 refine⟨λs B=>?_,λk f=>?_,λb z u C x y tm A=>L.chans b _ _ _ x y _ (K.M3 b _ A F),?_,?_,L.CC,L.CB,L.zE,L.x9,L.ua,L.count,L.nodup,L.Bm⟩
 ·have l:=L.s s B
  obtain⟨a,b,i⟩:=l.lone;obtain⟨k,f⟩:=l.real;refine⟨⟨a,b,K.CF i⟩,⟨k,by rw[K.ED i];exact f⟩,?_,?_,?_,?_,?_,l.bU,l.le⟩
  ·obtain⟨c,d⟩:=K.shape _ (vt l.sh.1)
   rw[c,d];exact l.sh
  ·rw[Mp e K (l.bU _ ai ai)];exact l.done
  ·rw[Mp e K (l.bU _ ai ai)];exact l.cnt
  ·rw[Mp e K (l.bU _ ai ai)];exact l.qi
  ·rw[Mp e K (l.bU _ ai ai)];exact l.stop
 ·have l:=L.k k f
  obtain⟨j,p,c⟩:=l.work;obtain⟨m,q,d⟩:=l.told;obtain⟨n,r,g⟩:=l.wb;obtain⟨o,t,h⟩:=l.sb;exact⟨l.pF,⟨j,p,K.CF c⟩,⟨m,q,K.CF d⟩,by rw[K.ED d];exact l.yD,⟨n,r,K.CF g⟩,by rw[K.ED g];exact l.ra,⟨o,t,K.CF h⟩,by rw[K.ED h];exact l.tC,l.bU⟩
 ·obtain⟨a,b,c⟩:=L.gate
  exact⟨a,b,K.CF c⟩
 ·obtain⟨v,a,b,c,d⟩:=L.hand
  exact⟨v,a,b,K.CF c,d⟩
theorem yU.cells{s}(l:yU Hid w W s)(f:Rel (bN ak) Hid w W):∃d:af ag,d.size=14/\W.heap[s.S]?=Z (.cells d 109):=by
 obtain⟨a,b⟩:=l.sh;have aE:=vt a;cases ho:w.heap[s.S]? with
 |none=>simp_all
 |some o=>
  obtain⟨O,g,e⟩:=f.obj _ _ ho;unfold fD at a b;rw[ho]at a;cases e with
  |same=>simp_all
  |cut c d t _ _ _=>
   simp_all
  |kR=>cases a
  |view=>cases a
theorem vW{W}{b i}{d}{t}{v}(h:W.heap[b]?=Z (.cells d t))(a:W.cell? (be b i)=Z v):eC W (be b i) v (Z (t,d.size)):=by
 refine⟨a,?_,?_⟩
 ·unfold pN;rw[h];simp
 ·show W.shape? b=_
  unfold fD;rw[h]
theorem yU.at{s}(l:yU Hid w W s)(c:Rel (bN ak) Hid w W){i}{v}(a:W.cell? (be s.S i)=Z v):eC W (be s.S i) v (Z (109,14)):=by
 obtain⟨d,b,h⟩:=l.cells c;have:=vW h a;rw[b]at this;exact this
theorem fL.wK(L:fL Hid main ws ss w W)(f:Rel (bN ak) Hid w W){k}(e:k∈ws):wK k W:=by
 have l:=L.k k e;obtain⟨s,g,c,d⟩:=l.pF;have b:=L.s s g;have a:=b.at f b.done;rw[c,d]at a;refine⟨vW l.ra ?_,vW l.ra ?_,vW l.tC ?_,a⟩
 ·unfold fR;rw[l.ra];rfl
 ·unfold fR;rw[l.ra];rfl
 ·unfold fR;rw[l.tC];rfl
end
noncomputable def dY(o:iq)(k:dp)(N:Nat)(f:ag)(a:ae az)(B:Nat):YS:={s:=Seat.one k.T (ah 0) Y (λg=>g=rG o k.W k.T N f a),own:=k.T,K:=λw=>eC w (be N 1) (ay k.T) (Z (142,2)),St:=λl=>l=.cell (be N 1),B:=B}
structure uC where
 o:iq
 k:dp
 A':az
 L':ae az
 A:az
 N:Nat
 f:ag
 Bj:ae az
noncomputable def xB:af bh:=#[aO 4 (.call {callee:=.value (tm 1),args:=#[],argTypes:=#[]}),dR (.send (kc gL) (tm 3))]
noncomputable def tw(o:iq)(k:dp)(N:Nat)(f g:ag)(s:cz):az:=⟨66,⟨[.agg #[ay k.W,ay k.T],f,ay N,g,o.t 2,ay k.W,ay k.T,.bool Y,ay k.D,.bool U,cV s]++o.l⟩,[.inRegion xB [0,1],.code .ret],[],.run,.normal,I⟩
structure dM where
 fr':az
 cs':ae az
 w:au
 h:Nat
 fr:az
 cs:ae az
 gs:af aH
 W:au
 sl:aj (Nat×Nat)
 T:dJ
 q:Nat->Nat
 m:fg
 B:Nat
 St:Nat->Loc->Prop
 At:Nat->Loc->Prop
 Shun:Loc->Prop
 Hid:Loc->Prop
 ax:Nat->aj YS
 ws:ae dp
 ss:ae cz
 dG:aj uC
def dM.bW(s:dM):il:=⟨s.fr',s.cs',s.w⟩
def dM.E(s:dM)(b:az)(c:ae az)(a:az)(l:ae az):Prop:=match s.dG with
 |none=>False
 |some j=>b=j.A'/\c=j.L'/\a=j.A/\l=[wrap]
structure Core(Hid:Loc->Prop)(St At:Nat->Loc->Prop)(Shun:Loc->Prop)(ax:Nat->aj YS)(ws:ae dp)(ss:ae cz)(dG:aj uC)(B n:Nat)(w W:au):Prop where
 rel:Rel (bN ak) Hid w W
 fo:fL Hid dG.isNone ws ss w W
 low:W.heap.size<=B
 qW:∀g l,St g l->Hid l/\∃a,l=.cell a/\a.off<=10
 mI:∀l,Shun l↔∃s∈ss,l=.cell (be s.S 11)\/l=.cell (be s.S 12)
 y8:∀k∈ws,∀l,Oe k l->At k.g l
 Av:∀g l,At g l->Shun l
 cK:∀k∈ws,∀l,tH k l->St k.g l
 yr:∀k∈ws,∀s∈ss,s.S=k.S->s.st=Y->∃B0,ax k.g=Z (wY k B0)/\Of k B0
 gone:∀k∈ws,∀s∈ss,s.S=k.S->s.st=U->ax k.g=I
 yq:∀i y,ax i=Z y->(∃k∈ws,∃s∈ss,s.S=k.S/\s.st=Y/\k.g=i/\∃B0,y=wY k B0)\/∃j,dG=Z j/\i=0/\∃B0,y=dY j.o j.k j.N j.f j.Bj B0
 g0:∀k∈ws,k.g≠0/\k.g<n
 Be:∀j,dG=Z j->j.k∈ws/\(∃s∈ss,s.S=j.k.S/\s.st=Y)/\(∃B0,ax 0=Z (dY j.o j.k j.N j.f j.Bj B0))/\(∃a b,w.heap[j.N]?=Z (.chan 4 #[] Y a b Y))/\W.heap[j.N]?=Z (.cells #[ay j.k.W,ay j.k.T] 142)/\Hid (.cell (be j.N 1))/\∃s,j.A'=tw j.o j.k j.N j.f (bK ss) s
structure Base(s:dM):Prop where
 eo:stepT ak s.m=runT ak (crowd s.gs s.W s.sl) s.h
 hold:fe ak s.St s.At s.Shun s.ax s.h s.B s.T s.gs s.W s.q
 top:s.gs[s.h]?=Z (G s.fr s.cs)
 anv:∃w0 Te,s.m=crowd s.gs w0 Te
 core:Core s.Hid s.St s.At s.Shun s.ax s.ws s.ss s.dG s.B s.gs.size s.w s.W
def Off(w:au)(b:Nat):Prop:=(∃u,w.heap[b]?=Z (.view ⟨0,0,Z 0⟩ u))\/b=bq\/b=dx
structure mN(w W w' W':au):Prop where
 v:∀(b:Nat)(u:aJ),w.heap[b]?=Z (.view ⟨0,0,Z 0⟩ u)->w'.heap[b]?=Z (.view ⟨0,0,Z 0⟩ u)
 r:∀b:Nat,Off w b->W'.heap[b]?=W.heap[b]?
 sz:w.heap.size<=w'.heap.size
 sh:∀b:Nat,b<w.heap.size->W'.shape? b=W.shape? b
theorem mN.refl(w W):mN w W w W:=⟨λ_ _ h=>h,λ_ _=>rfl,df _,λ_ _=>rfl⟩
theorem mN.trans{a A b B c C}(h:mN a A b B)(k:mN b B c C):mN a A c C:=⟨λx u e=>k.v x u (h.v x u e),λx o=>(k.r x (o.imp (λ⟨u,e⟩=>⟨u,h.v x u e⟩) id)).trans (h.r x o),sK h.sz k.sz,λx d=>(k.sh x (ayS d h.sz)).trans (h.sh x d)⟩
theorem mN.at{a A b B}(h:mN a A b B)(d):mN a A b (B.at d):=⟨h.v,h.r,h.sz,h.sh⟩
theorem mN.re{a A b B}(h:mN a A b B)(t)(d):mN a A (YtgahemdblfapeaaGreatDoor.re b t d) B:=⟨h.v,h.r,h.sz,h.sh⟩
theorem iS.dead{Hid}{a}{ws}{ss}{w W V X}(K:iS w W V X)(L:fL Hid a ws ss w W):mN w W V X:=by
 refine⟨λb u h=>(K.chan b _ h F).1,λb o=>?_,K.size,λb c=>(K.shape b c).2⟩;rcases o with⟨u,h⟩|rfl|rfl
 ·exact(K.chan b _ h rfl).2
 ·obtain⟨_,_,h⟩:=L.gate
  exact(K.chan _ _ h rfl).2
 ·obtain⟨_,_,_,h,_⟩:=L.hand
  exact(K.chan _ _ h rfl).2
def Real(s a:dM):Prop:=(∃N,iz ak N s.m s.T=(.next a.m,a.T))/\mN s.w s.W a.w a.W
theorem Real.refl(s):Real s s:=⟨⟨0,F⟩,.refl .. ⟩
theorem Real.trans{a b c}(h:Real a b)(k:Real b c):Real a c:=let⟨⟨n,f⟩,d⟩:=h;let⟨⟨m,e⟩,g⟩:=k;⟨⟨n+m,kG f e⟩,d.trans g⟩
section
variable {Hid:Loc->Prop}{St At:Nat->Loc->Prop}{Shun:Loc->Prop}{ax:Nat->aj YS}{ws:ae dp}{ss:ae cz}{dG:aj uC}{B n:Nat}{w W V X:au}
theorem Core.S3(C:Core Hid St At Shun ax ws ss dG B n w W){l}(h:Shun l):Hid l:=by
 obtain⟨s,a,e⟩:=(C.mI l).1 h;rcases e with rfl|rfl
 ·exact(C.fo.s s a).bU _ ai ai
 ·exact(C.fo.s s a).bU _ ai ai
theorem Core.aaz(C:Core Hid St At Shun ax ws ss dG B n w W){i}{y}{c}(p:ax i=Z y)(g:y.s.has c):∃f e a b,w.heap[c]?=Z (.chan f e Y a b Y):=by
 rcases C.yq i y p with⟨k,d,s,x,r,t,u,l,rfl⟩|⟨j,q,rfl,l,rfl⟩
 ·rcases(zZ k _).1 g with rfl|rfl
  ·obtain⟨a,b,h⟩:=(C.fo.k k d).work;exact⟨_,_,a,b,h⟩
  ·obtain⟨z,m,v,o⟩:=(C.fo.k k d).pF
   obtain⟨a,b,h⟩:=(C.fo.s _ m).lone;rw[o]at h;exact⟨_,_,a,b,h⟩
 ·obtain⟨d,_⟩:=C.Be j q
  have:=Seat.one_has.1 g;subst this;obtain⟨a,b,h⟩:=(C.fo.k _ d).told;exact⟨_,_,a,b,h⟩
theorem Core.keeps(C:Core Hid St At Shun ax ws ss dG B n w W)(K:iS w W V X)(f:Rel (bN ak) Hid V X){i}{y}(l:ax i=Z y):y.K X:=by
 have e:=C.fo.keep C.rel K;rcases C.yq i y l with⟨k,o,s,t,p,q,r,d,rfl⟩|⟨j,m,rfl,d,rfl⟩
 ·exact e.wK f o
 ·obtain⟨_,_,_,⟨a,b,g⟩,h,_⟩:=C.Be j m
  have c:X.heap[j.N]?=Z (.cells #[ay j.k.W,ay j.k.T] 142):=by rw[K.ED g];exact h
  exact vW c (by unfold fR;rw[c];rfl)
theorem Core.keep(C:Core Hid St At Shun ax ws ss dG B n w W)(K:iS w W V X)(e:Rel (bN ak) Hid V X){c}(l:X.heap.size<=c):Core Hid St At Shun ax ws ss dG c n V X:=⟨e,C.fo.keep C.rel K,l,C.qW,C.mI,C.y8,C.Av,C.cK,C.yr,C.gone,C.yq,C.g0,λj m=>by
                                                                                                                                                                 obtain⟨f,g,h,⟨a,b,d⟩,i,k⟩:=C.Be j m;exact⟨f,g,h,⟨a,b,K.CF d⟩,by rw[K.ED d];exact i,k⟩⟩
theorem Core.re(C:Core Hid St At Shun ax ws ss dG B n w W)(d):Core Hid St At Shun ax ws ss dG B n (re w W.tape d) (W.at d):=by
 have b:Rel (bN ak) Hid (YtgahemdblfapeaaGreatDoor.re w W.tape d) (W.at d):=⟨C.rel.size,F,F,C.rel.os,C.rel.output,C.rel.obj,C.rel.mT,C.rel.pd⟩;refine⟨b,?_,C.low,C.qW,C.mI,C.y8,C.Av,C.cK,C.yr,C.gone,C.yq,C.g0,C.Be⟩;exact⟨λs c=>let l:=C.fo.s s c;⟨l.lone,l.real,l.sh,l.done,l.cnt,l.qi,l.stop,l.bU,l.le⟩,λk a=>let l:=C.fo.k k a;⟨l.pF,l.work,l.told,l.yD,l.wb,l.ra,l.sb,l.tC,l.bU⟩,C.fo.chans,C.fo.gate,C.fo.hand,C.fo.CC,C.fo.CB,C.fo.zE,C.fo.x9,C.fo.ua,C.fo.count,C.fo.nodup,C.fo.Bm⟩
end
theorem settle{St At}{Shun}{ax}{h B}{T}{c}{W}{q}{sl}{f}{e}(C:fe ak St At Shun ax h B T c W q)(r:c[h]?=Z (G f e)){Hid}{ws}{ss}{dG}{w}
  (K:Core Hid St At Shun ax ws ss dG B c.size w W)(b)(a):
  ∃s:dM,Base s/\(∃N,iz ak N (crowd c W sl) T=(.next s.m,s.T))/\s.fr'=b/\s.cs'=a/\s.fr=f/\s.cs=e/\s.h=h/\s.dG=dG/\s.ws=ws/\s.ss=ss/\(∃t d,s.w=re w t d)/\s.gs.size=c.size/\∃d,s.W=W.at d:=by
 obtain⟨N,v,j,k,d,u,x,l,m,i,o,p,g⟩:=C.ready _ T _ W q _ F _ r F;refine⟨⟨b,a,re w W.tape d,h,f,e,k,W.at d,u,j,x,v,B,St,At,Shun,Hid,ax,ws,ss,dG⟩,⟨m,p,o,g,?_⟩,⟨N,l⟩,F,F,F,F,F,F,F,F,⟨_,_,F⟩,i,_,F⟩;have:=K.re d;rw[<-i]at this;exact this
theorem Base.go{s}(b:Base s){l}{v}{V X}{H}(hs:aG ak (s.h==0) (G s.fr s.cs) s.W=dO l v X H)(C:Rel (bN ak) s.Hid V X)(K:iS s.w s.W V X)(he:∀e∈H,qt s.Hid V.heap.size e)(R)(Q):∃j:dM,Base j/\Real s j/\j.fr'=R/\j.cs'=Q/\j.fr=l/\j.cs=v/\j.h=s.h/\j.dG=s.dG/\j.ws=s.ws/\j.ss=s.ss/\(∃t d,j.w=re V t d):=by
 have hB:s.B<=max s.B X.heap.size:=Nat.le_max_left ..;have bH:=C.size;have hd:DY s.St s.ax s.Shun (max s.B X.heap.size) s.W X H:=by
  refine⟨λi y c A hc=>?_,λi y A _=>b.core.keeps K C A,λe hE=>?_⟩
  ·obtain⟨P,O,x,z,h⟩:=b.core.aaz A hc
   exact K.ED h
  ·have u:=he e hE
   obtain⟨E,wr,sy⟩:=e;cases E with
   |cell a=>
    obtain⟨o,q,J⟩:=u;refine⟨λx k=>?_,by simp,by simp,?_⟩
    ·simp only[gy,lS,ij]at k
     subst k;exact⟨λg m=>absurd (b.core.qW g _ m).1 o,λm=>absurd (b.core.S3 m) o⟩
    ·show a.block<_
     omega
   |obj r=>
    obtain⟨o,q⟩:=u;have rJ:r<max s.B X.heap.size:=by omega
    have D:∀x:Touch,x.loc=.obj r->As s.St s.Shun x:=λx L=>by
     refine⟨λg m=>?_,λm=>?_⟩
     ·obtain⟨a,e,_⟩:=(b.core.qW g _ m).2
      rw[L]at e;cases e
     ·obtain⟨s0,_,e⟩:=(b.core.mI _).1 m
      rw[L]at e;rcases e with e|e<;>cases e
    cases sy<;>cases wr<;>first
     |exact⟨λx k=>by simp only[gy,lS,ij]at k;subst k;exact D _ rfl,by simp,by simp,rJ⟩
     |(simp at q)
   |mark mk=>
    cases mk with
    |extern f=>exact⟨λx k=>by simp[gy,lS]at k,by simp,by simp,trivial⟩
    |noRoom=>exact⟨λx k=>by simp[gy,lS]at k,by simp,by simp,trivial⟩
    |_=>exact u.elim
   |_=>exact u.elim
 obtain⟨o,q,J,h4⟩:=b.hold.own hB b.top hd;have M:=vJ (sl:=s.sl) b.top hs;have hK:Core s.Hid s.St s.At s.Shun s.ax s.ws s.ss s.dG (max s.B X.heap.size) (((s.gs.map (eM ak (G s.fr s.cs) (G l v) X)).setIfInBounds s.h (G l v)).size) V X:=by
  have:=b.core.keep K C (Nat.le_max_right s.B _);rw[J];exact this
 obtain⟨j,hb,⟨N,hN⟩,S,T,e3,e4,e5,e6,e7,e8,p,_,dW,eW⟩:=settle o q hK ..;refine⟨j,hb,⟨⟨N+1,?_⟩,?_⟩,S,T,e3,e4,e5,e6,e7,e8,p⟩
 rotate_left
 ·obtain⟨t,d,p⟩:=p
  rw[eW,p];exact((K.dead b.core.fo).at _).re ..
 simp only[iz,b.eo,M];exact hN
noncomputable abbrev LL:aA:=Lo ak fs
section
variable {R:ag->au->Prop}{O:az}{V:ae az}{w:au}{n:Nat}{T:fg}
theorem SW{L}{m c}{k}(a:di L n m=.next T)(i:vP L R T)(h:di L k m=.next c)(l:∀O w,c≠lone O [] w):∃b,n=k+b/\di L b c=.next T:=by
 have j:k<=n:=by
  refine Nat.le_of_not_lt λaE=>?_;obtain⟨O,w,o,p,d,e⟩:=i.ends;by_cases g:k=n+1
  ·rw[g,vn a,d]at h
   exact l _ w (Stepped.next.inj h).symm
  ·obtain⟨b,f⟩:∃b,k=n+2+b:=⟨k-(n+2),by omega⟩
   rw[f,runN_ended]at h
   ·cases h
   ·rw[vn a,e]
 obtain⟨b,rfl⟩:∃b,n=k+b:=⟨n-k,by omega⟩;rw[vn h]at a;exact⟨b,F,a⟩
theorem JA{O}{V}{w}(h:V≠[])(a)(b):lone O V w≠lone a [] b:=λe=>h (by
 have:=congrArg (λm:fg=>(m.gs[0]?).map (·.callers)) e;simpa[lone]using this)
theorem J2{L}(i:di L n (lone O V w)=.next T)(h:vP L R T)(k){c}{a}(j:aN L k (G O V)=G c a)(e:a≠[]):∃b,b<=n/\di L b (lone c a w)=.next T:=by
 obtain⟨m,d,_⟩:=MU k _ _ w;rw[j]at d;have f:=d w.tape w.drawn;obtain⟨b,l,g⟩:=SW i h f (JA e);exact⟨b,by omega,g⟩
def KO(R:ag->au->Prop)(n:Nat)(T:fg):Prop:=∃b a c d,b<=n/\di LL b (lone a c d)=.next T/\HD ak LL a c/\iY ak d
theorem Nf{s}(K:eU LL (G O V)=Z s)(P:sO ak O)(z:Below ak LL V)(H:∀x d,s.run LL w=.halt x d->iY ak d)(c:di LL n (lone O V w)=.next T)(r:vP LL R T):(∃v d,s.run LL w=.ok v d)\/KO R n T:=by
 cases aQ:s.run LL w with
 |ok v d=>simp
 |halt x d=>
  right;obtain⟨S,W,b,i,rest,k,a,X,j,o,e,bC,t,M,D⟩:=yk K;cases e;have B:bJ ⟨S,W,.inRegion b (i::rest)::k,a,.run,X,I⟩=bJ ⟨S,W,[],a,.run,X,I⟩:=funext λx=>by cases x<;>rfl
  have step:aG LL U (G ⟨S,W,.inRegion b (i::rest)::k,a,.run,X,I⟩ V) w=ik LL U ⟨S,W,.inRegion b (i::rest)::k,a,.run,X,I⟩ V I s w:=by
   simp only[G,aG,bE,t,iy,M,pM,if_true];unfold stepG.oper;simp only[Frame.oper?,t,B,D]
  have l:=NL (fr':=⟨S,W,.inRegion b (i::rest)::k,a,.run,X,I⟩) (cs':=V) wJ aQ;rw[<-step]at l;cases n with
  |zero=>
   simp only[di,xf]at c;subst c;obtain⟨A,f,v,E,J,_⟩:=r;have N:=congrArg (λm:fg=>(m.gs[0]?).map (·.frame.mode)) E;have:A.mode=.run:=by simpa[lone]using N.symm
   rw[J.1]at this;cases this
  |succ n=>
   simp only[di]at c;rcases l with⟨dn,dg,f,p,e⟩|⟨o2,f,p,e⟩|⟨g,f,p,e,q⟩
   ·rw[eY e]at c
    rw[step]at e;obtain⟨vs,rfl,L,rfl,rfl⟩:=LZ wJ aQ e;exact⟨n,_,_,_,pL n,c,.top (P.raise L) (raise_mode .. ) z,H _ _ aQ⟩
   ·obtain⟨o3,w3,y⟩:=zX (by rw[e];rfl)
    rw[y]at c;cases c
   ·have u:g.status≠.finished:=by
     rcases q with⟨h,_⟩|⟨h,_⟩|⟨h,_⟩<;>rw[h]<;>simp
    have C:Go.step LL (lone ⟨S,W,.inRegion b (i::rest)::k,a,.run,X,I⟩ V w)=.next (lu g f):=Kb rfl e u
    rw[C]at c;exact absurd ⟨n,T,c,r⟩ (O4 q)
theorem NA{s}{v}{a}{g'}(r:eU LL (G O V)=Z s)(d:mg LL (G O V) v=Z g')(q:s.run LL w=.ok v a)(p:di LL n (lone O V w)=.next T)(m:vP LL R T)(e:g'.callers≠[]):∃b,b<=n/\di LL b (lone g'.frame g'.callers a)=.next T:=by
 have g:s.runT LL w #[]=(.ok v a,s.events LL w #[]):=by rw[jR,q]
 have f:=(zL (main:=U) r d g).2;have o:∃t c,g'=G t c:=by
  obtain⟨⟨u,h⟩,_,l⟩:=gV.1 d;exact⟨u,h,l.symm⟩
 obtain⟨t,c,rfl⟩:=o;have i:di LL 1 (lone O V w)=.next (lone t c a):=by
  simp only[di];rw[eY f]
 obtain⟨b,x,j⟩:=SW p m i (JA e);exact⟨b,by omega,j⟩
end
inductive fy{α:Type}:Sem α->Prop
 |pure (a:α):fy (.pure a)
 |load (m:Mode) (a:aR) {k:ag->Sem α} (h:∀v,fy (k v)):fy (.load m a k)
 |store (m:Mode) (a:aR) (v:ag) {k:Sem α} (h:fy k):fy (.store m a v k)
 |shape (r:Nat) {k:aj (aJ×Nat)->Sem α} (h:∀v,fy (k v)):fy (.shape r k)
 |frozen (a:aR) {k:Bool->Sem α} (h:∀v,fy (k v)):fy (.frozen a k)
 |program {k:aA->Sem α} (h:∀v,fy (k v)):fy (.program k)
 |mark (m:Mark) {k:Sem α} (h:fy k):fy (.mark m k)
 |halt (h:Halt):fy (.halt h)
theorem fy.bind{α β}{s}(h:fy s){k:α->Sem β}(c:∀a,fy (k a)):fy (s>>=k):=by
 show fy (s.bind k);induction h with
 |pure a=>exact c a
 |load m a h b=>exact .load m a b
 |store m a v h b=>exact .store m a v b
 |shape r h b=>exact .shape r b
 |frozen a h b=>exact .frozen a b
 |program h b=>exact .program b
 |mark m h b=>exact .mark m b
 |halt h=>exact .halt h
theorem ai1{P}{w}(h:iY P w)(b)(o)(c:∀Q,o≠.deferred (Z Q)):iY P {w with heap:=w.heap.setIfInBounds b o}:=λi Q a=>by
 rw[tJ]at a;split at a
 ·simp_all
 ·exact h i _ a
theorem ai2{P}{w}(h:iY P w)(a)(v):iY P (w.setCell a v):=λi Q b=>by
 have b:(w.heap.modify a.block _)[i]?=Z (.deferred (Z Q)):=b;rw[Fs]at b;split at b
 ·obtain⟨o,c,e⟩:=gV.1 b
  cases o<;>first|(cases e;done)|skip
  rename_i x;cases e;exact h i _ c
 ·exact h i _ b
theorem agD{P p}{w d}{a}{v}{b}{l}(h:iY P w)(e:w.farStore p a v b=.ok (d,l)):iY P d:=by
 unfold World.farStore at e;split at e
 ·split at e
  ·rename_i r c
   cases e;unfold World.viewStore at c;simp only[bind,Except.bind,throw]at c
   repeat'(split at c)
   all_goals first
    |(cases c;done)
    |(cases c;exact ai1 h _ _ (λQ f=>by cases f))
  ·cases e
 ·cases e
theorem fy.heap{P p}{α}{s:Sem α}(g:fy s):∀w,iY P w->(∀v e,s.run p w=.ok v e->iY P e)/\∀x e,s.run p w=.halt x e->iY P e:=by
 induction g with
 |pure a=>simp
 |load m a d b=>
  intro w h;unfold bx;cases w.cell? a with
  |some v=>exact b v w h
  |none=>
   grind
 |store m a v d b=>
  intro w h;cases v<;>simp only[bx]<;>first
   |simp_all
   |(cases w.cell? a with
     |some c=>
      dsimp only
      split
      ·simp_all
      ·exact b _ (ai2 h a _)
     |none=>
      dsimp only
      split
      ·rename_i f
       exact b _ (agD h f)
      ·simp_all)
 |shape r d b=>intro w h;exact b _ w h
 |frozen a d b=>intro w h;exact b _ w h
 |program d b=>intro w h;exact b p w h
 |mark m d b=>intro w h;exact b w h
 |halt x=>simp
section
variable {R:ag->au->Prop}{V:ae az}{w:au}{n:Nat}{T:fg}{S:bA}{W:af ag}{k:ae aK}{Q:ae bV}{X:dD}
theorem SV{L}{c}{s}(a:di L n (lone ⟨S,W,.code (.cond c .skip (.refuse s))::k,Q,.run,X,I⟩ V w)=.next T)(p:vP L R T):bJ ⟨S,W,[],Q,.run,X,I⟩ c=.bool U/\∃b,b<=n/\di L b (lone ⟨S,W,.code .skip::k,Q,.run,X,I⟩ V w)=.next T:=by
 have g:bJ ⟨S,W,.code (.cond c .skip (.refuse s))::k,Q,.run,X,I⟩ c=bJ ⟨S,W,[],Q,.run,X,I⟩ c:=by cases c<;>rfl
 cases n with
 |zero=>
  exfalso;simp only[di,xf]at a;subst a;obtain⟨f,q,v,i,j,_⟩:=p;have l:=congrArg (λm:fg=>(m.gs[0]?).map (·.frame.mode)) i;have:f.mode=.run:=by simpa[lone]using l.symm
  rw[j.1]at this;cases this
 |succ n=>
  simp only[di]at a;have d:rY (aG L U (G ⟨S,W,.code (.cond c .skip (.refuse s))::k,Q,.run,X,I⟩ V) w)=U->False:=λh=>by
   obtain⟨o,q,e⟩:=zX h;rw[e]at a;cases a
  cases hv:bJ ⟨S,W,[],Q,.run,X,I⟩ c with
  |bool b=>
   cases b with
   |true=>
    have:aG L U (G ⟨S,W,.code (.cond c .skip (.refuse s))::k,Q,.run,X,I⟩ V) w=dO ⟨S,W,.code .skip::k,Q,.run,X,I⟩ V w #[]:=by
     simp[G,aG,bE,g,hv]
    rw[eY this]at a;exact⟨F,n,pL n,a⟩
   |false=>
    exfalso;have r:aG L U (G ⟨S,W,.code (.cond c .skip (.refuse s))::k,Q,.run,X,I⟩ V) w=dO ⟨S,W,.code (.refuse s)::k,Q,.run,X,I⟩ V w #[]:=by
     simp[G,aG,bE,g,hv]
    rw[eY r]at a;cases n with
    |zero=>
     simp only[di,xf]at a;subst a;obtain⟨f,q,v,i,j,_⟩:=p;have l:=congrArg (λm:fg=>(m.gs[0]?).map (·.frame.mode)) i;have:f.mode=.run:=by simpa[lone]using l.symm
     rw[j.1]at this;cases this
    |succ n=>
     cases a
  |_=>exact(d (by simp[G,aG,bE,g,hv,rY])).elim
end
section
variable {R:ag->au->Prop}{X:ae az}{w:au}{n:Nat}{V:fg}{W:dD}
theorem T8{p}{s}{v}{a}(h:(do pure (lT (<-s)):Sem Next).run p w=.ok v a):∃x,v=.value x/\s.run p w=.ok x a:=by
 rw[oD]at h;cases hs:s.run p w with
 |ok x b=>simp_all
 |halt x b=>rw[hs]at h;cases h
theorem atd{p}{s}{v}{a}(h:(do s;pure Next.skip:Sem Next).run p w=.ok v a):v=.skip/\s.run p w=.ok () a:=by
 rw[oD]at h;cases hs:s.run p w with
 |ok x b=>simp_all
 |halt x b=>rw[hs]at h;cases h
theorem avC(t):fy (isAgg t):=by
 refine fy.bind ?_ λu=>?_
 ·
  refine fy.bind (.program λp=>.pure p) λp=>?_;split
  ·exact .pure _
  ·exact .halt _
 ·split<;>exact .pure _
theorem abv(t):fy (sizeOf t):=by
 refine fy.bind (fy.bind (.program λp=>.pure p) λp=>?_) λi=>.pure _;split
 ·exact .pure _
 ·exact .halt _
theorem abu(a):∀(n i)(b),fy (loadCellsFrom a i n b)
 |0,_,_=>.pure _
 |n+1,i,b=>by
  exact fy.bind (.load _ _ λv=>.pure v) λv=>abu a n ..
theorem TN(a):∀(l)(i),fy (storeCells a l i)
 |[],_=>by exact .pure _
 |v::l,i=>by
  exact fy.bind (.store _ _ _ (.pure _)) λ_=>TN a l _
theorem abr(v):fy (Instr.sureAddr v):=by
 unfold Instr.sureAddr;split
 ·exact .pure _
 ·exact .halt _
theorem avD(t)(v):fy (sI t v):=by
 refine fy.bind (abr v) λa=>fy.bind (avC t) λb=>?_;split
 ·exact fy.bind (abv t) λn=>fy.bind (abu a .. ) λc=>.pure _
 ·exact .load _ _ λv=>.pure v
theorem avE(t)(v x):fy (Instr.storeAt t v x):=by
 refine fy.bind (abr v) λa=>fy.bind (abv t) λn=>?_;split
 ·exact fy.bind (.halt _) λ_=>TN ..
 ·exact TN ..
theorem abt(d)(h:d=.lss\/d=.gtr)(x)(c)(a b):fy (do kX d 21 a b x (.int .i32 c);binOp d 21 x (.int .i32 c)):=by
 rcases h with rfl|rfl
 all_goals
  refine fy.bind ?_ λ_=>?_
  ·show fy (Pure.pure ())
   exact .pure _
  ·cases x with
   |int k v=>
    show fy (if k≠IntKind.i32 then(stuck "BinOp: operands of different kinds")else Op.intCmp _ v c);split
    ·exact .halt _
    ·exact .pure _
   |pointer a=>cases a<;>exact .halt _
   |_=>exact .halt _
theorem arS(t)(o:Below ak LL X)(hk:iY ak w)(e:X≠[])
  (hn:di LL n (lone ⟨44,t,[.code (wF 1 0)],[],.run,.deferred,I⟩ X w)=.next V)(a:vP LL R V):
  (∃b N,b<=n/\iY ak N/\∃j m,di LL b (lone ⟨44,j,m,[],.returning,.deferred,I⟩ X N)=.next V)\/KO R n V:=by
 have g:∀m t,M0 m=U->sO ak ⟨44,t,m,[],.run,.deferred,I⟩:=λm t h=>⟨by simp,h,by simp⟩;have d:∀{b},b<=n->KO R b V->KO R n V:=λhb⟨n',f,c,w,h1,h2⟩=>⟨n',f,c,w,sK h1 hb,h2⟩;generalize pV:(.seq (.cond (tm 2) .skip (.refuse "")) (.seq (.cond (tm 3) .skip (.refuse "")) (.seq (reg #[dR (.store 21 (tm 0) (kc (.int .i32 0)))]) .ret)):bl)=B1;generalize i:(#[aO 1 (.load 21 (tm 0)),aO 2 (.binOp .lss 21 (tm 1) (kc (.int .i32 (1+1))) 21),aO 3 (.binOp .gtr 21 (tm 1) (kc (.int .i32 (1-1))) 21)])=O;have Me:wF 1 0=.seq (.region 0 O Y) B1:=by rw[<-pV,<-i];rfl
 rw[Me]at hn;obtain⟨b1,xK,r⟩:=J2 hn a 2 F e;have bH:oz O.size=[0,1,2]:=by rw[<-i];rfl
 rw[bH]at r;have oc:eU LL (G ⟨44,t,[.inRegion O [0,1,2],.code B1],[],.run,.deferred,I⟩ X)=Z (do pure (.value (<-sI 21 (t.getD 0 aC)))):=by rw[<-i];rfl
 have NT:=(fy.bind (avD 21 (t.getD 0 aC)) λv=>fy.pure (lT v)).heap (p:=LL) w hk;refine(Nf oc (g _ _ F) o NT.2 r a).elim (λ⟨v,w1,L⟩=>?_) λh=>.inr (d xK h);obtain⟨x1,rfl,Q6⟩:=T8 L;have ey:=NT.1 _ _ L;obtain⟨b2,kr,M⟩:=NA oc (g':=G ⟨44,t.setIfInBounds 1 x1,[.inRegion O [1,2],.code B1],[],.run,.deferred,I⟩ X) (by rw[<-i];rfl) L r a e;generalize Es:t.setIfInBounds 1 x1=k at M;have gv:eU LL (G ⟨44,k,[.inRegion O [1,2],.code B1],[],.run,.deferred,I⟩ X)=Z (do pure (.value (<-(do kX .lss 21 (tm 1) (kc (.int .i32 (1+1))) (k.getD 1 aC) (.int .i32 (1+1));binOp .lss 21 (k.getD 1 aC) (.int .i32 (1+1)))))):=by rw[<-i];rfl
 have NU:=(fy.bind (abt _ (.inl F) (k.getD 1 aC) (1+1) (tm 1) (kc (.int .i32 (1+1)))) λv=>fy.pure (lT v)).heap (p:=LL) _ ey;refine(Nf gv (g _ _ F) o NU.2 M a).elim (λ⟨v,N,u⟩=>?_) λh=>.inr (d ai h);obtain⟨x2,rfl,Jk⟩:=T8 u;have dT:=NU.1 _ _ u;obtain⟨b3,xL,z⟩:=NA gv (g':=G ⟨44,k.setIfInBounds 2 x2,[.inRegion O [2],.code B1],[],.run,.deferred,I⟩ X) (by rw[<-i];rfl) u M a e;generalize Q3:k.setIfInBounds 2 x2=j at z;have Q:eU LL (G ⟨44,j,[.inRegion O [2],.code B1],[],.run,.deferred,I⟩ X)=Z (do pure (.value (<-(do kX .gtr 21 (tm 1) (kc (.int .i32 (1-1))) (j.getD 1 aC) (.int .i32 (1-1));binOp .gtr 21 (j.getD 1 aC) (.int .i32 (1-1)))))):=by rw[<-i];rfl
 have NV:=(fy.bind (abt _ (.inr F) (j.getD 1 aC) (1-1) (tm 1) (kc (.int .i32 (1-1)))) λv=>fy.pure (lT v)).heap (p:=LL) _ dT;refine(Nf Q (g _ _ F) o NV.2 z a).elim (λ⟨v,w3,x⟩=>?_) λh=>.inr (d ai h);obtain⟨x3,rfl,ι⟩:=T8 x;have lK:=NV.1 _ _ x;obtain⟨b4,δ,A⟩:=NA Q (g':=G ⟨44,j.setIfInBounds 3 x3,[.inRegion O [],.code B1],[],.run,.deferred,I⟩ X) (by rw[<-i];rfl) x z a e;generalize Q4:j.setIfInBounds 3 x3=q at A;rw[<-pV]at A;obtain⟨b5,D8,H⟩:=J2 A a 2 F e;obtain⟨_,b6,ε,J⟩:=SV H a;obtain⟨b7,ζ,K⟩:=J2 J a 2 F e;obtain⟨_,b8,η,S⟩:=SV K a;generalize s:(#[dR (.store 21 (tm 0) (kc (.int .i32 0)))])=T at S;obtain⟨b9,θ,B⟩:=J2 S a 3 F e;have Q2:oz T.size=[0]:=by rw[<-s];rfl
 rw[Q2]at B;have P:eU LL (G ⟨44,q,[.inRegion T [0],.code .ret],[],.run,.deferred,I⟩ X)=Z (do Instr.storeAt 21 (q.getD 0 aC) (.int .i32 0);pure .skip):=by rw[<-s];rfl
 have l:=(fy.bind (avE 21 (q.getD 0 aC) (.int .i32 0)) λv=>fy.pure Next.skip).heap (p:=LL) _ lK;refine(Nf P (g _ _ F) o l.2 B a).elim (λ⟨v,w4,y⟩=>?_) λh=>.inr (d ai h);obtain⟨rfl,κ⟩:=atd y;have uW:=l.1 _ _ y;obtain⟨U1,β,D⟩:=NA P (by rw[<-s];rfl) y B a e;obtain⟨E,γ,C⟩:=J2 D a 2 F e;exact .inl ⟨E,w4,by omega,uW,q,_,C⟩
end
theorem zY{R}:HV ak LL R:=λf O=>by
 rw[Ob O];refine⟨λx w=>call44 _ (.inl F) x w,λc a l w n V p⟨i,E⟩o L M t=>?_⟩;have e:bG LL 44 c .deferred=⟨44,c++pG (6-c.size) aC,[.code (wF 1 0)],[],.run,.deferred,I⟩:=by kernel_rfl
 rcases arS _ (.cons p o) L aZ M t with⟨b,j,S,H,z,P,J⟩|h
 ·obtain⟨s,d,g,q,u,W,y⟩:=a
  subst E;have A:aG LL U (G ⟨44,z,P,[],.returning,.deferred,I⟩ (⟨s,d,g,q,.panicking i,W,y⟩::l)) j=dO ⟨s,d,g,q,.panicking i,W,y⟩ l j #[]:=by
   have m:LL.funcs[44]?=Z Ju:=by kernel_rfl
   have N:(results Ju z).runT LL j #[]=(.ok (.tuple #[]) j,#[]):=by kernel_rfl
   simp only[G,aG,lU,m,N,rh];have B:=p.chain _ rfl;cases i with
   |nil=>rfl
   |cons x C=>
    cases QT:x.recovered with
    |true=>simp_all
    |false=>
     obtain⟨v,r,Q⟩:=x;subst QT;simp[kF,seen_none]
  obtain⟨D,T,K⟩:=SW J t (k:=1) (by simp only[di];rw[eY A]) (JA (by cases o<;>simp));exact⟨D,_,_,_,by omega,K,.top p ⟨i,F⟩ o,H⟩
 ·exact h
abbrev KI:az->ae az->az->ae az->Prop:=λ_ _ _ _=>False
abbrev ko:=mO ak sV (gQ LL)
structure xn(j:uC):Prop where
 ni:∃xt Bf a0 l0,j.L'=xt::Bf/\j.Bj=a0::l0/\ko KI xt Bf a0 l0/\xt.mode=.run/\a0.mode=.run
 lone:∃g s,j.A'=tw j.o j.k j.N j.f g s
 real:∃jr l x y r,Fz j.k jr l x y/\j.A=C7 j.k (F1 j.k j.f x y j.f r) (.inRegion vj (3::l)::EC)
def sQ(s:dM):Prop:=∃b c d a l,Oq ak fs b s.fr' s.fr/\s.cs'=c::d/\s.cs=a::l/\((b=.normal/\a.mode=.run/\(ko s.E c d a l\/s.E c d a l))\/(b=.deferred/\a.mode=.returning/\ko s.E c d a l))
inductive sW(s:dM):Prop
 |main (hj:s.dG=I) (h0:s.h=0) (st:ko s.E s.fr' s.cs' s.fr s.cs\/sQ s)
 |work (j:uC) (hj:s.dG=Z j) (jk:xn j) (h0:s.h=j.k.g) (st:ko s.E s.fr' s.cs' s.fr s.cs\/sQ s)
 |back (j:uC) (hj:s.dG=Z j) (jk:xn j) (h0:s.h=j.k.g) (v:ag) (e1:s.fr'=j.A'.finish v) (e2:s.cs'=j.L') (e3:s.fr=j.A.finish v) (e4:s.cs=[wrap])
structure Inv(s:dM):Prop where
 base:Base s
 ni:sW s
theorem O9:Dl ak LL KI:=⟨λ_ _ _ _ h=>h.elim,λ_ _ _ _ h=>h.elim,λ_ _ _ _ h=>h.elim⟩
theorem HE{s:dM}(h:s.dG=I):s.E=KI:=by
 funext a b c d;unfold dM.E;rw[h]
theorem xD{s:dM}(h:∀j,s.dG=Z j->xn j):Dl ak LL s.E:=by
 cases hj:s.dG with
 |none=>rw[HE hj];exact O9
 |some j=>
  have e:=h j hj;have hE:∀c d a l,s.E c d a l->c=j.A'/\d=j.L'/\a=j.A/\l=[wrap]:=λc d a l b=>by
   unfold dM.E at b;rw[hj]at b;exact b
  obtain⟨u,n,a0,q,k,o,i,_⟩:=e.ni;obtain⟨g,t,f⟩:=e.lone;obtain⟨p,l,x,y,r,_,m⟩:=e.real;refine⟨λc d a l b=>?_,λc d a l b=>?_,λc d a l b=>?_⟩
  ·obtain⟨rfl,_,rfl,_⟩:=hE _ _ _ _ b
   rw[f,m];exact⟨F,F⟩
  ·obtain⟨rfl,rfl,_⟩:=hE _ _ _ _ b
   rw[k];refine .cons ?_ (.cons i.fr.FY (i.belows O9));rw[f];exact⟨by simp[tw],F,by simp[tw]⟩
  ·grind
theorem avZ{L}{x}{c}{b}{w}{k n}{a}(h:kj L x ⟨c,b,w⟩ k n a)(t)(d):kj L x ⟨c,b,re w t d⟩ k n a:=h
theorem ZJ{R}{s}(b:Base s)(B:ko s.E s.fr' s.cs' s.fr s.cs)(hE:Dl ak LL s.E)(A:¬J8 sV s.fr' s.fr)(g:¬over s.fr s.cs)(x:Good LL R s.bW):∃c:dM,Base c/\Real s c/\c.h=s.h/\c.dG=s.dG/\FQ ak fs sV (gQ LL) s.E c.fr' c.cs' c.fr c.cs/\∃k n a,0<k/\kj LL s.bW c.bW k n a:=by
 obtain⟨f,e,D,n,r,C,M,E,N,z,L,y,p,w⟩:=apo (S7 _) hE zY B b.core.rel A g (x _);obtain⟨c,v,u,h,j,G,H,l,m,J,K,t,d,o⟩:=b.go z y p w f e;refine⟨c,v,u,l,m,?_,1,n,λi q=>s.w.tape (s.w.drawn+i) q,Nat.one_pos,?_⟩
 ·simp_all
 ·have:c.bW=⟨f,e,re D t d⟩:=by unfold dM.bW;rw[h,j,o]
  rw[this];exact r
theorem acn{s b:dM}(hE:b.E=s.E)(g:FQ ak fs sV (gQ LL) s.E b.fr' b.cs' b.fr b.cs):(ko b.E b.fr' b.cs' b.fr b.cs\/sQ b)\/∃d a v,s.E d b.cs' a b.cs/\b.fr'=d.finish v/\b.fr=a.finish v:=by
 rcases g with h|h|⟨c,d,i,a,l,h,e,f,j,k⟩
 ·simp_all
 ·exact .inr h
 ·exact .inl (.inr ⟨c,d,i,a,l,h,e,f,by simp_all⟩)
theorem ala{R}{s}(i:Inv s)(l:∀j v,s.dG=Z j->s.fr'=j.A'.finish v->s.cs'=j.L'->s.fr=j.A.finish v->s.cs=[wrap]->False)(x:¬sQ s)(z:¬J8 sV s.fr' s.fr)(w:¬over s.fr s.cs)(y:Good LL R s.bW):∃c k n a,Inv c/\Real s c/\0<k/\kj LL s.bW c.bW k n a:=by
 cases i.ni with
 |main b g e=>
  have e:=e.resolve_right x;obtain⟨c,l,r,f,d,t,k,n,a,p,q⟩:=ZJ i.base e (xD λj h=>by rw[b]at h;cases h) z w y;have hE:c.E=s.E:=by unfold dM.E;rw[d]
  refine⟨c,k,n,a,⟨l,.main (d.trans b) (f.trans g) ?_⟩,r,p,q⟩;rcases acn hE t with h|⟨_,_,_,h,_⟩
  ·exact h
  ·rw[HE b]at h;exact h.elim
 |work j b u g e=>
  have e:=e.resolve_right x;obtain⟨c,l,r,f,d,t,k,n,a,p,q⟩:=ZJ i.base e (xD λH h=>by simp_all) z w y;have hE:c.E=s.E:=by unfold dM.E;rw[d]
  refine⟨c,k,n,a,⟨l,?_⟩,r,p,q⟩;rcases acn hE t with h|⟨E,G,v,h,m,o⟩
  ·exact .work j (d.trans b) u (f.trans g) h
  ·unfold dM.E at h
   rw[b]at h;obtain⟨A,B,C,D⟩:=h;subst A C;exact .back j (d.trans b) u (f.trans g) v m B o D
 |back j b u g v f d m o=>exact(l j v b f d m o).elim
theorem Tf(t)(n)(h:n<=t.size):t=bO n (λi=>t.getD i aC) (t.toList.drop n):=by
 apply Array.ext';show t.toList=(oz n).map _++t.toList.drop n;have b:(oz n).map (λi=>t.getD i aC)=t.toList.take n:=by
  apply List.ext_getElem?;intro i;rw[fq,BJ];by_cases a:i<n
  ·have:i<t.size:=by omega
   simp[a,this]
  ·simp[a]
 rw[b,List.take_append_drop]
section
variable {R:ag->au->Prop}{X:Loc->Prop}{w W:au}{T:ae az}{f:bA}{t:af ag}{V:dD}
theorem ayx(w):(isAgg 21).run LL w=.ok Y w:=av
theorem ayy(w):(sizeOf 21).run LL w=.ok 1 w:=av
theorem amN(p)(c:Rel (bN ak) X w W):(∃a v,p=.pointer (Z a)/\w.cell? a=Z v/\∀t d,(sI 21 p).run LL (re w t d)=.ok v (re w t d))\/∀t d,∃x,(sI 21 p).run LL (re w t d)=.halt x (re w t d):=by
 unfold sI;cases p with
 |pointer o=>
  cases o with
  |none=>exact .inr λt d=>⟨_,F⟩
  |some a=>
   have e:∀t d,(do loadVar 21 (<-Instr.sureAddr (.pointer (Z a)))).run LL (re w t d)=(load a).run LL (re w t d):=λt d=>by
    rfl
   cases hc:w.cell? a with
   |some v=>
    refine .inl ⟨a,v,F,hc,λt d=>?_⟩;rw[e];have b:(re w t d).cell? a=Z v:=hc;simp[b]
   |none=>
    refine .inr λt d=>?_;have b:(re w t d).cell? a=I:=hc;have g:=((c.re t d).Gb (a:=a) LL (Mode.plain==Mode.atomic)).1;cases Ed:(re w t d).farLoad LL a (Mode.plain==Mode.atomic)with
    |ok r=>simp_all
    |error x=>simp_all
 |_=>exact .inr λt d=>⟨_,F⟩
theorem awn(a)(v x)(j:x.cells=#[x])(g:x.oneCell'=U)(i:w.cell? a=Z v):(w.frozen? a=Y/\∀t d,(Instr.storeAt 21 (.pointer (Z a)) x).run LL (re w t d)=.ok () (re (w.setCell a x) t d))\/∀t d,∃y,(Instr.storeAt 21 (.pointer (Z a)) x).run LL (re w t d)=.halt y (re w t d):=by
 have e:∀t d,(Instr.storeAt 21 (.pointer (Z a)) x).run LL (re w t d)=(store (a.add 0) x).run LL (re w t d):=λt d=>by
  show(storeVar 21 a x).run LL (re w t d)=_;show(if x.cells.size≠1 then _ else storeCells a x.cells.toList).run LL (re w t d)=_;rw[j,if_neg aZ];rfl
 have h:a.add 0=a:=by cases a;simp[Addr.add]
 cases hf:w.frozen? a with
 |false=>
  refine .inl ⟨F,λt d=>?_⟩;rw[e,h];have b:(re w t d).cell? a=Z v:=i;have c:(re w t d).frozen? a=Y:=hf;cases x<;>first|(cases g;done)|(simp[store,bx,b,c];rfl)
 |true=>
  refine .inr λt d=>?_;rw[e,h];have b:(re w t d).cell? a=Z v:=i;have c:(re w t d).frozen? a=U:=hf;cases x<;>first|(cases g;done)|exact⟨.unsupported (.unsafePointer "a write to bytes that a string shares"),by simp[store,bx,b,c]⟩
theorem Vn(d)(h:d=.lss\/d=.gtr)(x)(c)(a b):(∃v,x=.int .i32 v/\∀w,(do kX d 21 a b x (.int .i32 c);binOp d 21 x (.int .i32 c)).run LL w=.ok (.bool (if d=.lss then decide (v<c)else decide (c<v))) w)\/∀w,∃y,(do kX d 21 a b x (.int .i32 c);binOp d 21 x (.int .i32 c)).run LL w=.halt y w:=by
 cases x with
 |int k v=>
  cases k with
  |i32=>
   refine .inl ⟨v,F,λw=>?_⟩;rcases h with rfl|rfl
   ·rfl
   ·rfl
  |_=>
   refine .inr λw=>?_;rcases h with rfl|rfl<;>exact⟨_,rfl⟩
 |pointer o=>
  refine .inr λw=>?_;cases o<;>rcases h with rfl|rfl<;>exact⟨_,rfl⟩
 |_=>
  refine .inr λw=>?_;rcases h with rfl|rfl<;>exact⟨_,rfl⟩
theorem Ki{s}{x}{w a}(h:s.run LL w=.ok x a):(do pure (lT (<-s)):Sem Next).run LL w=.ok (.value x) a:=by
 simp_all
theorem Fj{s}{y}{w a}(h:s.run LL w=.halt y a):(do pure (lT (<-s)):Sem Next).run LL w=.halt y a:=by
 simp_all
theorem atf{s}{w a}(h:s.run LL w=.ok () a):(do s;pure Next.skip:Sem Next).run LL w=.ok .skip a:=by
 simp_all
theorem ate{s}{y}{w a}(h:s.run LL w=.halt y a):(do s;pure Next.skip:Sem Next).run LL w=.halt y a:=by
 simp_all
end
section
variable {R:ag->au->Prop}{T:Loc->Prop}{w W:au}{V:ae az}{f:bA}{t:af ag}{X:dD}{S:az}
theorem Pz{c:gU}{a:String}{tm:af ag}{k:ae aK}(h:Good LL R ⟨⟨f,tm,.code (.cond c .skip (.refuse a))::k,[],.run,X,I⟩,V,w⟩)(j:V≠[]):bJ ⟨f,tm,[],[],.run,X,I⟩ c=.bool U/\eV LL ⟨⟨f,tm,.code (.cond c .skip (.refuse a))::k,[],.run,X,I⟩,V,w⟩ ⟨⟨f,tm,k,[],.run,X,I⟩,V,w⟩ 2:=by
 obtain⟨τ,d,_,n,l,i,g⟩:=h (λ_ _=>0);obtain⟨b,_⟩:=SV (L:=LL) (w:=re w τ d) i g;refine⟨b,λτ d=>?_⟩;have e:bJ ⟨f,tm,.code (.cond c .skip (.refuse a))::k,[],.run,X,I⟩ c=bJ ⟨f,tm,[],[],.run,X,I⟩ c:=by cases c<;>rfl
 have s1:aG LL U (G ⟨f,tm,.code (.cond c .skip (.refuse a))::k,[],.run,X,I⟩ V) (re w τ d)=dO ⟨f,tm,.code .skip::k,[],.run,X,I⟩ V (re w τ d) #[]:=by
  simp[G,aG,bE,e,b]
 have s2:aG LL U (G ⟨f,tm,.code .skip::k,[],.run,X,I⟩ V) (re w τ d)=dO ⟨f,tm,k,[],.run,X,I⟩ V (re w τ d) #[]:=by
  simp[G,aG,bE]
 simp only[il.on,di];rw[eY s1];dsimp only
 rw[eY s2]
theorem amU(n m:Int)(i:X≠.early)(u:Below ak LL V)(b:V≠[])(hr:Rel (bN ak) T w W)(bH:6<=t.size)(hg:Good LL R ⟨⟨f,t,[.code (wF n m)],[],.run,X,I⟩,V,w⟩):∃a,t.getD 0 aC=.pointer (Z a)/\w.cell? a=Z (.int .i32 n)/\w.frozen? a=Y/\∃c k,eV LL ⟨⟨f,t,[.code (wF n m)],[],.run,X,I⟩,V,w⟩ ⟨⟨f,c,[.code .ret],[],.returning,X,I⟩,V,w.setCell a (.int .i32 m)⟩ k:=by
 have z:∀td t,M0 td=U->sO ak ⟨f,t,td,[],.run,X,I⟩:=λtd t h=>⟨by simp,h,by simp⟩;have s:∀t d,iY ak (re w t d):=λt d=>hr.tk;have wj:(X==CallKind.early)=Y:=by cases X<;>first|rfl|exact absurd rfl i
 generalize pV:(.seq (.cond (tm 2) .skip (.refuse "")) (.seq (.cond (tm 3) .skip (.refuse "")) (.seq (reg #[dR (.store 21 (tm 0) (kc (.int .i32 m)))]) .ret)):bl)=B1;generalize j:(#[aO 1 (.load 21 (tm 0)),aO 2 (.binOp .lss 21 (tm 1) (kc (.int .i32 (n+1))) 21),aO 3 (.binOp .gtr 21 (tm 1) (kc (.int .i32 (n-1))) 21)]:af bh)=O;have Me:wF n m=.seq (.region 0 O Y) B1:=by rw[<-pV,<-j];rfl
 rw[Me];rw[Me]at hg;have zy:oz O.size=[0,1,2]:=by rw[<-j];rfl
 obtain⟨k1,L1,K⟩:=hg.quiet 2 (fr:=⟨f,t,[.inRegion O (oz O.size),.code B1],[],.run,X,I⟩) (cs:=V) rfl b;rw[zy]at L1 K;have oc:eU LL (G ⟨f,t,[.inRegion O [0,1,2],.code B1],[],.run,X,I⟩ V)=Z (do pure (.value (<-sI 21 (t.getD 0 aC)))):=by
  rw[<-j];cases X<;>first|rfl|exact absurd rfl i
 refine Or.elim (amN (t.getD 0 aC) hr) (λ⟨a,v,hp,hc,hl⟩=>?_) λl=>(CI wJ zY oc (z _ _ F) u K λt d=>by obtain⟨x,q⟩:=l t d;exact⟨x,_,Fj q,s t d⟩).elim;have C:=CJ (w1:=w) (g':=G ⟨f,t.setIfInBounds 1 v,[.inRegion O [1,2],.code B1],[],.run,X,I⟩ V) oc (by rw[<-j];cases X<;>first|rfl|exact absurd rfl i) λτ d=>Ki (hl τ d);have L:=K.mF C b;have Ex:(t.setIfInBounds 1 v).size=t.size:=by simp
 have J:(t.setIfInBounds 1 v).getD 1 aC=v:=by simp[nk,show 1<t.size by omega]
 have e0:(t.setIfInBounds 1 v).getD 0 aC=t.getD 0 aC:=by simp[nk]
 generalize Es:t.setIfInBounds 1 v=e at C L Ex J e0;have P:eU LL (G ⟨f,e,[.inRegion O [1,2],.code B1],[],.run,X,I⟩ V)=Z (do pure (.value (<-(do kX .lss 21 (tm 1) (kc (.int .i32 (n+1))) (e.getD 1 aC) (.int .i32 (n+1));binOp .lss 21 (e.getD 1 aC) (.int .i32 (n+1)))))):=by
  rw[<-j];cases X<;>first|rfl|exact absurd rfl i
 rw[J]at P;refine Or.elim (Vn .lss (.inl rfl) v (n+1) (tm 1) (kc (.int .i32 (n+1)))) (λ⟨x,q,Q⟩=>?_) λl=>(CI wJ zY P (z _ _ F) u L λt d=>by obtain⟨y,o⟩:=l (re w t d);exact⟨y,_,Fj o,s t d⟩).elim;subst q;have D:=CJ (w1:=w) (g':=G ⟨f,e.setIfInBounds 2 (.bool (decide (x<n+1))),[.inRegion O [2],.code B1],[],.run,X,I⟩ V) P (by rw[<-j];cases X<;>first|rfl|exact absurd rfl i) λτ d=>Ki (Q (re w τ d));have M:=L.mF D b;have zD:(e.setIfInBounds 2 (.bool (decide (x<n+1)))).size=t.size:=by simp[Ex]
 have f2:(e.setIfInBounds 2 (.bool (decide (x<n+1)))).getD 2 aC=.bool (decide (x<n+1)):=by simp[nk,show 2<e.size by omega]
 have f1:(e.setIfInBounds 2 (.bool (decide (x<n+1)))).getD 1 aC=.int .i32 x:=by rw[<-J];simp[nk]
 have f0:(e.setIfInBounds 2 (.bool (decide (x<n+1)))).getD 0 aC=t.getD 0 aC:=by rw[<-e0];simp[nk]
 generalize Q3:e.setIfInBounds 2 (.bool (decide (x<n+1)))=c at D M zD f2 f1 f0;have B:eU LL (G ⟨f,c,[.inRegion O [2],.code B1],[],.run,X,I⟩ V)=Z (do pure (.value (<-(do kX .gtr 21 (tm 1) (kc (.int .i32 (n-1))) (c.getD 1 aC) (.int .i32 (n-1));binOp .gtr 21 (c.getD 1 aC) (.int .i32 (n-1)))))):=by
  rw[<-j];cases X<;>first|rfl|exact absurd rfl i
 rw[f1]at B;refine Or.elim (Vn .gtr (.inr rfl) (.int .i32 x) (n-1) (tm 1) (kc (.int .i32 (n-1)))) (λ⟨y,o,β⟩=>?_) λl=>(CI wJ zY B (z _ _ F) u M λt d=>by obtain⟨y,o⟩:=l (re w t d);exact⟨y,_,Fj o,s t d⟩).elim;cases o;have E:=CJ (w1:=w) (g':=G ⟨f,c.setIfInBounds 3 (.bool (decide (n-1<x))),[.inRegion O [],.code B1],[],.run,X,I⟩ V) B (by rw[<-j];cases X<;>first|rfl|exact absurd rfl i) λτ d=>Ki (β (re w τ d));have g4:=M.mF E b;have h3:(c.setIfInBounds 3 (.bool (decide (n-1<x)))).getD 3 aC=.bool (decide (n-1<x)):=by simp[nk,show 3<c.size by omega]
 have h2:(c.setIfInBounds 3 (.bool (decide (n-1<x)))).getD 2 aC=.bool (decide (x<n+1)):=by rw[<-f2];simp[nk]
 have h0:(c.setIfInBounds 3 (.bool (decide (n-1<x)))).getD 0 aC=t.getD 0 aC:=by rw[<-f0];simp[nk]
 generalize Q4:c.setIfInBounds 3 (.bool (decide (n-1<x)))=g at E g4 h3 h2 h0;subst pV;obtain⟨k5,L5,g5⟩:=g4.quiet 2 (fr:=⟨f,g,[.code (.cond (tm 2) .skip (.refuse "")),.code (.seq (.cond (tm 3) .skip (.refuse "")) (.seq (reg #[dR (.store 21 (tm 0) (kc (.int .i32 m)))]) .ret))],[],.run,X,I⟩) (cs:=V) F b;obtain⟨c1,L6⟩:=Pz g5 b;have g6:=g5.mF L6 b;obtain⟨k7,L7,g7⟩:=g6.quiet 1 (fr:=⟨f,g,[.code (.cond (tm 3) .skip (.refuse "")),.code (.seq (reg #[dR (.store 21 (tm 0) (kc (.int .i32 m)))]) .ret)],[],.run,X,I⟩) (cs:=V) F b;obtain⟨c2,H⟩:=Pz g7 b;have g8:=g7.mF H b;have q:x=n:=by
  have xw:g.getD 2 aC=.bool U:=c1;have U':g.getD 3 aC=.bool U:=c2;rw[h2]at xw;rw[h3]at U';simp only[Value.bool.injEq,decide_eq_true_eq]at xw U';omega
 subst q;generalize r:(#[dR (.store 21 (tm 0) (kc (.int .i32 m)))]:af bh)=p at L7 H g8;have wq:oz p.size=[0]:=by rw[<-r];rfl
 obtain⟨k9,L9,N⟩:=g8.quiet 2 (fr:=⟨f,g,[.inRegion p (oz p.size),.code .ret],[],.run,X,I⟩) (cs:=V) F b;rw[wq]at L9 N;have A:eU LL (G ⟨f,g,[.inRegion p [0],.code .ret],[],.run,X,I⟩ V)=Z (do Instr.storeAt 21 (g.getD 0 aC) (.int .i32 m);pure .skip):=by
  rw[<-r];cases X<;>first|rfl|exact absurd rfl i
 rw[h0,hp]at A;refine Or.elim (awn a (.int .i32 x) (.int .i32 m) rfl rfl hc) (λ⟨Mi,Mu⟩=>?_) λl=>(CI wJ zY A (z _ _ F) u N λt d=>by obtain⟨y,o⟩:=l t d;exact⟨y,_,ate o,s t d⟩).elim;have nT:=CJ (w1:=w.setCell a (.int .i32 m)) (g':=G ⟨f,g,[.inRegion p [],.code .ret],[],.run,X,I⟩ V) A (by rw[<-r];cases X<;>first|rfl|exact absurd rfl i) λτ d=>atf (Mu τ d);have nX:=N.mF nT b;obtain⟨γ,yS,_⟩:=nX.quiet 2 (fr:=⟨f,g,[.code .ret],[],.returning,X,I⟩) (cs:=V) F b;subst r;exact⟨a,hp,hc,Mi,g,_,(((((((((L1.trans C).trans D).trans E).trans L5).trans L6).trans L7).trans H).trans L9).trans nT).trans yS⟩
end
theorem Base.first{s}(b:Base s)(q:(om ak (G s.fr s.cs)).isSome=U):∃a,iz ak 1 s.m s.T=(.next (crowd a s.W s.sl),s.T)/\a.size=s.gs.size/\a[s.h]?=Z (aN ak 1 (G s.fr s.cs))/\fe ak s.St s.At s.Shun s.ax s.h s.B s.T a s.W s.q/\∀x,x≠s.h->a[x]?=s.gs[x]?:=by
 obtain⟨j,f⟩:=Ae.1 q;have i:aN ak 1 (G s.fr s.cs)=j:=by unfold aN;rw[f];rfl
 rw[i];have r:=(CO (main:=s.h==0) f).2 s.W;have o:DY s.St s.ax s.Shun s.B s.W s.W #[]:=⟨λ_ _ _ _ _=>rfl,λ_ _ _ h=>h,λe p=>by simp at p⟩;obtain⟨d,k,l,m⟩:=b.hold.own (df _) b.top o;have c:=vJ (sl:=s.sl) b.top r;have g:db s.h (G s.fr s.cs).frame.fn (G s.fr s.cs).frame.place #[]=#[]:=by rfl
 rw[g]at c d;exact⟨_,by simp only[iz,b.eo,c,Array.append_empty],l,k,d,m⟩
theorem Base.begin{s}(b:Base s)(i:(om ak (G s.fr s.cs)).isSome=U):∃m T,(∃N,iz ak N s.m s.T=(.next m,T))/\dw ak s.St s.At s.Shun s.ax s.h s.B s.gs.size s.W m T 0 (·=aN ak 1 (G s.fr s.cs))/\∀a v f,eC s.W a v f->ji ak s.St s.At s.Shun s.ax s.h s.B s.gs.size a s.W m T 0 v (aN ak 1 (G s.fr s.cs)):=by
 obtain⟨j,g,c,d,e,_⟩:=b.first i;refine⟨_,_,⟨1,g⟩,?_,λa v f h=>?_⟩
 ·have:=dw.begin (sl:=s.sl) e.BB d
  rw[c]at this;exact this
 ·have:=ji.begin (sl:=s.sl) e.BB d h
  rw[c]at this;exact this
section
variable {S At:Nat->Loc->Prop}{V:Loc->Prop}{R:Nat->aj YS}{X:Loc->Prop}{O:ae dp}{P:ae cz}{Q:aj uC}{B n:Nat}{w W:au}
theorem sB{w}{a c}{v x}{k}(g:eC w c v k)(l:a≠c)(r:a.spot=I):eC (w.setCell a x) c v k:=by
 have q:∀b:Nat,(w.setCell a x).heap[b]?=if a.block=b then(w.heap[b]?).map (λo=>match o with
   |.cells c h frozen=>.cells (c.setIfInBounds a.off x) h frozen
   |o=>o)else w.heap[b]?:=λb=>by
  unfold World.setCell;simp only[Fs,r];split
  ·congr 1
  ·rfl
 obtain⟨s,t,f,i,m,y,p⟩:=kK g.cell;have d:=q c.block;rw[i]at d;by_cases e:a.block=c.block
 ·rw[if_pos e]at d
  have j:a.off≠c.off:=λu=>l (by cases a;cases c;simp_all);refine⟨?_,?_,?_⟩
  ·rw[DC d,m]
   simp[ie j,p]
  ·have:=g.free
   unfold pN at this⊢;rw[i]at this;rw[d];exact this
  ·have:=g.shape
   unfold fD at this⊢;rw[i]at this;rw[d];simpa using this
 ·rw[if_neg e]at d
  rw[<-i]at d;refine⟨?_,?_,?_⟩
  ·have:=g.cell;unfold fR at this⊢;rw[d];exact this
  ·have:=g.free;unfold pN at this⊢;rw[d];exact this
  ·have:=g.shape;unfold fD at this⊢;rw[d];exact this
theorem Core.gate(C:Core X S At V R O P Q B n w W){a}(f:a.spot=I)(m:¬X (.cell a)):Gate S R (·=a):=by
 refine⟨λb e g u=>by subst e;exact m (C.qW g _ u).1,λb e i y z w v d=>?_⟩;subst e;rcases C.yq i y z with⟨k,D,s,H,J,K,L,p,rfl⟩|⟨j,A,rfl,p,rfl⟩
 ·have l:=C.fo.k k D
  obtain⟨M,q,r,G⟩:=l.pF;have E:=C.fo.s _ q;have h:∀c,X (.cell c)->b≠c:=λc x e=>m (e▸x);have o:=E.bU 10 ai ai;rw[r]at o;exact(⟨sB d.work (h _ l.bU.1) f,sB d.told (h _ l.bU.2.1) f,sB d.store (h _ l.bU.2.2) f,sB d.done (h _ o) f⟩)
 ·obtain⟨_,_,_,_,_,t,_⟩:=C.Be j A
  exact sB d (λe=>m (e▸t)) f
end
theorem Base.land{s}(b:Base s){m}{T}(hm:∃N,iz ak N s.m s.T=(.next m,T)){o}{k}{j e}(H:dw ak s.St s.At s.Shun s.ax s.h s.B s.gs.size e m T 0 (·=G o k))
  (hr:Rel (bN ak) s.Hid j e)(r:iS s.w s.W j e)(hB:e.heap.size<=s.B)(i)(f):
  ∃c:dM,Base c/\Real s c/\c.fr'=i/\c.cs'=f/\c.fr=o/\c.cs=k/\c.h=s.h/\c.dG=s.dG/\(∃t d,c.w=re j t d):=by
 obtain⟨N,gs,w2,sl,T2,q,d,a,J,K,L,M,rfl,g,⟨y,h⟩⟩:=H;subst g h;have p:=(b.core.keep r hr hB).re y;rw[<-K]at p;obtain⟨c,hb,⟨v,uQ⟩,g,h,z,A,C,D,_,_,⟨t,x,l⟩,_,dW,E⟩:=settle M.wX L p ..;obtain⟨u,tf⟩:=hm;refine⟨c,hb,⟨⟨u+N+v,kG (kG tf J) uQ⟩,?_⟩,g,h,z,A,C,D,t,x,?_⟩
 ·rw[E,l]
  exact((((r.dead b.core.fo).at _).at _).re .. ).re ..
 rw[l];rfl
theorem VQ{f}(h:qO ak f=U):f=43\/f=44\/f=46\/f=55\/f=66:=by
 have c:f<225:=by
  unfold qO at h;cases h2:Tryz.prog.funcs[f]? with
  |none=>rw[h2]at h;cases h
  |some a=>have:=(gG.1 h2).1;rw[LB]at this;exact this
 have b:(oz 225).all (λf=>!(qO ak f)||f==43||f==44||f==46||f==55||f==66)=U:=by kernel_rfl
 have:=BI.1 b f (List.mem_range.2 c);rw[h]at this;simpa[or_assoc]using this
theorem RJ{L}{f}{F}{t}{td}{v}{a}{l}{w}(b:L.funcs[f]?=Z F)(c:∀w,(results F t).runT L w #[]=(.ok v w,#[])):eV L ⟨⟨f,t,td,[],.returning,.normal,I⟩,a::l,w⟩ ⟨a.finish v,l,w⟩ 1:=λτ d=>by
 have e:aG L U (G ⟨f,t,td,[],.returning,.normal,I⟩ (a::l)) (re w τ d)=dO (a.finish v) l (re w τ d) #[]:=by
  simp only[G,aG,lU,b,c,rh];simp[kF,seen_none]
 simp only[il.on,di];rw[eY e]
theorem anc{L}{f}{F}{t}{b}{v}{a}{l}{w}(c:L.funcs[f]?=Z F)(g:∀w,(results F t).runT L w #[]=(.ok v w,#[]))(e:a.mode=.returning):eV L ⟨⟨f,t,b,[],.returning,.deferred,I⟩,a::l,w⟩ ⟨a,l,w⟩ 1:=λτ d=>by
 have h:aG L U (G ⟨f,t,b,[],.returning,.deferred,I⟩ (a::l)) (re w τ d)=dO a l (re w τ d) #[]:=by
  simp only[G,aG,lU,c,g,rh,e];simp[kF,seen_none]
 simp only[il.on,di];rw[eY h]
theorem agm(P)(f)(a)(b):(bG P f a b).todo.length<=1:=by
 simp[bG]
theorem adQ{j}(a:xn j)(v):(j.A'.finish v).todo.length=2:=by
 obtain⟨g,s,e⟩:=a.lone;rw[e];rfl
theorem sQ.Zo{s}(i:sQ s){j}(k:xn j){v}(d:s.fr'=j.A'.finish v):False:=by
 obtain⟨c,m,n,a,l,⟨f,b,_,e,_⟩,_⟩:=i;have g:=agm (Lo ak fs) f b c;have h:=adQ k v;rw[<-e]at g;rw[<-d]at h;omega
theorem sW.again{s a}(k:sW s)(i:sQ s)(f:a.h=s.h)(c:a.dG=s.dG)(g:ko s.E a.fr' a.cs' a.fr a.cs):sW a:=by
 have hE:a.E=s.E:=by unfold dM.E;rw[c]
 cases k with
 |main e b _=>exact .main (c.trans e) (f.trans b) (.inl (by rw[hE];exact g))
 |work j e d b _=>exact .work j (c.trans e) d (f.trans b) (.inl (by rw[hE];exact g))
 |back j e d b v h=>
  exfalso;exact i.Zo d h
theorem sW.OI{s b}(k:sW s)(p:sQ s)(q:b.h=s.h)(r:b.dG=s.dG){f a}{i l}(t:ko s.E f i a l\/s.E f i a l)(v)(d:b.fr'=f.finish v)(m:b.cs'=i)(n:b.fr=a.finish v)(o:b.cs=l):sW b:=by
 rcases t with u|c
 ·exact k.again p q r (by rw[d,m,n,o];exact u.back .normal v)
 ·cases k with
  |main e g _=>rw[HE e]at c;exact c.elim
  |work j e h g _=>
   unfold dM.E at c;rw[e]at c;obtain⟨rfl,rfl,rfl,rfl⟩:=c;exact .back j (r.trans e) h (q.trans g) v d m n o
  |back j e h g v d=>exact(p.Zo h d).elim
theorem Inv.xD{s}(i:Inv s):Dl ak LL s.E:=by
 cases i.ni with
 |main a=>exact YtgahemdblfapeaaGreatDoor.xD λj h=>by rw[a]at h;cases h
 |work j a c=>exact YtgahemdblfapeaaGreatDoor.xD λb h=>by simp_all
 |back j a c=>exact YtgahemdblfapeaaGreatDoor.xD λb h=>by simp_all
theorem Inv.below{s}(i:Inv s){b a}{c l}(e:ko s.E b c a l\/s.E b c a l):Below ak LL (b::c):=e.elim (λd=>.cons d.fr.FY (d.belows i.xD)) λf=>i.xD.below _ _ _ _ f
theorem R4{R}{s}(b:Base s)(K:Good LL R s.bW){f}{t}{n m}{g}{o a v c}{j l}(eI:Below ak LL (o::j))
  (hk:g≠.early)(bH:6<=t.size)(e1:s.fr'=⟨f,t,[.code (wF n m)],[],.run,g,I⟩)(e2:s.cs'=o::j)(e4:s.cs=a::l)(hq:(om ak (G s.fr s.cs)).isSome=U)
  (r:∀L w,eV LL ⟨⟨f,L,[.code .ret],[],.returning,g,I⟩,o::j,w⟩ ⟨v,j,w⟩ 1)
  (Q:∀S e sh B T,t.getD 0 aC=ptr S e->Gate s.St s.ax (·=⟨S,e,I⟩)->¬s.Shun (.cell ⟨S,e,I⟩)->S<s.B->eC s.W ⟨S,e,I⟩ (i32 n) (Z sh)->ji ak s.St s.At s.Shun s.ax s.h s.B s.gs.size ⟨S,e,I⟩ s.W B T 0 (i32 n) (aN ak 1 (G s.fr s.cs))->ji ak s.St s.At s.Shun s.ax s.h s.B s.gs.size ⟨S,e,I⟩ s.W B T 0 (i32 m) (G c l)):
  ∃i:dM,Base i/\Real s i/\i.fr'=v/\i.cs'=j/\i.fr=c/\i.cs=l/\i.h=s.h/\i.dG=s.dG/\∃k n a,0<k/\kj LL s.bW i.bW k n a:=by
 have pX:s.bW=⟨⟨f,t,[.code (wF n m)],[],.run,g,I⟩,o::j,s.w⟩:=by unfold dM.bW;rw[e1,e2]
 rw[pX]at K⊢;obtain⟨x,hp,A,V,L,k,hL⟩:=amU n m hk eI aZ b.core.rel bH K;have p:=b.core.rel;obtain⟨J,aE,M⟩:=p.cell A;obtain⟨P,ty,fz,z,u,xV,hv⟩:=kK J;obtain⟨S,e,sp⟩:=x;subst u;have C:eC s.W ⟨S,e,I⟩ (i32 n) (Z (ty,P.size)):=⟨J,by rw[p.frozen A];exact V,by unfold fD;rw[z]⟩;have O:S<s.B:=by
  have h1:=b.core.low;have h2:=p.size;simp only at aE;omega
 obtain⟨B,T,hm,_,y⟩:=b.begin hq;have H:=Q S _ _ _ T hp (b.core.gate F M) (λh=>M (b.core.S3 h)) O C (y _ _ _ C);obtain⟨r1,r2⟩:=p.setCell A _;obtain⟨i,hb,hR,D,E,f3,f4,f5,f6,τ,d,f7⟩:=b.land hm (by
  obtain⟨N,gs,w,sl,W,q,dd,X,k1,k2,k3,k4,k5,k6,k7⟩:=H;exact⟨N,gs,w,sl,W,q,dd,X,k1,k2,k3,k4,k5,k6,k7⟩) r1 r2 (by rw[size_setCell];exact b.core.low) ..
 refine⟨i,hb,hR,D,E,f3,f4,f5,f6,k+1,0,λ_ _=>0,by omega,?_⟩;have cv:i.bW=⟨v,j,re (s.w.setCell ⟨S,e,I⟩ (i32 m)) τ d⟩:=by unfold dM.bW;rw[D,E,f7]
 rw[cv];exact avZ ((hL.trans (r _ _)).vz) _ d
theorem axg(t:af ag):(λi=>t.getD i aC)=cN (λi=>t.getD (i+1) aC) (t.getD 0 aC):=by
 funext i;cases i<;>rfl
theorem axh(t:af ag):(λi=>t.getD i aC)=Ht (λi=>t.getD (i+2) aC) (t.getD 0 aC) (t.getD 1 aC):=by
 funext i;rcases i with _|_|i<;>rfl
theorem Hk(t)(n)(h:n<=t.size):t=bO n (cN (λi=>t.getD (i+1) aC) (t.getD 0 aC)) (t.toList.drop n):=by
 rw[<-axg];exact Tf t n h
theorem aaN(t)(n)(h:n<=t.size):t=bO n (Ht (λi=>t.getD (i+2) aC) (t.getD 0 aC) (t.getD 1 aC)) (t.toList.drop n):=by
 rw[<-axh];exact Tf t n h
def pad(n:Nat)(X:af ag):af ag:=X++pG (n-X.size) aC
theorem Bq(n)(X):n<=(pad n X).size:=by simp[pad];omega
theorem al4:LL.funcs[43]?=Z Rj:=av
theorem Yn:LL.funcs[44]?=Z Ju:=av
theorem axK(X)(b):bG LL 43 X b=⟨43,pad 6 X,[.code (wF 0 1)],[],.run,b,I⟩:=av
theorem axL(X)(b):bG LL 44 X b=⟨44,pad 6 X,[.code (wF 1 0)],[],.run,b,I⟩:=av
noncomputable def U6:bl:=((Tryz.prog.funcs[43]?).bind (·.body)).getD .skip
noncomputable def U7:bl:=((Tryz.prog.funcs[44]?).bind (·.body)).getD .skip
theorem agf(X)(b):bG ak 43 X b=⟨43,pad 6 X,[.code U6],[],.run,b,I⟩:=av
theorem agh(X)(b):bG ak 44 X b=⟨44,pad 6 X,[.code U7],[],.run,b,I⟩:=av
theorem age(X)(b):bG ak 43 X b=B6 43 6 (cN (λi=>(pad 6 X).getD (i+1) aC) ((pad 6 X).getD 0 aC)) ((pad 6 X).toList.drop 6) b:=by
 rw[agf];show _=(⟨43,bO 6 .. ,[.code U6],[],.run,b,I⟩:az);rw[<-Hk _ 6 (Bq 6 _)]
theorem VR(X)(b):bG ak 44 X b=B6 44 6 (cN (λi=>(pad 6 X).getD (i+1) aC) ((pad 6 X).getD 0 aC)) ((pad 6 X).toList.drop 6) b:=by
 rw[agh];show _=(⟨44,bO 6 .. ,[.code U7],[],.run,b,I⟩:az);rw[<-Hk _ 6 (Bq 6 _)]
theorem JR(f)(n)(t)(l)(b)(e:b=.normal\/b=.deferred)(c)(d:f=43\/f=44\/f=66\/f=55):(om ak (G (B6 f n t l b) c)).isSome=U:=by
 rcases d with rfl|rfl|rfl|rfl<;>rcases e with rfl|rfl<;>kernel_rfl
section
variable {R:ag->au->Prop}{s:dM}{W a:az}{V l:ae az}{X:af ag}
theorem anq(i:Inv s)(f:Good LL R s.bW)(E:sQ s)(g:ko s.E W V a l\/s.E W V a l)(q:s.fr'=bG LL 43 X .normal)(r:s.cs'=W::V)(d:s.fr=bG ak 43 X .normal)(e:s.cs=a::l)(K:a.mode=.run):∃c k n b,Inv c/\Real s c/\0<k/\kj LL s.bW c.bW k n b:=by
 rw[age]at d;obtain⟨P,m,o,O,j,h,ro⟩:=a;subst K;have M:(om ak (G s.fr s.cs)).isSome=U:=by rw[d,e];exact JR _ _ _ _ _ (.inl F) _ (.inl F)
 obtain⟨c,D,B,t,u,v,x,y,z,k,n,b,J,A⟩:=R4 i.base f (i.below g) aZ (Bq 6 _) q r e M (λt2 w=>RJ al4 λw=>by kernel_rfl)
  λS N sh m0 T L f Q C p H=>by
   rw[d,e,L]at H;exact amQ f F C p H
 exact⟨c,k,n,b,⟨D,i.ni.OI E y z g _ t u v x⟩,B,J,A⟩
theorem ant(i:Inv s)(f:Good LL R s.bW)(E:sQ s)(g:ko s.E W V a l\/s.E W V a l)(q:s.fr'=bG LL 44 X .normal)(r:s.cs'=W::V)(d:s.fr=bG ak 44 X .normal)(e:s.cs=a::l)(K:a.mode=.run):∃c k n b,Inv c/\Real s c/\0<k/\kj LL s.bW c.bW k n b:=by
 rw[VR]at d;obtain⟨Q,m,o,P,j,h,ro⟩:=a;subst K;have M:(om ak (G s.fr s.cs)).isSome=U:=by rw[d,e];exact JR _ _ _ _ _ (.inl F) _ (.inr (.inl F))
 obtain⟨c,D,B,t,u,v,x,y,z,k,n,b,J,A⟩:=R4 i.base f (i.below g) aZ (Bq 6 _) q r e M (λt2 w=>RJ Yn λw=>by kernel_rfl)
  λS O sh m0 T L f N C p H=>by
   rw[d,e,L]at H;exact axd f F N C p H
 exact⟨c,k,n,b,⟨D,i.ni.OI E y z g _ t u v x⟩,B,J,A⟩
theorem anu(i:Inv s)(g:Good LL R s.bW)(J:sQ s)(o:ko s.E W V a l)(x:s.fr'=bG LL 44 X .deferred)(y:s.cs'=W::V)(d:s.fr=bG ak 44 X .deferred)(f:s.cs=a::l)(h:a.mode=.returning):∃c k n b,Inv c/\Real s c/\0<k/\kj LL s.bW c.bW k n b:=by
 rw[VR]at d;have r:W.mode=.returning:=by
  obtain⟨t,e,_⟩:=o.fr;rw[e];exact h
 obtain⟨fn,p,q,P,m,j,ro⟩:=a;subst h;have M:(om ak (G s.fr s.cs)).isSome=U:=by rw[d,f];exact JR _ _ _ _ _ (.inr F) _ (.inr (.inl F))
 obtain⟨c,E,C,Q,f2,f3,f4,z,A,k,n,b,K,B⟩:=R4 i.base g (i.below (.inl o)) aZ (Bq 6 _) x y f M (λt2 w=>anc (v:=.tuple #[]) Yn (λw=>by kernel_rfl) r)
  λS O sh m0 T L g N D u H=>by
   rw[d,f,L]at H;exact axc g F N D u H
 exact⟨c,k,n,b,⟨E,i.ni.again J z A (by simp_all)⟩,C,K,B⟩
end
structure Alike(w w':au):Prop where
 size:w'.heap.size=w.heap.size
 tape:w'.tape=w.tape
 drawn:w'.drawn=w.drawn
 os:w'.os=w.os
 output:w'.output=w.output
 obj:∀b:Nat,w'.heap[b]?=w.heap[b]?\/∃cap buf cl s r s' r' tm,w.heap[b]?=Z (.chan cap buf cl s r tm)/\w'.heap[b]?=Z (.chan cap buf cl s' r' tm)
namespace Alike
variable {w w' P:au}
theorem refl(w:au):Alike w w:=⟨F,F,F,F,F,λ_=>.inl F⟩
theorem trans(h:Alike w w')(k:Alike w' P):Alike w P:=by
 refine⟨k.size.trans h.size,k.tape.trans h.tape,k.drawn.trans h.drawn,k.os.trans h.os,k.output.trans h.output,λb=>?_⟩;rcases k.obj b with e|⟨g,f,p,s,r,v,t,tm,a,c⟩
 ·rw[e];exact h.obj b
 ·rcases h.obj b with e|⟨q,d,o,s2,u,m,l,n,i,j⟩
  ·rw[<-e];exact .inr ⟨_,_,_,_,_,_,_,_,a,c⟩
  ·rw[j]at a
   cases a;exact .inr ⟨_,_,_,_,_,_,_,_,i,c⟩
theorem chan(h:Alike w w'){b c s r:Nat}{a:af ag}{d tm:Bool}(g:w'.heap[b]?=Z (.chan c a d s r tm)):∃k j,w.heap[b]?=Z (.chan c a d k j tm):=by
 rcases h.obj b with e|⟨_,_,_,_,_,_,_,_,i,f⟩
 ·exact⟨s,r,by rw[<-e];exact g⟩
 ·rw[g]at f;cases f;exact⟨_,_,i⟩
theorem m7(h:Alike w w'){c s:Nat}{a:af ag}{d tm:Bool}(g:w.heap[b]?=Z (.chan c a d s r tm)):∃k j,w'.heap[b]?=Z (.chan c a d k j tm):=by
 rcases h.obj b with e|⟨_,_,_,_,_,_,_,_,f,i⟩
 ·exact⟨s,r,by rw[e];exact g⟩
 ·rw[g]at f;cases f;exact⟨_,_,i⟩
theorem cell(h:Alike w w')(a:aR):w'.cell? a=w.cell? a:=by
 unfold fR;rcases h.obj a.block with e|⟨_,_,_,_,_,_,_,_,b,c⟩
 ·rw[e]
 ·rw[b,c]
theorem shape(h:Alike w w')(b:Nat):w'.shape? b=w.shape? b:=by
 unfold fD;rcases h.obj b with e|⟨_,_,_,_,_,_,_,_,a,c⟩
 ·rw[e]
 ·rw[a,c]
theorem eo{c a s s' r':Nat}{d:af ag}{f tm:Bool}(h:w.heap[c]?=Z (.chan a d f s r tm))(j:af ag)(i:Bool)(s2 k:Nat)(g:Bool):Alike w ((w.setChan c a j i s2 k g).setChan c a d f s' r' tm):=by
 have aE:c<w.heap.size:=(gG.1 h).1;refine⟨by simp[World.setChan],F,F,F,F,λb=>?_⟩;by_cases e:c=b
 ·subst e
  refine .inr ⟨a,d,f,s,r,s',r',tm,h,?_⟩;simp[World.setChan,aE]
 ·refine .inl ?_
  rw[mM _ _ _ _ _ _ _ e,mM _ _ _ _ _ _ _ e]
end Alike
section
variable {fx:Obj->Prop}{V:Loc->Prop}{w w' W:au}{S:Bool}{M:ae dp}{Q:ae cz}
theorem Rel.alike(h:Rel fx V w W)(k:Alike w w'):Rel fx V w' W:=by
 refine⟨k.size.trans h.size,k.tape.trans h.tape,k.drawn.trans h.drawn,k.os.trans h.os,k.output.trans h.output,λb o g=>?_,λa n=>?_,λr q=>?_⟩
 ·rcases k.obj b with e|⟨_,_,_,_,_,_,_,_,j,c⟩
  ·exact h.obj b o (by rw[<-e];exact g)
  ·obtain⟨O,l,m⟩:=h.obj b _ j
   rw[c]at g;cases g;refine⟨O,l,?_⟩;cases m with
   |same _ p=>exact p.elim
   |kR _ _ _ _ _ _ _ s=>exact .kR _ _ _ _ _ _ _ s
 ·obtain⟨d,f⟩:=h.mT a n
  exact⟨by rw[k.size];exact d,by rw[k.cell];exact f⟩
 ·obtain⟨d,f⟩:=h.pd r q
  refine⟨by rw[k.size];exact d,λo i=>?_⟩;rcases k.obj r with e|⟨_,_,_,_,_,_,_,_,j,c⟩
  ·exact f o (by rw[<-e];exact i)
  ·rw[c]at i;cases i;rfl
theorem yU.alike{s:cz}(l:yU V w W s)(k:Alike w w'):yU V w' W s:=by
 obtain⟨a,b,e⟩:=l.lone;obtain⟨c,d,f⟩:=k.m7 e;exact⟨⟨c,d,f⟩,l.real,⟨by rw[k.shape];exact l.sh.1,l.sh.2⟩,l.done,l.cnt,l.qi,l.stop,l.bU,l.le⟩
theorem KF.alike{x:dp}(l:KF V w W Q x)(k:Alike w w'):KF V w' W Q x:=by
 obtain⟨e,i,a⟩:=l.work;obtain⟨f,j,b⟩:=l.told;obtain⟨g,m,c⟩:=l.wb;obtain⟨h,n,d⟩:=l.sb;exact⟨l.pF,let⟨p,q,r⟩:=k.m7 a;⟨p,q,r⟩,let⟨p,q,r⟩:=k.m7 b;⟨p,q,r⟩,l.yD,let⟨p,q,r⟩:=k.m7 c;⟨p,q,r⟩,l.ra,let⟨p,q,r⟩:=k.m7 d;⟨p,q,r⟩,l.tC,l.bU⟩
theorem fL.alike(L:fL V S M Q w W)(k:Alike w w'):fL V S M Q w' W:=by
 refine⟨λs g=>(L.s s g).alike k,λx j=>(L.k x j).alike k,λb d c e x y tm f=>?_,?_,?_,L.CC,L.CB,L.zE,L.x9,L.ua,L.count,L.nodup,L.Bm⟩
 ·obtain⟨m,l,h⟩:=k.chan f
  exact L.chans b d c e _ _ tm h
 ·obtain⟨a,b,h⟩:=L.gate
  exact k.m7 h
 ·obtain⟨v,a,b,h,i⟩:=L.hand
  obtain⟨p,q,r⟩:=k.m7 h;exact⟨v,p,q,r,i⟩
end
section
variable {L:aA}{R:ag->au->Prop}{T:az}{X:ae az}{w:au}
theorem anb{N:Nat}{a:aH}{o:Obj}(h:oe L N (G T X)=Z (a,o))(i:∃t c,a=G t c)(g:w.heap.size=N):∃k,eV L ⟨T,X,w⟩ ⟨a.frame,a.callers,bM w o⟩ k:=by
 obtain⟨m,b,e⟩:=MU (L:=L) 400 T X w;obtain⟨_,f⟩:=Zh (main:=U) h;obtain⟨t,c,rfl⟩:=i;refine⟨m+1,b.trans λτ d=>?_⟩;have:=f (re w τ d) g;rw[seen_none,<-e]at this;simp only[il.on,di];rw[eY this];rfl
theorem DU(b:Good L R ⟨T,X,w⟩){t:az}{c:ae az}{o:Obj}(h:oe L w.heap.size (G T X)=Z (G t c,o))(d:c≠[]):∃k,eV L ⟨T,X,w⟩ ⟨t,c,bM w o⟩ k/\Good L R ⟨t,c,bM w o⟩:=by
 obtain⟨k,a⟩:=anb h ⟨t,c,F⟩ F;exact⟨k,a,b.mF a d⟩
theorem bind_some{β:Type}{x:aj α}{f:α->aj β}{b:β}(h:x.bind f=Z b):∃a,x=Z a/\f a=Z b:=m4.1 h
theorem Iz{v z:ag}(j:Good L R ⟨T,X,w⟩)(o:X≠[])(h:(eU L (G T X)).bind (fQ L)=Z (.comm #[{chan:=v,send:=I,zero:=z}] U (.recv Y))):∃c f d g a b tm,v=.chan (Z c)/\w.heap[c]?=Z (.chan f d g a b tm)/\(g=Y->0<d.size/\eV L ⟨T,X,w⟩ ⟨T.finish (d.getD 0 aC),X,w.setChan c f (d.extract 1 d.size) Y a (b+1) tm⟩ 1/\Good L R ⟨T.finish (d.getD 0 aC),X,w.setChan c f (d.extract 1 d.size) Y a (b+1) tm⟩):=by
 obtain⟨s,p,h⟩:=bind_some h;obtain⟨c,f,d,g,a,b,tm,k,l,m⟩:=RG p h j;refine⟨c,f,d,g,a,b,tm,k,l,λe=>?_⟩;obtain⟨n,i⟩:=m e;exact⟨n,i,j.mF i o⟩
theorem LO{v x z:ag}(j:Good L R ⟨T,X,w⟩)(o:X≠[])(h:(eU L (G T X)).bind (fQ L)=Z (.comm #[{chan:=v,send:=Z x,zero:=z}] U .send)):∃c f d g a b tm,v=.chan (Z c)/\w.heap[c]?=Z (.chan f d g a b tm)/\(g=Y->d.size<f/\eV L ⟨T,X,w⟩ ⟨T.finish aC,X,w.setChan c f (d.push x) Y (a+1) b tm⟩ 1/\Good L R ⟨T.finish aC,X,w.setChan c f (d.push x) Y (a+1) b tm⟩):=by
 obtain⟨s,p,h⟩:=bind_some h;obtain⟨c,f,d,g,a,b,tm,k,l,m⟩:=amY p h j;refine⟨c,f,d,g,a,b,tm,k,l,λe=>?_⟩;obtain⟨n,i⟩:=m e;exact⟨n,i,j.mF i o⟩
end
theorem S5{w:au}{c g s d l:Nat}{f a:af ag}{k tm i j:Bool}(h:w.heap[c]?=Z (.chan g f k s r tm))(b:Nat):(w.setChan c d a i m l j).shape? b=w.shape? b:=by
 unfold fD;by_cases e:c=b
 ·subst e
  rw[oE _ h,h]
 ·rw[mM _ _ _ _ _ _ _ e]
theorem Alike.dead{w w':au}(a:Alike w w')(W:au):mN w W w' W:=by
 refine⟨λb u h=>?_,λ_ _=>rfl,Nat.le_of_eq a.size.symm,λ_ _=>rfl⟩;rcases a.obj b with e|⟨_,_,_,_,_,_,_,_,f,_⟩
 ·rw[e];exact h
 ·rw[h]at f;cases f
theorem fL.full{p}{i}{x}{u}{w W}(L:fL p i x u w W){c j a b}{g}{q tm}(h:w.heap[c]?=Z (.chan j g q a b tm))(r:0<g.size):q=Y/\tm=Y/\((∃k∈x,c=k.W/\j=1/\g=#[qY k])\/(∃s∈u,c=s.D/\j=2/\g=#[cV s])\/(c=bq/\i=U)\/(c=dx/\j=6/\∃o,g=#[.chan o])):=by
 obtain⟨y,z,A,C⟩:=L.chans c _ _ _ a b _ h;refine⟨y,z,?_⟩;cases A with
 |work k n e=>
  obtain⟨l,m,d⟩:=(L.k k n).work;rw[<-e,h]at d;cases d;exact .inl ⟨k,n,e,F,F⟩
 |done s t e=>
  obtain⟨l,m,d⟩:=(L.s s t).lone;rw[<-e,h]at d;cases d;exact .inr (.inl ⟨s,t,e,F,F⟩)
 |told k n e=>
  obtain⟨l,m,d⟩:=(L.k k n).told;rw[<-e,h]at d;cases d;simp at r
 |box=>simp_all
 |gate e=>
  obtain⟨l,m,d⟩:=L.gate;rw[<-e,h]at d;cases d;cases i with
  |true=>simp_all
  |false=>simp at r
 |hand e=>
  obtain⟨v,l,m,d,B⟩:=L.hand;rw[<-e,h]at d;cases d;refine .inr (.inr (.inr ⟨e,F,?_⟩));rcases B with rfl|⟨s,_,rfl,_⟩
  ·exact⟨I,rfl⟩
  ·exact⟨_,rfl⟩
def K1:af ag:=#[.int .i32 0,.int .u32 0,.slice I 0 0,.slice I 0 0,.map I,.int .i64 0,.int .i64 0,.slice I 0 0,.slice I 0 0,.pointer I,.chan I,.int .u64 0,.int .u32 0,.bool Y]
def K0:af (Nat×Nat):=#[(0,2),(2,1),(3,1),(4,1),(5,1),(6,1),(7,1),(8,1),(9,1),(10,1),(11,2),(13,1)]
noncomputable def U2:af Field:=match LL.underlying 109 with
 |some (.struct a)=>a
 |_=>#[]
theorem aer(w):(zeroValue 109).run LL w=.ok (.agg K1) w:=av
theorem ael(w):(underlying 109).run LL w=.ok (.struct U2) w:=av
theorem aek(w):(U2.mapM λf=>do pure (f.offset,<-sizeOf f.type):Sem (af (Nat×Nat))).run LL w=.ok K0 w:=av
theorem aen(v)(w):(Instr.build 109 #[(0,v)]).run LL w=(match Instr.fill (K0[·]?) K1 [(0,v)]with
  |some a=>(pure (.agg a):Sem ag)
  |none=>stuck "build: no such field, or a part of the wrong size").run LL w:=by
 unfold Instr.build;rw[oD,aer];simp only[eh];rw[oD,ael];simp only[eh];rw[oD,aek];simp only[eh,Value.cells];cases Instr.fill (K0[·]?) K1 [(0,v)]<;>rfl
theorem adJ:K0[0]?=Z (0,2):=av
theorem aem(v):(∃x y,v=.agg #[x,y])\/∀w,∃e,(Instr.build 109 #[(0,v)]).run LL w=.halt e w:=by
 by_cases h:v.cells.size=2
 ·refine .inl ?_
  cases v with
  |agg V=>
   obtain⟨l⟩:=V;have h:l.length=2:=h
   match l,h with
   |[x,y],_=>exact⟨x,y,F⟩
  |_=>simp[Value.cells]at h
 ·refine .inr λw=>?_
  rw[aen];simp only[Instr.fill,adJ];rw[if_pos (by simp[h])];exact⟨_,F⟩
theorem ags(a)(y)(p q):(∃o,y=.chan o/\∀w,(do kX .eql 140 p q (ay a) y;binOp .eql 140 (ay a) y).run LL w=.ok (.bool (Z a==o)) w)\/∀w,∃e,(do kX .eql 140 p q (ay a) y;binOp .eql 140 (ay a) y).run LL w=.halt e w:=by
 cases y with
 |chan o=>exact .inl ⟨o,F,λw=>by rfl⟩
 |_=>exact .inr λw=>⟨.stuck "==: the operands do not fit the type, or the type is not comparable",by kernel_rfl⟩
section
variable {R:ag->au->Prop}{w:au}{V:ae az}{f:bA}{X:dD}
theorem Ww{c}{a}{tm}{k}{bb}(m:Good LL R ⟨⟨f,tm,.code (.cond c (.refuse a) .skip)::k,[],.run,X,I⟩,V,w⟩)(g:V≠[])(q:bJ ⟨f,tm,[],[],.run,X,I⟩ c=.bool bb):bb=Y/\eV LL ⟨⟨f,tm,.code (.cond c (.refuse a) .skip)::k,[],.run,X,I⟩,V,w⟩ ⟨⟨f,tm,k,[],.run,X,I⟩,V,w⟩ 2:=by
 have b:bJ ⟨f,tm,.code (.cond c (.refuse a) .skip)::k,[],.run,X,I⟩ c=.bool bb:=by rw[<-q];cases c<;>rfl
 cases bb with
 |false=>
  refine⟨F,λτ d=>?_⟩;have s1:aG LL U (G ⟨f,tm,.code (.cond c (.refuse a) .skip)::k,[],.run,X,I⟩ V) (re w τ d)=dO ⟨f,tm,.code .skip::k,[],.run,X,I⟩ V (re w τ d) #[]:=by
   simp[G,aG,bE,b]
  have s2:aG LL U (G ⟨f,tm,.code .skip::k,[],.run,X,I⟩ V) (re w τ d)=dO ⟨f,tm,k,[],.run,X,I⟩ V (re w τ d) #[]:=by
   simp[G,aG,bE]
  simp only[il.on,di];rw[eY s1];dsimp only
  rw[eY s2]
 |true=>
  exfalso;obtain⟨τ,d,_,n,r,p,l⟩:=m (λ_ _=>0);have s1:aG LL U (G ⟨f,tm,.code (.cond c (.refuse a) .skip)::k,[],.run,X,I⟩ V) (re w τ d)=dO ⟨f,tm,.code (.refuse a)::k,[],.run,X,I⟩ V (re w τ d) #[]:=by
   simp[G,aG,bE,b]
  obtain⟨o,e,i⟩:∃o e,aG LL U (G ⟨f,tm,.code (.refuse a)::k,[],.run,X,I⟩ V) (re w τ d)=.ended o e #[]:=⟨_,_,by rfl⟩;have h:=Ns ⟨n,r,p,l⟩ (k:=1) (by simp only[il.on,di];rw[eY s1]) (JA g);obtain⟨t,j,_⟩:=JV h F;obtain⟨u,v,s⟩:=zX (by rw[i];rfl);cases j
end
noncomputable def dL(c l:ae ag)(b:ae Nat):az:=⟨66,⟨c++l⟩,[.inRegion Vv b,.code Vt],[],.run,.normal,I⟩
noncomputable def F6(o:iq)(W f:ag):az:=⟨66,bO 11 (Ht o.t W f) o.l,[.code (EF.body.getD .skip)],[],.run,.normal,I⟩
section
variable (o:iq)(W f x y g:ag)(N:Nat)(k:dp)(s:cz)(X:ae az)
theorem afy:oe LL N (G (F6 o W f) X)=Z (G (dL [W,f,ay N,o.t 1,o.t 2,o.t 3,o.t 4,o.t 5,o.t 6,o.t 7,o.t 8] o.l [1,2,3,4,5,6,7,8,9,10,11,12]) X,.chan 4 #[] Y 0 0 Y):=av
theorem afn:eU LL (G (dL [W,f,ay N,o.t 1,o.t 2,o.t 3,o.t 4,o.t 5,o.t 6,o.t 7,o.t 8] o.l [1,2,3,4,5,6,7,8,9,10,11,12]) X)=Z (do pure (.value (<-Instr.build 109 #[(0,W)]))):=av
noncomputable def lI:ag:=.agg ((K1.setIfInBounds 0 x).setIfInBounds 1 y)
theorem afo:aN LL 1 (G (dL [.agg #[x,y],f,ay N,o.t 1,o.t 2,o.t 3,o.t 4,o.t 5,o.t 6,o.t 7,o.t 8] o.l [1,2,3,4,5,6,7,8,9,10,11,12]) X)=G (dL [.agg #[x,y],f,ay N,o.t 1,o.t 2,o.t 3,o.t 4,o.t 5,o.t 6,lI x y,o.t 8] o.l [2,3,4,5,6,7,8,9,10,11,12]) X:=av
theorem afw:(eU LL (G (dL [.agg #[x,y],f,ay N,o.t 1,o.t 2,o.t 3,o.t 4,o.t 5,o.t 6,lI x y,o.t 8] o.l [2,3,4,5,6,7,8,9,10,11,12]) X)).bind (fQ LL)=Z (.comm #[{chan:=gL,send:=I,zero:=.agg #[]}] U (.recv Y)):=av
theorem afx:(dL [.agg #[x,y],f,ay N,o.t 1,o.t 2,o.t 3,o.t 4,o.t 5,o.t 6,lI x y,o.t 8] o.l [2,3,4,5,6,7,8,9,10,11,12]).finish g=dL [.agg #[x,y],f,ay N,g,o.t 2,o.t 3,o.t 4,o.t 5,o.t 6,lI x y,o.t 8] o.l [3,4,5,6,7,8,9,10,11,12]:=av
theorem afv:aN LL 2 (G (dL [.agg #[x,y],f,ay N,g,o.t 2,o.t 3,o.t 4,o.t 5,o.t 6,lI x y,o.t 8] o.l [3,4,5,6,7,8,9,10,11,12]) X)=G (dL [.agg #[x,y],f,ay N,g,o.t 2,x,y,o.t 5,o.t 6,lI x y,o.t 8] o.l [5,6,7,8,9,10,11,12]) X:=av
theorem afC:(eU LL (G (dL [.agg #[x,y],f,ay N,g,o.t 2,x,y,o.t 5,o.t 6,lI x y,o.t 8] o.l [5,6,7,8,9,10,11,12]) X)).bind (fQ LL)=Z (.comm #[{chan:=x,send:=I,zero:=.nilFunc}] U (.recv Y)):=av
variable (v:ag)
theorem afD:(dL [.agg #[x,y],f,ay N,g,o.t 2,x,y,o.t 5,o.t 6,lI x y,o.t 8] o.l [5,6,7,8,9,10,11,12]).finish v=dL [.agg #[x,y],f,ay N,g,o.t 2,x,y,v,o.t 6,lI x y,o.t 8] o.l [6,7,8,9,10,11,12]:=av
theorem afj:(eU LL (G (dL [.agg #[x,y],f,ay N,g,o.t 2,x,y,v,o.t 6,lI x y,o.t 8] o.l [6,7,8,9,10,11,12]) X)).bind (fQ LL)=Z (.comm #[{chan:=x,send:=Z v,zero:=.tuple #[]}] U .send):=av
theorem afl:(dL [.agg #[x,y],f,ay N,g,o.t 2,x,y,v,o.t 6,lI x y,o.t 8] o.l [6,7,8,9,10,11,12]).finish aC=dL [.agg #[x,y],f,ay N,g,o.t 2,x,y,v,o.t 6,lI x y,o.t 8] o.l [7,8,9,10,11,12]:=av
theorem afs:eU LL (G (dL [.agg #[x,y],f,ay N,g,o.t 2,x,y,v,o.t 6,lI x y,o.t 8] o.l [7,8,9,10,11,12]) X)=Z (do pure (.value (<-Instr.field 142 v 0))):=av
theorem agH(c:aj Nat)(w:au):∃e,(Instr.field 142 (.chan c) 0).run LL w=.halt e w:=⟨.stuck "struct or array expected",by kernel_rfl⟩
theorem aft(a b:ag):aN LL 1 (G (dL [.agg #[x,y],f,ay N,g,o.t 2,x,y,.agg #[a,b],o.t 6,lI x y,o.t 8] o.l [7,8,9,10,11,12]) X)=G (dL [.agg #[x,y],f,ay N,g,o.t 2,x,y,.agg #[a,b],a,lI x y,o.t 8] o.l [8,9,10,11,12]) X:=av
theorem afu:aN LL 1 (G (dL [.agg #[x,y],f,ay N,g,o.t 2,x,y,cV s,o.t 6,lI x y,o.t 8] o.l [7,8,9,10,11,12]) X)=G (dL [.agg #[x,y],f,ay N,g,o.t 2,x,y,cV s,ptr s.S 0,lI x y,o.t 8] o.l [8,9,10,11,12]) X:=av
variable (a:ag)
theorem VC:(eU LL (G (dL [.agg #[x,y],f,ay N,g,o.t 2,x,y,v,a,lI x y,o.t 8] o.l [8,9,10,11,12]) X)).bind (fQ LL)=Z (.comm #[{chan:=a,send:=I,zero:=.agg #[]}] U (.recv Y)):=av
theorem afq(b:ag):(dL [.agg #[x,y],f,ay N,g,o.t 2,x,y,v,a,lI x y,o.t 8] o.l [8,9,10,11,12]).finish b=dL [.agg #[x,y],f,ay N,g,o.t 2,x,y,v,a,lI x y,b] o.l [9,10,11,12]:=av
theorem afk(b:ag):(eU LL (G (dL [.agg #[x,y],f,ay N,g,o.t 2,x,y,v,a,lI x y,b] o.l [9,10,11,12]) X)).bind (fQ LL)=Z (.comm #[{chan:=a,send:=Z b,zero:=.tuple #[]}] U .send):=av
theorem afm(b:ag):(dL [.agg #[x,y],f,ay N,g,o.t 2,x,y,v,a,lI x y,b] o.l [9,10,11,12]).finish aC=dL [.agg #[x,y],f,ay N,g,o.t 2,x,y,v,a,lI x y,b] o.l [10,11,12]:=av
theorem afB(b c d:ag):aN LL 1 (G (dL [.agg #[x,y],f,ay N,g,o.t 2,x,y,.agg #[c,d],a,lI x y,b] o.l [10,11,12]) X)=G (dL [.agg #[x,y],f,ay N,g,o.t 2,x,y,d,a,lI x y,b] o.l [11,12]) X:=av
theorem VD(b d:ag):eU LL (G (dL [.agg #[x,y],f,ay N,g,o.t 2,x,y,d,a,lI x y,b] o.l [11,12]) X)=Z (do pure (.value (<-(do kX .eql 140 (tm 7) (tm 6) d y;binOp .eql 140 d y)))):=av
theorem afr(b d e:ag):mg LL (G (dL [.agg #[x,y],f,ay N,g,o.t 2,x,y,d,a,lI x y,b] o.l [11,12]) X) (.value e)=Z (G (dL [.agg #[x,y],f,ay N,g,o.t 2,x,y,d,a,e,b] o.l [12]) X):=av
noncomputable def dC(c l:ae ag)(b:ae aK):az:=⟨66,⟨c++l⟩,b,[],.run,.normal,I⟩
noncomputable def Lh:bl:=.seq (reg xB) .ret
theorem afA(d e:ag):aN LL 3 (G (dL [.agg #[x,y],f,ay N,g,o.t 2,x,y,d,a,e,cV s] o.l [12]) X)=G (dC [.agg #[x,y],f,ay N,g,o.t 2,x,y,.bool s.st,a,e,cV s] o.l [.code (.cond (tm 9) .skip (.refuse "")),.code (.seq (.cond (tm 7) (.refuse "") .skip) Lh)]) X:=av
theorem afz(t:ae ag):aN LL 1 (G (dC t o.l [.code (.seq (.cond (tm 7) (.refuse "") .skip) Lh)]) X)=G (dC t o.l [.code (.cond (tm 7) (.refuse "") .skip),.code Lh]) X:=av
theorem afp(t:ae ag):aN LL 2 (G (dC t o.l [.code Lh]) X)=G (dC t o.l [.inRegion xB [0,1],.code .ret]) X:=av
end
section
variable {R:ag->au->Prop}{S:Loc->Prop}{T:Bool}{Q:ae dp}{V:ae cz}{w W:au}{X:ae az}
theorem O1(a:ae aK)(t:af ag)(h:M0 a=U):sO ak ⟨66,t,a,[],.run,.normal,I⟩:=⟨by simp,h,by simp⟩
theorem amR(L:fL S T Q V w W)(hr:Rel (bN ak) S w W)(eI:Below ak LL X)(j:X≠[]){o:iq}{G f:ag}(hg:Good LL R ⟨F6 o G f,X,w⟩):T=U/\∃k∈Q,∃s∈V,s.S=k.S/\s.D=k.D/\s.st=Y/\G=.agg #[ay k.W,ay k.T]/\∃n w1 a b,w.heap[bq]?=Z (.chan 5 #[bK V] Y a b Y)/\Alike ((bM w (.chan 4 #[] Y 0 0 Y)).setChan bq 5 #[] Y a (b+1) Y) w1/\eV LL ⟨F6 o G f,X,w⟩ ⟨tw o k w.heap.size f (bK V) s,X,w1⟩ n:=by
 obtain⟨ga,gb,i⟩:=L.gate;have uU:bq<w.heap.size:=(gG.1 i).1;have QR:∀b,b<w.heap.size->(bM w (.chan 4 #[] Y 0 0 Y)).heap[b]?=w.heap[b]?:=λb p=>by
  show(w.heap.push _)[b]?=_;rw[getElem?_push,if_neg ai]
 have η:∀t d,iY ak (re w t d):=λt d=>hr.tk;obtain⟨k1,L1,g1⟩:=DU hg (afy o G f w.heap.size X) j;have tX:∀t d,iY ak (re (bM w (.chan 4 #[] Y 0 0 Y)) t d):=λt d b P p=>by
  have p:(w.heap.push (.chan 4 #[] Y 0 0 Y))[b]?=Z (.deferred P):=p;rw[getElem?_push]at p;split at p
  ·cases p
  ·exact η t d b P p
 refine Or.elim (aem G) (λ⟨x,y,hv⟩=>?_) λde=>(CI wJ zY (afn o G f _ X) (O1 _ _ F) eI g1 λt d=>by obtain⟨e,he⟩:=de (re _ t d);exact⟨e,_,Fj he,tX t d⟩).elim;subst hv;obtain⟨k2,L2,g2⟩:=g1.quiet 1 (afo o f x y _ X) j;obtain⟨c,l,g,z,a,b,B,e1,m,e3⟩:=Iz g2 j (afw o f x y _ X);cases e1;rw[QR _ uU,i]at m;cases m;obtain⟨r,M,g3⟩:=e3 F;cases T with
 |false=>simp at r
 |true=>
 refine⟨F,?_⟩;simp only[if_true]at i M g3;have eb:(#[bK V]:af ag).getD 0 aC=bK V:=rfl;have ex:(#[bK V]:af ag).extract 1 (#[bK V]:af ag).size=#[]:=rfl;rw[eb,ex]at M g3;rw[afx]at M g3;generalize E:(bM w (.chan 4 #[] Y 0 0 Y)).setChan bq 5 #[] Y ga (gb+1) Y=K at M g3;have Gt:(bM w (.chan 4 #[] Y 0 0 Y)).heap[bq]?=Z (.chan 5 #[bK V] Y ga gb Y):=by rw[QR _ uU,i]
 have δ:∀b,b≠bq->b<w.heap.size->K.heap[b]?=w.heap[b]?:=λb h1 h2=>by rw[<-E,mM _ _ _ _ _ _ _ (λe=>h1 e.symm),QR b h2]
 have Xi:∀{c l a b:Nat}{g:af ag}{z B:Bool},K.heap[c]?=Z (.chan l g z a b B)->0<g.size->c≠bq/\w.heap[c]?=Z (.chan l g z a b B):=λ{c l a b g z B}h r=>by
  rw[<-E]at h;by_cases e:bq=c
  ·subst e
   rw[oE _ Gt]at h;cases h;simp at r
  ·rw[mM _ _ _ _ _ _ _ e]at h
   refine⟨λm=>e m.symm,?_⟩;have h:(w.heap.push (.chan 4 #[] Y 0 0 Y))[c]?=Z (.chan l g z a b B):=h;rw[getElem?_push]at h;split at h
   ·cases h;simp at r
   ·exact h
 have WI:∀{w3:au},Alike K w3->∀t d,iY ak (re w3 t d):=λ{w3}hA t d b P p=>by
  have p:w3.heap[b]?=Z (.deferred P):=p;rcases hA.obj b with e|⟨_,_,_,_,_,_,_,_,D,q⟩
  ·rw[e,<-E]at p
   by_cases m:bq=b
   ·subst m
    rw[oE _ Gt]at p;cases p
   ·rw[mM _ _ _ _ _ _ _ m]at p
    exact tX t d b P p
  ·rw[q]at p;cases p
 obtain⟨k4,L4,g4⟩:=g3.quiet 2 (afv o f x y (bK V) _ X) j;obtain⟨c,l,g,z,a,b,B,e1,m,e3⟩:=Iz g4 j (afC o f x y (bK V) _ X);subst e1;simp only at m;have dI:z=Y:=by
  by_cases r:0<g.size
  ·exact(L.full (Xi m r).2 r).1
  ·by_cases e:bq=c
   ·subst e
    rw[<-E,oE _ Gt]at m;cases m;rfl
   ·rw[<-E,mM _ _ _ _ _ _ _ e]at m
    have h:(w.heap.push (.chan 4 #[] Y 0 0 Y))[c]?=Z (.chan l g z a b B):=m;rw[getElem?_push]at h;split at h
    ·cases h;rfl
    ·exact(L.chans _ _ _ _ _ _ _ h).1
 subst dI;obtain⟨r,L5,g5⟩:=e3 rfl;obtain⟨IN,β⟩:=Xi m r;obtain⟨_,Je,zp⟩:=L.full β r;subst Je;rw[afD]at L5 g5;have wq:(K.setChan c l (g.extract 1 g.size) Y a (b+1) Y).heap[c]?=Z (.chan l (g.extract 1 g.size) Y a (b+1) Y):=oE _ m _ _ _ _ _ _;obtain⟨c',v,u,O,a',b',N8,D,q,f3⟩:=LO g5 j (afj o f _ y (bK V) _ X _);cases D;simp only at q;rw[wq]at q;cases q;obtain⟨_,C,A⟩:=f3 rfl;rw[afl]at C A;rcases zp with⟨k,hk,rfl,rfl,rfl⟩|⟨s,hs,rfl,rfl,rfl⟩|⟨rfl,_⟩|⟨rfl,rfl,oo,rfl⟩
 case inr.inr.inl=>exact absurd F IN
 case inr.inr.inr=>exact(CI wJ zY (afs o f _ y (bK V) _ X _) (O1 _ _ F) eI A λt d=>by
                    obtain⟨e,he⟩:=agH oo (re _ t d);exact⟨e,_,Fj he,WI (Alike.eo m _ _ _ _ _) t d⟩).elim
 case inr.inl=>
  obtain⟨k7,L7,g7⟩:=A.quiet 1 (afu o f _ y (bK V) _ s X) j;obtain⟨_,_,_,_,_,_,_,e,_⟩:=Iz g7 j (VC o f _ y (bK V) _ X _ _);cases e
 case inl=>
 have ek:(#[qY k]:af ag).getD 0 aC=qY k:=rfl;have ε:((#[qY k]:af ag).extract 1 (#[qY k]:af ag).size).push (qY k)=#[qY k]:=rfl;rw[ek]at L5 g5 C A;rw[ε]at C A;have A6:=Alike.eo (s':=a+1) (r':=b+1) m ((#[qY k]:af ag).extract 1 (#[qY k]:af ag).size) Y a (b+1) Y;generalize (K.setChan k.W 1 ((#[qY k]:af ag).extract 1 (#[qY k]:af ag).size) Y a (b+1) Y)=w5 at L5 C A A6;generalize (w5.setChan k.W 1 #[qY k] Y (a+1) (b+1) Y)=w6 at C A A6;obtain⟨k7,L7,g7⟩:=A.quiet 1 (aft o f _ y (bK V) _ X (ay k.D) (ay k.T)) j;obtain⟨s,hs,eS,eD⟩:=(L.k k hk).pF;obtain⟨sa,sb,hD⟩:=(L.s s hs).lone;rw[eD]at hD;have Cb:k.D≠bq:=λe=>by rw[e,i]at hD;cases hD
 have ζ:K.heap[k.D]?=Z (.chan 2 #[cV s] Y sa sb Y):=by rw[δ _ Cb (gG.1 hD).1];exact hD
 obtain⟨H,J,xE⟩:=A6.m7 ζ;obtain⟨c',v,u,O,a',b',N8,D,q,f3⟩:=Iz g7 j (VC o f _ y (bK V) _ X _ _);cases D;simp only at q;rw[xE]at q;cases q;obtain⟨_,L8,g8⟩:=f3 F;rw[afq]at L8 g8;have es:(#[cV s]:af ag).getD 0 aC=cV s:=rfl;rw[es]at L8 g8;have MF:(w6.setChan k.D 2 ((#[cV s]:af ag).extract 1 (#[cV s]:af ag).size) Y H (J+1) Y).heap[k.D]?=Z (.chan 2 ((#[cV s]:af ag).extract 1 (#[cV s]:af ag).size) Y H (J+1) Y):=oE _ xE _ _ _ _ _ _;obtain⟨c',v,u,O,a',b',N8,D,q,f3⟩:=LO g8 j (afk o f _ y (bK V) _ X _ _ _);cases D;simp only at q;rw[MF]at q;cases q;obtain⟨_,N,g9⟩:=f3 F;rw[afm]at N g9;have Pj:((#[cV s]:af ag).extract 1 (#[cV s]:af ag).size).push (cV s)=#[cV s]:=rfl;rw[Pj]at N g9;have A9:=A6.trans (Alike.eo (s':=H+1) (r':=J+1) xE ((#[cV s]:af ag).extract 1 (#[cV s]:af ag).size) Y H (J+1) Y);generalize (w6.setChan k.D 2 ((#[cV s]:af ag).extract 1 (#[cV s]:af ag).size) Y H (J+1) Y)=w8 at L8 N g9 A9;generalize (w8.setChan k.D 2 #[cV s] Y (H+1) (J+1) Y)=w9 at N g9 A9;obtain⟨ι,nT,nX⟩:=g9.quiet 1 (afB o f _ y (bK V) _ X _ _ _ _) j;refine Or.elim (ags k.T y (tm 7) (tm 6)) (λ⟨oy,hy,aQ⟩=>?_) λde=>(CI wJ zY (VD o f _ y (bK V) _ X _ _ _) (O1 _ _ F) eI nX λt d=>by obtain⟨e,he⟩:=de (re _ t d);exact⟨e,_,Fj he,WI A9 t d⟩).elim;subst hy;have yS:=CJ (w:=w9) (w1:=w9) (VD o f (ay k.W) (.chan oy) (bK V) w.heap.size X (ay k.D) (cV s) (ay k.T)) (afr o f (ay k.W) (.chan oy) (bK V) w.heap.size X (ay k.D) (cV s) (ay k.T) _) λt d=>Ki (aQ _);have AB:=nX.mF yS j;obtain⟨κ,FJ,DO⟩:=AB.quiet 3 (afA o f _ _ (bK V) _ s X _ _ _) j;obtain⟨c1,Dq⟩:=Pz DO j;have DR:=DO.mF Dq j;have θ:oy=Z k.T:=by
  have xw:(Value.bool (Z k.T==oy))=.bool U:=c1;simp only[Value.bool.injEq,beq_iff_eq]at xw;exact xw.symm
 obtain⟨μ,FK,Gf⟩:=DR.quiet 1 (afz o X _) j;obtain⟨c2,FL⟩:=Ww (bb:=s.st) Gf j F;have LF:=Gf.mF FL j;obtain⟨ν,γ,_⟩:=LF.quiet 2 (afp o X _) j;subst θ;have:=((((((((((((((L1.trans L2).trans M).trans L4).trans L5).trans C).trans L7).trans L8).trans N).trans nT).trans yS).trans FJ).trans Dq).trans FK).trans FL).trans γ;have ej:tw o k w.heap.size f (bK V) s=dC [.agg #[ay k.W,ay k.T],f,ay w.heap.size,bK V,o.t 2,ay k.W,ay k.T,.bool s.st,ay k.D,.bool (Z k.T==Z k.T),cV s] o.l [.inRegion xB [0,1],.code .ret]:=by
  rw[c2];simp[tw,dC]
 rw[<-ej]at this;exact⟨k,hk,s,hs,eS,eD,c2,F,_,w9,ga,gb,i,by rw[E];exact A9,this⟩
end
section
variable {fx:Obj->Prop}{X mn:Loc->Prop}{w V W S:au}{T Q:Bool}{P:ae dp}{R:ae cz}
theorem lJ(w)(o)(b):(bM w o).heap[b]?=if b=w.heap.size then Z o else w.heap[b]?:=getElem?_push ..
theorem l7(w)(o){b}(h:b<w.heap.size):(bM w o).heap[b]?=w.heap[b]?:=by rw[lJ,if_neg ai]
theorem size_push(w)(o):(bM w o).heap.size=w.heap.size+1:=by simp[bM]
theorem size_setChan(w:au)(c b)(a)(d)(s r)(tm):(w.setChan c b a d s r tm).heap.size=w.heap.size:=by simp[World.setChan]
theorem heap_setChan(w:au){c}(h:c<w.heap.size)(d)(a)(f)(s r)(tm)(b):(w.setChan c d a f s r tm).heap[b]?=if b=c then Z (.chan d a f s r tm)else w.heap[b]?:=by
 by_cases e:b=c
 ·subst e
  simp[World.setChan,h]
 ·rw[if_neg e,mM _ _ _ _ _ _ _ (λx=>e x.symm)]
theorem cZ{w:au}{b}{o}(h:w.heap[b]?=Z o):b<w.heap.size:=(gG.1 h).1
theorem Ao.bU{b}{o O}(h:Ao fx X b o O)(f:mn (.obj b)->X (.obj b)):Ao fx mn b o O:=by
 cases h with
 |same _ g=>exact .same _ g
 |cut _ _ _ c d e=>exact .cut _ _ _ c d e
 |kR _ _ _ _ _ _ _ a=>
  refine .kR _ _ _ _ _ _ _ ?_;cases O<;>first|exact a|exactλi=>a (f i)
 |view _ _ a=>exact .view _ _ a
theorem Rel.Ha(h:Rel fx X w W){k s r}{j}{q tm}{O}(t:OF mn w.heap.size O)(x:∀l,X l->mn l)(i:∀l,mn l->X l\/∃a,l=.cell a/\a.block=w.heap.size):Rel fx mn (bM w (.chan k j q s r tm)) (bM W O):=by
 refine⟨by simp[bM,h.size],h.tape,h.drawn,h.os,h.output,λb o c=>?_,λa u=>?_,λr v=>?_⟩
 ·rw[lJ]at c
  rw[lJ,<-h.size];by_cases e:b=w.heap.size
  ·rw[if_pos e]at c⊢
   cases c;exact⟨O,F,.kR _ _ _ _ _ _ _ (by rw[e];exact t)⟩
  ·rw[if_neg e]at c⊢
   obtain⟨n,f,d⟩:=h.obj b o c;exact⟨n,f,d.bU λg=>(i _ g).resolve_right λ⟨a,e,_⟩=>by cases e⟩
 ·rcases i _ u with g|⟨p,e,c⟩
  ·obtain⟨f,d⟩:=h.mT a g
   refine⟨by rw[size_push];omega,?_⟩;unfold fR at d⊢;rw[l7 _ _ f];exact d
  ·cases e
   refine⟨by rw[size_push];omega,?_⟩;unfold fR;rw[lJ,if_pos c]
 ·rcases i _ v with g|⟨p,e,c⟩
  ·obtain⟨f,d⟩:=h.pd r g
   refine⟨by rw[size_push];omega,λo m=>?_⟩;rw[l7 _ _ f]at m;exact d o m
  ·cases e
theorem Rel.sd(h:Rel fx X w W){c k s r cap' s' r'}{j buf'}{n tm cl' tm'}(m:w.heap[c]?=Z (.chan k j n s r tm)):Rel fx X (w.setChan c cap' buf' cl' s' r' tm') W:=by
 have l:=cZ m;refine⟨by rw[size_setChan];exact h.size,h.tape,h.drawn,h.os,h.output,λb o g=>?_,λa p=>?_,λr t=>?_⟩
 ·rw[heap_setChan _ l]at g
  by_cases e:b=c
  ·subst e
   rw[if_pos F]at g;cases g;obtain⟨O,d,f⟩:=h.obj _ _ m;refine⟨O,d,?_⟩;cases f with
   |same _ q=>exact q.elim
   |kR _ _ _ _ _ _ _ u=>exact .kR _ _ _ _ _ _ _ u
  ·rw[if_neg e]at g
   exact h.obj b o g
 ·obtain⟨d,f⟩:=h.mT a p
  refine⟨by rw[size_setChan];exact d,?_⟩;unfold fR at f⊢;rw[heap_setChan _ l];by_cases e:a.block=c
  ·rw[if_pos e]
  ·simp_all
 ·obtain⟨d,f⟩:=h.pd r t
  refine⟨by rw[size_setChan];exact d,λo i=>?_⟩;rw[heap_setChan _ l]at i;split at i
  ·cases i;rfl
  ·exact f o i
theorem Rel.SI(h:Rel fx X w W){c cap s r d m l}{buf a}{cl tm f i}(j:w.heap[c]?=Z (.chan cap buf cl s r tm)):Rel fx X w (W.setChan c d a f m l i):=by
 have k:c<W.heap.size:=by rw[<-h.size];exact cZ j
 refine⟨by rw[size_setChan];exact h.size,h.tape,h.drawn,h.os,h.output,λb o g=>?_,h.mT,h.pd⟩;rw[heap_setChan _ k];by_cases e:b=c
 ·subst e
  rw[j]at g;cases g;exact⟨_,if_pos F,.kR _ _ _ _ _ _ _ trivial⟩
 ·rw[if_neg e]
  exact h.obj b o g
theorem uJ{w V:au}{b i}{v}(h:∀c t f,w.heap[b]?=Z (.cells c t f)->V.heap[b]?=Z (.cells c t f))(e:w.cell? (be b i)=Z v):V.cell? (be b i)=Z v:=by
 obtain⟨c,t,f,a,_,g,d⟩:=kK e;rw[DC (h _ _ _ a)];exact d
theorem zT{w V:au}{b}{x}(h:∀c t f,w.heap[b]?=Z (.cells c t f)->V.heap[b]?=Z (.cells c t f))(a:w.shape? b=Z x):V.shape? b=Z x:=by
 unfold fD at a⊢;split at a
 ·simp_all
 ·cases a
theorem fL.move(L:fL X T P R w W)(z:∀l,X l->mn l)
  (M:∀(b d)(g)(m)(s r)(tm),b≠bq->w.heap[b]?=Z (.chan d g m s r tm)->∃u q,V.heap[b]?=Z (.chan d g m u q tm))
  (N:∀(b d)(g)(m)(s r)(tm),b≠bq->V.heap[b]?=Z (.chan d g m s r tm)->(∃u q,w.heap[b]?=Z (.chan d g m u q tm))\/(d=4/\g=#[]/\m=Y/\tm=Y))
  (H:∃a b,V.heap[bq]?=Z (.chan 5 (if Q then#[bK R]else#[]) Y a b Y))
  (O:∀(b:Nat)c t f,w.heap[b]?=Z (.cells c t f)->V.heap[b]?=Z (.cells c t f))(n:∀(b:Nat)c t f,W.heap[b]?=Z (.cells c t f)->S.heap[b]?=Z (.cells c t f))
  (G:∀(b:Nat)m j,W.heap[b]?=Z (.chan 0 #[] m j j Y)->∃J,S.heap[b]?=Z (.chan 0 #[] m J J Y)):fL mn Q P R V S:=by
 have p:∀{b d s r:Nat}{g}{m tm},d≠5->w.heap[b]?=Z (.chan d g m s r tm)->∃u q,V.heap[b]?=Z (.chan d g m u q tm):=λ{b d s r g m tm}hc o=>by
  refine M b _ _ _ _ _ _ (λe=>?_) o;obtain⟨_,_,E⟩:=L.gate;rw[e,E]at o;cases o;exact hc F
 refine⟨λs hs=>?_,λk D=>?_,λb d g m x y tm o=>?_,H,?_,L.CC,L.CB,L.zE,L.x9,L.ua,L.count,L.nodup,L.Bm⟩
 ·have l:=L.s s hs
  obtain⟨a,b,hl⟩:=l.lone;obtain⟨A,B,uX⟩:=p ai hl;obtain⟨k,D⟩:=l.real;exact⟨⟨A,B,uX⟩,G _ _ _ D,⟨zT (O _) l.sh.1,zT (n _) l.sh.2⟩,uJ (n _) l.done,uJ (n _) l.cnt,uJ (n _) l.qi,uJ (n _) l.stop,λi hi C=>z _ (l.bU i hi C),l.le⟩
 ·have l:=L.k k D
  obtain⟨a1,b1,q1⟩:=l.work;obtain⟨a2,b2,q2⟩:=l.told;obtain⟨a3,b3,q3⟩:=l.wb;obtain⟨a4,b4,q4⟩:=l.sb;obtain⟨j,C⟩:=l.yD;exact⟨l.pF,p ai q1,p ai q2,G _ _ _ C,p ai q3,n _ _ _ _ l.ra,p ai q4,n _ _ _ _ l.tC,z _ l.bU.1,z _ l.bU.2.1,z _ l.bU.2.2⟩
 ·by_cases e:b=bq
  ·subst e
   obtain⟨_,_,E⟩:=H;rw[E]at o;cases o;exact⟨F,F,.gate F,λe=>by cases e⟩
  ·rcases N _ _ _ _ _ _ _ e o with⟨_,_,h⟩|⟨rfl,rfl,rfl,rfl⟩
   ·exact L.chans _ _ _ _ _ _ _ h
   ·exact⟨rfl,rfl,.box,λ_=>rfl⟩
 ·obtain⟨v,a,b,h,hv⟩:=L.hand
  obtain⟨A,B,K⟩:=p ai h;exact⟨v,A,B,K,hv⟩
end
theorem aff(o:iq)(W T N:Nat)(f:ag)(a:ae az):oe ak N (aN ak 1 (G (If o W T f) a))=Z (Ie o W T N f a,.cells #[ay W,ay T] 142):=av
theorem eC.push{w:au}{v:ag}{b:aj (aJ×Nat)}(h:eC w a v b)(o:Obj):eC (bM w o) a v b:=by
 obtain⟨c,t,f,d,_⟩:=kK h.cell;have e:(bM w o).heap[a.block]?=w.heap[a.block]?:=l7 w o (cZ d);refine⟨?_,?_,?_⟩
 ·have:=h.cell;unfold fR at this⊢;rw[e];exact this
 ·have:=h.free;unfold pN at this⊢;rw[e];exact this
 ·have:=h.shape;unfold fD at this⊢;rw[e];exact this
theorem wK.push{k:dp}{w:au}(h:wK k w)(o:Obj):wK k (bM w o):=⟨h.work.push o,h.told.push o,h.store.push o,h.done.push o⟩
section
variable {V:Loc->Prop}{P At:Nat->Loc->Prop}{X:Loc->Prop}{Q:Nat->aj YS}{R:ae dp}{S:ae cz}{O:aj uC}{B n:Nat}{w W:au}
theorem Core.Bn(C:Core V P At X Q R S I B n w W){i:Nat}{y:YS}(b:Q i=Z y):∃k∈R,∃s∈S,s.S=k.S/\s.st=Y/\k.g=i/\∃a,y=wY k a:=by
 rcases C.yq i y b with h|⟨j,c,_⟩
 ·exact h
 ·cases c
theorem Core.qc(C:Core V P At X Q R S O B n w W){b i:Nat}(a:i≠11)(c:i≠12):¬X (.cell (be b i)):=λh=>by
 obtain⟨s,_,e⟩:=(C.mI _).1 h;rcases e with e|e
 ·cases e;exact a rfl
 ·cases e;exact c rfl
theorem fL.rv{f:Bool}(_:fL V f R S w W){a b c d s r o m:Nat}{x y:af ag}{k g tm i:Bool}(j:w.heap[a]?=Z (.chan c x k s r tm))(l:w.heap[b]?=Z (.chan d y g o m i))(h:c≠d):a≠b:=λe=>by
 rw[e,l]at j;cases j;exact h F
end
theorem afe(o:iq)(k:dp)(N:Nat)(f:ag)(e:ae az)(B:Nat):(dY o k N f e B).s.Wf/\(dY o k N f e B).s.has (dY o k N f e B).own/\(dY o k N f e B).HL:=⟨Seat.one_wf _ _ _ _,Seat.one_has.2 F,λw d h=>h.at ⟨d,F⟩,λw c i g l a b tm j h=>F2 h j⟩
theorem afd(o:iq)(k:dp)(N:Nat)(f:ag)(b:ae az)(B:Nat)(c:N<B):∃n,Sits ak U (dY o k N f b B).K (dY o k N f b B).St (dY o k N f b B).B (dY o k N f b B).s n (jz (sG o k.W k.T N f b) aC):=by
 refine Way.wS ?_;refine Way.read (a:=be N 1) (aq9 o k.W k.T N f b) (λw h=>h) F c ?_;refine Way.quiet 400 _ ?_;rw[aq8];exact Way.stop ⟨_,F,F,F,F,F,#[],by simp,λw _=>aq6 o k.W k.T N f b w⟩
theorem afI{s:dM}(b:Base s)(h0:s.h=0)(hj:s.dG=I){k:dp}(hk:k∈s.ws){t:cz}(ht:t∈s.ss)(eS:t.S=k.S)(aF:t.st=Y){o:iq}{f:ag}{a:az}{l:ae az}(e3:s.fr=If o k.W k.T f)(e4:s.cs=a::l):∃N T gs W' sl q jr ll x y r m h,iz ak N s.m s.T=(.next (crowd gs W' sl),T)/\gs.size=s.gs.size/\gs[k.g]?=Z (cG k f x y f r (3::ll))/\Fz k jr ll x y/\s.B<=m/\s.W.heap.size+1<=m/\
                                                                                                                                                                            fe ak (add1 s.St 0 (dY o k s.W.heap.size f (a::l) m).St) s.At s.Shun (nP s.ax 0 (Z (dY o k s.W.heap.size f (a::l) m))) k.g m T gs W' q/\
                                                                                                                                                                            AtRel ((bM s.W (.cells #[ay k.W,ay k.T] 142)).setChan k.W 0 #[] Y (h+1) (h+1) Y) W'/\s.W.heap[k.W]?=Z (.chan 0 #[] Y h h Y):=by
 have C:=b.core;rw[hj]at C;have L:=C.fo;have lk:=L.k k hk;obtain⟨δ,hm,Q1,iu,C0,_⟩:=b.first (by rw[e3,e4];exact JR 66 _ _ _ _ (.inl F) _ (.inr (.inr (.inl F))));generalize hN:s.W.heap.size=N;have pV:s.B<=max s.B (N+1):=Nat.le_max_left _ _;have rJ:N+1<=max s.B (N+1):=Nat.le_max_right _ _;generalize max s.B (N+1)=m at pV rJ;have C1:=C0.mono pV;rw[h0]at C1 iu;rw[e3,e4]at iu;have XR:∀i y,s.ax i=Z y->∃g∈s.ws,g.g=i/\∃u,y=wY g u:=λi y D=>by
  obtain⟨g,G,_,_,_,_,h2,u,h3⟩:=C.Bn D;exact⟨g,G,h2,u,h3⟩
 have H0:=dw.begin (sl:=s.sl) C1.BB iu;rw[Q1]at H0;have H1:=H0.new (aff o k.W k.T N f (a::l)) hN (λi y D w ob hK=>by
  obtain⟨g,_,_,u,rfl⟩:=XR i y D;exact wK.push hK ob) λi y c D H=>by
   obtain⟨h,eX⟩:=C1.chans i y c D H;rw[<-hN];exact cZ eX
 have M:(bM s.W (.cells #[ay k.W,ay k.T] 142)).heap[N]?=Z (.cells #[ay k.W,ay k.T] 142):=by rw[lJ,if_pos hN.symm]
 have l6:eC (bM s.W (.cells #[ay k.W,ay k.T] 142)) (be N 0) (ay k.W) (Z (142,2)):=vW M (by unfold fR;rw[M];rfl);have gM:eC (bM s.W (.cells #[ay k.W,ay k.T] 142)) (be N 1) (ay k.T) (Z (142,2)):=vW M (by unfold fR;rw[M];rfl);have H2:=H1.read (C.qc ai ai) rJ l6 (BA (aei o k.W k.T N f (a::l)));have H3:=H2.quiet 400 (aej o k.W k.T N f (a::l));obtain⟨n1,mr,K,jP,T1,q1,d1,a1,r1,r2,r3,r4,e,e5,cH⟩:=H3;subst e e5;have C2:=r4.wX;have aE:0<mr.size:=(gG.1 r3).1;have jN:K.heap=(bM s.W (.cells #[ay k.W,ay k.T] 142)).heap:=by obtain⟨d,rfl⟩:=cH;rfl
 obtain⟨jt,Qt⟩:=lk.yD;obtain⟨ta,tb,hT⟩:=lk.told;have γ:k.T<N:=by rw[<-hN];exact cZ Qt
 have aD:∀g∈s.ws,k.T≠g.W/\k.T≠g.D:=λg E=>by
  have l':=L.k g E;obtain⟨p,q,G⟩:=l'.work;obtain⟨s',cv,_,e2⟩:=l'.pF;obtain⟨p2,q2,h2⟩:=(L.s s' cv).lone;rw[e2]at h2;exact⟨L.rv hT G ai,L.rv hT h2 ai⟩
 have NS:FM s.Shun s.ax 0 m K (dY o k N f (a::l) m):=by
  refine⟨afe ..,λc H=>?_,λi y' D hy=>?_,⟨λc H=>?_,df _⟩,gM.at cH,λl hl=>?_⟩
  ·obtain rfl:=Seat.one_has.1 H
   exact⟨jt,by rw[jN,l7 _ _ (cZ Qt)];exact Qt⟩
  ·obtain⟨g,E,_,u,rfl⟩:=XR i y' hy
   refine⟨λhh=>?_,λhh=>?_⟩
   ·rcases(zZ g u).1 hh with e|e
    ·exact(aD g E).1 e
    ·exact(aD g E).2 e
   ·exact(aD g E).1 (Seat.one_has.1 hh).symm
  ·obtain rfl:=Seat.one_has.1 H
   omega
  ·have hl:l=.cell (be N 1):=hl
   subst hl;exact⟨rfl,C.qc ai ai⟩
 have C3:=C2.reseat aE NS;obtain⟨IU,Mj⟩:=C.g0 k hk;obtain⟨u,IC,j6⟩:=C.yr k hk t ht eS aF;have WJ:nP s.ax 0 (Z (dY o k N f (a::l) m)) k.g=Z (wY k u):=by rw[j9 IU];exact IC
 obtain⟨nh,rU⟩:=afd o k N f (a::l) m rJ;obtain⟨n2,m2,T2,g1,g2⟩:=C3.give (sl:=jP) (j:=k.g) (kk:=0) (v:=f) (z:=.nilFunc) (z':=.tuple #[]) IU WJ rfl qk r3 rfl (λd=>asB o k.W k.T N f (a::l) (K.at d)) aZ rU;obtain⟨iZ,g₂,dd,h,jx,q2,rfl,p2,A,p4,⟨J,j,rfl⟩,C4⟩:=g2.ex;have e6:jz (yu k J j) (qp (wY k u).s.cases (wY k u).s.shape 0 f U)=yE k J j (rH 0 U f):=by
  show jz (yu k J j) (qp (sA k) .select 0 f U)=_;rw[ahq];rfl
 replace p4:iZ[k.g]?=Z (yE k J j (rH 0 U f)):=p4.trans (congrArg Z e6);have β:s.W.heap[k.W]?=Z (.chan 0 #[] Y h h Y):=by
  have A:K.heap[k.W]?=Z (.chan 0 #[] Y h h Y):=A;rw[jN,lJ]at A;split at A
  ·cases A
  ·exact A
 have hK:wK k ((K.at dd).setChan k.W 0 #[] Y (h+1) (h+1) Y):=by
  have G:wK k s.W:=L.wK C.rel hk;exact((G.push _).ON (atRel_trans _ _ _ cH ⟨dd,rfl⟩)).setChan ⟨_,A,rfl⟩
 have D0:=dw.begin (sl:=jx) C4.BB p4;rw[p2]at D0;have D1:=awP k J j f hK (C.qc ai ai) (by have:=j6.wb;have:=(C4.mem k.g _ WJ).2.2;exact ayS j6.wb this) D0;obtain⟨n3,Gh,w3,Fg,T3,q3,d3,a3,s1,s2,s3,s4,e,⟨ll,x,y,r,Eb,e7⟩,P4⟩:=D1;subst e e7;refine⟨1+n1+n2+n3,T3,Gh,w3,Fg,q3,_,ll,x,y,r,m,h,kG (kG (kG hm r1) g1) s1,by rw[s2,r2],s3,Eb,pV,rJ,s4.wX,?_,β⟩;obtain⟨d4,rfl⟩:=P4;obtain⟨d5,rfl⟩:=cH;exact⟨d4,rfl⟩
theorem agc(a:af ag):bG LL 66 a .normal=⟨66,pad 11 a,[.code (EF.body.getD .skip)],[],.run,.normal,I⟩:=av
noncomputable def U9:bl:=((Tryz.prog.funcs[66]?).bind (·.body)).getD .skip
theorem agl(a:af ag):bG ak 66 a .normal=⟨66,pad 11 a,[.code U9],[],.run,.normal,I⟩:=av
def Na(a:af ag):iq:=⟨λi=>(pad 11 a).getD (i+2) aC,(pad 11 a).toList.drop 11⟩
theorem agb(a:af ag):bG LL 66 a .normal=F6 (Na a) ((pad 11 a).getD 0 aC) ((pad 11 a).getD 1 aC):=by
 rw[agc];show _=(⟨66,bO 11 (Ht (λi=>(pad 11 a).getD (i+2) aC) _ _) ((pad 11 a).toList.drop 11),[.code (EF.body.getD .skip)],[],.run,.normal,I⟩:az);rw[<-aaN _ 11 (Bq 11 a)]
theorem agk(a:af ag){W T:Nat}(h:(pad 11 a).getD 0 aC=.agg #[ay W,ay T]):bG ak 66 a .normal=If (Na a) W T ((pad 11 a).getD 1 aC):=by
 rw[agl];show _=(⟨66,bO 11 (Ht (λi=>(pad 11 a).getD (i+2) aC) _ _) ((pad 11 a).toList.drop 11),[.code U9],[],.run,.normal,I⟩:az);rw[<-h,<-aaN _ 11 (Bq 11 a)]
section
variable {X:Loc->Prop}{Q:ae dp}{S:ae cz}{w V W:au}
theorem afH(L:fL X U Q S w W)(J:Rel (bN ak) X w W){k:dp}(R:k∈Q){a:Nat}(x:w.heap[bq]?=Z (.chan 5 #[bK S] Y a b Y))(g:Alike ((bM w (.chan 4 #[] Y 0 0 Y)).setChan bq 5 #[] Y a (b+1) Y) V)
  (G:W.heap[k.W]?=Z (.chan 0 #[] Y m m Y)):
  let u:Loc->Prop:=λl=>X l\/∃i,l=.cell (be w.heap.size i);let n:=(bM W (.cells #[ay k.W,ay k.T] 142)).setChan k.W 0 #[] Y (m+1) (m+1) Y
  Rel (bN ak) u V n/\fL u Y Q S V n/\(∃a b,V.heap[w.heap.size]?=Z (.chan 4 #[] Y a b Y))/\n.heap[w.heap.size]?=Z (.cells #[ay k.W,ay k.T] 142):=by
 intro u n;have uU:=cZ x;have dK:=cZ G;obtain⟨T,kb,y⟩:=(L.k k R).work;have H:bq≠w.heap.size:=by omega
 have K:(bM w (.chan 4 #[] Y 0 0 Y)).heap[bq]?=Z (.chan 5 #[bK S] Y a b Y):=by rw[l7 _ _ uU];exact x
 have O:bq<(bM w (.chan 4 #[] Y 0 0 Y)).heap.size:=cZ K;have o:∀d:Nat,((bM w (.chan 4 #[] Y 0 0 Y)).setChan bq 5 #[] Y a (b+1) Y).heap[d]?=if d=bq then Z (.chan 5 #[] Y a (b+1) Y)else if d=w.heap.size then Z (.chan 4 #[] Y 0 0 Y)else w.heap[d]?:=λd=>by
  rw[heap_setChan _ O,lJ]
 have z:∀d:Nat,n.heap[d]?=if d=k.W then Z (.chan 0 #[] Y (m+1) (m+1) Y)else if d=W.heap.size then Z (.cells #[ay k.W,ay k.T] 142)else W.heap[d]?:=λd=>by
  show((bM W _).setChan _ _ _ _ _ _ _).heap[d]?=_;rw[heap_setChan _ (by rw[size_push];omega),lJ]
 have px:Rel (bN ak) u V n:=by
  have P:Rel (bN ak) u (bM w (.chan 4 #[] Y 0 0 Y)) (bM W (.cells #[ay k.W,ay k.T] 142)):=J.Ha ⟨by simp,F⟩ (λl h=>.inl h) λl h=>h.imp id λ⟨i,e⟩=>⟨_,e,F⟩;have v:=(P.sd (cap':=5) (buf':=#[]) (cl':=Y) (s':=a) (r':=b+1) (tm':=Y) K).alike g;have A:((bM w (.chan 4 #[] Y 0 0 Y)).setChan bq 5 #[] Y a (b+1) Y).heap[k.W]?=Z (.chan 1 #[qY k] Y T kb Y):=by
   rw[o,if_neg (L.rv y x ai),if_neg (by have:=cZ y;omega)];exact y
  obtain⟨p,q,B⟩:=g.m7 A;exact v.SI B
 refine⟨px,L.move (λl h=>.inl h) (λd D C M s r tm E h=>?_) (λd D C M s r tm E h=>?_) ?_ (λd c t f h=>?_) (λd c t f h=>?_) (λd M j h=>?_),?_,?_⟩
 ·refine g.m7 (s:=s) (r:=r) ?_
  rw[o,if_neg E,if_neg (by have:=cZ h;omega)];exact h
 ·obtain⟨s0,r0,h⟩:=g.chan h
  rw[o,if_neg E]at h;split at h
  ·cases h;exact .inr ⟨F,F,F,F⟩
  ·exact .inl ⟨_,_,h⟩
 ·refine g.m7 (s:=a) (r:=b+1) ?_
  rw[o,if_pos F];rfl
 ·have v:((bM w (.chan 4 #[] Y 0 0 Y)).setChan bq 5 #[] Y a (b+1) Y).heap[d]?=Z (.cells c t f):=by
   rw[o,if_neg (λe=>by rw[e,x]at h;cases h),if_neg (by have:=cZ h;omega)];exact h
  rcases g.obj d with e|⟨_,_,_,_,_,_,_,_,N,_⟩
  ·rw[e];exact v
  ·rw[v]at N;cases N
 ·rw[z,if_neg (λe=>by rw[e,G]at h;cases h),if_neg (by have:=cZ h;omega)]
  exact h
 ·rw[z]
  by_cases e:d=k.W
  ·subst e
   rw[G]at h;cases h;exact⟨m+1,if_pos rfl⟩
  ·rw[if_neg e,if_neg (by have:=cZ h;omega)]
   exact⟨j,h⟩
 ·refine g.m7 (s:=0) (r:=0) ?_
  rw[o,if_neg (λe=>H e.symm),if_pos rfl]
 ·rw[z,if_neg (by have:=J.size;omega),if_pos J.size]
end
theorem afG{X:Loc->Prop}{Q:ae dp}{S:ae cz}{w V W:au}(L:fL X U Q S w W)(r:Rel (bN ak) X w W){k:dp}(p:k∈Q){a c:Nat}(g:w.heap[bq]?=Z (.chan 5 #[bK S] Y a b Y))(i:Alike ((bM w (.chan 4 #[] Y 0 0 Y)).setChan bq 5 #[] Y a (b+1) Y) V)(j:W.heap[k.W]?=Z (.chan 0 #[] Y c c Y)):mN w W V ((bM W (.cells #[ay k.W,ay k.T] 142)).setChan k.W 0 #[] Y (c+1) (c+1) Y):=by
 obtain⟨A,B,d⟩:=(L.k k p).work;obtain⟨v,t,y,l,_⟩:=L.hand;have z:=r.size;have C:=cZ g;have s:=cZ l;refine⟨λx u h=>?_,λx o=>?_,by rw[i.size,size_setChan,size_push];omega,λx f=>?_⟩
 ·have q:=cZ h
  have f:bq≠x:=λe=>by rw[<-e,g]at h;cases h
  have n:((bM w (.chan 4 #[] Y 0 0 Y)).setChan bq 5 #[] Y a (b+1) Y).heap[x]?=Z (.view ⟨0,0,Z 0⟩ u):=by
   rw[mM _ _ _ _ _ _ _ f,l7 _ _ q];exact h
  exact(i.dead W).v x u n
 ·have f:k.W≠x/\x<W.heap.size:=by
   rcases o with⟨u,h⟩|rfl|rfl
   ·exact⟨(λe=>by rw[<-e,d]at h;cases h),by have:=cZ h;omega⟩
   ·exact⟨(λe=>by rw[e,g]at d;cases d),by omega⟩
   ·exact⟨(λe=>by rw[e,l]at d;cases d),by omega⟩
  rw[mM _ _ _ _ _ _ _ f.1,l7 _ _ f.2]
 ·have m:(bM W (.cells #[ay k.W,ay k.T] 142)).heap[k.W]?=Z (.chan 0 #[] Y c c Y):=by rw[l7 _ _ (cZ j)];exact j
  rw[S5 m];unfold fD;rw[l7 _ _ ai]
theorem ano{R:ag->au->Prop}{s:dM}(i:Inv s)(hg:Good LL R s.bW){p a:az}{v l:ae az}(O:ko s.E p v a l\/s.E p v a l)(D:s.fr'=bG LL 66 c .normal)(H:s.cs'=p::v)(e3:s.fr=bG ak 66 c .normal)(e4:s.cs=a::l)(hm:a.mode=.run):∃s1:dM,Base s1/\Real s s1/\∃j,s1.dG=Z j/\xn j/\s1.h=j.k.g/\s1.fr'=j.A'/\s1.cs'=j.L'/\s1.fr=j.A/\s1.cs=[wrap]/\∃k n b,0<k/\kj LL s.bW s1.bW k n b:=by
 rw[agb]at D;have eI:=i.below O;have pX:s.bW=⟨F6 (Na c) ((pad 11 c).getD 0 aC) ((pad 11 c).getD 1 aC),p::v,s.w⟩:=by unfold dM.bW;rw[D,H]
 rw[pX]at hg⊢;have b:=i.base;obtain⟨AP,k,K,t,ht,eS,eD,aF,hv,n,V,ga,gb,h,hA,hL⟩:=amR b.core.fo b.core.rel eI aZ hg;have J:s.dG=I:=by
  cases e:s.dG with
  |none=>rfl
  |some j=>rw[e]at AP;cases AP
 have N:s.h=0:=by
  cases i.ni with
  |main _ N _=>exact N
  |work j e=>rw[J]at e;cases e
  |back j e=>rw[J]at e;cases e
 have st:ko KI p v a l:=by
  rw[HE J]at O;exact O.resolve_right id
 have Gx:p.mode=.run:=by
  obtain⟨x,e,_⟩:=st.fr;rw[e];exact hm
 rw[agk c hv]at e3;generalize β:(pad 11 c).getD 1 aC=f at*;generalize Na c=o at*;obtain⟨N0,T,gs,W',sl,q,jr,ll,x,y,r,E,M,p1,p2,p3,p4,p5,p6,p7,⟨dd,rfl⟩,p8⟩:=afI b N J K ht eS aF e3 e4;have C:=b.core;rw[J]at C;obtain⟨q1,q2,⟨na,nb,q3⟩,q4⟩:=afH C.fo C.rel K h hA p8;have hN:s.W.heap.size=s.w.heap.size:=C.rel.size.symm;have AF:=afG C.fo C.rel K h hA p8;rw[hN]at p6 p7;obtain⟨iu,Mj⟩:=C.g0 k K;generalize z:(⟨o,k,tw o k s.w.heap.size f (bK s.ss) t,p::v,C7 k (F1 k f x y f r) (.inRegion vj (3::ll)::EC),s.w.heap.size,f,a::l⟩:uC)=j;have Gu:xn j:=by
  subst z;exact⟨⟨p,v,a,l,F,F,st,Gx,hm⟩,⟨_,t,F⟩,⟨jr,ll,x,y,r,p4,F⟩⟩
 have zo:Core (λl=>s.Hid l\/∃i,l=.cell (be s.w.heap.size i)) (add1 s.St 0 (dY o k s.w.heap.size f (a::l) E).St) s.At s.Shun (nP s.ax 0 (Z (dY o k s.w.heap.size f (a::l) E))) s.ws s.ss (Z j) E gs.size V ((bM s.W (.cells #[ay k.W,ay k.T] 142)).setChan k.W 0 #[] Y (M+1) (M+1) Y):=by
  rw[p2];refine⟨q1,q2,by rw[size_setChan,size_push,hN];exact p6,λg l u=>?_,C.mI,C.y8,C.Av,λB A l u=>.inl (C.cK B A l u),λB A P G D H=>?_,λB A P G D H=>?_,λi y L=>?_,C.g0,λj' Cn=>?_⟩
  ·rcases u with u|⟨rfl,u⟩
   ·obtain⟨z1,z2⟩:=C.qW g l u
    exact⟨.inl z1,z2⟩
   ·have u:l=.cell (be s.w.heap.size 1):=u
    exact⟨.inr ⟨1,u⟩,_,u,yP rfl⟩
  ·rw[j9 (C.g0 B A).1]
   exact C.yr B A P G D H
  ·rw[j9 (C.g0 B A).1]
   exact C.gone B A P G D H
  ·by_cases e:i=0
   ·subst e
    rw[qk]at L;cases L;refine .inr ⟨j,rfl,rfl,E,?_⟩;subst z;rfl
   ·rw[j9 e]at L
    exact .inl (C.Bn L)
  ·cases Cn
   subst z;exact⟨K,⟨t,ht,eS,aF⟩,⟨E,qk⟩,⟨na,nb,q3⟩,q4,.inr ⟨1,rfl⟩,t,rfl⟩
 obtain⟨s1,hb,⟨N2,uQ⟩,f1,f2,f3,f4,f5,f6,_,_,⟨τ,d,f7⟩,_,dW,eW⟩:=settle (sl:=sl) p7 p3 (zo.re dd) (tw o k s.w.heap.size f (bK s.ss) t) (p::v);refine⟨s1,hb,⟨⟨N0+N2,kG p1 uQ⟩,by rw[eW,f7];exact(((AF.at _).at _).re _ _).re _ _⟩,j,f6,Gu,by rw[f5,<-z],by rw[f1,<-z],by rw[f2,<-z],by rw[f3,<-z],f4,n+0,0,λ_ _=>0,?_,?_⟩
 ·refine Nat.pos_of_ne_zero λhn=>?_
  have hn:n=0:=by omega
  subst hn;have h1:=hL (λ_ _=>0) 0;simp only[di,xf]at h1;have h2:=congrArg (λm:fg=>(m.gs[0]?).map (·.frame.todo.length)) h1;simp[il.on,lone,F6,tw]at h2
 ·have G:s1.bW=⟨tw o k s.w.heap.size f (bK s.ss) t,p::v,re (re V ((bM s.W (.cells #[ay k.W,ay k.T] 142)).setChan k.W 0 #[] Y (M+1) (M+1) Y).tape dd) τ d⟩:=by unfold dM.bW;rw[f1,f2,f7]
  rw[G];exact hL.vz
def ND(s:Sem Next):Prop:=∀w n a,s.run LL w=.ok n a->∀d,n≠.defer d
theorem Bl{s}(h:dZ ak fs s):ND s:=λw n b e d a=>by
 have:=h w n _ e;rw[a]at this;exact jQ this
theorem Zc{γ}{s}{k:γ->Sem Next}(h:∀v,ND (k v)):ND (s>>=k):=λw n b e=>by
 have c:(s>>=k).run LL w=(s.run LL w).andThen λa b=>(k a).run LL b:=yQ _ s k w;rw[c]at e;cases hc:s.run LL w with
 |ok v d=>rw[hc]at e;exact h v _ n _ e
 |halt x d=>rw[hc]at e;cases e
theorem Zd{n}(h:∀d,n≠.defer d):ND (pure n):=λw m a e=>by cases e;exact h
theorem an8(l)(a):ND (Instr.yield l a):=by
 refine Zc λr=>?_;split
 ·exact Zc λ_=>Zd λd h=>by cases h
 ·exact Zd λd h=>by cases h
theorem an6(f)(c)(a):ND (invoke (.fn f c) a):=by
 have H:=OT;unfold invoke;cases f with
 |func f=>exact Bl (H _ _)
 |method d=>
  dsimp only
  split
  ·exact Bl (MJ H _ _ _)
  ·exact Bl (p9 (fJ _))
 |methodOf t d=>
  dsimp only
  split
  ·refine Bl (rZ λu=>?_)
   split<;>exact MJ H _ _ _
  ·exact Bl (p9 (fJ _))
 |via t p f b=>
  dsimp only
  split
  ·exact Bl (rZ λ_=>H _ _)
  ·exact Bl (p9 (fJ _))
 |yield l=>exact an8 l _
def xz(f:ag):Sem Next:=do
 let d<-Db f #[]
 invoke d.target d.args
theorem an5(f):ND (xz f):=by
 unfold xz Db;split
 ·exact an6 _ _ _
 ·show ND (invoke .nil #[])
  unfold invoke;exact Bl (p9 (rB _))
 ·exact Bl (p9 (fJ _).bind)
noncomputable def Ve:bh:=aO 4 (.call {callee:=.value (tm 1),args:=#[],argTypes:=#[]})
theorem Vf(f):cu (bJ ⟨66,#[aC,f],[],[],.run,.normal,I⟩) Ve=xz f:=av
theorem Vg:qe ak Ve.op=U:=rfl
theorem atE(a)(f):Sm ak fs (bN ak) a [] (xz f):=by
 rw[<-Vf];exact aaY Vh _ _ Vg
theorem alJ(a)(f):KN ak fs a (xz f):=by
 rw[<-Vf];exact Yk OT (λ_=>rfl) _ Vg
theorem alo(o)(k)(N)(f g)(s)(a):eU LL (G (tw o k N f g s) a)=Z (xz f):=av
theorem aew(k)(f x y r)(l):eU ak (G (C7 k (F1 k f x y f r) (.inRegion vj (3::l)::EC)) [wrap])=Z (xz f):=av
theorem aev{R}{s}(b:Base s){j}(K:s.dG=Z j)(u:xn j)(h0:s.h=j.k.g)(e1:s.fr'=j.A')(e2:s.cs'=j.L')(e3:s.fr=j.A)(e4:s.cs=[wrap])(hg:Good LL R s.bW):∃c k n a,Inv c/\Real s c/\0<k/\kj LL s.bW c.bW k n a:=by
 obtain⟨g,t,VJ⟩:=u.lone;obtain⟨jr,ll,x,y,r,Eb,eA⟩:=u.real;have N:s.E j.A' j.L' j.A [wrap]:=by unfold dM.E;rw[K];exact⟨F,F,F,F⟩
 have pX:s.bW=⟨j.A',j.L',s.w⟩:=by unfold dM.bW;rw[e1,e2]
 have XF:eU LL (G j.A' j.L')=Z (xz j.f):=by rw[VJ];exact alo ..
 have T:eU ak (G j.A [wrap])=Z (xz j.f):=by rw[eA];exact aew ..
 have P:sO ak j.A':=by rw[VJ];exact⟨by simp[tw],F,by simp[tw]⟩
 have Q:Below ak LL j.L':=by
  obtain⟨xt,Bf,a0,l0,z1,_,hs,_⟩:=u.ni;rw[z1];exact .cons hs.fr.FY (hs.belows O9)
 have L:=b.core.rel;have S:=atE s.Hid j.f;obtain⟨n,o,O⟩:∃n o,(xz j.f).run LL s.w=.ok n o:=by
  rw[pX]at hg;obtain⟨τ,d,kM,V⟩:=hg _;cases I9:(xz j.f).run LL (re s.w τ d)with
  |ok n o=>
   obtain⟨_,m,w0,_,pq⟩:=(S _ _ (L.re _ d) aZ).1 n _ I9;have h2:=pq s.w.tape s.w.drawn λi _ q=>(kM i q).symm;exact⟨n,_,h2⟩
  |halt xx o=>exact(YB wJ zY XF P Q V I9 ((S _ _ (L.re _ d) aZ).2 _ _ I9).tk).elim
 obtain⟨⟨W1,us,hS,ez,ey,pY⟩,m,w0,jN,pq⟩:=(S _ _ L aZ).1 n _ O;have p:=alJ _ _ _ _ L n _ O;have nc:=an5 _ _ n _ O;obtain⟨M,D,z⟩:=p.after _ _ _;obtain⟨t2,W,C⟩:=p.after _ _ _;have tX:mg LL (G j.A' j.L') n=Z (G M D):=by
  unfold mg;simp only[G];rw[z];rfl
 have AW:mg ak (G j.A [wrap]) n=Z (G t2 W):=by
  unfold mg;simp only[G];rw[C];rfl
 have gR:∃es,aG ak (s.h==0) (G s.fr s.cs) s.W=dO t2 W W1 es/\∀e∈es,qt s.Hid o.heap.size e:=by
  rw[e3,e4];obtain⟨_,h⟩:=zL T AW (w:=s.W) (w1:=W1) (es:=us) (by grind);exact⟨_,h,λe he=>pY e (BF he)⟩
 obtain⟨es,aF,fS⟩:=gR;obtain⟨c,hb,hR,A,B,E,H,X,J,_,_,τ,d,f7⟩:=b.go aF ez ey fS _ _;have l5:c.E=s.E:=by unfold dM.E;rw[J]
 have hL:kj LL s.bW ⟨M,D,o⟩ 1 m λi q=>s.w.tape (s.w.drawn+i) q:=by
  rw[pX];intro τ d kM;have h1:=pq _ d kM;obtain⟨_,h2⟩:=zL XF tX (by rw[jR,h1]);simp only[il.on,di];rw[eY h2,jN];rfl
 have cv:c.bW=⟨M,D,re o τ d⟩:=by unfold dM.bW;rw[A,B,f7]
 refine⟨c,1,m,_,⟨hb,?_⟩,hR,Nat.one_pos,by rw[cv];exact hL⟩;have WX:∀v,M=j.A'.finish v->D=j.L'->t2=j.A.finish v->W=[wrap]->sW c:=λv g1 g2 g3 g4=>.back j (J.trans K) u (X.trans h0) v (A.trans g1) (B.trans g2) (E.trans g3) (H.trans g4);cases n with
 |value v=>
  cases z;cases C;exact WX v F F F F
 |skip=>
  cases z;cases C;exact WX _ F F F F
 |enter f β=>
  cases z;cases C;refine .work j (J.trans K) u (X.trans h0) ?_;rw[A,B,E,H,l5];have IA:j.A.mode=.run:=by rw[eA];rfl
  rcases O8 f _ _ p (.inl F)with h|h
  ·exact .inl (.bound h rfl N)
  ·refine .inr ⟨.normal,j.A',j.L',j.A,[wrap],by rw[A,E];exact h,B,H,.inl ⟨rfl,IA,.inr (by rw[l5];exact N)⟩⟩
 |defer dd=>simp_all
 |round l f γ aa bb=>
  cases z;cases C;refine .work j (J.trans K) u (X.trans h0) (.inl ?_);rw[A,B,E,H,l5];exact .bound ⟨_,F,.cons (.code (.same _ p.1)) (.cons .beginRound (.cons (.code (.same _ p.2.1)) .nil)),⟨.inl F,by simp[Frame.round],p.2.2⟩,.inl F⟩ F N
 |_=>exact absurd (show Y=U from p) jQ
theorem anp{R}{s}(i:Inv s)(o:Good LL R s.bW){f a}{g l}{c}(E:ko s.E f g a l\/s.E f g a l)(u:s.fr'=bG LL 66 c .normal)(v:s.cs'=f::g)(w:s.fr=bG ak 66 c .normal)(x:s.cs=a::l)(J:a.mode=.run):∃d k n b,Inv d/\Real s d/\0<k/\kj LL s.bW d.bW k n b:=by
 obtain⟨s1,D,C,j,H,p,B,y,h,z,A,k,n,a0,O,m⟩:=ano i o E u v w x J;have t:s1.bW.cs≠[]:=by
  show s1.cs'≠[];rw[h];obtain⟨_,_,_,_,e,_⟩:=p.ni;rw[e];simp
 obtain⟨d,K,L,M,G,q,N,r⟩:=aev D H p B y h z A (o.vz m t);exact⟨d,k+K,n+L,_,G,C.trans q,by omega,m.trans r⟩
theorem Base.aqZ{s}(b:Base s){a}{v}{l}{h}(B:¬s.Shun (.cell a))(r:a.block<s.B)(d:eC s.W a v l)(n:nK ak l v (G s.fr s.cs)=Z (h,v,[.ev ⟨.cell a,Y,Y⟩])):∃m T,(∃N,iz ak N s.m s.T=(.next m,T))/\dw ak s.St s.At s.Shun s.ax s.h s.B s.gs.size s.W m T 0 (·=h):=by
 obtain⟨D,o⟩:=wB n ⟨F,trivial⟩;have A:=(o _ d.cell d.free d.shape).trans (by rw[wR d.cell]);have u:DZ s.St s.ax s.Shun s.B s.W s.W (seen ak (G s.fr s.cs).frame.fn (dc [iR.ev ⟨.cell a,Y,Y⟩]).toArray):=by
  refine⟨λ_ _ _ _ _=>rfl,λ_ _ _ w=>w,λe c=>?_⟩;have c:=mem_seen c;simp only[dc,jA,bQ,gk,or_false]at c;subst c;refine⟨λy j=>?_,r⟩;simp only[gy,lS,ij]at j;subst j;exact⟨λ_ _=>rfl,λt=>absurd t B⟩
 have C:gW 0 (seen ak (G s.fr s.cs).frame.fn (dc [iR.ev ⟨.cell a,Y,Y⟩]).toArray)=0:=by
  refine deafBehind_still (λe c=>?_) _;have c:=mem_seen c;simp only[dc,jA,bQ,gk,or_false]at c;subst c;exact⟨by simp,by simp⟩
 obtain⟨i,p,q⟩:=b.hold.BB.own b.top u;rw[C]at i;have g:=vJ (sl:=s.sl) b.top A;have:=dw.begin (sl:=s.sl) i p;rw[q]at this;exact⟨_,_,⟨1,by simp only[iz,b.eo,g]⟩,this⟩
section
variable (k:dp)(f x y z v:ag)
theorem adO:nK ak (Z (142,2)) (ay k.T) (cG k f (ptr k.wb 1) y z v [1,4])=Z (cG k f (ptr k.wb 1) (ay k.T) z v [4],ay k.T,[.ev ⟨.cell (be k.wb 1),Y,Y⟩]):=av
theorem adK:aN ak 1 (cG k f x y z v [0,1,4])=cG k f (ptr k.wb 1) y z v [1,4]:=av
theorem adM:(om ak (cG k f x y z v [0,1,4])).isSome=U:=av
end
theorem adR{s}(b:Base s){j}(hj:s.dG=Z j)(jk:xn j)(V:s.h=j.k.g){v}(e3:s.fr=j.A.finish v)(e4:s.cs=[wrap]){a}{l}(em:j.Bj=a::l)(ha:a.mode=.run):∃N T J P sl q g,iz ak N s.m s.T=(.next (crowd J P sl),T)/\J.size=s.gs.size/\J[0]?=Z (G (a.finish v) l)/\fe ak s.St s.At s.Shun (nP s.ax 0 I) 0 s.B T J P q/\AtRel (s.W.setChan j.k.T 0 #[] Y (g+1) (g+1) Y) P/\s.W.heap[j.k.T]?=Z (.chan 0 #[] Y g g Y):=by
 have C:=b.core;obtain⟨X,⟨t,ht,eS,aF⟩,⟨Ug,WK⟩,_,_,_⟩:=C.Be j hj;obtain⟨D,L,j6⟩:=C.yr _ X t ht eS aF;obtain⟨iu,Mj⟩:=C.g0 _ X;obtain⟨jr,ll,x,y,r,Eb,eA⟩:=jk.real;have W:=(b.hold.mem _ _ L).2.2;have X0:=ayS j6.wb W;have hK:=C.fo.wK C.rel X;have AP:(j.k.g==0)=Y:=by simpa using iu
 obtain⟨k,f,N,o⟩:∃k f N o,k=j.k/\f=j.f/\N=j.N/\o=j.o:=⟨_,_,_,_,F,F,F,F⟩;have jM:∀c,G s.fr s.cs=c->c=cG j.k j.f x y j.f v ll:=λc hc=>by
  rw[<-hc,e3,e4,eA,DK];rfl
 have R:s.gs[j.k.g]?=Z (cG j.k j.f x y j.f v ll):=by
  have:=b.top;rw[jM _ F,V]at this;exact this
 obtain⟨nh,rU⟩:=ata _ j6 _ _ _ _ v;have XU:Sits ak (j.k.g==0) (wY j.k D).K (wY j.k D).St (wY j.k D).B (wY j.k D).s nh (jz (cG j.k j.f (ptr j.k.wb 1) (ay j.k.T) j.f v [4]) aC):=by rw[AP];exact rU
 have ju:=C.qc (b:=j.k.wb) (i:=1) ai ai;have Q:∃(N:Nat)(B:fg)(p:dJ)(h:au)(n:Nat),iz ak N s.m s.T=(.next B,p)/\AtRel s.W h/\n=s.gs.size/\HI ak s.St s.At s.Shun s.ax 0 s.B (dY j.o j.k j.N j.f j.Bj Ug) 0 v n h B p:=by
  have zz:∀w,aG ak (j.k.g==0) (cG j.k j.f (ptr j.k.wb 1) (ay j.k.T) j.f v [4]) w=.comm (cG j.k j.f (ptr j.k.wb 1) (ay j.k.T) j.f v [4]) #[scase j.k.T v (.tuple #[])] U .send w #[]:=λw=>by rw[AP];exact awL ..
  have WV:∀m T,(∃N,iz ak N s.m s.T=(.next m,T))->dw ak s.St s.At s.Shun s.ax s.h s.B s.gs.size s.W m T 0 (·=cG j.k j.f (ptr j.k.wb 1) (ay j.k.T) j.f v [4])->∃(N:Nat)(B:fg)(p:dJ)(h:au)(n:Nat),iz ak N s.m s.T=(.next B,p)/\AtRel s.W h/\n=s.gs.size/\HI ak s.St s.At s.Shun s.ax 0 s.B (dY j.o j.k j.N j.f j.Bj Ug) 0 v n h B p:=λm T⟨N,A⟩H=>by
   rw[V]at H;obtain⟨n1,mr,h,jP,T1,q1,d1,a1,r1,r2,r3,r4,z1,z2,E⟩:=H;subst z1 z2;obtain⟨n2,m2,O,S,u⟩:=r4.wX.give (kk:=0) (λe=>iu e.symm) WK F L r3 F (λd=>zz _) aZ XU;exact⟨N+n1+n2,m2,O,h,_,kG (kG A r1) S,E,r2,u⟩
  have M:=jM _ F;cases Eb with
  |all=>
   have hC:=b.hold;have hT:=b.eo;rw[V]at hC hT;obtain⟨n2,m2,O,S,u⟩:=hC.Wu hT (kk:=0) (λe=>iu e.symm) WK F L R (zz _) aZ XU;exact⟨n2,m2,O,s.W,_,S,atRel_refl _,F,u⟩
  |part=>
   obtain⟨m,T,A,H⟩:=b.aqZ ju X0 hK.told (by rw[M];exact adO ..);exact WV m T A H
  |none=>
   obtain⟨m,T,A,H,_⟩:=b.begin (by rw[M];exact adM ..);rw[M,adK]at H;exact WV m T A (H.read ju X0 hK.told (adN ..))
 obtain⟨n1,m1,T1,h,n,ez,E,hn,u⟩:=Q;obtain⟨iZ,g₂,dd,g,jx,q2,rfl,p2,p3,p4,K,C4⟩:=u.ex;have K:=K;subst K;have p4:=p4.trans (congrArg (λx=>Z (jz (rG j.o j.k.W j.k.T j.N j.f j.Bj) x)) (aq7 _ v));have D0:=dw.begin (sl:=jx) C4.axe.BB p4;rw[p2,hn,em]at D0;obtain⟨fn,δ,ε,ds,γ,β,ro⟩:=a;simp only at ha;subst ha;have D1:=D0.quiet 4 (aq5 _ _ _ _ _ v l);obtain⟨n3,Gh,w3,Fg,T3,q3,d3,a3,s1,s2,s3,s4,z1,z2,P4⟩:=D1;subst z1 z2;refine⟨n1+n3,T3,Gh,w3,Fg,q3,g,kG ez s1,s2,s3,s4.wX,?_,?_⟩
 ·obtain⟨d4,rfl⟩:=P4
  obtain⟨d5,rfl⟩:=E;exact⟨d4,F⟩
 ·obtain⟨d5,rfl⟩:=E
  exact p3
section
variable (o:iq)(k:dp)(N:Nat)(f v g:ag)(s:cz)(X:ae az)
noncomputable def jB:ae ag:=[.agg #[ay k.W,ay k.T],f,ay N,g,v,ay k.W,ay k.T,.bool Y,ay k.D,.bool U,cV s]
theorem ali:(tw o k N f g s).finish v=dC (jB k N f v g s) o.l [.inRegion xB [1],.code .ret]:=av
theorem alm:(eU LL (G (dC (jB k N f v g s) o.l [.inRegion xB [1],.code .ret]) X)).bind (fQ LL)=Z (.comm #[{chan:=gL,send:=Z g,zero:=.tuple #[]}] U .send):=av
theorem aln:(dC (jB k N f v g s) o.l [.inRegion xB [1],.code .ret]).finish aC=dC (jB k N f v g s) o.l [.inRegion xB [],.code .ret]:=av
theorem alk:aN LL 2 (G (dC (jB k N f v g s) o.l [.inRegion xB [],.code .ret]) X)=G ⟨66,⟨jB k N f v g s++o.l⟩,[.code .ret],[],.returning,.normal,I⟩ X:=av
theorem alj(w):(results EF ⟨jB k N f v g s++o.l⟩).runT LL w #[]=(.ok v w,#[]):=av
end
theorem amb:LL.funcs[66]?=Z EF:=av
theorem YJ{R}{s}(i:Inv s)(hg:Good LL R s.bW){j}(W:s.dG=Z j)(jk:xn j)(h0:s.h=j.k.g){v}(K:s.fr'=j.A'.finish v)(G:s.cs'=j.L')(e3:s.fr=j.A.finish v)(e4:s.cs=[wrap]):∃P k n b,Inv P/\Real s P/\0<k/\kj LL s.bW P.bW k n b:=by
 have b:=i.base;have C:=b.core;obtain⟨xt,Bf,a0,l0,γ,em,hs,Gx,hm⟩:=jk.ni;obtain⟨_,_,_,_,_,_,t,eA⟩:=C.Be j W;have L:=C.fo;rw[W]at L;obtain⟨A,B,m⟩:=L.gate;have m:=m;have pX:s.bW=⟨dC (jB j.k j.N j.f v (bK s.ss) t) j.o.l [.inRegion xB [1],.code .ret],xt::Bf,s.w⟩:=by unfold dM.bW;rw[K,G,eA,γ,ali]
 rw[pX]at hg⊢;obtain⟨c,E,D,Q,a,p,gi,S,M,f3⟩:=LO hg aZ (alm _ _ _ _ v _ t _);cases S;rw[m]at M;cases M;obtain⟨_,L1,g1⟩:=f3 F;rw[aln]at L1 g1;obtain⟨k2,L2,g2⟩:=g1.quiet 2 (alk _ _ _ _ v _ t _) aZ;have L3:=RJ (w:=s.w.setChan bq 5 ((#[]).push (bK s.ss)) Y (A+1) B Y) (a:=xt) (l:=Bf) (td:=[.code .ret]) amb (alj j.o j.k j.N j.f v (bK s.ss) t);have hL:=(L1.trans L2).trans L3;obtain⟨N,T,gs,W',sl,q,z,p1,p2,p3,p4,⟨dd,rfl⟩,p6⟩:=adR b W jk h0 e3 e4 em hm;obtain⟨hk,_⟩:=C.Be j W;obtain⟨ta,tb,O⟩:=(L.k _ hk).told;have uU:=cZ m;have dK:=cZ p6;have j6:∀p:Nat,(s.w.setChan bq 5 ((#[]).push (bK s.ss)) Y (A+1) B Y).heap[p]?=if p=bq then Z (.chan 5 ((#[]).push (bK s.ss)) Y (A+1) B Y)else s.w.heap[p]?:=λp=>heap_setChan _ uU ..
 have Ba:∀p:Nat,(s.W.setChan j.k.T 0 #[] Y (z+1) (z+1) Y).heap[p]?=if p=j.k.T then Z (.chan 0 #[] Y (z+1) (z+1) Y)else s.W.heap[p]?:=λp=>heap_setChan _ dK ..
 have px:Rel (bN ak) s.Hid (s.w.setChan bq 5 ((#[]).push (bK s.ss)) Y (A+1) B Y) (s.W.setChan j.k.T 0 #[] Y (z+1) (z+1) Y):=by
  refine(C.rel.sd m).SI (cap:=3) (buf:=#[]) (cl:=Y) (s:=ta) (r:=tb) (tm:=Y) ?_;rw[j6,if_neg (L.rv O m ai)];exact O
 have β:fL s.Hid U s.ws s.ss (s.w.setChan bq 5 ((#[]:af ag).push (bK s.ss)) Y (A+1) B Y) (s.W.setChan j.k.T 0 #[] Y (z+1) (z+1) Y):=by
  refine L.move (λl h=>h) (λp E D Q s r tm h0 h=>?_) (λp E D Q s r tm h0 h=>?_) ⟨A+1,B,by simp_all⟩ (λp c t f h=>?_) (λp c t f h=>?_) (λp Q j' h=>?_)
  ·simp_all
  ·simp_all
  ·rw[j6,if_neg (λe=>by rw[e,m]at h;cases h)]
   exact h
  ·rw[Ba,if_neg (λe=>by rw[e,p6]at h;cases h)]
   exact h
  ·rw[Ba]
   by_cases e:p=j.k.T
   ·subst e
    rw[p6]at h;cases h;exact⟨z+1,if_pos F⟩
   ·rw[if_neg e]
    exact⟨j',h⟩
 have zo:Core s.Hid s.St s.At s.Shun (nP s.ax 0 I) s.ws s.ss I s.B gs.size (s.w.setChan bq 5 ((#[]:af ag).push (bK s.ss)) Y (A+1) B Y) (s.W.setChan j.k.T 0 #[] Y (z+1) (z+1) Y):=by
  rw[p2];refine⟨px,β,by rw[size_setChan];exact C.low,C.qW,C.mI,C.y8,C.Av,C.cK,λk' H P J K G=>?_,λk' H P J K G=>?_,λi y V=>?_,C.g0,λj' Cn=>by cases Cn⟩
  ·rw[j9 (C.g0 _ H).1]
   exact C.yr _ H _ J K G
  ·rw[j9 (C.g0 _ H).1]
   exact C.gone _ H _ J K G
  ·by_cases e:i=0
   ·subst e
    rw[qk]at V;cases V
   ·rw[j9 e]at V
    exact(C.yq i y V).imp id λ⟨_,_,G,_⟩=>absurd G e
 obtain⟨s1,hb,⟨N2,uQ⟩,S,M,δ,f4,f5,f6,_,_,⟨τ,d,f7⟩,_,dW,eW⟩:=settle (sl:=sl) p4 p3 (zo.re _) (xt.finish v) _;refine⟨s1,1+k2+1,0,λ_ _=>0,⟨hb,.main f6 f5 (.inl ?_)⟩,⟨⟨N+N2,kG p1 uQ⟩,?_⟩,by omega,?_⟩
 ·rw[S,M,δ,f4,HE f6]
  exact hs.back .normal v
 ·rw[eW,f7]
  obtain⟨hv,xR,xS,m9,_⟩:=L.hand;refine⟨λx u h=>?_,λx o=>?_,Nat.le_of_eq (size_setChan ..).symm,λx _=>S5 p6 ..⟩
  ·exact(j6 x).trans (by rw[if_neg (λe=>by rw[e,m]at h;cases h)];exact h)
  ·refine(Ba x).trans (if_neg ?_)
   rcases o with⟨u,h⟩|rfl|rfl
   ·exactλe=>by rw[e,O]at h;cases h
   ·exactλe=>by rw[e,O]at m;cases m
   ·exactλe=>by rw[e,O]at m9;cases m9
 ·have J:s1.bW=⟨xt.finish v,Bf,re (re (s.w.setChan bq 5 ((#[]:af ag).push (bK s.ss)) Y (A+1) B Y) (s.W.setChan j.k.T 0 #[] Y (z+1) (z+1) Y).tape dd) τ d⟩:=by unfold dM.bW;rw[S,M,f7]
  rw[J];exact hL.vz
abbrev aV(fn:bA)(t:af ag)(X:af bh)(is:ae Nat)(k:ae aK)(ds:ae bV)(kind:dD):az:=⟨fn,t,.inRegion X is::k,ds,.run,kind,I⟩
section
variable {R:ag->au->Prop}{fn:bA}{t:af ag}{X:af bh}{i:Nat}{is:ae Nat}{k:ae aK}{ds:ae bV}{kind:dD}{cs:ae az}{w:au}
theorem Nc(b:kind=.normal\/kind=.deferred){o:bh}(c:X[i]?=Z o)(a:o.guard=I):eU LL (G (aV fn t X (i::is) k ds kind) cs)=Z (cu (bJ ⟨fn,t,[],ds,.run,kind,I⟩) o):=by
 have d:vH o (yielded X t)=U:=by simp[vH,a]
 rcases b with rfl|rfl<;>simp[eU,G,aV,c,d]
theorem Pm{d:aj Tmp}{op:Op}(a:X[i]?=Z (Nb d op))(v:ag):(aV fn t X (i::is) k ds kind).finish v=aV fn (match d with
  |some d=>t.setIfInBounds d v
  |none=>t) X is k ds kind:=by
 cases d<;>simp[jd,aV,a,Nb]
theorem rF(h:kind=.normal\/kind=.deferred)(g:cs≠[]){a:Op}(b:X[i]?=Z (aO d a)){S:Sem ag}(j:cu (bJ ⟨fn,t,[],ds,.run,kind,I⟩) (aO d a)=(do pure (.value (<-S)))){v:ag}(f:∀τ e,S.run LL (re w τ e)=.ok v (re w τ e))(m:Good LL R ⟨aV fn t X (i::is) k ds kind,cs,w⟩):eV LL ⟨aV fn t X (i::is) k ds kind,cs,w⟩ ⟨aV fn (t.setIfInBounds d v) X is k ds kind,cs,w⟩ 1/\Good LL R ⟨aV fn (t.setIfInBounds d v) X is k ds kind,cs,w⟩:=by
 have c:=Nc (fn:=fn) (t:=t) (is:=is) (k:=k) (ds:=ds) (cs:=cs) h b F;rw[j]at c;have n:mg LL (G (aV fn t X (i::is) k ds kind) cs) (.value v)=Z (G (aV fn (t.setIfInBounds d v) X is k ds kind) cs):=by
  have l:=Pm (fn:=fn) (t:=t) (is:=is) (k:=k) (ds:=ds) (kind:=kind) (d:=Z d) (op:=a) b v;simp only[mg,BV,G,iy];rw[l]
 have L:=CJ (w:=w) (w1:=w) c n λτ e=>Ki (f τ e);exact⟨L,m.mF L g⟩
theorem qI(f:kind=.normal\/kind=.deferred)(h:Below ak LL cs)(j:∀d∈ds,lV ak d)(a:∀τ e,iY ak (re w τ e)){c:Op}(n:X[i]?=Z (aO d c)){S:Sem ag}(l:cu (bJ ⟨fn,t,[],ds,.run,kind,I⟩) (aO d c)=(do pure (.value (<-S))))(g:∀τ e,∃x,S.run LL (re w τ e)=.halt x (re w τ e))(m:Good LL R ⟨aV fn t X (i::is) k ds kind,cs,w⟩):False:=by
 have b:=Nc (fn:=fn) (t:=t) (is:=is) (k:=k) (ds:=ds) (cs:=cs) f n F;rw[l]at b;refine CI wJ zY b ⟨j,F,by simp⟩ h m λτ e=>?_;obtain⟨x,o⟩:=g τ e;exact⟨x,_,Fj o,a τ e⟩
theorem zP(o:kind=.normal\/kind=.deferred)(n:cs≠[]){m:Op}(l:X[i]?=Z (aO d m)){v z:ag}(s:fQ LL (cu (bJ ⟨fn,t,[],ds,.run,kind,I⟩) (aO d m))=Z (.comm #[{chan:=v,send:=I,zero:=z}] U (.recv Y)))
  (u:Good LL R ⟨aV fn t X (i::is) k ds kind,cs,w⟩):
  ∃c g f h a b tm,v=.chan (Z c)/\w.heap[c]?=Z (.chan g f h a b tm)/\(h=Y->0<f.size/\eV LL ⟨aV fn t X (i::is) k ds kind,cs,w⟩ ⟨aV fn (t.setIfInBounds d (f.getD 0 aC)) X is k ds kind,cs,w.setChan c g (f.extract 1 f.size) Y a (b+1) tm⟩ 1/\Good LL R ⟨aV fn (t.setIfInBounds d (f.getD 0 aC)) X is k ds kind,cs,w.setChan c g (f.extract 1 f.size) Y a (b+1) tm⟩):=by
 have x:=Nc (fn:=fn) (t:=t) (is:=is) (k:=k) (ds:=ds) (cs:=cs) o l F;obtain⟨c,g,f,h,a,b,tm,p,q,r⟩:=Iz u n (by rw[x];exact s);refine⟨c,g,f,h,a,b,tm,p,q,λe=>?_⟩;have j:=r e;rw[Pm (d:=Z d) l]at j;exact j
theorem vm(o:kind=.normal\/kind=.deferred)(n:cs≠[]){m:Op}(l:X[i]?=Z (dR m)){v x z:ag}(s:fQ LL (cu (bJ ⟨fn,t,[],ds,.run,kind,I⟩) (dR m))=Z (.comm #[{chan:=v,send:=Z x,zero:=z}] U .send))
  (u:Good LL R ⟨aV fn t X (i::is) k ds kind,cs,w⟩):
  ∃c g f h a b tm,v=.chan (Z c)/\w.heap[c]?=Z (.chan g f h a b tm)/\(h=Y->f.size<g/\eV LL ⟨aV fn t X (i::is) k ds kind,cs,w⟩ ⟨aV fn t X is k ds kind,cs,w.setChan c g (f.push x) Y (a+1) b tm⟩ 1/\Good LL R ⟨aV fn t X is k ds kind,cs,w.setChan c g (f.push x) Y (a+1) b tm⟩):=by
 have y:=Nc (fn:=fn) (t:=t) (is:=is) (k:=k) (ds:=ds) (cs:=cs) o l F;obtain⟨c,g,f,h,a,b,tm,p,q,r⟩:=LO u n (by rw[y];exact s);refine⟨c,g,f,h,a,b,tm,p,q,λe=>?_⟩;have j:=r e;rw[Pm (d:=I) l]at j;exact j
end
def Dt(w:au)(S:Sem ag)(Q:ag->Prop):Prop:=(∃v,Q v/\∀τ e,S.run LL (re w τ e)=.ok v (re w τ e))\/∀τ e,∃x,S.run LL (re w τ e)=.halt x (re w τ e)
theorem Ly(w:au)(v:ag)(m b:Nat)(h:(m=8/\b=9)\/(m=11/\b=13)\/(m=9/\b=10)\/(m=10/\b=11)):Dt w (sH 109 v m) λu=>∃a,v=.pointer (Z a)/\u=.pointer (Z (a.add b)):=by
 have c:∀u:ag,(∀w,(sH 109 u m).run LL w=.halt (.stuck "an address expected (no nilCheck in front?)") w)->Dt w (sH 109 u m) λf=>∃a,u=.pointer (Z a)/\f=.pointer (Z (a.add b)):=λu d=>.inr λτ e=>⟨_,d _⟩;cases v with
 |pointer o=>
  cases o with
  |some a=>exact .inl ⟨_,⟨a,F,F⟩,λτ e=>by rcases h with⟨rfl,rfl⟩|⟨rfl,rfl⟩|⟨rfl,rfl⟩|⟨rfl,rfl⟩<;>kernel_rfl⟩
  |none=>exact c _ λw=>by rcases h with⟨rfl,rfl⟩|⟨rfl,rfl⟩|⟨rfl,rfl⟩|⟨rfl,rfl⟩<;>kernel_rfl
 |_=>exact c _ λw=>by rcases h with⟨rfl,rfl⟩|⟨rfl,rfl⟩|⟨rfl,rfl⟩|⟨rfl,rfl⟩<;>kernel_rfl
theorem agF(w:au)(v:ag):Dt w (sH 146 v 3) λu=>∃a,v=.pointer (Z a)/\u=.pointer (Z (a.add 3)):=by
 have b:∀u:ag,(∀w,(sH 146 u 3).run LL w=.halt (.stuck "an address expected (no nilCheck in front?)") w)->Dt w (sH 146 u 3) λd=>∃a,u=.pointer (Z a)/\d=.pointer (Z (a.add 3)):=λu c=>.inr λτ e=>⟨_,c _⟩;cases v with
 |pointer o=>
  cases o with
  |some a=>exact .inl ⟨_,⟨a,F,F⟩,λτ e=>by kernel_rfl⟩
  |none=>exact b _ λw=>by kernel_rfl
 |_=>exact b _ λw=>by kernel_rfl
theorem agE(w:au)(a:aR):Dt w (sH 142 (.pointer (Z a)) 0) λu=>u=.pointer (Z (a.add 0)):=.inl ⟨_,F,λτ e=>by kernel_rfl⟩
theorem RD{c:Loc->Prop}{w W:au}{b:aJ}(g:∀w,(isAgg b).run LL w=.ok Y w)(p:ag)(j:Rel (bN ak) c w W):Dt w (sI b p) λv=>∃a,p=.pointer (Z a)/\w.cell? a=Z v:=by
 unfold sI;cases p with
 |pointer o=>
  cases o with
  |none=>exact .inr λt d=>⟨_,F⟩
  |some a=>
   have e:∀t d,(do loadVar b (<-Instr.sureAddr (.pointer (Z a))):Sem ag).run LL (re w t d)=(load a).run LL (re w t d):=λt d=>by
    show(loadVar b a).run LL (re w t d)=_;unfold loadVar;rw[oD,g];rfl
   cases hc:w.cell? a with
   |some v=>
    refine .inl ⟨v,⟨a,F,hc⟩,λt d=>?_⟩;rw[e];have f:(re w t d).cell? a=Z v:=hc;simp[load,bx,f]
   |none=>
    refine .inr λt d=>?_;rw[e];have f:(re w t d).cell? a=I:=hc;have h:=((j.re t d).Gb (a:=a) LL (Mode.plain==Mode.atomic)).1;cases Ed:(re w t d).farLoad LL a (Mode.plain==Mode.atomic)with
    |ok r=>exact absurd Ed (h r)
    |error x=>exact⟨x,by simp[load,bx,f,Ed]⟩
 |_=>exact .inr λt d=>⟨_,F⟩
theorem UP(w:au):(isAgg 99).run LL w=.ok Y w:=av
theorem adn(w:au):(isAgg 139).run LL w=.ok Y w:=av
theorem yU.K8{b:Loc->Prop}{w W:au}{s:cz}(l:yU b w W s)(j:Rel (bN ak) b w W):∃c:af ag,c.size=10/\w.heap[s.S]?=Z (.cells c 109):=by
 obtain⟨a,e⟩:=l.sh;have aE:=vt a;cases ho:w.heap[s.S]? with
 |none=>rw[Aa]at ho;omega
 |some o=>
  obtain⟨O,g,h⟩:=j.obj _ _ ho;unfold fD at a e;rw[ho]at a;rw[g]at e;cases h with
  |same=>rw[e]at a;cases a
  |cut c d t _ _ _=>
   simp only[ij,fK]at a;obtain⟨rfl,f⟩:=a;exact⟨c,f,F⟩
  |kR=>cases a
  |view=>cases a
theorem aas(a:aR)(x:au):(frozen a).run LL x=.ok (x.frozen? a) x:=rfl
def Hv:aj Obj->Bool
 |none=>U
 |some (.view ..)=>U
 |_=>Y
theorem aat(r:Nat)(x:au):(∀o,x.heap[r]?=Z o->mz o=Y->(jZ r).run LL x=.ok o x)/\(x.heap[r]?=I->∃h,(jZ r).run LL x=.halt h x):=by
 constructor
 ·intro o a b
  cases o<;>first|(cases b;done)|simp[jZ,bx,a]
 ·intro a
  simp[jZ,bx,a]
theorem run_shape(r:Nat)(x:au):(shape r).run LL x=.ok (x.shape? r) x:=rfl
theorem aau(r:Nat)(x:au):(Hv (x.heap[r]?)=Y->(viewAt r).run LL x=.ok I x)/\(Hv (x.heap[r]?)=U->(∃h,(viewAt r).run LL x=.halt h x)\/∃v,(viewAt r).run LL x=.ok (Z v) x):=by
 unfold viewAt;rw[oD,run_shape];simp only[eh];cases h:x.heap[r]? with
 |none=>
  refine⟨(λe=>by cases e),λ_=>.inl ?_⟩;have b:x.shape? r=I:=by unfold fD;rw[h]
  obtain⟨y,d⟩:=(aat r x).2 h;refine⟨y,?_⟩;rw[b];simp only[Option.isSome_none,kg,if_false];rw[oD,d];rfl
 |some o=>
  have d:=(aat r x).1 o h;cases o with
  |cells c g f=>
   have b:x.shape? r=Z (g,c.size):=by unfold fD;rw[h]
   refine⟨λ_=>?_,λe=>by cases e⟩;rw[b];rfl
  |view a u=>
   have b:x.shape? r=I:=by unfold fD;rw[h]
   refine⟨(λe=>by cases e),λ_=>.inr ⟨(a,u),?_⟩⟩;rw[b];simp only[Option.isSome_none,kg,if_false];rw[oD,d F];rfl
  |_=>
   have b:x.shape? r=I:=by unfold fD;rw[h]
   refine⟨λ_=>?_,λe=>by cases e⟩;rw[b];simp only[Option.isSome_none,kg,if_false];rw[oD,d F];rfl
theorem J1(b:aR)(x:au):(Hv (x.heap[b.block]?)=Y->(noView b).run LL x=.ok () x)/\(Hv (x.heap[b.block]?)=U->∃h,(noView b).run LL x=.halt h x):=by
 unfold noView;rw[oD];constructor
 ·intro h
  rw[(aau b.block x).1 h];rfl
 ·intro h
  rcases(aau b.block x).2 h with⟨y,c⟩|⟨v,a⟩
  ·rw[c];exact⟨y,rfl⟩
  ·rw[a];exact⟨_,rfl⟩
theorem asj{w:au}{S:Nat}(p:∃c:af ag,c.size=10/\w.heap[S]?=Z (.cells c 109))(b:aR)(g:oT w b=Y):(∃r,(r=U->b=⟨S,0,I⟩)/\∀τ e,(sameAddr ⟨S,0,I⟩ b).run LL (re w τ e)=.ok r (re w τ e))\/∀τ e,∃x,(sameAddr ⟨S,0,I⟩ b).run LL (re w τ e)=.halt x (re w τ e):=by
 by_cases j:S=b.block
 ·exact .inl ⟨((⟨S,0,I⟩:aR)==b),λh=>(eq_of_beq h).symm,λτ e=>by simp[sameAddr,j,bx]⟩
 ·obtain⟨c,q,o⟩:=p
  have d:∀τ e,(sameAddr ⟨S,0,I⟩ b).run LL (re w τ e)=((noView b).run LL (re w τ e)).andThen λ_ x=>.ok Y x:=λτ e=>by
   have a:(re w τ e).heap[S]?=Z (.cells c 109):=o;have l:oT (re w τ e) b=Y:=g;generalize C:re w τ e=x at a l;have m:x.frozen? ⟨S,0,I⟩=Y:=by unfold pN;simp[a]
   have A:=(J1 ⟨S,0,I⟩ x).1 (by simp only[a];rfl);unfold sameAddr;rw[if_neg (by simp[j])];rw[oD,aas,m];simp only[eh];rw[oD,aas];simp only[eh,Bool.false_and,kg,if_false];rw[oD,A];simp only[eh];rw[oD];cases MB:(noView b).run LL x with
   |halt y z=>rfl
   |ok u z=>
    have B:z=x:=by
     cases Jg:Hv (x.heap[b.block]?)with
     |false=>rw[(J1 b x).1 Jg]at MB;cases MB;rfl
     |true=>obtain⟨y,f⟩:=(J1 b x).2 Jg;rw[f]at MB;cases MB
    subst B;simp only[eh];have s:(mayBeOne ⟨S,0,I⟩ b).run LL z=.ok Y z:=by
     rw[<-xe _ _ z #[],JB];have v:qX z ⟨S,0,I⟩=Y:=by
      unfold qX fD;rw[m];simp only[a,Bool.false_or];unfold pN;simp[a]
     have n:oT z ⟨S,0,I⟩=Y:=by
      unfold oT fD;simp only[a,q]
     rw[v,n,l];simp
    rw[oD,s];rfl
  cases Jg:Hv (w.heap[b.block]?)with
  |false=>
   refine .inl ⟨Y,(λh=>by cases h),λτ e=>?_⟩;rw[d,(J1 b (re w τ e)).1 Jg];rfl
  |true=>
   refine .inr λτ e=>?_;obtain⟨y,f⟩:=(J1 b (re w τ e)).2 Jg;exact⟨y,by rw[d,f];rfl⟩
theorem VX(w:au)(S:Nat)(a:aR)(x y:gU):(do kX .eql 39 x y (ptr S 0) (.pointer (Z a));binOp .eql 39 (ptr S 0) (.pointer (Z a))).run LL w=(do pure (Value.bool (<-sameAddr ⟨S,0,I⟩ a)):Sem ag).run LL w:=av
theorem VW{w:au}{S:Nat}(j:∃c:af ag,c.size=10/\w.heap[S]?=Z (.cells c 109))(p:ag)(d:∀b,p=.pointer (Z b)->oT w b=Y)(x y:gU):Dt w (do kX .eql 39 x y (ptr S 0) p;binOp .eql 39 (ptr S 0) p) λu=>∃b,u=.bool b/\(b=U->p=ptr S 0):=by
 cases p with
 |pointer o=>
  cases o with
  |none=>exact .inl ⟨_,⟨Y,F,λh=>by cases h⟩,λτ e=>by kernel_rfl⟩
  |some a=>
   rcases asj j a (d a F)with⟨r,f,g⟩|h
   ·refine .inl ⟨.bool r,⟨r,rfl,λh=>by rw[f h]⟩,λτ e=>?_⟩
    rw[VX,oD,g];rfl
   ·refine .inr λτ e=>?_
    obtain⟨x,l⟩:=h τ e;exact⟨x,by rw[VX,oD,l];rfl⟩
 |_=>exact .inr λτ e=>⟨.stuck "==: the operands do not fit the type, or the type is not comparable",by kernel_rfl⟩
theorem gD(t:af ag)(d:Nat)(v:ag)(h:d<t.size):(t.setIfInBounds d v).getD d aC=v:=by
 simp[nk,h]
theorem gO(t:af ag){d e:Nat}(v:ag)(h:d≠e):(t.setIfInBounds d v).getD e aC=t.getD e aC:=by
 simp[nk,h]
section
variable {R:ag->au->Prop}{Q:Loc->Prop}{O:Bool}{M:ae dp}{N:ae cz}{w W:au}{P:ae az}{S:bA}{t:af ag}{V:af bh}{i0 sl a b c:Nat}{rest:ae Nat}{k:ae aK}{T:ae bV}{X:dD}
theorem Pg(d x:Tmp)(e:aJ):cu (bJ ⟨S,t,[],T,.run,X,I⟩) (aO d (.load e (tm x)))=(do pure (.value (<-sI e (t.getD x aC)))):=rfl
theorem Lv(d x:Tmp)(e:aJ)(m:Nat):cu (bJ ⟨S,t,[],T,.run,X,I⟩) (aO d (.fieldAddr e (tm x) m))=(do pure (.value (<-sH e (t.getD x aC) m))):=rfl
theorem Pe(d x:Tmp)(e:aJ)(m:Nat):cu (bJ ⟨S,t,[],T,.run,X,I⟩) (aO d (.field e (tm x) m))=(do pure (.value (<-Instr.field e (t.getD x aC) m))):=rfl
theorem Alike.tk{f:au}(j:Alike w f)(h:∀τ e,iY ak (re w τ e)):∀τ e,iY ak (re f τ e):=λτ e x T d=>by
 have d:f.heap[x]?=Z (.deferred T):=d;rcases j.obj x with g|⟨_,_,_,_,_,_,_,_,l,i⟩
 ·rw[g]at d;exact h τ e x T d
 ·rw[i]at d;cases d
theorem RF(L:fL Q O M N w W)(hr:Rel (bN ak) Q w W)(J:Below ak LL P)(o:P≠[])(g:X=.normal\/X=.deferred)(K:∀d∈T,lV ak d)
  (B:∀m,m<11->V[i0+m]?=(yl (tm sl) a b c)[m]?)(ha:a<t.size)(E:b<t.size)(hc:c<t.size)(pW:a≠b)(φ:a≠c)(χ:b≠c)(XP:a≠sl)(Er:b≠sl)(jv:c≠sl)
  (hg:Good LL R ⟨aV S t V (i0::(i0+1)::(i0+2)::(i0+3)::(i0+4)::(i0+5)::(i0+6)::(i0+7)::(i0+8)::(i0+9)::(i0+10)::rest) k T X,P,w⟩):
  ∃s∈N,∃bb n w1 x y,(bb=U->t.getD sl aC=ptr s.S 0)/\w1.heap[s.D]?=Z (.chan 2 #[cV s] Y x y Y)/\Alike w w1/\
   eV LL ⟨aV S t V (i0::(i0+1)::(i0+2)::(i0+3)::(i0+4)::(i0+5)::(i0+6)::(i0+7)::(i0+8)::(i0+9)::(i0+10)::rest) k T X,P,w⟩ ⟨aV S (((t.setIfInBounds a (ay s.D)).setIfInBounds b (cV s)).setIfInBounds c (.bool bb)) V rest k T X,P,w1.setChan s.D 2 #[] Y x (y+1) Y⟩ n/\
   Good LL R ⟨aV S (((t.setIfInBounds a (ay s.D)).setIfInBounds b (cV s)).setIfInBounds c (.bool bb)) V rest k T X,P,w1.setChan s.D 2 #[] Y x (y+1) Y⟩:=by
 have hh:∀τ e,iY ak (re w τ e):=λτ e=>hr.tk;have υ:∀(t:af ag)(d:Nat),bJ ⟨S,t,[],T,.run,X,I⟩ (tm d)=t.getD d aC:=λ_ _=>rfl;have o0:V[i0]?=Z (aO a (.fieldAddr 109 (tm sl) 8)):=B 0 ai;have o1:V[i0+1]?=Z (aO a (.load 99 (tm a))):=B 1 ai;have o2:V[i0+2]?=Z (aO a (.fieldAddr 146 (tm a) 3)):=B 2 ai;have o3:V[i0+3]?=Z (aO a (.fieldAddr 142 (tm a) 0)):=B 3 ai;have o4:V[i0+4]?=Z (aO a (.load 139 (tm a))):=B 4 ai;have o5:V[i0+5]?=Z (aO b (.recv 139 (tm a) Y)):=B 5 ai;have o6:V[i0+6]?=Z (dR (.send (tm a) (tm b))):=B 6 ai;have o7:V[i0+7]?=Z (aO a (.field 142 (tm b) 0)):=B 7 ai;have o8:V[i0+8]?=Z (aO b (.recv 100 (tm a) Y)):=B 8 ai;have o9:V[i0+9]?=Z (aO c (.field 50 (tm b) 0)):=B 9 ai;have Zs:V[i0+10]?=Z (aO c (.binOp .eql 39 (tm c) (tm sl) 39)):=B 10 ai;generalize hp:t.getD sl aC=p;have e0:cu (bJ ⟨S,t,[],T,.run,X,I⟩) (aO a (.fieldAddr 109 (tm sl) 8))=(do pure (.value (<-sH 109 p 8))):=by rw[Lv,hp]
 rcases Ly w p 8 9 (.inl ⟨F,F⟩)with⟨v,⟨D,Em,rfl⟩,a8⟩|C
 case inr=>exact(qI g J K hh o0 e0 C hg).elim
 obtain⟨L0,g0⟩:=rF g o o0 e0 a8 hg;have q0:(t.setIfInBounds a (.pointer (Z (D.add 9)))).getD a aC=.pointer (Z (D.add 9)):=gD _ _ _ ha;have e1:cu (bJ ⟨S,t.setIfInBounds a (.pointer (Z (D.add 9))),[],T,.run,X,I⟩) (aO a (.load 99 (tm a)))=(do pure (.value (<-sI 99 (.pointer (Z (D.add 9)))))):=by rw[Pg,q0]
 rcases RD UP (.pointer (Z (D.add 9))) hr with⟨v1,⟨σ,I6,rP⟩,QK⟩|C
 case inr=>exact(qI g J K hh o1 e1 C g0).elim
 cases I6;obtain⟨L1,g1⟩:=rF g o o1 e1 QK g0;generalize Es:(t.setIfInBounds a (.pointer (Z (D.add 9)))).setIfInBounds a v1=t1 at L1 g1;have q1:t1.getD a aC=v1:=by rw[<-Es];exact gD _ _ _ (by simpa using ha)
 have e2:cu (bJ ⟨S,t1,[],T,.run,X,I⟩) (aO a (.fieldAddr 146 (tm a) 3))=(do pure (.value (<-sH 146 v1 3))):=by rw[Lv,q1]
 rcases agF w v1 with⟨v2,⟨l,rfl,rfl⟩,ι⟩|C
 case inr=>exact(qI g J K hh o2 e2 C g1).elim
 obtain⟨L2,g2⟩:=rF g o o2 e2 ι g1;have z1:t1.size=t.size:=by rw[<-Es];simp
 have q2:(t1.setIfInBounds a (.pointer (Z (l.add 3)))).getD a aC=.pointer (Z (l.add 3)):=gD _ _ _ ai;have e3:cu (bJ ⟨S,t1.setIfInBounds a (.pointer (Z (l.add 3))),[],T,.run,X,I⟩) (aO a (.fieldAddr 142 (tm a) 0))=(do pure (.value (<-sH 142 (.pointer (Z (l.add 3))) 0))):=by rw[Lv,q2]
 rcases agE w (l.add 3)with⟨v3,rfl,κ⟩|C
 case inr=>exact(qI g J K hh o3 e3 C g2).elim
 obtain⟨L3,g3⟩:=rF g o o3 e3 κ g2;have q3:((t1.setIfInBounds a (.pointer (Z (l.add 3)))).setIfInBounds a (.pointer (Z ((l.add 3).add 0)))).getD a aC=.pointer (Z ((l.add 3).add 0)):=gD _ _ _ (by simp;omega);have e4:cu (bJ ⟨S,(t1.setIfInBounds a (.pointer (Z (l.add 3)))).setIfInBounds a (.pointer (Z ((l.add 3).add 0))),[],T,.run,X,I⟩) (aO a (.load 139 (tm a)))=(do pure (.value (<-sI 139 (.pointer (Z ((l.add 3).add 0)))))):=by rw[Pg,q3]
 rcases RD adn (.pointer (Z ((l.add 3).add 0))) hr with⟨v4,_,μ⟩|C
 case inr=>exact(qI g J K hh o4 e4 C g3).elim
 obtain⟨L4,g4⟩:=rF g o o4 e4 μ g3;generalize Jd:((t1.setIfInBounds a (.pointer (Z (l.add 3)))).setIfInBounds a (.pointer (Z ((l.add 3).add 0)))).setIfInBounds a v4=j at L4 g4;have z4:j.size=t.size:=by rw[<-Jd];simp[z1]
 have q4:j.getD a aC=v4:=by rw[<-Jd];exact gD _ _ _ (by simp;omega)
 have ε:j=t.setIfInBounds a v4:=by
  rw[<-Jd,<-Es];apply yI;intro i;simp only[tJ,pH];by_cases h:a=i<;>simp[h]
 have e5:fQ LL (cu (bJ ⟨S,j,[],T,.run,X,I⟩) (aO b (.recv 139 (tm a) Y)))=Z (.comm #[{chan:=v4,send:=I,zero:=.nilFunc}] U (.recv Y)):=by rw[<-q4];kernel_rfl
 obtain⟨ch,H,f,cl,x,y,gi,rfl,f2,f3⟩:=zP g o o5 e5 g4;have dI:cl=Y:=(L.chans _ _ _ _ _ _ _ f2).1;subst dI;obtain⟨h0,L5,g5⟩:=f3 F;obtain⟨_,Je,zp⟩:=L.full f2 h0;subst Je;generalize zC:f.getD 0 aC=u at L5 g5;have z5:(j.setIfInBounds b u).size=t.size:=by simp[z4]
 have π:(j.setIfInBounds b u).getD a aC=.chan (Z ch):=by rw[gO _ _ (λe=>pW e.symm)];exact q4
 have ZQ:(j.setIfInBounds b u).getD b aC=u:=gD _ _ _ ai;have wq:(w.setChan ch H (f.extract 1 f.size) Y x (y+1) Y).heap[ch]?=Z (.chan H (f.extract 1 f.size) Y x (y+1) Y):=oE _ f2 _ _ _ _ _ _;have e6:fQ LL (cu (bJ ⟨S,j.setIfInBounds b u,[],T,.run,X,I⟩) (dR (.send (tm a) (tm b))))=Z (.comm #[{chan:=.chan (Z ch),send:=Z u,zero:=.tuple #[]}] U .send):=by
  have:fQ LL (cu (bJ ⟨S,j.setIfInBounds b u,[],T,.run,X,I⟩) (dR (.send (tm a) (tm b))))=Z (.comm #[{chan:=(j.setIfInBounds b u).getD a aC,send:=Z ((j.setIfInBounds b u).getD b aC),zero:=.tuple #[]}] U .send):=by kernel_rfl
  rw[this,π,ZQ]
 obtain⟨ν,δ,γ,ξ,x',y',N8,f4,f5,f6⟩:=vm g o o6 e6 g5;cases f4;rw[wq]at f5;cases f5;obtain⟨_,L6,g6⟩:=f6 F;have ζ:(f.extract 1 f.size).push u=f:=by
  rcases zp with⟨_,_,_,_,rfl⟩|⟨_,_,_,_,rfl⟩|⟨rfl,hm⟩|⟨_,_,_,rfl⟩
  ·rw[<-zC];rfl
  ·rw[<-zC];rfl
  ·obtain⟨_,_,hx⟩:=L.gate
   rw[f2]at hx;cases hx;rw[<-zC,hm];rfl
  ·rw[<-zC];rfl
 rw[ζ]at L6 g6;have A6:=Alike.eo (s':=x+1) (r':=y+1) f2 (f.extract 1 f.size) Y x (y+1) Y;generalize (w.setChan ch H (f.extract 1 f.size) Y x (y+1) Y)=w5 at L5 L6 g6 A6;generalize (w5.setChan ch H f Y (x+1) (y+1) Y)=A at L6 g6 A6;have e7:cu (bJ ⟨S,j.setIfInBounds b u,[],T,.run,X,I⟩) (aO a (.field 142 (tm b) 0))=(do pure (.value (<-Instr.field 142 u 0))):=by rw[Pe,ZQ]
 have Ml:=A6.tk hh;have η:∀(u1 u2:ag)(τ:Nat->Question->Nat)(e:Nat),(Instr.field 142 (.agg #[u1,u2]) 0).run LL (re A τ e)=.ok u1 (re A τ e):=λu1 u2 τ e=>by kernel_rfl
 have θ:∀(s:cz)(τ:Nat->Question->Nat)(e:Nat),(Instr.field 142 (cV s) 0).run LL (re A τ e)=.ok (ptr s.S 0) (re A τ e):=λs τ e=>by kernel_rfl
 have q7:∀z,((j.setIfInBounds b u).setIfInBounds a z).getD a aC=z:=λz=>gD _ _ _ ai;have e8:∀z,fQ LL (cu (bJ ⟨S,(j.setIfInBounds b u).setIfInBounds a z,[],T,.run,X,I⟩) (aO b (.recv 100 (tm a) Y)))=Z (.comm #[{chan:=z,send:=I,zero:=.agg #[]}] U (.recv Y)):=λz=>by
  have:fQ LL (cu (bJ ⟨S,(j.setIfInBounds b u).setIfInBounds a z,[],T,.run,X,I⟩) (aO b (.recv 100 (tm a) Y)))=Z (.comm #[{chan:=((j.setIfInBounds b u).setIfInBounds a z).getD a aC,send:=I,zero:=.agg #[]}] U (.recv Y)):=by kernel_rfl
  rw[this,q7]
 rcases zp with⟨q,hk,rfl,rfl,rfl⟩|⟨s,hs,rfl,rfl,rfl⟩|⟨rfl,hm⟩|⟨rfl,rfl,oo,rfl⟩
 case inr.inl=>
  have G:u=cV s:=by rw[<-zC];rfl
  subst G;obtain⟨L7,g7⟩:=rF g o o7 e7 (θ s) g6;obtain⟨_,_,_,_,_,_,_,e,_⟩:=zP g o o8 (e8 _) g7;cases e
 case inr.inr.inl=>
  obtain⟨_,_,hx⟩:=L.gate;rw[f2]at hx;cases hx;have G:u=bK N:=by rw[<-zC,hm];rfl
  rcases(Yy N).1 with h0|⟨x0,h0,mU⟩
  ·rw[h0]at G
   subst G;exact(qI g J K Ml o7 e7 (λτ e=>⟨.stuck "struct or array expected",by kernel_rfl⟩) g6).elim
  ·rw[h0]at G
   subst G;exact(qI g J K Ml o7 e7 (λτ e=>⟨.stuck "struct or array expected",by kernel_rfl⟩) g6).elim
 case inr.inr.inr=>
  have G:u=.chan oo:=by rw[<-zC];rfl
  subst G;exact(qI g J K Ml o7 e7 (λτ e=>⟨.stuck "struct or array expected",by kernel_rfl⟩) g6).elim
 case inl=>
 have G:u=qY q:=by rw[<-zC];rfl
 subst G;obtain⟨L7,g7⟩:=rF g o o7 e7 (η (ay q.D) (ay q.T)) g6;obtain⟨s,hs,eS,eD⟩:=(L.k q hk).pF;have ls:=L.s s hs;obtain⟨sa,sb,hD⟩:=ls.lone;rw[eD]at hD;obtain⟨vp,vq,xE⟩:=A6.m7 hD;obtain⟨ν,δ,γ,ξ,x',y',N8,f7,f8,f9⟩:=zP g o o8 (e8 _) g7;cases f7;rw[xE]at f8;cases f8;obtain⟨_,L8,g8⟩:=f9 F;have es:(#[cV s]:af ag).getD 0 aC=cV s:=rfl;have Pj:(#[cV s]:af ag).extract 1 (#[cV s]:af ag).size=#[]:=rfl;rw[es,Pj]at L8 g8;generalize MG:((j.setIfInBounds b (qY q)).setIfInBounds a (ay q.D)).setIfInBounds b (cV s)=r at L8 g8;have z8:r.size=t.size:=by rw[<-MG];simp[z4]
 have q8:r.getD b aC=cV s:=by rw[<-MG];exact gD _ _ _ (by simp;omega)
 have e9:cu (bJ ⟨S,r,[],T,.run,X,I⟩) (aO c (.field 50 (tm b) 0))=(do pure (.value (<-Instr.field 50 (cV s) 0))):=by rw[Pe,q8]
 obtain⟨L9,g9⟩:=rF (v:=ptr s.S 0) g o o9 e9 (λτ e=>by kernel_rfl) g8;have q9:(r.setIfInBounds c (ptr s.S 0)).getD c aC=ptr s.S 0:=gD _ _ _ ai;have ρ:(r.setIfInBounds c (ptr s.S 0)).getD sl aC=p:=by
  rw[gO _ _ jv,<-MG,gO _ _ Er,gO _ _ XP,gO _ _ Er,ε,gO _ _ XP];exact hp
 have Lm:cu (bJ ⟨S,r.setIfInBounds c (ptr s.S 0),[],T,.run,X,I⟩) (aO c (.binOp .eql 39 (tm c) (tm sl) 39))=(do pure (.value (<-(do kX .eql 39 (tm c) (tm sl) (ptr s.S 0) p;binOp .eql 39 (ptr s.S 0) p)))):=by
  have:cu (bJ ⟨S,r.setIfInBounds c (ptr s.S 0),[],T,.run,X,I⟩) (aO c (.binOp .eql 39 (tm c) (tm sl) 39))=(do pure (.value (<-(do kX .eql 39 (tm c) (tm sl) ((r.setIfInBounds c (ptr s.S 0)).getD c aC) ((r.setIfInBounds c (ptr s.S 0)).getD sl aC);binOp .eql 39 ((r.setIfInBounds c (ptr s.S 0)).getD c aC) ((r.setIfInBounds c (ptr s.S 0)).getD sl aC))))):=rfl;rw[this,q9,ρ]
 have ψ:Rel (bN ak) Q (A.setChan q.D 2 #[] Y vp (vq+1) Y) W:=(hr.alike A6).sd xE;have PM:=cZ xE;have RL:∃c:af ag,c.size=10/\(A.setChan q.D 2 #[] Y vp (vq+1) Y).heap[s.S]?=Z (.cells c 109):=by
  obtain⟨cc,h1,h2⟩:=ls.K8 hr;refine⟨cc,h1,?_⟩;have h6:A.heap[s.S]?=Z (.cells cc 109):=by
   rcases A6.obj s.S with e|⟨_,_,_,_,_,_,_,_,x1,_⟩
   ·rw[e];exact h2
   ·rw[h2]at x1;cases x1
  rw[heap_setChan _ PM,if_neg (λe=>by rw[e,xE]at h6;cases h6)];exact h6
 have Jm:∀β,p=.pointer (Z β)->oT (A.setChan q.D 2 #[] Y vp (vq+1) Y) β=Y:=λβ E=>by
  rw[Em]at E;cases E;obtain⟨cc,ty,fz,h1,_,h3,_⟩:=kK rP;have h1:w.heap[D.block]?=Z (.cells cc ty fz):=h1;have h6:A.heap[D.block]?=Z (.cells cc ty fz):=by
   rcases A6.obj D.block with e|⟨_,_,_,_,_,_,_,_,x1,_⟩
   ·rw[e];exact h1
   ·rw[h1]at x1;cases x1
  have h9:(A.setChan q.D 2 #[] Y vp (vq+1) Y).heap[D.block]?=Z (.cells cc ty fz):=by
   rw[heap_setChan _ PM,if_neg (λe=>by rw[e,xE]at h6;cases h6)];exact h6
  unfold oT fD;rw[h9];obtain⟨nn,hn⟩:∃nn,cc.size=nn+1:=⟨cc.size-1,by omega⟩;simp only[hn]
 rcases VW RL p Jm (tm c) (tm sl)with⟨v,⟨bb,rfl,rN⟩,QL⟩|C
 case inr=>
  refine(qI g J K (λτ e x T E=>?_) Zs Lm C g9).elim;have E:(A.setChan q.D 2 #[] Y vp (vq+1) Y).heap[x]?=Z (.deferred T):=E;rw[heap_setChan _ PM]at E;split at E
  ·cases E
  ·exact Ml τ e x T E
 obtain⟨nT,nX⟩:=rF g o Zs Lm QL g9;have hT:(r.setIfInBounds c (ptr s.S 0)).setIfInBounds c (.bool bb)=((t.setIfInBounds a (ay q.D)).setIfInBounds b (cV s)).setIfInBounds c (.bool bb):=by
  rw[<-MG,ε];apply yI;intro i;simp only[tJ,pH];by_cases h1:c=i<;>by_cases h2:b=i<;>by_cases h3:a=i<;>simp[h1,h2,h3]
 rw[hT]at nT nX;have j5:=(((((((((L0.trans L1).trans L2).trans L3).trans L4).trans L5).trans L6).trans L7).trans L8).trans L9).trans nT;rw[<-eD]at j5 nX xE;refine⟨s,hs,bb,_,A,vp,vq,λh=>by rw[<-rN h],xE,A6,j5,nX⟩
end
def ov(g:Nat->ag)(m:ae (Nat×ag)):Nat->ag:=λi=>(m.lookup i).getD (g i)
abbrev Ak(g:Nat->ag)(l:ae ag)(a:ae aK)(W:ae bV)(X:dD):az:=⟨57,bO 33 g l,a,W,.run,X,I⟩
noncomputable def G6:af bh:=#[aO 19 (.fieldAddr 109 (tm 0) 11),aO 18 (.move (tm 0)),aO 19 (.nilCheck (tm 18))]++yl (tm 19) 20 21 22
noncomputable def FX:af bh:=#[dR (.send (tm 20) (tm 21)),aO 20 (.fieldAddr 109 (tm 19) 11),aO 21 (.field 50 (tm 21) 2),aO 22 (.unOp .not 4 (tm 21))]
noncomputable def K4:bl:=.seq (.cond (tm 22) .skip (.refuse "")) (reg FX)
section
variable (g:Nat->ag)(l:ae ag)(k:ae aK)(W:ae bV)(X:dD)(T:X=.normal\/X=.deferred)(V:ae az)(R:aR)(S:Nat)(s:cz)
include T
theorem al8:aN LL 2 (G (Ak g l (.code Hf::k) W X) V)=G (aV 57 (bO 33 g l) G6 [0,1,2,3,4,5,6,7,8,9,10,11,12,13] (.code K4::k) W X) V:=by
 rfl
theorem ama:aN LL 3 (G (aV 57 (bO 33 (cN g (.pointer (Z R))) l) G6 [0,1,2,3,4,5,6,7,8,9,10,11,12,13] (.code K4::k) W X) V)=G (aV 57 (bO 33 (ov (cN g (.pointer (Z R))) [(18,.pointer (Z R)),(19,.pointer (Z R))]) l) G6 [3,4,5,6,7,8,9,10,11,12,13] (.code K4::k) W X) V:=by
 rcases T with rfl|rfl<;>kernel_rfl
theorem al9(t):aN LL 2 (G (aV 57 t G6 [] (.code K4::k) W X) V)=G ⟨57,t,.code (.cond (tm 22) .skip (.refuse ""))::.code (reg FX)::k,W,.run,X,I⟩ V:=by
 rfl
theorem al6(t):aN LL 1 (G ⟨57,t,.code (reg FX)::k,W,.run,X,I⟩ V)=G (aV 57 t FX [0,1,2,3] k W X) V:=by
 rfl
theorem al7(x):aN LL 4 (G (aV 57 (bO 33 (ov (cN g (ptr S 0)) [(18,ptr S 0),(19,ptr S 0),(20,x),(21,cV s),(22,.bool U)]) l) FX [1,2,3] k W X) V)=G (Ak (ov (cN g (ptr S 0)) [(18,ptr S 0),(19,ptr S 0),(20,ptr S 13),(21,.bool s.st),(22,.bool !s.st)]) l k W X) V:=by
 rcases T with rfl|rfl<;>kernel_rfl
theorem aqI:(om ak (G (Ak (cN g (ptr S 0)) l (.code Bv::k) W X) V)).isSome=U:=by
 rfl
theorem aqJ(b):(stage ak (Z (109,14)) (.bool b) (aN ak 1 (G (Ak (cN g (ptr S 0)) l (.code Bv::k) W X) V))).map (λr=>r.2)=Z (.bool b,[.ev ⟨.cell (be S 13),Y,Y⟩]):=by
 rcases T with rfl|rfl<;>kernel_rfl
theorem aqH(b):aN ak 2 (gT ak (Z (109,14)) (.bool b) (aN ak 1 (G (Ak (cN g (ptr S 0)) l (.code Bv::k) W X) V)))=G (Ak (ov (cN g (ptr S 0)) [(18,ptr S 0),(19,ptr S 0),(20,ptr S 13),(21,.bool b),(22,.bool !b)]) l k W X) V:=by
 rcases T with rfl|rfl<;>kernel_rfl
end
section
variable (g:Nat->ag)(l:ae ag)(p x y z:ag)
theorem asG:(((bO 33 (ov g [(18,p),(19,p)]) l).setIfInBounds 20 x).setIfInBounds 21 y).setIfInBounds 22 z=bO 33 (ov g [(18,p),(19,p),(20,x),(21,y),(22,z)]) l:=av
theorem ag4:(bO 33 (ov g [(18,p),(19,p)]) l).getD 19 aC=p:=av
theorem Tc:33<=(bO 33 g l).size:=by simp[bO]
theorem ag5:(bO 33 (ov g [(18,p),(19,p),(20,x),(21,y),(22,z)]) l).getD 22 aC=z:=av
end
theorem aoB(m)(h:m<11):G6[3+m]?=(yl (tm 19) 20 21 22)[m]?:=by
 have e:G6[3+m]?=(#[aO 19 (.fieldAddr 109 (tm 0) 11),aO 18 (.move (tm 0)),aO 19 (.nilCheck (tm 18))]++yl (tm 19) 20 21 22)[3+m]?:=rfl;rw[e,Array.getElem?_append_right aZ];simp
theorem Core.alike{d:Loc->Prop}{f At:Nat->Loc->Prop}{c:Loc->Prop}{g:Nat->aj YS}{l:ae dp}{i:ae cz}{h:aj uC}{B n:Nat}{k W:au}(C:Core d f At c g l i h B n w W)(e:Alike w k):Core d f At c g l i h B n k W:=⟨C.rel.alike e,C.fo.alike e,C.low,C.qW,C.mI,C.y8,C.Av,C.cK,C.yr,C.gone,C.yq,C.g0,λj s=>by
                                                                                                                                                                                                            obtain⟨m,o,p,⟨a,b,q⟩,r⟩:=C.Be j s;exact⟨m,o,p,e.m7 q,r⟩⟩
theorem acD{s:dM}{m:fg}{T:dJ}(L:∃N,iz ak N s.m s.T=(.next m,T)){n:az}{k:ae az}{j g:au}(H:dw ak s.St s.At s.Shun s.ax s.h s.B s.gs.size g m T 0 (·=G n k))
  (f:Core s.Hid s.St s.At s.Shun s.ax s.ws s.ss s.dG s.B s.gs.size j g)(J:mN s.w s.W j g)(e:az)(c:ae az):
  ∃b:dM,Base b/\Real s b/\b.fr'=e/\b.cs'=c/\b.fr=n/\b.cs=k/\b.h=s.h/\b.dG=s.dG/\(∃t d,b.w=re j t d):=by
 obtain⟨N,Q,R,o,P,q,d,a,B,C,D,E,rfl,h,⟨v,i⟩⟩:=H;subst h i;have f:=f.re v;rw[<-C]at f;obtain⟨b,K,⟨r,O⟩,h,i,w,x,y,z,_,_,⟨t,u,l⟩,_,dW,A⟩:=settle (sl:=o) E.wX D f e c;obtain⟨p,M⟩:=L;refine⟨b,K,⟨⟨p+N+r,kG (kG M B) O⟩,?_⟩,h,i,w,x,y,z,t,u,?_⟩
 ·rw[A,l]
  exact(((J.at _).at _).re _ _).re _ _
 rw[l];rfl
theorem adP{j:uC}(a:xn j)(v:ag):(j.A'.finish v).todo=[.inRegion xB [1],.code .ret]:=by
 obtain⟨g,s,e⟩:=a.lone;rw[e];rfl
theorem sW.tF{s a:dM}(k:sW s){c:bl}{n:ae aK}(m:s.fr'.todo=.code c::n)(h:a.h=s.h)(d:a.dG=s.dG)(i:ko s.E a.fr' a.cs' a.fr a.cs):sW a:=by
 have hE:a.E=s.E:=by unfold dM.E;rw[d]
 cases k with
 |main e b _=>exact .main (d.trans e) (h.trans b) (.inl (by rw[hE];exact i))
 |work j e f b _=>exact .work j (d.trans e) f (h.trans b) (.inl (by rw[hE];exact i))
 |back j e f b v l=>
  exfalso;have g:=adP f v;rw[<-l,m]at g;cases g
theorem ko.ne{E:az->ae az->az->ae az->Prop}{b d:az}{a c:ae az}(e:ko E b a d c):a≠[]:=by
 cases e<;>simp
theorem DT{R:ag->au->Prop}{e:ae az}{a:dD}{g:ae bV}{c:gU}{b:String}{tm:af ag}{k:ae aK}{bb:Bool}(s:Good LL R ⟨⟨f,tm,.code (.cond c .skip (.refuse b))::k,g,.run,a,I⟩,e,w⟩)(l:e≠[])(u:bJ ⟨f,tm,[],g,.run,a,I⟩ c=.bool bb):bb=U/\eV LL ⟨⟨f,tm,.code (.cond c .skip (.refuse b))::k,g,.run,a,I⟩,e,w⟩ ⟨⟨f,tm,k,g,.run,a,I⟩,e,w⟩ 2:=by
 have h:bJ ⟨f,tm,.code (.cond c .skip (.refuse b))::k,g,.run,a,I⟩ c=.bool bb:=by rw[<-u];cases c<;>rfl
 cases bb with
 |true=>
  refine⟨F,λτ d=>?_⟩;have s1:aG LL U (G ⟨f,tm,.code (.cond c .skip (.refuse b))::k,g,.run,a,I⟩ e) (re w τ d)=dO ⟨f,tm,.code .skip::k,g,.run,a,I⟩ e (re w τ d) #[]:=by
   simp[G,aG,bE,h]
  have s2:aG LL U (G ⟨f,tm,.code .skip::k,g,.run,a,I⟩ e) (re w τ d)=dO ⟨f,tm,k,g,.run,a,I⟩ e (re w τ d) #[]:=by
   simp[G,aG,bE]
  simp only[il.on,di];rw[eY s1];dsimp only
  rw[eY s2]
 |false=>
  exfalso;obtain⟨τ,d,_,n,v,t,r⟩:=s (λ_ _=>0);have s1:aG LL U (G ⟨f,tm,.code (.cond c .skip (.refuse b))::k,g,.run,a,I⟩ e) (re w τ d)=dO ⟨f,tm,.code (.refuse b)::k,g,.run,a,I⟩ e (re w τ d) #[]:=by
   simp[G,aG,bE,h]
  obtain⟨o,j,q⟩:∃o j,aG LL U (G ⟨f,tm,.code (.refuse b)::k,g,.run,a,I⟩ e) (re w τ d)=.ended o j #[]:=⟨_,_,by simp[G,aG,bE];exact⟨F,F⟩⟩;have p:=Ns (L:=LL) ⟨n,v,t,r⟩ (k:=1) (m1:=lone ⟨f,tm,.code (.refuse b)::k,g,.run,a,I⟩ e (re w τ d)) (by simp only[il.on,di];rw[eY s1]) (JA l);obtain⟨x,i,_⟩:=JV p F;obtain⟨y,z,m⟩:=zX (L:=LL) (fr:=⟨f,tm,.code (.refuse b)::k,g,.run,a,I⟩) (cs:=e) (w:=re w τ d) (by rw[q];rfl);rw[m]at i;cases i
theorem ann{R:ag->au->Prop}{s:dM}(i:Inv s)(hg:Good LL R s.bW)(B:ko s.E s.fr' s.cs' s.fr s.cs){t:af ag}{j:ae bV}{f:dD}(bH:33<=t.size)
  (A:s.fr'=⟨57,t,[.code Hf,.code DI,.code DJ],j,.run,f,I⟩)(r:s.fr=⟨57,t,[.code Bv,.code DI,.code DJ],j,.run,f,I⟩):
  ∃w k n b,Inv w/\Real s w/\0<k/\kj LL s.bW w.bW k n b:=by
 have b:=i.base;have C:=b.core;have L:=C.fo;have q:=ko.ne B;have W:Below ak LL s.cs':=B.belows i.xD;obtain⟨tt,_,_,D,_⟩:=B.fr;rw[r]at D;have m:f=.normal\/f=.deferred:=D.kind.imp id λh=>h.1;have fN:∀d∈j,lV ak d:=D.defers;generalize uU:(λi=>t.getD (i+1) aC)=o;generalize tp:t.toList.drop 33=l;generalize hp:t.getD 0 aC=p;have ht:t=bO 33 (cN o p) l:=by rw[<-uU,<-tp,<-hp];exact Hk t 33 bH
 generalize eX:([.code DI,.code DJ]:ae aK)=k at A r;rw[ht]at A r;have pX:s.bW=⟨Ak (cN o p) l (.code Hf::k) j f,s.cs',s.w⟩:=by unfold dM.bW;rw[A]
 rw[pX]at hg⊢;have hh:∀τ e,iY ak (re s.w τ e):=λτ e=>C.rel.tk;obtain⟨n1,L1,g1⟩:=hg.quiet 2 (al8 _ l k j f m s.cs') q;have e0:cu (bJ ⟨57,bO 33 (cN o p) l,[],j,.run,f,I⟩) (aO 19 (.fieldAddr 109 (tm 0) 11))=(do pure (.value (<-sH 109 p 11))):=rfl;rcases Ly s.w p 11 13 (.inr (.inl ⟨F,F⟩))with⟨v,⟨J,Em,_⟩,_⟩|de
 case inr=>exact(qI m W fN hh av e0 de g1).elim
 subst Em;obtain⟨n2,L2,g2⟩:=g1.quiet 3 (ama o l k j f m s.cs' J) q;obtain⟨g,cY,K,n3,E,x,y,rN,V,A1,S,g3⟩:=RF (i0:=3) (sl:=19) (a:=20) (b:=21) (c:=22) (rest:=[]) L C.rel W q m fN aoB (ayS ai (Tc _ l)) (ayS ai (Tc _ l)) (ayS ai (Tc _ l)) ai ai ai ai ai ai g2;rw[asG]at S g3;rw[ag4]at rN;obtain⟨n4,L4,g4⟩:=g3.quiet 2 (al9 k j f m s.cs' _) q;obtain⟨D9,T⟩:=DT (bb:=K) g4 q (ag5 (cN o (.pointer (Z J))) l (.pointer (Z J)) (ay g.D) (cV g) (.bool K));have g5:=g4.mF T q;subst D9;have I4:=rN F;cases I4;obtain⟨n6,L6,g6⟩:=g5.quiet 1 (al6 k j f m s.cs' _) q;have o0:FX[0]?=Z (dR (.send (tm 20) (tm 21))):=by kernel_rfl
 obtain⟨ch,N,M,cl,a',b',gi,O,u,f6⟩:=vm m q o0 (v:=ay g.D) (x:=cV g) (z:=.tuple #[]) av g6;cases O;have oc:(E.setChan g.D 2 #[] Y x (y+1) Y).heap[g.D]?=Z (.chan 2 #[] Y x (y+1) Y):=oE _ V _ _ _ _ _ _;have u:(E.setChan g.D 2 #[] Y x (y+1) Y).heap[g.D]?=Z (.chan N M cl a' b' gi):=u;rw[oc]at u;cases u;obtain⟨_,L7,g7⟩:=f6 F;obtain⟨n8,L8,_⟩:=g7.quiet 4 (al7 o l k j f m s.cs' g.S g (ay g.D)) q;have G:Alike s.w ((E.setChan g.D 2 #[] Y x (y+1) Y).setChan g.D 2 ((#[]:af ag).push (cV g)) Y (x+1) (y+1) Y):=A1.trans (Alike.eo V _ _ _ _ _);have j5:=((((((L1.trans L2).trans S).trans L4).trans T).trans L6).trans L7).trans L8;generalize P:((E.setChan g.D 2 #[] Y x (y+1) Y).setChan g.D 2 ((#[]:af ag).push (cV g)) Y (x+1) (y+1) Y)=w9 at G;have Q:=L.s g cY;have cH:eC s.W (be g.S 13) (.bool g.st) (Z (109,14)):=Q.at C.rel Q.stop;have IH:g.S<s.B:=by
  have h1:=vt Q.sh.2;have h2:=C.low;omega
 obtain⟨m0,T0,hm,H,_⟩:=b.begin (by rw[r];exact aqI o l k j f m s.cs g.S);rw[r]at H;have H2:=(H.read (C.qc ai ai) IH cH (BA (aqJ o l k j f m s.cs g.S g.st))).quiet 2 (aqH o l k j f m s.cs g.S g.st);obtain⟨w,hb,hR,X,f2,f3,O,u,Lx,τ,d,f7⟩:=acD hm H2 (C.alike G) (G.dead _) (Ak (ov (cN o (ptr g.S 0)) [(18,ptr g.S 0),(19,ptr g.S 0),(20,ptr g.S 13),(21,.bool g.st),(22,.bool !g.st)]) l k j f) s.cs';refine⟨w,n1+n2+n3+n4+2+n6+1+n8,0,λ_ _=>0,⟨hb,i.ni.tF (by rw[A]) u Lx ?_⟩,hR,by omega,?_⟩
 ·rw[X,f2,f3,O]
  refine B.eo ?_ (by rw[r]) (by rw[r]);subst eX;exact⟨_,F,.cons (.code (.same _ av)) (.cons (.code (.same _ av)) .nil),D,.inl F⟩
 ·have cv:w.bW=⟨Ak (ov (cN o (ptr g.S 0)) [(18,ptr g.S 0),(19,ptr g.S 0),(20,ptr g.S 13),(21,.bool g.st),(22,.bool !g.st)]) l k j f,s.cs',re w9 τ d⟩:=by unfold dM.bW;rw[X,f2,f7]
  rw[cv,<-P];exact j5.vz
abbrev gF(z:iq)(p:ag)(m:ae (Nat×ag)):af ag:=bO 13 (ov (cN z.t p) m) z.l
noncomputable def qF(z:iq)(p:ag)(m:ae (Nat×ag))(a:ae aK):az:=⟨55,gF z p m,a,[],.run,.normal,I⟩
noncomputable def Hc(z:iq)(p:ag):az:=⟨55,bO 13 (cN z.t p) z.l,[.code (EE.body.getD .skip)],[],.run,.normal,I⟩
noncomputable def qA:af bh:=#[aO 7 (.recv 100 (kc gL) Y),dR (.send (kc gL) (tm 7)),aO 9 (.recv 100 (kc rO) Y),dR (.send (kc rO) (kc (.chan I))),aO 8 (.binOp .eql 100 (tm 9) (kc (.chan I)) 100)]
noncomputable def Hb:af bh:=yl (tm 0) 9 10 11
noncomputable def vh:af bh:=#[aO 12 (.fieldAddr 109 (tm 0) 8),aO 12 (.load 99 (tm 12)),aO 10 (.recv 100 (tm 9) Y),aO 11 (.field 50 (tm 10) 0),aO 11 (.binOp .eql 39 (tm 11) (tm 0) 39)]
noncomputable def qC:af bh:=#[aO 8 (.field 50 (tm 10) 2),aO 7 (.field 50 (tm 10) 1),aO 11 (.binOp .lss 3 (tm 7) (kc (.int .i64 9)) 3),aO 7 (.binOp .add 3 (tm 7) (kc (.int .i64 1)) 3),aO 10 (.build 50 #[(0,tm 0),(1,tm 7),(2,kc (.bool Y))]),dR (.send (tm 9) (tm 10))]
noncomputable def qD:af bh:=#[aO 1 (.makeChan 100 (kc (.int .i64 4))),aO 2 (.alloc 142)]
noncomputable def qE:af bh:=#[y7 0 (.makeChan 139 (kc (.int .i64 1))),y7 1 (.makeChan 140 (kc (.int .i64 3))),y7 2 (.build 142 #[(0,tm 4),(1,tm 5)]),y7 3 (.makeChan 100 (kc (.int .i64 4))),y7 4 (.move (tm 6))]
noncomputable def qH:af bh:=#[aO 8 (.build 142 #[(0,tm 9),(1,tm 5)]),dR (.send (tm 4) (tm 8)),dR (.store 142 (tm 2) (tm 6))]
noncomputable def E6:bl:=.seq (.region 1 qE U) (.seq (reg qH) .ret)
noncomputable def j8:bl:=.seq (.cond (tm 8) (.refuse "") .skip) (.seq (.cond (tm 11) .skip (.refuse "")) (.seq (reg qD) E6))
noncomputable def SC:bl:=.seq (reg qC) j8
noncomputable def zM:bl:=.seq (.cond (tm 11) .skip (.refuse "")) SC
noncomputable def E5:bl:=.seq (.cond (tm 8) (reg Hb) (reg vh)) zM
section
variable (z:iq)(p v u x:ag)(X:ae az)(N M:Nat)
theorem aqk:aN LL 2 (G (Hc z p) X)=G (aV 55 (gF z p []) qA [0,1,2,3,4] [.code E5] [] .normal) X:=av
theorem ap6:fQ LL (cu (bJ ⟨55,gF z p [],[],[],.run,.normal,I⟩) (aO 7 (.recv 100 (kc gL) Y)))=Z (.comm #[{chan:=gL,send:=I,zero:=.agg #[]}] U (.recv Y)):=av
theorem aqq:(gF z p []).setIfInBounds 7 u=gF z p [(7,u)]:=av
theorem ap7:fQ LL (cu (bJ ⟨55,gF z p [(7,u)],[],[],.run,.normal,I⟩) (dR (.send (kc gL) (tm 7))))=Z (.comm #[{chan:=gL,send:=Z u,zero:=.tuple #[]}] U .send):=av
theorem aqh:fQ LL (cu (bJ ⟨55,gF z p [(7,u)],[],[],.run,.normal,I⟩) (aO 9 (.recv 100 (kc rO) Y)))=Z (.comm #[{chan:=rO,send:=I,zero:=.agg #[]}] U (.recv Y)):=av
theorem aqr:(gF z p [(7,u)]).setIfInBounds 9 v=gF z p [(7,u),(9,v)]:=av
theorem aqi:fQ LL (cu (bJ ⟨55,gF z p [(7,u),(9,v)],[],[],.run,.normal,I⟩) (dR (.send (kc rO) (kc (.chan I)))))=Z (.comm #[{chan:=rO,send:=Z (.chan I),zero:=.tuple #[]}] U .send):=av
theorem ap4:aN LL 3 (G (aV 55 (gF z p [(7,u),(9,.chan I)]) qA [4] [.code E5] [] .normal) X)=G (qF z p [(7,u),(8,.bool U),(9,.chan I)] [.code (.cond (tm 8) (reg Hb) (reg vh)),.code zM]) X:=av
theorem ap5(D):aN LL 3 (G (aV 55 (gF z p [(7,u),(9,ay D)]) qA [4] [.code E5] [] .normal) X)=G (qF z p [(7,u),(8,.bool Y),(9,ay D)] [.code (.cond (tm 8) (reg Hb) (reg vh)),.code zM]) X:=av
theorem apM:aN LL 2 (G (qF z p [(7,u),(8,.bool U),(9,v)] [.code (.cond (tm 8) (reg Hb) (reg vh)),.code zM]) X)=G (aV 55 (gF z p [(7,u),(8,.bool U),(9,v)]) Hb [0,1,2,3,4,5,6,7,8,9,10] [.code zM] [] .normal) X:=av
theorem apN:aN LL 2 (G (qF z p [(7,u),(8,.bool Y),(9,v)] [.code (.cond (tm 8) (reg Hb) (reg vh)),.code zM]) X)=G (aV 55 (gF z p [(7,u),(8,.bool Y),(9,v)]) vh [0,1,2,3,4] [.code zM] [] .normal) X:=av
theorem aqs(a b c):(((gF z p [(7,u),(8,.bool U),(9,v)]).setIfInBounds 9 a).setIfInBounds 10 b).setIfInBounds 11 c=gF z p [(7,u),(8,.bool U),(9,a),(10,b),(11,c)]:=av
theorem aqt(a b):((((gF z p [(7,u),(8,.bool Y),(9,v)]).setIfInBounds 12 x).setIfInBounds 12 a).setIfInBounds 10 b)=gF z p [(7,u),(8,.bool Y),(9,v),(10,b),(12,a)]:=av
theorem apL(m):(gF z p m).getD 0 aC=ov (cN z.t p) m 0:=av
theorem ZR(m)(h:m.lookup 0=I):(gF z p m).getD 0 aC=p:=by
 rw[apL];unfold ov;rw[h];rfl
end
section
variable {S:Loc->Prop}{T:Bool}{Q:ae dp}{X:ae cz}{w O W:au}
theorem Alike.asD(h:Alike w O){c s:Nat}{l:af ag}{y tm:Bool}(A:w.heap[c]?=Z (.chan m l y s r tm))(g:Nat)(f:af ag)(i k:Bool)(p q C E:Nat)(x:Nat)(o:af ag)(B:Bool)(D G:Nat)(H:Bool):Alike (w.setChan c g f i p q k) ((O.setChan c x o B D G H).setChan c g f i C E k):=by
 have n:=cZ A;have j:c<O.heap.size:=by rw[h.size];exact n
 refine⟨by rw[size_setChan,size_setChan,size_setChan];exact h.size,h.tape,h.drawn,h.os,h.output,λb=>?_⟩;rw[heap_setChan _ (by rw[size_setChan];exact j),heap_setChan _ j,heap_setChan _ n];by_cases e:b=c
 ·rw[if_pos e,if_pos e]
  exact .inr ⟨_,_,_,_,_,_,_,_,F,F⟩
 ·rw[if_neg e,if_neg e,if_neg e]
  exact h.obj b
theorem fL.handed(L:fL S T Q X w W){v:ag}{a b:Nat}(C:w.heap[dx]?=Z (.chan 6 #[v] Y a b Y))(x y:Nat):fL S T Q X (w.setChan dx 6 #[.chan I] Y x y Y) W:=by
 have B:=cZ C;have D:∀c:Nat,c≠dx->(w.setChan dx 6 #[.chan I] Y x y Y).heap[c]?=w.heap[c]?:=λc e=>by rw[heap_setChan _ B,if_neg e]
 have i:∀{c f s r:Nat}{g:af ag}{o tm:Bool},f≠6->w.heap[c]?=Z (.chan f g o s r tm)->(w.setChan dx 6 #[.chan I] Y x y Y).heap[c]?=Z (.chan f g o s r tm):=λ{c f s r g o tm}j h=>by
  rw[D c (L.rv h C j)];exact h
 have N:∀c,(w.setChan dx 6 #[.chan I] Y x y Y).shape? c=w.shape? c:=λc=>by
  unfold fD;by_cases e:c=dx
  ·subst e
   rw[heap_setChan _ B,if_pos F,C]
  ·rw[D c e]
 refine⟨λs hs=>?_,λk hk=>?_,λc f g o p q tm j=>?_,?_,?_,L.CC,L.CB,L.zE,L.x9,L.ua,L.count,L.nodup,L.Bm⟩
 ·have l:=L.s s hs
  obtain⟨m,n,A⟩:=l.lone;exact⟨⟨m,n,i ai A⟩,l.real,⟨by rw[N];exact l.sh.1,l.sh.2⟩,l.done,l.cnt,l.qi,l.stop,l.bU,l.le⟩
 ·have l:=L.k k hk
  obtain⟨m,n,A⟩:=l.work;obtain⟨E,J,h2⟩:=l.told;obtain⟨G,K,h3⟩:=l.wb;obtain⟨H,M,h4⟩:=l.sb;exact⟨l.pF,⟨m,n,i ai A⟩,⟨E,J,i ai h2⟩,l.yD,⟨G,K,i ai h3⟩,l.ra,⟨H,M,i ai h4⟩,l.tC,l.bU⟩
 ·by_cases e:c=dx
  ·subst e
   rw[heap_setChan _ B,if_pos F]at j;cases j;exact⟨F,F,.hand F,λe=>by cases e⟩
  ·rw[D c e]at j
   exact L.chans c f g o p q tm j
 ·obtain⟨m,n,A⟩:=L.gate
  exact⟨m,n,i ai A⟩
 ·exact⟨.chan I,x,y,by rw[heap_setChan _ B,if_pos F],.inl F⟩
end
abbrev q3(g:Nat->ag)(l:ae ag)(p d t:ag):af ag:=bO 13 (ov g [(0,p),(9,d),(10,t)]) l
theorem ZP(g:Nat->ag)(l:ae ag):bO 13 g l=q3 g l (g 0) (g 9) (g 10):=by
 unfold q3;congr 1;funext i;unfold ov;by_cases e:i=0
 ·subst e;rfl
 ·by_cases f:i=9
  ·subst f;rfl
  ·by_cases h:i=10
   ·subst h;rfl
   ·have k:(i==0)=Y:=by simp[e]
    have m:(i==9)=Y:=by simp[f]
    have j:(i==10)=Y:=by simp[h]
    have:List.lookup i [(0,g 0),(9,g 9),(10,g 10)]=I:=by simp[List.lookup,k,m,j]
    rw[this];rfl
section
variable (z:iq)(p u v a b c d:ag)(V:ae az)(t:af ag)(P:af bh)
theorem ZS:aN LL 2 (G (aV 55 t P [] [.code zM] [] .normal) V)=G ⟨55,t,[.code (.cond (tm 11) .skip (.refuse "")),.code SC],[],.run,.normal,I⟩ V:=av
theorem ZT:aN LL 2 (G ⟨55,t,[.code SC],[],.run,.normal,I⟩ V)=G (aV 55 t qC [0,1,2,3,4,5] [.code j8] [] .normal) V:=av
theorem aqa(e:Bool):(gF z p [(7,u),(8,.bool e),(9,a),(10,b),(11,c)]).getD 11 aC=c:=av
theorem aqb(e:Bool):(gF z p [(7,u),(8,.bool e),(9,a),(10,b),(11,c),(12,d)]).getD 11 aC=c:=av
theorem aqp(f:Bool)(e:ag):((gF z p [(7,u),(8,.bool f),(9,a),(10,b),(12,d)]).setIfInBounds 11 e).setIfInBounds 11 c=gF z p [(7,u),(8,.bool f),(9,a),(10,b),(11,c),(12,d)]:=av
theorem aqd(e:Bool)(x:ag):((gF z p [(7,u),(8,.bool e),(9,a)]).setIfInBounds 12 x).getD 12 aC=x:=av
theorem ap9(e:Bool):(gF z p [(7,u),(8,.bool e),(9,a),(10,b),(12,d)]).getD 10 aC=b:=av
theorem aqc(f:Bool)(e:ag):((gF z p [(7,u),(8,.bool f),(9,a),(10,b),(12,d)]).setIfInBounds 11 e).getD 11 aC=e:=av
theorem ap8(f:Bool)(e:ag):((gF z p [(7,u),(8,.bool f),(9,a),(10,b),(12,d)]).setIfInBounds 11 e).getD 0 aC=p:=av
end
theorem agz{h:bA}{t:af ag}{g:ae bV}{e:dD}(d x y:Tmp)(f:aJ):cu (bJ ⟨h,t,[],g,.run,e,I⟩) (aO d (.binOp .eql f (tm x) (tm y) f))=(do pure (.value (<-(do kX .eql f (tm x) (tm y) (t.getD x aC) (t.getD y aC);binOp .eql f (t.getD x aC) (t.getD y aC))))):=rfl
section
variable {R:ag->au->Prop}{S:Loc->Prop}{T:Bool}{Q:ae dp}{X:ae cz}{w W:au}{V:ae az}
theorem amZ(L:fL S T Q X w W)(hr:Rel (bN ak) S w W)(eI:Below ak LL V)(h:V≠[]){z:iq}{p:ag}(hg:Good LL R ⟨Hc z p,V,w⟩):T=U/\∃f∈X,p=ptr f.S 0/\∃n g w1 a b x y,fL S T Q X (w.setChan dx 6 #[.chan I] Y a b Y) W/\Rel (bN ak) S (w.setChan dx 6 #[.chan I] Y a b Y) W/\Alike (w.setChan dx 6 #[.chan I] Y a b Y) w1/\w1.heap[f.D]?=Z (.chan 2 #[cV f] Y x y Y)/\
                                                                                                                      eV LL ⟨Hc z p,V,w⟩ ⟨aV 55 (q3 g z.l p (ay f.D) (cV f)) qC [0,1,2,3,4,5] [.code j8] [] .normal,V,w1.setChan f.D 2 #[] Y x (y+1) Y⟩ n/\
                                                                                                                      Good LL R ⟨aV 55 (q3 g z.l p (ay f.D) (cV f)) qC [0,1,2,3,4,5] [.code j8] [] .normal,V,w1.setChan f.D 2 #[] Y x (y+1) Y⟩:=by
 have o:CallKind.normal=.normal\/CallKind.normal=.deferred:=.inl F;have fN:∀d∈([]:ae bV),lV ak d:=by simp
 obtain⟨C,D,i⟩:=L.gate;obtain⟨hv,ha,hb,m9,δ⟩:=L.hand;obtain⟨n1,L1,g1⟩:=hg.quiet 2 (aqk z p V) h;obtain⟨c,l,k,M,a,b,N,B,j,r⟩:=zP o h av (ap6 z p) g1;cases B;have j:w.heap[bq]?=Z (.chan l k M a b N):=j;rw[i]at j;cases j;obtain⟨h0,L2,g2⟩:=r F;cases T with
 |false=>simp at h0
 |true=>
 refine⟨F,?_⟩;have i:w.heap[bq]?=Z (.chan 5 #[bK X] Y C D Y):=i;have L2:eV LL _ ⟨aV 55 ((gF z p []).setIfInBounds 7 (bK X)) qA [1,2,3,4] [.code E5] [] .normal,V,w.setChan bq 5 #[] Y C (D+1) Y⟩ 1:=L2;have g2:Good LL R ⟨aV 55 ((gF z p []).setIfInBounds 7 (bK X)) qA [1,2,3,4] [.code E5] [] .normal,V,w.setChan bq 5 #[] Y C (D+1) Y⟩:=g2;rw[aqq]at L2 g2;have gv:(w.setChan bq 5 #[] Y C (D+1) Y).heap[bq]?=Z (.chan 5 #[] Y C (D+1) Y):=oE _ i _ _ _ _ _ _;obtain⟨c,l,k,M,a,b,N,B,j,r⟩:=vm o h av (ap7 z p (bK X)) g2;cases B;have j:(w.setChan bq 5 #[] Y C (D+1) Y).heap[bq]?=Z (.chan l k M a b N):=j;rw[gv]at j;cases j;obtain⟨_,L3,g3⟩:=r F;have A3:Alike w ((w.setChan bq 5 #[] Y C (D+1) Y).setChan bq 5 ((#[]:af ag).push (bK X)) Y (C+1) (D+1) Y):=Alike.eo i _ _ _ _ _;generalize ((w.setChan bq 5 #[] Y C (D+1) Y).setChan bq 5 ((#[]:af ag).push (bK X)) Y (C+1) (D+1) Y)=w3 at L3 g3 A3;obtain⟨E,G,Xn⟩:=A3.m7 m9;obtain⟨c,l,k,M,a,b,N,B,j,r⟩:=zP o h av (aqh z p (bK X)) g3;cases B;have j:w3.heap[dx]?=Z (.chan l k M a b N):=j;rw[Xn]at j;cases j;obtain⟨_,L4,g4⟩:=r F;have L4:eV LL _ ⟨aV 55 ((gF z p [(7,bK X)]).setIfInBounds 9 hv) qA [3,4] [.code E5] [] .normal,V,w3.setChan dx 6 #[] Y E (G+1) Y⟩ 1:=L4;have g4:Good LL R ⟨aV 55 ((gF z p [(7,bK X)]).setIfInBounds 9 hv) qA [3,4] [.code E5] [] .normal,V,w3.setChan dx 6 #[] Y E (G+1) Y⟩:=g4;rw[aqr]at L4 g4;have AZ:(w3.setChan dx 6 #[] Y E (G+1) Y).heap[dx]?=Z (.chan 6 #[] Y E (G+1) Y):=oE _ Xn _ _ _ _ _ _;obtain⟨c,l,k,M,a,b,N,B,j,r⟩:=vm o h av (aqi z p hv (bK X)) g4;cases B;have j:(w3.setChan dx 6 #[] Y E (G+1) Y).heap[dx]?=Z (.chan l k M a b N):=j;rw[AZ]at j;cases j;obtain⟨_,L5,g5⟩:=r F;have A:Alike (w.setChan dx 6 #[.chan I] Y ha hb Y) ((w3.setChan dx 6 #[] Y E (G+1) Y).setChan dx 6 ((#[]:af ag).push (.chan I)) Y (E+1) (G+1) Y):=A3.asD m9 _ _ _ _ _ _ _ _ _ _ _ _ _ _;generalize ((w3.setChan dx 6 #[] Y E (G+1) Y).setChan dx 6 ((#[]:af ag).push (.chan I)) Y (E+1) (G+1) Y)=s at L5 g5 A;have LH:=L.handed m9 ha hb;have RH:Rel (bN ak) S (w.setChan dx 6 #[.chan I] Y ha hb Y) W:=hr.sd m9;have LS:=(((L1.trans L2).trans L3).trans L4).trans L5;have Xm:∀τ e,iY ak (re s τ e):=λτ e=>(RH.alike A).tk;rcases δ with rfl|⟨f,cY,rfl⟩
 ·
  obtain⟨n6,L6,g6⟩:=g5.quiet 3 (ap4 z p (bK X) V) h;obtain⟨n7,L7,g7⟩:=g6.quiet 2 (apM z p (.chan I) (bK X) V) h;obtain⟨f,cY,q,n8,w8,x,y,rN,γ,A8,L8,g8⟩:=RF (i0:=0) (sl:=0) (a:=9) (b:=10) (c:=11) (rest:=[]) (LH.alike A) (RH.alike A) eI h o fN (λm _=>by rw[qn];rfl) (by simp[gF,bO];omega) (by simp[gF,bO];omega) (by simp[gF,bO];omega) ai ai ai ai ai ai g7;rw[aqs]at L8 g8;rw[ZR z p _ rfl]at rN;obtain⟨n9,L9,g9⟩:=g8.quiet 2 (ZS V _ _) h;obtain⟨D9,nT⟩:=DT (bb:=q) g9 h (aqa z p (bK X) (ay f.D) (cV f) (.bool q) U);have nX:=g9.mF nT h;obtain⟨ζ,yS,AB⟩:=nX.quiet 2 (ZT V _) h;have r:gF z p [(7,bK X),(8,.bool U),(9,ay f.D),(10,cV f),(11,.bool q)]=q3 (ov (cN z.t p) [(7,bK X),(8,.bool U),(9,ay f.D),(10,cV f),(11,.bool q)]) z.l p (ay f.D) (cV f):=ZP _ _;have j5:=(((((LS.trans L6).trans L7).trans L8).trans L9).trans nT).trans yS;rw[r]at j5 AB;exact⟨f,cY,rN D9,_,_,w8,ha,hb,x,y,LH,RH,A.trans A8,γ,j5,AB⟩
 ·
  obtain⟨n6,L6,g6⟩:=g5.quiet 3 (ap5 z p (bK X) V f.D) h;obtain⟨n7,L7,g7⟩:=g6.quiet 2 (apN z p (ay f.D) (bK X) V) h;have o0:vh[0]?=Z (aO 12 (.fieldAddr 109 (tm 0) 8)):=by kernel_rfl
  have o1:vh[1]?=Z (aO 12 (.load 99 (tm 12))):=by kernel_rfl
  have o2:vh[2]?=Z (aO 10 (.recv 100 (tm 9) Y)):=by kernel_rfl
  have o3:vh[3]?=Z (aO 11 (.field 50 (tm 10) 0)):=by kernel_rfl
  have o4:vh[4]?=Z (aO 11 (.binOp .eql 39 (tm 11) (tm 0) 39)):=by kernel_rfl
  have e0:cu (bJ ⟨55,gF z p [(7,bK X),(8,.bool Y),(9,ay f.D)],[],[],.run,.normal,I⟩) (aO 12 (.fieldAddr 109 (tm 0) 8))=(do pure (.value (<-sH 109 p 8))):=by rw[Lv,ZR z p _ rfl]
  rcases Ly s p 8 9 (.inl ⟨rfl,rfl⟩)with⟨v,⟨K,Em,rfl⟩,a8⟩|de
  case inr=>exact(qI o eI fN Xm o0 e0 de g7).elim
  obtain⟨L8,g8⟩:=rF o h o0 e0 a8 g7;have B:cu (bJ ⟨55,(gF z p [(7,bK X),(8,.bool Y),(9,ay f.D)]).setIfInBounds 12 (.pointer (Z (K.add 9))),[],[],.run,.normal,I⟩) (aO 12 (.load 99 (tm 12)))=(do pure (.value (<-sI 99 (.pointer (Z (K.add 9)))))):=by rw[Pg,aqd]
  rcases RD UP (.pointer (Z (K.add 9))) (RH.alike A)with⟨v1,⟨ε,I6,rP⟩,QK⟩|de
  case inr=>exact(qI o eI fN Xm o1 B de g8).elim
  cases I6;obtain⟨L9,g9⟩:=rF o h o1 B QK g8;have ls:=LH.s f cY;obtain⟨sa,sb,hD⟩:=ls.lone;obtain⟨H,J,Ca⟩:=A.m7 hD;have j:fQ LL (cu (bJ ⟨55,((gF z p [(7,bK X),(8,.bool Y),(9,ay f.D)]).setIfInBounds 12 (.pointer (Z (K.add 9)))).setIfInBounds 12 v1,[],[],.run,.normal,I⟩) (aO 10 (.recv 100 (tm 9) Y)))=Z (.comm #[{chan:=ay f.D,send:=I,zero:=.agg #[]}] U (.recv Y)):=by kernel_rfl
  obtain⟨c,l,k,M,a,b,N,f1,f2,f3⟩:=zP o h o2 j g9;cases f1;rw[Ca]at f2;cases f2;obtain⟨_,nT,nX⟩:=f3 F;have nT:eV LL _ ⟨aV 55 ((((gF z p [(7,bK X),(8,.bool Y),(9,ay f.D)]).setIfInBounds 12 (.pointer (Z (K.add 9)))).setIfInBounds 12 v1).setIfInBounds 10 (cV f)) vh [3,4] [.code zM] [] .normal,V,s.setChan f.D 2 #[] Y H (J+1) Y⟩ 1:=nT;have nX:Good LL R ⟨aV 55 ((((gF z p [(7,bK X),(8,.bool Y),(9,ay f.D)]).setIfInBounds 12 (.pointer (Z (K.add 9)))).setIfInBounds 12 v1).setIfInBounds 10 (cV f)) vh [3,4] [.code zM] [] .normal,V,s.setChan f.D 2 #[] Y H (J+1) Y⟩:=nX;rw[aqt]at nT nX;have WH:=cZ Ca;have r:cu (bJ ⟨55,gF z p [(7,bK X),(8,.bool Y),(9,ay f.D),(10,cV f),(12,v1)],[],[],.run,.normal,I⟩) (aO 11 (.field 50 (tm 10) 0))=(do pure (.value (<-Instr.field 50 (cV f) 0))):=by rw[Pe,ap9]
  obtain⟨yS,AB⟩:=rF (v:=ptr f.S 0) o h o3 r (λτ e=>by kernel_rfl) nX;have e4:cu (bJ ⟨55,(gF z p [(7,bK X),(8,.bool Y),(9,ay f.D),(10,cV f),(12,v1)]).setIfInBounds 11 (ptr f.S 0),[],[],.run,.normal,I⟩) (aO 11 (.binOp .eql 39 (tm 11) (tm 0) 39))=(do pure (.value (<-(do kX .eql 39 (tm 11) (tm 0) (ptr f.S 0) p;binOp .eql 39 (ptr f.S 0) p)))):=by rw[agz,aqc,ap8]
  have XL:=RH.alike A;have RL:∃c:af ag,c.size=10/\(s.setChan f.D 2 #[] Y H (J+1) Y).heap[f.S]?=Z (.cells c 109):=by
   obtain⟨cc,h1,h2⟩:=(ls.alike A).K8 XL;refine⟨cc,h1,?_⟩;rw[heap_setChan _ WH,if_neg (λe=>by rw[e,Ca]at h2;cases h2)];exact h2
  have Jm:∀β,p=.pointer (Z β)->oT (s.setChan f.D 2 #[] Y H (J+1) Y) β=Y:=λβ hb=>by
   rw[Em]at hb;cases hb;obtain⟨cc,ty,fz,h1,_,h3,_⟩:=kK rP;have h1:s.heap[K.block]?=Z (.cells cc ty fz):=h1;have h9:(s.setChan f.D 2 #[] Y H (J+1) Y).heap[K.block]?=Z (.cells cc ty fz):=by
    rw[heap_setChan _ WH,if_neg (λe=>by rw[e,Ca]at h1;cases h1)];exact h1
   unfold oT fD;rw[h9];obtain⟨nn,hn⟩:∃nn,cc.size=nn+1:=⟨cc.size-1,by omega⟩;simp only[hn]
  rcases VW RL p Jm (tm 11) (tm 0)with⟨v,⟨q,rfl,rN⟩,QL⟩|de
  case inr=>exact(qI (w:=s.setChan f.D 2 #[] Y H (J+1) Y) o eI fN (λτ e=>(show iY ak (s.setChan f.D 2 #[] Y H (J+1) Y)from(XL.sd Ca).tk)) o4 e4 de AB).elim
  obtain⟨FJ,DO⟩:=rF o h o4 e4 QL AB;rw[aqp]at FJ DO;obtain⟨η,Dq,DR⟩:=DO.quiet 2 (ZS V _ _) h;obtain⟨D9,FK⟩:=DT (bb:=q) DR h (aqb z p (bK X) (ay f.D) (cV f) (.bool q) v1 Y);have Gf:=DR.mF FK h;obtain⟨θ,FL,LF⟩:=Gf.quiet 2 (ZT V _) h;have e5:gF z p [(7,bK X),(8,.bool Y),(9,ay f.D),(10,cV f),(11,.bool q),(12,v1)]=q3 (ov (cN z.t p) [(7,bK X),(8,.bool Y),(9,ay f.D),(10,cV f),(11,.bool q),(12,v1)]) z.l p (ay f.D) (cV f):=ZP _ _;have j5:=(((((((((LS.trans L6).trans L7).trans L8).trans L9).trans nT).trans yS).trans FJ).trans Dq).trans FK).trans FL;rw[e5]at j5 LF;exact⟨f,cY,rN D9,_,_,s,ha,hb,H,J,LH,RH,A,Ca,j5,LF⟩
end
end
end Go.Proofs.YtgahemdblfapeaaGreatDoor
