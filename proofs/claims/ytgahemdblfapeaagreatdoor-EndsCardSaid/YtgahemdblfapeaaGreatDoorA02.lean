/- Helper lemmas, part 2: what the steps of the program do in the model; each holds under its own hypotheses. -/
import Derived.Test.YtgahemdblfapeaaGreatDoorA01
set_option maxRecDepth 100000
set_option maxHeartbeats 4000000
set_option linter.all false
namespace Go.Proofs.YtgahemdblfapeaaGreatDoor
open Go.Conc
open _root_.Array renaming ext_getElem?→zB,getD_eq_getD_getElem?→nJ,getElem?_eq_getElem→xY,getElem?_eq_none_iff→Ef,getElem?_eq_some_iff→iy,getElem?_modify→Gm,getElem?_push→Gn,getElem?_setIfInBounds→uF,getElem?_setIfInBounds_ne→iK,replicate→qa,size_setIfInBounds→ra
open _root_.Bool renaming and_eq_true→gT,false→Y,false_eq_true→hZ,false_ne_true→jL,not_eq_true'→Gp,true→U
open Go renaming Addr→aU,CallKind→dQ,Code→bH,Deferred→cz,Event→dR,Frame→aA,Func→dK,FuncId→cH,Goroutine→aH,Item→aJ,Machine→fT,Oper→bq,Operand→iP,Program→aD,Trace→ed,TypeId→aK,Value→ag,World→ax,callFunc→gC,commResult→rh,deafBehind→ia,doReturn→rW,eqGuard→lF,execOp→cN,getObj→j4,goInt→ai,runN→dG,runNT→iz,stepG→aE,undef→aB,unwind→lT
open Go.Conc renaming heap_setChan_ne→mT,heap_setChan_self→oQ,mem_seen→Cz,runNT_then→kK,runT_crowd_go→wQ,served→jx,woken→eP
open Go.Deferred renaming ofValue→Eg
open Go.Frame renaming enter→bO,eval→bR,finish→jw
open Go.GStep renaming after→mx
open Go.Instr renaming fieldAt→tn,loadAt→uG
open Go.MemAct renaming ofEvent→gI,touch?→lS
open Go.MemOp renaming ofEvents→dk
open Go.Next renaming value→mR
open Go.Proofs.Tryz renaming prog→ak
open Go.Region renaming wanted→wO
open Go.Result renaming andThen→fy
open Go.Sem renaming run→bP,runT→nM,runT_eq→jN,runT_fst→ya,run_bind→oh,run_bind'→zI
open Go.Stepped.next renaming injEq→yc
open Go.World renaming cell?→fU,frozen?→qj,shape?→fF
open Go.stepG renaming apply→iA,exec→cf
open _root_.List renaming all_eq_true→Ei,getElem?_map→fW,map_cons→fw,mem_cons→bM,mem_toArray→ko,not_mem_nil→gV,range→qh
open _root_.Nat renaming add_assoc→zF,le_of_ble_eq_true→zH,le_refl→dt,le_succ→wM,le_trans→rU,lt_of_lt_of_le→pA,zero_add→uJ
open _root_.Option renaming bind_eq_some_iff→nj,bind_some→wN,getD_some→rV,isSome_iff_exists→A7,map_eq_some_iff→fX,map_some→jE,none→I,some→Z
open _root_.Option.some renaming injEq→gB
open _root_.Prod.mk renaming injEq→fN
section
variable {b r:Nat}{s:Sem Next}{d:Tmp}{α:Type}{g:aH}{t:aK}{a:aU}{c:af ag}{w:ax}{f:cH}
section
open Go.Conc (G)
section
variable {P:aD}{fs:af dK}{Hid:Loc->Prop}{Spec:Wh->ae aJ->ae aJ->bH->bH->Prop}{E:aA->ae aA->aA->ae aA->Prop}{R:ag->ax->Prop}
variable {V:Bool}{X T:ae aA}{w W:ax}
theorem atv(w)(t b)(d a):re (re w t d) b a=re w b a:=rfl
theorem atw(w):re w w.tape w.drawn=w:=rfl
theorem Rel.re{fx}(h:Rel fx Hid w W)(t)(d):Rel fx Hid (re w t d) (re W t d):=⟨h.size,F,F,h.os,h.output,h.obj,h.m9,h.pM⟩
theorem fG.GV{a c}(h:fG P Spec a c):tw P a:=by
 obtain⟨t,rfl,k,j,n⟩:=h;obtain⟨m,g,i,b,f,d,o⟩:=c;refine⟨j.defers,?_,λl e=>?_⟩
 ·
  cases k with
  |nil=>rfl
  |cons h _=>cases h<;>rfl
 ·simp_all
structure Ep(P L:aD)(E:aA->ae aA->aA->ae aA->Prop):Prop where
 mode:∀a' l' a l,E a' l' a l->a'.mode=.run/\a.mode=.run
 below:∀a' l' a l,E a' l' a l->Below P L (a'::l')
 ne:∀a' l' a l,E a' l' a l->l'≠[]
theorem mW.belows(hE:Ep P (Lo P fs) E){a c}(h:mW P Spec (hY (Lo P fs)) E a X c T):Below P (Lo P fs) X:=by
 induction h with
 |CX=>exact .last
 |under h d e=>exact .cons d.fr.GV e
 |bound h f b=>exact hE.below _ _ _ _ b
theorem mW.ne{a b}(h:mW P Spec (hY (Lo P fs)) E a X b T):X≠[]:=by cases h<;>simp
theorem mW.last(hE:Ep P (Lo P fs) E){a d c}(h:mW P Spec (hY (Lo P fs)) E a [c] d T):T=[]:=by
 cases h with
 |CX=>rfl
 |under h e=>exact absurd F e.ne
 |bound h f b=>exact absurd F (hE.ne _ _ _ _ b)
theorem tF.tY(h:tF (bS P) w):iW P w:=λb c a=>h b _ a
theorem apg{p}{k a}{j}{m}{t}{d}{τ}{δ}(h:Bh p k X (re w t d) a j m)(s:∀i q,t (d+i) q=τ (δ+i) q):∃n c,m=re c t (d+n)/\WC p ⟨k,X,re w τ δ⟩ ⟨a,j,re c τ (δ+n)⟩ 1 n/\∃es,aE p U (G k X) (re w τ δ)=dZ a j (re c τ (δ+n)) es:=by
 obtain⟨n,c,o,r⟩:=h;have g:∀b f,(∀i,i<n->∀q,b (f+i) q=τ (δ+i) q)->∃es,aE p U (G k X) (re w b f)=dZ a j (re c b (f+n)) es:=λb f l=>by
  obtain⟨es,e⟩:=r b _ λi u q=>by rw[l i u q];exact(s i q).symm
  exact⟨es,e⟩
 refine⟨n,c,o,λb f l=>?_,g _ _ λ_ _ _=>rfl⟩;obtain⟨es,e⟩:=g _ _ l;have:=fe e;simp only[dG,ik.on,atv];rw[this]
theorem ar2(L:Qo P fs Spec Hid)(hE:Ep P (Lo P fs) E)(O:Jc P (Lo P fs) R){a p}(j:mW P Spec (hY (Lo P fs)) E a X p T)(hr:Rel (bS P) Hid w W)
  (jA:¬LB Spec a p)(z:¬over p T)(hg:afk (Lo P fs) R ⟨a,X,w⟩):
  ∃A B f n,WC (Lo P fs) ⟨a,X,w⟩ ⟨A,B,f⟩ 1 n/\∃k iC y us,aE P V (G p T) W=dZ k iC y us/\GM P fs Spec (hY (Lo P fs)) E A B k iC/\Rel (bS P) Hid f y/\iS w W f y/\∀e∈us,rk Hid f.heap.size e:=by
 obtain⟨t,d,kV,K,m',c,r⟩:=hg;simp only[ik.on]at kV c;have M:=ac7 (main:=V) L hE.mode j (hr.re t d) jA z;cases K with
 |zero=>
  exfalso;simp only[dG,yc]at c;subst c;obtain⟨C,w2,v,S,s,_⟩:=r;have iZ:a=C:=by
   have:=congrArg (λm:fT=>(m.gs[0]?).map (·.frame)) S;simpa[lone]using this
  have l7:X=[hY (Lo P fs)]:=by
   have:=congrArg (λm:fT=>(m.gs[0]?).map (·.callers)) S;simpa[lone]using this
  subst iZ l7;refine z ⟨j.last hE,?_,?_⟩
  ·obtain⟨x,rfl,_⟩:=j.fr;exact s.1
  ·obtain⟨x,rfl,_⟩:=j.fr;exact s.2.1
 |succ K=>
  simp only[dG]at c;rcases M.1 with⟨A,B,f,N,e⟩|⟨o,f,N,e⟩|⟨g,f,N,e,Q⟩
  ·have D:=fe e
   rw[D]at c;rcases M.2 _ _ _ _ e with⟨ru,C,vs,u,rfl,J,rfl,H⟩|⟨s,_⟩
   ·exact absurd r (QB O _ _ _ _ _ (.top (u.GV.raise J) (raise_mode .. ) (j.belows hE)) H.tY c)
   ·obtain⟨n,w0,rfl,hL,JA,l⟩:=apg s (λi q=>kV i q)
    rw[atw]at hL l;have HG:=ac7 (main:=V) L hE.mode j hr jA z;rcases HG.2 _ _ _ _ l with⟨ru,C,vs,u,rfl,J,rfl,H⟩|⟨_,Oc⟩
    ·exact absurd r (QB O _ _ _ (YtgahemdblfapeaaGreatDoor.re w0 t (d+n)) _ (.top (u.GV.raise J) (raise_mode .. ) (j.belows hE)) (λb ds hb=>H.tY b _ hb) c)
    ·grind
  ·exfalso
   obtain⟨o2,w2,l⟩:=Cq (by rw[e];rfl);rw[l]at c;cases c
  ·exfalso
   have Kg:g.status≠.finished:=by
    rcases Q with⟨h,_⟩|⟨h,_⟩|⟨h,_⟩<;>rw[h]<;>simp
   have D:step (Lo P fs) (lone a X (re w t d))=.next (lu g f):=LG rfl e Kg
   rw[D]at c;exact QS Q ⟨K,m',c,r⟩
end
end
section
open Go.Conc (G scase rcase)
section
variable {P:aD}{fs:af dK}{L:aD}{R:ag->ax->Prop}{x y z:ik}{a:Nat->Question->Nat}
def fA(L:aD)(x y:ik)(k:Nat):Prop:=∀t d,dG L k (x.on t d)=.next (y.on t d)
theorem fA.refl:fA L x x 0:=λ_ _=>rfl
theorem fA.trans{k m:Nat}(h:fA L x y k)(b:fA L y z m):fA L x z (k+m):=λt d=>by rw[wc (h t d)];exact b t d
theorem fA.wy{k:Nat}(h:fA L x y k):ku L x y k 0 a:=λt d _=>h t d
theorem ku.trans{k m n l:Nat}{b:Nat->Question->Nat}(h:ku L x y k n a)(f:ku L y z m l b):ku L x z (k+m) (n+l) (λi=>if i<n then a i else b (i-n)):=λt d e=>by
 rw[wc (h t d λi c q=>by rw[e i ah];simp[c])]
 have:=f t (d+n) λi c q=>by rw[zF,e (n+i) ah];have g:¬(n+i<n):=by omega
                            simp[g]
 rw[zF]at this;exact this
def Good(L:aD)(R:ag->ax->Prop)(x:ik):Prop:=∀a,Mn L R x a
theorem O'{m m1:fT}{k:Nat}(p:Reach L R m)(h:dG L k m=.next m1)(l:∀fr w,m1≠lone fr [] w):Reach L R m1:=by
 obtain⟨n,q,c,d⟩:=p;have j:k<=n:=by
  refine Nat.le_of_not_lt λaC=>?_;obtain⟨fr,w,o,r,e,f⟩:=d.ends;by_cases i:k=n+1
  ·rw[i,wc c,e]at h
   exact l fr w (Stepped.next.inj h).symm
  ·obtain⟨b,g⟩:∃b,k=n+2+b:=⟨k-(n+2),by omega⟩
   rw[g,runN_ended (o:=o) (w:=r)]at h
   ·cases h
   ·rw[wc c,f]
 obtain⟨b,rfl⟩:∃b,n=k+b:=⟨n-k,by omega⟩;rw[wc h]at c;exact⟨b,q,c,d⟩
theorem abP(b:y.cs≠[]){t:Nat->Question->Nat}{d:Nat}(fr:aA)(w:ax):y.on t d≠lone fr [] w:=λe=>b (by
 have:=congrArg (λm:fT=>(m.gs[0]?).map (·.callers)) e;simpa[ik.on,lone]using this)
theorem Good.mL(b:Good L R x){k:Nat}(h:fA L x y k)(f:y.cs≠[]):Good L R y:=λa=>by
 obtain⟨t,d,e,c⟩:=b a;exact⟨t,d,e,O' c (h t d) (abP f)⟩
theorem Good.wy(e:Good L R x){k n:Nat}(h:ku L x y k n a)(j:y.cs≠[]):Good L R y:=λb=>by
 obtain⟨t,d,c,g⟩:=e (λi=>if i<n then a i else b (i-n));refine⟨t,d+n,λi q=>?_,O' g (h t d λi f q=>by rw[c];simp[f]) (abP j)⟩;rw[zF,c];have l:¬(n+i<n):=by omega
 simp[l]
theorem Ow:∀(k:Nat)(fr:aA)(cs:ae aA)(w:ax),∃m,fA L ⟨fr,cs,w⟩ ⟨(aN L k (G fr cs)).frame,(aN L k (G fr cs)).callers,w⟩ m/\G (aN L k (G fr cs)).frame (aN L k (G fr cs)).callers=aN L k (G fr cs):=by
 intro k;induction k with
 |zero=>intro fr cs w;exact⟨0,fA.refl,F⟩
 |succ k i=>
  intro fr cs w;unfold aN;cases b:oM L (G fr cs)with
  |none=>exact⟨0,fA.refl,F⟩
  |some e=>
   obtain⟨t,c,rfl⟩:∃t c,e=G t c:=as8 b;obtain⟨m,f,g⟩:=i t c w;refine⟨1+m,fA.trans (y:=⟨t,c,w⟩) (λτ d=>?_) f,g⟩;have:=fe (L:=L) (fr:=fr) (cs:=cs) (t:=t) (c:=c) (w:=re w τ d) (w':=re w τ d) (es:=#[]) ((D4 (main:=U) b).2 _);simp only[ik.on,dG,this]
where as8 {fr:aA} {cs:ae aA} {e:aH} (b:oM L (G fr cs)=Z e):∃t c,e=G t c:=by
       have j:=(D4 (main:=U) b).2 default;unfold oM at b;split at b
       ·dsimp only at b
        repeat' split at b
        all_goals first|(cases b;done)|(cases b;exact⟨_,_,rfl⟩)|skip
        all_goals first|(obtain⟨x,l,h⟩:=nj.1 b;cases h;exact⟨_,_,rfl⟩)
       · repeat' split at b
         all_goals first|(cases b;done)|(cases b;exact⟨_,_,rfl⟩)
       ·cases b
theorem Good.quiet(c:Good L R x)(k:Nat){fr:aA}{cs:ae aA}(h:aN L k (G x.fr x.cs)=G fr cs)(d:cs≠[]):∃m,fA L x ⟨fr,cs,x.w⟩ m/\Good L R ⟨fr,cs,x.w⟩:=by
 obtain⟨m,b,_⟩:=Ow (L:=L) k x.fr x.cs x.w;rw[h]at b;exact⟨m,b,c.mL b d⟩
end
section
variable {P:aD}{fs:af dK}{R:ag->ax->Prop}{fr:aA}{cs:ae aA}{w:ax}
theorem aaR(B:yn P fs)(W:Jc P (Lo P fs) R)(hs:eV (Lo P fs) (G fr cs)=Z s)(uP:tw P fr)(O:Below P (Lo P fs) cs){t:Nat->Question->Nat}{d:Nat}(hg:Reach (Lo P fs) R ((⟨fr,cs,w⟩:ik).on t d)){x:Halt}{K:ax}(A:s.run (Lo P fs) (re w t d)=.halt x K)(hk:iW P K):False:=by
 obtain⟨n,m',l,u⟩:=hg;obtain⟨p,f,j,i,rest,k,b,c,r,o,e,bj,J,hw,V⟩:=ze hs;cases e;have Q:bR ⟨p,f,.inRegion j (i::rest)::k,b,.run,c,I⟩=bR ⟨p,f,[],b,.run,c,I⟩:=funext λx=>by cases x<;>rfl
 have step:aE (Lo P fs) U (G ⟨p,f,.inRegion j (i::rest)::k,b,.run,c,I⟩ cs) (re w t d)=iA (Lo P fs) U ⟨p,f,.inRegion j (i::rest)::k,b,.run,c,I⟩ cs I s (re w t d):=by
  simp only[G,aE,cf,J,jE,hw,rV,if_true];unfold stepG.oper;simp only[Frame.oper?,J,Q,V]
 have C:=Px (fr':=⟨p,f,.inRegion j (i::rest)::k,b,.run,c,I⟩) (cs':=cs) B A;rw[<-step]at C;cases n with
 |zero=>
  simp only[dG,yc]at l;subst l;obtain⟨S,q,v,X,hl,_⟩:=u;have H:=congrArg (λm:fT=>(m.gs[0]?).map (·.frame.mode)) X;simp only[ik.on,lone]at H;have:S.mode=.run:=by simpa using H.symm
  rw[hl.1]at this;cases this
 |succ n=>
  simp only[dG,ik.on]at l;rcases C with⟨dF,dw,q,D,e⟩|⟨o2,q,D,e⟩|⟨g,q,D,e,E⟩
  ·rw[fe e]at l
   rw[step]at e;obtain⟨vs,rfl,hv,rfl,rfl⟩:=NF B A e;exact QB W n _ _ _ _ (.top (uP.raise hv) (raise_mode _ _) O) hk l u
  ·obtain⟨o3,w3,N⟩:=Cq (L:=Lo P fs) (fr:=⟨p,f,.inRegion j (i::rest)::k,b,.run,c,I⟩) (cs:=cs) (w:=re w t d) (by rw[e];rfl)
   rw[N]at l;cases l
  ·have M:g.status≠.finished:=by
    rcases E with⟨h,_⟩|⟨h,_⟩|⟨h,_⟩<;>rw[h]<;>simp
   have T:Go.step (Lo P fs) (lone ⟨p,f,.inRegion j (i::rest)::k,b,.run,c,I⟩ cs (re w t d))=.next (lu g q):=LG (g:=G ⟨p,f,.inRegion j (i::rest)::k,b,.run,c,I⟩ cs) rfl e M
   rw[T]at l;exact QS E ⟨n,m',l,u⟩
theorem DN(e:yn P fs)(g:Jc P (Lo P fs) R)(l:eV (Lo P fs) (G fr cs)=Z s)(m:tw P fr)(f:Below P (Lo P fs) cs)(h:Good (Lo P fs) R ⟨fr,cs,w⟩)(i:∀t d,∃x b,s.run (Lo P fs) (re w t d)=.halt x b/\iW P b):False:=by
 obtain⟨t,d,_,k⟩:=h (λ_ _=>0);obtain⟨x,b,c,j⟩:=i t d;exact aaR e g l m f k c j
theorem DO{L:aD}{n:Next}{g':aH}{w1:ax}(D:eV L (G fr cs)=Z s)(B:mj L (G fr cs) n=Z g')(C:∀t d,s.run L (re w t d)=.ok n (re w1 t d)):fA L ⟨fr,cs,w⟩ ⟨g'.frame,g'.callers,w1⟩ 1:=λt d=>by
 have p:s.runT L (re w t d) #[]=(.ok n (re w1 t d),s.events L (re w t d) #[]):=by rw[jN,C]
 obtain⟨j,f,g,i,rest,k,b,c,r,o,e,J,m,E,v⟩:=ze D;cases e;obtain⟨⟨H,q⟩,l,A⟩:=fX.1 B;cases A;have u:bR ⟨j,f,.inRegion g (i::rest)::k,b,.run,c,I⟩=bR ⟨j,f,[],b,.run,c,I⟩:=funext λx=>by cases x<;>rfl
 have step:aE L U (G ⟨j,f,.inRegion g (i::rest)::k,b,.run,c,I⟩ cs) (re w t d)=iA L U ⟨j,f,.inRegion g (i::rest)::k,b,.run,c,I⟩ cs I s (re w t d):=by
  simp only[G,aE,cf,m,jE,E,rV,if_true];unfold stepG.oper;simp only[Frame.oper?,m,u,v]
 have h:∃es,aE L U (G ⟨j,f,.inRegion g (i::rest)::k,b,.run,c,I⟩ cs) (re w t d)=dZ H q (re w1 t d) es:=by
  rw[step];unfold iA;simp only[if_true,p];cases n<;>simp only[CQ,gB,fN,reduceCtorEq]at l<;>obtain⟨rfl,rfl⟩:=l<;>exact⟨_,F⟩
 obtain⟨es,h⟩:=h;simp only[dG,ik.on];rw[fe h]
theorem M0{L:aD}{cases:af CommCase}{b:Bool}{shape:CommShape}(q:eV L (G fr cs)=Z s)(p:fR L s=Z (.comm cases b shape))(w:ax):aE L U (G fr cs) w=.comm (G fr cs) cases b shape w #[]:=by
 obtain⟨h,f,g,i,rest,k,c,d,l,o,e,t,j,r,n⟩:=ze q;cases e;have m:bR ⟨h,f,.inRegion g (i::rest)::k,c,.run,d,I⟩=bR ⟨h,f,[],c,.run,d,I⟩:=funext λx=>by cases x<;>rfl
 have step:aE L U (G ⟨h,f,.inRegion g (i::rest)::k,c,.run,d,I⟩ cs) w=iA L U ⟨h,f,.inRegion g (i::rest)::k,c,.run,d,I⟩ cs I s w:=by
  simp only[G,aE,cf,j,jE,r,rV,if_true];unfold stepG.oper;simp only[Frame.oper?,j,m,n]
 rw[step];unfold iA;simp only[if_true,Ch p w #[]];simp[Go.Conc.seen_none,mx,G]
theorem Lk{L:aD}{R:ag->ax->Prop}{fr:aA}{cs:ae aA}{w:ax}(h:Reach L R (lone fr cs w))(j:fr.mode=.run):∃c,step L (lone fr cs w)=.next c/\Reach L R c:=by
 obtain⟨n,k,b,e⟩:=h;cases n with
 |zero=>
  simp only[dG,yc]at b;subst b;obtain⟨d,l,v,g,i,_⟩:=e;have f:=congrArg (λm:fT=>(m.gs[0]?).map (·.frame.mode)) g;simp only[lone]at f;have:d.mode=.run:=by
   have:fr.mode=d.mode:=by simpa using f
   rw[<-this];exact j
  rw[i.1]at this;cases this
 |succ n=>
  simp only[dG]at b;cases hs:step L (lone fr cs w)with
  |next c=>rw[hs]at b;exact⟨c,F,n,k,b,e⟩
  |ended o l=>rw[hs]at b;cases b
theorem abQ{L:aD}(g:eV L (G fr cs)=Z s):fr.mode=.run:=by
 obtain⟨j,d,h,i,rest,k,b,c,f,o,e,_⟩:=ze g;cases e;rfl
theorem MZ{L:aD}{cases:af CommCase}{b:Bool}{shape:CommShape}{w:ax}{es:af dR}(h:aE L U (G fr cs) w=.comm g cases b shape w es){o:Outcome}{w2:ax}(e:∀c,(communicate L {timers:=#[],alone:=I,slice:=I} c 0 g cases b shape w).1=.ended o w2):step L (lone fr cs w)=.ended o w2:=by
 have d:aE L U {frame:=fr,callers:=cs,status:=.running,dying:=I} w=.comm g cases b shape w es:=h;rw[step,stepT,move_lone];simp[runT,lone,Array.swapAt!,d,e]
theorem MY{L:aD}{cases:af CommCase}{shape:CommShape}{w:ax}{es:af dR}(h:aE L U (G fr cs) w=.comm g cases U shape w es)
  (b:∀c:af aH,(communicate L {timers:=#[],alone:=I,slice:=I} #[{(default:aH)with status:=.finished}] 0 g cases U shape w).1=.next {world:=w,gs:=#[{g with status:=.blocked,offers:=Z (cases,shape)}],rest:={timers:=#[],alone:=I,slice:=I}}):
  step L (lone fr cs w)=.next (lu {g with status:=.blocked,offers:=Z (cases,shape)} w):=by
 have d:aE L U {frame:=fr,callers:=cs,status:=.running,dying:=I} w=.comm g cases U shape w es:=h;have b:=b #[];rw[step,stepT,move_lone];simp[runT,lone,Array.swapAt!,d,b,lu]
theorem TU{L:aD}{v z:ag}{R:ag->ax->Prop}(E:eV L (G fr cs)=Z s)(T:fR L s=Z (.comm #[{chan:=v,send:=I,zero:=z}] U (.recv Y)))(S:Good L R ⟨fr,cs,w⟩):∃c i f j a b tm,v=.chan (Z c)/\w.heap[c]?=Z (.chan i f j a b tm)/\(j=Y->0<f.size/\fA L ⟨fr,cs,w⟩ ⟨fr.finish (f.getD 0 aB),cs,w.setChan c i (f.extract 1 f.size) Y a (b+1) tm⟩ 1):=by
 have l:=M0 E T;obtain⟨t,d,_,B⟩:=S (λ_ _=>0);obtain⟨J,u,D⟩:=Lk B (abQ E);have W:=u;by_cases H:∃c i f j a b tm,v=.chan (Z c)/\w.heap[c]?=Z (.chan i f j a b tm)
 ·obtain⟨c,i,f,j,a,b,tm,rfl,A⟩:=H
  refine⟨c,i,f,j,a,b,tm,F,A,λe=>?_⟩;subst e;have C:0<f.size:=by
   refine Nat.pos_of_ne_zero λN=>?_;have p:f=#[]:=Array.eq_empty_of_size_eq_zero N;subst p;have:=MY (l (re w t d)) (λ_=>by
    have V:(re w t d).heap[c]?=Z (.chan i #[] Y a b tm):=A;simp[communicate,ways,V,partners,waitingAt,timerAhead])
   have k:step L (lone fr cs (re w t d))=.next J:=u
   rw[this]at k;cases k;exact MN F D
  refine⟨C,λt d=>?_⟩;have:=Go.Conc.step_lone_recv_buf Y (l (re w t d)) (c:=c) (cap:=i) (buf:=f) (closed:=Y) (s:=a) (r:=b) (tm:=tm) A C;simp only[ik.on,dG];rw[show lone fr cs (re w t d)=Go.Conc.solo (G fr cs) (re w t d)from F,this];rfl
 ·exfalso
  have k:step L (lone fr cs (re w t d))=.next J:=u
  cases v with
  |chan o=>
   cases o with
   |none=>
    have:=MY (l (re w t d)) (λ_=>by simp[communicate,ways,partners,waitingAt,timerAhead]);rw[this]at k;cases k;exact MN F D
   |some c=>
    have X:∀i f j a b tm,(re w t d).heap[c]?≠Z (.chan i f j a b tm):=λi f j a b tm h=>H ⟨c,i,f,j,a,b,tm,F,h⟩;have:=MZ (l (re w t d)) (o:=.stuck "a communication at a channel whose block is no channel's" ((G fr cs).frame.pos L)) (w2:=re w t d) (λM=>by
     unfold communicate;dsimp only
     rw[if_pos];simp only[List.any_toArray,List.any_cons,List.any_nil,Bool.or_false,Gp])
    rw[this]at k;cases k
  |_=>
   have:=MZ (l (re w t d)) (o:=.stuck "a communication at a channel whose block is no channel's" ((G fr cs).frame.pos L)) (w2:=re w t d) (λM=>by simp[communicate]);rw[this]at k;cases k
where MN {L:aD} {R:ag->ax->Prop} {g:aH} {w:ax} (p:g.status=.blocked) (B:Reach L R (lu g w)):False:=by
       obtain⟨n,m',q,Q⟩:=B;obtain⟨o,w',e⟩:=ad9 (L:=L) (w:=w) p;cases n with
       |zero=>
        simp only[dG,yc]at q;subst q;obtain⟨fp,K,v,O,_⟩:=Q;have:=congrArg (λm:fT=>(m.gs[0]?).map (·.status)) O;simp only[lu,lone]at this;have:g.status=.running:=by simpa using this
        rw[p]at this;cases this
       |succ n=>
        simp only[dG,e]at q;cases q
theorem apr{L:aD}{v x z:ag}{R:ag->ax->Prop}(u:eV L (G fr cs)=Z s)(H:fR L s=Z (.comm #[{chan:=v,send:=Z x,zero:=z}] U .send))(E:Good L R ⟨fr,cs,w⟩):∃c g f i a b tm,v=.chan (Z c)/\w.heap[c]?=Z (.chan g f i a b tm)/\(i=Y->f.size<g/\fA L ⟨fr,cs,w⟩ ⟨fr.finish aB,cs,w.setChan c g (f.push x) Y (a+1) b tm⟩ 1):=by
 have k:=M0 u H;obtain⟨t,d,_,J⟩:=E (λ_ _=>0);obtain⟨B,q,p⟩:=Lk J (abQ u);by_cases A:∃c g f i a b tm,v=.chan (Z c)/\w.heap[c]?=Z (.chan g f i a b tm)
 ·obtain⟨c,g,f,i,a,b,tm,rfl,m⟩:=A
  refine⟨c,g,f,i,a,b,tm,F,m,λe=>?_⟩;subst e;have n:f.size<g:=by
   refine Nat.lt_of_not_le λD=>?_;have l:¬(f.size<g):=Nat.not_lt.2 D;have:=MY (k (re w t d)) (λ_=>by
    have K:(re w t d).heap[c]?=Z (.chan g f Y a b tm):=m;simp[communicate,ways,K,partners,waitingAt,timerAhead,l])
   have j:step L (lone fr cs (re w t d))=.next B:=q
   rw[this]at j;cases j;exact TU.MN F p
  refine⟨n,λt d=>?_⟩;have:=Go.Conc.step_lone_send_room (z':=z) (v:=x) (k (re w t d)) (c:=c) (cap:=g) (buf:=f) (s:=a) (r:=b) (tm:=tm) m n;simp only[ik.on,dG];rw[show lone fr cs (re w t d)=Go.Conc.solo (G fr cs) (re w t d)from F,this];rfl
 ·exfalso
  have j:step L (lone fr cs (re w t d))=.next B:=q
  cases v with
  |chan o=>
   cases o with
   |none=>
    have:=MY (k (re w t d)) (λ_=>by simp[communicate,ways,partners,waitingAt,timerAhead]);rw[this]at j;cases j;exact TU.MN F p
   |some c=>
    have M:∀g f i a b tm,(re w t d).heap[c]?≠Z (.chan g f i a b tm):=λg f i a b tm h=>A ⟨c,g,f,i,a,b,tm,F,h⟩;have:=MZ (k (re w t d)) (o:=.stuck "a communication at a channel whose block is no channel's" ((G fr cs).frame.pos L)) (w2:=re w t d) (λC=>by
     unfold communicate;dsimp only
     rw[if_pos];simp only[List.any_toArray,List.any_cons,List.any_nil,Bool.or_false,Gp])
    rw[this]at j;cases j
  |_=>
   have:=MZ (k (re w t d)) (o:=.stuck "a communication at a channel whose block is no channel's" ((G fr cs).frame.pos L)) (w2:=re w t d) (λC=>by simp[communicate]);rw[this]at j;cases j
end
end
structure dU where
 g:Nat
 S:Nat
 W:Nat
 T:Nat
 D:Nat
 wb:Nat
 sb:Nat
abbrev ay(c:Nat):ag:=.chan (Z c)
abbrev bn(b o:Nat):aU:=⟨b,o,I⟩
structure wK(k:dU)(w:ax):Prop where
 work:eQ w (bn k.wb 0) (ay k.W) (Z (142,2))
 told:eQ w (bn k.wb 1) (ay k.T) (Z (142,2))
 store:eQ w (bn k.sb 0) (ptr k.S 0) (Z (39,1))
 done:eQ w (bn k.S 10) (ay k.D) (Z (109,14))
def uC(k:dU)(l:Loc):Prop:=l=.cell (bn k.wb 0)\/l=.cell (bn k.wb 1)\/l=.cell (bn k.sb 0)\/l=.cell (bn k.S 10)
def P5(k:dU)(l:Loc):Prop:=l=.cell (bn k.S 11)\/l=.cell (bn k.S 12)
def wrap:aA:={(default:aA)with fn:=225,defers:=[],mode:=.panicking [goexitEntry]}
def doneD(k:dU):cz:={target:=.fn (.func 95) #[],args:=#[ptr k.S 11]}
def MX(k:dU):aH:={frame:={(default:aA)with fn:=225,defers:=[{target:=.fn (.func 94) #[ptr k.sb 0,ptr k.wb 0],args:=#[]}],mode:=.panicking [goexitEntry]},callers:=[],status:=.running,dying:=I}
def azL(k:dU)(a:ag)(j:Fin 9->ag):af ag:=#[ptr k.sb 0,ptr k.wb 0,a,ptr k.S 0,ptr k.S 0,ptr k.S 11,ptr k.wb 0,ay k.W,ptr k.S 0,ptr k.S 0,ptr k.S 10,ay k.D,j 0,j 1,j 2,j 3,j 4,j 5,j 6,j 7,j 8]
def dW:dU:=⟨0,0,0,0,0,0,0⟩
def Ed(k:dU)(tm:af ag)(a:ae aJ):aA:=⟨94,tm,a,[doneD k],.run,.deferred,I⟩
theorem agZ(k)(w):aE ak Y (MX k) w=.go (G (bO ak 94 #[ptr k.sb 0,ptr k.wb 0] .deferred) [wrap]) w #[]:=al
def Way(P:aD)(X:Bool)(K:ax->Prop)(R:Loc->Prop)(B:Nat)(V:aH->Prop)(g:aH):Prop:=∃n,Goes P X (RK K) (DS R B) (λg _=>V g) n g default
section
variable {P:aD}{X:Bool}{K:ax->Prop}{R:Loc->Prop}{B:Nat}{V:aH->Prop}{g g':aH}
theorem ajL{n}{w d}(h:Goes P X (RK K) (DS R B) (λg _=>V g) n g w):Goes P X (RK K) (DS R B) (λg _=>V g) n g d:=by
 cases n with
 |zero=>exactλb a=>h _ a
 |succ n=>
  rcases h with h|⟨c,h⟩
  ·exact .inl λb a=>h _ a
  ·exact .inr ⟨c,λb a=>h _ a⟩
theorem Way.stop(h:V g):Way P X K R B V g:=⟨0,λ_ _=>h⟩
theorem Way.step{es}(d:g.status=.running)(h:∀w,K w->aE P X g w=.go g' w es)(a:∀e∈es,EvC R B e)(f:Way P X K R B V g'):Way P X K R B V g:=by
 obtain⟨n,c⟩:=f;refine⟨n+1,Goes.step d λw b=>?_⟩;rw[h w b];exact⟨⟨F,a⟩,ajL c⟩
theorem Way.quiet:∀(n)(g),Way P X K R B V (aN P n g)->Way P X K R B V g:=by
 intro n;induction n with
 |zero=>intro g h;exact h
 |succ n c=>
  intro g h;unfold aN at h;cases hq:oM P g with
  |none=>rw[hq]at h;exact h
  |some g'=>
   rw[hq]at h;obtain⟨a,b⟩:=D4 hq;exact Way.step a (λw _=>b w) ba (c _ h)
theorem Way.read{a}{v}{c}(d:(stage P c v g).map (λr=>r.2)=Z (v,[.ev ⟨.cell a,Y,Y⟩]))(j:∀w,K w->eQ w a v c)(k:R (.cell a))(i:a.block<B)(o:Way P X K R B V (gZ P c v g)):Way P X K R B V g:=by
 refine Way.quiet 400 g ?_;have n:=Cp d;obtain⟨f,h⟩:=xA n ⟨F,trivial⟩;refine Way.step (es:=seen P (aN P 400 g).frame.fn (dm [iR.ev ⟨.cell a,Y,Y⟩]).toArray) f (λw m=>?_) (λe l=>?_) o
 ·have b:=j w m
  rw[h w b.cell b.free b.shape,xQ b.cell]
 ·have:=mem_seen l
  simp only[dm,ko,bM,gV,or_false]at this;subst this;exact⟨a,F,k,i⟩
theorem Way.xR{s}(h:Way P X K R B (λg=>∃a,AtIn P X K R B s g a) g):∃n,Sits P X K R B s n g:=by
 obtain⟨n,b⟩:=h;exact⟨n+1,.inl ⟨n,default,F,b⟩⟩
end
noncomputable def auO:ae aJ:=(aN ak 400 (gZ ak (Z (109,14)) (ay 0) (gZ ak (Z (39,1)) (ptr 0 0) (gZ ak (Z (142,2)) (ay 0) (gZ ak (Z (39,1)) (ptr 0 0) (G (bO ak 94 #[ptr 0 0,ptr 0 0] .deferred) [wrap])))))).frame.todo
noncomputable def zn(k:dU)(a:ag)(j:Fin 9->ag):aH:=G (Ed k (azL k a j) auO) [wrap]
theorem auR(k):aN ak 400 (gZ ak (Z (109,14)) (ay k.D) (gZ ak (Z (39,1)) (ptr k.S 0) (gZ ak (Z (142,2)) (ay k.W) (gZ ak (Z (39,1)) (ptr k.S 0) (G (bO ak 94 #[ptr k.sb 0,ptr k.wb 0] .deferred) [wrap])))))=zn k aB (λ_=>aB):=al
def s9(k:dU):af CommCase:=#[rcase k.W .nilFunc,rcase k.D (.agg #[])]
theorem auQ(k)(a)(j)(w):aE ak Y (zn k a j) w=.comm (zn k a j) (s9 k) U .select w #[]:=al
def tS(k:Int)(b:Bool)(f:ag):ag:=.tuple #[ai k,.bool b,f,.agg #[]]
theorem ajQ(k)(f):rh (s9 k) .select 0 f U=tS 0 U f:=al
theorem ajR(k):rh (s9 k) .select 1 (.agg #[]) Y=tS 1 Y .nilFunc:=al
noncomputable def AX(k:dU)(a:ag)(j:Fin 9->ag)(v:ag):aH:=jx (zn k a j) v
noncomputable def v8:af bq:=match(aN ak 100 (AX dW .nilFunc (λ_=>.nilFunc) (tS 0 U .nilFunc))).frame.todo with
 |.code (.region _ a _)::_=>a
 |_=>#[]
noncomputable def FG:ae aJ:=match(aN ak 100 (AX dW .nilFunc (λ_=>.nilFunc) (tS 0 U .nilFunc))).frame.todo with
 |_::k=>k
 |_=>[]
def ayJ(k:dU)(f:ag)(j:Fin 4->ag):af ag:=#[ptr k.sb 0,ptr k.wb 0,f,ptr k.S 0,ptr k.S 0,ptr k.S 11,ptr k.wb 0,ay k.W,ptr k.S 0,ptr k.S 0,ptr k.S 10,ay k.D,tS 0 U f,ai 0,.bool U,.bool Y,f,j 0,j 1,j 2,j 3]
theorem ay2(k)(a)(j)(f):aN ak 100 (AX k a j (tS 0 U f))=G (Ed k (ayJ k f λi=>j ⟨i+5,by omega⟩) (.code (.region 5 v8 U)::FG)) [wrap]:=al
theorem aro:zT .any v8 v8.size (qa v8.size Y)=[[0,1,2,3,4],[0,2,1,3,4],[0,2,3,1,4],[2,0,1,3,4],[2,0,3,1,4],[2,3,0,1,4]]:=al
def GX(k:dU)(f x y z r:ag):af ag:=#[ptr k.sb 0,ptr k.wb 0,f,ptr k.S 0,ptr k.S 0,ptr k.S 11,ptr k.wb 0,ay k.W,ptr k.S 0,ptr k.S 0,ptr k.S 10,ay k.D,tS 0 U f,ai 0,.bool U,.bool Y,f,x,y,z,r]
noncomputable def cG(k:dU)(f x y z r:ag)(l:ae Nat):aH:=G (Ed k (GX k f x y z r) (.inRegion v8 l::FG)) [wrap]
inductive Gu(k:dU)(j:Fin 4->ag):ae Nat->ag->ag->Prop
 |all:Gu k j [4] (ptr k.wb 1) (ay k.T)
 |part:Gu k j [1,4] (ptr k.wb 1) (j 1)
 |none:Gu k j [0,1,4] (j 0) (j 1)
section
variable (k:dU)(f x y z r v:ag)
theorem stA:stage ak (Z (142,2)) (ay k.T) (cG k f x y z r [0,1,2,3,4])=Z (cG k f (ptr k.wb 1) (ay k.T) z r [2,3,4],ay k.T,[.ev ⟨.cell (bn k.wb 1),Y,Y⟩]):=al
theorem ax1:aN ak 1 (cG k f x y z r [2,3,4])=cG k f x y f r [3,4]:=al
theorem stB:stage ak (Z (142,2)) (ay k.T) (cG k f x y z r [0,2,1,3,4])=Z (cG k f (ptr k.wb 1) (ay k.T) f r [3,4],ay k.T,[.ev ⟨.cell (bn k.wb 1),Y,Y⟩]):=al
theorem stC:aN ak 2 (cG k f x y z r [0,2,3,1,4])=cG k f (ptr k.wb 1) y f r [3,1,4]:=al
theorem stD:stage ak (Z (142,2)) (ay k.T) (cG k f x y z r [2,0,1,3,4])=Z (cG k f (ptr k.wb 1) (ay k.T) f r [3,4],ay k.T,[.ev ⟨.cell (bn k.wb 1),Y,Y⟩]):=al
theorem stE:aN ak 2 (cG k f x y z r [2,0,3,1,4])=cG k f (ptr k.wb 1) y f r [3,1,4]:=al
theorem stF:aN ak 1 (cG k f x y z r [2,3,0,1,4])=cG k f x y f r [3,0,1,4]:=al
theorem af4:stage ak (Z (142,2)) (ay k.T) (cG k f (ptr k.wb 1) y z v [1,4])=Z (cG k f (ptr k.wb 1) (ay k.T) z v [4],ay k.T,[.ev ⟨.cell (bn k.wb 1),Y,Y⟩]):=al
theorem EJ(l):(Ed k (GX k f x y z r) (.inRegion v8 (3::l)::FG)).finish v=Ed k (GX k f x y z v) (.inRegion v8 l::FG):=al
theorem ayW(w):aE ak Y (cG k f x (ay k.T) z v [4]) w=.comm (cG k f x (ay k.T) z v [4]) #[scase k.T v (.tuple #[])] U .send w #[]:=al
theorem again:aN ak 400 (gZ ak (Z (109,14)) (ay k.D) (gZ ak (Z (39,1)) (ptr k.S 0) (gZ ak (Z (142,2)) (ay k.W) (jx (cG k f x y z v [4]) aB))))=zn k f (λi=>#[tS 0 U f,ai 0,.bool U,.bool Y,f,x,y,z,v].getD i aB):=al
end
theorem wK.QA{k:dU}{w b:ax}(h:wK k w)(a:AtRel w b):wK k b:=⟨h.work.at a,h.told.at a,h.store.at a,h.done.at a⟩
section
variable {P:aD}{W At:Nat->Loc->Prop}{X:Loc->Prop}{V:Nat->aj YS}{h d B n:Nat}{T:ed}{R:af aH}{w:ax}{q:Nat->Nat}
def dI(P:aD)(W At:Nat->Loc->Prop)(X:Loc->Prop)(V:Nat->aj YS)(h B n:Nat)(S:ax)(m:fT)(T:ed)(d:Nat)(Q:aH->Prop):Prop:=mX P W At X V h B n m T λb a c=>b=d/\Q a/\AtRel S c
section
variable {m:fT}{S:ax}{g g':aH}{Q O:aH->Prop}
theorem dI.begin{sl:aj (Nat×Nat)}(C:YH P W At X V h d B T R w q)(a:R[h]?=Z g):dI P W At X V h B R.size w (crowd R w sl) T d (·=g):=IW C a ⟨F,F,atRel_refl w⟩
theorem dI.mono(H:dI P W At X V h B n S m T d Q)(e:∀g,Q g->O g):dI P W At X V h B n S m T d O:=by
 obtain⟨N,i,u,f,a,t,c,b,j,k,l,o,p,r,s⟩:=H;exact⟨N,i,u,f,a,t,c,b,j,k,l,o,p,e _ r,s⟩
theorem dI.split(H:dI P W At X V h B n S m T d Q)(r:∀g,Q g->∀R w K a q,R.size=n->R[h]?=Z g->YH P W At X V h d B a R w q->AtRel S w->dI P W At X V h B n w (crowd R w K) a d O):dI P W At X V h B n S m T d O:=by
 refine mX.then H λE L jV e G d1 i k s c⟨o,p,b⟩=>?_;subst o;obtain⟨N,u,M,t,f,J,l,j,v,x,y,z,A,C,D⟩:=r i p E L jV e G k s c b;exact⟨N,u,M,t,f,J,l,j,v,x,y,z,A,C,atRel_trans _ _ _ b D⟩
theorem dI.quiet(H:dI P W At X V h B n S m T d (·=g))(k:Nat)(f:aN P k g=g'):dI P W At X V h B n S m T d (·=g'):=by
 refine H.split λa e R w sl i q b c C _=>?_;subst e;have:=YH.quiet C (sl:=sl) k c f;rw[b]at this;exact this
theorem dI.read(H:dI P W At X V h B n S m T d (·=g)){v:ag}{i:aj (aK×Nat)}(L:¬X (.cell a))(A:a.block<B)(G:eQ S a v i)(p:stage P i v g=Z (g',v,[.ev ⟨.cell a,Y,Y⟩])):dI P W At X V h B n S m T d (·=g'):=by
 have l:=H.quiet (g':=aN P 400 g) 400 F;refine l.split λx e R w k N q s E C K=>?_;subst e;have u:=G.at K;obtain⟨r,z⟩:=xA (main:=h==0) (show nY P i v (aN P 400 g)=Z (g',v,[.ev ⟨.cell a,Y,Y⟩])from p) ⟨F,trivial⟩;have:=C.told (sl:=k) E r (Q:=λt o M=>t=d/\o=g'/\AtRel w M) λf=>by
  have c:=u.at ⟨f,F⟩;refine⟨g',w.at f,_,(z _ c.cell c.free c.shape).trans (by rw[xQ c.cell]),⟨λ_ _ _ _ _=>rfl,λ_ _ _ J=>J,λe b=>?_⟩,?_,F,⟨f,F⟩⟩
  ·have b:=mem_seen b
   simp only[dm,ko,bM,gV,or_false]at b;subst b;refine⟨λy j=>?_,A⟩;simp only[gI,lS,gB]at j;subst j;exact⟨λ_ _=>rfl,λD=>absurd D L⟩
  ·refine deafBehind_still (λe b=>?_) _
   have b:=mem_seen b;simp only[dm,ko,bM,gV,or_false]at b;subst b;exact⟨by simp,by simp⟩
 rw[s]at this;exact this
theorem dI.still(H:dI P W At X V h B n S m T d (·=g))(k:g.status=.running)(j:∀w,∃g' a,aE P (h==0) g w=.go g' (w.at a) #[]/\Q g'):dI P W At X V h B n S m T d Q:=by
 refine H.split λx e R w c z q l s C A=>?_;subst e;have:=C.told (sl:=c) s k (Q:=λo f v=>o=d/\Q f/\AtRel w v) λa=>by
  obtain⟨g',b,p,r⟩:=j (w.at a);exact⟨g',(w.at a).at b,#[],p,⟨λ_ _ _ _ _=>rfl,λi y e u=>(C.yd.wf i y e).2.2.1 _ _ u,λe t=>by simp at t⟩,F,r,⟨b,F⟩⟩
 rw[l]at this;exact this
end
end
section
variable {W At:Nat->Loc->Prop}{X:Loc->Prop}{V:Nat->aj YS}{h d B n:Nat}{T:ed}{S:ax}{m:fT}
theorem ayZ(k:dU)(t:ag)(j:Fin 9->ag)(f:ag)(D:wK k S)(p:¬X (.cell (bn k.wb 1)))(b:k.wb<B)(H:dI ak W At X V h B n S m T 0 (·=AX k t j (tS 0 U f))):dI ak W At X V h B n S m T 0 (λg=>∃l x y r,Gu k (λi=>j ⟨i+5,by omega⟩) l x y/\g=cG k f x y f r (3::l)):=by
 have v:=H.quiet 100 (ay2 k t j f);have z:=v.still (Q:=λg=>∃o∈zT .any v8 v8.size (qa v8.size Y),g=cG k f (j 5) (j 6) (j 7) (j 8) o) F λw=>⟨_,_,G5 al w,_,Ps _ _,F⟩;refine z.split λg G R w u K q A E C J=>?_;obtain⟨o,c,rfl⟩:=G;have a:=dI.begin (sl:=u) C E;rw[A]at a;have s:=D.QA J;rw[aro]at c;simp only[bM,gV,or_false]at c;rcases c with rfl|rfl|rfl|rfl|rfl|rfl
 ·exact((a.read p b s.told (stA k f _ _ _ _)).quiet 1 (ax1 k f _ _ _ _)).mono λg e=>⟨_,_,_,_,.all,e⟩
 ·exact(a.read p b s.told (stB k f _ _ _ _)).mono λg e=>⟨_,_,_,_,.all,e⟩
 ·exact(a.quiet 2 (stC k f _ _ _ _)).mono λg e=>⟨_,_,_,_,.part,e⟩
 ·exact(a.read p b s.told (stD k f _ _ _ _)).mono λg e=>⟨_,_,_,_,.all,e⟩
 ·exact(a.quiet 2 (stE k f _ _ _ _)).mono λg e=>⟨_,_,_,_,.part,e⟩
 ·exact(a.quiet 1 (stF k f _ _ _ _)).mono λg e=>⟨_,_,_,_,.none,e⟩
end
noncomputable def px(k:dU):Seat:={cases:=s9 k,shape:=.select,home:=λg=>∃a j,g=zn k a j}
noncomputable def wY(k:dU)(B:Nat):YS:={s:=px k,own:=k.W,K:=wK k,St:=uC k,B:=B}
theorem GY{w}{a}{v}{g}(b:eQ w a v g){c cap s r}{buf}{cl tm}(l:∃o,w.heap[c]?=Z o/\o.isChan=U):eQ (w.setChan c cap buf cl s r tm) a v g:=by
 obtain⟨o,d,j⟩:=l;obtain⟨m,t,f,i,p,n,q⟩:=kQ b.cell;have h:c≠a.block:=λe=>by rw[e,i]at d;cases d;cases j
 have e:(w.setChan c cap buf cl s r tm).heap[a.block]?=w.heap[a.block]?:=mT w _ _ _ _ _ _ h;refine⟨?_,?_,?_⟩
 ·have:=b.cell
  unfold fU at this⊢;rw[e];exact this
 ·have:=b.free
  unfold qj at this⊢;rw[e];exact this
 ·have:=b.shape
  unfold fF at this⊢;rw[e];exact this
theorem wK.setChan{k}{w}(h:wK k w){c d s r}{b}{e tm}(a:∃o,w.heap[c]?=Z o/\o.isChan=U):wK k (w.setChan c d b e s r tm):=⟨GY h.work a,GY h.told a,GY h.store a,GY h.done a⟩
theorem aeK(k)(B)(g:k.W≠k.D):(wY k B).s.Wf/\(wY k B).s.has (wY k B).own/\(wY k B).IZ:=by
 refine⟨⟨λm h=>?_,λa b c z o e f=>?_⟩,⟨0,.nilFunc,F⟩,λw d h=>h.QA ⟨d,F⟩,λw c j i n a b tm l h=>h.setChan l⟩
 ·simp only[wY,px,s9,ko,bM,gV,or_false]at h
  rcases h with rfl|rfl
  ·exact⟨_,_,rfl⟩
  ·exact⟨_,_,rfl⟩
 ·rcases a with _|_|a<;>rcases b with _|_|b
  ·rfl
  ·simp[wY,px,s9,rcase]at e f
   exact absurd (e.1.trans f.1.symm) g
  ·simp[wY,px,s9]at f
  ·simp[wY,px,s9,rcase]at e f
   exact absurd (f.1.trans e.1.symm) g
  ·rfl
  ·simp[wY,px,s9]at f
  ·simp[wY,px,s9]at e
  ·simp[wY,px,s9]at e
  ·simp[wY,px,s9]at e
theorem A0(k)(B){c}:(wY k B).s.has c↔c=k.W\/c=k.D:=by
 constructor
 ·rintro⟨m,z,h⟩
  rcases m with _|_|m
  ·simp[wY,px,s9,rcase]at h;exact .inl h.1.symm
  ·simp[wY,px,s9,rcase]at h;exact .inr h.1.symm
  ·simp[wY,px,s9]at h
 ·rintro(rfl|rfl)
  ·exact⟨0,.nilFunc,rfl⟩
  ·exact⟨1,.agg #[],rfl⟩
theorem auP(k)(B)(a)(j):AtIn ak Y (wK k) (uC k) B (px k) (zn k a j) (zn k a j):=⟨F,F,F,F,⟨a,j,F⟩,#[],by simp,λw _=>auQ k _ j w⟩
structure P6(k:dU)(B:Nat):Prop where
 wb:k.wb<B
 sb:k.sb<B
 S:k.S<B
 W:k.W<B
 T:k.T<B
 D:k.D<B
section
variable (k:dU){B:Nat}(X:P6 k B)
include X
theorem aeM{g}(b:stage ak (Z (142,2)) (ay k.W) g=Z (gZ ak (Z (142,2)) (ay k.W) g,ay k.W,[.ev ⟨.cell (bn k.wb 0),Y,Y⟩]))
  (c:(stage ak (Z (39,1)) (ptr k.S 0) (gZ ak (Z (142,2)) (ay k.W) g)).map (λr=>r.2)=Z (ptr k.S 0,[.ev ⟨.cell (bn k.sb 0),Y,Y⟩]))
  (d:(stage ak (Z (109,14)) (ay k.D) (gZ ak (Z (39,1)) (ptr k.S 0) (gZ ak (Z (142,2)) (ay k.W) g))).map (λr=>r.2)=Z (ay k.D,[.ev ⟨.cell (bn k.S 10),Y,Y⟩]))
  {f}{j}(e:aN ak 400 (gZ ak (Z (109,14)) (ay k.D) (gZ ak (Z (39,1)) (ptr k.S 0) (gZ ak (Z (142,2)) (ay k.W) g)))=zn k f j):
  Way ak Y (wK k) (uC k) B (λg=>∃a,AtIn ak Y (wK k) (uC k) B (px k) g a) g:=by
 refine Way.read (by rw[b];rfl) (λw h=>h.work) (.inl F) X.wb ?_;refine Way.read c (λw h=>h.store) (.inr (.inr (.inl F))) X.sb ?_;refine Way.read d (λw h=>h.done) (.inr (.inr (.inr F))) X.S ?_;refine Way.quiet 400 _ ?_;rw[e];exact Way.stop ⟨_,auP k B _ j⟩
theorem azP(f x y z v):Way ak Y (wK k) (uC k) B (λg=>∃a,AtIn ak Y (wK k) (uC k) B (px k) g a) (jx (cG k f x y z v [4]) aB):=aeM k X (Cp al) al al (again k f x y z v)
theorem azQ:Way ak Y (wK k) (uC k) B (λg=>∃a,AtIn ak Y (wK k) (uC k) B (px k) g a) (MX k):=by
 refine Way.step F (λw _=>agZ k w) ba ?_;refine Way.read al (λw h=>h.store) (.inr (.inr (.inl F))) X.sb ?_;exact aeM k X (Cp al) al al (auR k)
theorem avv(f x y z v):∃n,Sits ak Y (wY k B).K (wY k B).St (wY k B).B (wY k B).s n (jx (cG k f x y z v [4]) aB):=(azP k X f x y z v).xR
theorem avw:∃n,Sits ak Y (wY k B).K (wY k B).St (wY k B).B (wY k B).s n (MX k):=(azQ k X).xR
end
structure jj where
 t:Nat->ag
 l:ae ag
def jj.z:jj:=⟨λ_=>aB,[]⟩
def XG(o:jj)(W T N:Nat)(f:ag)(s:Fin 6->ag)(a:ae aJ):aA:=⟨66,⟨[.agg #[ay W,ay T],f,ptr N 0,o.t 1,ai 0,s 0,s 1,s 2,s 3,s 4,s 5]++o.l⟩,a,[],.run,.normal,I⟩
noncomputable def Jr(o:jj)(W T:Nat)(f:ag):aA:=C7 66 11 (IA o.t (.agg #[ay W,ay T]) f) o.l .normal
noncomputable def ahw:ae aJ:=(aN ak 3 (G (Jr .z 0 0 .nilFunc) [])).frame.todo.tail
noncomputable def ahv:af bq:=match(aN ak 3 (G (Jr .z 0 0 .nilFunc) [])).frame.todo with
 |.inRegion a _::_=>a
 |_=>#[]
noncomputable def Jq(o:jj)(W T N:Nat)(f:ag)(X:ae aA):aH:=G ⟨66,⟨[.agg #[ay W,ay T],f,ptr N 0,o.t 1,o.t 2,o.t 3,o.t 4,o.t 5,o.t 6,o.t 7,o.t 8]++o.l⟩,.inRegion ahv [1]::ahw,[],.run,.normal,I⟩ X
noncomputable def auo:af bq:=match(aN ak 400 (gZ ak (Z (142,2)) (ay 0) (Jq .z 0 0 0 .nilFunc []))).frame.todo with
 |.inRegion a _::_=>a
 |_=>#[]
noncomputable def auq:ae aJ:=(aN ak 400 (gZ ak (Z (142,2)) (ay 0) (Jq .z 0 0 0 .nilFunc []))).frame.todo.tail
def aup(o:jj)(W N:Nat)(f:ag):Fin 6->ag:=λi=>#[ptr N 0,ay W,f,o.t 6,o.t 7,o.t 8].getD i aB
noncomputable def sG(o:jj)(W T N:Nat)(f:ag)(X:ae aA):aH:=G (XG o W T N f (aup o W N f) (.inRegion auo [3]::auq)) X
section
variable (o:jj)(W T N:Nat)(f v:ag)(X:ae aA)
theorem agA:(stage ak (Z (142,2)) (ay W) (Jq o W T N f X)).map (λr=>r.2)=Z (ay W,[.ev ⟨.cell (bn N 0),Y,Y⟩]):=al
theorem agB:aN ak 400 (gZ ak (Z (142,2)) (ay W) (Jq o W T N f X))=sG o W T N f X:=al
theorem auW(w):aE ak U (sG o W T N f X) w=.comm (sG o W T N f X) #[scase W f (.tuple #[])] U .send w #[]:=al
noncomputable def atn:af bq:=match(aN ak 400 (gZ ak (Z (142,2)) (ay 0) (jx (sG .z 0 0 0 .nilFunc []) aB))).frame.todo with
 |.inRegion a _::_=>a
 |_=>#[]
noncomputable def atp:ae aJ:=(aN ak 400 (gZ ak (Z (142,2)) (ay 0) (jx (sG .z 0 0 0 .nilFunc []) aB))).frame.todo.tail
def ato:Fin 6->ag:=λi=>#[ptr N 0,ay W,f,ptr N 1,ay T,o.t 8].getD i aB
noncomputable def rG:aH:=G (XG o W T N f (ato o W T N f) (.inRegion atn [2,3]::atp)) X
theorem atK:(stage ak (Z (142,2)) (ay T) (jx (sG o W T N f X) aB)).map (λr=>r.2)=Z (ay T,[.ev ⟨.cell (bn N 1),Y,Y⟩]):=al
theorem atJ:aN ak 400 (gZ ak (Z (142,2)) (ay T) (jx (sG o W T N f X) aB))=rG o W T N f X:=al
theorem atH(w):aE ak U (rG o W T N f X) w=.comm (rG o W T N f X) #[rcase T (ai 0)] U (.recv Y) w #[]:=al
theorem atI:rh #[rcase T (ai 0)] (.recv Y) 0 v U=v:=al
end
section
variable (o:jj)(W T N:Nat)(f v:ag)(X:ae aA){P:cH}{S:af ag}{R:ae aJ}{Q:ae cz}{V:dQ}{O:aj Nat}
theorem atG:aN ak 4 (jx (rG o W T N f (⟨P,S,R,Q,.run,V,O⟩::X)) v)=G (jw ⟨P,S,R,Q,.run,V,O⟩ v) X:=al
end
def Jw:cz:={target:=.fn (.func 76) #[],args:=#[]}
theorem XL(a:Bool)(P:cH)(W:af ag)(V:ae aJ)(N:ae cz)(X:dQ)(O:ae aA)(w:ax):aE ak a (G ⟨P,W,V,Jw::N,.returning,X,I⟩ O) w=.go (G ⟨P,W,V,N,.returning,X,I⟩ O) w (seen ak P #[⟨.mark (.extern 76),Y,U⟩,⟨.mark .enable,Y,U⟩]):=al
def jD(n:Nat):ag:=.int .u64 ((n:Int)*4294967296)
section
variable {M At:Nat->Loc->Prop}{R:Loc->Prop}{L:Nat->aj YS}{h B n:Nat}{T:ed}{w:ax}{A:aU->Prop}{m:fT}{S t l:Nat}
variable {P:cH}{W:af ag}{V:ae aJ}{N:ae cz}{X:dQ}{K:aj Nat}{O:ae aA}
theorem jm.enable{a:aU}{c:ax}{v z:ag}{y:aj (aK×Nat)}{P:cH}{W:af ag}{V:ae aJ}{N:ae cz}{X:dQ}{O:ae aA}(H:jm ak M At R L h B n a c m T 1 v (G ⟨P,W,V,Jw::N,.returning,X,I⟩ O))(hc:eQ c a z y)(r:ia 1 (seen ak P #[⟨.mark (.extern 76),Y,U⟩,⟨.mark .enable,Y,U⟩])=0):jm ak M At R L h B n a c m T 0 v (G ⟨P,W,V,N,.returning,X,I⟩ O):=by
 refine mX.then H λm6 w1 jV D q1 J E i u f⟨o,p,q⟩=>?_;subst o p;have:=f.told (sl:=jV) u F (Q:=λj g C=>j=0/\g=G ⟨P,W,V,N,.returning,X,I⟩ O/\yq a v c C) λk=>⟨_,_,_,XL _ _ _ _ _ _ _ _,⟨λ_ _ _ _ _=>rfl,λ_ _ _ s=>s,λe b=>?_⟩,r,F,q.at ⟨k,F⟩⟩
 ·rw[i]at this
  exact this
 ·have b:=mem_seen b
  simp only[ko,bM,gV,or_false]at b;rcases b with rfl|rfl
  ·exact⟨λx d=>by simp[gI,lS]at d,trivial⟩
  ·exact⟨λx d=>by simp[gI,lS]at d,trivial⟩
noncomputable def QW(g:aH):aH:=G ⟨g.frame.fn,g.frame.tmps,g.frame.todo,g.frame.defers.tail,.returning,g.frame.kind,I⟩ g.callers
theorem Ww{a:aU}{b:ax}{v i:ag}{f:aj (aK×Nat)}(H:jm ak M At R L h B n a b m T 1 v g)(c:eQ b a i f)
  (e:g=G ⟨g.frame.fn,g.frame.tmps,g.frame.todo,Jw::g.frame.defers.tail,.returning,g.frame.kind,I⟩ g.callers)
  (d:ia 1 (seen ak g.frame.fn #[⟨.mark (.extern 76),Y,U⟩,⟨.mark .enable,Y,U⟩])=0):jm ak M At R L h B n a b m T 0 v (QW g):=by
 rw[e]at H;exact jm.enable H c d
theorem afJ{k:Nat}(r:k<9)(c:Gate M L A)(b:A ⟨S,11,I⟩)(d:A ⟨S,12,I⟩)(g:S<B)(a:eQ w ⟨S,11,I⟩ (jD k) (Z (109,14)))
  (H:jm ak M At R L h B n ⟨S,11,I⟩ w m T 0 (jD k) (G (bO ak 93 #[ptr S 11,ai 1] .normal) (⟨P,W,V,N,.run,X,K⟩::O))):
  jm ak M At R L h B n ⟨S,11,I⟩ w m T 0 (jD (k+1)) (G (jw ⟨P,W,V,N,.run,X,K⟩ (.tuple #[])) O):=by
 have:k=0\/k=1\/k=2\/k=3\/k=4\/k=5\/k=6\/k=7\/k=8:=by omega
 rcases this with e|e|e|e|e|e|e|e|e
 all_goals
  have i:=H.stage a c b (v':=jD k) (l:=[.ev ⟨.mark (.extern 74),Y,U⟩,.ev ⟨.mark .disable,Y,U⟩]) (d':=1) (by subst e;kernel_rfl) (by simp[eN]) (by simp[dm,lH]) (by subst e;kernel_rfl);have j:=i.stage a c b (v':=jD k) (l:=[.ev ⟨.mark (.extern 82),Y,U⟩]) (d':=1) (by subst e;kernel_rfl) (by simp[eN]) (by simp[dm,lH]) (by subst e;kernel_rfl);have f:=j.stage a c b (v':=jD (k+1)) (l:=[.ev ⟨.mark (.extern 150),Y,U⟩,.ev ⟨.cell ⟨S,11,I⟩,Y,U⟩,.ev ⟨.cell ⟨S,11,I⟩,U,U⟩]) (d':=1) (by subst e;kernel_rfl) (by simp[eN]) (by simp[dm,lH,b,g]) (by subst e;kernel_rfl)
  first
   |have q:k=0:=by omega
    have o:=f.stage a c b (v':=jD (k+1)) (l:=[.shape S,.shape S]) (d':=1) (by subst e;kernel_rfl) (by simp[eN]) (by simp[dm,lH]) (by subst e;kernel_rfl);have p:=o.stage a c b (v':=jD (k+1)) (l:=[.ev ⟨.mark (.extern 125),Y,U⟩,.ev ⟨.mark (.read ⟨S,12,I⟩),Y,U⟩]) (d':=1) (by subst e;kernel_rfl) (by simp[eN]) (by simp[dm,lH,d,g]) (by subst e;kernel_rfl);exact(Ww (p.quiet 400 rfl) a (by subst e;kernel_rfl) (by subst e;kernel_rfl)).quiet 1 (by subst e;kernel_rfl)
   |exact(Ww (f.quiet 400 rfl) a (by subst e;kernel_rfl) (by subst e;kernel_rfl)).quiet 1 (by subst e;kernel_rfl)
end
def bW(w:ax)(o:Obj):ax:={w with heap:=w.heap.push o}
def ic(w:ax)(b:Nat)(c:af ag)(t:aK):ax:={w with heap:=w.heap.setIfInBounds b (.cells c t)}
def vV{α:Type}(P:aD)(N:Nat):Sem α->aj (α×Obj)
 |.program k=>vV P N (k P)
 |.new o k=>(fR P (k N)).map λa=>(a,o)
 |_=>I
theorem Ul{P:aD}{N:Nat}:∀{s:Sem α}{a:α}{o:Obj},vV P N s=Z (a,o)->∀w es,w.heap.size=N->s.runT P w es=(.ok a (bW w o),es):=by
 intro s;induction s with
 |program k c=>intro a o h w es b;exact c P h w es b
 |new o k c=>
  intro a i h w es b;simp only[vV]at h;obtain⟨x,e,f⟩:=fX.1 h;cases f;simp only[nM,b];exact Ch e _ es
 |_=>intro a o h;cases h
def qu{α:Type}(P:aD)(t:aK):Sem α->af ag->aj (α×af ag×ae iR)
 |.pure a,c=>Z (a,c,[])
 |.program k,c=>qu P t (k P) c
 |.load m a k,c=>match a.spot,c[a.off]? with
  |none,Z v=>(qu P t (k v) c).map λr=>(r.1,r.2.1,.ev ⟨.cell a,Y,m==.atomic⟩::r.2.2)
  |_,_=>I
 |.store m a x k,c=>match x with
  |.agg _|.tuple _=>I
  |x=>match a.spot,c[a.off]? with
   |none,Z _=>(qu P t k (c.setIfInBounds a.off x)).map λr=>(r.1,r.2.1,.ev ⟨.cell a,U,m==.atomic⟩::r.2.2)
   |_,_=>I
 |.frozen a k,c=>(qu P t (k Y) c).map λx=>(x.1,x.2.1,.frozen a::x.2.2)
 |.shape r k,c=>(qu P t (k (Z (t,c.size))) c).map λx=>(x.1,x.2.1,.shape r::x.2.2)
 |.mark m k,c=>(qu P t k c).map λr=>(r.1,r.2.1,.ev ⟨.mark m,Y,U⟩::r.2.2)
 |_,_=>I
def Bl(b:Nat):ae iR->Prop
 |[]=>True
 |.ev ⟨.cell a,_,_⟩::l=>a.block=b/\Bl b l
 |.ev _::l=>Bl b l
 |.shape r::l=>r=b/\Bl b l
 |.frozen a::l=>a.block=b/\Bl b l
theorem Ji{w:ax}{b:Nat}(h:w.heap[b]?=Z (.cells c t)):ic w b c t=w:=by
 refine ID (zB λi=>?_) F F F F;show(w.heap.setIfInBounds b _)[i]?=_;rw[uF];by_cases e:b=i
 ·subst e
  have a:=(iy.1 h).1;rw[if_pos F,if_pos a,h]
 ·simp[e]
theorem agy(w:ax)(b:Nat)(c a:af ag)(t:aK):ic (ic w b c t) b a t=ic w b a t:=by
 refine ID ?_ F F F F;show(w.heap.setIfInBounds b _).setIfInBounds b _=w.heap.setIfInBounds b _;simp
theorem QD{w:ax}(h:w.heap[a.block]?=Z (.cells c t))(b:a.spot=I):w.cell? a=c[a.off]?:=by
 unfold fU;rw[h];simp[b]
theorem agz{w:ax}{x y:ag}(h:w.heap[a.block]?=Z (.cells c t))(k:c[a.off]?=Z y)(o:a.spot=I):w.setCell a x=ic w a.block (c.setIfInBounds a.off x) t:=by
 have oT:w.cell? a=Z y:=by rw[QD h o];exact k
 obtain⟨p,r,f,b,l,q,_⟩:=kQ oT;rw[h]at b;cases b;refine ID (zB λi=>?_) F F F F;rw[heap_setCell h l];show _=(w.heap.setIfInBounds a.block _)[i]?;rw[uF];have aC:=(iy.1 h).1;by_cases e:i=a.block
 ·subst e;simp[aC]
 ·have j:¬(a.block=i):=λx=>e x.symm
  simp[e,j]
theorem QC{P:aD}{b:Nat}:∀{s:Sem α}{c:af ag}{n:α}{i:af ag}{l:ae iR},qu P t s c=Z (n,i,l)->Bl b l->∀w es,w.heap[b]?=Z (.cells c t)->s.runT P w es=(.ok n (ic w b i t),es++(dm l).toArray):=by
 intro s;induction s with
 |pure x=>intro c n i l h e w es f;cases h;rw[Ji f];simp[nM,dm]
 |program k p=>intro c n i l h e w es f;exact p P h e w es f
 |load m a k p=>
  intro c n i l h e w es f;simp only[qu]at h;split at h
  ·rename_i v q J
   obtain⟨⟨C,u,A⟩,j,o⟩:=fX.1 h;cases o;obtain⟨rfl,e⟩:=e;have oT:w.cell? a=Z v:=by rw[QD f q];exact J
   simp only[nM,oT];rw[p v j e w _ f];simp[dm]
  ·cases h
 |store m a x k p=>
  intro c n i l h e w es f;have K:∃y r,a.spot=I/\c[a.off]?=Z y/\qu P t k (c.setIfInBounds a.off x)=Z r/\(r.1,r.2.1,iR.ev ⟨.cell a,U,m==.atomic⟩::r.2.2)=(n,i,l)/\x.oneCell'=U:=by
   cases x<;>first
    |(simp only[qu]at h;cases h;done)
    |(simp only[qu]at h
      split at h
      ·rename_i y q z
       obtain⟨r,j,o⟩:=fX.1 h;exact⟨y,r,q,z,j,o,rfl⟩
      ·cases h)
  obtain⟨y,⟨C,u,A⟩,q,z,j,o,E⟩:=K;cases o;obtain⟨rfl,e⟩:=e;have oT:w.cell? a=Z y:=by rw[QD f q];exact z
  have D:w.frozen? a=Y:=by
   unfold qj;rw[f];simp
  have G:(Sem.store m a x k).runT P w es=k.runT P (w.setCell a x) (es.push ⟨.cell a,U,m==.atomic⟩):=by
   cases x<;>first|(cases E;done)|(simp only[nM,oT,D];rfl)
  have aC:=(iy.1 f).1;rw[G,agz f z q,p j e _ _ (by show(w.heap.setIfInBounds a.block _)[a.block]?=_;simp[aC]),agy];simp[dm]
 |shape r k p=>
  intro c n i l h e w es f;simp only[qu]at h;obtain⟨⟨C,u,A⟩,j,o⟩:=fX.1 h;cases o;obtain⟨rfl,e⟩:=e;have H:w.shape? r=Z (t,c.size):=by unfold fF;rw[f]
  simp only[nM,H];rw[p _ j e w _ f];simp[dm]
 |frozen a k p=>
  intro c n i l h e w es f;simp only[qu]at h;obtain⟨⟨C,u,A⟩,j,o⟩:=fX.1 h;cases o;obtain⟨rfl,e⟩:=e;have D:w.frozen? a=Y:=by unfold qj;rw[f];simp
  simp only[nM,D];rw[p _ j e w _ f];simp[dm]
 |mark m k p=>
  intro c n i l h e w es f;simp only[qu]at h;obtain⟨⟨C,u,A⟩,j,o⟩:=fX.1 h;cases o;simp only[nM];rw[p j e _ _ f];simp[dm]
 |_=>intro c n i l h;simp only[qu]at h;cases h
def oI(P:aD)(N:Nat)(g:aH):aj (aH×Obj):=(eV P (aN P 400 g)).bind λs=>(vV P N s).bind λr=>(mj P (aN P 400 g) r.1).map λg'=>(g',r.2)
def xd(P:aD)(t:aK)(c:af ag)(g:aH):aj (aH×af ag×ae iR):=(eV P (aN P 400 g)).bind λs=>(qu P t s c).bind λr=>(mj P (aN P 400 g) r.1).map λg'=>(g',r.2.1,r.2.2)
theorem abR{P:aD}{g:aH}(h:eV P g=Z s):g.status=.running:=by
 obtain⟨j,c,e,i,rest,k,a,b,f,o,rfl,_⟩:=ze h;rfl
theorem abw{P:aD}{main:Bool}{N:Nat}{g g':aH}{o:Obj}(h:oI P N g=Z (g',o)):(aN P 400 g).status=.running/\∀w,w.heap.size=N->aE P main (aN P 400 g) w=.go g' (bW w o) (seen P (aN P 400 g).frame.fn #[]):=by
 unfold oI at h;obtain⟨s,a,b⟩:=nj.1 h;obtain⟨⟨n,l⟩,i,c⟩:=nj.1 b;obtain⟨k,f,e⟩:=fX.1 c;cases e;exact⟨abR a,λw j=>(AO a f (Ul i w #[] j)).2⟩
theorem Xe{P:aD}{main:Bool}{b:Nat}{a:af ag}{g g':aH}{l:ae iR}(h:xd P t c g=Z (g',a,l))(k:Bl b l):(aN P 400 g).status=.running/\∀w,w.heap[b]?=Z (.cells c t)->aE P main (aN P 400 g) w=.go g' (ic w b a t) (seen P (aN P 400 g).frame.fn (dm l).toArray):=by
 unfold xd at h;obtain⟨s,e,f⟩:=nj.1 h;obtain⟨⟨n,r,v⟩,p,i⟩:=nj.1 f;obtain⟨u,o,j⟩:=fX.1 i;cases j;refine⟨abR e,λw q=>?_⟩;have:=(AO (main:=main) e o (QC p k w #[] q)).2;simpa using this
section
variable {P:aD}{V At:Nat->Loc->Prop}{X:Loc->Prop}{W:Nat->aj YS}{h d d' B n:Nat}{T:ed}{m:fT}{S R:ax}{g g':aH}
theorem dI.act(H:dI P V At X W h B n S m T d (·=g))(i:g.status=.running){es:af dR}(f:∀w,AtRel S w->∃a,aE P (h==0) g w=.go g' a es/\AtRel R a/\DZ V W X B w a es)(t:ia d es=d'):dI P V At X W h B n R m T d' (·=g'):=by
 refine mX.then H λC a jV y D A z j u c⟨l,o,p⟩=>?_;subst l o;have:=c.told (sl:=jV) u i (Q:=λk e v=>k=d'/\e=g'/\AtRel R v) λb=>by
  obtain⟨x,q,r,s⟩:=f (a.at b) (atRel_trans _ _ _ p ⟨b,F⟩);exact⟨g',x,es,q,s,t,F,r⟩
 rw[j]at this;exact this
theorem GR{w a:ax}(h:AtRel w a):a.heap=w.heap:=by obtain⟨d,rfl⟩:=h;rfl
theorem W7{w a:ax}(h:AtRel w a)(o:Obj):AtRel (bW w o) (bW a o):=by obtain⟨d,rfl⟩:=h;exact⟨d,F⟩
theorem afV{w a:ax}(h:AtRel w a)(b:Nat)(c:af ag)(t:aK):AtRel (ic w b c t) (ic a b c t):=by obtain⟨d,rfl⟩:=h;exact⟨d,F⟩
theorem dI.new(H:dI P V At X W h B n S m T d (·=g)){N:Nat}{o:Obj}(f:oI P N g=Z (g',o))(p:S.heap.size=N)(s:∀i y,W i=Z y->∀w o,y.K w->y.K (bW w o))(k:∀i y c,W i=Z y->y.s.has c->c<N):dI P V At X W h B n (bW S o) m T d (·=g'):=by
 have t:=H.quiet (g':=aN P 400 g) 400 F;obtain⟨j,u⟩:=abw (main:=h==0) f;refine t.act j (es:=#[]) (λw b=>⟨bW w o,?_,W7 b o,λi y c a q=>?_,λi y a l=>s i y a w o l,λe r=>by simp at r⟩) F
 ·rw[u w (by rw[GR b];exact p),seen_none]
 ·have aC:=k i y c a q
  show(w.heap.push o)[c]?=w.heap[c]?;rw[Gn,if_neg (by rw[GR b];omega)]
theorem dI.blk(H:dI P V At X W h B n S m T d (·=g)){b:Nat}{o:af ag}{l:ae iR}(L:xd P t c g=Z (g',o,l))(j:Bl b l)(hb:S.heap[b]?=Z (.cells c t))(hk:∀i y,W i=Z y->∀w,y.K w->y.K (ic w b o t))
  (N:∀i y x,W i=Z y->y.s.has x->x≠b)(A:∀e∈dm l,∃a,e.loc=.cell a/\e.sync=Y/\(e.write=U->∀g,¬V g (.cell a))/\¬X (.cell a))(E:b<B):
  dI P V At X W h B n (ic S b o t) m T d (·=g'):=by
 have hq:=H.quiet (g':=aN P 400 g) 400 F;obtain⟨M,hs⟩:=Xe (main:=h==0) L j;have K:∀(l:ae iR),Bl b l->∀e∈dm l,∀a,e.loc=.cell a->a.block=b:=λl=>by
  induction l with
  |nil=>intro _ e f;simp[dm]at f
  |cons x l u=>
   intro j e f a k;cases x with
   |ev O=>
    obtain⟨q,J,sy⟩:=O;simp only[dm,bM]at f;cases q with
    |cell a'=>
     rcases f with rfl|f
     ·cases k;exact j.1
     ·exact u j.2 e f a k
    |_=>
     rcases f with rfl|f
     ·cases k
     ·exact u j e f a k
   |shape r=>exact u j.2 e f a k
   |frozen r=>exact u j.2 e f a k
 refine hq.act M (es:=seen P (aN P 400 g).frame.fn (dm l).toArray) (λw G=>⟨ic w b o t,?_,afV G b o t,λi y x z s=>?_,λi y z hK=>hk i y z w hK,λe f=>?_⟩) ?_
 ·exact hs w (by rw[GR G];exact hb)
 ·show(w.heap.setIfInBounds b _)[x]?=w.heap[x]?
  rw[iK (λe=>N i y x z s e.symm)]
 ·have f:=mem_seen f
  simp only[ko]at f;obtain⟨a,p,C,D,Q⟩:=A e f;have qI:=K l j e f a p;obtain⟨q,J,sy⟩:=e;simp only at p C D;subst p C;refine⟨λx s=>?_,by rw[<-qI]at E;exact E⟩;simp only[gI,lS,gB]at s;subst s;refine⟨λg v=>?_,λv=>absurd v Q⟩;cases J with
  |false=>rfl
  |true=>exact absurd v (D F g)
 ·refine deafBehind_still (λe f=>?_) _
  have f:=mem_seen f;simp only[ko]at f;obtain⟨a,p,_⟩:=A e f;rw[p];exact⟨by simp,by simp⟩
end
def Pp(tm:af ag)(a:ae aJ):aA:=⟨55,tm,a,[],.run,.normal,I⟩
noncomputable def Pn(z:jj)(S:Nat):aA:=C7 55 13 (dc z.t (ptr S 0)) z.l .normal
def sT(z:jj)(x:ae ag)(n:Nat):af ag:=⟨x++(((qh 12).map z.t).drop n++z.l)⟩
def gF:af ag:=#[.chan I,.chan I]
noncomputable def s1(z:jj)(S N:Nat)(X:ae aA):aH:=((oI ak N (G (Pn z S) X)).getD default).1
noncomputable def s2(z:jj)(S N M:Nat)(X:ae aA):aH:=((oI ak M (s1 z S N X)).getD default).1
noncomputable def Tv:ae aJ:=(aN ak 400 (s2 .z 0 0 0 [])).frame.todo.tail
theorem auv(z:jj)(S N M:Nat)(X:ae aA):aN ak 400 (s2 z S N M X)=G (Pp (sT z [ptr S 0,ptr N 0,ptr M 0] 2) (.code (.region 1 vZ U)::Tv)) X:=al
theorem arn:zT .any vZ vZ.size (qa vZ.size Y)=[[0,1,2,3,4],[0,1,3,2,4],[0,3,1,2,4],[1,0,2,3,4],[1,0,3,2,4],[1,3,0,2,4],[3,0,1,2,4],[3,1,0,2,4]]:=al
noncomputable def sR(z:jj)(S N M:Nat)(V R Q P:ag)(l:ae Nat)(X:ae aA):aH:=G (Pp (sT z [ptr S 0,ptr N 0,ptr M 0,V,R,Q,P] 6) (.inRegion vZ l::Tv)) X
section
variable (z:jj)(S N M W T b:Nat)(V R Q P:ag)(X:ae aA)
theorem so0(r:ae Nat):oI ak W (sR z S N M V R Q P (0::r) X)=Z (sR z S N M V (ay W) Q P r X,.chan 0 #[] Y 0 0 Y):=al
theorem PH(r:ae Nat):oI ak W (sR z S N M V R Q P (1::r) X)=Z (sR z S N M V R (ay W) P r X,.chan 0 #[] Y 0 0 Y):=al
theorem PI(u v:aj Nat)(r:ae Nat):aN ak 1 (sR z S N M V (.chan u) (.chan v) P (2::r) X)=sR z S N M V (.chan u) (.chan v) (.agg #[.chan u,.chan v]) r X:=al
theorem PL(r:ae Nat):oI ak W (sR z S N M V R Q P (3::r) X)=Z (sR z S N M (ptr W 0) R Q P r X,.cells gF 142):=al
theorem axT:xd ak 142 gF (sR z S N M (ptr b 0) R Q (.agg #[ay W,ay T]) [4] X)=Z (sR z S N M (ptr b 0) R Q (.agg #[ay W,ay T]) [] X,#[ay W,ay T],[.ev ⟨.cell (bn b 0),U,Y⟩,.ev ⟨.cell (bn b 1),U,Y⟩]):=al
noncomputable def s3:aH:=((xd ak 39 #[ptr S 0] (sR z S N M (ptr b 0) (ay W) (ay T) (.agg #[ay W,ay T]) [] X)).getD default).1
def Pm(a c d:ag):af ag:=⟨[ptr S 0,ptr N 0,ptr M 0,ptr b 0,ay W,ay T,.agg #[ay W,ay T],ptr S 0,ptr S 0,ptr S 11,a,c,d]++z.l⟩
noncomputable def aug:af bq:=match(aN ak 2 (s3 .z 0 0 0 0 0 0 [])).frame.todo with
 |.inRegion a _::_=>a
 |_=>#[]
noncomputable def s4k:ae aJ:=(aN ak 2 (s3 .z 0 0 0 0 0 0 [])).frame.todo.tail
noncomputable def D7:aA:=Pp (Pm z S N M W T b (z.t 9) (z.t 10) (z.t 11)) (.inRegion aug [3]::s4k)
theorem auu:aN ak 3 (s3 z S N M W T b X)=G (bO ak 93 #[ptr S 11,ai 1] .normal) (D7 z S N M W T b::X):=al
noncomputable def aui:af bq:=match(aN ak 400 (G ((D7 .z 0 0 0 0 0 0).finish (.tuple #[])) [])).frame.todo with
 |.inRegion a _::_=>a
 |_=>#[]
noncomputable def s5k:ae aJ:=(aN ak 400 (G ((D7 .z 0 0 0 0 0 0).finish (.tuple #[])) [])).frame.todo.tail
def Ri:ag:=.func (.func 94) #[] #[ptr N 0,ptr b 0]
noncomputable def s5(l:ae Nat):aH:=G (Pp (Pm z S N M W T b (.tuple #[]) (Ri N b) (z.t 11)) (.inRegion aui l::s5k)) X
theorem auy:aN ak 400 (G ((D7 z S N M W T b).finish (.tuple #[])) X)=s5 z S N M W T b X [1]:=al
theorem auD(g D:Nat)(a:Bool)(w:ax):aE ak a (s5 z S N M W T b X [1]) w=.spawn (s5 z S N M W T b X []) (MX ⟨g,S,W,T,D,b,N⟩) w #[]:=al
noncomputable def s6:aH:=((xd ak 142 #[ay W,ay T] (s5 z S N M W T b X [])).getD default).1
noncomputable def s7:aH:=((xd ak 142 gF (s6 z S N M W T b X)).getD default).1
noncomputable def s8:aH:=G ⟨55,Pm z S N M W T b (.tuple #[]) (Ri N b) (.agg #[ay W,ay T]),[.code .ret],[],.returning,.normal,I⟩ X
theorem auC:aN ak 2 (s7 z S N M W T b X)=s8 z S N M W T b X:=al
end
section
open Go.Extern
section
variable {P:aD}{fs:af dK}{fx:Obj->Prop}{Hid:Loc->Prop}{α β γ:Type}{X:ae Nat}
theorem VT(fs:af dK)(f:Tables->Sem α):f (Lo P fs).toTables=f P.toTables:=rfl
theorem awh(t:aK):Sm P fs fx Hid X (elemOf t):=by
 unfold elemOf;refine bh (pZ t) λu=>?_;split
 ·exact br _
 ·exact dz _
theorem PE(h:ag):Sm P fs fx Hid X (Rtype.ofHandle h):=by
 unfold Rtype.ofHandle;exact c6
theorem adz(t:aK):Sm P fs fx Hid X (Rtype.handle t):=by
 unfold Rtype.handle;exact c6
theorem abo:∀(n:Nat)(t:aK),Program.namesPacked (Lo P fs) n t=Program.namesPacked P n t
 |0,_=>rfl
 |n+1,t=>by
  have a:=abo n;unfold Program.namesPacked;simp only[funext a,OZ];rfl
theorem abb:∀(n:Nat)(t:aK),Program.methodsOfAPack (Lo P fs) n t=Program.methodsOfAPack P n t
 |0,_=>rfl
 |n+1,t=>by
  have a:=abb n;unfold Program.methodsOfAPack;simp only[a,OZ];rfl
theorem VA(s:String)(t:aK):Sm P fs fx Hid X (Rtype.noPack s t):=by
 unfold Rtype.noPack;exact oc (by simp only[OZ]) (jW (λ_=>lC _) λ_=>br _)
theorem axb(s:String)(t:aK):Sm P fs fx Hid X (Rtype.noPackHeld s t):=by
 unfold Rtype.noPackHeld;exact oc (by simp only[S0]) (oc (VT fs (λT=>if P.holdsPacked (2*(T.types.size+Made.depth)+2) t then unsupported _ else pure ())) (jW (λ_=>lC _) λ_=>br _))
theorem axd(s:String)(t:aK):Sm P fs fx Hid X (Rtype.noPackNamed s t):=by
 unfold Rtype.noPackNamed;exact oc (by simp only[abo]) (oc (VT fs (λT=>if P.namesPacked (2*(T.types.size+Made.depth)+2) t then unsupported _ else pure ())) (jW (λ_=>lC _) λ_=>br _))
theorem axc(s:String)(t:aK):Sm P fs fx Hid X (Rtype.noPackMethods s t):=by
 unfold Rtype.noPackMethods;exact oc (by simp only[abb]) (oc (VT fs (λT=>if P.methodsOfAPack (2*(T.types.size+Made.depth)+2) t then unsupported _ else pure ())) (jW (λ_=>lC _) λ_=>br _))
theorem VJ(t:aK):Sm P fs fx Hid X (Rtype.spelt t):=by
 unfold Rtype.spelt;exact c6
theorem axL(t:aK):Sm P fs fx Hid X (Rtype.under t):=by
 unfold Rtype.under;exact c6
theorem Vx(t:aK):Sm P fs fx Hid X (Rtype.kind t):=by
 unfold Rtype.kind;exact c6
theorem awK(t:aK):Sm P fs fx Hid X (Rtype.hasName t):=by
 unfold Rtype.hasName;exact c6
theorem awi(t:aK):Sm P fs fx Hid X (Rtype.elem? t):=by
 unfold Rtype.elem?;exact c6
theorem adA(t u:aK):Sm P fs fx Hid X (Rtype.implements t u):=by
 unfold Rtype.implements;exact c6
theorem adp(t u:aK):Sm P fs fx Hid X (Rtype.directlyAssignable t u):=by
 unfold Rtype.directlyAssignable;exact c6
theorem awe(n:String):Sm P fs fx Hid X (cutType n):=by
 unfold cutType;exact c6
theorem VD(s:String):Sm P fs fx Hid X ((panicString s:Sem α)):=by
 unfold panicString;exact c6
theorem aw5(t:aK)(a:aU)(f:Nat):Sm P fs fx Hid X (ReflectliteValue.mk t a f):=by
 unfold ReflectliteValue.mk;exact c6
theorem adX(v:ag):Sm P fs fx Hid X (ReflectliteValue.unpack v):=by
 unfold ReflectliteValue.unpack;exact c6
theorem adR(v:ag):Sm P fs fx Hid X (ReflectliteValue.partsAny v):=by
 unfold ReflectliteValue.partsAny;cases v<;>try exact dz _
 rename_i b;obtain⟨l⟩:=b;rcases l with _|⟨x,_|⟨y,_|⟨z,_|⟨u,l⟩⟩⟩⟩<;>try exact dz _
 cases z<;>try exact dz _
 rename_i k n;cases k<;>try exact dz _
 cases n with
 |ofNat m=>
  cases m with
  |zero=>exact br _
  |succ m=>
   cases y<;>try exact dz _
   rename_i a;cases a with
   |none=>exact dz _
   |some a=>exact bh (PE _) λ_=>br _
 |negSucc m=>
  cases y<;>try exact dz _
  rename_i a;cases a with
  |none=>exact dz _
  |some a=>exact bh (PE _) λ_=>br _
theorem VE(v:ag):Sm P fs fx Hid X (ReflectliteValue.parts v):=by
 unfold ReflectliteValue.parts;exact c6
theorem PG(m:String)(k:Nat):Sm P fs fx Hid X ((ReflectliteValue.valueError m k:Sem α)):=by
 unfold ReflectliteValue.valueError;exact c6
theorem VL(t:aK):Sm P fs fx Hid X (ReflectliteType.toType t):=by
 unfold ReflectliteType.toType;exact c6
theorem VC(v:ag):Sm P fs fx Hid X (ReflectliteType.ofRtype v):=by
 unfold ReflectliteType.ofRtype;cases v<;>try exact dz _
 rename_i a;obtain⟨l⟩:=a;rcases l with _|⟨x,_|⟨y,l⟩⟩<;>try exact dz _
 exact bh (PE _) λ_=>bh (VA _ _) λ_=>br _
theorem axm(t:aK):Sm P fs fx Hid X (ReflectliteType.elem t):=by
 unfold ReflectliteType.elem;exact c6
theorem axn(t u:aK):Sm P fs fx Hid X (ReflectliteType.implements_ t u):=by
 unfold ReflectliteType.implements_;exact c6
theorem axl(t u:aK):Sm P fs fx Hid X (ReflectliteType.assignableTo t u):=by
 unfold ReflectliteType.assignableTo;exact c6
theorem axp(t:aK)(a:aU)(x k:Nat):Sm P fs fx Hid X (ReflectliteValue.isNil t a x k):=by
 unfold ReflectliteValue.isNil;exact c6
theorem axo(t:aK)(a:aU)(x k:Nat):Sm P fs fx Hid X (ReflectliteValue.elem t a x k):=by
 unfold ReflectliteValue.elem;exact c6
end
end
section
open Go.Proofs Go.Extern
section
variable {P:aD}{fs:af dK}{fx:Obj->Prop}{Hid:Loc->Prop}{X:ae Nat}
theorem axr(c:af ag):Sm P fs fx Hid X (ReflectliteValue.set c):=by
 obtain⟨l⟩:=c;rcases l with _|⟨x,_|⟨y,_|⟨z,l⟩⟩⟩<;>try exact dz _
 show Sm P fs fx Hid X (ReflectliteValue.set #[x,y]);unfold ReflectliteValue.set;dsimp only
 refine bh (VE _) λp=>bh (VE _) λq=>?_;rcases p with _|⟨d,a,e⟩
 ·exact lC _
 rcases q with _|⟨s,b,m⟩
 ·exact lC _
 dsimp only
 refine jW (λ_=>bh (lC _) λ_=>?_) λ_=>?_<;>
 refine bh (Vy _ _) λv=>bh (adp _ _) λr=>jW (λ_=>bh (PF _ _ _) λ_=>br _) λ_=>bh (adA _ _) λi=>jW (λ_=>bh (Vx _) λk=>jW (λ_=>?_) λ_=>bh (PF _ _ _) λ_=>br _) λ_=>bh (VJ _) λ_=>bh (VJ _) λ_=>bh (VD _) λ_=>br _
 all_goals(split<;>first|exact bh (lC _) λ_=>br _|exact bh (PF _ _ _) λ_=>br _)
theorem adV(z:Sem ag)(f:aK->aU->Nat->Nat->Sem ag)(e:Sm P fs fx Hid X z)(c:∀t a x k,Sm P fs fx Hid X (f t a x k))(b:af ag):Sm P fs fx Hid X (ReflectliteValue.method z f b):=by
 obtain⟨l⟩:=b;rcases l with _|⟨x,_|⟨y,l⟩⟩<;>try exact dz _
 refine bh (VE _) λp=>?_;rcases p with _|⟨d,a,g⟩
 ·exact e
 ·exact c _ _ _ _
theorem axq(z:Sem ag)(f:aK->aU->Nat->Nat->Sem ag)(e:Sm P fs fx Hid X z)(c:∀t a x k,Sm P fs fx Hid X (f t a x k))(b:af ag):Sm P fs fx Hid X (ReflectliteValue.methodAny z f b):=by
 obtain⟨l⟩:=b;rcases l with _|⟨x,_|⟨y,l⟩⟩<;>try exact dz _
 refine bh (adR _) λp=>?_;rcases p with _|⟨d,a,g⟩
 ·exact e
 ·exact c _ _ _ _
theorem VG(f:aK->Sem ag)(b:∀t,Sm P fs fx Hid X (f t))(a:af ag):Sm P fs fx Hid X (ReflectliteType.method f a):=by
 obtain⟨l⟩:=a;rcases l with _|⟨x,_|⟨y,l⟩⟩<;>try exact dz _
 exact bh (VC _) λt=>b t
theorem adU(s:String)(f:aK->aK->Sem Bool)(b:∀t u,Sm P fs fx Hid X (f t u))(a:af ag):Sm P fs fx Hid X (ReflectliteType.relation s f a):=by
 obtain⟨l⟩:=a;rcases l with _|⟨x,_|⟨y,_|⟨z,l⟩⟩⟩<;>try exact dz _
 cases y<;>first|exact dz _|exact VD _|exact bh (VC _) λt=>bh (VC _) λu=>bh (b _ _) λ_=>br _
theorem avL(f:aK->Sem ag)(b:∀t,Sm P fs fx Hid X (f t))(a:af ag):Sm P fs fx Hid X (ReflectliteType.abiMethod f a):=by
 obtain⟨l⟩:=a;rcases l with _|⟨x,_|⟨y,l⟩⟩<;>try exact dz _
 exact bh (PE _) λt=>bh (VA _ _) λ_=>b t
theorem axJ(a:af ag):Sm P fs fx Hid X (ReflectliteType.typeOf a):=by
 obtain⟨l⟩:=a;rcases l with _|⟨x,_|⟨y,l⟩⟩<;>try exact dz _
 cases x<;>first|exact dz _|exact br _|exact VL _
theorem xS{fn:dK}{e:af ag->Sem ag}(c:fs[f]?=Z fn)(b:P.funcs[f]?=Z fn)(h:(fn.name== "runtime.NumGoroutine")=Y)(d:fn.body.isNone=U)(j:Extern.findNext fn=I)(g:Extern.find fn=Z e)(i:∀a,Sm P fs fx Hid X (e a))(a:af ag):Sm P fs fx Hid X (gC f a):=by
 unfold gC;refine oc (by simp only[c,b]) ?_;simp only[b,h,d,j,g,hZ,if_false,if_true];exact bh (awZ _) λ_=>bh (i a) λ_=>br _
theorem av1{c b:dK}(i:fs[f]?=Z b)(d:P.funcs[f]?=Z c)(g:(c.name== "runtime.NumGoroutine")=Y)(j:(b.name== "runtime.NumGoroutine")=Y)(e:c.body.isNone=Y)(h:b.body.isNone=Y)(a:af ag):Sm P fs fx Hid X (gC f a):=by
 unfold gC;refine oc (by simp only[i,d,g,j,e,h,hZ,if_false]) ?_;simp only[d,g,e,hZ,if_false];exact br _
theorem aja(f:dK):Extern.findNext (c7 f)=I:=al
theorem ajb(f:dK):Extern.find (c7 f)=I:=al
theorem aiu:("no".endsWith ".init")=Y:=al
theorem run_program{p:aD}{k:aD->Sem α}:(program>>=k).run p w=(k p).run p w:=rfl
theorem aw0(f:cH):ot P fs (mark (.extern f):Sem Unit):=λfx w a=>⟨λv b e=>by cases e;exact a,λx b e=>by cases e⟩
theorem XJ{g:dK}(b:fs[f]?=Z (c7 g))(a:af ag):mz P fs (gC f a):=by
 have e:∀w,(gC f a).run (Lo P fs) w=((mark (.extern f):Sem Unit)>>=λ_=>(unsupported (.extern "no"):Sem Next)).run (Lo P fs) w:=λw=>by
  unfold gC;rw[run_program];simp only[b,aja,ajb,show(c7 g).name= "no"from F,show((c7 g).body.isNone)=U from F,show("no"== "runtime.NumGoroutine")=Y from F,aiu,Bool.false_and,hZ,if_false,if_true]
 exactλw=>by
  rw[e];exact Bu (aw0 f) (λ_=>tP _) w
theorem av2{g:dK}(b:fs[f]?=Z (c7 g))(a:af ag):Sm P fs fx Hid X (gC f a):=(XJ b a).kH
theorem abF{f:dK}(h:(f.name== "no"&&f.origin== ""&&f.body.isNone)=U):f=c7 f:=by
 obtain⟨i,b,c,a,d,e,results,g⟩:=f;simp only[gT,beq_iff_eq,Option.isNone_iff_eq_none]at h;obtain⟨⟨rfl,rfl⟩,rfl⟩:=h;rfl
end
def Q8:ae Nat:=[104,105,106,108,140,141,195,203,204,205,206,210]
noncomputable def PM(f:Nat):Bool:=Q8.contains f||match fs[f]?,Tryz.prog.funcs[f]? with
 |some a,Z b=>(!a.body.isNone&&!b.body.isNone&&!(a.name== "runtime.NumGoroutine")&&!(b.name== "runtime.NumGoroutine"))||(a.name== "no"&&a.origin== ""&&a.body.isNone)
 |_,_=>Y
theorem sorted:(qh 225).all PM=U:=al
theorem YA:fs.size=225:=al
theorem Nk:Tryz.prog.funcs.size=225:=al
theorem ad4{f:Nat}(h:f<225):PM f=U:=Ei.1 sorted f (List.mem_range.2 h)
theorem Uq{f:Nat}(h:225<=f):fs[f]?=I:=by
 rw[Ef,YA];exact h
section
variable {Hid:Loc->Prop}{fx:Obj->Prop}{X:ae Nat}
theorem awn(a:af ag):Sm ak fs fx Hid X (gC 104 a):=xS (fn:=Tryz.f104) al al al al al F (λa=>adX _) a
theorem awo(a:af ag):Sm ak fs fx Hid X (gC 105 a):=xS (fn:=Tryz.f105) al al al al al F (axq _ _ (PG _ _) (λ_ _ _ _=>VL _)) a
theorem awp(a:af ag):Sm ak fs fx Hid X (gC 106 a):=xS (fn:=Tryz.f106) al al al al al F (adV _ _ (PG _ _) (λ_ _ _ _=>axp _ _ _ _)) a
theorem awq(a:af ag):Sm ak fs fx Hid X (gC 108 a):=xS (fn:=Tryz.f108) al al al al al F (axJ) a
theorem awr(a:af ag):Sm ak fs fx Hid X (gC 140 a):=xS (fn:=Tryz.f140) al al al al al F (adV _ _ (PG _ _) (λ_ _ _ _=>axo _ _ _ _)) a
theorem aws(a:af ag):Sm ak fs fx Hid X (gC 141 a):=xS (fn:=Tryz.f141) al al al al al F (axr) a
theorem awt(a:af ag):Sm ak fs fx Hid X (gC 195 a):=xS (fn:=Tryz.f195) al al al al al F (avL _ (λ_=>bh (Vx _) λ_=>br _)) a
theorem awu(a:af ag):Sm ak fs fx Hid X (gC 203 a):=xS (fn:=Tryz.f203) al al al al al F (adU _ _ (λ_ _=>axl _ _)) a
theorem awv(a:af ag):Sm ak fs fx Hid X (gC 204 a):=xS (fn:=Tryz.f204) al al al al al F (VG _ (λ_=>bh (axb _ _) λ_=>bh (Co _) λ_=>br _)) a
theorem aww(a:af ag):Sm ak fs fx Hid X (gC 205 a):=xS (fn:=Tryz.f205) al al al al al F (VG _ (λ_=>axm _)) a
theorem awx(a:af ag):Sm ak fs fx Hid X (gC 206 a):=xS (fn:=Tryz.f206) al al al al al F (adU _ _ (λ_ _=>axn _ _)) a
theorem awy(a:af ag):Sm ak fs fx Hid X (gC 210 a):=xS (fn:=Tryz.f210) al al al al al F (VG _ (λ_=>adz _)) a
theorem Xo:Bd ak fs fx Hid:=λX f c=>by
 by_cases i:f<225
 ·have h:=ad4 i
  unfold PM at h;rw[Bool.or_eq_true]at h;rcases h with h|h
  ·have:f=104\/f=105\/f=106\/f=108\/f=140\/f=141\/f=195\/f=203\/f=204\/f=205\/f=206\/f=210:=by simpa[Q8]using h
   rcases this with rfl|rfl|rfl|rfl|rfl|rfl|rfl|rfl|rfl|rfl|rfl|rfl
   ·exact awn c
   ·exact awo c
   ·exact awp c
   ·exact awq c
   ·exact awr c
   ·exact aws c
   ·exact awt c
   ·exact awu c
   ·exact awv c
   ·exact aww c
   ·exact awx c
   ·exact awy c
  ·split at h
   ·rename_i a b d n
    rw[Bool.or_eq_true]at h;rcases h with h|h
    ·simp only[gT,Gp]at h
     obtain⟨⟨⟨j,k⟩,l⟩,m⟩:=h;exact av1 d n m l k j c
    ·exact av2 (g:=a) (d.trans (congrArg Z (abF h))) c
   ·cases h
 ·have o:mz ak fs (gC f c):=λw=>by
   have e:∀w,(gC f c).run (Lo ak fs) w=(stuck "call: no such function":Sem Next).run (Lo ak fs) w:=λw=>by
    unfold gC;rw[run_program];simp only[Uq (Nat.le_of_not_lt i)]
   rw[e];exact fL _ w
  exact o.kH
theorem eB.congr{P:aD}{fs:af dK}{t:Sem Next}(h:∀w,s.run (Lo P fs) w=t.run (Lo P fs) w)(k:eB P fs t):eB P fs s:=λw n a e=>k w n a ((h w).symm.trans e)
theorem xy{P:aD}{fs:af dK}{fn:dK}{e:af ag->Sem ag}(b:fs[f]?=Z fn)(g:(fn.name== "runtime.NumGoroutine")=Y)(c:fn.body.isNone=U)(h:Extern.findNext fn=I)(d:Extern.find fn=Z e)(a:af ag):eB P fs (gC f a):=by
 refine eB.congr (t:=(mark (.extern f):Sem Unit)>>=λ_=>e a>>=λv=>pure (.value v)) (λw=>?_) (sU λ_=>sU λ_=>vQ F);unfold gC;rw[run_program];simp only[b,g,c,h,d,hZ,if_false,if_true]
theorem anW(a:af ag):eB ak fs (gC 104 a):=xy (fn:=Tryz.f104) al al al al F a
theorem anX(a:af ag):eB ak fs (gC 105 a):=xy (fn:=Tryz.f105) al al al al F a
theorem anZ(a:af ag):eB ak fs (gC 106 a):=xy (fn:=Tryz.f106) al al al al F a
theorem an3(a:af ag):eB ak fs (gC 108 a):=xy (fn:=Tryz.f108) al al al al F a
theorem an4(a:af ag):eB ak fs (gC 140 a):=xy (fn:=Tryz.f140) al al al al F a
theorem an5(a:af ag):eB ak fs (gC 141 a):=xy (fn:=Tryz.f141) al al al al F a
theorem an6(a:af ag):eB ak fs (gC 195 a):=xy (fn:=Tryz.f195) al al al al F a
theorem an7(a:af ag):eB ak fs (gC 203 a):=xy (fn:=Tryz.f203) al al al al F a
theorem an8(a:af ag):eB ak fs (gC 204 a):=xy (fn:=Tryz.f204) al al al al F a
theorem an9(a:af ag):eB ak fs (gC 205 a):=xy (fn:=Tryz.f205) al al al al F a
theorem aoa(a:af ag):eB ak fs (gC 206 a):=xy (fn:=Tryz.f206) al al al al F a
theorem aob(a:af ag):eB ak fs (gC 210 a):=xy (fn:=Tryz.f210) al al al al F a
theorem QG:Bc ak fs:=λf c=>by
 by_cases i:f<225
 ·have h:=ad4 i
  unfold PM at h;rw[Bool.or_eq_true]at h;rcases h with h|h
  ·have:f=104\/f=105\/f=106\/f=108\/f=140\/f=141\/f=195\/f=203\/f=204\/f=205\/f=206\/f=210:=by simpa[Q8]using h
   rcases this with rfl|rfl|rfl|rfl|rfl|rfl|rfl|rfl|rfl|rfl|rfl|rfl
   ·exact anW c
   ·exact anX c
   ·exact anZ c
   ·exact an3 c
   ·exact an4 c
   ·exact an5 c
   ·exact an6 c
   ·exact an7 c
   ·exact an8 c
   ·exact an9 c
   ·exact aoa c
   ·exact aob c
  ·split at h
   ·rename_i a b d m
    rw[Bool.or_eq_true]at h;rcases h with h|h
    ·simp only[gT,Gp]at h
     obtain⟨⟨⟨e,k⟩,j⟩,l⟩:=h;refine eB.congr (t:=pure (.enter f c)) (λw=>?_) (vQ ?_)
     ·unfold gC
      rw[run_program];simp only[d,e,j,hZ,if_false]
     ·show hasB fs f=U
      unfold hasB;rw[d];simpa using e
    ·exact qN (XJ (g:=a) (d.trans (congrArg Z (abF h))) c)
   ·cases h
 ·refine eB.congr (t:=stuck "call: no such function") (λw=>?_) (qN (fL _))
  unfold gC;rw[run_program];simp only[Uq (Nat.le_of_not_lt i)]
end
end
section
open Go.Proofs Go.Extern
def O1:ae Nat:=[3,4,5,6,7,8,9,10,11,12,13,14,15,16,17,18,19,20,21,22,23,24,25,26,27,28,29,31,32,33,34,35,36,37,39,40,41,42,45,47,48,49,50,51,52,53,54,56,58,59,60,61,62,63,64,65,67,68,69,72,73,84,85,86,87,88,89,90,91,92,96,97,98,99,100,101,102,103,104,105,106,107,108,109,115,116,119,120,128,129,130,131,132,133,134,135,136,137,138,139,140,141,152,153,154,155,156,157,158,159,160,161,162,163,164,165,166,167,168,169,170,171,172,173,174,175,176,177,178,179,180,203,204,205,206,210,195]
def Iy:ae Nat:=[30,38,43,44,46,55,57,66]
noncomputable def qB(f:Nat):dK:=if O1.contains f then Tryz.prog.funcs.getD f default else if f==30 then Om else if f==38 then On else if f==43 then TB else if f==44 then KO else if f==46 then l46 else if f==55 then FI else if f==57 then Oo else if f==66 then FJ else c7 (Tryz.prog.funcs.getD f default)
theorem ajk:fs=((qh 225).map qB).toArray:=al
theorem Yz{f:Nat}(h:f<225):fs[f]?=Z (qB f):=by
 rw[ajk];simp[h]
theorem YB{f:Nat}(h:f<225):Tryz.prog.funcs[f]?=Z (Tryz.prog.funcs.getD f default):=by
 have a:f<Tryz.prog.funcs.size:=by rw[Nk];exact h
 rw[xY a,nJ,xY a];rfl
theorem ajl{f:Nat}{a:dK}(h:fs[f]?=Z a):f<225:=by
 have:=(iy.1 h).1;rw[YA]at this;exact this
theorem ark:O1.all (λf=>((Tryz.prog.funcs.getD f default).body.map (jl ak)).getD U)=U:=al
noncomputable def d38:bH:=match Tryz.f38.body with
 |some (.seq _ (.seq _ (.seq _ d)))=>d
 |_=>.skip
noncomputable def EH:bH:=match Tryz.f57.body with
 |some (.seq _ (.seq _ (.seq _ (.seq _ (.seq (.seq _ e) _)))))=>e
 |_=>.skip
noncomputable def EI:bH:=match Tryz.f57.body with
 |some (.seq _ (.seq _ (.seq _ (.seq _ (.seq _ f)))))=>f
 |_=>.skip
inductive tH:Wh->ae aJ->ae aJ->bH->bH->Prop
 |D5 (n:Nat) (h:74<=n):tH (38,n,I) [.code d38] [.code d38] F5 D5
 |Cl (n:Nat) (h:33<=n):tH (57,n,I) [.code EH,.code EI] [.code EH,.code EI] Im Cl
 |pq (n:Nat) (h:25<=n):tH (30,n,I) [] [] Cj pq
abbrev CR(a:Wh):=vu ak (tH a) [] []
theorem arp(f:dK)(h:(f.body.map (jl ak)).getD U=U):jl ak (f.body.getD .skip)=U:=by
 cases hb:f.body with
 |none=>rfl
 |some c=>rw[hb]at h;exact h
theorem ahi(n:Nat)(h:74<=n):CR (38,n,I) (On.body.getD .skip) (Tryz.f38.body.getD .skip):=by
 show CR (38,n,I) (.seq _ (.seq _ (.seq F5 d38))) (.seq _ (.seq _ (.seq D5 d38)));exact .seq (.same _ al) (.seq (.same _ al) (.seq (.spec (.D5 n h)) (.same _ al)))
theorem ahj(n:Nat)(h:33<=n):CR (57,n,I) (Oo.body.getD .skip) (Tryz.f57.body.getD .skip):=by
 show CR (57,n,I) (.seq _ (.seq _ (.seq _ (.seq _ (.seq (.seq Im EH) EI))))) (.seq _ (.seq _ (.seq _ (.seq _ (.seq (.seq Cl EH) EI)))));exact .seq (.same _ al) (.seq (.same _ al) (.seq (.same _ al) (.seq (.same _ al) (.seq (.seq (.spec (.Cl n h)) (.same _ al)) (.same _ al)))))
theorem ahh(n:Nat)(h:25<=n):CR (30,n,I) (Om.body.getD .skip) (Tryz.f30.body.getD .skip):=by
 show CR (30,n,I) (.seq _ (.seq _ Cj)) (.seq _ (.seq _ pq));exact .seq (.same _ al) (.seq (.same _ al) (.spec (.pq n h)))
theorem aiM(P:aD)(f:cH)(a:af ag)(c:dQ){b:dK}(h:P.funcs[f]?=Z b):b.ntmps<=(bO P f a c).tmps.size:=by
 simp only[bO,h,jE,rV,Array.size_append,Array.size_replicate];omega
theorem Na{a b:dK}(o:fs[f]?=Z a)(i:Tryz.prog.funcs[f]?=Z b)(q:a.ntmps=b.ntmps)(e:a.body.isSome=U)(g:b.body.isSome=U)(r:rH ak f=Y)(h:∀n,b.ntmps<=n->CR (f,n,I) (a.body.getD .skip) (b.body.getD .skip))(d:af ag)(c:dQ)(p:c=.normal\/(c=.deferred/\xw ak f=U)):fG ak tH (bO (Lo ak fs) f d c) (bO ak f d c):=by
 obtain⟨j,e⟩:=A7.1 e;obtain⟨k,g⟩:=A7.1 g;have h:=h _ (aiM ak f d c i);rw[e,g]at h;refine⟨[.code j],?_,?_,⟨p,by simp[bO],r⟩,.inl F⟩
 ·have l:(Lo ak fs).funcs[f]?=Z a:=o
  simp only[bO,l,i,jE,wN,e,q,rV]
 ·have m:(bO ak f d c).todo=[.code k]:=by simp only[bO,i,wN,g,rV]
  rw[m];exact .cons (.code h) .nil
theorem QX(f:cH)(d:af ag)(c:dQ)(g:hasB fs f=U)(j:c=.normal\/(c=.deferred/\xw ak f=U)):GL ak fs tH c (bO (Lo ak fs) f d c) (bO ak f d c):=by
 cases qM:rH ak f with
 |true=>exact .inr ⟨f,d,qM,F,F,λh=>j.elim (λe=>by rw[e]at h;cases h) (·.2)⟩
 |false=>
 refine .inl ?_;have m:f<225:=by
  unfold hasB at g;cases h:fs[f]? with
  |none=>rw[h]at g;cases g
  |some a=>exact ajl h
 have k:=Yz m;have p:=YB m;have i:(qB f).body.isSome=U:=by
  unfold hasB at g;rw[k]at g;exact g
 by_cases l:O1.contains f=U
 ·have e:qB f=Tryz.prog.funcs.getD f default:=by unfold qB;rw[if_pos l]
  rw[e]at k i;exact Na k p F i i qM (λn _=>.same _ (arp _ (Ei.1 ark f (by simpa using l)))) d c j
 ·by_cases o:Iy.contains f=U
  ·have:f=30\/f=38\/f=43\/f=44\/f=46\/f=55\/f=57\/f=66:=by simpa[Iy]using o
   rcases this with rfl|rfl|rfl|rfl|rfl|rfl|rfl|rfl
   ·exact Na (a:=Om) (b:=Tryz.f30) al al al al al qM ahh d c j
   ·exact Na (a:=On) (b:=Tryz.f38) al al al al al qM ahi d c j
   ·exact absurd qM (by rw[show rH ak 43=U from by kernel_rfl];simp)
   ·exact absurd qM (by rw[show rH ak 44=U from by kernel_rfl];simp)
   ·exact absurd qM (by rw[show rH ak 46=U from by kernel_rfl];simp)
   ·exact absurd qM (by rw[show rH ak 55=U from by kernel_rfl];simp)
   ·exact Na (a:=Oo) (b:=Tryz.f57) al al al al al qM ahj d c j
   ·exact absurd qM (by rw[show rH ak 66=U from by kernel_rfl];simp)
  ·have e:qB f=c7 (Tryz.prog.funcs.getD f default):=by
    have:¬(f=30\/f=38\/f=43\/f=44\/f=46\/f=55\/f=57\/f=66):=λh=>o (by simpa[Iy]using h);simp only[not_or]at this;unfold qB;simp only[l,this,beq_iff_eq,if_false,hZ]
   rw[e]at i;cases i
theorem PZ(h:xw ak f=U):f=44:=by
 have c:f<225:=by
  unfold xw at h;cases h2:Tryz.prog.funcs[f]? with
  |none=>rw[h2]at h;cases h
  |some a=>have:=(iy.1 h2).1;rw[Nk]at this;exact this
 have b:(qh 225).all (λf=>!(xw ak f)||f==44)=U:=by kernel_rfl
 have:=Ei.1 b f (List.mem_range.2 c);rw[h]at this;simpa using this
theorem call44(p:aD)(a:p=Lo ak fs\/p=ak)(x:af ag)(w:ax):(gC 44 x).runT p w #[]=(.ok (.enter 44 x) w,#[]):=by
 rcases a with rfl|rfl
 ·exact Ch al w #[]
 ·exact Ch al w #[]
theorem aqE(g:dK):(c7 g).results=g.results:=rfl
theorem atM:(qB 30).results=(Tryz.prog.funcs.getD 30 default).results:=al
theorem atN:(qB 38).results=(Tryz.prog.funcs.getD 38 default).results:=al
theorem atO:(qB 43).results=(Tryz.prog.funcs.getD 43 default).results:=al
theorem atP:(qB 44).results=(Tryz.prog.funcs.getD 44 default).results:=al
theorem atQ:(qB 46).results=(Tryz.prog.funcs.getD 46 default).results:=al
theorem atT:(qB 55).results=(Tryz.prog.funcs.getD 55 default).results:=al
theorem atU:(qB 57).results=(Tryz.prog.funcs.getD 57 default).results:=al
theorem atV:(qB 66).results=(Tryz.prog.funcs.getD 66 default).results:=al
theorem atX(f:cH):(fs[f]?=I/\Tryz.prog.funcs[f]?=I)\/∃b g,fs[f]?=Z b/\Tryz.prog.funcs[f]?=Z g/\b.results=g.results:=by
 by_cases a:f<225
 ·refine .inr ⟨_,_,Yz a,YB a,?_⟩
  show(qB f).results=(Tryz.prog.funcs.getD f default).results;by_cases c:O1.contains f=U
  ·unfold qB;rw[if_pos c]
  ·by_cases d:Iy.contains f=U
   ·have:f=30\/f=38\/f=43\/f=44\/f=46\/f=55\/f=57\/f=66:=by simpa[Iy]using d
    rcases this with rfl|rfl|rfl|rfl|rfl|rfl|rfl|rfl
    ·exact atM
    ·exact atN
    ·exact atO
    ·exact atP
    ·exact atQ
    ·exact atT
    ·exact atU
    ·exact atV
   ·have:¬(f=30\/f=38\/f=43\/f=44\/f=46\/f=55\/f=57\/f=66):=λh=>d (by simpa[Iy]using h)
    simp only[not_or]at this;unfold qB;simp only[c,this,beq_iff_eq,if_false,hZ];exact aqE _
 ·exact .inl ⟨Uq (Nat.le_of_not_lt a),by rw[Ef,Nk];exact Nat.le_of_not_lt a⟩
theorem xG:yn ak fs:=by
 refine⟨λg=>?_,by kernel_rfl⟩;unfold Program.stepOf;have a:(Lo ak fs).funcs.all (λf=>match f.body with|some c=>(readies c).isEmpty|none=>U)=U:=by kernel_rfl
 rw[Array.findIdx?_eq_none_iff];intro f d;have:=Array.all_eq_true'.1 a f d;cases hb:f.body with
 |none=>rfl
 |some c=>
  rw[hb]at this;have b:readies c=[]:=List.isEmpty_iff.1 this;simp[b]
theorem Ve(Hid:Loc->Prop):Qo ak fs tH Hid:=⟨xG,Xo,QG,λf a c=>QX f a .normal c (.inl F),λf a b=>QX f a .deferred (by rw[PZ b];kernel_rfl) (.inr ⟨F,b⟩),λf b p d x w=>by rw[PZ b];exact call44 p d x w,atX⟩
end
structure dg where
 S:Nat
 D:Nat
 n:Nat
 st:Bool
def db(s:dg):ag:=.agg #[ptr s.S 0,ai s.n,.bool s.st]
def rQ(k:dU):ag:=.agg #[ay k.D,ay k.T]
structure zO(Hid:Loc->Prop)(w W:ax)(s:dg):Prop where
 lone:∃a b,w.heap[s.D]?=Z (.chan 2 #[db s] Y a b Y)
 real:∃k,W.heap[s.D]?=Z (.chan 0 #[] s.st k k Y)
 sh:w.shape? s.S=Z (109,10)/\W.shape? s.S=Z (109,14)
 done:W.cell? (bn s.S 10)=Z (ay s.D)
 cnt:W.cell? (bn s.S 11)=Z (jD (if s.st then 0 else s.n))
 qW:W.cell? (bn s.S 12)=Z (.int .u32 0)
 stop:W.cell? (bn s.S 13)=Z (.bool s.st)
 bN:∀i,10<=i->i<14->Hid (.cell (bn s.S i))
 le:s.n<=9
structure Mt(Hid:Loc->Prop)(w W:ax)(ss:ae dg)(k:dU):Prop where
 p9:∃s∈ss,s.S=k.S/\s.D=k.D
 work:∃a b,w.heap[k.W]?=Z (.chan 1 #[rQ k] Y a b Y)
 told:∃a b,w.heap[k.T]?=Z (.chan 3 #[] Y a b Y)
 zw:∃j,W.heap[k.T]?=Z (.chan 0 #[] Y j j Y)
 wb:∃a b,w.heap[k.wb]?=Z (.chan 4 #[] Y a b Y)
 rR:W.heap[k.wb]?=Z (.cells #[ay k.W,ay k.T] 142)
 sb:∃a b,w.heap[k.sb]?=Z (.chan 4 #[] Y a b Y)
 uo:W.heap[k.sb]?=Z (.cells #[ptr k.S 0] 39)
 bN:Hid (.cell (bn k.wb 0))/\Hid (.cell (bn k.wb 1))/\Hid (.cell (bn k.sb 0))
inductive Eo(ws:ae dU)(ss:ae dg)(b:Nat):Nat->Prop
 |work (k:dU) (h:k∈ws) (e:b=k.W):Eo ws ss b 1
 |done (s:dg) (h:s∈ss) (e:b=s.D):Eo ws ss b 2
 |told (k:dU) (h:k∈ws) (e:b=k.T):Eo ws ss b 3
 |box:Eo ws ss b 4
 |gate (e:b=bw):Eo ws ss b 5
 |hand (e:b=dO):Eo ws ss b 6
def zu(v:ag):ag:=.iface 3 v
def cY:ae dg->ag
 |[]=>ai 0
 |s::ss=>if s.st then cY ss else zu (cY ss)
theorem aaO:∀ss:ae dg,(cY ss=ai 0\/∃x,cY ss=zu x/\∀o,x≠.chan o)/\∀o,cY ss≠.chan o
 |[]=>⟨.inl F,λo e=>by cases e⟩
 |s::ss=>by
  have h:=aaO ss;simp only[cY];split
  ·exact h
  ·exact⟨.inr ⟨_,F,h.2⟩,λo e=>by cases e⟩
theorem TO{f}:∀{ss},(∀s∈ss,(f s).st=s.st)->cY (ss.map f)=cY ss
 |[],_=>rfl
 |s::ss,h=>by
  simp only[fw,cY];rw[h s ba,TO λx a=>h x (by simp[a])]
theorem abr{f:dg->dg}(h:∀s,(f s).S=s.S)(ss:ae dg):(ss.map f).map (·.S)=ss.map (·.S):=by
 simp_all
structure fO(Hid:Loc->Prop)(main:Bool)(ws:ae dU)(ss:ae dg)(w W:ax):Prop where
 s:∀s∈ss,zO Hid w W s
 k:∀k∈ws,Mt Hid w W ss k
 chans:∀b cap buf cl x y tm,w.heap[b]?=Z (.chan cap buf cl x y tm)->cl=Y/\tm=Y/\Eo ws ss b cap/\(cap=4->buf=#[])
 gate:∃a b,w.heap[bw]?=Z (.chan 5 (if main then#[cY ss]else#[]) Y a b Y)
 hand:∃v a b,w.heap[dO]?=Z (.chan 6 #[v] Y a b Y)/\(v=.chan I\/∃s∈ss,v=ay s.D)
 DF:∀k∈ws,∀k'∈ws,k.W=k'.W->k=k'
 DD:∀k∈ws,∀k'∈ws,k.T=k'.T->k=k'
 AF:∀k∈ws,∀k'∈ws,k.g=k'.g->k=k'
 yZ:∀s∈ss,∀s'∈ss,s.D=s'.D->s=s'
 u5:∀s∈ss,∀s'∈ss,s.S=s'.S->s=s'
 count:∀s∈ss,(ws.filter λk=>k.S==s.S).length=s.n
 nodup:ws.Nodup
 B6:(ss.map (·.S)).Nodup
section
variable {Hid:Loc->Prop}{main:Bool}{ws:ae dU}{ss:ae dg}{w W V X:ax}
theorem iS.DJ(K:iS w W V X){c s:Nat}{a}{d tm}(h:w.heap[b]?=Z (.chan c a d s r tm)):V.heap[b]?=Z (.chan c a d s r tm):=(K.chan b _ h F).1
theorem iS.FH(K:iS w W V X){c s:Nat}{a}{d tm}(h:w.heap[b]?=Z (.chan c a d s r tm)):X.heap[b]?=W.heap[b]?:=(K.chan b _ h F).2
theorem NX(b:Rel (bS ak) Hid w W)(K:iS w W V X){a}(h:Hid (.cell a)):X.cell? a=W.cell? a:=(K.cell a (b.m9 a h).1 (b.m9 a h).2).2
theorem wq{w:ax}{b}{x}(h:w.shape? b=Z x):b<w.heap.size:=by
 unfold fF at h;cases hb:w.heap[b]? with
 |none=>rw[hb]at h;cases h
 |some o=>grind
theorem fO.keep(L:fO Hid main ws ss w W)(e:Rel (bS ak) Hid w W)(K:iS w W V X):fO Hid main ws ss V X:=by
 refine⟨λs B=>?_,λk f=>?_,λb z u C x y tm A=>L.chans b _ _ _ x y _ (K.OJ b _ A F),?_,?_,L.DF,L.DD,L.AF,L.yZ,L.u5,L.count,L.nodup,L.B6⟩
 ·have l:=L.s s B
  obtain⟨a,b,i⟩:=l.lone;obtain⟨k,f⟩:=l.real;refine⟨⟨a,b,K.DJ i⟩,⟨k,by rw[K.FH i];exact f⟩,?_,?_,?_,?_,?_,l.bN,l.le⟩
  ·obtain⟨c,d⟩:=K.shape _ (wq l.sh.1)
   rw[c,d];exact l.sh
  ·rw[NX e K (l.bN _ ah ah)];exact l.done
  ·rw[NX e K (l.bN _ ah ah)];exact l.cnt
  ·rw[NX e K (l.bN _ ah ah)];exact l.qW
  ·rw[NX e K (l.bN _ ah ah)];exact l.stop
 ·have l:=L.k k f
  obtain⟨j,p,c⟩:=l.work;obtain⟨m,q,d⟩:=l.told;obtain⟨n,r,g⟩:=l.wb;obtain⟨o,t,h⟩:=l.sb;exact⟨l.p9,⟨j,p,K.DJ c⟩,⟨m,q,K.DJ d⟩,by rw[K.FH d];exact l.zw,⟨n,r,K.DJ g⟩,by rw[K.FH g];exact l.rR,⟨o,t,K.DJ h⟩,by rw[K.FH h];exact l.uo,l.bN⟩
 ·obtain⟨a,b,c⟩:=L.gate
  exact⟨a,b,K.DJ c⟩
 ·obtain⟨v,a,b,c,d⟩:=L.hand
  exact⟨v,a,b,K.DJ c,d⟩
theorem zO.cells{s}(l:zO Hid w W s)(f:Rel (bS ak) Hid w W):∃d:af ag,d.size=14/\W.heap[s.S]?=Z (.cells d 109):=by
 obtain⟨a,b⟩:=l.sh;have aC:=wq a;cases ho:w.heap[s.S]? with
 |none=>simp_all
 |some o=>
  obtain⟨O,g,e⟩:=f.obj _ _ ho;unfold fF at a b;rw[ho]at a;cases e with
  |same=>simp_all
  |cut c d t _ _ _=>
   simp_all
  |k8=>cases a
  |view=>cases a
theorem xe{W}{b i}{d}{t}{v}(h:W.heap[b]?=Z (.cells d t))(a:W.cell? (bn b i)=Z v):eQ W (bn b i) v (Z (t,d.size)):=by
 refine⟨a,?_,?_⟩
 ·unfold qj;rw[h];simp
 ·show W.shape? b=_
  unfold fF;rw[h]
theorem zO.at{s}(l:zO Hid w W s)(c:Rel (bS ak) Hid w W){i}{v}(a:W.cell? (bn s.S i)=Z v):eQ W (bn s.S i) v (Z (109,14)):=by
 obtain⟨d,b,h⟩:=l.cells c;have:=xe h a;rw[b]at this;exact this
theorem fO.wK(L:fO Hid main ws ss w W)(f:Rel (bS ak) Hid w W){k}(e:k∈ws):wK k W:=by
 have l:=L.k k e;obtain⟨s,g,c,d⟩:=l.p9;have b:=L.s s g;have a:=b.at f b.done;rw[c,d]at a;refine⟨xe l.rR ?_,xe l.rR ?_,xe l.uo ?_,a⟩
 ·unfold fU;rw[l.rR];rfl
 ·unfold fU;rw[l.rR];rfl
 ·unfold fU;rw[l.uo];rfl
end
noncomputable def dY(o:jj)(k:dU)(N:Nat)(f:ag)(a:ae aA)(B:Nat):YS:={s:=Seat.one k.T (ai 0) Y (λg=>g=rG o k.W k.T N f a),own:=k.T,K:=λw=>eQ w (bn N 1) (ay k.T) (Z (142,2)),St:=λl=>l=.cell (bn N 1),B:=B}
structure wU where
 o:jj
 k:dU
 A':aA
 L':ae aA
 A:aA
 N:Nat
 f:ag
 B4:ae aA
noncomputable def yA:af bq:=#[aP 4 (.call {callee:=.value (tm 1),args:=#[],argTypes:=#[]}),ep (.send (kc gN) (tm 3))]
noncomputable def u7(o:jj)(k:dU)(N:Nat)(f g:ag)(s:dg):aA:=⟨66,⟨[.agg #[ay k.W,ay k.T],f,ay N,g,o.t 2,ay k.W,ay k.T,.bool Y,ay k.D,.bool U,db s]++o.l⟩,[.inRegion yA [0,1],.code .ret],[],.run,.normal,I⟩
structure eC where
 fr':aA
 cs':ae aA
 w:ax
 h:Nat
 fr:aA
 cs:ae aA
 gs:af aH
 W:ax
 sl:aj (Nat×Nat)
 T:ed
 q:Nat->Nat
 m:fT
 B:Nat
 St:Nat->Loc->Prop
 At:Nat->Loc->Prop
 Shun:Loc->Prop
 Hid:Loc->Prop
 ao:Nat->aj YS
 ws:ae dU
 ss:ae dg
 dN:aj wU
def eC.cu(s:eC):ik:=⟨s.fr',s.cs',s.w⟩
def eC.E(s:eC)(b:aA)(c:ae aA)(a:aA)(l:ae aA):Prop:=match s.dN with
 |none=>False
 |some j=>b=j.A'/\c=j.L'/\a=j.A/\l=[wrap]
structure Core(Hid:Loc->Prop)(St At:Nat->Loc->Prop)(Shun:Loc->Prop)(ao:Nat->aj YS)(ws:ae dU)(ss:ae dg)(dN:aj wU)(B n:Nat)(w W:ax):Prop where
 rel:Rel (bS ak) Hid w W
 ft:fO Hid dN.isNone ws ss w W
 low:W.heap.size<=B
 rN:∀g l,St g l->Hid l/\∃a,l=.cell a/\a.off<=10
 mO:∀l,Shun l↔∃s∈ss,l=.cell (bn s.S 11)\/l=.cell (bn s.S 12)
 zX:∀k∈ws,∀l,P5 k l->At k.g l
 Bq:∀g l,At g l->Shun l
 cS:∀k∈ws,∀l,uC k l->St k.g l
 zl:∀k∈ws,∀s∈ss,s.S=k.S->s.st=Y->∃B0,ao k.g=Z (wY k B0)/\P6 k B0
 gone:∀k∈ws,∀s∈ss,s.S=k.S->s.st=U->ao k.g=I
 zj:∀i y,ao i=Z y->(∃k∈ws,∃s∈ss,s.S=k.S/\s.st=Y/\k.g=i/\∃B0,y=wY k B0)\/∃j,dN=Z j/\i=0/\∃B0,y=dY j.o j.k j.N j.f j.B4 B0
 g0:∀k∈ws,k.g≠0/\k.g<n
 BX:∀j,dN=Z j->j.k∈ws/\(∃s∈ss,s.S=j.k.S/\s.st=Y)/\(∃B0,ao 0=Z (dY j.o j.k j.N j.f j.B4 B0))/\(∃a b,w.heap[j.N]?=Z (.chan 4 #[] Y a b Y))/\W.heap[j.N]?=Z (.cells #[ay j.k.W,ay j.k.T] 142)/\Hid (.cell (bn j.N 1))/\∃s,j.A'=u7 j.o j.k j.N j.f (cY ss) s
structure Base(s:eC):Prop where
 bX:stepT ak s.m=runT ak (crowd s.gs s.W s.sl) s.h
 hold:fg ak s.St s.At s.Shun s.ao s.h s.B s.T s.gs s.W s.q
 top:s.gs[s.h]?=Z (G s.fr s.cs)
 apX:∃w0 Vl,s.m=crowd s.gs w0 Vl
 core:Core s.Hid s.St s.At s.Shun s.ao s.ws s.ss s.dN s.B s.gs.size s.w s.W
def Off(w:ax)(b:Nat):Prop:=(∃u,w.heap[b]?=Z (.view ⟨0,0,Z 0⟩ u))\/b=bw\/b=dO
structure mU(w W w' W':ax):Prop where
 v:∀(b:Nat)(u:aK),w.heap[b]?=Z (.view ⟨0,0,Z 0⟩ u)->w'.heap[b]?=Z (.view ⟨0,0,Z 0⟩ u)
 r:∀b:Nat,Off w b->W'.heap[b]?=W.heap[b]?
 sz:w.heap.size<=w'.heap.size
 sh:∀b:Nat,b<w.heap.size->W'.shape? b=W.shape? b
theorem mU.refl(w W):mU w W w W:=⟨λ_ _ h=>h,λ_ _=>rfl,dt _,λ_ _=>rfl⟩
theorem mU.trans{a A b B c C}(h:mU a A b B)(k:mU b B c C):mU a A c C:=⟨λx u e=>k.v x u (h.v x u e),λx o=>(k.r x (o.imp (λ⟨u,e⟩=>⟨u,h.v x u e⟩) id)).trans (h.r x o),rU h.sz k.sz,λx d=>(k.sh x (pA d h.sz)).trans (h.sh x d)⟩
theorem mU.at{a A b B}(h:mU a A b B)(d):mU a A b (B.at d):=⟨h.v,h.r,h.sz,h.sh⟩
theorem mU.re{a A b B}(h:mU a A b B)(t)(d):mU a A (YtgahemdblfapeaaGreatDoor.re b t d) B:=⟨h.v,h.r,h.sz,h.sh⟩
theorem iS.dead{Hid}{a}{ws}{ss}{w W V X}(K:iS w W V X)(L:fO Hid a ws ss w W):mU w W V X:=by
 refine⟨λb u h=>(K.chan b _ h F).1,λb o=>?_,K.size,λb c=>(K.shape b c).2⟩;rcases o with⟨u,h⟩|rfl|rfl
 ·exact(K.chan b _ h rfl).2
 ·obtain⟨_,_,h⟩:=L.gate
  exact(K.chan _ _ h rfl).2
 ·obtain⟨_,_,_,h,_⟩:=L.hand
  exact(K.chan _ _ h rfl).2
def Real(s a:eC):Prop:=(∃N,iz ak N s.m s.T=(.next a.m,a.T))/\mU s.w s.W a.w a.W
theorem Real.refl(s):Real s s:=⟨⟨0,F⟩,.refl .. ⟩
theorem Real.trans{a b c}(h:Real a b)(k:Real b c):Real a c:=let⟨⟨n,f⟩,d⟩:=h;let⟨⟨m,e⟩,g⟩:=k;⟨⟨n+m,kK f e⟩,d.trans g⟩
section
variable {Hid:Loc->Prop}{St At:Nat->Loc->Prop}{Shun:Loc->Prop}{ao:Nat->aj YS}{ws:ae dU}{ss:ae dg}{dN:aj wU}{B n:Nat}{w W V X:ax}
theorem Core.U'(C:Core Hid St At Shun ao ws ss dN B n w W){l}(h:Shun l):Hid l:=by
 obtain⟨s,a,e⟩:=(C.mO l).1 h;rcases e with rfl|rfl
 ·exact(C.ft.s s a).bN _ ah ah
 ·exact(C.ft.s s a).bN _ ah ah
theorem Core.acZ(C:Core Hid St At Shun ao ws ss dN B n w W){i}{y}{c}(p:ao i=Z y)(g:y.s.has c):∃f e a b,w.heap[c]?=Z (.chan f e Y a b Y):=by
 rcases C.zj i y p with⟨k,d,s,x,r,t,u,l,rfl⟩|⟨j,q,rfl,l,rfl⟩
 ·rcases(A0 k _).1 g with rfl|rfl
  ·obtain⟨a,b,h⟩:=(C.ft.k k d).work;exact⟨_,_,a,b,h⟩
  ·obtain⟨z,m,v,o⟩:=(C.ft.k k d).p9
   obtain⟨a,b,h⟩:=(C.ft.s _ m).lone;rw[o]at h;exact⟨_,_,a,b,h⟩
 ·obtain⟨d,_⟩:=C.BX j q
  have:=Seat.one_has.1 g;subst this;obtain⟨a,b,h⟩:=(C.ft.k _ d).told;exact⟨_,_,a,b,h⟩
theorem Core.keeps(C:Core Hid St At Shun ao ws ss dN B n w W)(K:iS w W V X)(f:Rel (bS ak) Hid V X){i}{y}(l:ao i=Z y):y.K X:=by
 have e:=C.ft.keep C.rel K;rcases C.zj i y l with⟨k,o,s,t,p,q,r,d,rfl⟩|⟨j,m,rfl,d,rfl⟩
 ·exact e.wK f o
 ·obtain⟨_,_,_,⟨a,b,g⟩,h,_⟩:=C.BX j m
  have c:X.heap[j.N]?=Z (.cells #[ay j.k.W,ay j.k.T] 142):=by rw[K.FH g];exact h
  exact xe c (by unfold fU;rw[c];rfl)
theorem Core.keep(C:Core Hid St At Shun ao ws ss dN B n w W)(K:iS w W V X)(e:Rel (bS ak) Hid V X){c}(l:X.heap.size<=c):Core Hid St At Shun ao ws ss dN c n V X:=⟨e,C.ft.keep C.rel K,l,C.rN,C.mO,C.zX,C.Bq,C.cS,C.zl,C.gone,C.zj,C.g0,λj m=>by
                                                                                                                                                                 obtain⟨f,g,h,⟨a,b,d⟩,i,k⟩:=C.BX j m;exact⟨f,g,h,⟨a,b,K.DJ d⟩,by rw[K.FH d];exact i,k⟩⟩
theorem Core.re(C:Core Hid St At Shun ao ws ss dN B n w W)(d):Core Hid St At Shun ao ws ss dN B n (re w W.tape d) (W.at d):=by
 have b:Rel (bS ak) Hid (YtgahemdblfapeaaGreatDoor.re w W.tape d) (W.at d):=⟨C.rel.size,F,F,C.rel.os,C.rel.output,C.rel.obj,C.rel.m9,C.rel.pM⟩;refine⟨b,?_,C.low,C.rN,C.mO,C.zX,C.Bq,C.cS,C.zl,C.gone,C.zj,C.g0,C.BX⟩;exact⟨λs c=>let l:=C.ft.s s c;⟨l.lone,l.real,l.sh,l.done,l.cnt,l.qW,l.stop,l.bN,l.le⟩,λk a=>let l:=C.ft.k k a;⟨l.p9,l.work,l.told,l.zw,l.wb,l.rR,l.sb,l.uo,l.bN⟩,C.ft.chans,C.ft.gate,C.ft.hand,C.ft.DF,C.ft.DD,C.ft.AF,C.ft.yZ,C.ft.u5,C.ft.count,C.ft.nodup,C.ft.B6⟩
end
theorem settle{St At}{Shun}{ao}{h B}{T}{c}{W}{q}{sl}{f}{e}(C:fg ak St At Shun ao h B T c W q)(r:c[h]?=Z (G f e)){Hid}{ws}{ss}{dN}{w}
  (K:Core Hid St At Shun ao ws ss dN B c.size w W)(b)(a):
  ∃s:eC,Base s/\(∃N,iz ak N (crowd c W sl) T=(.next s.m,s.T))/\s.fr'=b/\s.cs'=a/\s.fr=f/\s.cs=e/\s.h=h/\s.dN=dN/\s.ws=ws/\s.ss=ss/\(∃t d,s.w=re w t d)/\s.gs.size=c.size/\∃d,s.W=W.at d:=by
 obtain⟨N,v,j,k,d,u,x,l,m,i,o,p,g⟩:=C.ready _ T _ W q _ F _ r F;refine⟨⟨b,a,re w W.tape d,h,f,e,k,W.at d,u,j,x,v,B,St,At,Shun,Hid,ao,ws,ss,dN⟩,⟨m,p,o,g,?_⟩,⟨N,l⟩,F,F,F,F,F,F,F,F,⟨_,_,F⟩,i,_,F⟩;have:=K.re d;rw[<-i]at this;exact this
theorem Base.go{s}(b:Base s){l}{v}{V X}{H}(hs:aE ak (s.h==0) (G s.fr s.cs) s.W=dZ l v X H)(C:Rel (bS ak) s.Hid V X)(K:iS s.w s.W V X)(he:∀e∈H,rk s.Hid V.heap.size e)(Q)(R):∃j:eC,Base j/\Real s j/\j.fr'=Q/\j.cs'=R/\j.fr=l/\j.cs=v/\j.h=s.h/\j.dN=s.dN/\j.ws=s.ws/\j.ss=s.ss/\(∃t d,j.w=re V t d):=by
 have hB:s.B<=max s.B X.heap.size:=Nat.le_max_left ..;have bJ:=C.size;have hd:DY s.St s.ao s.Shun (max s.B X.heap.size) s.W X H:=by
  refine⟨λi y c A hc=>?_,λi y A _=>b.core.keeps K C A,λe hE=>?_⟩
  ·obtain⟨P,O,x,z,h⟩:=b.core.acZ A hc
   exact K.FH h
  ·have u:=he e hE
   obtain⟨E,wr,sy⟩:=e;cases E with
   |cell a=>
    obtain⟨o,q,J⟩:=u;refine⟨λx k=>?_,by simp,by simp,?_⟩
    ·simp only[gI,lS,gB]at k
     subst k;exact⟨λg m=>absurd (b.core.rN g _ m).1 o,λm=>absurd (b.core.U' m) o⟩
    ·show a.block<_
     omega
   |obj r=>
    obtain⟨o,q⟩:=u;have sI:r<max s.B X.heap.size:=by omega
    have D:∀x:Touch,x.loc=.obj r->Bo s.St s.Shun x:=λx L=>by
     refine⟨λg m=>?_,λm=>?_⟩
     ·obtain⟨a,e,_⟩:=(b.core.rN g _ m).2
      rw[L]at e;cases e
     ·obtain⟨s0,_,e⟩:=(b.core.mO _).1 m
      rw[L]at e;rcases e with e|e<;>cases e
    cases sy<;>cases wr<;>first
     |exact⟨λx k=>by simp only[gI,lS,gB]at k;subst k;exact D _ rfl,by simp,by simp,sI⟩
     |(simp at q)
   |mark mk=>
    cases mk with
    |extern f=>exact⟨λx k=>by simp[gI,lS]at k,by simp,by simp,trivial⟩
    |noRoom=>exact⟨λx k=>by simp[gI,lS]at k,by simp,by simp,trivial⟩
    |_=>exact u.elim
   |_=>exact u.elim
 obtain⟨o,q,J,h4⟩:=b.hold.own hB b.top hd;have M:=wQ (sl:=s.sl) b.top hs;have hK:Core s.Hid s.St s.At s.Shun s.ao s.ws s.ss s.dN (max s.B X.heap.size) (((s.gs.map (eP ak (G s.fr s.cs) (G l v) X)).setIfInBounds s.h (G l v)).size) V X:=by
  have:=b.core.keep K C (Nat.le_max_right s.B _);rw[J];exact this
 obtain⟨j,hb,⟨N,hN⟩,S,T,e3,e4,e5,e6,e7,e8,p,_,dW,eW⟩:=settle o q hK ..;refine⟨j,hb,⟨⟨N+1,?_⟩,?_⟩,S,T,e3,e4,e5,e6,e7,e8,p⟩
 rotate_left
 ·obtain⟨t,d,p⟩:=p
  rw[eW,p];exact((K.dead b.core.ft).at _).re ..
 simp only[iz,b.bX,M];exact hN
noncomputable abbrev LL:aD:=Lo ak fs
section
variable {R:ag->ax->Prop}{O:aA}{V:ae aA}{w:ax}{n:Nat}{T:fT}
theorem U5{L}{m c}{k}(a:dG L n m=.next T)(i:wW L R T)(h:dG L k m=.next c)(l:∀O w,c≠lone O [] w):∃b,n=k+b/\dG L b c=.next T:=by
 have j:k<=n:=by
  refine Nat.le_of_not_lt λaC=>?_;obtain⟨O,w,o,p,d,e⟩:=i.ends;by_cases g:k=n+1
  ·rw[g,wc a,d]at h
   exact l _ w (Stepped.next.inj h).symm
  ·obtain⟨b,f⟩:∃b,k=n+2+b:=⟨k-(n+2),by omega⟩
   rw[f,runN_ended]at h
   ·cases h
   ·rw[wc a,e]
 obtain⟨b,rfl⟩:∃b,n=k+b:=⟨n-k,by omega⟩;rw[wc h]at a;exact⟨b,F,a⟩
theorem KX{O}{V}{w}(h:V≠[])(a)(b):lone O V w≠lone a [] b:=λe=>h (by
 have:=congrArg (λm:fT=>(m.gs[0]?).map (·.callers)) e;simpa[lone]using this)
theorem Ls{L}(i:dG L n (lone O V w)=.next T)(h:wW L R T)(k){c}{a}(j:aN L k (G O V)=G c a)(e:a≠[]):∃b,b<=n/\dG L b (lone c a w)=.next T:=by
 obtain⟨m,d,_⟩:=Ow k _ _ w;rw[j]at d;have f:=d w.tape w.drawn;obtain⟨b,l,g⟩:=U5 i h f (KX e);exact⟨b,by omega,g⟩
def MA(R:ag->ax->Prop)(n:Nat)(T:fT):Prop:=∃b a c d,b<=n/\dG LL b (lone a c d)=.next T/\IP ak LL a c/\iW ak d
theorem OV{s}(K:eV LL (G O V)=Z s)(P:tw ak O)(z:Below ak LL V)(H:∀x d,s.run LL w=.halt x d->iW ak d)(c:dG LL n (lone O V w)=.next T)(r:wW LL R T):(∃v d,s.run LL w=.ok v d)\/MA R n T:=by
 cases aL:s.run LL w with
 |ok v d=>simp
 |halt x d=>
  right;obtain⟨S,W,b,i,rest,k,a,X,j,o,e,bj,t,M,D⟩:=ze K;cases e;have A:bR ⟨S,W,.inRegion b (i::rest)::k,a,.run,X,I⟩=bR ⟨S,W,[],a,.run,X,I⟩:=funext λx=>by cases x<;>rfl
  have step:aE LL U (G ⟨S,W,.inRegion b (i::rest)::k,a,.run,X,I⟩ V) w=iA LL U ⟨S,W,.inRegion b (i::rest)::k,a,.run,X,I⟩ V I s w:=by
   simp only[G,aE,cf,t,jE,M,rV,if_true];unfold stepG.oper;simp only[Frame.oper?,t,A,D]
  have l:=Px (fr':=⟨S,W,.inRegion b (i::rest)::k,a,.run,X,I⟩) (cs':=V) xG aL;rw[<-step]at l;cases n with
  |zero=>
   simp only[dG,yc]at c;subst c;obtain⟨B,f,v,E,J,_⟩:=r;have N:=congrArg (λm:fT=>(m.gs[0]?).map (·.frame.mode)) E;have:B.mode=.run:=by simpa[lone]using N.symm
   rw[J.1]at this;cases this
  |succ n=>
   simp only[dG]at c;rcases l with⟨dF,dw,f,p,e⟩|⟨o2,f,p,e⟩|⟨g,f,p,e,q⟩
   ·rw[fe e]at c
    rw[step]at e;obtain⟨vs,rfl,L,rfl,rfl⟩:=NF xG aL e;exact⟨n,_,_,_,wM n,c,.top (P.raise L) (raise_mode .. ) z,H _ _ aL⟩
   ·obtain⟨o3,w3,y⟩:=Cq (by rw[e];rfl)
    rw[y]at c;cases c
   ·have u:g.status≠.finished:=by
     rcases q with⟨h,_⟩|⟨h,_⟩|⟨h,_⟩<;>rw[h]<;>simp
    have C:Go.step LL (lone ⟨S,W,.inRegion b (i::rest)::k,a,.run,X,I⟩ V w)=.next (lu g f):=LG rfl e u
    rw[C]at c;exact absurd ⟨n,T,c,r⟩ (QS q)
theorem Pk{s}{v}{a}{g'}(r:eV LL (G O V)=Z s)(d:mj LL (G O V) v=Z g')(q:s.run LL w=.ok v a)(p:dG LL n (lone O V w)=.next T)(m:wW LL R T)(g:g'.callers≠[]):∃b,b<=n/\dG LL b (lone g'.frame g'.callers a)=.next T:=by
 have f:s.runT LL w #[]=(.ok v a,s.events LL w #[]):=by rw[jN,q]
 have e:=(AO (main:=U) r d f).2;have o:∃t c,g'=G t c:=by
  obtain⟨⟨u,h⟩,_,l⟩:=fX.1 d;exact⟨u,h,l.symm⟩
 obtain⟨t,c,rfl⟩:=o;have i:dG LL 1 (lone O V w)=.next (lone t c a):=by
  simp only[dG];rw[fe e]
 obtain⟨b,x,j⟩:=U5 p m i (KX g);exact⟨b,by omega,j⟩
end
inductive fB{α:Type}:Sem α->Prop
 |pure (a:α):fB (.pure a)
 |load (m:Mode) (a:aU) {k:ag->Sem α} (h:∀v,fB (k v)):fB (.load m a k)
 |store (m:Mode) (a:aU) (v:ag) {k:Sem α} (h:fB k):fB (.store m a v k)
 |shape (r:Nat) {k:aj (aK×Nat)->Sem α} (h:∀v,fB (k v)):fB (.shape r k)
 |frozen (a:aU) {k:Bool->Sem α} (h:∀v,fB (k v)):fB (.frozen a k)
 |program {k:aD->Sem α} (h:∀v,fB (k v)):fB (.program k)
 |mark (m:Mark) {k:Sem α} (h:fB k):fB (.mark m k)
 |halt (h:Halt):fB (.halt h)
theorem fB.bind{α β}{s}(h:fB s){k:α->Sem β}(c:∀a,fB (k a)):fB (s>>=k):=by
 show fB (s.bind k);induction h with
 |pure a=>exact c a
 |load m a h b=>exact .load m a b
 |store m a v h b=>exact .store m a v b
 |shape r h b=>exact .shape r b
 |frozen a h b=>exact .frozen a b
 |program h b=>exact .program b
 |mark m h b=>exact .mark m b
 |halt h=>exact .halt h
theorem alg{P}{w}(h:iW P w)(b)(o)(c:∀Q,o≠.deferred (Z Q)):iW P {w with heap:=w.heap.setIfInBounds b o}:=λi Q a=>by
 rw[uF]at a;split at a
 ·simp_all
 ·exact h i _ a
theorem alh{P}{w}(h:iW P w)(a)(v):iW P (w.setCell a v):=λi Q b=>by
 have b:(w.heap.modify a.block _)[i]?=Z (.deferred (Z Q)):=b;rw[Gm]at b;split at b
 ·obtain⟨o,c,e⟩:=fX.1 b
  cases o<;>first|(cases e;done)|skip
  rename_i x;cases e;exact h i _ c
 ·exact h i _ b
theorem ai5{P p}{w d}{a}{v}{b}{l}(h:iW P w)(e:w.farStore p a v b=.ok (d,l)):iW P d:=by
 unfold World.farStore at e;split at e
 ·split at e
  ·rename_i r c
   cases e;unfold World.viewStore at c;simp only[bind,Except.bind,throw]at c
   repeat'(split at c)
   all_goals first
    |(cases c;done)
    |(cases c;exact alg h _ _ (λQ f=>by cases f))
  ·cases e
 ·cases e
theorem fB.heap{P p}{α}{s:Sem α}(g:fB s):∀w,iW P w->(∀v e,s.run p w=.ok v e->iW P e)/\∀x e,s.run p w=.halt x e->iW P e:=by
 induction g with
 |pure a=>simp
 |load m a d b=>
  intro w h;unfold bP;cases w.cell? a with
  |some v=>exact b v w h
  |none=>
   grind
 |store m a v d b=>
  intro w h;cases v<;>simp only[bP]<;>first
   |simp_all
   |(cases w.cell? a with
     |some c=>
      dsimp only
      split
      ·simp_all
      ·exact b _ (alh h a _)
     |none=>
      dsimp only
      split
      ·rename_i f
       exact b _ (ai5 h f)
      ·simp_all)
 |shape r d b=>intro w h;exact b _ w h
 |frozen a d b=>intro w h;exact b _ w h
 |program d b=>intro w h;exact b p w h
 |mark m d b=>intro w h;exact b w h
 |halt x=>simp
section
variable {R:ag->ax->Prop}{V:ae aA}{w:ax}{n:Nat}{T:fT}{S:cH}{W:af ag}{k:ae aJ}{Q:ae cz}{X:dQ}
theorem U4{L}{c}{s}(a:dG L n (lone ⟨S,W,.code (.cond c .skip (.refuse s))::k,Q,.run,X,I⟩ V w)=.next T)(p:wW L R T):bR ⟨S,W,[],Q,.run,X,I⟩ c=.bool U/\∃b,b<=n/\dG L b (lone ⟨S,W,.code .skip::k,Q,.run,X,I⟩ V w)=.next T:=by
 have f:bR ⟨S,W,.code (.cond c .skip (.refuse s))::k,Q,.run,X,I⟩ c=bR ⟨S,W,[],Q,.run,X,I⟩ c:=by cases c<;>rfl
 cases n with
 |zero=>
  exfalso;simp only[dG,yc]at a;subst a;obtain⟨g,q,v,i,j,_⟩:=p;have l:=congrArg (λm:fT=>(m.gs[0]?).map (·.frame.mode)) i;have:g.mode=.run:=by simpa[lone]using l.symm
  rw[j.1]at this;cases this
 |succ n=>
  simp only[dG]at a;have d:u6 (aE L U (G ⟨S,W,.code (.cond c .skip (.refuse s))::k,Q,.run,X,I⟩ V) w)=U->False:=λh=>by
   obtain⟨o,q,e⟩:=Cq h;rw[e]at a;cases a
  cases hv:bR ⟨S,W,[],Q,.run,X,I⟩ c with
  |bool b=>
   cases b with
   |true=>
    have:aE L U (G ⟨S,W,.code (.cond c .skip (.refuse s))::k,Q,.run,X,I⟩ V) w=dZ ⟨S,W,.code .skip::k,Q,.run,X,I⟩ V w #[]:=by
     simp[G,aE,cf,f,hv]
    rw[fe this]at a;exact⟨F,n,wM n,a⟩
   |false=>
    exfalso;have r:aE L U (G ⟨S,W,.code (.cond c .skip (.refuse s))::k,Q,.run,X,I⟩ V) w=dZ ⟨S,W,.code (.refuse s)::k,Q,.run,X,I⟩ V w #[]:=by
     simp[G,aE,cf,f,hv]
    rw[fe r]at a;cases n with
    |zero=>
     simp only[dG,yc]at a;subst a;obtain⟨g,q,v,i,j,_⟩:=p;have l:=congrArg (λm:fT=>(m.gs[0]?).map (·.frame.mode)) i;have:g.mode=.run:=by simpa[lone]using l.symm
     rw[j.1]at this;cases this
    |succ n=>
     cases a
  |_=>exact(d (by simp[G,aE,cf,f,hv,u6])).elim
end
section
variable {R:ag->ax->Prop}{X:ae aA}{w:ax}{n:Nat}{V:fT}{W:dQ}
theorem V6{p}{s}{v}{a}(h:(do pure (mR (<-s)):Sem Next).run p w=.ok v a):∃x,v=.value x/\s.run p w=.ok x a:=by
 rw[oh]at h;cases hs:s.run p w with
 |ok x b=>simp_all
 |halt x b=>rw[hs]at h;cases h
theorem avC{p}{s}{v}{a}(h:(do s;pure Next.skip:Sem Next).run p w=.ok v a):v=.skip/\s.run p w=.ok () a:=by
 rw[oh]at h;cases hs:s.run p w with
 |ok x b=>simp_all
 |halt x b=>rw[hs]at h;cases h
theorem axU(t):fB (isAgg t):=by
 refine fB.bind ?_ λu=>?_
 ·
  refine fB.bind (.program λp=>.pure p) λp=>?_;split
  ·exact .pure _
  ·exact .halt _
 ·split<;>exact .pure _
theorem ad3(t):fB (sizeOf t):=by
 refine fB.bind (fB.bind (.program λp=>.pure p) λp=>?_) λi=>.pure _;split
 ·exact .pure _
 ·exact .halt _
theorem ad2(a):∀(n i)(b),fB (loadCellsFrom a i n b)
 |0,_,_=>.pure _
 |n+1,i,b=>by
  exact fB.bind (.load _ _ λv=>.pure v) λv=>ad2 a n ..
theorem VQ(a):∀(l)(i),fB (storeCells a l i)
 |[],_=>by exact .pure _
 |v::l,i=>by
  exact fB.bind (.store _ _ _ (.pure _)) λ_=>VQ a l _
theorem ad0(v):fB (Instr.sureAddr v):=by
 unfold Instr.sureAddr;split
 ·exact .pure _
 ·exact .halt _
theorem axV(t)(v):fB (uG t v):=by
 refine fB.bind (ad0 v) λa=>fB.bind (axU t) λb=>?_;split
 ·exact fB.bind (ad3 t) λn=>fB.bind (ad2 a .. ) λc=>.pure _
 ·exact .load _ _ λv=>.pure v
theorem axW(t)(v x):fB (Instr.storeAt t v x):=by
 refine fB.bind (ad0 v) λa=>fB.bind (ad3 t) λn=>?_;split
 ·exact fB.bind (.halt _) λ_=>VQ ..
 ·exact VQ ..
theorem ad1(d)(h:d=.lss\/d=.gtr)(x)(c)(a b):fB (do lF d 21 a b x (.int .i32 c);binOp d 21 x (.int .i32 c)):=by
 rcases h with rfl|rfl
 all_goals
  refine fB.bind ?_ λ_=>?_
  ·show fB (Pure.pure ())
   exact .pure _
  ·cases x with
   |int k v=>
    show fB (if k≠IntKind.i32 then(stuck "BinOp: operands of different kinds")else Op.intCmp _ v c);split
    ·exact .halt _
    ·exact .pure _
   |pointer a=>cases a<;>exact .halt _
   |_=>exact .halt _
theorem aub(t)(o:Below ak LL X)(hk:iW ak w)(e:X≠[])
  (hn:dG LL n (lone ⟨44,t,[.code (xE 1 0)],[],.run,.deferred,I⟩ X w)=.next V)(a:wW LL R V):
  (∃b N,b<=n/\iW ak N/\∃j m,dG LL b (lone ⟨44,j,m,[],.returning,.deferred,I⟩ X N)=.next V)\/MA R n V:=by
 have g:∀m t,OF m=U->tw ak ⟨44,t,m,[],.run,.deferred,I⟩:=λm t h=>⟨by simp,h,by simp⟩;have d:∀{b},b<=n->MA R b V->MA R n V:=λhb⟨n',f,c,w,h1,h2⟩=>⟨n',f,c,w,rU h1 hb,h2⟩;generalize qG:(.seq (.cond (tm 2) .skip (.refuse "")) (.seq (.cond (tm 3) .skip (.refuse "")) (.seq (reg #[ep (.store 21 (tm 0) (kc (.int .i32 0)))]) .ret)):bH)=B1;generalize i:(#[aP 1 (.load 21 (tm 0)),aP 2 (.binOp .lss 21 (tm 1) (kc (.int .i32 (1+1))) 21),aP 3 (.binOp .gtr 21 (tm 1) (kc (.int .i32 (1-1))) 21)])=O;have NJ:xE 1 0=.seq (.region 0 O Y) B1:=by rw[<-qG,<-i];rfl
 rw[NJ]at hn;obtain⟨b1,EY,r⟩:=Ls hn a 2 F e;have bJ:qh O.size=[0,1,2]:=by rw[<-i];rfl
 rw[bJ]at r;have nE:eV LL (G ⟨44,t,[.inRegion O [0,1,2],.code B1],[],.run,.deferred,I⟩ X)=Z (do pure (.value (<-uG 21 (t.getD 0 aB)))):=by rw[<-i];rfl
 have PH:=(fB.bind (axV 21 (t.getD 0 aB)) λv=>fB.pure (mR v)).heap (p:=LL) w hk;refine(OV nE (g _ _ F) o PH.2 r a).elim (λ⟨v,w1,L⟩=>?_) λh=>.inr (d EY h);obtain⟨x1,rfl,KD⟩:=V6 L;have dx:=PH.1 _ _ L;obtain⟨b2,lg,M⟩:=Pk nE (g':=G ⟨44,t.setIfInBounds 1 x1,[.inRegion O [1,2],.code B1],[],.run,.deferred,I⟩ X) (by rw[<-i];rfl) L r a e;generalize Fv:t.setIfInBounds 1 x1=k at M;have gd:eV LL (G ⟨44,k,[.inRegion O [1,2],.code B1],[],.run,.deferred,I⟩ X)=Z (do pure (.value (<-(do lF .lss 21 (tm 1) (kc (.int .i32 (1+1))) (k.getD 1 aB) (.int .i32 (1+1));binOp .lss 21 (k.getD 1 aB) (.int .i32 (1+1)))))):=by rw[<-i];rfl
 have PI:=(fB.bind (ad1 _ (.inl F) (k.getD 1 aB) (1+1) (tm 1) (kc (.int .i32 (1+1)))) λv=>fB.pure (mR v)).heap (p:=LL) _ dx;refine(OV gd (g _ _ F) o PI.2 M a).elim (λ⟨v,N,u⟩=>?_) λh=>.inr (d ah h);obtain⟨x2,rfl,FA⟩:=V6 u;have dP:=PI.1 _ _ u;obtain⟨b3,BI,z⟩:=Pk gd (g':=G ⟨44,k.setIfInBounds 2 x2,[.inRegion O [2],.code B1],[],.run,.deferred,I⟩ X) (by rw[<-i];rfl) u M a e;generalize Tk:k.setIfInBounds 2 x2=j at z;have P:eV LL (G ⟨44,j,[.inRegion O [2],.code B1],[],.run,.deferred,I⟩ X)=Z (do pure (.value (<-(do lF .gtr 21 (tm 1) (kc (.int .i32 (1-1))) (j.getD 1 aB) (.int .i32 (1-1));binOp .gtr 21 (j.getD 1 aB) (.int .i32 (1-1)))))):=by rw[<-i];rfl
 have PL:=(fB.bind (ad1 _ (.inr F) (j.getD 1 aB) (1-1) (tm 1) (kc (.int .i32 (1-1)))) λv=>fB.pure (mR v)).heap (p:=LL) _ dP;refine(OV P (g _ _ F) o PL.2 z a).elim (λ⟨v,w3,x⟩=>?_) λh=>.inr (d ah h);obtain⟨x3,rfl,ι⟩:=V6 x;have mI:=PL.1 _ _ x;obtain⟨b4,δ,A⟩:=Pk P (g':=G ⟨44,j.setIfInBounds 3 x3,[.inRegion O [],.code B1],[],.run,.deferred,I⟩ X) (by rw[<-i];rfl) x z a e;generalize Tm:j.setIfInBounds 3 x3=q at A;rw[<-qG]at A;obtain⟨b5,EZ,H⟩:=Ls A a 2 F e;obtain⟨_,b6,ε,J⟩:=U4 H a;obtain⟨b7,ζ,K⟩:=Ls J a 2 F e;obtain⟨_,b8,η,S⟩:=U4 K a;generalize s:(#[ep (.store 21 (tm 0) (kc (.int .i32 0)))])=T at S;obtain⟨b9,θ,B⟩:=Ls S a 3 F e;have Ti:qh T.size=[0]:=by rw[<-s];rfl
 rw[Ti]at B;have Q:eV LL (G ⟨44,q,[.inRegion T [0],.code .ret],[],.run,.deferred,I⟩ X)=Z (do Instr.storeAt 21 (q.getD 0 aB) (.int .i32 0);pure .skip):=by rw[<-s];rfl
 have l:=(fB.bind (axW 21 (q.getD 0 aB) (.int .i32 0)) λv=>fB.pure Next.skip).heap (p:=LL) _ mI;refine(OV Q (g _ _ F) o l.2 B a).elim (λ⟨v,w4,y⟩=>?_) λh=>.inr (d ah h);obtain⟨rfl,κ⟩:=avC y;have Fi:=l.1 _ _ y;obtain⟨Xa,β,C⟩:=Pk Q (by rw[<-s];rfl) y B a e;obtain⟨E,γ,D⟩:=Ls C a 2 F e;exact .inl ⟨E,w4,by omega,Fi,q,_,D⟩
end
theorem AZ{R}:Jc ak LL R:=λf O=>by
 rw[PZ O];refine⟨λx w=>call44 _ (.inl F) x w,λc a l w n V p⟨i,E⟩o L M t=>?_⟩;have e:bO LL 44 c .deferred=⟨44,c++qa (6-c.size) aB,[.code (xE 1 0)],[],.run,.deferred,I⟩:=by kernel_rfl
 rcases aub _ (.cons p o) L ba M t with⟨b,j,T,H,z,P,J⟩|h
 ·obtain⟨s,d,g,q,u,W,y⟩:=a
  subst E;have C:aE LL U (G ⟨44,z,P,[],.returning,.deferred,I⟩ (⟨s,d,g,q,.panicking i,W,y⟩::l)) j=dZ ⟨s,d,g,q,.panicking i,W,y⟩ l j #[]:=by
   have m:LL.funcs[44]?=Z KO:=by kernel_rfl
   have N:(results KO z).runT LL j #[]=(.ok (.tuple #[]) j,#[]):=by kernel_rfl
   simp only[G,aE,lT,m,N,rW];have B:=p.chain _ rfl;cases i with
   |nil=>rfl
   |cons x A=>
    cases amS:x.recovered with
    |true=>simp_all
    |false=>
     obtain⟨v,r,S⟩:=x;subst amS;simp[mx,seen_none]
  obtain⟨D,Q,K⟩:=U5 J t (k:=1) (by simp only[dG];rw[fe C]) (KX (by cases o<;>simp));exact⟨D,_,_,_,by omega,K,.top p ⟨i,F⟩ o,H⟩
 ·exact h
abbrev Mw:aA->ae aA->aA->ae aA->Prop:=λ_ _ _ _=>False
abbrev ky:=mW ak tH (hY LL)
structure yi(j:wU):Prop where
 nH:∃yr BY a0 l0,j.L'=yr::BY/\j.B4=a0::l0/\ky Mw yr BY a0 l0/\yr.mode=.run/\a0.mode=.run
 lone:∃g s,j.A'=u7 j.o j.k j.N j.f g s
 real:∃jr l x y r,Gu j.k jr l x y/\j.A=Ed j.k (GX j.k j.f x y j.f r) (.inRegion v8 (3::l)::FG)
def tE(s:eC):Prop:=∃b c d a l,Qh ak fs b s.fr' s.fr/\s.cs'=c::d/\s.cs=a::l/\((b=.normal/\a.mode=.run/\(ky s.E c d a l\/s.E c d a l))\/(b=.deferred/\a.mode=.returning/\ky s.E c d a l))
inductive tI(s:eC):Prop
 |main (hj:s.dN=I) (h0:s.h=0) (st:ky s.E s.fr' s.cs' s.fr s.cs\/tE s)
 |work (j:wU) (hj:s.dN=Z j) (jk:yi j) (h0:s.h=j.k.g) (st:ky s.E s.fr' s.cs' s.fr s.cs\/tE s)
 |back (j:wU) (hj:s.dN=Z j) (jk:yi j) (h0:s.h=j.k.g) (v:ag) (e1:s.fr'=j.A'.finish v) (e2:s.cs'=j.L') (e3:s.fr=j.A.finish v) (e4:s.cs=[wrap])
structure Inv(s:eC):Prop where
 base:Base s
 nH:tI s
theorem QY:Ep ak LL Mw:=⟨λ_ _ _ _ h=>h.elim,λ_ _ _ _ h=>h.elim,λ_ _ _ _ h=>h.elim⟩
theorem IQ{s:eC}(h:s.dN=I):s.E=Mw:=by
 funext a b c d;unfold eC.E;rw[h]
theorem yD{s:eC}(h:∀j,s.dN=Z j->yi j):Ep ak LL s.E:=by
 cases hj:s.dN with
 |none=>rw[IQ hj];exact QY
 |some j=>
  have e:=h j hj;have hE:∀c d a l,s.E c d a l->c=j.A'/\d=j.L'/\a=j.A/\l=[wrap]:=λc d a l b=>by
   unfold eC.E at b;rw[hj]at b;exact b
  obtain⟨u,n,a0,q,k,o,i,_⟩:=e.nH;obtain⟨g,t,f⟩:=e.lone;obtain⟨p,l,x,y,r,_,m⟩:=e.real;refine⟨λc d a l b=>?_,λc d a l b=>?_,λc d a l b=>?_⟩
  ·obtain⟨rfl,_,rfl,_⟩:=hE _ _ _ _ b
   rw[f,m];exact⟨F,F⟩
  ·obtain⟨rfl,rfl,_⟩:=hE _ _ _ _ b
   rw[k];refine .cons ?_ (.cons i.fr.GV (i.belows QY));rw[f];exact⟨by simp[u7],F,by simp[u7]⟩
  ·grind
theorem ayh{L}{x}{c}{b}{w}{k n}{a}(h:ku L x ⟨c,b,w⟩ k n a)(t)(d):ku L x ⟨c,b,re w t d⟩ k n a:=h
theorem ab7{R}{s}(b:Base s)(B:ky s.E s.fr' s.cs' s.fr s.cs)(hE:Ep ak LL s.E)(A:¬LB tH s.fr' s.fr)(g:¬over s.fr s.cs)(x:Good LL R s.cu):∃c:eC,Base c/\Real s c/\c.h=s.h/\c.dN=s.dN/\GM ak fs tH (hY LL) s.E c.fr' c.cs' c.fr c.cs/\∃k n a,0<k/\ku LL s.cu c.cu k n a:=by
 obtain⟨e,f,D,n,r,C,M,E,N,z,L,y,p,w⟩:=ar2 (Ve _) hE AZ B b.core.rel A g (x _);obtain⟨c,v,u,h,j,G,H,l,m,J,K,t,d,o⟩:=b.go z y p w e f;refine⟨c,v,u,l,m,?_,1,n,λi q=>s.w.tape (s.w.drawn+i) q,Nat.one_pos,?_⟩
 ·simp_all
 ·have:c.cu=⟨e,f,re D t d⟩:=by unfold eC.cu;rw[h,j,o]
  rw[this];exact r
theorem aeN{s b:eC}(hE:b.E=s.E)(g:GM ak fs tH (hY LL) s.E b.fr' b.cs' b.fr b.cs):(ky b.E b.fr' b.cs' b.fr b.cs\/tE b)\/∃d a v,s.E d b.cs' a b.cs/\b.fr'=d.finish v/\b.fr=a.finish v:=by
 rcases g with h|h|⟨c,d,i,a,l,h,e,f,j,k⟩
 ·simp_all
 ·exact .inr h
 ·exact .inl (.inr ⟨c,d,i,a,l,h,e,f,by simp_all⟩)
theorem anG{R}{s}(i:Inv s)(l:∀j v,s.dN=Z j->s.fr'=j.A'.finish v->s.cs'=j.L'->s.fr=j.A.finish v->s.cs=[wrap]->False)(x:¬tE s)(z:¬LB tH s.fr' s.fr)(w:¬over s.fr s.cs)(y:Good LL R s.cu):∃c k n a,Inv c/\Real s c/\0<k/\ku LL s.cu c.cu k n a:=by
 cases i.nH with
 |main b g e=>
  have e:=e.resolve_right x;obtain⟨c,l,r,f,d,t,k,n,a,p,q⟩:=ab7 i.base e (yD λj h=>by rw[b]at h;cases h) z w y;have hE:c.E=s.E:=by unfold eC.E;rw[d]
  refine⟨c,k,n,a,⟨l,.main (d.trans b) (f.trans g) ?_⟩,r,p,q⟩;rcases aeN hE t with h|⟨_,_,_,h,_⟩
  ·exact h
  ·rw[IQ b]at h;exact h.elim
 |work j b u g e=>
  have e:=e.resolve_right x;obtain⟨c,l,r,f,d,t,k,n,a,p,q⟩:=ab7 i.base e (yD λH h=>by simp_all) z w y;have hE:c.E=s.E:=by unfold eC.E;rw[d]
  refine⟨c,k,n,a,⟨l,?_⟩,r,p,q⟩;rcases aeN hE t with h|⟨E,G,v,h,m,o⟩
  ·exact .work j (d.trans b) u (f.trans g) h
  ·unfold eC.E at h
   rw[b]at h;obtain⟨A,B,C,D⟩:=h;subst A C;exact .back j (d.trans b) u (f.trans g) v m B o D
 |back j b u g v f d m o=>exact(l j v b f d m o).elim
theorem Vm(t)(n)(h:n<=t.size):t=bI n (λi=>t.getD i aB) (t.toList.drop n):=by
 apply Array.ext';show t.toList=(qh n).map _++t.toList.drop n;have b:(qh n).map (λi=>t.getD i aB)=t.toList.take n:=by
  apply List.ext_getElem?;intro i;rw[fW,List.getElem?_take];by_cases a:i<n
  ·have:i<t.size:=by omega
   simp[a,this]
  ·simp[a]
 rw[b,List.take_append_drop]
section
variable {R:ag->ax->Prop}{Hid:Loc->Prop}{w W:ax}{V:ae aA}{f:cH}{t:af ag}{X:dQ}
theorem aBc(w):(isAgg 21).run LL w=.ok Y w:=al
theorem aBd(w):(sizeOf 21).run LL w=.ok 1 w:=al
theorem apf(p)(c:Rel (bS ak) Hid w W):(∃a v,p=.pointer (Z a)/\w.cell? a=Z v/\∀t d,(uG 21 p).run LL (re w t d)=.ok v (re w t d))\/∀t d,∃x,(uG 21 p).run LL (re w t d)=.halt x (re w t d):=by
 unfold uG;cases p with
 |pointer o=>
  cases o with
  |none=>exact .inr λt d=>⟨_,F⟩
  |some a=>
   have e:∀t d,(do loadVar 21 (<-Instr.sureAddr (.pointer (Z a)))).run LL (re w t d)=(load a).run LL (re w t d):=λt d=>by
    rfl
   cases hc:w.cell? a with
   |some v=>
    refine .inl ⟨a,v,F,hc,λt d=>?_⟩;rw[e];have b:(re w t d).cell? a=Z v:=hc;simp[b]
   |none=>
    refine .inr λt d=>?_;have b:(re w t d).cell? a=I:=hc;have g:=((c.re t d).G9 (a:=a) LL (Mode.plain==Mode.atomic)).1;cases E':(re w t d).farLoad LL a (Mode.plain==Mode.atomic)with
    |ok r=>simp_all
    |error x=>simp_all
 |_=>exact .inr λt d=>⟨_,F⟩
theorem ayr(a)(v x)(j:x.cells=#[x])(g:x.oneCell'=U)(i:w.cell? a=Z v):(w.frozen? a=Y/\∀t d,(Instr.storeAt 21 (.pointer (Z a)) x).run LL (re w t d)=.ok () (re (w.setCell a x) t d))\/∀t d,∃y,(Instr.storeAt 21 (.pointer (Z a)) x).run LL (re w t d)=.halt y (re w t d):=by
 have e:∀t d,(Instr.storeAt 21 (.pointer (Z a)) x).run LL (re w t d)=(store (a.add 0) x).run LL (re w t d):=λt d=>by
  show(storeVar 21 a x).run LL (re w t d)=_;show(if x.cells.size≠1 then _ else storeCells a x.cells.toList).run LL (re w t d)=_;rw[j,if_neg ba];rfl
 have h:a.add 0=a:=by cases a;simp[Addr.add]
 cases hf:w.frozen? a with
 |false=>
  refine .inl ⟨F,λt d=>?_⟩;rw[e,h];have b:(re w t d).cell? a=Z v:=i;have c:(re w t d).frozen? a=Y:=hf;cases x<;>first|(cases g;done)|(simp[store,bP,b,c];rfl)
 |true=>
  refine .inr λt d=>?_;rw[e,h];have b:(re w t d).cell? a=Z v:=i;have c:(re w t d).frozen? a=U:=hf;cases x<;>first|(cases g;done)|exact⟨.unsupported (.unsafePointer "a write to bytes that a string shares"),by simp[store,bP,b,c]⟩
theorem Xz(d)(h:d=.lss\/d=.gtr)(x)(c)(a b):(∃v,x=.int .i32 v/\∀w,(do lF d 21 a b x (.int .i32 c);binOp d 21 x (.int .i32 c)).run LL w=.ok (.bool (if d=.lss then decide (v<c)else decide (c<v))) w)\/∀w,∃y,(do lF d 21 a b x (.int .i32 c);binOp d 21 x (.int .i32 c)).run LL w=.halt y w:=by
 cases x with
 |int k v=>
  cases k with
  |i32=>
   refine .inl ⟨v,F,λw=>?_⟩;rcases h with rfl|rfl
   ·rfl
   ·rfl
  |_=>
   refine .inr λw=>?_;rcases h with rfl|rfl<;>exact⟨_,rfl⟩
 |pointer o=>
  refine .inr λw=>?_;cases o<;>rcases h with rfl|rfl<;>exact⟨_,rfl⟩
 |_=>
  refine .inr λw=>?_;rcases h with rfl|rfl<;>exact⟨_,rfl⟩
theorem LQ{s}{x}{w a}(h:s.run LL w=.ok x a):(do pure (mR (<-s)):Sem Next).run LL w=.ok (.value x) a:=by
 simp_all
theorem Gh{s}{y}{w a}(h:s.run LL w=.halt y a):(do pure (mR (<-s)):Sem Next).run LL w=.halt y a:=by
 simp_all
theorem avE{s}{w a}(h:s.run LL w=.ok () a):(do s;pure Next.skip:Sem Next).run LL w=.ok .skip a:=by
 simp_all
theorem avD{s}{y}{w a}(h:s.run LL w=.halt y a):(do s;pure Next.skip:Sem Next).run LL w=.halt y a:=by
 simp_all
end
section
variable {R:ag->ax->Prop}{Hid:Loc->Prop}{w W:ax}{V:ae aA}{f:cH}{t:af ag}{X:dQ}{T:aA}
theorem Rq{c:iP}{a:String}{tm:af ag}{k:ae aJ}(h:Good LL R ⟨⟨f,tm,.code (.cond c .skip (.refuse a))::k,[],.run,X,I⟩,V,w⟩)(j:V≠[]):bR ⟨f,tm,[],[],.run,X,I⟩ c=.bool U/\fA LL ⟨⟨f,tm,.code (.cond c .skip (.refuse a))::k,[],.run,X,I⟩,V,w⟩ ⟨⟨f,tm,k,[],.run,X,I⟩,V,w⟩ 2:=by
 obtain⟨τ,d,_,n,l,i,g⟩:=h (λ_ _=>0);obtain⟨b,_⟩:=U4 (L:=LL) (w:=re w τ d) i g;refine⟨b,λτ d=>?_⟩;have e:bR ⟨f,tm,.code (.cond c .skip (.refuse a))::k,[],.run,X,I⟩ c=bR ⟨f,tm,[],[],.run,X,I⟩ c:=by cases c<;>rfl
 have s1:aE LL U (G ⟨f,tm,.code (.cond c .skip (.refuse a))::k,[],.run,X,I⟩ V) (re w τ d)=dZ ⟨f,tm,.code .skip::k,[],.run,X,I⟩ V (re w τ d) #[]:=by
  simp[G,aE,cf,e,b]
 have s2:aE LL U (G ⟨f,tm,.code .skip::k,[],.run,X,I⟩ V) (re w τ d)=dZ ⟨f,tm,k,[],.run,X,I⟩ V (re w τ d) #[]:=by
  simp[G,aE,cf]
 simp only[ik.on,dG];rw[fe s1];dsimp only
 rw[fe s2]
theorem apm(n m:Int)(i:X≠.early)(u:Below ak LL V)(b:V≠[])(hr:Rel (bS ak) Hid w W)(bJ:6<=t.size)(hg:Good LL R ⟨⟨f,t,[.code (xE n m)],[],.run,X,I⟩,V,w⟩):∃a,t.getD 0 aB=.pointer (Z a)/\w.cell? a=Z (.int .i32 n)/\w.frozen? a=Y/\∃c k,fA LL ⟨⟨f,t,[.code (xE n m)],[],.run,X,I⟩,V,w⟩ ⟨⟨f,c,[.code .ret],[],.returning,X,I⟩,V,w.setCell a (.int .i32 m)⟩ k:=by
 have z:∀S t,OF S=U->tw ak ⟨f,t,S,[],.run,X,I⟩:=λS t h=>⟨by simp,h,by simp⟩;have s:∀t d,iW ak (re w t d):=λt d=>hr.tY;have Hz:(X==CallKind.early)=Y:=by cases X<;>first|rfl|exact absurd rfl i
 generalize qG:(.seq (.cond (tm 2) .skip (.refuse "")) (.seq (.cond (tm 3) .skip (.refuse "")) (.seq (reg #[ep (.store 21 (tm 0) (kc (.int .i32 m)))]) .ret)):bH)=B1;generalize j:(#[aP 1 (.load 21 (tm 0)),aP 2 (.binOp .lss 21 (tm 1) (kc (.int .i32 (n+1))) 21),aP 3 (.binOp .gtr 21 (tm 1) (kc (.int .i32 (n-1))) 21)]:af bq)=O;have NJ:xE n m=.seq (.region 0 O Y) B1:=by rw[<-qG,<-j];rfl
 rw[NJ];rw[NJ]at hg;have HE:qh O.size=[0,1,2]:=by rw[<-j];rfl
 obtain⟨k1,L1,K⟩:=hg.quiet 2 (fr:=⟨f,t,[.inRegion O (qh O.size),.code B1],[],.run,X,I⟩) (cs:=V) rfl b;rw[HE]at L1 K;have nE:eV LL (G ⟨f,t,[.inRegion O [0,1,2],.code B1],[],.run,X,I⟩ V)=Z (do pure (.value (<-uG 21 (t.getD 0 aB)))):=by
  rw[<-j];cases X<;>first|rfl|exact absurd rfl i
 refine Or.elim (apf (t.getD 0 aB) hr) (λ⟨a,v,hp,hc,hl⟩=>?_) λl=>(DN xG AZ nE (z _ _ F) u K λt d=>by obtain⟨x,q⟩:=l t d;exact⟨x,_,Gh q,s t d⟩).elim;have C:=DO (w1:=w) (g':=G ⟨f,t.setIfInBounds 1 v,[.inRegion O [1,2],.code B1],[],.run,X,I⟩ V) nE (by rw[<-j];cases X<;>first|rfl|exact absurd rfl i) λτ d=>LQ (hl τ d);have L:=K.mL C b;have FB:(t.setIfInBounds 1 v).size=t.size:=by simp
 have J:(t.setIfInBounds 1 v).getD 1 aB=v:=by simp[nJ,show 1<t.size by omega]
 have e0:(t.setIfInBounds 1 v).getD 0 aB=t.getD 0 aB:=by simp[nJ]
 generalize Fv:t.setIfInBounds 1 v=e at C L FB J e0;have P:eV LL (G ⟨f,e,[.inRegion O [1,2],.code B1],[],.run,X,I⟩ V)=Z (do pure (.value (<-(do lF .lss 21 (tm 1) (kc (.int .i32 (n+1))) (e.getD 1 aB) (.int .i32 (n+1));binOp .lss 21 (e.getD 1 aB) (.int .i32 (n+1)))))):=by
  rw[<-j];cases X<;>first|rfl|exact absurd rfl i
 rw[J]at P;refine Or.elim (Xz .lss (.inl rfl) v (n+1) (tm 1) (kc (.int .i32 (n+1)))) (λ⟨x,q,pN⟩=>?_) λl=>(DN xG AZ P (z _ _ F) u L λt d=>by obtain⟨y,o⟩:=l (re w t d);exact⟨y,_,Gh o,s t d⟩).elim;subst q;have D:=DO (w1:=w) (g':=G ⟨f,e.setIfInBounds 2 (.bool (decide (x<n+1))),[.inRegion O [2],.code B1],[],.run,X,I⟩ V) P (by rw[<-j];cases X<;>first|rfl|exact absurd rfl i) λτ d=>LQ (pN (re w τ d));have M:=L.mL D b;have AE:(e.setIfInBounds 2 (.bool (decide (x<n+1)))).size=t.size:=by simp[FB]
 have f2:(e.setIfInBounds 2 (.bool (decide (x<n+1)))).getD 2 aB=.bool (decide (x<n+1)):=by simp[nJ,show 2<e.size by omega]
 have f1:(e.setIfInBounds 2 (.bool (decide (x<n+1)))).getD 1 aB=.int .i32 x:=by rw[<-J];simp[nJ]
 have f0:(e.setIfInBounds 2 (.bool (decide (x<n+1)))).getD 0 aB=t.getD 0 aB:=by rw[<-e0];simp[nJ]
 generalize Tk:e.setIfInBounds 2 (.bool (decide (x<n+1)))=c at D M AE f2 f1 f0;have A:eV LL (G ⟨f,c,[.inRegion O [2],.code B1],[],.run,X,I⟩ V)=Z (do pure (.value (<-(do lF .gtr 21 (tm 1) (kc (.int .i32 (n-1))) (c.getD 1 aB) (.int .i32 (n-1));binOp .gtr 21 (c.getD 1 aB) (.int .i32 (n-1)))))):=by
  rw[<-j];cases X<;>first|rfl|exact absurd rfl i
 rw[f1]at A;refine Or.elim (Xz .gtr (.inr rfl) (.int .i32 x) (n-1) (tm 1) (kc (.int .i32 (n-1)))) (λ⟨y,o,Q⟩=>?_) λl=>(DN xG AZ A (z _ _ F) u M λt d=>by obtain⟨y,o⟩:=l (re w t d);exact⟨y,_,Gh o,s t d⟩).elim;cases o;have E:=DO (w1:=w) (g':=G ⟨f,c.setIfInBounds 3 (.bool (decide (n-1<x))),[.inRegion O [],.code B1],[],.run,X,I⟩ V) A (by rw[<-j];cases X<;>first|rfl|exact absurd rfl i) λτ d=>LQ (Q (re w τ d));have g4:=M.mL E b;have h3:(c.setIfInBounds 3 (.bool (decide (n-1<x)))).getD 3 aB=.bool (decide (n-1<x)):=by simp[nJ,show 3<c.size by omega]
 have h2:(c.setIfInBounds 3 (.bool (decide (n-1<x)))).getD 2 aB=.bool (decide (x<n+1)):=by rw[<-f2];simp[nJ]
 have h0:(c.setIfInBounds 3 (.bool (decide (n-1<x)))).getD 0 aB=t.getD 0 aB:=by rw[<-f0];simp[nJ]
 generalize Tm:c.setIfInBounds 3 (.bool (decide (n-1<x)))=g at E g4 h3 h2 h0;subst qG;obtain⟨k5,L5,g5⟩:=g4.quiet 2 (fr:=⟨f,g,[.code (.cond (tm 2) .skip (.refuse "")),.code (.seq (.cond (tm 3) .skip (.refuse "")) (.seq (reg #[ep (.store 21 (tm 0) (kc (.int .i32 m)))]) .ret))],[],.run,X,I⟩) (cs:=V) F b;obtain⟨c1,L6⟩:=Rq g5 b;have g6:=g5.mL L6 b;obtain⟨k7,L7,g7⟩:=g6.quiet 1 (fr:=⟨f,g,[.code (.cond (tm 3) .skip (.refuse "")),.code (.seq (reg #[ep (.store 21 (tm 0) (kc (.int .i32 m)))]) .ret)],[],.run,X,I⟩) (cs:=V) F b;obtain⟨c2,H⟩:=Rq g7 b;have g8:=g7.mL H b;have q:x=n:=by
  have zY:g.getD 2 aB=.bool U:=c1;have Xj:g.getD 3 aB=.bool U:=c2;rw[h2]at zY;rw[h3]at Xj;simp only[Value.bool.injEq,decide_eq_true_eq]at zY Xj;omega
 subst q;generalize r:(#[ep (.store 21 (tm 0) (kc (.int .i32 m)))]:af bq)=p at L7 H g8;have xo:qh p.size=[0]:=by rw[<-r];rfl
 obtain⟨k9,L9,N⟩:=g8.quiet 2 (fr:=⟨f,g,[.inRegion p (qh p.size),.code .ret],[],.run,X,I⟩) (cs:=V) F b;rw[xo]at L9 N;have B:eV LL (G ⟨f,g,[.inRegion p [0],.code .ret],[],.run,X,I⟩ V)=Z (do Instr.storeAt 21 (g.getD 0 aB) (.int .i32 m);pure .skip):=by
  rw[<-r];cases X<;>first|rfl|exact absurd rfl i
 rw[h0,hp]at B;refine Or.elim (ayr a (.int .i32 x) (.int .i32 m) rfl rfl hc) (λ⟨NR,N5⟩=>?_) λl=>(DN xG AZ B (z _ _ F) u N λt d=>by obtain⟨y,o⟩:=l t d;exact⟨y,_,avD o,s t d⟩).elim;have oq:=DO (w1:=w.setCell a (.int .i32 m)) (g':=G ⟨f,g,[.inRegion p [],.code .ret],[],.run,X,I⟩ V) B (by rw[<-r];cases X<;>first|rfl|exact absurd rfl i) λτ d=>avE (N5 τ d);have ow:=N.mL oq b;obtain⟨β,zM,_⟩:=ow.quiet 2 (fr:=⟨f,g,[.code .ret],[],.returning,X,I⟩) (cs:=V) F b;subst r;exact⟨a,hp,hc,NR,g,_,(((((((((L1.trans C).trans D).trans E).trans L5).trans L6).trans L7).trans H).trans L9).trans oq).trans zM⟩
end
theorem Base.first{s}(b:Base s)(q:(oM ak (G s.fr s.cs)).isSome=U):∃a,iz ak 1 s.m s.T=(.next (crowd a s.W s.sl),s.T)/\a.size=s.gs.size/\a[s.h]?=Z (aN ak 1 (G s.fr s.cs))/\fg ak s.St s.At s.Shun s.ao s.h s.B s.T a s.W s.q/\∀x,x≠s.h->a[x]?=s.gs[x]?:=by
 obtain⟨j,f⟩:=A7.1 q;have i:aN ak 1 (G s.fr s.cs)=j:=by unfold aN;rw[f];rfl
 rw[i];have r:=(D4 (main:=s.h==0) f).2 s.W;have o:DY s.St s.ao s.Shun s.B s.W s.W #[]:=⟨λ_ _ _ _ _=>rfl,λ_ _ _ h=>h,λe p=>by simp at p⟩;obtain⟨d,k,l,m⟩:=b.hold.own (dt _) b.top o;have c:=wQ (sl:=s.sl) b.top r;have g:dk s.h (G s.fr s.cs).frame.fn (G s.fr s.cs).frame.place #[]=#[]:=by rfl
 rw[g]at c d;exact⟨_,by simp only[iz,b.bX,c,Array.append_empty],l,k,d,m⟩
theorem Base.begin{s}(b:Base s)(i:(oM ak (G s.fr s.cs)).isSome=U):∃m T,(∃N,iz ak N s.m s.T=(.next m,T))/\dI ak s.St s.At s.Shun s.ao s.h s.B s.gs.size s.W m T 0 (·=aN ak 1 (G s.fr s.cs))/\∀a v f,eQ s.W a v f->jm ak s.St s.At s.Shun s.ao s.h s.B s.gs.size a s.W m T 0 v (aN ak 1 (G s.fr s.cs)):=by
 obtain⟨j,g,c,d,e,_⟩:=b.first i;refine⟨_,_,⟨1,g⟩,?_,λa v f h=>?_⟩
 ·have:=dI.begin (sl:=s.sl) e.Cs d
  rw[c]at this;exact this
 ·have:=jm.begin (sl:=s.sl) e.Cs d h
  rw[c]at this;exact this
section
variable {V At:Nat->Loc->Prop}{X:Loc->Prop}{S:Nat->aj YS}{Hid:Loc->Prop}{P:ae dU}{Q:ae dg}{R:aj wU}{B n:Nat}{w W:ax}
theorem tf{w}{a c}{v x}{k}(g:eQ w c v k)(l:a≠c)(r:a.spot=I):eQ (w.setCell a x) c v k:=by
 have q:∀b:Nat,(w.setCell a x).heap[b]?=if a.block=b then(w.heap[b]?).map (λo=>match o with
   |.cells c h frozen=>.cells (c.setIfInBounds a.off x) h frozen
   |o=>o)else w.heap[b]?:=λb=>by
  unfold World.setCell;simp only[Gm,r];split
  ·congr 1
  ·rfl
 obtain⟨s,t,f,i,m,y,p⟩:=kQ g.cell;have d:=q c.block;rw[i]at d;by_cases e:a.block=c.block
 ·rw[if_pos e]at d
  have j:a.off≠c.off:=λu=>l (by cases a;cases c;simp_all);refine⟨?_,?_,?_⟩
  ·rw[ED d,m]
   simp[iK j,p]
  ·have:=g.free
   unfold qj at this⊢;rw[i]at this;rw[d];exact this
  ·have:=g.shape
   unfold fF at this⊢;rw[i]at this;rw[d];simpa using this
 ·rw[if_neg e]at d
  rw[<-i]at d;refine⟨?_,?_,?_⟩
  ·have:=g.cell;unfold fU at this⊢;rw[d];exact this
  ·have:=g.free;unfold qj at this⊢;rw[d];exact this
  ·have:=g.shape;unfold fF at this⊢;rw[d];exact this
theorem Core.gate(C:Core Hid V At X S P Q R B n w W){a}(f:a.spot=I)(m:¬Hid (.cell a)):Gate V S (·=a):=by
 refine⟨λb e g u=>by subst e;exact m (C.rN g _ u).1,λb e i y z w v d=>?_⟩;subst e;rcases C.zj i y z with⟨k,D,s,H,J,K,L,p,rfl⟩|⟨j,A,rfl,p,rfl⟩
 ·have l:=C.ft.k k D
  obtain⟨M,q,r,G⟩:=l.p9;have E:=C.ft.s _ q;have h:∀c,Hid (.cell c)->b≠c:=λc x e=>m (e▸x);have o:=E.bN 10 ah ah;rw[r]at o;exact(⟨tf d.work (h _ l.bN.1) f,tf d.told (h _ l.bN.2.1) f,tf d.store (h _ l.bN.2.2) f,tf d.done (h _ o) f⟩)
 ·obtain⟨_,_,_,_,_,t,_⟩:=C.BX j A
  exact tf d (λe=>m (e▸t)) f
end
theorem Base.land{s}(b:Base s){m}{T}(hm:∃N,iz ak N s.m s.T=(.next m,T)){o}{k}{j e}(H:dI ak s.St s.At s.Shun s.ao s.h s.B s.gs.size e m T 0 (·=G o k))
  (hr:Rel (bS ak) s.Hid j e)(r:iS s.w s.W j e)(O:e.heap.size<=s.B)(i)(f):
  ∃c:eC,Base c/\Real s c/\c.fr'=i/\c.cs'=f/\c.fr=o/\c.cs=k/\c.h=s.h/\c.dN=s.dN/\(∃t d,c.w=re j t d):=by
 obtain⟨N,gs,w2,sl,T2,q,d,a,J,K,L,M,rfl,g,⟨y,h⟩⟩:=H;subst g h;have p:=(b.core.keep r hr O).re y;rw[<-K]at p;obtain⟨c,hb,⟨v,vI⟩,g,h,z,A,C,D,_,_,⟨t,x,l⟩,_,dW,E⟩:=settle M.xX L p ..;obtain⟨u,tT⟩:=hm;refine⟨c,hb,⟨⟨u+N+v,kK (kK tT J) vI⟩,?_⟩,g,h,z,A,C,D,t,x,?_⟩
 ·rw[E,l]
  exact((((r.dead b.core.ft).at _).at _).re .. ).re ..
 rw[l];rfl
theorem X4{f}(h:rH ak f=U):f=43\/f=44\/f=46\/f=55\/f=66:=by
 have c:f<225:=by
  unfold rH at h;cases h2:Tryz.prog.funcs[f]? with
  |none=>rw[h2]at h;cases h
  |some a=>have:=(iy.1 h2).1;rw[Nk]at this;exact this
 have b:(qh 225).all (λf=>!(rH ak f)||f==43||f==44||f==46||f==55||f==66)=U:=by kernel_rfl
 have:=Ei.1 b f (List.mem_range.2 c);rw[h]at this;simpa[or_assoc]using this
theorem TX{L}{f}{F}{t}{td}{v}{a}{l}{w}(b:L.funcs[f]?=Z F)(c:∀w,(results F t).runT L w #[]=(.ok v w,#[])):fA L ⟨⟨f,t,td,[],.returning,.normal,I⟩,a::l,w⟩ ⟨a.finish v,l,w⟩ 1:=λτ d=>by
 have e:aE L U (G ⟨f,t,td,[],.returning,.normal,I⟩ (a::l)) (re w τ d)=dZ (a.finish v) l (re w τ d) #[]:=by
  simp only[G,aE,lT,b,c,rW];simp[mx,seen_none]
 simp only[ik.on,dG];rw[fe e]
theorem apE{L}{f}{F}{t}{b}{v}{a}{l}{w}(c:L.funcs[f]?=Z F)(g:∀w,(results F t).runT L w #[]=(.ok v w,#[]))(e:a.mode=.returning):fA L ⟨⟨f,t,b,[],.returning,.deferred,I⟩,a::l,w⟩ ⟨a,l,w⟩ 1:=λτ d=>by
 have h:aE L U (G ⟨f,t,b,[],.returning,.deferred,I⟩ (a::l)) (re w τ d)=dZ a l (re w τ d) #[]:=by
  simp only[G,aE,lT,c,g,rW,e];simp[mx,seen_none]
 simp only[ik.on,dG];rw[fe h]
theorem aiL(P)(f)(a)(b):(bO P f a b).todo.length<=1:=by
 simp[bO]
theorem af7{j}(a:yi j)(v):(j.A'.finish v).todo.length=2:=by
 obtain⟨g,s,e⟩:=a.lone;rw[e];rfl
theorem tE.abI{s}(i:tE s){j}(k:yi j){v}(d:s.fr'=j.A'.finish v):False:=by
 obtain⟨c,m,n,a,l,⟨f,b,_,e,_⟩,_⟩:=i;have g:=aiL (Lo ak fs) f b c;have h:=af7 k v;rw[<-e]at g;rw[<-d]at h;omega
theorem tI.again{s a}(k:tI s)(i:tE s)(f:a.h=s.h)(c:a.dN=s.dN)(g:ky s.E a.fr' a.cs' a.fr a.cs):tI a:=by
 have hE:a.E=s.E:=by unfold eC.E;rw[c]
 cases k with
 |main e b _=>exact .main (c.trans e) (f.trans b) (.inl (by rw[hE];exact g))
 |work j e d b _=>exact .work j (c.trans e) d (f.trans b) (.inl (by rw[hE];exact g))
 |back j e d b v h=>
  exfalso;exact i.abI d h
theorem tI.Qw{s b}(k:tI s)(p:tE s)(q:b.h=s.h)(r:b.dN=s.dN){f a}{i l}(t:ky s.E f i a l\/s.E f i a l)(v)(d:b.fr'=f.finish v)(m:b.cs'=i)(n:b.fr=a.finish v)(o:b.cs=l):tI b:=by
 rcases t with u|c
 ·exact k.again p q r (by rw[d,m,n,o];exact u.back .normal v)
 ·cases k with
  |main e g _=>rw[IQ e]at c;exact c.elim
  |work j e h g _=>
   unfold eC.E at c;rw[e]at c;obtain⟨rfl,rfl,rfl,rfl⟩:=c;exact .back j (r.trans e) h (q.trans g) v d m n o
  |back j e h g v d=>exact(p.abI h d).elim
theorem Inv.yD{s}(i:Inv s):Ep ak LL s.E:=by
 cases i.nH with
 |main a=>exact YtgahemdblfapeaaGreatDoor.yD λj h=>by rw[a]at h;cases h
 |work j a c=>exact YtgahemdblfapeaaGreatDoor.yD λb h=>by simp_all
 |back j a c=>exact YtgahemdblfapeaaGreatDoor.yD λb h=>by simp_all
theorem Inv.below{s}(i:Inv s){b a}{c l}(e:ky s.E b c a l\/s.E b c a l):Below ak LL (b::c):=e.elim (λd=>.cons d.fr.GV (d.belows i.yD)) λf=>i.yD.below _ _ _ _ f
theorem Uf{R}{s}(b:Base s)(J:Good LL R s.cu){f}{t}{n m}{g}{o a v c}{j l}(eO:Below ak LL (o::j))
  (hk:g≠.early)(bJ:6<=t.size)(e1:s.fr'=⟨f,t,[.code (xE n m)],[],.run,g,I⟩)(e2:s.cs'=o::j)(e4:s.cs=a::l)(hq:(oM ak (G s.fr s.cs)).isSome=U)
  (r:∀K w,fA LL ⟨⟨f,K,[.code .ret],[],.returning,g,I⟩,o::j,w⟩ ⟨v,j,w⟩ 1)
  (Q:∀S e sh A T,t.getD 0 aB=ptr S e->Gate s.St s.ao (·=⟨S,e,I⟩)->¬s.Shun (.cell ⟨S,e,I⟩)->S<s.B->eQ s.W ⟨S,e,I⟩ (i32 n) (Z sh)->jm ak s.St s.At s.Shun s.ao s.h s.B s.gs.size ⟨S,e,I⟩ s.W A T 0 (i32 n) (aN ak 1 (G s.fr s.cs))->jm ak s.St s.At s.Shun s.ao s.h s.B s.gs.size ⟨S,e,I⟩ s.W A T 0 (i32 m) (G c l)):
  ∃i:eC,Base i/\Real s i/\i.fr'=v/\i.cs'=j/\i.fr=c/\i.cs=l/\i.h=s.h/\i.dN=s.dN/\∃k n a,0<k/\ku LL s.cu i.cu k n a:=by
 have qK:s.cu=⟨⟨f,t,[.code (xE n m)],[],.run,g,I⟩,o::j,s.w⟩:=by unfold eC.cu;rw[e1,e2]
 rw[qK]at J⊢;obtain⟨x,hp,z,P,K,k,hL⟩:=apm n m hk eO ba b.core.rel bJ J;have p:=b.core.rel;obtain⟨E,aC,L⟩:=p.cell z;obtain⟨O,ty,fz,qJ,u,HA,hv⟩:=kQ E;obtain⟨S,e,sp⟩:=x;subst u;have B:eQ s.W ⟨S,e,I⟩ (i32 n) (Z (ty,O.size)):=⟨E,by rw[p.frozen z];exact P,by unfold fF;rw[qJ]⟩;have M:S<s.B:=by
  have h1:=b.core.low;have h2:=p.size;simp only at aC;omega
 obtain⟨A,T,hm,_,y⟩:=b.begin hq;have H:=Q S _ _ _ T hp (b.core.gate F L) (λh=>L (b.core.U' h)) M B (y _ _ _ B);obtain⟨r1,r2⟩:=p.setCell z _;obtain⟨i,hb,hR,C,D,f3,f4,f5,f6,τ,d,f7⟩:=b.land hm (by
  obtain⟨N,gs,w,sl,V,q,dd,W,k1,k2,k3,k4,k5,k6,k7⟩:=H;exact⟨N,gs,w,sl,V,q,dd,W,k1,k2,k3,k4,k5,k6,k7⟩) r1 r2 (by rw[size_setCell];exact b.core.low) ..
 refine⟨i,hb,hR,C,D,f3,f4,f5,f6,k+1,0,λ_ _=>0,by omega,?_⟩;have X:i.cu=⟨v,j,re (s.w.setCell ⟨S,e,I⟩ (i32 m)) τ d⟩:=by unfold eC.cu;rw[C,D,f7]
 rw[X];exact ayh ((hL.trans (r _ _)).wy) _ d
theorem azC(t:af ag):(λi=>t.getD i aB)=dc (λi=>t.getD (i+1) aB) (t.getD 0 aB):=by
 funext i;cases i<;>rfl
theorem azD(t:af ag):(λi=>t.getD i aB)=IA (λi=>t.getD (i+2) aB) (t.getD 0 aB) (t.getD 1 aB):=by
 funext i;rcases i with _|_|i<;>rfl
theorem It(t)(n)(h:n<=t.size):t=bI n (dc (λi=>t.getD (i+1) aB) (t.getD 0 aB)) (t.toList.drop n):=by
 rw[<-azC];exact Vm t n h
theorem adi(t)(n)(h:n<=t.size):t=bI n (IA (λi=>t.getD (i+2) aB) (t.getD 0 aB) (t.getD 1 aB)) (t.toList.drop n):=by
 rw[<-azD];exact Vm t n h
def pad(n:Nat)(X:af ag):af ag:=X++qa (n-X.size) aB
theorem Ce(n)(X):n<=(pad n X).size:=by simp[pad];omega
theorem aoA:LL.funcs[43]?=Z TB:=al
theorem aaC:LL.funcs[44]?=Z KO:=al
theorem az6(X)(b):bO LL 43 X b=⟨43,pad 6 X,[.code (xE 0 1)],[],.run,b,I⟩:=al
theorem az7(X)(b):bO LL 44 X b=⟨44,pad 6 X,[.code (xE 1 0)],[],.run,b,I⟩:=al
noncomputable def Xf:bH:=((Tryz.prog.funcs[43]?).bind (·.body)).getD .skip
noncomputable def Xg:bH:=((Tryz.prog.funcs[44]?).bind (·.body)).getD .skip
theorem aiE(X)(b):bO ak 43 X b=⟨43,pad 6 X,[.code Xf],[],.run,b,I⟩:=al
theorem aiF(X)(b):bO ak 44 X b=⟨44,pad 6 X,[.code Xg],[],.run,b,I⟩:=al
theorem aiD(X)(b):bO ak 43 X b=C7 43 6 (dc (λi=>(pad 6 X).getD (i+1) aB) ((pad 6 X).getD 0 aB)) ((pad 6 X).toList.drop 6) b:=by
 rw[aiE];show _=(⟨43,bI 6 .. ,[.code Xf],[],.run,b,I⟩:aA);rw[<-It _ 6 (Ce 6 _)]
theorem X5(X)(b):bO ak 44 X b=C7 44 6 (dc (λi=>(pad 6 X).getD (i+1) aB) ((pad 6 X).getD 0 aB)) ((pad 6 X).toList.drop 6) b:=by
 rw[aiF];show _=(⟨44,bI 6 .. ,[.code Xg],[],.run,b,I⟩:aA);rw[<-It _ 6 (Ce 6 _)]
theorem Li(f)(n)(t)(l)(b)(e:b=.normal\/b=.deferred)(c)(d:f=43\/f=44\/f=66\/f=55):(oM ak (G (C7 f n t l b) c)).isSome=U:=by
 rcases d with rfl|rfl|rfl|rfl<;>rcases e with rfl|rfl<;>kernel_rfl
section
variable {R:ag->ax->Prop}{s:eC}{W a:aA}{V l:ae aA}{X:af ag}
theorem apT(i:Inv s)(f:Good LL R s.cu)(E:tE s)(g:ky s.E W V a l\/s.E W V a l)(q:s.fr'=bO LL 43 X .normal)(r:s.cs'=W::V)(d:s.fr=bO ak 43 X .normal)(e:s.cs=a::l)(K:a.mode=.run):∃c k n b,Inv c/\Real s c/\0<k/\ku LL s.cu c.cu k n b:=by
 rw[aiD]at d;obtain⟨P,m,o,O,j,h,ro⟩:=a;subst K;have M:(oM ak (G s.fr s.cs)).isSome=U:=by rw[d,e];exact Li _ _ _ _ _ (.inl F) _ (.inl F)
 obtain⟨c,D,B,t,u,v,x,y,z,k,n,b,J,A⟩:=Uf i.base f (i.below g) ba (Ce 6 _) q r e M (λt2 w=>TX aoA λw=>by kernel_rfl)
  λS N sh m0 T L f Q C p H=>by
   rw[d,e,L]at H;exact api f F C p H
 exact⟨c,k,n,b,⟨D,i.nH.Qw E y z g _ t u v x⟩,B,J,A⟩
theorem apV(i:Inv s)(f:Good LL R s.cu)(E:tE s)(g:ky s.E W V a l\/s.E W V a l)(q:s.fr'=bO LL 44 X .normal)(r:s.cs'=W::V)(d:s.fr=bO ak 44 X .normal)(e:s.cs=a::l)(K:a.mode=.run):∃c k n b,Inv c/\Real s c/\0<k/\ku LL s.cu c.cu k n b:=by
 rw[X5]at d;obtain⟨Q,m,o,P,j,h,ro⟩:=a;subst K;have M:(oM ak (G s.fr s.cs)).isSome=U:=by rw[d,e];exact Li _ _ _ _ _ (.inl F) _ (.inr (.inl F))
 obtain⟨c,D,B,t,u,v,x,y,z,k,n,b,J,A⟩:=Uf i.base f (i.below g) ba (Ce 6 _) q r e M (λt2 w=>TX aaC λw=>by kernel_rfl)
  λS O sh m0 T L f N C p H=>by
   rw[d,e,L]at H;exact azA f F N C p H
 exact⟨c,k,n,b,⟨D,i.nH.Qw E y z g _ t u v x⟩,B,J,A⟩
theorem apW(i:Inv s)(g:Good LL R s.cu)(J:tE s)(o:ky s.E W V a l)(x:s.fr'=bO LL 44 X .deferred)(y:s.cs'=W::V)(d:s.fr=bO ak 44 X .deferred)(f:s.cs=a::l)(h:a.mode=.returning):∃c k n b,Inv c/\Real s c/\0<k/\ku LL s.cu c.cu k n b:=by
 rw[X5]at d;have r:W.mode=.returning:=by
  obtain⟨t,e,_⟩:=o.fr;rw[e];exact h
 obtain⟨fn,p,q,P,m,j,ro⟩:=a;subst h;have M:(oM ak (G s.fr s.cs)).isSome=U:=by rw[d,f];exact Li _ _ _ _ _ (.inr F) _ (.inr (.inl F))
 obtain⟨c,E,C,Q,f2,f3,f4,z,A,k,n,b,K,B⟩:=Uf i.base g (i.below (.inl o)) ba (Ce 6 _) x y f M (λt2 w=>apE (v:=.tuple #[]) aaC (λw=>by kernel_rfl) r)
  λS O sh m0 T L g N D u H=>by
   rw[d,f,L]at H;exact azz g F N D u H
 exact⟨c,k,n,b,⟨E,i.nH.again J z A (by simp_all)⟩,C,K,B⟩
end
structure Alike(w w':ax):Prop where
 size:w'.heap.size=w.heap.size
 tape:w'.tape=w.tape
 drawn:w'.drawn=w.drawn
 os:w'.os=w.os
 output:w'.output=w.output
 obj:∀b:Nat,w'.heap[b]?=w.heap[b]?\/∃cap buf cl s r s' r' tm,w.heap[b]?=Z (.chan cap buf cl s r tm)/\w'.heap[b]?=Z (.chan cap buf cl s' r' tm)
namespace Alike
variable {w w' Q:ax}
theorem refl(w:ax):Alike w w:=⟨F,F,F,F,F,λ_=>.inl F⟩
theorem trans(h:Alike w w')(k:Alike w' Q):Alike w Q:=by
 refine⟨k.size.trans h.size,k.tape.trans h.tape,k.drawn.trans h.drawn,k.os.trans h.os,k.output.trans h.output,λb=>?_⟩;rcases k.obj b with e|⟨g,f,p,s,r,v,t,tm,a,c⟩
 ·rw[e];exact h.obj b
 ·rcases h.obj b with e|⟨q,d,o,s2,u,m,l,n,i,j⟩
  ·rw[<-e];exact .inr ⟨_,_,_,_,_,_,_,_,a,c⟩
  ·rw[j]at a
   cases a;exact .inr ⟨_,_,_,_,_,_,_,_,i,c⟩
theorem chan(h:Alike w w'){b c s r:Nat}{a:af ag}{d tm:Bool}(g:w'.heap[b]?=Z (.chan c a d s r tm)):∃k j,w.heap[b]?=Z (.chan c a d k j tm):=by
 rcases h.obj b with e|⟨_,_,_,_,_,_,_,_,i,f⟩
 ·exact⟨s,r,by rw[<-e];exact g⟩
 ·rw[g]at f;cases f;exact⟨_,_,i⟩
theorem np(h:Alike w w'){c s:Nat}{a:af ag}{d tm:Bool}(g:w.heap[b]?=Z (.chan c a d s r tm)):∃k j,w'.heap[b]?=Z (.chan c a d k j tm):=by
 rcases h.obj b with e|⟨_,_,_,_,_,_,_,_,f,i⟩
 ·exact⟨s,r,by rw[e];exact g⟩
 ·rw[g]at f;cases f;exact⟨_,_,i⟩
theorem cell(h:Alike w w')(a:aU):w'.cell? a=w.cell? a:=by
 unfold fU;rcases h.obj a.block with e|⟨_,_,_,_,_,_,_,_,b,c⟩
 ·rw[e]
 ·rw[b,c]
theorem shape(h:Alike w w')(b:Nat):w'.shape? b=w.shape? b:=by
 unfold fF;rcases h.obj b with e|⟨_,_,_,_,_,_,_,_,a,c⟩
 ·rw[e]
 ·rw[a,c]
theorem bX{c a s s' r':Nat}{d:af ag}{f tm:Bool}(h:w.heap[c]?=Z (.chan a d f s r tm))(j:af ag)(i:Bool)(s2 k:Nat)(g:Bool):Alike w ((w.setChan c a j i s2 k g).setChan c a d f s' r' tm):=by
 have aC:c<w.heap.size:=(iy.1 h).1;refine⟨by simp[World.setChan],F,F,F,F,λb=>?_⟩;by_cases e:c=b
 ·subst e
  refine .inr ⟨a,d,f,s,r,s',r',tm,h,?_⟩;simp[World.setChan,aC]
 ·refine .inl ?_
  rw[mT _ _ _ _ _ _ _ e,mT _ _ _ _ _ _ _ e]
end Alike
section
variable {fx:Obj->Prop}{Hid:Loc->Prop}{w w' W:ax}{T:Bool}{P:ae dU}{S:ae dg}
theorem Rel.alike(h:Rel fx Hid w W)(k:Alike w w'):Rel fx Hid w' W:=by
 refine⟨k.size.trans h.size,k.tape.trans h.tape,k.drawn.trans h.drawn,k.os.trans h.os,k.output.trans h.output,λb o g=>?_,λa n=>?_,λr q=>?_⟩
 ·rcases k.obj b with e|⟨_,_,_,_,_,_,_,_,j,c⟩
  ·exact h.obj b o (by rw[<-e];exact g)
  ·obtain⟨O,l,m⟩:=h.obj b _ j
   rw[c]at g;cases g;refine⟨O,l,?_⟩;cases m with
   |same _ p=>exact p.elim
   |k8 _ _ _ _ _ _ _ s=>exact .k8 _ _ _ _ _ _ _ s
 ·obtain⟨d,f⟩:=h.m9 a n
  exact⟨by rw[k.size];exact d,by rw[k.cell];exact f⟩
 ·obtain⟨d,f⟩:=h.pM r q
  refine⟨by rw[k.size];exact d,λo i=>?_⟩;rcases k.obj r with e|⟨_,_,_,_,_,_,_,_,j,c⟩
  ·exact f o (by rw[<-e];exact i)
  ·rw[c]at i;cases i;rfl
theorem zO.alike{s:dg}(l:zO Hid w W s)(k:Alike w w'):zO Hid w' W s:=by
 obtain⟨a,b,e⟩:=l.lone;obtain⟨c,d,f⟩:=k.np e;exact⟨⟨c,d,f⟩,l.real,⟨by rw[k.shape];exact l.sh.1,l.sh.2⟩,l.done,l.cnt,l.qW,l.stop,l.bN,l.le⟩
theorem Mt.alike{x:dU}(l:Mt Hid w W S x)(k:Alike w w'):Mt Hid w' W S x:=by
 obtain⟨e,i,a⟩:=l.work;obtain⟨f,j,b⟩:=l.told;obtain⟨g,m,c⟩:=l.wb;obtain⟨h,n,d⟩:=l.sb;exact⟨l.p9,let⟨p,q,r⟩:=k.np a;⟨p,q,r⟩,let⟨p,q,r⟩:=k.np b;⟨p,q,r⟩,l.zw,let⟨p,q,r⟩:=k.np c;⟨p,q,r⟩,l.rR,let⟨p,q,r⟩:=k.np d;⟨p,q,r⟩,l.uo,l.bN⟩
theorem fO.alike(L:fO Hid T P S w W)(k:Alike w w'):fO Hid T P S w' W:=by
 refine⟨λs g=>(L.s s g).alike k,λx j=>(L.k x j).alike k,λb d c e x y tm f=>?_,?_,?_,L.DF,L.DD,L.AF,L.yZ,L.u5,L.count,L.nodup,L.B6⟩
 ·obtain⟨m,l,h⟩:=k.chan f
  exact L.chans b d c e _ _ tm h
 ·obtain⟨a,b,h⟩:=L.gate
  exact k.np h
 ·obtain⟨v,a,b,h,i⟩:=L.hand
  obtain⟨p,q,r⟩:=k.np h;exact⟨v,p,q,r,i⟩
end
section
variable {L:aD}{R:ag->ax->Prop}{V:aA}{X:ae aA}{w:ax}
theorem apD{N:Nat}{a:aH}{o:Obj}(h:oI L N (G V X)=Z (a,o))(i:∃t c,a=G t c)(g:w.heap.size=N):∃k,fA L ⟨V,X,w⟩ ⟨a.frame,a.callers,bW w o⟩ k:=by
 obtain⟨m,b,e⟩:=Ow (L:=L) 400 V X w;obtain⟨_,f⟩:=abw (main:=U) h;obtain⟨t,c,rfl⟩:=i;refine⟨m+1,b.trans λτ d=>?_⟩;have:=f (re w τ d) g;rw[seen_none,<-e]at this;simp only[ik.on,dG];rw[fe this];rfl
theorem EO(b:Good L R ⟨V,X,w⟩){t:aA}{c:ae aA}{o:Obj}(h:oI L w.heap.size (G V X)=Z (G t c,o))(d:c≠[]):∃k,fA L ⟨V,X,w⟩ ⟨t,c,bW w o⟩ k/\Good L R ⟨t,c,bW w o⟩:=by
 obtain⟨k,a⟩:=apD h ⟨t,c,F⟩ F;exact⟨k,a,b.mL a d⟩
theorem bind_some{β:Type}{x:aj α}{f:α->aj β}{b:β}(h:x.bind f=Z b):∃a,x=Z a/\f a=Z b:=nj.1 h
theorem JI{v z:ag}(j:Good L R ⟨V,X,w⟩)(o:X≠[])(h:(eV L (G V X)).bind (fR L)=Z (.comm #[{chan:=v,send:=I,zero:=z}] U (.recv Y))):∃c f d g a b tm,v=.chan (Z c)/\w.heap[c]?=Z (.chan f d g a b tm)/\(g=Y->0<d.size/\fA L ⟨V,X,w⟩ ⟨V.finish (d.getD 0 aB),X,w.setChan c f (d.extract 1 d.size) Y a (b+1) tm⟩ 1/\Good L R ⟨V.finish (d.getD 0 aB),X,w.setChan c f (d.extract 1 d.size) Y a (b+1) tm⟩):=by
 obtain⟨s,p,h⟩:=bind_some h;obtain⟨c,f,d,g,a,b,tm,k,l,m⟩:=TU p h j;refine⟨c,f,d,g,a,b,tm,k,l,λe=>?_⟩;obtain⟨n,i⟩:=m e;exact⟨n,i,j.mL i o⟩
theorem Nt{v x z:ag}(j:Good L R ⟨V,X,w⟩)(o:X≠[])(h:(eV L (G V X)).bind (fR L)=Z (.comm #[{chan:=v,send:=Z x,zero:=z}] U .send)):∃c f d g a b tm,v=.chan (Z c)/\w.heap[c]?=Z (.chan f d g a b tm)/\(g=Y->d.size<f/\fA L ⟨V,X,w⟩ ⟨V.finish aB,X,w.setChan c f (d.push x) Y (a+1) b tm⟩ 1/\Good L R ⟨V.finish aB,X,w.setChan c f (d.push x) Y (a+1) b tm⟩):=by
 obtain⟨s,p,h⟩:=bind_some h;obtain⟨c,f,d,g,a,b,tm,k,l,m⟩:=apr p h j;refine⟨c,f,d,g,a,b,tm,k,l,λe=>?_⟩;obtain⟨n,i⟩:=m e;exact⟨n,i,j.mL i o⟩
end
theorem Vb{w:ax}{c g s d m l:Nat}{f a:af ag}{k tm i j:Bool}(h:w.heap[c]?=Z (.chan g f k s r tm))(b:Nat):(w.setChan c d a i m l j).shape? b=w.shape? b:=by
 unfold fF;by_cases e:c=b
 ·subst e
  rw[oQ _ h,h]
 ·rw[mT _ _ _ _ _ _ _ e]
theorem Alike.dead{w w':ax}(a:Alike w w')(W:ax):mU w W w' W:=by
 refine⟨λb u h=>?_,λ_ _=>rfl,Nat.le_of_eq a.size.symm,λ_ _=>rfl⟩;rcases a.obj b with e|⟨_,_,_,_,_,_,_,_,f,_⟩
 ·rw[e];exact h
 ·rw[h]at f;cases f
theorem fO.full{Hid}{i}{u}{t}{w W}(L:fO Hid i u t w W){c j a b}{g}{p tm}(h:w.heap[c]?=Z (.chan j g p a b tm))(q:0<g.size):p=Y/\tm=Y/\((∃k∈u,c=k.W/\j=1/\g=#[rQ k])\/(∃s∈t,c=s.D/\j=2/\g=#[db s])\/(c=bw/\i=U)\/(c=dO/\j=6/\∃o,g=#[.chan o])):=by
 obtain⟨x,y,z,B⟩:=L.chans c _ _ _ a b _ h;refine⟨x,y,?_⟩;cases z with
 |work k n e=>
  obtain⟨l,m,d⟩:=(L.k k n).work;rw[<-e,h]at d;cases d;exact .inl ⟨k,n,e,F,F⟩
 |done s r e=>
  obtain⟨l,m,d⟩:=(L.s s r).lone;rw[<-e,h]at d;cases d;exact .inr (.inl ⟨s,r,e,F,F⟩)
 |told k n e=>
  obtain⟨l,m,d⟩:=(L.k k n).told;rw[<-e,h]at d;cases d;simp at q
 |box=>simp_all
 |gate e=>
  obtain⟨l,m,d⟩:=L.gate;rw[<-e,h]at d;cases d;cases i with
  |true=>simp_all
  |false=>simp at q
 |hand e=>
  obtain⟨v,l,m,d,A⟩:=L.hand;rw[<-e,h]at d;cases d;refine .inr (.inr (.inr ⟨e,F,?_⟩));rcases A with rfl|⟨s,_,rfl,_⟩
  ·exact⟨I,rfl⟩
  ·exact⟨_,rfl⟩
def MM:af ag:=#[.int .i32 0,.int .u32 0,.slice I 0 0,.slice I 0 0,.map I,.int .i64 0,.int .i64 0,.slice I 0 0,.slice I 0 0,.pointer I,.chan I,.int .u64 0,.int .u32 0,.bool Y]
def ML:af (Nat×Nat):=#[(0,2),(2,1),(3,1),(4,1),(5,1),(6,1),(7,1),(8,1),(9,1),(10,1),(11,2),(13,1)]
noncomputable def Xb:af Field:=match LL.underlying 109 with
 |some (.struct a)=>a
 |_=>#[]
theorem agK(w):(zeroValue 109).run LL w=.ok (.agg MM) w:=al
theorem agD(w):(underlying 109).run LL w=.ok (.struct Xb) w:=al
theorem agC(w):(Xb.mapM λf=>do pure (f.offset,<-sizeOf f.type):Sem (af (Nat×Nat))).run LL w=.ok ML w:=al
theorem agF(v)(w):(Instr.build 109 #[(0,v)]).run LL w=(match Instr.fill (ML[·]?) MM [(0,v)]with
  |some a=>(pure (.agg a):Sem ag)
  |none=>stuck "build: no such field, or a part of the wrong size").run LL w:=by
 unfold Instr.build;rw[oh,agK];simp only[fy];rw[oh,agD];simp only[fy];rw[oh,agC];simp only[fy,Value.cells];cases Instr.fill (ML[·]?) MM [(0,v)]<;>rfl
theorem af1:ML[0]?=Z (0,2):=al
theorem agE(v):(∃x y,v=.agg #[x,y])\/∀w,∃e,(Instr.build 109 #[(0,v)]).run LL w=.halt e w:=by
 by_cases h:v.cells.size=2
 ·refine .inl ?_
  cases v with
  |agg V=>
   obtain⟨l⟩:=V;have h:l.length=2:=h
   match l,h with
   |[x,y],_=>exact⟨x,y,F⟩
  |_=>simp[Value.cells]at h
 ·refine .inr λw=>?_
  rw[agF];simp only[Instr.fill,af1];rw[if_pos (by simp[h])];exact⟨_,F⟩
theorem aiR(a)(y)(p q):(∃o,y=.chan o/\∀w,(do lF .eql 140 p q (ay a) y;binOp .eql 140 (ay a) y).run LL w=.ok (.bool (Z a==o)) w)\/∀w,∃e,(do lF .eql 140 p q (ay a) y;binOp .eql 140 (ay a) y).run LL w=.halt e w:=by
 cases y with
 |chan o=>exact .inl ⟨o,F,λw=>by rfl⟩
 |_=>exact .inr λw=>⟨.stuck "==: the operands do not fit the type, or the type is not comparable",by kernel_rfl⟩
section
variable {R:ag->ax->Prop}{w:ax}{V:ae aA}{f:cH}{X:dQ}
theorem YL{c}{a}{tm}{k}{bb}(m:Good LL R ⟨⟨f,tm,.code (.cond c (.refuse a) .skip)::k,[],.run,X,I⟩,V,w⟩)(g:V≠[])(q:bR ⟨f,tm,[],[],.run,X,I⟩ c=.bool bb):bb=Y/\fA LL ⟨⟨f,tm,.code (.cond c (.refuse a) .skip)::k,[],.run,X,I⟩,V,w⟩ ⟨⟨f,tm,k,[],.run,X,I⟩,V,w⟩ 2:=by
 have b:bR ⟨f,tm,.code (.cond c (.refuse a) .skip)::k,[],.run,X,I⟩ c=.bool bb:=by rw[<-q];cases c<;>rfl
 cases bb with
 |false=>
  refine⟨F,λτ d=>?_⟩;have s1:aE LL U (G ⟨f,tm,.code (.cond c (.refuse a) .skip)::k,[],.run,X,I⟩ V) (re w τ d)=dZ ⟨f,tm,.code .skip::k,[],.run,X,I⟩ V (re w τ d) #[]:=by
   simp[G,aE,cf,b]
  have s2:aE LL U (G ⟨f,tm,.code .skip::k,[],.run,X,I⟩ V) (re w τ d)=dZ ⟨f,tm,k,[],.run,X,I⟩ V (re w τ d) #[]:=by
   simp[G,aE,cf]
  simp only[ik.on,dG];rw[fe s1];dsimp only
  rw[fe s2]
 |true=>
  exfalso;obtain⟨τ,d,_,n,r,p,l⟩:=m (λ_ _=>0);have s1:aE LL U (G ⟨f,tm,.code (.cond c (.refuse a) .skip)::k,[],.run,X,I⟩ V) (re w τ d)=dZ ⟨f,tm,.code (.refuse a)::k,[],.run,X,I⟩ V (re w τ d) #[]:=by
   simp[G,aE,cf,b]
  obtain⟨o,e,i⟩:∃o e,aE LL U (G ⟨f,tm,.code (.refuse a)::k,[],.run,X,I⟩ V) (re w τ d)=.ended o e #[]:=⟨_,_,by rfl⟩;have h:=O' ⟨n,r,p,l⟩ (k:=1) (by simp only[ik.on,dG];rw[fe s1]) (KX g);obtain⟨t,j,_⟩:=Lk h F;obtain⟨u,v,s⟩:=Cq (by rw[i];rfl);cases j
end
noncomputable def dL(c l:ae ag)(b:ae Nat):aA:=⟨66,⟨c++l⟩,[.inRegion XH b,.code XF],[],.run,.normal,I⟩
noncomputable def G3(o:jj)(W f:ag):aA:=⟨66,bI 11 (IA o.t W f) o.l,[.code (FJ.body.getD .skip)],[],.run,.normal,I⟩
section
variable (o:jj)(W f x y g:ag)(N:Nat)(k:dU)(s:dg)(X:ae aA)
theorem ahS:oI LL N (G (G3 o W f) X)=Z (G (dL [W,f,ay N,o.t 1,o.t 2,o.t 3,o.t 4,o.t 5,o.t 6,o.t 7,o.t 8] o.l [1,2,3,4,5,6,7,8,9,10,11,12]) X,.chan 4 #[] Y 0 0 Y):=al
theorem ahH:eV LL (G (dL [W,f,ay N,o.t 1,o.t 2,o.t 3,o.t 4,o.t 5,o.t 6,o.t 7,o.t 8] o.l [1,2,3,4,5,6,7,8,9,10,11,12]) X)=Z (do pure (.value (<-Instr.build 109 #[(0,W)]))):=al
noncomputable def lL:ag:=.agg ((MM.setIfInBounds 0 x).setIfInBounds 1 y)
theorem ahI:aN LL 1 (G (dL [.agg #[x,y],f,ay N,o.t 1,o.t 2,o.t 3,o.t 4,o.t 5,o.t 6,o.t 7,o.t 8] o.l [1,2,3,4,5,6,7,8,9,10,11,12]) X)=G (dL [.agg #[x,y],f,ay N,o.t 1,o.t 2,o.t 3,o.t 4,o.t 5,o.t 6,lL x y,o.t 8] o.l [2,3,4,5,6,7,8,9,10,11,12]) X:=al
theorem ahQ:(eV LL (G (dL [.agg #[x,y],f,ay N,o.t 1,o.t 2,o.t 3,o.t 4,o.t 5,o.t 6,lL x y,o.t 8] o.l [2,3,4,5,6,7,8,9,10,11,12]) X)).bind (fR LL)=Z (.comm #[{chan:=gN,send:=I,zero:=.agg #[]}] U (.recv Y)):=al
theorem ahR:(dL [.agg #[x,y],f,ay N,o.t 1,o.t 2,o.t 3,o.t 4,o.t 5,o.t 6,lL x y,o.t 8] o.l [2,3,4,5,6,7,8,9,10,11,12]).finish g=dL [.agg #[x,y],f,ay N,g,o.t 2,o.t 3,o.t 4,o.t 5,o.t 6,lL x y,o.t 8] o.l [3,4,5,6,7,8,9,10,11,12]:=al
theorem ahP:aN LL 2 (G (dL [.agg #[x,y],f,ay N,g,o.t 2,o.t 3,o.t 4,o.t 5,o.t 6,lL x y,o.t 8] o.l [3,4,5,6,7,8,9,10,11,12]) X)=G (dL [.agg #[x,y],f,ay N,g,o.t 2,x,y,o.t 5,o.t 6,lL x y,o.t 8] o.l [5,6,7,8,9,10,11,12]) X:=al
theorem ahW:(eV LL (G (dL [.agg #[x,y],f,ay N,g,o.t 2,x,y,o.t 5,o.t 6,lL x y,o.t 8] o.l [5,6,7,8,9,10,11,12]) X)).bind (fR LL)=Z (.comm #[{chan:=x,send:=I,zero:=.nilFunc}] U (.recv Y)):=al
variable (v:ag)
theorem ahX:(dL [.agg #[x,y],f,ay N,g,o.t 2,x,y,o.t 5,o.t 6,lL x y,o.t 8] o.l [5,6,7,8,9,10,11,12]).finish v=dL [.agg #[x,y],f,ay N,g,o.t 2,x,y,v,o.t 6,lL x y,o.t 8] o.l [6,7,8,9,10,11,12]:=al
theorem ahD:(eV LL (G (dL [.agg #[x,y],f,ay N,g,o.t 2,x,y,v,o.t 6,lL x y,o.t 8] o.l [6,7,8,9,10,11,12]) X)).bind (fR LL)=Z (.comm #[{chan:=x,send:=Z v,zero:=.tuple #[]}] U .send):=al
theorem ahF:(dL [.agg #[x,y],f,ay N,g,o.t 2,x,y,v,o.t 6,lL x y,o.t 8] o.l [6,7,8,9,10,11,12]).finish aB=dL [.agg #[x,y],f,ay N,g,o.t 2,x,y,v,o.t 6,lL x y,o.t 8] o.l [7,8,9,10,11,12]:=al
theorem ahM:eV LL (G (dL [.agg #[x,y],f,ay N,g,o.t 2,x,y,v,o.t 6,lL x y,o.t 8] o.l [7,8,9,10,11,12]) X)=Z (do pure (.value (<-Instr.field 142 v 0))):=al
theorem ai8(c:aj Nat)(w:ax):∃e,(Instr.field 142 (.chan c) 0).run LL w=.halt e w:=⟨.stuck "struct or array expected",by kernel_rfl⟩
theorem ahN(a b:ag):aN LL 1 (G (dL [.agg #[x,y],f,ay N,g,o.t 2,x,y,.agg #[a,b],o.t 6,lL x y,o.t 8] o.l [7,8,9,10,11,12]) X)=G (dL [.agg #[x,y],f,ay N,g,o.t 2,x,y,.agg #[a,b],a,lL x y,o.t 8] o.l [8,9,10,11,12]) X:=al
theorem ahO:aN LL 1 (G (dL [.agg #[x,y],f,ay N,g,o.t 2,x,y,db s,o.t 6,lL x y,o.t 8] o.l [7,8,9,10,11,12]) X)=G (dL [.agg #[x,y],f,ay N,g,o.t 2,x,y,db s,ptr s.S 0,lL x y,o.t 8] o.l [8,9,10,11,12]) X:=al
variable (a:ag)
theorem XP:(eV LL (G (dL [.agg #[x,y],f,ay N,g,o.t 2,x,y,v,a,lL x y,o.t 8] o.l [8,9,10,11,12]) X)).bind (fR LL)=Z (.comm #[{chan:=a,send:=I,zero:=.agg #[]}] U (.recv Y)):=al
theorem ahK(b:ag):(dL [.agg #[x,y],f,ay N,g,o.t 2,x,y,v,a,lL x y,o.t 8] o.l [8,9,10,11,12]).finish b=dL [.agg #[x,y],f,ay N,g,o.t 2,x,y,v,a,lL x y,b] o.l [9,10,11,12]:=al
theorem ahE(b:ag):(eV LL (G (dL [.agg #[x,y],f,ay N,g,o.t 2,x,y,v,a,lL x y,b] o.l [9,10,11,12]) X)).bind (fR LL)=Z (.comm #[{chan:=a,send:=Z b,zero:=.tuple #[]}] U .send):=al
theorem ahG(b:ag):(dL [.agg #[x,y],f,ay N,g,o.t 2,x,y,v,a,lL x y,b] o.l [9,10,11,12]).finish aB=dL [.agg #[x,y],f,ay N,g,o.t 2,x,y,v,a,lL x y,b] o.l [10,11,12]:=al
theorem ahV(b c d:ag):aN LL 1 (G (dL [.agg #[x,y],f,ay N,g,o.t 2,x,y,.agg #[c,d],a,lL x y,b] o.l [10,11,12]) X)=G (dL [.agg #[x,y],f,ay N,g,o.t 2,x,y,d,a,lL x y,b] o.l [11,12]) X:=al
theorem XQ(b d:ag):eV LL (G (dL [.agg #[x,y],f,ay N,g,o.t 2,x,y,d,a,lL x y,b] o.l [11,12]) X)=Z (do pure (.value (<-(do lF .eql 140 (tm 7) (tm 6) d y;binOp .eql 140 d y)))):=al
theorem ahL(b d e:ag):mj LL (G (dL [.agg #[x,y],f,ay N,g,o.t 2,x,y,d,a,lL x y,b] o.l [11,12]) X) (.value e)=Z (G (dL [.agg #[x,y],f,ay N,g,o.t 2,x,y,d,a,e,b] o.l [12]) X):=al
noncomputable def dC(c l:ae ag)(b:ae aJ):aA:=⟨66,⟨c++l⟩,b,[],.run,.normal,I⟩
noncomputable def M2:bH:=.seq (reg yA) .ret
theorem ahU(d e:ag):aN LL 3 (G (dL [.agg #[x,y],f,ay N,g,o.t 2,x,y,d,a,e,db s] o.l [12]) X)=G (dC [.agg #[x,y],f,ay N,g,o.t 2,x,y,.bool s.st,a,e,db s] o.l [.code (.cond (tm 9) .skip (.refuse "")),.code (.seq (.cond (tm 7) (.refuse "") .skip) M2)]) X:=al
theorem ahT(t:ae ag):aN LL 1 (G (dC t o.l [.code (.seq (.cond (tm 7) (.refuse "") .skip) M2)]) X)=G (dC t o.l [.code (.cond (tm 7) (.refuse "") .skip),.code M2]) X:=al
theorem ahJ(t:ae ag):aN LL 2 (G (dC t o.l [.code M2]) X)=G (dC t o.l [.inRegion yA [0,1],.code .ret]) X:=al
end
section
variable {R:ag->ax->Prop}{Hid:Loc->Prop}{T:Bool}{S:ae dU}{X:ae dg}{w W:ax}{V:ae aA}
theorem QQ(a)(t)(h:OF a=U):tw ak ⟨66,t,a,[],.run,.normal,I⟩:=⟨by simp,h,by simp⟩
theorem apj(L:fO Hid T S X w W)(hr:Rel (bS ak) Hid w W)(eO:Below ak LL V)(j:V≠[]){o:jj}{v0 f:ag}(hg:Good LL R ⟨G3 o v0 f,V,w⟩):T=U/\∃k∈S,∃s∈X,s.S=k.S/\s.D=k.D/\s.st=Y/\v0=.agg #[ay k.W,ay k.T]/\∃n w1 a b,w.heap[bw]?=Z (.chan 5 #[cY X] Y a b Y)/\Alike ((bW w (.chan 4 #[] Y 0 0 Y)).setChan bw 5 #[] Y a (b+1) Y) w1/\fA LL ⟨G3 o v0 f,V,w⟩ ⟨u7 o k w.heap.size f (cY X) s,V,w1⟩ n:=by
 obtain⟨ga,gb,i⟩:=L.gate;have xm:bw<w.heap.size:=(iy.1 i).1;have S6:∀b,b<w.heap.size->(bW w (.chan 4 #[] Y 0 0 Y)).heap[b]?=w.heap[b]?:=λb p=>by
  show(w.heap.push _)[b]?=_;rw[getElem?_push,if_neg ah]
 have η:∀t d,iW ak (re w t d):=λt d=>hr.tY;obtain⟨k1,L1,g1⟩:=EO hg (ahS o _ f _ _) j;have oZ:∀t d,iW ak (re (bW w (.chan 4 #[] Y 0 0 Y)) t d):=λt d b ds p=>by
  have p:(w.heap.push (.chan 4 #[] Y 0 0 Y))[b]?=Z (.deferred ds):=p;rw[getElem?_push]at p;split at p
  ·cases p
  ·exact η t d b _ p
 refine Or.elim (agE v0) (λ⟨x,y,hv⟩=>?_) λcL=>(DN xG AZ (ahH o _ f _ _) (QQ _ _ F) eO g1 λt d=>by obtain⟨e,he⟩:=cL _;exact⟨e,_,Gh he,oZ t d⟩).elim;subst hv;obtain⟨k2,L2,g2⟩:=g1.quiet 1 (ahI o f x y _ _) j;obtain⟨c,l,g,z,a,b,B,e1,m,e3⟩:=JI g2 j (ahQ o f x y _ _);cases e1;rw[S6 _ xm,i]at m;cases m;obtain⟨r,K,P⟩:=e3 F;cases T with
 |false=>simp at r
 |true=>
 refine⟨F,?_⟩;simp only[if_true]at i K P;have eb:(#[cY X]:af ag).getD 0 aB=cY X:=rfl;have ex:(#[cY X]:af ag).extract 1 (#[cY X]:af ag).size=#[]:=rfl;rw[eb,ex]at K P;rw[ahR]at K P;generalize E:(bW w (.chan 4 #[] Y 0 0 Y)).setChan bw 5 #[] Y ga (gb+1) Y=G at K P;have Hw:(bW w (.chan 4 #[] Y 0 0 Y)).heap[bw]?=Z (.chan 5 #[cY X] Y ga gb Y):=by rw[S6 _ xm,i]
 have δ:∀b,b≠bw->b<w.heap.size->G.heap[b]?=w.heap[b]?:=λb h1 h2=>by rw[<-E,mT _ _ _ _ _ _ _ (λe=>h1 e.symm),S6 b h2]
 have Zo:∀{c l a b:Nat}{g:af ag}{z B:Bool},G.heap[c]?=Z (.chan l g z a b B)->0<g.size->c≠bw/\w.heap[c]?=Z (.chan l g z a b B):=λ{c l a b g z B}h r=>by
  rw[<-E]at h;by_cases e:bw=c
  ·subst e
   rw[oQ _ Hw]at h;cases h;simp at r
  ·rw[mT _ _ _ _ _ _ _ e]at h
   refine⟨λm=>e m.symm,?_⟩;have h:(w.heap.push (.chan 4 #[] Y 0 0 Y))[c]?=Z (.chan l g z a b B):=h;rw[getElem?_push]at h;split at h
   ·cases h;simp at r
   ·exact h
 have YW:∀{w3:ax},Alike G w3->∀t d,iW ak (re w3 t d):=λ{w3}hA t d b ds p=>by
  have p:w3.heap[b]?=Z (.deferred ds):=p;rcases hA.obj b with e|⟨_,_,_,_,_,_,_,_,D,q⟩
  ·rw[e,<-E]at p
   by_cases m:bw=b
   ·subst m
    rw[oQ _ Hw]at p;cases p
   ·rw[mT _ _ _ _ _ _ _ m]at p
    exact oZ t d b _ p
  ·simp_all
 obtain⟨k4,L4,g4⟩:=P.quiet 2 (ahP o f x y _ _ _) j;obtain⟨c,l,g,z,a,b,B,e1,m,e3⟩:=JI g4 j (ahW o f x y _ _ _);subst e1;simp only at m;have bx:z=Y:=by
  by_cases r:0<g.size
  ·exact(L.full (Zo m r).2 r).1
  ·by_cases e:bw=c
   ·subst e
    rw[<-E,oQ _ Hw]at m;cases m;rfl
   ·rw[<-E,mT _ _ _ _ _ _ _ e]at m
    have h:(w.heap.push (.chan 4 #[] Y 0 0 Y))[c]?=Z (.chan l g z a b B):=m;rw[getElem?_push]at h;split at h
    ·cases h;rfl
    ·exact(L.chans _ _ _ _ _ _ _ h).1
 subst bx;obtain⟨r,L5,g5⟩:=e3 rfl;obtain⟨JW,β⟩:=Zo m r;obtain⟨_,AA,xi⟩:=L.full β r;subst AA;rw[ahX]at L5 g5;have xo:(G.setChan c l (g.extract 1 g.size) Y a (b+1) Y).heap[c]?=Z (.chan l (g.extract 1 g.size) Y a (b+1) Y):=oQ _ m _ _ _ _ _ _;obtain⟨c',v,u,N,a',b',PX,D,q,O⟩:=Nt g5 j (ahD o f _ y _ _ _ _);cases D;simp only at q;rw[xo]at q;cases q;obtain⟨_,C,A⟩:=O rfl;rw[ahF]at C A;rcases xi with⟨k,hk,rfl,rfl,rfl⟩|⟨s,hs,rfl,rfl,rfl⟩|⟨rfl,_⟩|⟨rfl,rfl,oo,rfl⟩
 case inr.inr.inl=>exact absurd F JW
 case inr.inr.inr=>exact(DN xG AZ (ahM o f _ y _ _ _ _) (QQ _ _ F) eO A λt d=>by
                    obtain⟨e,he⟩:=ai8 _ _;exact⟨e,_,Gh he,YW (Alike.bX m _ _ _ _ _) t d⟩).elim
 case inr.inl=>
  obtain⟨k7,L7,g7⟩:=A.quiet 1 (ahO o f _ y _ _ s _) j;obtain⟨_,_,_,_,_,_,_,e,_⟩:=JI g7 j (XP o f _ y _ _ _ _ _);cases e
 case inl=>
 have ek:(#[rQ k]:af ag).getD 0 aB=rQ k:=rfl;have ε:((#[rQ k]:af ag).extract 1 (#[rQ k]:af ag).size).push (rQ k)=#[rQ k]:=rfl;rw[ek]at L5 g5 C A;rw[ε]at C A;have A6:=Alike.bX (s':=a+1) (r':=b+1) m ((#[rQ k]:af ag).extract 1 (#[rQ k]:af ag).size) Y a (b+1) Y;generalize (G.setChan k.W 1 ((#[rQ k]:af ag).extract 1 (#[rQ k]:af ag).size) Y a (b+1) Y)=w5 at L5 C A A6;generalize (w5.setChan k.W 1 #[rQ k] Y (a+1) (b+1) Y)=w6 at C A A6;obtain⟨k7,L7,g7⟩:=A.quiet 1 (ahN o f _ y _ _ _ _ _) j;obtain⟨s,hs,eS,eD⟩:=(L.k k hk).p9;obtain⟨sa,sb,hD⟩:=(L.s s hs).lone;rw[eD]at hD;have Db:k.D≠bw:=λe=>by simp_all
 have ζ:G.heap[k.D]?=Z (.chan 2 #[db s] Y sa sb Y):=by rw[δ _ Db (iy.1 hD).1];exact hD
 obtain⟨H,J,yF⟩:=A6.np ζ;obtain⟨c',v,u,N,a',b',PX,D,q,O⟩:=JI g7 j (XP o f _ y _ _ _ _ _);cases D;simp only at q;rw[yF]at q;cases q;obtain⟨_,L8,g8⟩:=O F;rw[ahK]at L8 g8;have es:(#[db s]:af ag).getD 0 aB=db s:=rfl;rw[es]at L8 g8;have Od:(w6.setChan k.D 2 ((#[db s]:af ag).extract 1 (#[db s]:af ag).size) Y H (J+1) Y).heap[k.D]?=Z (.chan 2 ((#[db s]:af ag).extract 1 (#[db s]:af ag).size) Y H (J+1) Y):=oQ _ yF _ _ _ _ _ _;obtain⟨c',v,u,N,a',b',PX,D,q,O⟩:=Nt g8 j (ahE o f _ y _ _ _ _ _ _);cases D;simp only at q;rw[Od]at q;cases q;obtain⟨_,M,Q⟩:=O F;rw[ahG]at M Q;have Q7:((#[db s]:af ag).extract 1 (#[db s]:af ag).size).push (db s)=#[db s]:=rfl;rw[Q7]at M Q;have A9:=A6.trans (Alike.bX (s':=H+1) (r':=J+1) yF ((#[db s]:af ag).extract 1 (#[db s]:af ag).size) Y H (J+1) Y);generalize (w6.setChan k.D 2 ((#[db s]:af ag).extract 1 (#[db s]:af ag).size) Y H (J+1) Y)=w8 at L8 M Q A9;generalize (w8.setChan k.D 2 #[db s] Y (H+1) (J+1) Y)=w9 at M Q A9;obtain⟨ι,oq,ow⟩:=Q.quiet 1 (ahV o f _ y (cY X) _ V _ _ _ _) j;refine Or.elim (aiR k.T y (tm 7) (tm 6)) (λ⟨oy,hy,aL⟩=>?_) λcL=>(DN xG AZ (XQ o f _ y (cY X) _ V _ _ _) (QQ _ _ F) eO ow λt d=>by obtain⟨e,he⟩:=cL (re _ t d);exact⟨e,_,Gh he,YW A9 t d⟩).elim;subst hy;have zM:=DO (w:=w9) (w1:=w9) (XQ o f (ay k.W) (.chan oy) (cY X) w.heap.size V (ay k.D) (db s) (ay k.T)) (ahL o f (ay k.W) (.chan oy) (cY X) w.heap.size V (ay k.D) (db s) (ay k.T) _) λt d=>LQ (aL _);have By:=ow.mL zM j;obtain⟨κ,GB,EL⟩:=By.quiet 3 (ahU o f _ _ (cY X) _ s V _ _ _) j;obtain⟨c1,Ex⟩:=Rq EL j;have EM:=EL.mL Ex j;have θ:oy=Z k.T:=by
  have zY:(Value.bool (Z k.T==oy))=.bool U:=c1;simp only[Value.bool.injEq,beq_iff_eq]at zY;exact zY.symm
 obtain⟨μ,GC,Hb⟩:=EM.quiet 1 (ahT o V _) j;obtain⟨c2,GD⟩:=YL (bb:=s.st) Hb j F;have Nl:=Hb.mL GD j;obtain⟨ν,γ,_⟩:=Nl.quiet 2 (ahJ o V _) j;subst θ;have:=((((((((((((((L1.trans L2).trans K).trans L4).trans L5).trans C).trans L7).trans L8).trans M).trans oq).trans zM).trans GB).trans Ex).trans GC).trans GD).trans γ;have ej:u7 o k w.heap.size f (cY X) s=dC [.agg #[ay k.W,ay k.T],f,ay w.heap.size,cY X,o.t 2,ay k.W,ay k.T,.bool s.st,ay k.D,.bool (Z k.T==Z k.T),db s] o.l [.inRegion yA [0,1],.code .ret]:=by
  rw[c2];simp[u7,dC]
 rw[<-ej]at this;exact⟨k,hk,s,hs,eS,eD,c2,F,_,w9,ga,gb,i,by rw[E];exact A9,this⟩
end
section
variable {fx:Obj->Prop}{Hid mF:Loc->Prop}{w X W S:ax}{T V:Bool}{Q:ae dU}{R:ae dg}
theorem lM(w)(o)(b):(bW w o).heap[b]?=if b=w.heap.size then Z o else w.heap[b]?:=getElem?_push ..
theorem l8(w)(o){b}(h:b<w.heap.size):(bW w o).heap[b]?=w.heap[b]?:=by rw[lM,if_neg ah]
theorem size_push(w)(o):(bW w o).heap.size=w.heap.size+1:=by simp[bW]
theorem size_setChan(w:ax)(c b)(a)(d)(s r)(tm):(w.setChan c b a d s r tm).heap.size=w.heap.size:=by simp[World.setChan]
theorem heap_setChan(w:ax){c}(h:c<w.heap.size)(d)(a)(f)(s r)(tm)(b):(w.setChan c d a f s r tm).heap[b]?=if b=c then Z (.chan d a f s r tm)else w.heap[b]?:=by
 by_cases e:b=c
 ·subst e
  simp[World.setChan,h]
 ·rw[if_neg e,mT _ _ _ _ _ _ _ (λx=>e x.symm)]
theorem dD{w:ax}{b}{o}(h:w.heap[b]?=Z o):b<w.heap.size:=(iy.1 h).1
theorem Bj.bN{b}{o O}(h:Bj fx Hid b o O)(f:mF (.obj b)->Hid (.obj b)):Bj fx mF b o O:=by
 cases h with
 |same _ g=>exact .same _ g
 |cut _ _ _ c d e=>exact .cut _ _ _ c d e
 |k8 _ _ _ _ _ _ _ a=>
  refine .k8 _ _ _ _ _ _ _ ?_;cases O<;>first|exact a|exactλi=>a (f i)
 |view _ _ a=>exact .view _ _ a
theorem Rel.Ii(h:Rel fx Hid w W){k s r}{j}{q tm}{O}(t:Qt mF w.heap.size O)(x:∀l,Hid l->mF l)(i:∀l,mF l->Hid l\/∃a,l=.cell a/\a.block=w.heap.size):Rel fx mF (bW w (.chan k j q s r tm)) (bW W O):=by
 refine⟨by simp[bW,h.size],h.tape,h.drawn,h.os,h.output,λb o c=>?_,λa u=>?_,λr v=>?_⟩
 ·rw[lM]at c
  rw[lM,<-h.size];by_cases e:b=w.heap.size
  ·rw[if_pos e]at c⊢
   cases c;exact⟨O,F,.k8 _ _ _ _ _ _ _ (by rw[e];exact t)⟩
  ·rw[if_neg e]at c⊢
   obtain⟨n,f,d⟩:=h.obj b o c;exact⟨n,f,d.bN λg=>(i _ g).resolve_right λ⟨a,e,_⟩=>by cases e⟩
 ·rcases i _ u with g|⟨p,e,c⟩
  ·obtain⟨f,d⟩:=h.m9 a g
   refine⟨by rw[size_push];omega,?_⟩;unfold fU at d⊢;rw[l8 _ _ f];exact d
  ·cases e
   refine⟨by rw[size_push];omega,?_⟩;unfold fU;rw[lM,if_pos c]
 ·rcases i _ v with g|⟨p,e,c⟩
  ·obtain⟨f,d⟩:=h.pM r g
   refine⟨by rw[size_push];omega,λo m=>?_⟩;rw[l8 _ _ f]at m;exact d o m
  ·cases e
theorem Rel.sV(h:Rel fx Hid w W){c k s r cap' s' r'}{j buf'}{n tm cl' tm'}(m:w.heap[c]?=Z (.chan k j n s r tm)):Rel fx Hid (w.setChan c cap' buf' cl' s' r' tm') W:=by
 have l:=dD m;refine⟨by rw[size_setChan];exact h.size,h.tape,h.drawn,h.os,h.output,λb o g=>?_,λa p=>?_,λr t=>?_⟩
 ·rw[heap_setChan _ l]at g
  by_cases e:b=c
  ·subst e
   rw[if_pos F]at g;cases g;obtain⟨O,d,f⟩:=h.obj _ _ m;refine⟨O,d,?_⟩;cases f with
   |same _ q=>exact q.elim
   |k8 _ _ _ _ _ _ _ u=>exact .k8 _ _ _ _ _ _ _ u
  ·rw[if_neg e]at g
   exact h.obj b o g
 ·obtain⟨d,f⟩:=h.m9 a p
  refine⟨by rw[size_setChan];exact d,?_⟩;unfold fU at f⊢;rw[heap_setChan _ l];by_cases e:a.block=c
  ·rw[if_pos e]
  ·simp_all
 ·obtain⟨d,f⟩:=h.pM r t
  refine⟨by rw[size_setChan];exact d,λo i=>?_⟩;rw[heap_setChan _ l]at i;split at i
  ·cases i;rfl
  ·exact f o i
theorem Rel.UY(h:Rel fx Hid w W){c cap s r d m l}{buf a}{cl tm f i}(j:w.heap[c]?=Z (.chan cap buf cl s r tm)):Rel fx Hid w (W.setChan c d a f m l i):=by
 have k:c<W.heap.size:=by rw[<-h.size];exact dD j
 refine⟨by rw[size_setChan];exact h.size,h.tape,h.drawn,h.os,h.output,λb o g=>?_,h.m9,h.pM⟩;rw[heap_setChan _ k];by_cases e:b=c
 ·subst e
  rw[j]at g;cases g;exact⟨_,if_pos F,.k8 _ _ _ _ _ _ _ trivial⟩
 ·rw[if_neg e]
  exact h.obj b o g
theorem vE{w X:ax}{b i}{v}(h:∀c t f,w.heap[b]?=Z (.cells c t f)->X.heap[b]?=Z (.cells c t f))(e:w.cell? (bn b i)=Z v):X.cell? (bn b i)=Z v:=by
 obtain⟨c,t,f,a,_,g,d⟩:=kQ e;rw[ED (h _ _ _ a)];exact d
theorem AV{w X:ax}{b}{x}(h:∀c t f,w.heap[b]?=Z (.cells c t f)->X.heap[b]?=Z (.cells c t f))(a:w.shape? b=Z x):X.shape? b=Z x:=by
 unfold fF at a⊢;split at a
 ·simp_all
 ·cases a
theorem fO.move(L:fO Hid T Q R w W)(z:∀l,Hid l->mF l)
  (M:∀(b d)(g)(m)(s r)(tm),b≠bw->w.heap[b]?=Z (.chan d g m s r tm)->∃u q,X.heap[b]?=Z (.chan d g m u q tm))
  (N:∀(b d)(g)(m)(s r)(tm),b≠bw->X.heap[b]?=Z (.chan d g m s r tm)->(∃u q,w.heap[b]?=Z (.chan d g m u q tm))\/(d=4/\g=#[]/\m=Y/\tm=Y))
  (H:∃a b,X.heap[bw]?=Z (.chan 5 (if V then#[cY R]else#[]) Y a b Y))
  (O:∀(b:Nat)c t f,w.heap[b]?=Z (.cells c t f)->X.heap[b]?=Z (.cells c t f))(n:∀(b:Nat)c t f,W.heap[b]?=Z (.cells c t f)->S.heap[b]?=Z (.cells c t f))
  (G:∀(b:Nat)m j,W.heap[b]?=Z (.chan 0 #[] m j j Y)->∃J,S.heap[b]?=Z (.chan 0 #[] m J J Y)):fO mF V Q R X S:=by
 have p:∀{b d s r:Nat}{g}{m tm},d≠5->w.heap[b]?=Z (.chan d g m s r tm)->∃u q,X.heap[b]?=Z (.chan d g m u q tm):=λ{b d s r g m tm}P o=>by
  refine M b _ _ _ _ _ _ (λe=>?_) o;obtain⟨_,_,E⟩:=L.gate;rw[e,E]at o;cases o;exact P F
 refine⟨λs hs=>?_,λk D=>?_,λb d g m x y tm o=>?_,H,?_,L.DF,L.DD,L.AF,L.yZ,L.u5,L.count,L.nodup,L.B6⟩
 ·have l:=L.s s hs
  obtain⟨a,b,hl⟩:=l.lone;obtain⟨A,B,oX⟩:=p ah hl;obtain⟨k,D⟩:=l.real;exact⟨⟨A,B,oX⟩,G _ _ _ D,⟨AV (O _) l.sh.1,AV (n _) l.sh.2⟩,vE (n _) l.done,vE (n _) l.cnt,vE (n _) l.qW,vE (n _) l.stop,λi hi C=>z _ (l.bN i hi C),l.le⟩
 ·have l:=L.k k D
  obtain⟨a1,b1,q1⟩:=l.work;obtain⟨a2,b2,q2⟩:=l.told;obtain⟨a3,b3,q3⟩:=l.wb;obtain⟨a4,b4,q4⟩:=l.sb;obtain⟨j,C⟩:=l.zw;exact⟨l.p9,p ah q1,p ah q2,G _ _ _ C,p ah q3,n _ _ _ _ l.rR,p ah q4,n _ _ _ _ l.uo,z _ l.bN.1,z _ l.bN.2.1,z _ l.bN.2.2⟩
 ·by_cases e:b=bw
  ·subst e
   obtain⟨_,_,E⟩:=H;rw[E]at o;cases o;exact⟨F,F,.gate F,λe=>by cases e⟩
  ·rcases N _ _ _ _ _ _ _ e o with⟨_,_,h⟩|⟨rfl,rfl,rfl,rfl⟩
   ·exact L.chans _ _ _ _ _ _ _ h
   ·exact⟨rfl,rfl,.box,λ_=>rfl⟩
 ·obtain⟨v,a,b,h,hv⟩:=L.hand
  obtain⟨A,B,K⟩:=p ah h;exact⟨v,A,B,K,hv⟩
end
theorem ahz(o)(W T N)(f)(a):oI ak N (aN ak 1 (G (Jr o W T f) a))=Z (Jq o W T N f a,.cells #[ay W,ay T] 142):=al
theorem eQ.push{w}{a}{v}{b}(h:eQ w a v b)(o):eQ (bW w o) a v b:=by
 obtain⟨c,t,f,d,_⟩:=kQ h.cell;have e:=l8 w o (dD d);refine⟨?_,?_,?_⟩
 ·have:=h.cell;unfold fU at this⊢;rw[e];exact this
 ·have:=h.free;unfold qj at this⊢;rw[e];exact this
 ·have:=h.shape;unfold fF at this⊢;rw[e];exact this
theorem wK.push{k}{w}(h:wK k w)(o):wK k (bW w o):=⟨h.work.push o,h.told.push o,h.store.push o,h.done.push o⟩
section
variable {Hid:Loc->Prop}{Q At:Nat->Loc->Prop}{X:Loc->Prop}{R:Nat->aj YS}{S:ae dU}{V:ae dg}{P:aj wU}{B n:Nat}{w W:ax}
theorem Core.B8(C:Core Hid Q At X R S V I B n w W){i}{y}(b:R i=Z y):∃k∈S,∃s∈V,s.S=k.S/\s.st=Y/\k.g=i/\∃a,y=wY k a:=by
 rcases C.zj i y b with h|⟨j,c,_⟩
 ·exact h
 ·cases c
theorem Core.qQ(C:Core Hid Q At X R S V P B n w W){b i}(a:i≠11)(c:i≠12):¬X (.cell (bn b i)):=λh=>by
 obtain⟨s,_,e⟩:=(C.mO _).1 h;rcases e with e|e
 ·cases e;exact a rfl
 ·cases e;exact c rfl
theorem fO.tN{f}(_:fO Hid f S V w W){a b c d s r l k:Nat}{x y}{j g tm i}(m:w.heap[a]?=Z (.chan c x j s r tm))(o:w.heap[b]?=Z (.chan d y g l k i))(h:c≠d):a≠b:=λe=>by
 simp_all
end
theorem ahy(o)(k)(N)(f)(e)(B):(dY o k N f e B).s.Wf/\(dY o k N f e B).s.has (dY o k N f e B).own/\(dY o k N f e B).IZ:=⟨Seat.one_wf .. ,Seat.one_has.2 F,λw d h=>h.at ⟨d,F⟩,λw c i g l a b tm j h=>GY h j⟩
theorem ahx(o)(k)(N)(f)(a)(B)(b:N<B):∃n,Sits ak U (dY o k N f a B).K (dY o k N f a B).St (dY o k N f a B).B (dY o k N f a B).s n (jx (sG o k.W k.T N f a) aB):=by
 refine Way.xR ?_;refine Way.read (atK o _ _ N f _) (λw h=>h) F b ?_;refine Way.quiet 400 _ ?_;rw[atJ];exact Way.stop ⟨_,F,F,F,F,F,#[],by simp,λw _=>atH o _ _ N f _ w⟩
theorem ah2{s}(b:Base s)(h0:s.h=0)(hj:s.dN=I){k}(M:k∈s.ws){t}(ht:t∈s.ss)(eS:t.S=k.S)(aF:t.st=Y){o}{f}{a}{l}(e3:s.fr=Jr o k.W k.T f)(e4:s.cs=a::l):∃N T H W' sl q jr O x y r h g,iz ak N s.m s.T=(.next (crowd H W' sl),T)/\H.size=s.gs.size/\H[k.g]?=Z (cG k f x y f r (3::O))/\Gu k jr O x y/\s.B<=h/\s.W.heap.size+1<=h/\
                                                                                                                                                   fg ak (add1 s.St 0 (dY o k s.W.heap.size f (a::l) h).St) s.At s.Shun (od s.ao 0 (Z (dY o k s.W.heap.size f (a::l) h))) k.g h T H W' q/\
                                                                                                                                                   AtRel ((bW s.W (.cells #[ay k.W,ay k.T] 142)).setChan k.W 0 #[] Y (g+1) (g+1) Y) W'/\s.W.heap[k.W]?=Z (.chan 0 #[] Y g g Y):=by
 have C:=b.core;rw[hj]at C;have L:=C.ft;have lk:=L.k k M;obtain⟨δ,hm,Tg,iG,C0,_⟩:=b.first (by rw[e3,e4];exact Li _ _ _ _ _ (.inl F) _ (.inr (.inr (.inl F))));generalize K:s.W.heap.size=N;have qG:s.B<=max s.B (N+1):=Nat.le_max_left _ _;have sI:N+1<=max s.B (N+1):=Nat.le_max_right _ _;generalize max s.B (N+1)=h at qG sI;have C1:=C0.mono qG;rw[h0]at C1 iG;rw[e3,e4]at iG;have Z4:∀i y,s.ao i=Z y->∃m∈s.ws,m.g=i/\∃u,y=wY m u:=λi y z=>by
  obtain⟨m,D,_,_,_,_,J,u,h3⟩:=C.B8 z;exact⟨m,D,J,u,h3⟩
 have H0:=dI.begin (sl:=s.sl) C1.Cs iG;rw[Tg]at H0;have H1:=H0.new (ahz o _ _ N f _) K (λi y z w ob hK=>by
  obtain⟨m,_,_,u,rfl⟩:=Z4 i y z;exact wK.push hK _) λi y c z E=>by
   obtain⟨g,dV⟩:=C1.chans i y c z E;rw[<-K];exact dD dV
 have rD:(bW s.W (.cells #[ay k.W,ay k.T] 142)).heap[N]?=Z (.cells #[ay k.W,ay k.T] 142):=by rw[lM,if_pos K.symm]
 have kW:eQ (bW s.W (.cells #[ay k.W,ay k.T] 142)) (bn N 0) (ay k.W) (Z (142,2)):=xe rD (by unfold fU;rw[rD];rfl);have gP:eQ (bW s.W (.cells #[ay k.W,ay k.T] 142)) (bn N 1) (ay k.T) (Z (142,2)):=xe rD (by unfold fU;rw[rD];rfl);have H2:=H1.read (C.qQ ah ah) sI kW (Cp (agA o _ _ N f _));have H3:=H2.quiet _ (agB o _ _ N f _);obtain⟨n1,m6,w1,jV,T1,q1,d1,a1,r1,r2,r3,r4,e,e5,G⟩:=H3;subst e e5;have C2:=r4.xX;have aC:=(iy.1 r3).1;have ju:w1.heap=(bW s.W (.cells #[ay k.W,ay k.T] 142)).heap:=by obtain⟨d,rfl⟩:=G;rfl
 obtain⟨jt,SC⟩:=lk.zw;obtain⟨ta,tb,hT⟩:=lk.told;have γ:k.T<N:=by rw[<-K];exact dD SC
 have az:∀m∈s.ws,k.T≠m.W/\k.T≠m.D:=λm A=>by
  have l':=L.k _ A;obtain⟨p,q,D⟩:=l'.work;obtain⟨s',bG,_,e2⟩:=l'.p9;obtain⟨p2,q2,J⟩:=(L.s _ bG).lone;rw[e2]at J;exact⟨L.tN hT D ah,L.tN hT J ah⟩
 have NS:GF s.Shun s.ao 0 h w1 (dY o k N f (a::l) h):=by
  refine⟨ahy ..,λc E=>?_,λi y' z hy=>?_,⟨λc E=>?_,dt _⟩,gP.at G,λl hl=>?_⟩
  ·obtain rfl:=Seat.one_has.1 E
   exact⟨jt,by rw[ju,l8 _ _ (dD SC)];exact SC⟩
  ·obtain⟨m,A,_,u,rfl⟩:=Z4 i _ hy
   refine⟨λhh=>?_,λhh=>?_⟩
   ·rcases(A0 _ _).1 hh with e|e
    ·exact(az _ A).1 e
    ·exact(az _ A).2 e
   ·exact(az _ A).1 (Seat.one_has.1 hh).symm
  ·obtain rfl:=Seat.one_has.1 E
   omega
  ·
   subst hl;exact⟨rfl,C.qQ ah ah⟩
 have C3:=C2.reseat aC NS;obtain⟨J2,Sw⟩:=C.g0 k M;obtain⟨u,JM,j8⟩:=C.zl k M t ht eS aF;have YX:od s.ao 0 (Z (dY o k N f (a::l) h)) k.g=Z (wY k u):=by rw[kl J2];exact JM
 obtain⟨nh,sQ⟩:=ahx o k N f _ _ sI;obtain⟨n2,m2,T2,g1,g2⟩:=C3.give (kk:=0) J2 YX rfl rS r3 rfl (λd=>auW o _ _ N f _ _) ba sQ;obtain⟨jz,g₂,dd,g,jv,q2,rfl,p2,v,p4,⟨j2,j,rfl⟩,C4⟩:=g2.ex;have e6:jx (zn k j2 j) (rh (wY k u).s.cases (wY k u).s.shape 0 f U)=AX k j2 j (tS 0 U f):=by
  show jx (zn k j2 j) (rh (s9 k) .select 0 f U)=_;rw[ajQ];rfl
 replace p4:=p4.trans (congrArg _ e6);have β:s.W.heap[k.W]?=Z (.chan 0 #[] Y g g Y):=by
  have v:=v;rw[ju,lM]at v;split at v
  ·cases v
  ·exact v
 have hK:wK k ((w1.at dd).setChan k.W 0 #[] Y (g+1) (g+1) Y):=by
  have D:=L.wK C.rel M;exact((D.push _).QA (atRel_trans _ _ _ G ⟨dd,rfl⟩)).setChan ⟨_,v,rfl⟩
 have D0:=dI.begin (sl:=jv) C4.Cs p4;rw[p2]at D0;have D1:=ayZ k _ j f hK (C.qQ ah ah) (by have:=j8.wb;have:=(C4.mem _ _ YX).2.2;exact pA j8.wb this) D0;obtain⟨n3,Hf,w3,Ge,T3,q3,d3,a3,s1,s2,s3,s4,e,⟨O,x,y,r,E7,e7⟩,RY⟩:=D1;subst e e7;refine⟨1+n1+n2+n3,T3,Hf,w3,Ge,q3,_,O,x,y,r,h,g,kK (kK (kK hm r1) g1) s1,by rw[s2,r2],s3,E7,qG,sI,s4.xX,?_,β⟩;obtain⟨d4,rfl⟩:=RY;obtain⟨d5,rfl⟩:=G;exact⟨d4,rfl⟩
theorem aiB(a):bO LL 66 a .normal=⟨66,pad 11 a,[.code (FJ.body.getD .skip)],[],.run,.normal,I⟩:=al
noncomputable def Xi:bH:=((Tryz.prog.funcs[66]?).bind (·.body)).getD .skip
theorem aiK(a):bO ak 66 a .normal=⟨66,pad 11 a,[.code Xi],[],.run,.normal,I⟩:=al
def OR(a:af ag):jj:=⟨λi=>(pad 11 a).getD (i+2) aB,(pad 11 a).toList.drop 11⟩
theorem aiA(a):bO LL 66 a .normal=G3 (OR a) ((pad 11 a).getD 0 aB) ((pad 11 a).getD 1 aB):=by
 rw[aiB];show _=(⟨66,bI 11 (IA (λi=>(pad 11 a).getD (i+2) aB) _ _) ((pad 11 a).toList.drop 11),[.code (FJ.body.getD .skip)],[],.run,.normal,I⟩:aA);rw[<-adi _ _ (Ce .. )]
theorem aiJ(a){W T}(h:(pad 11 a).getD 0 aB=.agg #[ay W,ay T]):bO ak 66 a .normal=Jr (OR a) W T ((pad 11 a).getD 1 aB):=by
 rw[aiK];show _=(⟨66,bI 11 (IA (λi=>(pad 11 a).getD (i+2) aB) _ _) ((pad 11 a).toList.drop 11),[.code Xi],[],.run,.normal,I⟩:aA);rw[<-h,<-adi _ _ (Ce .. )]
section
variable {Hid:Loc->Prop}{S:ae dU}{V:ae dg}{w X W:ax}
theorem ah1(L:fO Hid U S V w W)(J:Rel (bS ak) Hid w W){k}(P:k∈S){a b o}(C:w.heap[bw]?=Z (.chan 5 #[cY V] Y a b Y))(g:Alike ((bW w (.chan 4 #[] Y 0 0 Y)).setChan bw 5 #[] Y a (b+1) Y) X)
  (O:W.heap[k.W]?=Z (.chan 0 #[] Y o o Y)):
  let u:=λl=>Hid l\/∃i,l=.cell (bn w.heap.size i);let m:=(bW W (.cells #[ay k.W,ay k.T] 142)).setChan k.W 0 #[] Y (o+1) (o+1) Y
  Rel (bS ak) u X m/\fO u Y S V X m/\(∃a b,X.heap[w.heap.size]?=Z (.chan 4 #[] Y a b Y))/\m.heap[w.heap.size]?=Z (.cells #[ay k.W,ay k.T] 142):=by
 intro u m;have xm:=dD C;have dJ:=dD O;obtain⟨Q,R,G⟩:=(L.k k P).work;have D:bw≠w.heap.size:=by omega
 have E:(bW w (.chan 4 #[] Y 0 0 Y)).heap[bw]?=Z (.chan 5 #[cY V] Y a b Y):=by rw[l8 _ _ xm];exact C
 have M:=dD E;have n:∀d:Nat,((bW w (.chan 4 #[] Y 0 0 Y)).setChan bw 5 #[] Y a (b+1) Y).heap[d]?=if d=bw then Z (.chan 5 #[] Y a (b+1) Y)else if d=w.heap.size then Z (.chan 4 #[] Y 0 0 Y)else w.heap[d]?:=λd=>by
  rw[heap_setChan _ M,lM]
 have K:∀d:Nat,m.heap[d]?=if d=k.W then Z (.chan 0 #[] Y (o+1) (o+1) Y)else if d=W.heap.size then Z (.cells #[ay k.W,ay k.T] 142)else W.heap[d]?:=λd=>by
  show((bW W _).setChan .. ).heap[d]?=_;rw[heap_setChan _ (by rw[size_push];omega),lM]
 have T:Rel (bS ak) u X m:=by
  have N:Rel (bS ak) u (bW w (.chan 4 #[] Y 0 0 Y)) (bW W (.cells #[ay k.W,ay k.T] 142)):=J.Ii ⟨by simp,F⟩ (λl h=>.inl h) λl h=>h.imp id λ⟨i,e⟩=>⟨_,e,F⟩;have B:=(N.sV E).alike g;have v:((bW w (.chan 4 #[] Y 0 0 Y)).setChan bw 5 #[] Y a (b+1) Y).heap[k.W]?=Z (.chan 1 #[rQ k] Y Q R Y):=by
   rw[n,if_neg (L.tN G C ah),if_neg (by grind)];exact G
  obtain⟨p,q,x⟩:=g.np v;exact B.UY x
 refine⟨T,L.move (λl h=>.inl h) (λd z y H s r tm A h=>?_) (λd z y H s r tm A h=>?_) ?_ (λd c t f h=>?_) (λd c t f h=>?_) (λd H j h=>?_),?_,?_⟩
 ·refine g.np (s:=s) (r:=r) ?_
  rw[n,if_neg A,if_neg (by grind)];exact h
 ·obtain⟨s0,r0,h⟩:=g.chan h
  rw[n,if_neg A]at h;split at h
  ·simp_all
  ·simp_all
 ·refine g.np (s:=a) (r:=b+1) ?_
  rw[n,if_pos F];rfl
 ·have B:((bW w (.chan 4 #[] Y 0 0 Y)).setChan bw 5 #[] Y a (b+1) Y).heap[d]?=Z (.cells c t f):=by
   rw[n,if_neg (λe=>by simp_all),if_neg (by grind)];exact h
  rcases g.obj _ with e|⟨_,_,_,_,_,_,_,_,f1,_⟩
  ·rw[e];exact B
  ·simp_all
 ·grind
 ·grind
 ·refine g.np (s:=0) (r:=0) ?_
  rw[n,if_neg (λe=>D e.symm),if_pos rfl]
 ·rw[K,if_neg (by grind),if_pos J.size]
end
theorem ah0{Hid}{S}{V}{w X W}(L:fO Hid U S V w W)(n:Rel (bS ak) Hid w W){k}(l:k∈S){a b c}(s:w.heap[bw]?=Z (.chan 5 #[cY V] Y a b Y))(f:Alike ((bW w (.chan 4 #[] Y 0 0 Y)).setChan bw 5 #[] Y a (b+1) Y) X)(g:W.heap[k.W]?=Z (.chan 0 #[] Y c c Y)):mU w W X ((bW W (.cells #[ay k.W,ay k.T] 142)).setChan k.W 0 #[] Y (c+1) (c+1) Y):=by
 obtain⟨z,A,p⟩:=(L.k k l).work;obtain⟨v,q,r,t,_⟩:=L.hand;have y:=n.size;refine⟨λx u h=>?_,λx o=>?_,by rw[f.size,size_setChan,size_push];omega,λx d=>?_⟩
 ·have m:=dD h
  have d:bw≠x:=λe=>by simp_all
  have j:((bW w (.chan 4 #[] Y 0 0 Y)).setChan bw 5 #[] Y a (b+1) Y).heap[x]?=Z (.view ⟨0,0,Z 0⟩ u):=by
   rw[mT _ _ _ _ _ _ _ d,l8 _ _ m];exact h
  exact(f.dead W).v x u j
 ·have d:k.W≠x/\x<W.heap.size:=by
   rcases o with⟨u,h⟩|rfl|rfl
   ·grind
   ·grind
   ·grind
  rw[mT _ _ _ _ _ _ _ d.1,l8 _ _ d.2]
 ·have i:(bW W (.cells #[ay k.W,ay k.T] 142)).heap[k.W]?=Z (.chan 0 #[] Y c c Y):=by rw[l8 _ _ (dD g)];exact g
  rw[Vb i];unfold fF;rw[l8 _ _ ah]
theorem apR{R}{s}(i:Inv s)(hg:Good LL R s.cu){p a}{v l}{c}(M:ky s.E p v a l\/s.E p v a l)(B:s.fr'=bO LL 66 c .normal)(G:s.cs'=p::v)(P:s.fr=bO ak 66 c .normal)(e4:s.cs=a::l)(hm:a.mode=.run):∃s1:eC,Base s1/\Real s s1/\∃j,s1.dN=Z j/\yi j/\s1.h=j.k.g/\s1.fr'=j.A'/\s1.cs'=j.L'/\s1.fr=j.A/\s1.cs=[wrap]/\∃k n b,0<k/\ku LL s.cu s1.cu k n b:=by
 rw[aiA]at B;have eO:=i.below M;have qK:s.cu=⟨G3 (OR c) ((pad 11 c).getD 0 aB) ((pad 11 c).getD 1 aB),p::v,s.w⟩:=by unfold eC.cu;rw[B,G]
 rw[qK]at hg⊢;have b:=i.base;obtain⟨Fj,k,J,t,ht,Q,eD,O,hv,n,X,ga,gb,h,hA,hL⟩:=apj b.core.ft b.core.rel eO ba hg;have H:s.dN=I:=by
  cases e:s.dN with
  |none=>rfl
  |some j=>simp_all
 have L:s.h=0:=by
  cases i.nH with
  |main _ L _=>exact L
  |work j e=>rw[H]at e;cases e
  |back j e=>rw[H]at e;cases e
 have st:ky Mw p v a l:=by
  rw[IQ H]at M;exact M.resolve_right id
 have HC:p.mode=.run:=by
  obtain⟨x,e,_⟩:=st.fr;rw[e];exact hm
 rw[aiJ _ hv]at P;generalize β:(pad 11 c).getD 1 aB=f at*;generalize OR c=o at*;obtain⟨N0,T,gs,W',sl,q,jr,ll,x,y,r,D,K,p1,p2,p3,p4,p5,p6,p7,⟨dd,rfl⟩,p8⟩:=ah2 b L H J ht Q O P e4;have C:=b.core;rw[H]at C;obtain⟨q1,q2,⟨na,nb,q3⟩,q4⟩:=ah1 C.ft C.rel J h hA p8;have hN:=C.rel.size.symm;have BD:=ah0 C.ft C.rel J h hA p8;rw[hN]at p6 p7;generalize z:(⟨o,k,u7 o k s.w.heap.size f (cY s.ss) t,p::v,Ed k (GX k f x y f r) (.inRegion v8 (3::ll)::FG),s.w.heap.size,f,a::l⟩:wU)=j;have Dj:yi j:=by
  subst z;exact⟨⟨p,v,a,l,F,F,st,HC,hm⟩,⟨_,t,F⟩,⟨jr,ll,x,y,r,p4,F⟩⟩
 have Al:Core (λl=>s.Hid l\/∃i,l=.cell (bn s.w.heap.size i)) (add1 s.St 0 (dY o k s.w.heap.size f (a::l) D).St) s.At s.Shun (od s.ao 0 (Z (dY o k s.w.heap.size f (a::l) D))) s.ws s.ss (Z j) D gs.size X ((bW s.W (.cells #[ay k.W,ay k.T] 142)).setChan k.W 0 #[] Y (K+1) (K+1) Y):=by
  rw[p2];refine⟨q1,q2,by rw[size_setChan,size_push,hN];exact p6,λg l u=>?_,C.mO,C.zX,C.Bq,λk' A l u=>.inl (C.cS _ A l u),λk' A s' E B G=>?_,λk' A s' E B G=>?_,λi y N=>?_,C.g0,λj' Ap=>?_⟩
  ·rcases u with u|⟨rfl,u⟩
   ·obtain⟨z1,z2⟩:=C.rN g l u
    exact⟨.inl z1,z2⟩
   ·exact⟨.inr ⟨1,u⟩,_,u,zH rfl⟩
  ·rw[kl (C.g0 _ A).1]
   exact C.zl _ A _ E B G
  ·rw[kl (C.g0 _ A).1]
   exact C.gone _ A _ E B G
  ·by_cases e:i=0
   ·subst e
    cases N;refine .inr ⟨j,rfl,rfl,D,?_⟩;subst z;rfl
   ·rw[kl e]at N
    exact .inl (C.B8 N)
  ·cases Ap
   subst z;exact⟨J,⟨t,ht,Q,O⟩,⟨D,rS⟩,⟨na,nb,q3⟩,q4,.inr ⟨1,rfl⟩,t,rfl⟩
 obtain⟨s1,hb,⟨N2,vI⟩,f1,f2,f3,f4,f5,f6,_,_,⟨τ,d,f7⟩,_,dW,eW⟩:=settle p7 p3 (Al.re _) ..;refine⟨s1,hb,⟨⟨N0+N2,kK p1 vI⟩,by rw[eW,f7];exact(((BD.at _).at _).re .. ).re .. ⟩,j,f6,Dj,by rw[f5,<-z],by rw[f1,<-z],by rw[f2,<-z],by rw[f3,<-z],f4,n+0,0,λ_ _=>0,?_,?_⟩
 ·refine Nat.pos_of_ne_zero λhn=>?_
  subst hn;have h1:=hL (λ_ _=>0) 0;simp only[dG,yc]at h1;have h2:=congrArg (λm:fT=>(m.gs[0]?).map (·.frame.todo.length)) h1;simp[ik.on,lone,G3,u7]at h2
 ·have E:s1.cu=⟨u7 o k s.w.heap.size f (cY s.ss) t,p::v,re (re X ((bW s.W (.cells #[ay k.W,ay k.T] 142)).setChan k.W 0 #[] Y (K+1) (K+1) Y).tape dd) τ d⟩:=by unfold eC.cu;rw[f1,f2,f7]
  rw[E];exact hL.wy
def ND(s:Sem Next):Prop:=∀w n a,s.run LL w=.ok n a->∀d,n≠.defer d
theorem B5{s}(h:eB ak fs s):ND s:=λw n b e d a=>by
 have:=h w n _ e;rw[a]at this;exact jL this
theorem abp{γ}{s}{k:γ->Sem Next}(h:∀v,ND (k v)):ND (s>>=k):=λw n b e=>by
 have c:(s>>=k).run LL w=(s.run LL w).andThen λa b=>(k a).run LL b:=zI _ s k w;rw[c]at e;cases hc:s.run LL w with
 |ok v d=>rw[hc]at e;exact h v _ n _ e
 |halt x d=>rw[hc]at e;cases e
theorem abq{n}(h:∀d,n≠.defer d):ND (pure n):=λw m a e=>by cases e;exact h
theorem aqs(l)(a):ND (Instr.yield l a):=by
 refine abp λr=>?_;split
 ·exact abp λ_=>abq λd h=>by cases h
 ·exact abq λd h=>by cases h
theorem aqr(f)(c)(a):ND (invoke (.fn f c) a):=by
 have H:=QG;unfold invoke;cases f with
 |func f=>exact B5 (H _ _)
 |method d=>
  dsimp only
  split
  ·exact B5 (Oi H _ _ _)
  ·exact B5 (qN (fL _))
 |methodOf t d=>
  dsimp only
  split
  ·refine B5 (sU λu=>?_)
   split<;>exact Oi H _ _ _
  ·exact B5 (qN (fL _))
 |via t p f b=>
  dsimp only
  split
  ·exact B5 (sU λ_=>H _ _)
  ·exact B5 (qN (fL _))
 |yield l=>exact aqs l _
def yx(f:ag):Sem Next:=do
 let d<-Eg f #[]
 invoke d.target d.args
theorem aqq(f):ND (yx f):=by
 unfold yx Eg;split
 ·exact aqr _ _ _
 ·show ND (invoke .nil #[])
  unfold invoke;exact B5 (qN (sB _))
 ·exact B5 (qN (fL _).bind)
noncomputable def Xl:bq:=aP 4 (.call {callee:=.value (tm 1),args:=#[],argTypes:=#[]})
theorem Xm(f):cN (bR ⟨66,#[aB,f],[],[],.run,.normal,I⟩) Xl=yx f:=al
theorem Xn:qT ak Xl.op=U:=rfl
theorem av0(Hid)(f):Sm ak fs (bS ak) Hid [] (yx f):=by
 rw[<-Xm];exact adt Xo _ _ Xn
theorem aoh(Hid)(f):KN ak fs Hid (yx f):=by
 rw[<-Xm];exact aaz QG (λ_=>rfl) _ Xn
theorem anT(o)(k)(N)(f g)(s)(a):eV LL (G (u7 o k N f g s) a)=Z (yx f):=al
theorem agQ(k)(f x y r)(l):eV ak (G (Ed k (GX k f x y f r) (.inRegion v8 (3::l)::FG)) [wrap])=Z (yx f):=al
theorem agO{R}{s}(b:Base s){j}(K:s.dN=Z j)(u:yi j)(h0:s.h=j.k.g)(e1:s.fr'=j.A')(e2:s.cs'=j.L')(e3:s.fr=j.A)(e4:s.cs=[wrap])(hg:Good LL R s.cu):∃c k n a,Inv c/\Real s c/\0<k/\ku LL s.cu c.cu k n a:=by
 obtain⟨g,t,XX⟩:=u.lone;obtain⟨jr,ll,x,y,r,E7,eA⟩:=u.real;have O:s.E j.A' j.L' j.A [wrap]:=by unfold eC.E;rw[K];exact⟨F,F,F,F⟩
 have qK:s.cu=⟨j.A',j.L',s.w⟩:=by unfold eC.cu;rw[e1,e2]
 have ZN:eV LL (G j.A' j.L')=Z (yx j.f):=by rw[XX];exact anT ..
 have V:eV ak (G j.A [wrap])=Z (yx j.f):=by rw[eA];exact agQ ..
 have Q:tw ak j.A':=by rw[XX];exact⟨by simp[u7],F,by simp[u7]⟩
 have T:Below ak LL j.L':=by
  obtain⟨yr,BY,a0,l0,z1,_,hs,_⟩:=u.nH;rw[z1];exact .cons hs.fr.GV (hs.belows QY)
 have L:=b.core.rel;have S:=av0 s.Hid j.f;obtain⟨n,o,P⟩:∃n o,(yx j.f).run LL s.w=.ok n o:=by
  rw[qK]at hg;obtain⟨τ,d,kV,W⟩:=hg _;cases BR:(yx j.f).run LL (re s.w τ d)with
  |ok n o=>
   obtain⟨_,m,w0,_,pO⟩:=(S _ _ (L.re _ d) ba).1 n _ BR;have h2:=pO s.w.tape s.w.drawn λi _ q=>(kV i q).symm;exact⟨n,_,h2⟩
  |halt xx o=>exact(aaR xG AZ ZN Q T W BR ((S _ _ (L.re _ d) ba).2 _ _ BR).tY).elim
 obtain⟨⟨W1,us,hS,eF,dx,qL⟩,m,w0,ju,pO⟩:=(S _ _ L ba).1 n _ P;have p:=aoh _ _ _ _ L n _ P;have nV:=aqq _ _ n _ P;obtain⟨M,D,z⟩:=p.after _ _ _;obtain⟨t2,X,C⟩:=p.after _ _ _;have oZ:mj LL (G j.A' j.L') n=Z (G M D):=by
  unfold mj;simp only[G];rw[z];rfl
 have Dm:mj ak (G j.A [wrap]) n=Z (G t2 X):=by
  unfold mj;simp only[G];rw[C];rfl
 have gX:∃es,aE ak (s.h==0) (G s.fr s.cs) s.W=dZ t2 X W1 es/\∀e∈es,rk s.Hid o.heap.size e:=by
  rw[e3,e4];obtain⟨_,h⟩:=AO V Dm (w:=s.W) (w1:=W1) (es:=us) (by grind);exact⟨_,h,λe he=>qL e (Cz he)⟩
 obtain⟨es,aF,fI⟩:=gX;obtain⟨c,hb,hR,A,B,E,H,f5,J,_,_,τ,d,f7⟩:=b.go aF eF dx fI _ _;have N:c.E=s.E:=by unfold eC.E;rw[J]
 have hL:ku LL s.cu ⟨M,D,o⟩ 1 m λi q=>s.w.tape (s.w.drawn+i) q:=by
  rw[qK];intro τ d kV;have h1:=pO _ d kV;obtain⟨_,h2⟩:=AO ZN oZ (by rw[jN,h1]);simp only[ik.on,dG];rw[fe h2,ju];rfl
 have bG:c.cu=⟨M,D,re o τ d⟩:=by unfold eC.cu;rw[A,B,f7]
 refine⟨c,1,m,_,⟨hb,?_⟩,hR,Nat.one_pos,by rw[bG];exact hL⟩;have Y8:∀v,M=j.A'.finish v->D=j.L'->t2=j.A.finish v->X=[wrap]->tI c:=λv g1 g2 g3 g4=>.back j (J.trans K) u (f5.trans h0) v (A.trans g1) (B.trans g2) (E.trans g3) (H.trans g4);cases n with
 |value v=>
  cases z;cases C;exact Y8 v F F F F
 |skip=>
  cases z;cases C;exact Y8 _ F F F F
 |enter f β=>
  cases z;cases C;refine .work j (J.trans K) u (f5.trans h0) ?_;rw[A,B,E,H,N];have JJ:j.A.mode=.run:=by rw[eA];rfl
  rcases QX f _ _ p (.inl F)with h|h
  ·exact .inl (.bound h rfl O)
  ·refine .inr ⟨.normal,j.A',j.L',j.A,[wrap],by rw[A,E];exact h,B,H,.inl ⟨rfl,JJ,.inr (by rw[N];exact O)⟩⟩
 |defer dd=>simp_all
 |round l f γ aa bb=>
  cases z;cases C;refine .work j (J.trans K) u (f5.trans h0) (.inl ?_);rw[A,B,E,H,N];exact .bound ⟨_,F,.cons (.code (.same _ p.1)) (.cons .beginRound (.cons (.code (.same _ p.2.1)) .nil)),⟨.inl F,by simp[Frame.round],p.2.2⟩,.inl F⟩ F O
 |_=>exact absurd (show Y=U from p) jL
theorem apS{R}{s}(i:Inv s)(o:Good LL R s.cu){f a}{g l}{c}(E:ky s.E f g a l\/s.E f g a l)(u:s.fr'=bO LL 66 c .normal)(v:s.cs'=f::g)(w:s.fr=bO ak 66 c .normal)(x:s.cs=a::l)(J:a.mode=.run):∃d k n b,Inv d/\Real s d/\0<k/\ku LL s.cu d.cu k n b:=by
 obtain⟨s1,D,C,j,H,p,B,y,h,z,A,k,n,a0,O,m⟩:=apR i o E u v w x J;have t:s1.cu.cs≠[]:=by
  show s1.cs'≠[];rw[h];obtain⟨_,_,_,_,e,_⟩:=p.nH;rw[e];simp
 obtain⟨d,K,L,M,G,r,N,q⟩:=agO D H p B y h z A (o.wy m t);exact⟨d,k+K,n+L,_,G,C.trans r,by omega,m.trans q⟩
theorem Base.aty{s}(b:Base s){a}{v}{l}{h}(B:¬s.Shun (.cell a))(r:a.block<s.B)(d:eQ s.W a v l)(n:nY ak l v (G s.fr s.cs)=Z (h,v,[.ev ⟨.cell a,Y,Y⟩])):∃m T,(∃N,iz ak N s.m s.T=(.next m,T))/\dI ak s.St s.At s.Shun s.ao s.h s.B s.gs.size s.W m T 0 (·=h):=by
 obtain⟨D,o⟩:=xA n ⟨F,trivial⟩;have A:=(o _ d.cell d.free d.shape).trans (by rw[xQ d.cell]);have u:DZ s.St s.ao s.Shun s.B s.W s.W (seen ak (G s.fr s.cs).frame.fn (dm [iR.ev ⟨.cell a,Y,Y⟩]).toArray):=by
  refine⟨λ_ _ _ _ _=>rfl,λ_ _ _ w=>w,λe c=>?_⟩;have c:=mem_seen c;simp only[dm,ko,bM,gV,or_false]at c;subst c;refine⟨λy j=>?_,r⟩;simp only[gI,lS,gB]at j;subst j;exact⟨λ_ _=>rfl,λt=>absurd t B⟩
 have C:ia 0 (seen ak (G s.fr s.cs).frame.fn (dm [iR.ev ⟨.cell a,Y,Y⟩]).toArray)=0:=by
  refine deafBehind_still (λe c=>?_) _;have c:=mem_seen c;simp only[dm,ko,bM,gV,or_false]at c;subst c;exact⟨by simp,by simp⟩
 obtain⟨i,p,q⟩:=b.hold.Cs.own b.top u;rw[C]at i;have g:=wQ (sl:=s.sl) b.top A;have:=dI.begin (sl:=s.sl) i p;rw[q]at this;exact⟨_,_,⟨1,by simp only[iz,b.bX,g]⟩,this⟩
section
variable (k:dU)(f x y z v:ag)
theorem af5:nY ak (Z (142,2)) (ay k.T) (cG k f (ptr k.wb 1) y z v [1,4])=Z (cG k f (ptr k.wb 1) (ay k.T) z v [4],ay k.T,[.ev ⟨.cell (bn k.wb 1),Y,Y⟩]):=al
theorem af2:aN ak 1 (cG k f x y z v [0,1,4])=cG k f (ptr k.wb 1) y z v [1,4]:=al
theorem af3:(oM ak (cG k f x y z v [0,1,4])).isSome=U:=al
end
theorem af8{s}(b:Base s){j}(hj:s.dN=Z j)(jk:yi j)(W:s.h=j.k.g){v}(e3:s.fr=j.A.finish v)(e4:s.cs=[wrap]){a}{l}(em:j.B4=a::l)(ha:a.mode=.run):∃N T K Q sl q g,iz ak N s.m s.T=(.next (crowd K Q sl),T)/\K.size=s.gs.size/\K[0]?=Z (G (a.finish v) l)/\fg ak s.St s.At s.Shun (od s.ao 0 I) 0 s.B T K Q q/\AtRel (s.W.setChan j.k.T 0 #[] Y (g+1) (g+1) Y) Q/\s.W.heap[j.k.T]?=Z (.chan 0 #[] Y g g Y):=by
 have C:=b.core;obtain⟨hk,⟨t,ht,eS,aF⟩,⟨Wj,YY⟩,_,_,_⟩:=C.BX j hj;obtain⟨E,M,j8⟩:=C.zl _ hk t ht eS aF;obtain⟨iG,Sw⟩:=C.g0 _ hk;obtain⟨jr,ll,x,y,r,E7,eA⟩:=jk.real;have X:=(b.hold.mem _ _ M).2.2;have B:=pA j8.wb X;have hK:=C.ft.wK C.rel hk;have Fj:(j.k.g==0)=Y:=by simpa using iG
 obtain⟨k,f,N,o⟩:∃k f N o,k=j.k/\f=j.f/\N=j.N/\o=j.o:=⟨_,_,_,_,F,F,F,F⟩;have iZ:∀c,G s.fr s.cs=c->c=cG j.k j.f x y j.f v ll:=λc hc=>by
  rw[<-hc,e3,e4,eA,EJ];rfl
 have S:s.gs[j.k.g]?=Z (cG j.k j.f x y j.f v ll):=by
  have:=b.top;rw[iZ _ F,W]at this;exact this
 obtain⟨nh,sQ⟩:=avv _ j8 _ _ _ _ v;have Z7:Sits ak (j.k.g==0) (wY j.k E).K (wY j.k E).St (wY j.k E).B (wY j.k E).s nh (jx (cG j.k j.f (ptr j.k.wb 1) (ay j.k.T) j.f v [4]) aB):=by rw[Fj];exact sQ
 have jA:=C.qQ (b:=j.k.wb) (i:=1) ah ah;have R:∃(N:Nat)(D:fT)(p:ed)(h:ax)(n:Nat),iz ak N s.m s.T=(.next D,p)/\AtRel s.W h/\n=s.gs.size/\IX ak s.St s.At s.Shun s.ao 0 s.B (dY j.o j.k j.N j.f j.B4 Wj) 0 v n h D p:=by
  have Az:∀w,aE ak (j.k.g==0) (cG j.k j.f (ptr j.k.wb 1) (ay j.k.T) j.f v [4]) w=.comm (cG j.k j.f (ptr j.k.wb 1) (ay j.k.T) j.f v [4]) #[scase j.k.T v (.tuple #[])] U .send w #[]:=λw=>by rw[Fj];exact ayW ..
  have Y6:∀m T,(∃N,iz ak N s.m s.T=(.next m,T))->dI ak s.St s.At s.Shun s.ao s.h s.B s.gs.size s.W m T 0 (·=cG j.k j.f (ptr j.k.wb 1) (ay j.k.T) j.f v [4])->∃(N:Nat)(D:fT)(p:ed)(h:ax)(n:Nat),iz ak N s.m s.T=(.next D,p)/\AtRel s.W h/\n=s.gs.size/\IX ak s.St s.At s.Shun s.ao 0 s.B (dY j.o j.k j.N j.f j.B4 Wj) 0 v n h D p:=λm T⟨N,A⟩H=>by
   rw[W]at H;obtain⟨n1,m6,h,jV,T1,q1,d1,a1,r1,r2,r3,r4,z1,z2,J⟩:=H;subst z1 z2;obtain⟨n2,m2,P,V,u⟩:=r4.xX.give (kk:=0) (λe=>iG e.symm) YY F M r3 F (λd=>Az _) ba Z7;exact⟨N+n1+n2,m2,P,h,_,kK (kK A r1) V,J,r2,u⟩
  have O:=iZ _ F;cases E7 with
  |all=>
   have hC:=b.hold;have hT:=b.bX;rw[W]at hC hT;obtain⟨n2,m2,P,V,u⟩:=hC.YI hT (kk:=0) (λe=>iG e.symm) YY F M S (Az _) ba Z7;exact⟨n2,m2,P,s.W,_,V,atRel_refl _,F,u⟩
  |part=>
   obtain⟨m,T,A,H⟩:=b.aty jA B hK.told (by rw[O];exact af5 ..);exact Y6 m T A H
  |none=>
   obtain⟨m,T,A,H,_⟩:=b.begin (by rw[O];exact af3 ..);rw[O,af2]at H;exact Y6 m T A (H.read jA B hK.told (af4 ..))
 obtain⟨n1,m1,T1,h,n,eF,J,hn,u⟩:=R;obtain⟨jz,g₂,dd,g,jv,q2,rfl,p2,p3,p4,L,C4⟩:=u.ex;have L:=L;subst L;have p4:=p4.trans (congrArg (λx=>Z (jx (rG j.o j.k.W j.k.T j.N j.f j.B4) x)) (atI _ v));have D0:=dI.begin (sl:=jv) C4.azB.Cs p4;rw[p2,hn,em]at D0;obtain⟨fn,δ,ε,ds,γ,β,ro⟩:=a;simp only at ha;subst ha;have D1:=D0.quiet 4 (atG _ _ _ _ _ v l);obtain⟨n3,Hf,w3,Ge,T3,q3,d3,a3,s1,s2,s3,s4,z1,z2,RY⟩:=D1;subst z1 z2;refine⟨n1+n3,T3,Hf,w3,Ge,q3,g,kK eF s1,s2,s3,s4.xX,?_,?_⟩
 ·obtain⟨d4,rfl⟩:=RY
  obtain⟨d5,rfl⟩:=J;exact⟨d4,F⟩
 ·obtain⟨d5,rfl⟩:=J
  exact p3
section
variable (o:jj)(k:dU)(N:Nat)(f v g:ag)(s:dg)(X:ae aA)
noncomputable def jB:ae ag:=[.agg #[ay k.W,ay k.T],f,ay N,g,v,ay k.W,ay k.T,.bool Y,ay k.D,.bool U,db s]
theorem anO:(u7 o k N f g s).finish v=dC (jB k N f v g s) o.l [.inRegion yA [1],.code .ret]:=al
theorem anR:(eV LL (G (dC (jB k N f v g s) o.l [.inRegion yA [1],.code .ret]) X)).bind (fR LL)=Z (.comm #[{chan:=gN,send:=Z g,zero:=.tuple #[]}] U .send):=al
theorem anS:(dC (jB k N f v g s) o.l [.inRegion yA [1],.code .ret]).finish aB=dC (jB k N f v g s) o.l [.inRegion yA [],.code .ret]:=al
theorem anQ:aN LL 2 (G (dC (jB k N f v g s) o.l [.inRegion yA [],.code .ret]) X)=G ⟨66,⟨jB k N f v g s++o.l⟩,[.code .ret],[],.returning,.normal,I⟩ X:=al
theorem anP(w):(results FJ ⟨jB k N f v g s++o.l⟩).runT LL w #[]=(.ok v w,#[]):=al
end
theorem aoH:LL.funcs[66]?=Z FJ:=al
theorem aaX{R}{s}(i:Inv s)(hg:Good LL R s.cu){j}(W:s.dN=Z j)(jk:yi j)(h0:s.h=j.k.g){v}(K:s.fr'=j.A'.finish v)(G:s.cs'=j.L')(e3:s.fr=j.A.finish v)(e4:s.cs=[wrap]):∃P k n b,Inv P/\Real s P/\0<k/\ku LL s.cu P.cu k n b:=by
 have b:=i.base;have C:=b.core;obtain⟨yr,BY,a0,l0,γ,em,hs,HC,hm⟩:=jk.nH;obtain⟨_,_,_,_,_,_,t,eA⟩:=C.BX j W;have L:=C.ft;rw[W]at L;obtain⟨A,B,m⟩:=L.gate;have m:=m;have qK:s.cu=⟨dC (jB j.k j.N j.f v (cY s.ss) t) j.o.l [.inRegion yA [1],.code .ret],yr::BY,s.w⟩:=by unfold eC.cu;rw[K,G,eA,γ,anO]
 rw[qK]at hg⊢;obtain⟨c,E,D,Q,a,p,iJ,S,M,f3⟩:=Nt hg ba (anR _ _ _ _ v _ t _);cases S;rw[m]at M;cases M;obtain⟨_,L1,g1⟩:=f3 F;rw[anS]at L1 g1;obtain⟨k2,L2,g2⟩:=g1.quiet 2 (anQ _ _ _ _ v _ t _) ba;have L3:=TX (w:=s.w.setChan bw 5 ((#[]).push (cY s.ss)) Y (A+1) B Y) (a:=yr) (l:=BY) (td:=[.code .ret]) aoH (anP j.o j.k j.N j.f v (cY s.ss) t);have hL:=(L1.trans L2).trans L3;obtain⟨N,T,gs,W',sl,q,z,p1,p2,p3,p4,⟨dd,rfl⟩,p6⟩:=af8 b W jk h0 e3 e4 em hm;obtain⟨hk,_⟩:=C.BX j W;obtain⟨ta,tb,O⟩:=(L.k _ hk).told;have xm:=dD m;have dJ:=dD p6;have j8:∀p:Nat,(s.w.setChan bw 5 ((#[]).push (cY s.ss)) Y (A+1) B Y).heap[p]?=if p=bw then Z (.chan 5 ((#[]).push (cY s.ss)) Y (A+1) B Y)else s.w.heap[p]?:=λp=>heap_setChan _ xm ..
 have Fy:∀p:Nat,(s.W.setChan j.k.T 0 #[] Y (z+1) (z+1) Y).heap[p]?=if p=j.k.T then Z (.chan 0 #[] Y (z+1) (z+1) Y)else s.W.heap[p]?:=λp=>heap_setChan _ dJ ..
 have pR:Rel (bS ak) s.Hid (s.w.setChan bw 5 ((#[]).push (cY s.ss)) Y (A+1) B Y) (s.W.setChan j.k.T 0 #[] Y (z+1) (z+1) Y):=by
  refine(C.rel.sV m).UY (cap:=3) (buf:=#[]) (cl:=Y) (s:=ta) (r:=tb) (tm:=Y) ?_;rw[j8,if_neg (L.tN O m ah)];exact O
 have β:fO s.Hid U s.ws s.ss (s.w.setChan bw 5 ((#[]:af ag).push (cY s.ss)) Y (A+1) B Y) (s.W.setChan j.k.T 0 #[] Y (z+1) (z+1) Y):=by
  refine L.move (λl h=>h) (λp E D Q s r tm h0 h=>?_) (λp E D Q s r tm h0 h=>?_) ⟨A+1,B,by simp_all⟩ (λp c t f h=>?_) (λp c t f h=>?_) (λp Q j' h=>?_)
  ·simp_all
  ·simp_all
  ·rw[j8,if_neg (λe=>by rw[e,m]at h;cases h)]
   exact h
  ·rw[Fy,if_neg (λe=>by rw[e,p6]at h;cases h)]
   exact h
  ·rw[Fy]
   by_cases e:p=j.k.T
   ·subst e
    rw[p6]at h;cases h;exact⟨z+1,if_pos F⟩
   ·rw[if_neg e]
    exact⟨j',h⟩
 have Al:Core s.Hid s.St s.At s.Shun (od s.ao 0 I) s.ws s.ss I s.B gs.size (s.w.setChan bw 5 ((#[]:af ag).push (cY s.ss)) Y (A+1) B Y) (s.W.setChan j.k.T 0 #[] Y (z+1) (z+1) Y):=by
  rw[p2];refine⟨pR,β,by rw[size_setChan];exact C.low,C.rN,C.mO,C.zX,C.Bq,C.cS,λk' J P H K G=>?_,λk' J P H K G=>?_,λi y V=>?_,C.g0,λj' Ap=>by cases Ap⟩
  ·rw[kl (C.g0 _ J).1]
   exact C.zl _ J _ H K G
  ·rw[kl (C.g0 _ J).1]
   exact C.gone _ J _ H K G
  ·by_cases e:i=0
   ·subst e
    rw[rS]at V;cases V
   ·rw[kl e]at V
    exact(C.zj i y V).imp id λ⟨_,_,G,_⟩=>absurd G e
 obtain⟨s1,hb,⟨N2,vI⟩,S,M,δ,f4,f5,f6,_,_,⟨τ,d,f7⟩,_,dW,eW⟩:=settle (sl:=sl) p4 p3 (Al.re _) (yr.finish v) _;refine⟨s1,1+k2+1,0,λ_ _=>0,⟨hb,.main f6 f5 (.inl ?_)⟩,⟨⟨N+N2,kK p1 vI⟩,?_⟩,by omega,?_⟩
 ·rw[S,M,δ,f4,IQ f6]
  exact hs.back .normal v
 ·rw[eW,f7]
  obtain⟨hv,yO,yP,nC,_⟩:=L.hand;refine⟨λx u h=>?_,λx o=>?_,Nat.le_of_eq (size_setChan ..).symm,λx _=>Vb p6 ..⟩
  ·exact(j8 x).trans (by rw[if_neg (λe=>by rw[e,m]at h;cases h)];exact h)
  ·refine(Fy x).trans (if_neg ?_)
   rcases o with⟨u,h⟩|rfl|rfl
   ·exactλe=>by rw[e,O]at h;cases h
   ·exactλe=>by rw[e,O]at m;cases m
   ·exactλe=>by rw[e,O]at nC;cases nC
 ·have H:s1.cu=⟨yr.finish v,BY,re (re (s.w.setChan bw 5 ((#[]:af ag).push (cY s.ss)) Y (A+1) B Y) (s.W.setChan j.k.T 0 #[] Y (z+1) (z+1) Y).tape dd) τ d⟩:=by unfold eC.cu;rw[S,M,f7]
  rw[H];exact hL.wy
abbrev aX(fn:cH)(t:af ag)(X:af bq)(is:ae Nat)(k:ae aJ)(ds:ae cz)(kind:dQ):aA:=⟨fn,t,.inRegion X is::k,ds,.run,kind,I⟩
section
variable {R:ag->ax->Prop}{fn:cH}{t:af ag}{X:af bq}{i:Nat}{is:ae Nat}{k:ae aJ}{ds:ae cz}{kind:dQ}{cs:ae aA}{w:ax}
theorem OT(b:kind=.normal\/kind=.deferred){o:bq}(c:X[i]?=Z o)(a:o.guard=I):eV LL (G (aX fn t X (i::is) k ds kind) cs)=Z (cN (bR ⟨fn,t,[],ds,.run,kind,I⟩) o):=by
 have d:wO o (yielded X t)=U:=by simp[wO,a]
 rcases b with rfl|rfl<;>simp[eV,G,aX,c,d]
theorem Rb{d:aj Tmp}{op:Op}(a:X[i]?=Z (OS d op))(v:ag):(aX fn t X (i::is) k ds kind).finish v=aX fn (match d with
  |some d=>t.setIfInBounds d v
  |none=>t) X is k ds kind:=by
 cases d<;>simp[jw,aX,a,OS]
theorem sH(f:kind=.normal\/kind=.deferred)(g:cs≠[]){a:Op}(b:X[i]?=Z (aP d a)){S:Sem ag}(j:cN (bR ⟨fn,t,[],ds,.run,kind,I⟩) (aP d a)=(do pure (.value (<-S)))){v:ag}(h:∀τ e,S.run LL (re w τ e)=.ok v (re w τ e))(m:Good LL R ⟨aX fn t X (i::is) k ds kind,cs,w⟩):fA LL ⟨aX fn t X (i::is) k ds kind,cs,w⟩ ⟨aX fn (t.setIfInBounds d v) X is k ds kind,cs,w⟩ 1/\Good LL R ⟨aX fn (t.setIfInBounds d v) X is k ds kind,cs,w⟩:=by
 have c:=OT (fn:=fn) (t:=t) (is:=is) (k:=k) (ds:=ds) (cs:=cs) f b F;rw[j]at c;have n:mj LL (G (aX fn t X (i::is) k ds kind) cs) (.value v)=Z (G (aX fn (t.setIfInBounds d v) X is k ds kind) cs):=by
  have l:=Rb (fn:=fn) (t:=t) (is:=is) (k:=k) (ds:=ds) (kind:=kind) (d:=Z d) (op:=a) b v;simp only[mj,CQ,G,jE];rw[l]
 have L:=DO (w:=w) (w1:=w) c n λτ e=>LQ (h τ e);exact⟨L,m.mL L g⟩
theorem rz(f:kind=.normal\/kind=.deferred)(h:Below ak LL cs)(j:∀d∈ds,lV ak d)(a:∀τ e,iW ak (re w τ e)){c:Op}(n:X[i]?=Z (aP d c)){S:Sem ag}(l:cN (bR ⟨fn,t,[],ds,.run,kind,I⟩) (aP d c)=(do pure (.value (<-S))))(g:∀τ e,∃x,S.run LL (re w τ e)=.halt x (re w τ e))(m:Good LL R ⟨aX fn t X (i::is) k ds kind,cs,w⟩):False:=by
 have b:=OT (fn:=fn) (t:=t) (is:=is) (k:=k) (ds:=ds) (cs:=cs) f n F;rw[l]at b;refine DN xG AZ b ⟨j,F,by simp⟩ h m λτ e=>?_;obtain⟨x,o⟩:=g τ e;exact⟨x,_,Gh o,a τ e⟩
theorem AR(n:kind=.normal\/kind=.deferred)(o:cs≠[]){m:Op}(l:X[i]?=Z (aP d m)){v z:ag}(s:fR LL (cN (bR ⟨fn,t,[],ds,.run,kind,I⟩) (aP d m))=Z (.comm #[{chan:=v,send:=I,zero:=z}] U (.recv Y)))
  (u:Good LL R ⟨aX fn t X (i::is) k ds kind,cs,w⟩):
  ∃c g f h a b tm,v=.chan (Z c)/\w.heap[c]?=Z (.chan g f h a b tm)/\(h=Y->0<f.size/\fA LL ⟨aX fn t X (i::is) k ds kind,cs,w⟩ ⟨aX fn (t.setIfInBounds d (f.getD 0 aB)) X is k ds kind,cs,w.setChan c g (f.extract 1 f.size) Y a (b+1) tm⟩ 1/\Good LL R ⟨aX fn (t.setIfInBounds d (f.getD 0 aB)) X is k ds kind,cs,w.setChan c g (f.extract 1 f.size) Y a (b+1) tm⟩):=by
 have x:=OT (fn:=fn) (t:=t) (is:=is) (k:=k) (ds:=ds) (cs:=cs) n l F;obtain⟨c,g,f,h,a,b,tm,p,q,r⟩:=JI u o (by rw[x];exact s);refine⟨c,g,f,h,a,b,tm,p,q,λe=>?_⟩;have j:=r e;rw[Rb (d:=Z d) l]at j;exact j
theorem wa(n:kind=.normal\/kind=.deferred)(o:cs≠[]){m:Op}(l:X[i]?=Z (ep m)){v x z:ag}(s:fR LL (cN (bR ⟨fn,t,[],ds,.run,kind,I⟩) (ep m))=Z (.comm #[{chan:=v,send:=Z x,zero:=z}] U .send))
  (u:Good LL R ⟨aX fn t X (i::is) k ds kind,cs,w⟩):
  ∃c g f h a b tm,v=.chan (Z c)/\w.heap[c]?=Z (.chan g f h a b tm)/\(h=Y->f.size<g/\fA LL ⟨aX fn t X (i::is) k ds kind,cs,w⟩ ⟨aX fn t X is k ds kind,cs,w.setChan c g (f.push x) Y (a+1) b tm⟩ 1/\Good LL R ⟨aX fn t X is k ds kind,cs,w.setChan c g (f.push x) Y (a+1) b tm⟩):=by
 have y:=OT (fn:=fn) (t:=t) (is:=is) (k:=k) (ds:=ds) (cs:=cs) n l F;obtain⟨c,g,f,h,a,b,tm,p,q,r⟩:=Nt u o (by rw[y];exact s);refine⟨c,g,f,h,a,b,tm,p,q,λe=>?_⟩;have j:=r e;rw[Rb (d:=I) l]at j;exact j
end
def Ez(w:ax)(S:Sem ag)(Q:ag->Prop):Prop:=(∃v,Q v/\∀τ e,S.run LL (re w τ e)=.ok v (re w τ e))\/∀τ e,∃x,S.run LL (re w τ e)=.halt x (re w τ e)
theorem Nh(w:ax)(v:ag)(m b:Nat)(h:(m=8/\b=9)\/(m=11/\b=13)\/(m=9/\b=10)\/(m=10/\b=11)):Ez w (tn 109 v m) λu=>∃a,v=.pointer (Z a)/\u=.pointer (Z (a.add b)):=by
 have c:∀u:ag,(∀w,(tn 109 u m).run LL w=.halt (.stuck "an address expected (no nilCheck in front?)") w)->Ez w (tn 109 u m) λf=>∃a,u=.pointer (Z a)/\f=.pointer (Z (a.add b)):=λu d=>.inr λτ e=>⟨_,d _⟩;cases v with
 |pointer o=>
  cases o with
  |some a=>exact .inl ⟨_,⟨a,F,F⟩,λτ e=>by rcases h with⟨rfl,rfl⟩|⟨rfl,rfl⟩|⟨rfl,rfl⟩|⟨rfl,rfl⟩<;>kernel_rfl⟩
  |none=>exact c _ λw=>by rcases h with⟨rfl,rfl⟩|⟨rfl,rfl⟩|⟨rfl,rfl⟩|⟨rfl,rfl⟩<;>kernel_rfl
 |_=>exact c _ λw=>by rcases h with⟨rfl,rfl⟩|⟨rfl,rfl⟩|⟨rfl,rfl⟩|⟨rfl,rfl⟩<;>kernel_rfl
theorem ai7(w:ax)(v:ag):Ez w (tn 146 v 3) λu=>∃a,v=.pointer (Z a)/\u=.pointer (Z (a.add 3)):=by
 have b:∀u:ag,(∀w,(tn 146 u 3).run LL w=.halt (.stuck "an address expected (no nilCheck in front?)") w)->Ez w (tn 146 u 3) λd=>∃a,u=.pointer (Z a)/\d=.pointer (Z (a.add 3)):=λu c=>.inr λτ e=>⟨_,c _⟩;cases v with
 |pointer o=>
  cases o with
  |some a=>exact .inl ⟨_,⟨a,F,F⟩,λτ e=>by kernel_rfl⟩
  |none=>exact b _ λw=>by kernel_rfl
 |_=>exact b _ λw=>by kernel_rfl
theorem ai6(w:ax)(a:aU):Ez w (tn 142 (.pointer (Z a)) 0) λu=>u=.pointer (Z (a.add 0)):=.inl ⟨_,F,λτ e=>by kernel_rfl⟩
theorem TR{Hid:Loc->Prop}{w W:ax}{b:aK}(f:∀w,(isAgg b).run LL w=.ok Y w)(p:ag)(h:Rel (bS ak) Hid w W):Ez w (uG b p) λv=>∃a,p=.pointer (Z a)/\w.cell? a=Z v:=by
 unfold uG;cases p with
 |pointer o=>
  cases o with
  |none=>exact .inr λt d=>⟨_,F⟩
  |some a=>
   have e:∀t d,(do loadVar b (<-Instr.sureAddr (.pointer (Z a))):Sem ag).run LL (re w t d)=(load a).run LL (re w t d):=λt d=>by
    show(loadVar b a).run LL (re w t d)=_;unfold loadVar;rw[oh,f];rfl
   cases hc:w.cell? a with
   |some v=>
    refine .inl ⟨v,⟨a,F,hc⟩,λt d=>?_⟩;rw[e];have c:(re w t d).cell? a=Z v:=hc;simp[load,bP,c]
   |none=>
    refine .inr λt d=>?_;rw[e];have c:(re w t d).cell? a=I:=hc;have g:=((h.re t d).G9 (a:=a) LL (Mode.plain==Mode.atomic)).1;cases E':(re w t d).farLoad LL a (Mode.plain==Mode.atomic)with
    |ok r=>exact absurd E' (g r)
    |error x=>exact⟨x,by simp[load,bP,c,E']⟩
 |_=>exact .inr λt d=>⟨_,F⟩
theorem WV(w:ax):(isAgg 99).run LL w=.ok Y w:=al
theorem afK(w:ax):(isAgg 139).run LL w=.ok Y w:=al
theorem zO.MT{Hid:Loc->Prop}{w W:ax}{s:dg}(l:zO Hid w W s)(h:Rel (bS ak) Hid w W):∃c:af ag,c.size=10/\w.heap[s.S]?=Z (.cells c 109):=by
 obtain⟨a,b⟩:=l.sh;have aC:=wq a;cases ho:w.heap[s.S]? with
 |none=>rw[Ef]at ho;omega
 |some o=>
  obtain⟨O,f,g⟩:=h.obj _ _ ho;unfold fF at a b;rw[ho]at a;rw[f]at b;cases g with
  |same=>rw[b]at a;cases a
  |cut c d t _ _ _=>
   simp only[gB,fN]at a;obtain⟨rfl,e⟩:=a;exact⟨c,e,F⟩
  |k8=>cases a
  |view=>cases a
theorem acV(a:aU)(x:ax):(frozen a).run LL x=.ok (x.frozen? a) x:=rfl
def IB:aj Obj->Bool
 |none=>U
 |some (.view ..)=>U
 |_=>Y
theorem acW(r:Nat)(x:ax):(∀o,x.heap[r]?=Z o->mK o=Y->(j4 r).run LL x=.ok o x)/\(x.heap[r]?=I->∃h,(j4 r).run LL x=.halt h x):=by
 constructor
 ·intro o a b
  cases o<;>first|(cases b;done)|simp[j4,bP,a]
 ·intro a
  simp[j4,bP,a]
theorem run_shape(r:Nat)(x:ax):(shape r).run LL x=.ok (x.shape? r) x:=rfl
theorem acX(r:Nat)(x:ax):(IB (x.heap[r]?)=Y->(viewAt r).run LL x=.ok I x)/\(IB (x.heap[r]?)=U->(∃h,(viewAt r).run LL x=.halt h x)\/∃v,(viewAt r).run LL x=.ok (Z v) x):=by
 unfold viewAt;rw[oh,run_shape];simp only[fy];cases h:x.heap[r]? with
 |none=>
  refine⟨(λe=>by cases e),λ_=>.inl ?_⟩;have b:x.shape? r=I:=by unfold fF;rw[h]
  obtain⟨y,d⟩:=(acW r x).2 h;refine⟨y,?_⟩;rw[b];simp only[Option.isSome_none,hZ,if_false];rw[oh,d];rfl
 |some o=>
  have d:=(acW r x).1 o h;cases o with
  |cells c g f=>
   have b:x.shape? r=Z (g,c.size):=by unfold fF;rw[h]
   refine⟨λ_=>?_,λe=>by cases e⟩;rw[b];rfl
  |view a u=>
   have b:x.shape? r=I:=by unfold fF;rw[h]
   refine⟨(λe=>by cases e),λ_=>.inr ⟨(a,u),?_⟩⟩;rw[b];simp only[Option.isSome_none,hZ,if_false];rw[oh,d F];rfl
  |_=>
   have b:x.shape? r=I:=by unfold fF;rw[h]
   refine⟨λ_=>?_,λe=>by cases e⟩;rw[b];simp only[Option.isSome_none,hZ,if_false];rw[oh,d F];rfl
theorem Lq(b:aU)(x:ax):(IB (x.heap[b.block]?)=Y->(noView b).run LL x=.ok () x)/\(IB (x.heap[b.block]?)=U->∃h,(noView b).run LL x=.halt h x):=by
 unfold noView;rw[oh];constructor
 ·intro h
  rw[(acX b.block x).1 h];rfl
 ·intro h
  rcases(acX b.block x).2 h with⟨y,c⟩|⟨v,a⟩
  ·rw[c];exact⟨y,rfl⟩
  ·rw[a];exact⟨_,rfl⟩
theorem auE{w:ax}{S:Nat}(p:∃c:af ag,c.size=10/\w.heap[S]?=Z (.cells c 109))(b:aU)(l:py w b=Y):(∃r,(r=U->b=⟨S,0,I⟩)/\∀τ e,(sameAddr ⟨S,0,I⟩ b).run LL (re w τ e)=.ok r (re w τ e))\/∀τ e,∃x,(sameAddr ⟨S,0,I⟩ b).run LL (re w τ e)=.halt x (re w τ e):=by
 by_cases m:S=b.block
 ·exact .inl ⟨((⟨S,0,I⟩:aU)==b),λh=>(eq_of_beq h).symm,λτ e=>by simp[sameAddr,m,bP]⟩
 ·obtain⟨c,q,o⟩:=p
  have f:∀τ e,(sameAddr ⟨S,0,I⟩ b).run LL (re w τ e)=((noView b).run LL (re w τ e)).andThen λ_ x=>.ok Y x:=λτ e=>by
   have a:(re w τ e).heap[S]?=Z (.cells c 109):=o;have d:py (re w τ e) b=Y:=l;generalize C:re w τ e=x at a d;have n:x.frozen? ⟨S,0,I⟩=Y:=by unfold qj;simp[a]
   have A:=(Lq ⟨S,0,I⟩ x).1 (by simp only[a];rfl);unfold sameAddr;rw[if_neg (by simp[m])];rw[oh,acV,n];simp only[fy];rw[oh,acV];simp only[fy,Bool.false_and,hZ,if_false];rw[oh,A];simp only[fy];rw[oh];cases Fp:(noView b).run LL x with
   |halt y z=>rfl
   |ok u z=>
    have B:z=x:=by
     cases KA:IB (x.heap[b.block]?)with
     |false=>rw[(Lq b x).1 KA]at Fp;cases Fp;rfl
     |true=>obtain⟨y,g⟩:=(Lq b x).2 KA;rw[g]at Fp;cases Fp
    subst B;simp only[fy];have s:(mayBeOne ⟨S,0,I⟩ b).run LL z=.ok Y z:=by
     rw[<-ya _ _ z #[],KZ];have v:rO z ⟨S,0,I⟩=Y:=by
      unfold rO fF;rw[n];simp only[a,Bool.false_or];unfold qj;simp[a]
     have j:py z ⟨S,0,I⟩=Y:=by
      unfold py fF;simp only[a,q]
     rw[v,j,d];simp
    rw[oh,s];rfl
  cases KA:IB (w.heap[b.block]?)with
  |false=>
   refine .inl ⟨Y,(λh=>by cases h),λτ e=>?_⟩;rw[f,(Lq b (re w τ e)).1 KA];rfl
  |true=>
   refine .inr λτ e=>?_;obtain⟨y,g⟩:=(Lq b (re w τ e)).2 KA;exact⟨y,by rw[f,g];rfl⟩
theorem Yb(w:ax)(S:Nat)(a:aU)(x y:iP):(do lF .eql 39 x y (ptr S 0) (.pointer (Z a));binOp .eql 39 (ptr S 0) (.pointer (Z a))).run LL w=(do pure (Value.bool (<-sameAddr ⟨S,0,I⟩ a)):Sem ag).run LL w:=al
theorem Ya{w:ax}{S:Nat}(j:∃c:af ag,c.size=10/\w.heap[S]?=Z (.cells c 109))(p:ag)(d:∀b,p=.pointer (Z b)->py w b=Y)(x y:iP):Ez w (do lF .eql 39 x y (ptr S 0) p;binOp .eql 39 (ptr S 0) p) λu=>∃b,u=.bool b/\(b=U->p=ptr S 0):=by
 cases p with
 |pointer o=>
  cases o with
  |none=>exact .inl ⟨_,⟨Y,F,λh=>by cases h⟩,λτ e=>by kernel_rfl⟩
  |some a=>
   rcases auE j a (d a F)with⟨r,f,g⟩|h
   ·refine .inl ⟨.bool r,⟨r,rfl,λh=>by rw[f h]⟩,λτ e=>?_⟩
    rw[Yb,oh,g];rfl
   ·refine .inr λτ e=>?_
    obtain⟨x,l⟩:=h τ e;exact⟨x,by rw[Yb,oh,l];rfl⟩
 |_=>exact .inr λτ e=>⟨.stuck "==: the operands do not fit the type, or the type is not comparable",by kernel_rfl⟩
theorem gD(t:af ag)(d:Nat)(v:ag)(h:d<t.size):(t.setIfInBounds d v).getD d aB=v:=by
 simp[nJ,h]
theorem gO(t:af ag){d e:Nat}(v:ag)(h:d≠e):(t.setIfInBounds d v).getD e aB=t.getD e aB:=by
 simp[nJ,h]
section
variable {R:ag->ax->Prop}{Hid:Loc->Prop}{P:Bool}{N:ae dU}{O:ae dg}{w W:ax}{Q:ae aA}{S:cH}{t:af ag}{V:af bq}{i0 sl a b c:Nat}{rest:ae Nat}{k:ae aJ}{T:ae cz}{X:dQ}
theorem Q6(d x:Tmp)(e:aK):cN (bR ⟨S,t,[],T,.run,X,I⟩) (aP d (.load e (tm x)))=(do pure (.value (<-uG e (t.getD x aB)))):=rfl
theorem Nd(d x:Tmp)(e:aK)(m:Nat):cN (bR ⟨S,t,[],T,.run,X,I⟩) (aP d (.fieldAddr e (tm x) m))=(do pure (.value (<-tn e (t.getD x aB) m))):=rfl
theorem Q4(d x:Tmp)(e:aK)(m:Nat):cN (bR ⟨S,t,[],T,.run,X,I⟩) (aP d (.field e (tm x) m))=(do pure (.value (<-Instr.field e (t.getD x aB) m))):=rfl
theorem Alike.tY{f:ax}(j:Alike w f)(h:∀τ e,iW ak (re w τ e)):∀τ e,iW ak (re f τ e):=λτ e x T d=>by
 have d:f.heap[x]?=Z (.deferred T):=d;rcases j.obj x with g|⟨_,_,_,_,_,_,_,_,l,i⟩
 ·rw[g]at d;exact h τ e x T d
 ·rw[i]at d;cases d
theorem TT(L:fO Hid P N O w W)(hr:Rel (bS ak) Hid w W)(J:Below ak LL Q)(o:Q≠[])(g:X=.normal\/X=.deferred)(K:∀d∈T,lV ak d)
  (C:∀m,m<11->V[i0+m]?=(zg (tm sl) a b c)[m]?)(ha:a<t.size)(E:b<t.size)(hc:c<t.size)(qI:a≠b)(Hl:a≠c)(χ:b≠c)(Z1:a≠sl)(Z2:b≠sl)(gG:c≠sl)
  (hg:Good LL R ⟨aX S t V (i0::(i0+1)::(i0+2)::(i0+3)::(i0+4)::(i0+5)::(i0+6)::(i0+7)::(i0+8)::(i0+9)::(i0+10)::rest) k T X,Q,w⟩):
  ∃s∈O,∃bb n w1 x y,(bb=U->t.getD sl aB=ptr s.S 0)/\w1.heap[s.D]?=Z (.chan 2 #[db s] Y x y Y)/\Alike w w1/\
   fA LL ⟨aX S t V (i0::(i0+1)::(i0+2)::(i0+3)::(i0+4)::(i0+5)::(i0+6)::(i0+7)::(i0+8)::(i0+9)::(i0+10)::rest) k T X,Q,w⟩ ⟨aX S (((t.setIfInBounds a (ay s.D)).setIfInBounds b (db s)).setIfInBounds c (.bool bb)) V rest k T X,Q,w1.setChan s.D 2 #[] Y x (y+1) Y⟩ n/\
   Good LL R ⟨aX S (((t.setIfInBounds a (ay s.D)).setIfInBounds b (db s)).setIfInBounds c (.bool bb)) V rest k T X,Q,w1.setChan s.D 2 #[] Y x (y+1) Y⟩:=by
 have hh:∀τ e,iW ak (re w τ e):=λτ e=>hr.tY;have Q2:∀(t:af ag)(d:Nat),bR ⟨S,t,[],T,.run,X,I⟩ (tm d)=t.getD d aB:=λ_ _=>rfl;have o0:V[i0]?=Z (aP a (.fieldAddr 109 (tm sl) 8)):=C 0 ah;have o1:V[i0+1]?=Z (aP a (.load 99 (tm a))):=C 1 ah;have o2:V[i0+2]?=Z (aP a (.fieldAddr 146 (tm a) 3)):=C 2 ah;have o3:V[i0+3]?=Z (aP a (.fieldAddr 142 (tm a) 0)):=C 3 ah;have o4:V[i0+4]?=Z (aP a (.load 139 (tm a))):=C 4 ah;have o5:V[i0+5]?=Z (aP b (.recv 139 (tm a) Y)):=C 5 ah;have o6:V[i0+6]?=Z (ep (.send (tm a) (tm b))):=C 6 ah;have o7:V[i0+7]?=Z (aP a (.field 142 (tm b) 0)):=C 7 ah;have o8:V[i0+8]?=Z (aP b (.recv 100 (tm a) Y)):=C 8 ah;have o9:V[i0+9]?=Z (aP c (.field 50 (tm b) 0)):=C 9 ah;have ε:V[i0+10]?=Z (aP c (.binOp .eql 39 (tm c) (tm sl) 39)):=C 10 ah;generalize hp:t.getD sl aB=p;have e0:cN (bR ⟨S,t,[],T,.run,X,I⟩) (aP a (.fieldAddr 109 (tm sl) 8))=(do pure (.value (<-tn 109 p 8))):=by rw[Nd,hp]
 rcases Nh w p 8 9 (.inl ⟨F,F⟩)with⟨v,⟨D,Fs,rfl⟩,cy⟩|B
 case inr=>exact(rz g J K hh o0 e0 B hg).elim
 obtain⟨L0,g0⟩:=sH g o o0 e0 cy hg;have q0:(t.setIfInBounds a (.pointer (Z (D.add 9)))).getD a aB=.pointer (Z (D.add 9)):=gD _ _ _ ha;have e1:cN (bR ⟨S,t.setIfInBounds a (.pointer (Z (D.add 9))),[],T,.run,X,I⟩) (aP a (.load 99 (tm a)))=(do pure (.value (<-uG 99 (.pointer (Z (D.add 9)))))):=by rw[Q6,q0]
 rcases TR WV (.pointer (Z (D.add 9))) hr with⟨v1,⟨φ,HD,oT⟩,SY⟩|B
 case inr=>exact(rz g J K hh o1 e1 B g0).elim
 cases HD;obtain⟨L1,g1⟩:=sH g o o1 e1 SY g0;generalize Fv:(t.setIfInBounds a (.pointer (Z (D.add 9)))).setIfInBounds a v1=t1 at L1 g1;have q1:t1.getD a aB=v1:=by rw[<-Fv];exact gD _ _ _ (by simpa using ha)
 have e2:cN (bR ⟨S,t1,[],T,.run,X,I⟩) (aP a (.fieldAddr 146 (tm a) 3))=(do pure (.value (<-tn 146 v1 3))):=by rw[Nd,q1]
 rcases ai7 w v1 with⟨v2,⟨l,rfl,rfl⟩,μ⟩|B
 case inr=>exact(rz g J K hh o2 e2 B g1).elim
 obtain⟨L2,g2⟩:=sH g o o2 e2 μ g1;have z1:t1.size=t.size:=by rw[<-Fv];simp
 have q2:(t1.setIfInBounds a (.pointer (Z (l.add 3)))).getD a aB=.pointer (Z (l.add 3)):=gD _ _ _ ah;have e3:cN (bR ⟨S,t1.setIfInBounds a (.pointer (Z (l.add 3))),[],T,.run,X,I⟩) (aP a (.fieldAddr 142 (tm a) 0))=(do pure (.value (<-tn 142 (.pointer (Z (l.add 3))) 0))):=by rw[Nd,q2]
 rcases ai6 w (l.add 3)with⟨v3,rfl,ν⟩|B
 case inr=>exact(rz g J K hh o3 e3 B g2).elim
 obtain⟨L3,g3⟩:=sH g o o3 e3 ν g2;have q3:((t1.setIfInBounds a (.pointer (Z (l.add 3)))).setIfInBounds a (.pointer (Z ((l.add 3).add 0)))).getD a aB=.pointer (Z ((l.add 3).add 0)):=gD _ _ _ (by simp;omega);have e4:cN (bR ⟨S,(t1.setIfInBounds a (.pointer (Z (l.add 3)))).setIfInBounds a (.pointer (Z ((l.add 3).add 0))),[],T,.run,X,I⟩) (aP a (.load 139 (tm a)))=(do pure (.value (<-uG 139 (.pointer (Z ((l.add 3).add 0)))))):=by rw[Q6,q3]
 rcases TR afK (.pointer (Z ((l.add 3).add 0))) hr with⟨v4,_,ξ⟩|B
 case inr=>exact(rz g J K hh o4 e4 B g3).elim
 obtain⟨L4,g4⟩:=sH g o o4 e4 ξ g3;generalize Kx:((t1.setIfInBounds a (.pointer (Z (l.add 3)))).setIfInBounds a (.pointer (Z ((l.add 3).add 0)))).setIfInBounds a v4=j at L4 g4;have z4:j.size=t.size:=by rw[<-Kx];simp[z1]
 have q4:j.getD a aB=v4:=by rw[<-Kx];exact gD _ _ _ (by simp;omega)
 have η:j=t.setIfInBounds a v4:=by
  rw[<-Kx,<-Fv];apply zB;intro i;simp only[uF,ra];by_cases h:a=i<;>simp[h]
 have e5:fR LL (cN (bR ⟨S,j,[],T,.run,X,I⟩) (aP b (.recv 139 (tm a) Y)))=Z (.comm #[{chan:=v4,send:=I,zero:=.nilFunc}] U (.recv Y)):=by rw[<-q4];kernel_rfl
 obtain⟨ch,H,f,cl,x,y,iJ,rfl,f2,f3⟩:=AR g o o5 e5 g4;have bx:cl=Y:=(L.chans _ _ _ _ _ _ _ f2).1;subst bx;obtain⟨h0,L5,g5⟩:=f3 F;obtain⟨_,AA,xi⟩:=L.full f2 h0;subst AA;generalize AB:f.getD 0 aB=u at L5 g5;have z5:(j.setIfInBounds b u).size=t.size:=by simp[z4]
 have σ:(j.setIfInBounds b u).getD a aB=.chan (Z ch):=by rw[gO _ _ (λe=>qI e.symm)];exact q4
 have ζ:(j.setIfInBounds b u).getD b aB=u:=gD _ _ _ ah;have xo:(w.setChan ch H (f.extract 1 f.size) Y x (y+1) Y).heap[ch]?=Z (.chan H (f.extract 1 f.size) Y x (y+1) Y):=oQ _ f2 _ _ _ _ _ _;have e6:fR LL (cN (bR ⟨S,j.setIfInBounds b u,[],T,.run,X,I⟩) (ep (.send (tm a) (tm b))))=Z (.comm #[{chan:=.chan (Z ch),send:=Z u,zero:=.tuple #[]}] U .send):=by
  have:fR LL (cN (bR ⟨S,j.setIfInBounds b u,[],T,.run,X,I⟩) (ep (.send (tm a) (tm b))))=Z (.comm #[{chan:=(j.setIfInBounds b u).getD a aB,send:=Z ((j.setIfInBounds b u).getD b aB),zero:=.tuple #[]}] U .send):=by kernel_rfl
  rw[this,σ,ζ]
 obtain⟨π,δ,γ,ρ,x',y',PX,f4,f5,f6⟩:=wa g o o6 e6 g5;cases f4;rw[xo]at f5;cases f5;obtain⟨_,L6,g6⟩:=f6 F;have θ:(f.extract 1 f.size).push u=f:=by
  rcases xi with⟨_,_,_,_,rfl⟩|⟨_,_,_,_,rfl⟩|⟨rfl,hm⟩|⟨_,_,_,rfl⟩
  ·rw[<-AB];rfl
  ·rw[<-AB];rfl
  ·obtain⟨_,_,hx⟩:=L.gate
   rw[f2]at hx;cases hx;rw[<-AB,hm];rfl
  ·rw[<-AB];rfl
 rw[θ]at L6 g6;have M:=Alike.bX (s':=x+1) (r':=y+1) f2 (f.extract 1 f.size) Y x (y+1) Y;generalize (w.setChan ch H (f.extract 1 f.size) Y x (y+1) Y)=w5 at L5 L6 g6 M;generalize (w5.setChan ch H f Y (x+1) (y+1) Y)=A at L6 g6 M;have e7:cN (bR ⟨S,j.setIfInBounds b u,[],T,.run,X,I⟩) (aP a (.field 142 (tm b) 0))=(do pure (.value (<-Instr.field 142 u 0))):=by rw[Q4,ζ]
 have NU:=M.tY hh;have ι:∀(u1 u2:ag)(τ:Nat->Question->Nat)(e:Nat),(Instr.field 142 (.agg #[u1,u2]) 0).run LL (re A τ e)=.ok u1 (re A τ e):=λu1 u2 τ e=>by kernel_rfl
 have κ:∀(s:dg)(τ:Nat->Question->Nat)(e:Nat),(Instr.field 142 (db s) 0).run LL (re A τ e)=.ok (ptr s.S 0) (re A τ e):=λs τ e=>by kernel_rfl
 have q7:∀z,((j.setIfInBounds b u).setIfInBounds a z).getD a aB=z:=λz=>gD _ _ _ ah;have e8:∀z,fR LL (cN (bR ⟨S,(j.setIfInBounds b u).setIfInBounds a z,[],T,.run,X,I⟩) (aP b (.recv 100 (tm a) Y)))=Z (.comm #[{chan:=z,send:=I,zero:=.agg #[]}] U (.recv Y)):=λz=>by
  have:fR LL (cN (bR ⟨S,(j.setIfInBounds b u).setIfInBounds a z,[],T,.run,X,I⟩) (aP b (.recv 100 (tm a) Y)))=Z (.comm #[{chan:=((j.setIfInBounds b u).setIfInBounds a z).getD a aB,send:=I,zero:=.agg #[]}] U (.recv Y)):=by kernel_rfl
  rw[this,q7]
 rcases xi with⟨q,hk,rfl,rfl,rfl⟩|⟨s,hs,rfl,rfl,rfl⟩|⟨rfl,hm⟩|⟨rfl,rfl,oo,rfl⟩
 case inr.inl=>
  have G:u=db s:=by rw[<-AB];rfl
  subst G;obtain⟨L7,g7⟩:=sH g o o7 e7 (κ s) g6;obtain⟨_,_,_,_,_,_,_,e,_⟩:=AR g o o8 (e8 _) g7;cases e
 case inr.inr.inl=>
  obtain⟨_,_,hx⟩:=L.gate;rw[f2]at hx;cases hx;have G:u=cY O:=by rw[<-AB,hm];rfl
  rcases(aaO O).1 with h0|⟨x0,h0,nG⟩
  ·rw[h0]at G
   subst G;exact(rz g J K NU o7 e7 (λτ e=>⟨.stuck "struct or array expected",by kernel_rfl⟩) g6).elim
  ·rw[h0]at G
   subst G;exact(rz g J K NU o7 e7 (λτ e=>⟨.stuck "struct or array expected",by kernel_rfl⟩) g6).elim
 case inr.inr.inr=>
  have G:u=.chan oo:=by rw[<-AB];rfl
  subst G;exact(rz g J K NU o7 e7 (λτ e=>⟨.stuck "struct or array expected",by kernel_rfl⟩) g6).elim
 case inl=>
 have G:u=rQ q:=by rw[<-AB];rfl
 subst G;obtain⟨L7,g7⟩:=sH g o o7 e7 (ι (ay q.D) (ay q.T)) g6;obtain⟨s,hs,eS,eD⟩:=(L.k q hk).p9;have ls:=L.s s hs;obtain⟨sa,sb,hD⟩:=ls.lone;rw[eD]at hD;obtain⟨we,wi,yF⟩:=M.np hD;obtain⟨π,δ,γ,ρ,x',y',PX,f7,f8,f9⟩:=AR g o o8 (e8 _) g7;cases f7;rw[yF]at f8;cases f8;obtain⟨_,L8,g8⟩:=f9 F;have es:(#[db s]:af ag).getD 0 aB=db s:=rfl;have Q7:(#[db s]:af ag).extract 1 (#[db s]:af ag).size=#[]:=rfl;rw[es,Q7]at L8 g8;generalize Oe:((j.setIfInBounds b (rQ q)).setIfInBounds a (ay q.D)).setIfInBounds b (db s)=r at L8 g8;have z8:r.size=t.size:=by rw[<-Oe];simp[z4]
 have q8:r.getD b aB=db s:=by rw[<-Oe];exact gD _ _ _ (by simp;omega)
 have e9:cN (bR ⟨S,r,[],T,.run,X,I⟩) (aP c (.field 50 (tm b) 0))=(do pure (.value (<-Instr.field 50 (db s) 0))):=by rw[Q4,q8]
 obtain⟨L9,g9⟩:=sH (v:=ptr s.S 0) g o o9 e9 (λτ e=>by kernel_rfl) g8;have q9:(r.setIfInBounds c (ptr s.S 0)).getD c aB=ptr s.S 0:=gD _ _ _ ah;have υ:(r.setIfInBounds c (ptr s.S 0)).getD sl aB=p:=by
  rw[gO _ _ gG,<-Oe,gO _ _ Z2,gO _ _ Z1,gO _ _ Z2,η,gO _ _ Z1];exact hp
 have M8:cN (bR ⟨S,r.setIfInBounds c (ptr s.S 0),[],T,.run,X,I⟩) (aP c (.binOp .eql 39 (tm c) (tm sl) 39))=(do pure (.value (<-(do lF .eql 39 (tm c) (tm sl) (ptr s.S 0) p;binOp .eql 39 (ptr s.S 0) p)))):=by
  have:cN (bR ⟨S,r.setIfInBounds c (ptr s.S 0),[],T,.run,X,I⟩) (aP c (.binOp .eql 39 (tm c) (tm sl) 39))=(do pure (.value (<-(do lF .eql 39 (tm c) (tm sl) ((r.setIfInBounds c (ptr s.S 0)).getD c aB) ((r.setIfInBounds c (ptr s.S 0)).getD sl aB);binOp .eql 39 ((r.setIfInBounds c (ptr s.S 0)).getD c aB) ((r.setIfInBounds c (ptr s.S 0)).getD sl aB))))):=rfl;rw[this,q9,υ]
 have ψ:Rel (bS ak) Hid (A.setChan q.D 2 #[] Y we (wi+1) Y) W:=(hr.alike M).sV yF;have Rz:=dD yF;have TY:∃c:af ag,c.size=10/\(A.setChan q.D 2 #[] Y we (wi+1) Y).heap[s.S]?=Z (.cells c 109):=by
  obtain⟨cc,h1,h2⟩:=ls.MT hr;refine⟨cc,h1,?_⟩;have h6:A.heap[s.S]?=Z (.cells cc 109):=by
   rcases M.obj s.S with e|⟨_,_,_,_,_,_,_,_,x1,_⟩
   ·rw[e];exact h2
   ·rw[h2]at x1;cases x1
  rw[heap_setChan _ Rz,if_neg (λe=>by rw[e,yF]at h6;cases h6)];exact h6
 have KG:∀β,p=.pointer (Z β)->py (A.setChan q.D 2 #[] Y we (wi+1) Y) β=Y:=λβ E=>by
  rw[Fs]at E;cases E;obtain⟨cc,ty,fz,h1,_,h3,_⟩:=kQ oT;have h1:w.heap[D.block]?=Z (.cells cc ty fz):=h1;have h6:A.heap[D.block]?=Z (.cells cc ty fz):=by
   rcases M.obj D.block with e|⟨_,_,_,_,_,_,_,_,x1,_⟩
   ·rw[e];exact h1
   ·rw[h1]at x1;cases x1
  have h9:(A.setChan q.D 2 #[] Y we (wi+1) Y).heap[D.block]?=Z (.cells cc ty fz):=by
   rw[heap_setChan _ Rz,if_neg (λe=>by rw[e,yF]at h6;cases h6)];exact h6
  unfold py fF;rw[h9];obtain⟨nn,hn⟩:∃nn,cc.size=nn+1:=⟨cc.size-1,by omega⟩;simp only[hn]
 rcases Ya TY p KG (tm c) (tm sl)with⟨v,⟨bb,rfl,oS⟩,SZ⟩|B
 case inr=>
  refine(rz g J K (λτ e x T E=>?_) ε M8 B g9).elim;have E:(A.setChan q.D 2 #[] Y we (wi+1) Y).heap[x]?=Z (.deferred T):=E;rw[heap_setChan _ Rz]at E;split at E
  ·cases E
  ·exact NU τ e x T E
 obtain⟨oq,ow⟩:=sH g o ε M8 SZ g9;have hT:(r.setIfInBounds c (ptr s.S 0)).setIfInBounds c (.bool bb)=((t.setIfInBounds a (ay q.D)).setIfInBounds b (db s)).setIfInBounds c (.bool bb):=by
  rw[<-Oe,η];apply zB;intro i;simp only[uF,ra];by_cases h1:c=i<;>by_cases h2:b=i<;>by_cases h3:a=i<;>simp[h1,h2,h3]
 rw[hT]at oq ow;have j7:=(((((((((L0.trans L1).trans L2).trans L3).trans L4).trans L5).trans L6).trans L7).trans L8).trans L9).trans oq;rw[<-eD]at j7 ow yF;refine⟨s,hs,bb,_,A,we,wi,λh=>by rw[<-oS h],yF,M,j7,ow⟩
end
def ov(g:Nat->ag)(m:ae (Nat×ag)):Nat->ag:=λi=>(m.lookup i).getD (g i)
abbrev Be(g:Nat->ag)(l:ae ag)(a:ae aJ)(W:ae cz)(X:dQ):aA:=⟨57,bI 33 g l,a,W,.run,X,I⟩
noncomputable def H9:af bq:=#[aP 19 (.fieldAddr 109 (tm 0) 11),aP 18 (.move (tm 0)),aP 19 (.nilCheck (tm 18))]++zg (tm 19) 20 21 22
noncomputable def GU:af bq:=#[ep (.send (tm 20) (tm 21)),aP 20 (.fieldAddr 109 (tm 19) 11),aP 21 (.field 50 (tm 21) 2),aP 22 (.unOp .not 4 (tm 21))]
noncomputable def MP:bH:=.seq (.cond (tm 22) .skip (.refuse "")) (reg GU)
section
variable (g:Nat->ag)(l:ae ag)(k:ae aJ)(W:ae cz)(X:dQ)(T:X=.normal\/X=.deferred)(V:ae aA)(R:aU)(S:Nat)(s:dg)
include T
theorem aoE:aN LL 2 (G (Be g l (.code Im::k) W X) V)=G (aX 57 (bI 33 g l) H9 [0,1,2,3,4,5,6,7,8,9,10,11,12,13] (.code MP::k) W X) V:=by
 rfl
theorem aoG:aN LL 3 (G (aX 57 (bI 33 (dc g (.pointer (Z R))) l) H9 [0,1,2,3,4,5,6,7,8,9,10,11,12,13] (.code MP::k) W X) V)=G (aX 57 (bI 33 (ov (dc g (.pointer (Z R))) [(18,.pointer (Z R)),(19,.pointer (Z R))]) l) H9 [3,4,5,6,7,8,9,10,11,12,13] (.code MP::k) W X) V:=by
 rcases T with rfl|rfl<;>kernel_rfl
theorem aoF(t):aN LL 2 (G (aX 57 t H9 [] (.code MP::k) W X) V)=G ⟨57,t,.code (.cond (tm 22) .skip (.refuse ""))::.code (reg GU)::k,W,.run,X,I⟩ V:=by
 rfl
theorem aoC(t):aN LL 1 (G ⟨57,t,.code (reg GU)::k,W,.run,X,I⟩ V)=G (aX 57 t GU [0,1,2,3] k W X) V:=by
 rfl
theorem aoD(x):aN LL 4 (G (aX 57 (bI 33 (ov (dc g (ptr S 0)) [(18,ptr S 0),(19,ptr S 0),(20,x),(21,db s),(22,.bool U)]) l) GU [1,2,3] k W X) V)=G (Be (ov (dc g (ptr S 0)) [(18,ptr S 0),(19,ptr S 0),(20,ptr S 13),(21,.bool s.st),(22,.bool !s.st)]) l k W X) V:=by
 rcases T with rfl|rfl<;>kernel_rfl
theorem atl:(oM ak (G (Be (dc g (ptr S 0)) l (.code Cl::k) W X) V)).isSome=U:=by
 rfl
theorem atm(b):(stage ak (Z (109,14)) (.bool b) (aN ak 1 (G (Be (dc g (ptr S 0)) l (.code Cl::k) W X) V))).map (λr=>r.2)=Z (.bool b,[.ev ⟨.cell (bn S 13),Y,Y⟩]):=by
 rcases T with rfl|rfl<;>kernel_rfl
theorem atk(b):aN ak 2 (gZ ak (Z (109,14)) (.bool b) (aN ak 1 (G (Be (dc g (ptr S 0)) l (.code Cl::k) W X) V)))=G (Be (ov (dc g (ptr S 0)) [(18,ptr S 0),(19,ptr S 0),(20,ptr S 13),(21,.bool b),(22,.bool !b)]) l k W X) V:=by
 rcases T with rfl|rfl<;>kernel_rfl
end
section
variable (g:Nat->ag)(l:ae ag)(p x y z:ag)
theorem au2:(((bI 33 (ov g [(18,p),(19,p)]) l).setIfInBounds 20 x).setIfInBounds 21 y).setIfInBounds 22 z=bI 33 (ov g [(18,p),(19,p),(20,x),(21,y),(22,z)]) l:=al
theorem aju:(bI 33 (ov g [(18,p),(19,p)]) l).getD 19 aB=p:=al
theorem Vi:33<=(bI 33 g l).size:=by simp[bI]
theorem ajv:(bI 33 (ov g [(18,p),(19,p),(20,x),(21,y),(22,z)]) l).getD 22 aB=z:=al
end
theorem aqX(m)(h:m<11):H9[3+m]?=(zg (tm 19) 20 21 22)[m]?:=by
 have e:H9[3+m]?=(#[aP 19 (.fieldAddr 109 (tm 0) 11),aP 18 (.move (tm 0)),aP 19 (.nilCheck (tm 18))]++zg (tm 19) 20 21 22)[3+m]?:=rfl;rw[e,Array.getElem?_append_right ba];simp
theorem Core.alike{Hid:Loc->Prop}{e At:Nat->Loc->Prop}{c:Loc->Prop}{f:Nat->aj YS}{k:ae dU}{h:ae dg}{g:aj wU}{B n:Nat}{i W:ax}(C:Core Hid e At c f k h g B n w W)(d:Alike w i):Core Hid e At c f k h g B n i W:=⟨C.rel.alike d,C.ft.alike d,C.low,C.rN,C.mO,C.zX,C.Bq,C.cS,C.zl,C.gone,C.zj,C.g0,λj r=>by
                                                                                                                                                                                                                  obtain⟨l,m,o,⟨a,b,p⟩,q⟩:=C.BX j r;exact⟨l,m,o,d.np p,q⟩⟩
theorem ae5{s:eC}{m:fT}{T:ed}(L:∃N,iz ak N s.m s.T=(.next m,T)){n:aA}{k:ae aA}{j g:ax}(H:dI ak s.St s.At s.Shun s.ao s.h s.B s.gs.size g m T 0 (·=G n k))
  (f:Core s.Hid s.St s.At s.Shun s.ao s.ws s.ss s.dN s.B s.gs.size j g)(J:mU s.w s.W j g)(e:aA)(c:ae aA):
  ∃b:eC,Base b/\Real s b/\b.fr'=e/\b.cs'=c/\b.fr=n/\b.cs=k/\b.h=s.h/\b.dN=s.dN/\(∃t d,b.w=re j t d):=by
 obtain⟨N,Q,R,o,P,q,d,a,B,C,D,E,rfl,h,⟨v,i⟩⟩:=H;subst h i;have f:=f.re v;rw[<-C]at f;obtain⟨b,K,⟨r,O⟩,h,i,w,x,y,z,_,_,⟨t,u,l⟩,_,dW,A⟩:=settle (sl:=o) E.xX D f e c;obtain⟨p,M⟩:=L;refine⟨b,K,⟨⟨p+N+r,kK (kK M B) O⟩,?_⟩,h,i,w,x,y,z,t,u,?_⟩
 ·rw[A,l]
  exact(((J.at _).at _).re _ _).re _ _
 rw[l];rfl
theorem af6{j:wU}(a:yi j)(v:ag):(j.A'.finish v).todo=[.inRegion yA [1],.code .ret]:=by
 obtain⟨g,s,e⟩:=a.lone;rw[e];rfl
theorem tI.uy{s a:eC}(k:tI s){c:bH}{n:ae aJ}(m:s.fr'.todo=.code c::n)(h:a.h=s.h)(d:a.dN=s.dN)(i:ky s.E a.fr' a.cs' a.fr a.cs):tI a:=by
 have hE:a.E=s.E:=by unfold eC.E;rw[d]
 cases k with
 |main e b _=>exact .main (d.trans e) (h.trans b) (.inl (by rw[hE];exact i))
 |work j e f b _=>exact .work j (d.trans e) f (h.trans b) (.inl (by rw[hE];exact i))
 |back j e f b v l=>
  exfalso;have g:=af6 f v;rw[<-l,m]at g;cases g
theorem ky.ne{E:aA->ae aA->aA->ae aA->Prop}{b d:aA}{a c:ae aA}(e:ky E b a d c):a≠[]:=by
 cases e<;>simp
theorem EN{R:ag->ax->Prop}{e:ae aA}{a:dQ}{g:ae cz}{c:iP}{b:String}{tm:af ag}{k:ae aJ}{bb:Bool}(s:Good LL R ⟨⟨f,tm,.code (.cond c .skip (.refuse b))::k,g,.run,a,I⟩,e,w⟩)(l:e≠[])(u:bR ⟨f,tm,[],g,.run,a,I⟩ c=.bool bb):bb=U/\fA LL ⟨⟨f,tm,.code (.cond c .skip (.refuse b))::k,g,.run,a,I⟩,e,w⟩ ⟨⟨f,tm,k,g,.run,a,I⟩,e,w⟩ 2:=by
 have h:bR ⟨f,tm,.code (.cond c .skip (.refuse b))::k,g,.run,a,I⟩ c=.bool bb:=by rw[<-u];cases c<;>rfl
 cases bb with
 |true=>
  refine⟨F,λτ d=>?_⟩;have s1:aE LL U (G ⟨f,tm,.code (.cond c .skip (.refuse b))::k,g,.run,a,I⟩ e) (re w τ d)=dZ ⟨f,tm,.code .skip::k,g,.run,a,I⟩ e (re w τ d) #[]:=by
   simp[G,aE,cf,h]
  have s2:aE LL U (G ⟨f,tm,.code .skip::k,g,.run,a,I⟩ e) (re w τ d)=dZ ⟨f,tm,k,g,.run,a,I⟩ e (re w τ d) #[]:=by
   simp[G,aE,cf]
  simp only[ik.on,dG];rw[fe s1];dsimp only
  rw[fe s2]
 |false=>
  exfalso;obtain⟨τ,d,_,n,v,t,r⟩:=s (λ_ _=>0);have s1:aE LL U (G ⟨f,tm,.code (.cond c .skip (.refuse b))::k,g,.run,a,I⟩ e) (re w τ d)=dZ ⟨f,tm,.code (.refuse b)::k,g,.run,a,I⟩ e (re w τ d) #[]:=by
   simp[G,aE,cf,h]
  obtain⟨o,j,q⟩:∃o j,aE LL U (G ⟨f,tm,.code (.refuse b)::k,g,.run,a,I⟩ e) (re w τ d)=.ended o j #[]:=⟨_,_,by simp[G,aE,cf];exact⟨F,F⟩⟩;have p:=O' (L:=LL) ⟨n,v,t,r⟩ (k:=1) (m1:=lone ⟨f,tm,.code (.refuse b)::k,g,.run,a,I⟩ e (re w τ d)) (by simp only[ik.on,dG];rw[fe s1]) (KX l);obtain⟨x,i,_⟩:=Lk p F;obtain⟨y,z,m⟩:=Cq (L:=LL) (fr:=⟨f,tm,.code (.refuse b)::k,g,.run,a,I⟩) (cs:=e) (w:=re w τ d) (by rw[q];rfl);rw[m]at i;cases i
theorem apQ{R:ag->ax->Prop}{s:eC}(i:Inv s)(hg:Good LL R s.cu)(B:ky s.E s.fr' s.cs' s.fr s.cs){t:af ag}{j:ae cz}{f:dQ}(bJ:33<=t.size)
  (A:s.fr'=⟨57,t,[.code Im,.code EH,.code EI],j,.run,f,I⟩)(r:s.fr=⟨57,t,[.code Cl,.code EH,.code EI],j,.run,f,I⟩):
  ∃w k n b,Inv w/\Real s w/\0<k/\ku LL s.cu w.cu k n b:=by
 have b:=i.base;have C:=b.core;have L:=C.ft;have q:=ky.ne B;have W:Below ak LL s.cs':=B.belows i.yD;obtain⟨tt,_,_,D,_⟩:=B.fr;rw[r]at D;have m:f=.normal\/f=.deferred:=D.kind.imp id λh=>h.1;have fH:∀d∈j,lV ak d:=D.defers;generalize xm:(λi=>t.getD (i+1) aB)=o;generalize J':t.toList.drop 33=l;generalize hp:t.getD 0 aB=p;have ht:t=bI 33 (dc o p) l:=by rw[<-xm,<-J',<-hp];exact It t 33 bJ
 generalize dV:([.code EH,.code EI]:ae aJ)=k at A r;rw[ht]at A r;have qK:s.cu=⟨Be (dc o p) l (.code Im::k) j f,s.cs',s.w⟩:=by unfold eC.cu;rw[A]
 rw[qK]at hg⊢;have hh:∀τ e,iW ak (re s.w τ e):=λτ e=>C.rel.tY;obtain⟨n1,L1,g1⟩:=hg.quiet 2 (aoE _ l k j f m s.cs') q;have e0:cN (bR ⟨57,bI 33 (dc o p) l,[],j,.run,f,I⟩) (aP 19 (.fieldAddr 109 (tm 0) 11))=(do pure (.value (<-tn 109 p 11))):=rfl;rcases Nh s.w p 11 13 (.inr (.inl ⟨F,F⟩))with⟨v,⟨J,Fs,_⟩,_⟩|cL
 case inr=>exact(rz m W fH hh al e0 cL g1).elim
 subst Fs;obtain⟨n2,L2,g2⟩:=g1.quiet 3 (aoG o l k j f m s.cs' J) q;obtain⟨g,cX,K,n3,E,x,y,oS,V,A1,S,g3⟩:=TT (i0:=3) (sl:=19) (a:=20) (b:=21) (c:=22) (rest:=[]) L C.rel W q m fH aqX (pA ah (Vi _ l)) (pA ah (Vi _ l)) (pA ah (Vi _ l)) ah ah ah ah ah ah g2;rw[au2]at S g3;rw[aju]at oS;obtain⟨n4,L4,g4⟩:=g3.quiet 2 (aoF k j f m s.cs' _) q;obtain⟨E5,T⟩:=EN (bb:=K) g4 q (ajv (dc o (.pointer (Z J))) l (.pointer (Z J)) (ay g.D) (db g) (.bool K));have g5:=g4.mL T q;subst E5;have Kl:=oS F;cases Kl;obtain⟨n6,L6,g6⟩:=g5.quiet 1 (aoC k j f m s.cs' _) q;have o0:GU[0]?=Z (ep (.send (tm 20) (tm 21))):=by kernel_rfl
 obtain⟨ch,N,M,cl,a',b',iJ,O,u,f6⟩:=wa m q o0 (v:=ay g.D) (x:=db g) (z:=.tuple #[]) al g6;cases O;have nE:(E.setChan g.D 2 #[] Y x (y+1) Y).heap[g.D]?=Z (.chan 2 #[] Y x (y+1) Y):=oQ _ V _ _ _ _ _ _;have u:(E.setChan g.D 2 #[] Y x (y+1) Y).heap[g.D]?=Z (.chan N M cl a' b' iJ):=u;rw[nE]at u;cases u;obtain⟨_,L7,g7⟩:=f6 F;obtain⟨n8,L8,_⟩:=g7.quiet 4 (aoD o l k j f m s.cs' g.S g (ay g.D)) q;have G:Alike s.w ((E.setChan g.D 2 #[] Y x (y+1) Y).setChan g.D 2 ((#[]:af ag).push (db g)) Y (x+1) (y+1) Y):=A1.trans (Alike.bX V _ _ _ _ _);have j7:=((((((L1.trans L2).trans S).trans L4).trans T).trans L6).trans L7).trans L8;generalize P:((E.setChan g.D 2 #[] Y x (y+1) Y).setChan g.D 2 ((#[]:af ag).push (db g)) Y (x+1) (y+1) Y)=w9 at G;have Q:=L.s g cX;have dM:eQ s.W (bn g.S 13) (.bool g.st) (Z (109,14)):=Q.at C.rel Q.stop;have JQ:g.S<s.B:=by
  have h1:=wq Q.sh.2;have h2:=C.low;omega
 obtain⟨m0,T0,hm,H,_⟩:=b.begin (by rw[r];exact atl o l k j f m s.cs g.S);rw[r]at H;have H2:=(H.read (C.qQ ah ah) JQ dM (Cp (atm o l k j f m s.cs g.S g.st))).quiet 2 (atk o l k j f m s.cs g.S g.st);obtain⟨w,hb,hR,X,f2,f3,O,u,Ng,τ,d,f7⟩:=ae5 hm H2 (C.alike G) (G.dead _) (Be (ov (dc o (ptr g.S 0)) [(18,ptr g.S 0),(19,ptr g.S 0),(20,ptr g.S 13),(21,.bool g.st),(22,.bool !g.st)]) l k j f) s.cs';refine⟨w,n1+n2+n3+n4+2+n6+1+n8,0,λ_ _=>0,⟨hb,i.nH.uy (by rw[A]) u Ng ?_⟩,hR,by omega,?_⟩
 ·rw[X,f2,f3,O]
  refine B.bX ?_ (by rw[r]) (by rw[r]);subst dV;exact⟨_,F,.cons (.code (.same _ al)) (.cons (.code (.same _ al)) .nil),D,.inl F⟩
 ·have bG:w.cu=⟨Be (ov (dc o (ptr g.S 0)) [(18,ptr g.S 0),(19,ptr g.S 0),(20,ptr g.S 13),(21,.bool g.st),(22,.bool !g.st)]) l k j f,s.cs',re w9 τ d⟩:=by unfold eC.cu;rw[X,f2,f7]
  rw[bG,<-P];exact j7.wy
abbrev iv(z:jj)(p:ag)(m:ae (Nat×ag)):af ag:=bI 13 (ov (dc z.t p) m) z.l
noncomputable def qF(z:jj)(p:ag)(m:ae (Nat×ag))(a:ae aJ):aA:=⟨55,iv z p m,a,[],.run,.normal,I⟩
noncomputable def Ik(z:jj)(p:ag):aA:=⟨55,bI 13 (dc z.t p) z.l,[.code (FI.body.getD .skip)],[],.run,.normal,I⟩
noncomputable def qA:af bq:=#[aP 7 (.recv 100 (kc gN) Y),ep (.send (kc gN) (tm 7)),aP 9 (.recv 100 (kc sM) Y),ep (.send (kc sM) (kc (.chan I))),aP 8 (.binOp .eql 100 (tm 9) (kc (.chan I)) 100)]
noncomputable def Ij:af bq:=zg (tm 0) 9 10 11
noncomputable def vY:af bq:=#[aP 12 (.fieldAddr 109 (tm 0) 8),aP 12 (.load 99 (tm 12)),aP 10 (.recv 100 (tm 9) Y),aP 11 (.field 50 (tm 10) 0),aP 11 (.binOp .eql 39 (tm 11) (tm 0) 39)]
noncomputable def qC:af bq:=#[aP 8 (.field 50 (tm 10) 2),aP 7 (.field 50 (tm 10) 1),aP 11 (.binOp .lss 3 (tm 7) (kc (.int .i64 9)) 3),aP 7 (.binOp .add 3 (tm 7) (kc (.int .i64 1)) 3),aP 10 (.build 50 #[(0,tm 0),(1,tm 7),(2,kc (.bool Y))]),ep (.send (tm 9) (tm 10))]
noncomputable def qD:af bq:=#[aP 1 (.makeChan 100 (kc (.int .i64 4))),aP 2 (.alloc 142)]
noncomputable def qE:af bq:=#[zV 0 (.makeChan 139 (kc (.int .i64 1))),zV 1 (.makeChan 140 (kc (.int .i64 3))),zV 2 (.build 142 #[(0,tm 4),(1,tm 5)]),zV 3 (.makeChan 100 (kc (.int .i64 4))),zV 4 (.move (tm 6))]
noncomputable def qH:af bq:=#[aP 8 (.build 142 #[(0,tm 9),(1,tm 5)]),ep (.send (tm 4) (tm 8)),ep (.store 142 (tm 2) (tm 6))]
noncomputable def F4:bH:=.seq (.region 1 qE U) (.seq (reg qH) .ret)
noncomputable def kj:bH:=.seq (.cond (tm 8) (.refuse "") .skip) (.seq (.cond (tm 11) .skip (.refuse "")) (.seq (reg qD) F4))
noncomputable def UO:bH:=.seq (reg qC) kj
noncomputable def AP:bH:=.seq (.cond (tm 11) .skip (.refuse "")) UO
noncomputable def Lg:bH:=.seq (.cond (tm 8) (reg Ij) (reg vY)) AP
section
variable (z:jj)(p v u x:ag)(X:ae aA)(N M:Nat)
theorem asX:aN LL 2 (G (Ik z p) X)=G (aX 55 (iv z p []) qA [0,1,2,3,4] [.code Lg] [] .normal) X:=al
theorem asI:fR LL (cN (bR ⟨55,iv z p [],[],[],.run,.normal,I⟩) (aP 7 (.recv 100 (kc gN) Y)))=Z (.comm #[{chan:=gN,send:=I,zero:=.agg #[]}] U (.recv Y)):=al
theorem as3:(iv z p []).setIfInBounds 7 u=iv z p [(7,u)]:=al
theorem asJ:fR LL (cN (bR ⟨55,iv z p [(7,u)],[],[],.run,.normal,I⟩) (ep (.send (kc gN) (tm 7))))=Z (.comm #[{chan:=gN,send:=Z u,zero:=.tuple #[]}] U .send):=al
theorem asU:fR LL (cN (bR ⟨55,iv z p [(7,u)],[],[],.run,.normal,I⟩) (aP 9 (.recv 100 (kc sM) Y)))=Z (.comm #[{chan:=sM,send:=I,zero:=.agg #[]}] U (.recv Y)):=al
theorem as4:(iv z p [(7,u)]).setIfInBounds 9 v=iv z p [(7,u),(9,v)]:=al
theorem asV:fR LL (cN (bR ⟨55,iv z p [(7,u),(9,v)],[],[],.run,.normal,I⟩) (ep (.send (kc sM) (kc (.chan I)))))=Z (.comm #[{chan:=sM,send:=Z (.chan I),zero:=.tuple #[]}] U .send):=al
theorem asG:aN LL 3 (G (aX 55 (iv z p [(7,u),(9,.chan I)]) qA [4] [.code Lg] [] .normal) X)=G (qF z p [(7,u),(8,.bool U),(9,.chan I)] [.code (.cond (tm 8) (reg Ij) (reg vY)),.code AP]) X:=al
theorem asH(D):aN LL 3 (G (aX 55 (iv z p [(7,u),(9,ay D)]) qA [4] [.code Lg] [] .normal) X)=G (qF z p [(7,u),(8,.bool Y),(9,ay D)] [.code (.cond (tm 8) (reg Ij) (reg vY)),.code AP]) X:=al
theorem asp:aN LL 2 (G (qF z p [(7,u),(8,.bool U),(9,v)] [.code (.cond (tm 8) (reg Ij) (reg vY)),.code AP]) X)=G (aX 55 (iv z p [(7,u),(8,.bool U),(9,v)]) Ij [0,1,2,3,4,5,6,7,8,9,10] [.code AP] [] .normal) X:=al
theorem asq:aN LL 2 (G (qF z p [(7,u),(8,.bool Y),(9,v)] [.code (.cond (tm 8) (reg Ij) (reg vY)),.code AP]) X)=G (aX 55 (iv z p [(7,u),(8,.bool Y),(9,v)]) vY [0,1,2,3,4] [.code AP] [] .normal) X:=al
theorem as5(a b c):(((iv z p [(7,u),(8,.bool U),(9,v)]).setIfInBounds 9 a).setIfInBounds 10 b).setIfInBounds 11 c=iv z p [(7,u),(8,.bool U),(9,a),(10,b),(11,c)]:=al
theorem as6(a b):((((iv z p [(7,u),(8,.bool Y),(9,v)]).setIfInBounds 12 x).setIfInBounds 12 a).setIfInBounds 10 b)=iv z p [(7,u),(8,.bool Y),(9,v),(10,b),(12,a)]:=al
theorem aso(m):(iv z p m).getD 0 aB=ov (dc z.t p) m 0:=al
theorem aci(m)(h:m.lookup 0=I):(iv z p m).getD 0 aB=p:=by
 rw[aso];unfold ov;rw[h];rfl
end
section
variable {Hid:Loc->Prop}{X:Bool}{S:ae dU}{V:ae dg}{w P W:ax}
theorem Alike.auZ(h:Alike w P){c l s r}{k}{y tm}(A:w.heap[c]?=Z (.chan l k y s r tm))(g)(f)(i j)(p q C E)(x)(o)(B)(D G)(H):Alike (w.setChan c g f i p q j) ((P.setChan c x o B D G H).setChan c g f i C E j):=by
 have m:=dD A;have n:c<P.heap.size:=by rw[h.size];exact m
 refine⟨by rw[size_setChan,size_setChan,size_setChan];exact h.size,h.tape,h.drawn,h.os,h.output,λb=>?_⟩;rw[heap_setChan _ (by rw[size_setChan];exact n),heap_setChan _ n,heap_setChan _ m];by_cases e:b=c
 ·grind
 ·rw[if_neg e,if_neg e,if_neg e]
  exact h.obj b
theorem fO.handed(L:fO Hid X S V w W){v}{a b}(C:w.heap[dO]?=Z (.chan 6 #[v] Y a b Y))(x y):fO Hid X S V (w.setChan dO 6 #[.chan I] Y x y Y) W:=by
 have B:=dD C;have D:∀c:Nat,c≠dO->(w.setChan dO 6 #[.chan I] Y x y Y).heap[c]?=w.heap[c]?:=λc e=>by rw[heap_setChan _ B,if_neg e]
 have i:∀{c f s r:Nat}{g}{A tm},f≠6->w.heap[c]?=Z (.chan f g A s r tm)->(w.setChan dO 6 #[.chan I] Y x y Y).heap[c]?=Z (.chan f g A s r tm):=λ{c f s r g A tm}o h=>by
  grind
 have N:∀c,(w.setChan dO 6 #[.chan I] Y x y Y).shape? c=w.shape? c:=λc=>by
  unfold fF;by_cases e:c=dO
  ·subst e
   rw[heap_setChan _ B,if_pos F,C]
  ·rw[D c e]
 refine⟨λs hs=>?_,λk hk=>?_,λc f g A p q tm o=>?_,?_,?_,L.DF,L.DD,L.AF,L.yZ,L.u5,L.count,L.nodup,L.B6⟩
 ·have l:=L.s s hs
  obtain⟨j,m,n⟩:=l.lone;exact⟨⟨j,m,i ah n⟩,l.real,⟨by rw[N];exact l.sh.1,l.sh.2⟩,l.done,l.cnt,l.qW,l.stop,l.bN,l.le⟩
 ·have l:=L.k k hk
  obtain⟨j,m,n⟩:=l.work;obtain⟨E,J,O⟩:=l.told;obtain⟨G,K,h3⟩:=l.wb;obtain⟨H,M,h4⟩:=l.sb;exact⟨l.p9,⟨j,m,i ah n⟩,⟨E,J,i ah O⟩,l.zw,⟨G,K,i ah h3⟩,l.rR,⟨H,M,i ah h4⟩,l.uo,l.bN⟩
 ·by_cases e:c=dO
  ·subst e
   rw[heap_setChan _ B,if_pos F]at o;cases o;exact⟨F,F,.hand F,λe=>by cases e⟩
  ·rw[D c e]at o
   exact L.chans c _ _ _ p q _ o
 ·obtain⟨j,m,n⟩:=L.gate
  exact⟨j,m,i ah n⟩
 ·exact⟨.chan I,x,y,by rw[heap_setChan _ B,if_pos F],.inl F⟩
end
abbrev q3(g:Nat->ag)(l:ae ag)(p d t:ag):af ag:=bI 13 (ov g [(0,p),(9,d),(10,t)]) l
theorem acg(g)(l):bI 13 g l=q3 g l (g 0) (g 9) (g 10):=by
 congr 1;funext i;unfold ov;by_cases e:i=0
 ·subst e;rfl
 ·by_cases f:i=9
  ·subst f;rfl
  ·by_cases h:i=10
   ·subst h;rfl
   ·have k:(i==0)=Y:=by simp[e]
    have m:(i==9)=Y:=by simp[f]
    have j:(i==10)=Y:=by simp[h]
    have:List.lookup i [(0,g 0),(9,g 9),(10,g 10)]=I:=by simp[List.lookup,k,m,j]
    rw[this];rfl
section
variable (z:jj)(p u v a b c d:ag)(T:ae aA)(t:af ag)(Q:af bq)
theorem acj:aN LL 2 (G (aX 55 t Q [] [.code AP] [] .normal) T)=G ⟨55,t,[.code (.cond (tm 11) .skip (.refuse "")),.code UO],[],.run,.normal,I⟩ T:=al
theorem ack:aN LL 2 (G ⟨55,t,[.code UO],[],.run,.normal,I⟩ T)=G (aX 55 t qC [0,1,2,3,4,5] [.code kj] [] .normal) T:=al
theorem asN(e):(iv z p [(7,u),(8,.bool e),(9,a),(10,b),(11,c)]).getD 11 aB=c:=al
theorem asO(e):(iv z p [(7,u),(8,.bool e),(9,a),(10,b),(11,c),(12,d)]).getD 11 aB=c:=al
theorem as2(f)(e):((iv z p [(7,u),(8,.bool f),(9,a),(10,b),(12,d)]).setIfInBounds 11 e).setIfInBounds 11 c=iv z p [(7,u),(8,.bool f),(9,a),(10,b),(11,c),(12,d)]:=al
theorem asQ(e)(x):((iv z p [(7,u),(8,.bool e),(9,a)]).setIfInBounds 12 x).getD 12 aB=x:=al
theorem asM(e):(iv z p [(7,u),(8,.bool e),(9,a),(10,b),(12,d)]).getD 10 aB=b:=al
theorem asP(f)(e):((iv z p [(7,u),(8,.bool f),(9,a),(10,b),(12,d)]).setIfInBounds 11 e).getD 11 aB=e:=al
theorem asL(f)(e):((iv z p [(7,u),(8,.bool f),(9,a),(10,b),(12,d)]).setIfInBounds 11 e).getD 0 aB=p:=al
end
theorem ai1{h}{t}{g}{e}(d x y)(f):cN (bR ⟨h,t,[],g,.run,e,I⟩) (aP d (.binOp .eql f (tm x) (tm y) f))=(do pure (.value (<-(do lF .eql f (tm x) (tm y) (t.getD x aB) (t.getD y aB);binOp .eql f (t.getD x aB) (t.getD y aB))))):=rfl
section
variable {R:ag->ax->Prop}{Hid:Loc->Prop}{X:Bool}{S:ae dU}{V:ae dg}{w W:ax}{T:ae aA}
theorem aps(L:fO Hid X S V w W)(hr:Rel (bS ak) Hid w W)(eO:Below ak LL T)(h:T≠[]){z}{p}(hg:Good LL R ⟨Ik z p,T,w⟩):X=U/\∃f∈V,p=ptr f.S 0/\∃n g w1 a b x y,fO Hid X S V (w.setChan dO 6 #[.chan I] Y a b Y) W/\Rel (bS ak) Hid (w.setChan dO 6 #[.chan I] Y a b Y) W/\Alike (w.setChan dO 6 #[.chan I] Y a b Y) w1/\w1.heap[f.D]?=Z (.chan 2 #[db f] Y x y Y)/\
                                                                                                                    fA LL ⟨Ik z p,T,w⟩ ⟨aX 55 (q3 g z.l p (ay f.D) (db f)) qC [0,1,2,3,4,5] [.code kj] [] .normal,T,w1.setChan f.D 2 #[] Y x (y+1) Y⟩ n/\
                                                                                                                    Good LL R ⟨aX 55 (q3 g z.l p (ay f.D) (db f)) qC [0,1,2,3,4,5] [.code kj] [] .normal,T,w1.setChan f.D 2 #[] Y x (y+1) Y⟩:=by
 have k:CallKind.normal=.normal\/CallKind.normal=.deferred:=.inl F;have fH:∀d∈([]),lV ak d:=by simp
 obtain⟨K,M,i⟩:=L.gate;obtain⟨hv,ha,E,nC,γ⟩:=L.hand;obtain⟨n1,L1,g1⟩:=hg.quiet 2 (asX z p _) h;obtain⟨c,B,A,cl,a,b,iJ,q,j,l⟩:=AR k h al (asI z p) g1;cases q;have j:=j;rw[i]at j;cases j;obtain⟨h0,L2,g2⟩:=l F;cases X with
 |false=>simp at h0
 |true=>
 refine⟨F,?_⟩;have i:=i;have L2:=L2;have g2:Good LL R ⟨aX 55 ((iv z p []).setIfInBounds 7 (cY V)) qA [1,2,3,4] [.code Lg] [] .normal,T,w.setChan bw 5 #[] Y K (M+1) Y⟩:=g2;rw[as3]at L2 g2;have gd:(w.setChan bw 5 #[] Y K (M+1) Y).heap[bw]?=Z (.chan 5 #[] Y K (M+1) Y):=oQ _ i _ _ _ _ _ _;obtain⟨c,B,A,cl,a,b,iJ,q,j,l⟩:=wa k h al (asJ z p _) g2;cases q;have j:=j;rw[gd]at j;cases j;obtain⟨_,L3,g3⟩:=l F;have A3:Alike w ((w.setChan bw 5 #[] Y K (M+1) Y).setChan bw 5 ((#[]).push (cY V)) Y (K+1) (M+1) Y):=Alike.bX i _ _ _ _ _;generalize ((w.setChan bw 5 #[] Y K (M+1) Y).setChan bw 5 ((#[]).push (cY V)) Y (K+1) (M+1) Y)=w3 at L3 g3 A3;obtain⟨vJ,G,Zu⟩:=A3.np nC;obtain⟨c,B,A,cl,a,b,iJ,q,j,l⟩:=AR k h al (asU z p _) g3;cases q;have j:=j;rw[Zu]at j;cases j;obtain⟨_,L4,g4⟩:=l F;have L4:=L4;have g4:Good LL R ⟨aX 55 ((iv z p [(7,cY V)]).setIfInBounds 9 hv) qA [3,4] [.code Lg] [] .normal,T,w3.setChan dO 6 #[] Y vJ (G+1) Y⟩:=g4;rw[as4]at L4 g4;have BU:(w3.setChan dO 6 #[] Y vJ (G+1) Y).heap[dO]?=Z (.chan 6 #[] Y vJ (G+1) Y):=oQ _ Zu _ _ _ _ _ _;obtain⟨c,B,A,cl,a,b,iJ,q,j,l⟩:=wa k h al (asV z p _ _) g4;cases q;have j:=j;rw[BU]at j;cases j;obtain⟨_,L5,g5⟩:=l F;have o:Alike (w.setChan dO 6 #[.chan I] Y ha E Y) ((w3.setChan dO 6 #[] Y vJ (G+1) Y).setChan dO 6 ((#[]).push (.chan I)) Y (vJ+1) (G+1) Y):=A3.auZ nC _ _ _ _ _ _ _ _ _ _ _ _ _ _;generalize ((w3.setChan dO 6 #[] Y vJ (G+1) Y).setChan dO 6 ((#[]).push (.chan I)) Y (vJ+1) (G+1) Y)=r at L5 g5 o;have LH:=L.handed nC ha E;have RH:Rel (bS ak) Hid (w.setChan dO 6 #[.chan I] Y ha E Y) W:=hr.sV nC;have LS:=(((L1.trans L2).trans L3).trans L4).trans L5;have Zt:∀τ e,iW ak (re r τ e):=λτ e=>(RH.alike o).tY;rcases γ with rfl|⟨f,cX,rfl⟩
 ·
  obtain⟨n6,L6,g6⟩:=g5.quiet 3 (asG z p _ _) h;obtain⟨n7,L7,g7⟩:=g6.quiet 2 (asp z p _ _ _) h;obtain⟨f,cX,s,n8,w8,x,y,oS,β,A8,L8,g8⟩:=TT (LH.alike o) (RH.alike o) eO h k fH (λm _=>by rw[uJ];rfl) (by simp[bI];omega) (by simp[bI];omega) (by simp[iv,bI];omega) ah ah ah ah ah ah g7;rw[as5]at L8 g8;rw[aci z p _ rfl]at oS;obtain⟨n9,L9,g9⟩:=g8.quiet 2 (acj _ _ _) h;obtain⟨E5,N⟩:=EN (bb:=s) g9 h (asN z p _ _ _ _ _);have ow:=g9.mL N h;obtain⟨ε,zM,By⟩:=ow.quiet 2 (ack _ _) h;have l:iv z p [(7,cY V),(8,.bool U),(9,ay f.D),(10,db f),(11,.bool s)]=q3 (ov (dc z.t p) [(7,cY V),(8,.bool U),(9,ay f.D),(10,db f),(11,.bool s)]) z.l p (ay f.D) (db f):=acg _ _;have j7:=(((((LS.trans L6).trans L7).trans L8).trans L9).trans N).trans zM;rw[l]at j7 By;exact⟨f,cX,oS E5,_,_,w8,ha,E,x,y,LH,RH,o.trans A8,β,j7,By⟩
 ·
  obtain⟨n6,L6,g6⟩:=g5.quiet 3 (asH z p _ _ _) h;obtain⟨n7,L7,g7⟩:=g6.quiet 2 (asq z p _ _ _) h;have o0:vY[0]?=Z (aP 12 (.fieldAddr 109 (tm 0) 8)):=by kernel_rfl
  have o1:vY[1]?=Z (aP 12 (.load 99 (tm 12))):=by kernel_rfl
  have o2:vY[2]?=Z (aP 10 (.recv 100 (tm 9) Y)):=by kernel_rfl
  have o3:vY[3]?=Z (aP 11 (.field 50 (tm 10) 0)):=by kernel_rfl
  have o4:vY[4]?=Z (aP 11 (.binOp .eql 39 (tm 11) (tm 0) 39)):=by kernel_rfl
  have e0:cN (bR ⟨55,iv z p [(7,cY V),(8,.bool Y),(9,ay f.D)],[],[],.run,.normal,I⟩) (aP 12 (.fieldAddr 109 (tm 0) 8))=(do pure (.value (<-tn 109 p 8))):=by rw[Nd,aci z p _ rfl]
  rcases Nh _ p 8 9 (.inl ⟨rfl,rfl⟩)with⟨v,⟨H,Fs,rfl⟩,cy⟩|cL
  case inr=>exact(rz k eO fH Zt o0 e0 cL g7).elim
  obtain⟨L8,g8⟩:=sH k h o0 e0 cy g7;have q:cN (bR ⟨55,(iv z p [(7,cY V),(8,.bool Y),(9,ay f.D)]).setIfInBounds 12 (.pointer (Z (H.add 9))),[],[],.run,.normal,I⟩) (aP 12 (.load 99 (tm 12)))=(do pure (.value (<-uG 99 (.pointer (Z (H.add 9)))))):=by rw[Q6,asQ]
  rcases TR WV _ (RH.alike o)with⟨O,⟨δ,HD,oT⟩,SY⟩|cL
  case inr=>exact(rz k eO fH Zt o1 q cL g8).elim
  cases HD;obtain⟨L9,g9⟩:=sH k h o1 q SY g8;have ls:=LH.s _ cX;obtain⟨sa,sb,hD⟩:=ls.lone;obtain⟨D,C,Hi⟩:=o.np hD;have j:fR LL (cN (bR ⟨55,((iv z p [(7,cY V),(8,.bool Y),(9,ay f.D)]).setIfInBounds 12 (.pointer (Z (H.add 9)))).setIfInBounds 12 O,[],[],.run,.normal,I⟩) (aP 10 (.recv 100 (tm 9) Y)))=Z (.comm #[{chan:=ay f.D,send:=I,zero:=.agg #[]}] U (.recv Y)):=by kernel_rfl
  obtain⟨c,B,A,cl,a,b,iJ,f1,f2,f3⟩:=AR k h o2 j g9;cases f1;rw[Hi]at f2;cases f2;obtain⟨_,N,ow⟩:=f3 F;have N:fA LL _ ⟨aX 55 ((((iv z p [(7,cY V),(8,.bool Y),(9,ay f.D)]).setIfInBounds 12 (.pointer (Z (H.add 9)))).setIfInBounds 12 O).setIfInBounds 10 (db f)) vY [3,4] [.code AP] [] .normal,T,r.setChan f.D 2 #[] Y D (C+1) Y⟩ 1:=N;have ow:Good LL R ⟨aX 55 ((((iv z p [(7,cY V),(8,.bool Y),(9,ay f.D)]).setIfInBounds 12 (.pointer (Z (H.add 9)))).setIfInBounds 12 O).setIfInBounds 10 (db f)) vY [3,4] [.code AP] [] .normal,T,r.setChan f.D 2 #[] Y D (C+1) Y⟩:=ow;rw[as6]at N ow;have YV:=dD Hi;have l:cN (bR ⟨55,iv z p [(7,cY V),(8,.bool Y),(9,ay f.D),(10,db f),(12,O)],[],[],.run,.normal,I⟩) (aP 11 (.field 50 (tm 10) 0))=(do pure (.value (<-Instr.field 50 (db f) 0))):=by rw[Q4,asM]
  obtain⟨zM,By⟩:=sH (v:=ptr f.S 0) k h o3 l (λτ e=>by kernel_rfl) ow;have e4:cN (bR ⟨55,(iv z p [(7,cY V),(8,.bool Y),(9,ay f.D),(10,db f),(12,O)]).setIfInBounds 11 (ptr f.S 0),[],[],.run,.normal,I⟩) (aP 11 (.binOp .eql 39 (tm 11) (tm 0) 39))=(do pure (.value (<-(do lF .eql 39 (tm 11) (tm 0) (ptr f.S 0) p;binOp .eql 39 (ptr f.S 0) p)))):=by rw[ai1,asP,asL]
  have ZX:=RH.alike o;have TY:∃c:af ag,c.size=10/\(r.setChan f.D 2 #[] Y D (C+1) Y).heap[f.S]?=Z (.cells c 109):=by
   obtain⟨cc,h1,h2⟩:=(ls.alike o).MT ZX;refine⟨cc,h1,?_⟩;rw[heap_setChan _ YV,if_neg (λe=>by simp_all)];exact h2
  have KG:∀J,p=.pointer (Z J)->py (r.setChan f.D 2 #[] Y D (C+1) Y) J=Y:=λJ E=>by
   rw[Fs]at E;cases E;obtain⟨cc,ty,fz,h1,_,h3,_⟩:=kQ oT;have h1:r.heap[H.block]?=Z (.cells cc ty fz):=h1;have h9:(r.setChan f.D 2 #[] Y D (C+1) Y).heap[H.block]?=Z (.cells cc ty fz):=by
    rw[heap_setChan _ YV,if_neg (λe=>by simp_all)];exact h1
   unfold py fF;rw[h9];obtain⟨nn,hn⟩:∃nn,cc.size=nn+1:=⟨cc.size-1,by omega⟩;simp only[hn]
  rcases Ya TY p KG _ _ with⟨v,⟨s,rfl,oS⟩,SZ⟩|cL
  case inr=>exact(rz (w:=r.setChan f.D 2 #[] Y D (C+1) Y) k eO fH (λτ e=>(show iW ak (r.setChan f.D 2 #[] Y D (C+1) Y)from(ZX.sV Hi).tY)) o4 e4 cL By).elim
  obtain⟨GB,EL⟩:=sH k h o4 e4 SZ By;rw[as2]at GB EL;obtain⟨ζ,Ex,EM⟩:=EL.quiet 2 (acj _ _ _) h;obtain⟨E5,GC⟩:=EN (bb:=s) EM h (asO z p _ _ _ _ _ _);have Hb:=EM.mL GC h;obtain⟨η,GD,Nl⟩:=Hb.quiet 2 (ack _ _) h;have e5:iv z p [(7,cY V),(8,.bool Y),(9,ay f.D),(10,db f),(11,.bool s),(12,O)]=q3 (ov (dc z.t p) [(7,cY V),(8,.bool Y),(9,ay f.D),(10,db f),(11,.bool s),(12,O)]) z.l p (ay f.D) (db f):=acg _ _;have j7:=(((((((((LS.trans L6).trans L7).trans L8).trans L9).trans N).trans zM).trans GB).trans Ex).trans GC).trans GD;rw[e5]at j7 Nl;exact⟨f,cX,oS E5,_,_,r,ha,E,D,C,LH,RH,o,Hi,j7,Nl⟩
end
noncomputable def jT:bH:=.seq (reg qH) .ret
noncomputable def acm:bH:=.seq (.cond (tm 11) .skip (.refuse "")) (.seq (reg qD) F4)
noncomputable def acn:bH:=.seq (reg qD) F4
def tk(S n:Nat):ag:=.agg #[ptr S 0,ai (n+1),.bool Y]
abbrev qm(S D n:Nat)(W:Bool):ae (Nat×ag):=[(0,ptr S 0),(7,ai (n+1)),(8,.bool W),(9,ay D),(10,tk S n),(11,.bool (decide (n<9)))]
abbrev UP(S D n N:Nat)(W:Bool):ae (Nat×ag):=(1,ay N)::qm S D n W
abbrev Lh(S D n N M:Nat)(W:Bool):ae (Nat×ag):=(2,ptr M 0)::UP S D n N W
section
variable (g:Nat->ag)(l:ae ag)(S D n N M:Nat)(W:Bool)(X:ae aA)(t:af ag)
theorem ass:aN LL 5 (G (aX 55 (q3 g l (ptr S 0) (ay D) (.agg #[ptr S 0,ai ((0:Nat):Int),.bool W])) qC [0,1,2,3,4,5] [.code kj] [] .normal) X)=G (aX 55 (bI 13 (ov g (qm S D 0 W)) l) qC [5] [.code kj] [] .normal) X:=al
theorem ast:aN LL 5 (G (aX 55 (q3 g l (ptr S 0) (ay D) (.agg #[ptr S 0,ai ((1:Nat):Int),.bool W])) qC [0,1,2,3,4,5] [.code kj] [] .normal) X)=G (aX 55 (bI 13 (ov g (qm S D 1 W)) l) qC [5] [.code kj] [] .normal) X:=al
theorem asv:aN LL 5 (G (aX 55 (q3 g l (ptr S 0) (ay D) (.agg #[ptr S 0,ai ((2:Nat):Int),.bool W])) qC [0,1,2,3,4,5] [.code kj] [] .normal) X)=G (aX 55 (bI 13 (ov g (qm S D 2 W)) l) qC [5] [.code kj] [] .normal) X:=al
theorem asw:aN LL 5 (G (aX 55 (q3 g l (ptr S 0) (ay D) (.agg #[ptr S 0,ai ((3:Nat):Int),.bool W])) qC [0,1,2,3,4,5] [.code kj] [] .normal) X)=G (aX 55 (bI 13 (ov g (qm S D 3 W)) l) qC [5] [.code kj] [] .normal) X:=al
theorem asx:aN LL 5 (G (aX 55 (q3 g l (ptr S 0) (ay D) (.agg #[ptr S 0,ai ((4:Nat):Int),.bool W])) qC [0,1,2,3,4,5] [.code kj] [] .normal) X)=G (aX 55 (bI 13 (ov g (qm S D 4 W)) l) qC [5] [.code kj] [] .normal) X:=al
theorem asy:aN LL 5 (G (aX 55 (q3 g l (ptr S 0) (ay D) (.agg #[ptr S 0,ai ((5:Nat):Int),.bool W])) qC [0,1,2,3,4,5] [.code kj] [] .normal) X)=G (aX 55 (bI 13 (ov g (qm S D 5 W)) l) qC [5] [.code kj] [] .normal) X:=al
theorem asz:aN LL 5 (G (aX 55 (q3 g l (ptr S 0) (ay D) (.agg #[ptr S 0,ai ((6:Nat):Int),.bool W])) qC [0,1,2,3,4,5] [.code kj] [] .normal) X)=G (aX 55 (bI 13 (ov g (qm S D 6 W)) l) qC [5] [.code kj] [] .normal) X:=al
theorem asA:aN LL 5 (G (aX 55 (q3 g l (ptr S 0) (ay D) (.agg #[ptr S 0,ai ((7:Nat):Int),.bool W])) qC [0,1,2,3,4,5] [.code kj] [] .normal) X)=G (aX 55 (bI 13 (ov g (qm S D 7 W)) l) qC [5] [.code kj] [] .normal) X:=al
theorem asB:aN LL 5 (G (aX 55 (q3 g l (ptr S 0) (ay D) (.agg #[ptr S 0,ai ((8:Nat):Int),.bool W])) qC [0,1,2,3,4,5] [.code kj] [] .normal) X)=G (aX 55 (bI 13 (ov g (qm S D 8 W)) l) qC [5] [.code kj] [] .normal) X:=al
theorem asC:aN LL 5 (G (aX 55 (q3 g l (ptr S 0) (ay D) (.agg #[ptr S 0,ai ((9:Nat):Int),.bool W])) qC [0,1,2,3,4,5] [.code kj] [] .normal) X)=G (aX 55 (bI 13 (ov g (qm S D 9 W)) l) qC [5] [.code kj] [] .normal) X:=al
theorem q_c(h:n<=9):aN LL 5 (G (aX 55 (q3 g l (ptr S 0) (ay D) (.agg #[ptr S 0,ai n,.bool W])) qC [0,1,2,3,4,5] [.code kj] [] .normal) X)=G (aX 55 (bI 13 (ov g (qm S D n W)) l) qC [5] [.code kj] [] .normal) X:=by
 have:n=0\/n=1\/n=2\/n=3\/n=4\/n=5\/n=6\/n=7\/n=8\/n=9:=by omega
 rcases this with rfl|rfl|rfl|rfl|rfl|rfl|rfl|rfl|rfl|rfl
 ·exact ass g l S D W X
 ·exact ast g l S D W X
 ·exact asv g l S D W X
 ·exact asw g l S D W X
 ·exact asx g l S D W X
 ·exact asy g l S D W X
 ·exact asz g l S D W X
 ·exact asA g l S D W X
 ·exact asB g l S D W X
 ·exact asC g l S D W X
theorem asE:fR LL (cN (bR ⟨55,bI 13 (ov g (qm S D n W)) l,[],[],.run,.normal,I⟩) (ep (.send (tm 9) (tm 10))))=Z (.comm #[{chan:=ay D,send:=Z (tk S n),zero:=.tuple #[]}] U .send):=al
theorem asD:aN LL 2 (G (aX 55 t qC [] [.code kj] [] .normal) X)=G ⟨55,t,[.code (.cond (tm 8) (.refuse "") .skip),.code acm],[],.run,.normal,I⟩ X:=al
theorem asR:(bI 13 (ov g (qm S D n W)) l).getD 8 aB=.bool W:=al
theorem asS:(bI 13 (ov g (qm S D n W)) l).getD 11 aB=.bool (decide (n<9)):=al
theorem asu:aN LL 1 (G ⟨55,t,[.code acm],[],.run,.normal,I⟩ X)=G ⟨55,t,[.code (.cond (tm 11) .skip (.refuse "")),.code acn],[],.run,.normal,I⟩ X:=al
theorem asY:oI LL N (G ⟨55,bI 13 (ov g (qm S D n W)) l,[.code acn],[],.run,.normal,I⟩ X)=Z (G (aX 55 (bI 13 (ov g (UP S D n N W)) l) qD [1] [.code F4] [] .normal) X,.chan 4 #[] Y 0 0 Y):=al
theorem asZ:oI LL M (G (aX 55 (bI 13 (ov g (UP S D n N W)) l) qD [1] [.code F4] [] .normal) X)=Z (G (aX 55 (bI 13 (ov g (Lh S D n N M W)) l) qD [] [.code F4] [] .normal) X,.cells gF 142):=al
theorem asF:aN LL 2 (G (aX 55 t qD [] [.code F4] [] .normal) X)=G ⟨55,t,[.code (.region 1 qE U),.code jT],[],.run,.normal,I⟩ X:=al
end
section
variable {R:ag->ax->Prop}{X:ae aA}
theorem apt(e:X≠[]){d:dg}(r:d.n<=9){g:Nat->ag}{l:ae ag}{h:ax}{x y:Nat}(hD:h.heap[d.D]?=Z (.chan 2 #[db d] Y x y Y))
  (hg:Good LL R ⟨aX 55 (q3 g l (ptr d.S 0) (ay d.D) (db d)) qC [0,1,2,3,4,5] [.code kj] [] .normal,X,h.setChan d.D 2 #[] Y x (y+1) Y⟩):
  d.st=Y/\d.n<9/\∃n f,(∃p q,f=((h.setChan d.D 2 #[] Y x (y+1) Y).setChan d.D 2 #[tk d.S d.n] Y p q Y))/\
   fA LL ⟨aX 55 (q3 g l (ptr d.S 0) (ay d.D) (db d)) qC [0,1,2,3,4,5] [.code kj] [] .normal,X,h.setChan d.D 2 #[] Y x (y+1) Y⟩ ⟨⟨55,bI 13 (ov g (Lh d.S d.D d.n f.heap.size (f.heap.size+1) d.st)) l,[.code (.region 1 qE U),.code jT],[],.run,.normal,I⟩,X,bW (bW f (.chan 4 #[] Y 0 0 Y)) (.cells gF 142)⟩ n/\
   Good LL R ⟨⟨55,bI 13 (ov g (Lh d.S d.D d.n f.heap.size (f.heap.size+1) d.st)) l,[.code (.region 1 qE U),.code jT],[],.run,.normal,I⟩,X,bW (bW f (.chan 4 #[] Y 0 0 Y)) (.cells gF 142)⟩:=by
 have hk:CallKind.normal=.normal\/CallKind.normal=.deferred:=.inl F;obtain⟨n1,z,O⟩:=hg.quiet 5 (q_c g l d.S d.D d.n d.st X r) e;have nE:(h.setChan d.D 2 #[] Y x (y+1) Y).heap[d.D]?=Z (.chan 2 #[] Y x (y+1) Y):=oQ _ hD _ _ _ _ _ _;obtain⟨c,o,m,J,a,b,iJ,K,j,L⟩:=wa hk e al (asE g l d.S d.D d.n d.st) O;cases K;have j:(h.setChan d.D 2 #[] Y x (y+1) Y).heap[d.D]?=Z (.chan o m J a b iJ):=j;rw[nE]at j;cases j;obtain⟨_,i,k⟩:=L F;have i:fA LL _ ⟨aX 55 (bI 13 (ov g (qm d.S d.D d.n d.st)) l) qC [] [.code kj] [] .normal,X,(h.setChan d.D 2 #[] Y x (y+1) Y).setChan d.D 2 #[tk d.S d.n] Y (x+1) (y+1) Y⟩ 1:=i;have k:Good LL R ⟨aX 55 (bI 13 (ov g (qm d.S d.D d.n d.st)) l) qC [] [.code kj] [] .normal,X,(h.setChan d.D 2 #[] Y x (y+1) Y).setChan d.D 2 #[tk d.S d.n] Y (x+1) (y+1) Y⟩:=k;generalize ma:(h.setChan d.D 2 #[] Y x (y+1) Y).setChan d.D 2 #[tk d.S d.n] Y (x+1) (y+1) Y=f at i k;obtain⟨n3,A,v⟩:=k.quiet 2 (asD X _) e;obtain⟨H,s⟩:=YL (bb:=d.st) v e (asR g l d.S d.D d.n d.st);have P:=v.mL s e;obtain⟨n5,B,w⟩:=P.quiet 1 (asu X _) e;obtain⟨aC,u⟩:=EN (bb:=decide (d.n<9)) w e (asS g l d.S d.D d.n d.st);have Q:=w.mL u e;obtain⟨n7,C,T⟩:=EO Q (asY g l d.S d.D d.n _ d.st X) e;have h2:=asZ g l d.S d.D d.n f.heap.size (f.heap.size+1) d.st X;obtain⟨n8,E,V⟩:=EO T (by rw[size_push];exact h2) e;obtain⟨n9,G,g9⟩:=V.quiet 2 (asF X _) e;exact⟨H,of_decide_eq_true aC,_,f,⟨_,_,ma.symm⟩,(((((((z.trans i).trans A).trans s).trans B).trans u).trans C).trans E).trans G,g9⟩
end
end
end Go.Proofs.YtgahemdblfapeaaGreatDoor
