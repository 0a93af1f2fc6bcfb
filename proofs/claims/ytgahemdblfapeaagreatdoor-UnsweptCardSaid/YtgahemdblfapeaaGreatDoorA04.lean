/- Helper lemmas, part 4: what the steps of the program do in the model; each holds under its own hypotheses. -/
import Derived.Test.YtgahemdblfapeaaGreatDoorA03
set_option maxRecDepth 100000
set_option maxHeartbeats 4000000
set_option linter.all false
namespace Go.Proofs.YtgahemdblfapeaaGreatDoor
open Go.Conc
open _root_.Array renaming getD_eq_getD_getElem?→nk,getElem?_eq_getElem→wZ,getElem?_eq_some_iff→gG,getElem?_setIfInBounds→tJ,getElem?_setIfInBounds_ne→ie,getElem?_toList→w7,replicate→pG,size_setIfInBounds→pH
open _root_.Bool renaming and_eq_true→ig,false→Y,not_eq_true'→Fu,true→U
open Go renaming CallKind→dD,Code→bl,Deferred→bV,Frame→az,FuncId→bA,Goroutine→aH,Item→aK,Machine→fg,Oper→bh,Program→aA,Trace→dJ,TypeId→aJ,Value→ag,World→au,doReturn→rh,eqGuard→kX,execOp→cu,goInt→ah,runN→di,runNT→iz,stepG→aG,undef→aC,unwind→lU
open Go.Conc renaming Deaf→dU,Deaf_other→mX,heap_setChan_ne→mM,heap_setChan_self→oE,mem_seen→BF,runNT_then→kG
open Go.Frame renaming enter→bG,eval→bJ
open Go.GStep renaming after→kF
open Go.MemAct renaming ofEvent→gy,touch?→lS
open Go.MemOp renaming ofEvents→db
open Go.Proofs.Tryz renaming prog→ak
open Go.Region renaming schedule→sL
open Go.Sem renaming runT_eq→jR
open Go.Stepped.next renaming injEq→xf
open Go.World renaming cell?→fR,shape?→fD
open _root_.List renaming all_eq_true→BI,getElem?_drop→Fx,length_eq_zero_iff→BK,map_cons→ft,mem_cons→bQ,mem_cons_of_mem→eK,mem_cons_self→fu,mem_map→ox,nodup_cons→rb,not_mem_nil→gk
open _root_.Nat renaming le_refl→df,lt_of_lt_of_le→ayS
open _root_.Option renaming map_eq_some_iff→gV,map_some→iy,none→I,some→Z
open _root_.Option.some renaming inj→dQ,injEq→ij
section
variable {f:bA}
def JK:ae Nat->Bool
 |[]=>U
 |i::r=>decide (i<5)&&!(i==1&&r.contains 0)&&!r.contains i&&JK r
def Zt(o:ae Nat):Bool:=JK (o.take 5)&&o.drop 5==[5,6,7]&&[0,1,2,3,4].all (o.take 5).contains
theorem ao0:(yX .any lO lO.size (pG lO.size Y)).all Zt=U:=av
theorem aoU(t):∃l,sL U lO t=l++[5,6,7]/\JK l=U/\∀i,i<5->i∈l:=by
 have h:=BI.1 ao0 _ (NH _ t);generalize sL U lO t=o at h;simp only[Zt,ig,beq_iff_eq]at h;obtain⟨⟨a,b⟩,c⟩:=h;refine⟨o.take 5,?_,a,λi d=>?_⟩
 ·rw[<-b,List.take_append_drop]
 ·grind
theorem asm(t):sL U mh t=sL U lO t:=av
noncomputable abbrev mH(i:Nat):bh:=lO.getD i default
noncomputable abbrev M7(i:Nat):bh:=mh.getD i default
section
variable (t:af ag)(W:ae bV)(X:dD)(N:Nat)
theorem ahM:lO[0]?=Z (mH 0):=av
theorem ahN:lO[1]?=Z (mH 1):=av
theorem ahO:lO[2]?=Z (mH 2):=av
theorem ahP:lO[3]?=Z (mH 3):=av
theorem ahQ:lO[4]?=Z (mH 4):=av
theorem LI:(mH 0).guard=I/\(mH 0).dst=Z 32:=⟨by kernel_rfl,by kernel_rfl⟩
theorem LJ:(mH 1).guard=I/\(mH 1).dst=Z 33:=⟨by kernel_rfl,by kernel_rfl⟩
theorem LK:(mH 2).guard=I/\(mH 2).dst=Z 34:=⟨by kernel_rfl,by kernel_rfl⟩
theorem LM:(mH 3).guard=I/\(mH 3).dst=Z 35:=⟨by kernel_rfl,by kernel_rfl⟩
theorem Wq:(mH 4).guard=I/\(mH 4).dst=Z 36:=⟨by kernel_rfl,by kernel_rfl⟩
theorem ahH:mh[0]?=Z (mH 0):=av
theorem ahI:mh[1]?=Z (mH 1):=av
theorem ahJ:mh[2]?=Z (mH 2):=av
theorem ahK:mh[3]?=Z (mH 3):=av
theorem ahL:mh[4]?=Z (M7 4):=av
theorem Wp:(M7 4).guard=I/\(M7 4).dst=Z 36:=⟨by kernel_rfl,by kernel_rfl⟩
theorem VG(P):fQ P (cu (bJ ⟨38,t,[],W,.run,X,I⟩) (mH 0))=Z (.value (t.getD 0 aC)):=av
theorem VI(P):fQ P (cu (bJ ⟨38,t,[],W,.run,X,I⟩) (mH 3))=Z (.value (t.getD 2 aC)):=av
def MX(v:ag):Sem Next:=do pure (.value (<-Instr.makeSlice 95 v v))
theorem VH:cu (bJ ⟨38,t,[],W,.run,X,I⟩) (mH 1)=MX (t.getD 32 aC):=av
theorem afR:vf ak N (cu (bJ ⟨38,t,[],W,.run,X,I⟩) (mH 2))=Z (.value (.map (Z N)),.map #[] 0):=av
theorem afP:vf LL N (cu (bJ ⟨38,t,[],W,.run,X,I⟩) (mH 2))=Z (.value (.map (Z N)),.map #[] 0):=av
theorem afS:vf ak N (cu (bJ ⟨38,t,[],W,.run,X,I⟩) (mH 4))=Z (.value (ay N),.chan 0 #[] Y 0 0 Y):=av
theorem afQ:vf LL N (cu (bJ ⟨38,t,[],W,.run,X,I⟩) (M7 4))=Z (.value (ay N),.chan 2 #[] Y 0 0 Y):=av
noncomputable def M8(n:Nat):Obj:=match vf ak 0 (MX (ah n))with
 |some r=>r.2
 |none=>default
def ZI:Obj->Bool
 |.cells _ _ (0,0)=>U
 |_=>Y
theorem apk{o}(h:ZI o=U):∃c t,o=.cells c t:=by
 unfold ZI at h;split at h
 ·exact⟨_,_,F⟩
 ·cases h
def Fa(b n:Nat):ag:=.slice (Z ⟨b,0,I⟩) n n
theorem Y5{n:Nat}(a:0<n)(b:n<9):vf ak N (MX (ah n))=Z (.value (Fa N n),M8 n)/\vf LL N (MX (ah n))=Z (.value (Fa N n),M8 n)/\∃c t,M8 n=.cells c t:=by
 have:n=1\/n=2\/n=3\/n=4\/n=5\/n=6\/n=7\/n=8:=by omega
 rcases this with rfl|rfl|rfl|rfl|rfl|rfl|rfl|rfl<;>exact⟨by kernel_rfl,by kernel_rfl,apk av⟩
end
structure Ph(Hid:Loc->Prop)(n:Nat)(lim:Int)(l:ae Nat)(t' t:af ag)(w0 W0 w W:au):Prop where
 size:74<=t.size
 NM:t'.size=t.size
 VA:∀i,i≠35->i≠36->i≠37->t'[i]?=t[i]?
 m0:t.getD 0 aC=ah n
 m2:t.getD 2 aC=ah lim
 m32:0∉l->t.getD 32 aC=ah n
 EL:1∉l->∃b,t.getD 33 aC=Fa b n
 EM:2∉l->∃b,t.getD 34 aC=.map (Z b)
 EN:3∉l->t'.getD 35 aC=ah lim/\t.getD 35 aC=ah lim
 GQ:4∉l->∃b,t'.getD 36 aC=ay b/\t.getD 36 aC=ay b/\W0.heap.size<=b/\w.heap[b]?=Z (.chan 2 #[] Y 0 0 Y)/\W.heap[b]?=Z (.chan 0 #[] Y 0 0 Y)/\∀b2:Nat,W0.heap.size<=b2->∀cap buf cl s r tm,w.heap[b2]?=Z (.chan cap buf cl s r tm)->b2=b
 EU:4∈l->∀b2:Nat,W0.heap.size<=b2->∀cap buf cl s r tm,w.heap[b2]?≠Z (.chan cap buf cl s r tm)
 rel:Rel (bN ak) Hid w W
 old:∀b,b<W0.heap.size->w.heap[b]?=w0.heap[b]?/\W.heap[b]?=W0.heap[b]?
 le:W0.heap.size<=W.heap.size
 room:W.heap.size+(if 1∈l then 1 else 0)+(if 2∈l then 1 else 0)+(if 4∈l then 1 else 0)=W0.heap.size+3
theorem vr{t:af ag}{d i:Nat}{v:ag}(a:d<t.size):(t.setIfInBounds d v).getD i aC=if i=d then v else t.getD i aC:=by
 rw[nk,tJ,nk];by_cases e:d=i
 ·subst e;rw[if_pos F,if_pos a,if_pos F];rfl
 ·rw[if_neg e,if_neg (λx=>e x.symm)]
section
variable {Hid:Loc->Prop}{n:Nat}{lim:Int}{l:ae Nat}{t' t:af ag}{w0 W0 w W:au}
theorem Ph.slot{i d:Nat}{v:ag}(p:Ph Hid n lim (i::l) t' t w0 W0 w W)(hd:d<74)(A:d≠0/\d≠2){o f:au}
  (x:0∉l->(t.setIfInBounds d v).getD 32 aC=ah n)(C:1∉l->∃b,(t.setIfInBounds d v).getD 33 aC=Fa b n)(D:2∉l->∃b,(t.setIfInBounds d v).getD 34 aC=.map (Z b))
  (E:3∉l->(t'.setIfInBounds d v).getD 35 aC=ah lim/\(t.setIfInBounds d v).getD 35 aC=ah lim)
  (H:4∉l->∃b,(t'.setIfInBounds d v).getD 36 aC=ay b/\(t.setIfInBounds d v).getD 36 aC=ay b/\W0.heap.size<=b/\o.heap[b]?=Z (.chan 2 #[] Y 0 0 Y)/\f.heap[b]?=Z (.chan 0 #[] Y 0 0 Y)/\∀g:Nat,W0.heap.size<=g->∀c a u s r tm,o.heap[g]?=Z (.chan c a u s r tm)->g=b)
  (G:4∈l->∀g:Nat,W0.heap.size<=g->∀c a u s r tm,o.heap[g]?≠Z (.chan c a u s r tm))
  (z:Rel (bN ak) Hid o f)(y:∀b,b<W0.heap.size->o.heap[b]?=w0.heap[b]?/\f.heap[b]?=W0.heap[b]?)(le:W0.heap.size<=f.heap.size)
  (q:f.heap.size+(if 1∈l then 1 else 0)+(if 2∈l then 1 else 0)+(if 4∈l then 1 else 0)=W0.heap.size+3):
  Ph Hid n lim l (t'.setIfInBounds d v) (t.setIfInBounds d v) w0 W0 o f:=by
 have hs:=p.size;refine⟨by rw[pH];exact hs,by rw[pH,pH];exact p.NM,λj J O h3=>?_,?_,?_,x,C,D,E,H,G,z,y,le,q⟩
 ·rw[tJ,tJ,p.NM,p.VA j J O h3]
 ·rw[vr ai,if_neg (λe=>A.1 e.symm)];exact p.m0
 ·rw[vr ai,if_neg (λe=>A.2 e.symm)];exact p.m2
theorem Ph.get'(p:Ph Hid n lim l t' t w0 W0 w W){i:Nat}(a:i≠35)(b:i≠36)(c:i≠37):t'.getD i aC=t.getD i aC:=by
 rw[nk,nk,p.VA i a b c]
end
section
variable {R:ag->au->Prop}{P k:ae aK}{Q:ae bV}{X:dD}{V L:ae az}
variable {M At:Nat->Loc->Prop}{S:Loc->Prop}{N:Nat->aj YS}{h B K:Nat}{T:dJ}{m:fg}
variable {Hid:Loc->Prop}{n:Nat}{lim:Int}{w0 W0:au}
theorem apa(aU:X=.normal\/X=.deferred)(aD:V≠[])(h0:0<n)(h9:n<9)(hk:∀i y,N i=Z y->∀w o,y.K w->y.K (bM w o))(bY:∀i y c,N i=Z y->y.s.has c->c<W0.heap.size):∀(l:ae Nat)(t' t:af ag)(w W:au),JK l=U->Ph Hid n lim l t' t w0 W0 w W->Good LL R ⟨aV 38 t' mh (l++[5,6,7]) P Q X,V,w⟩->
                                                                                                                                                          dw ak M At S N h B K W m T 0 (·=G (aV 38 t lO (l++[5,6,7]) k Q X) L)->
                                                                                                                                                          ∃nn E t2 w2 W2,Ph Hid n lim [] E t2 w0 W0 w2 W2/\eV LL ⟨aV 38 t' mh (l++[5,6,7]) P Q X,V,w⟩ ⟨aV 38 E mh [5,6,7] P Q X,V,w2⟩ nn/\Good LL R ⟨aV 38 E mh [5,6,7] P Q X,V,w2⟩/\dw ak M At S N h B K W2 m T 0 (·=G (aV 38 t2 lO [5,6,7] k Q X) L)/\(∀i,i<74->i≠32->i≠33->i≠34->i≠35->i≠36->E.getD i aC=t'.getD i aC/\t2.getD i aC=t.getD i aC)/\E.toList.drop 74=t'.toList.drop 74/\t2.toList.drop 74=t.toList.drop 74:=by
 intro l;induction l with
 |nil=>intro t' t w W _ p hg H;exact⟨0,t',t,w,W,p,.refl,hg,H,λi _ _ _ _ _ _=>⟨F,F⟩,F,F⟩
 |cons i l ih=>
  intro t' t w W a8 p hg H;simp only[JK,ig,decide_eq_true_eq,Fu,Bool.and_eq_false_iff,beq_eq_false_iff_ne]at a8;obtain⟨⟨⟨hi,jo⟩,nc⟩,a8⟩:=a8;have nc:i∉l:=by simpa using nc
  have hs:=p.size;have cv:=p.NM;have hz:w.heap.size=W.heap.size:=p.rel.size
  have DK:∀(d:Nat)(v:ag)(w1 W1:au)(n1:Nat),32<=d->d<=36->Ph Hid n lim l (t'.setIfInBounds d v) (t.setIfInBounds d v) w0 W0 w1 W1->
    eV LL ⟨aV 38 t' mh (i::(l++[5,6,7])) P Q X,V,w⟩ ⟨aV 38 (t'.setIfInBounds d v) mh (l++[5,6,7]) P Q X,V,w1⟩ n1->Good LL R ⟨aV 38 (t'.setIfInBounds d v) mh (l++[5,6,7]) P Q X,V,w1⟩->
    dw ak M At S N h B K W1 m T 0 (·=G (aV 38 (t.setIfInBounds d v) lO (l++[5,6,7]) k Q X) L)->
    ∃nn E t2 w2 W2,Ph Hid n lim [] E t2 w0 W0 w2 W2/\eV LL ⟨aV 38 t' mh (i::l++[5,6,7]) P Q X,V,w⟩ ⟨aV 38 E mh [5,6,7] P Q X,V,w2⟩ nn/\Good LL R ⟨aV 38 E mh [5,6,7] P Q X,V,w2⟩/\dw ak M At S N h B K W2 m T 0 (·=G (aV 38 t2 lO [5,6,7] k Q X) L)/\(∀i,i<74->i≠32->i≠33->i≠34->i≠35->i≠36->E.getD i aC=t'.getD i aC/\t2.getD i aC=t.getD i aC)/\E.toList.drop 74=t'.toList.drop 74/\t2.toList.drop 74=t.toList.drop 74:=λd v w1 W1 n1 tj uS p1 x A D=>by
   obtain⟨nn,E,t2,w2,W2,q1,q2,q3,q4,q5,q6,q7⟩:=ih _ _ _ _ a8 p1 A D;refine⟨n1+nn,E,t2,w2,W2,q1,x.trans q2,q3,q4,λj hj h1 u h3 h4 h5=>?_,?_,?_⟩
   ·obtain⟨a,b⟩:=q5 j hj h1 u h3 h4 h5
    rw[a,b,vr ai,vr ai,if_neg ai,if_neg ai];exact⟨F,F⟩
   ·rw[q6,Array.toList_setIfInBounds,List.drop_set_of_lt ai]
   ·rw[q7,Array.toList_setIfInBounds,List.drop_set_of_lt ai]
  have skip:∀{j d:Nat}{v:ag},j≠d->d<74->(t.setIfInBounds d v).getD j aC=t.getD j aC:=λ{j d v}hj hd=>by rw[vr ai,if_neg hj]
  have Ff:∀{j d:Nat}{v:ag},j≠d->d<74->(t'.setIfInBounds d v).getD j aC=t'.getD j aC:=λ{j d v}hj hd=>by rw[vr ai,if_neg hj]
  have IW:∀{d:Nat}{v:ag},d<74->(t.setIfInBounds d v).getD d aC=v:=λ{d v}hd=>by rw[vr ai,if_pos F]
  have Xu:∀{d:Nat}{v:ag},d<74->(t'.setIfInBounds d v).getD d aC=v:=λ{d v}hd=>by rw[vr ai,if_pos F]
  have f:∀{j:Nat},j∉l->j≠i->j∉i::l:=λh1 u h=>(bQ.1 h).elim u h1;have wu:∀{j:Nat},j≠i->(if j∈i::l then 1 else 0)=(if j∈l then(1:Nat)else 0):=λ{j}hj=>by
   by_cases e:j∈l
   ·rw[if_pos e,if_pos (eK _ e)]
   ·rw[if_neg e,if_neg (f e hj)]
  have Rb:(if i∈i::l then 1 else 0)=1+(if i∈l then(1:Nat)else 0):=by
   rw[if_pos (fu ..),if_neg nc]
  have AY:=p.room;have Ue:∀(C:Obj)(b:Nat),b<W0.heap.size->(bM w C).heap[b]?=w0.heap[b]?:=λC b J=>by rw[l7 _ _ (by have:=p.le;omega)];exact(p.old b J).1
  have OG:∀(C:Obj)(b:Nat),b<W0.heap.size->(bM W C).heap[b]?=W0.heap[b]?:=λC b J=>by rw[l7 _ _ (by have:=p.le;omega)];exact(p.old b J).2
  have Gn:∀i y c,N i=Z y->y.s.has c->c<W.heap.size:=λi y c hi hc=>ayS (bY i y c hi hc) p.le;have OW:∀{C:Obj},qd C=Y->∀(z:Nat)q g cl s r tm,(bM w C).heap[z]?=Z (.chan q g cl s r tm)->w.heap[z]?=Z (.chan q g cl s r tm):=λ{C}ho z q g cl s r tm u=>by
   rw[lJ]at u;split at u
   ·cases u;cases ho
   ·exact u
  have YE:∀{C:Obj}{d:Nat}{v:ag},qd C=Y->d≠36->d<74->i≠4->4∉l->∃b,(t'.setIfInBounds d v).getD 36 aC=ay b/\(t.setIfInBounds d v).getD 36 aC=ay b/\W0.heap.size<=b/\(bM w C).heap[b]?=Z (.chan 2 #[] Y 0 0 Y)/\(bM W C).heap[b]?=Z (.chan 0 #[] Y 0 0 Y)/\∀z:Nat,W0.heap.size<=z->∀q g cl s r tm,(bM w C).heap[z]?=Z (.chan q g cl s r tm)->z=b:=λ{C d v}ho hd uS β h4=>by
   obtain⟨b,a1,a2,a3,a4,a5,a6⟩:=p.GQ (f h4 (λe=>β e.symm));refine⟨b,by rw[Ff (λe=>hd e.symm) uS];exact a1,by rw[skip (λe=>hd e.symm) uS];exact a2,a3,?_,?_,λz kr q g cl s r tm u=>a6 z kr _ _ _ _ _ _ (OW ho _ _ _ _ _ _ _ u)⟩
   ·rw[l7 _ _ (cZ a4)];exact a4
   ·rw[l7 _ _ (cZ a5)];exact a5
  have:i=0\/i=1\/i=2\/i=3\/i=4:=by omega
  rcases this with rfl|rfl|rfl|rfl|rfl
  ·have hv:t'.getD 0 aC=ah n:=by rw[p.get' ai ai ai];exact p.m0
   obtain⟨x,A⟩:=aao aU aD ahH LI.1 LI.2 (VG _ _ _ _) hg;have D:=Uz aU ahM LI.1 LI.2 (VG _ _ _ _) H;rw[hv]at x A;rw[p.m0]at D;refine DK 32 _ _ _ 1 ai ai (p.slot ai ai (λ_=>IW ai) (λh=>?_) (λh=>?_) (λh=>?_) (λh=>?_) (λh=>p.EU (eK _ h)) p.rel p.old p.le ?_) x A D
   ·rw[skip ai ai];exact p.EL (f h ai)
   ·rw[skip ai ai];exact p.EM (f h ai)
   ·rw[skip ai ai,Ff ai ai];exact p.EN (f h ai)
   ·rw[skip ai ai,Ff ai ai];exact p.GQ (f h ai)
   ·rw[wu ai,wu ai,wu ai]at AY;exact AY
  ·have Wy:0∉1::l:=f (by rcases jo with h|h;exact absurd rfl h;simpa using h) ai
   have Jf:t'.getD 32 aC=ah n:=by rw[p.get' ai ai ai];exact p.m32 Wy
   obtain⟨k1,_,cc,tt,k3⟩:=Y5 W.heap.size h0 h9;obtain⟨_,k2,_⟩:=Y5 w.heap.size h0 h9;obtain⟨x,A⟩:=SS aU aD ahI LJ.1 LJ.2 (by rw[VH,Jf];exact k2) hg;have D:=On aU ahN LJ.1 LJ.2 (by rw[VH,p.m32 Wy];exact k1) hk Gn H;rw[hz]at x A;have qL:qd (M8 n)=Y:=by rw[k3];rfl
   refine DK 33 _ _ _ 1 ai ai (p.slot ai ai (λh=>?_) (λh=>⟨_,IW ai⟩) (λh=>?_) (λh=>?_) (YE qL ai ai ai) (λh z kr q g cl s r tm u=>p.EU (eK _ h) z kr _ _ _ _ _ _ (OW qL _ _ _ _ _ _ _ u)) (p.rel.push (by rw[k3];trivial)).1 (λb J=>⟨Ue _ b J,OG _ b J⟩) (by rw[size_push];have:=p.le;omega) ?_) x A D
   ·rw[skip ai ai];exact p.m32 (f h ai)
   ·rw[skip ai ai];exact p.EM (f h ai)
   ·rw[skip ai ai,Ff ai ai];exact p.EN (f h ai)
   ·rw[Rb,wu ai,wu ai]at AY
    rw[size_push];omega
  ·obtain⟨x,A⟩:=SS aU aD ahJ LK.1 LK.2 (afP _ _ _ _) hg
   have D:=On aU ahO LK.1 LK.2 (afR _ _ _ _) hk Gn H;rw[hz]at x A;refine DK 34 _ _ _ 1 ai ai (p.slot ai ai (λh=>?_) (λh=>?_) (λh=>⟨_,IW ai⟩) (λh=>?_) (YE rfl ai ai ai) (λh z kr q g cl s r tm u=>p.EU (eK _ h) z kr _ _ _ _ _ _ (OW rfl _ _ _ _ _ _ _ u)) (p.rel.push (o:=.map #[] 0) trivial).1 (λb J=>⟨Ue _ b J,OG _ b J⟩) (by rw[size_push];have:=p.le;omega) ?_) x A D
   ·rw[skip ai ai];exact p.m32 (f h ai)
   ·rw[skip ai ai];exact p.EL (f h ai)
   ·rw[skip ai ai,Ff ai ai];exact p.EN (f h ai)
   ·rw[Rb,wu ai,wu ai]at AY
    rw[size_push];omega
  ·have hv:t'.getD 2 aC=ah lim:=by rw[p.get' ai ai ai];exact p.m2
   obtain⟨x,A⟩:=aao aU aD ahK LM.1 LM.2 (VI _ _ _ _) hg;have D:=Uz aU ahP LM.1 LM.2 (VI _ _ _ _) H;rw[hv]at x A;rw[p.m2]at D;refine DK 35 _ _ _ 1 ai ai (p.slot ai ai (λh=>?_) (λh=>?_) (λh=>?_) (λh=>⟨Xu ai,IW ai⟩) (λh=>?_) (λh=>p.EU (eK _ h)) p.rel p.old p.le ?_) x A D
   ·rw[skip ai ai];exact p.m32 (f h ai)
   ·rw[skip ai ai];exact p.EL (f h ai)
   ·rw[skip ai ai];exact p.EM (f h ai)
   ·rw[skip ai ai,Ff ai ai];exact p.GQ (f h ai)
   ·rw[wu ai,wu ai,wu ai]at AY;exact AY
  ·obtain⟨x,A⟩:=SS aU aD ahL Wp.1 Wp.2 (afQ _ _ _ _) hg
   have D:=On aU ahQ Wq.1 Wq.2 (afS _ _ _ _) hk Gn H;rw[hz]at x A;refine DK 36 _ _ _ 1 ai ai (p.slot ai ai (λh=>?_) (λh=>?_) (λh=>?_) (λh=>?_) (λh=>⟨_,Xu ai,IW ai,p.le,?_,?_,λz kr q g cl s r tm u=>?_⟩) (λh=>absurd h nc) (p.rel.Ha (mn:=Hid) (O:=.chan 0 #[] Y 0 0 Y) trivial (λ_ h=>h) λ_ h=>.inl h) (λb J=>⟨Ue _ b J,OG _ b J⟩) (by rw[size_push];have:=p.le;omega) ?_) x A D
   ·rw[skip ai ai];exact p.m32 (f h ai)
   ·rw[skip ai ai];exact p.EL (f h ai)
   ·rw[skip ai ai];exact p.EM (f h ai)
   ·rw[skip ai ai,Ff ai ai];exact p.EN (f h ai)
   ·rw[lJ,hz,if_pos rfl]
   ·rw[lJ,if_pos rfl]
   ·rw[lJ,hz]at u
    by_cases e:z=W.heap.size
    ·exact e
    ·rw[if_neg e]at u
     exact absurd u (p.EU (fu ..) z kr _ _ _ _ _ _)
   ·rw[Rb,wu ai,wu ai]at AY
    rw[size_push];omega
end
abbrev n4(T n V:Nat)(X:Int)(D:Nat):ae (Nat×ag):=[(33,Fa T n),(34,.map (Z V)),(35,ah X),(36,ay D)]
def xy(T n V:Nat)(X:Int):af ag:=#[.int .i32 0,.int .u32 0,Fa T n,.slice I 0 0,.map (Z V),ah 0,ah X,.slice I 0 0,.slice I 0 0,.pointer I]
def sZ(T n V:Nat)(X:Int)(D:Nat):af ag:=#[.int .i32 0,.int .u32 0,Fa T n,.slice I 0 0,.map (Z V),ah 0,ah X,.slice I 0 0,.slice I 0 0,.pointer I,ay D,.int .u64 0,.int .u32 0,.bool Y]
abbrev n6(T n V:Nat)(X:Int)(D S:Nat)(x:ag):ae (Nat×ag):=(37,x)::(38,ptr S 0)::n4 T n V X D
abbrev n8(T n V:Nat)(X:Int)(D S:Nat)(x:ag):ae (Nat×ag):=(8,ptr S 0)::n6 T n V X D S x
abbrev lP(g:Nat->ag)(m:ae (Nat×ag))(l:ae ag):af ag:=bO 74 (ov g m) l
section
variable (g:Nat->ag)(l:ae ag)(T n V D S N:Nat)(X:Int)(x:ag)(k:ae aK)(ds:ae bV)(kind:dD)(cs:ae az)(t:af ag)
theorem anM(a:kind=.normal\/kind=.deferred):oe LL N (G (aV 38 (lP g (n4 T n V X D) l) mh [5,6,7] k ds kind) cs)=Z (G (aV 38 (lP g (n6 T n V X D N (.agg (xy T n V X))) l) mh [7] k ds kind) cs,.cells (xy T n V X) 109):=by
 rcases a with rfl|rfl<;>kernel_rfl
theorem an3(a:kind=.normal\/kind=.deferred):oe ak N (G (aV 38 (lP g (n4 T n V X D) l) lO [5,6,7] k ds kind) cs)=Z (G (aV 38 (lP g (n6 T n V X D N (.agg (sZ T n V X D))) l) lO [7] k ds kind) cs,.cells (sZ T n V X D) 109):=by
 rcases a with rfl|rfl<;>kernel_rfl
theorem an4(a:kind=.normal\/kind=.deferred):aN ak 2 (G (aV 38 (lP g (n6 T n V X D N x) l) lO [7] k ds kind) cs)=G ⟨38,lP g (n8 T n V X D N x) l,k,ds,.run,kind,I⟩ cs:=by
 rcases a with rfl|rfl<;>kernel_rfl
theorem anR(a:kind=.normal\/kind=.deferred):aN LL 4 (G (aV 38 (lP g (n6 T n V X D S x) l) mh [7] (.code (reg sj)::k) ds kind) cs)=G (aV 38 (lP g (n8 T n V X D S (cV ⟨S,D,0,Y⟩)) l) sj [1,2,3,4,5,6,7] k ds kind) cs:=by
 rcases a with rfl|rfl<;>kernel_rfl
theorem anX:fQ LL (cu (bJ ⟨38,lP g (n8 T n V X D S x) l,[],ds,.run,kind,I⟩) (dR (.send (tm 36) (tm 37))))=Z (.comm #[{chan:=ay D,send:=Z x,zero:=.tuple #[]}] U .send):=av
theorem anW:fQ LL (cu (bJ ⟨38,t,[],ds,.run,kind,I⟩) (aO 37 (.recv 100 (kc rO) Y)))=Z (.comm #[{chan:=rO,send:=I,zero:=.agg #[]}] U (.recv Y)):=av
theorem Za(v:ag):(lP g (n8 T n V X D S x) l).setIfInBounds 37 v=lP g (n8 T n V X D S v) l:=av
theorem anU:fQ LL (cu (bJ ⟨38,lP g (n8 T n V X D S x) l,[],ds,.run,kind,I⟩) (dR (.send (kc rO) (tm 36))))=Z (.comm #[{chan:=rO,send:=Z (ay D),zero:=.tuple #[]}] U .send):=av
theorem anS:fQ LL (cu (bJ ⟨38,t,[],ds,.run,kind,I⟩) (aO 37 (.recv 100 (kc gL) Y)))=Z (.comm #[{chan:=gL,send:=I,zero:=.agg #[]}] U (.recv Y)):=av
theorem anZ(a:kind=.normal\/kind=.deferred):aN LL 1 (G (aV 38 (lP g (n8 T n V X D S x) l) sj [5,6,7] k ds kind) cs)=G (aV 38 (lP g (n8 T n V X D S (yA x)) l) sj [6,7] k ds kind) cs:=by
 rcases a with rfl|rfl<;>kernel_rfl
theorem anT:fQ LL (cu (bJ ⟨38,lP g (n8 T n V X D S x) l,[],ds,.run,kind,I⟩) (dR (.send (kc gL) (tm 37))))=Z (.comm #[{chan:=gL,send:=Z x,zero:=.tuple #[]}] U .send):=av
theorem anQ(a:kind=.normal\/kind=.deferred):aN LL 2 (G (aV 38 (lP g (n8 T n V X D S x) l) sj [7] k ds kind) cs)=G ⟨38,lP g (n8 T n V X D S (.agg (sZ T n V X D))) l,k,ds,.run,kind,I⟩ cs:=by
 rcases a with rfl|rfl<;>kernel_rfl
theorem anV(a:kind=.normal\/kind=.deferred):aN LL 2 (G ⟨38,t,.code E7::k,ds,.run,kind,I⟩ cs)=G (aV 38 t He [0,1,2] (.code (.seq (.cond (tm 36) .skip (.refuse "")) JS)::k) ds kind) cs:=by
 rcases a with rfl|rfl<;>kernel_rfl
theorem anN(a:kind=.normal\/kind=.deferred)(q:bl):aN LL 2 (G (aV 38 t He [] (.code (.seq q JS)::k) ds kind) cs)=G ⟨38,t,.code q::.code JS::k,ds,.run,kind,I⟩ cs:=by
 rcases a with rfl|rfl<;>kernel_rfl
theorem anO(a:kind=.normal\/kind=.deferred):aN LL 1 (G ⟨38,t,.code JS::k,ds,.run,kind,I⟩ cs)=G ⟨38,t,.code (.cond (tm 37) .skip (.refuse ""))::.code SF::k,ds,.run,kind,I⟩ cs:=by
 rcases a with rfl|rfl<;>kernel_rfl
theorem anP(a:kind=.normal\/kind=.deferred):aN LL 1 (G ⟨38,t,.code SF::k,ds,.run,kind,I⟩ cs)=G ⟨38,t,.code (.region 3 mh U)::.code (reg sj)::k,ds,.run,kind,I⟩ cs:=by
 rcases a with rfl|rfl<;>kernel_rfl
theorem aqG:CP=.region 3 lO U:=av
end
theorem amT{t:af ag}{k:ae aK}{ds:ae bV}{kind:dD}{cs:ae az}{w:au}(a:Nat->Question->Nat):kj LL ⟨⟨38,t,.code (.region 3 mh U)::k,ds,.run,kind,I⟩,cs,w⟩ ⟨aV 38 t mh (sL U lO ((Question.order 38 3).cut (a 0 (.order 38 3)))) k ds kind,cs,w⟩ 1 1 a:=λτ d b=>by
 have h:=F8 (P:=LL) (main:=U) Wb (fn:=38) (tmps:=t) (k:=k) (defers:=ds) (kind:=kind) (cs:=cs) (id:=3) (ops:=mh) (re w τ d);have e:(re w τ d).tape (re w τ d).drawn (.order 38 3)=a 0 (.order 38 3):=b 0 ai _;rw[e,asm]at h;simp only[il.on,di];rw[eY (t:=aV 38 t mh (sL U lO ((Question.order 38 3).cut (a 0 (.order 38 3)))) k ds kind) (c:=cs) h];rfl
theorem ao2(g:Nat->ag):∀(m:ae (Nat×ag)),(∀p∈m,g p.1=p.2)->ov g m=g:=λm h=>by
 funext i;unfold ov;cases e:m.lookup i with
 |none=>rfl
 |some v=>
  have:(i,v)∈m:=by
   clear h;induction m with
   |nil=>cases e
   |cons p m c=>
    obtain⟨a,b⟩:=p;rw[List.lookup_cons]at e;by_cases h:(i==a)=U
    ·rw[h]at e
     cases e;rw[eq_of_beq h];exact fu ..
    ·have:(i==a)=Y:=by simpa using h
     rw[this]at e;exact eK _ (c e)
  exact(h _ this).symm
theorem aax(t:af ag)(h:74<=t.size)(m:ae (Nat×ag))(a:∀p∈m,t.getD p.1 aC=p.2):t=lP (λi=>t.getD i aC) m (t.toList.drop 74):=by
 unfold lP;rw[ao2 _ m a];exact Tf t 74 h
theorem ati(n:Nat){f g:Nat->ag}(h:∀i,f i=g i)(l:ae ag):bO n f l=bO n g l:=by
 rw[show f=g from funext h]
theorem arZ{g' g:Nat->ag}(T n V:Nat)(X:Int)(D S:Nat)(x:ag)(h:∀i,i≠35->i≠36->i≠37->g' i=g i)(l:ae ag):lP g' (n8 T n V X D S x) l=lP g (n8 T n V X D S x) l:=by
 refine ati 74 (λi=>?_) l;by_cases a:i=35
 ·subst a;rfl
 ·by_cases b:i=36
  ·subst b;rfl
  ·by_cases c:i=37
   ·subst c;rfl
   ·unfold ov
    rw[h i a b c]
section
variable {fx:Obj->Prop}{R:Loc->Prop}{w W:au}
theorem Rel.apz(h:Rel fx R w W){c d:af ag}{t:aJ}(z:0<c.size)(y:∀i,i<c.size->c[i]?=d[i]?)(aE:c.size<d.size):Rel fx (λl=>R l\/∃i,c.size<=i/\i<d.size/\l=.cell (be w.heap.size i)) (bM w (.cells c t)) (bM W (.cells d t)):=by
 refine⟨by rw[size_push,size_push,h.size],h.tape,h.drawn,h.os,h.output,λb o f=>?_,λa p=>?_,λr q=>?_⟩
 ·rw[lJ]at f
  rw[lJ,<-h.size];by_cases e:b=w.heap.size
  ·rw[if_pos e]at f⊢
   cases f;exact⟨_,F,.cut _ _ _ z y aE⟩
  ·rw[if_neg e]at f⊢
   obtain⟨O,m,u⟩:=h.obj b o f;exact⟨O,m,u.bU λA=>A.resolve_right λ⟨_,_,_,e⟩=>by cases e⟩
 ·rcases p with p|⟨i,m,u,e⟩
  ·obtain⟨s,j⟩:=h.mT a p
   refine⟨by rw[size_push];omega,?_⟩;unfold fR at j⊢;rw[l7 _ _ s];exact j
  ·cases e
   refine⟨by rw[size_push];exact Nat.lt_succ_self _,?_⟩;unfold fR;rw[lJ,if_pos rfl];simp[m]
 ·rcases q with q|⟨_,_,_,e⟩
  ·obtain⟨s,j⟩:=h.pd r q
   exact⟨by rw[size_push];omega,λo v=>j o (by rw[l7 _ _ s]at v;exact v)⟩
  ·cases e
end
def Eg(X:Loc->Prop)(S:Nat)(l:Loc):Prop:=X l\/∃i,10<=i/\i<14/\l=.cell (be S i)
def S6(V:Loc->Prop)(S:Nat)(l:Loc):Prop:=V l\/l=.cell (be S 11)\/l=.cell (be S 12)
structure HQ(N0 S D bs n bm:Nat)(lim:Int)(w0 W0 w W:au):Prop where
 hS:N0<=S
 hD:N0<=D
 ne:D≠S
 grow:w0.heap.size<=w.heap.size
 M':∀b,b<N0->b≠dx->b≠bq->w.heap[b]?=w0.heap[b]?
 Sq:∀b,b<N0->W.heap[b]?=W0.heap[b]?
 hand:∃a b,w.heap[dx]?=Z (.chan 6 #[ay D] Y a b Y)
 tok:∃a b,w.heap[D]?=Z (.chan 2 #[cV ⟨S,D,0,Y⟩] Y a b Y)
 awQ:W.heap[D]?=Z (.chan 0 #[] Y 0 0 Y)
 ae7:w.heap[S]?=Z (.cells (xy bs n bm lim) 109)
 Ic:W.heap[S]?=Z (.cells (sZ bs n bm lim D) 109)
 new:∀b:Nat,N0<=b->∀cap buf cl s r tm,w.heap[b]?=Z (.chan cap buf cl s r tm)->b=D
section
variable {X:Loc->Prop}{Q:Bool}{R:ae dp}{T:ae cz}{w0 W0 w W:au}{S D bs n bm:Nat}{lim:Int}
theorem fL.EK(L:fL X Q R T w0 W0)(a:Rel (bN ak) X w0 W0){s:cz}(b:s∈T):s.S<W0.heap.size/\s.D<W0.heap.size:=by
 have l:=L.s s b;obtain⟨_,_,h⟩:=l.lone;have:=cZ h;have:=a.size;exact⟨vt l.sh.2,by omega⟩
theorem HQ.dead(E:HQ W0.heap.size S D bs n bm lim w0 W0 w W)(L:fL X Q R T w0 W0)(f:Rel (bN ak) X w0 W0):mN w0 W0 w W:=by
 have k:=f.size;obtain⟨g,i,a⟩:=L.gate;obtain⟨v,j,d,c,_⟩:=L.hand;refine⟨λb u h=>?_,λb o=>E.Sq b ?_,E.grow,λb d=>by unfold fD;rw[E.Sq b ai]⟩
 ·rw[E.M' b (by have:=cZ h;omega) (λe=>by rw[e,c]at h;cases h) (λe=>by rw[e,a]at h;cases h)];exact h
 ·rcases o with⟨u,h⟩|rfl|rfl
  ·have:=cZ h;omega
  ·have:=cZ a;omega
  ·have:=cZ c;omega
theorem fL.Sa(L:fL X U R T w0 W0)(A:Rel (bN ak) X w0 W0)(E:HQ W0.heap.size S D bs n bm lim w0 W0 w W)(qK:∃a b,w.heap[bq]?=Z (.chan 5 #[yA (bK T)] Y a b Y)):fL (Eg X S) U R (⟨S,D,0,Y⟩::T) w W:=by
 have hz:=A.size;obtain⟨hv,xR,xS,m9,_⟩:=L.hand;obtain⟨_,_,IV⟩:=L.gate;have hS:=E.hS;have hD:=E.hD;have G:∀{b g s r:Nat}{q:af ag}{K tm:Bool},g≠6->g≠5->w0.heap[b]?=Z (.chan g q K s r tm)->w.heap[b]?=Z (.chan g q K s r tm):=λ{b g s r q K tm}h6 h5 h=>by
  rw[E.M' b (by have:=cZ h;omega) (L.rv h m9 h6) (L.rv h IV h5)];exact h
 have C:∀{b:Nat}{o:Obj},W0.heap[b]?=Z o->W.heap[b]?=Z o:=λ{b o}h=>by rw[E.Sq b (cZ h)];exact h
 have K8:∀{b:Nat}{c t f},w0.heap[b]?=Z (.cells c t f)->w.heap[b]?=Z (.cells c t f):=λ{b c t f}h=>by
  rw[E.M' b (by have:=cZ h;omega) (λe=>by rw[e,m9]at h;cases h) (λe=>by rw[e,IV]at h;cases h)];exact h
 refine⟨λs d=>?_,λk z=>?_,λb g q K x y tm u=>?_,?_,?_,L.CC,L.CB,L.zE,λs d J m e=>?_,λs d J m e=>?_,λs d=>?_,L.nodup,?_⟩
 ·rcases bQ.1 d with rfl|d
  ·refine⟨E.tok,⟨0,E.awQ⟩,⟨?_,?_⟩,?_,?_,?_,?_,λi p H=>.inr ⟨i,p,H,rfl⟩,by show 0<=9;omega⟩
   ·show w.shape? S=Z (109,10)
    unfold fD;rw[E.ae7];rfl
   ·show W.shape? S=Z (109,14)
    unfold fD;rw[E.Ic];rfl
   ·show W.cell? (be S 10)=Z (ay D)
    unfold fR;rw[E.Ic];rfl
   ·show W.cell? (be S 11)=Z (jI 0)
    unfold fR;rw[E.Ic];rfl
   ·show W.cell? (be S 12)=Z (.int .u32 0)
    unfold fR;rw[E.Ic];rfl
   ·show W.cell? (be S 13)=Z (.bool Y)
    unfold fR;rw[E.Ic];rfl
  ·have l:=L.s s d
   obtain⟨a,b,hl⟩:=l.lone;obtain⟨k,z⟩:=l.real;have hc:∀{i v},W0.cell? (be s.S i)=Z v->W.cell? (be s.S i)=Z v:=λh=>uJ (λc t f=>C) h;exact⟨⟨a,b,G ai ai hl⟩,⟨k,C z⟩,⟨zT (λc t f=>K8) l.sh.1,zT (λc t f=>C) l.sh.2⟩,hc l.done,hc l.cnt,hc l.qi,hc l.stop,λi p H=>.inl (l.bU i p H),l.le⟩
 ·have l:=L.k k z
  obtain⟨s,d,e1,e2⟩:=l.pF;obtain⟨a1,b1,q1⟩:=l.work;obtain⟨a2,b2,q2⟩:=l.told;obtain⟨a3,b3,q3⟩:=l.wb;obtain⟨a4,b4,q4⟩:=l.sb;obtain⟨j,q5⟩:=l.yD;exact⟨⟨s,eK _ d,e1,e2⟩,⟨a1,b1,G ai ai q1⟩,⟨a2,b2,G ai ai q2⟩,⟨j,C q5⟩,⟨a3,b3,G ai ai q3⟩,C l.ra,⟨a4,b4,G ai ai q4⟩,C l.tC,.inl l.bU.1,.inl l.bU.2.1,.inl l.bU.2.2⟩
 ·by_cases p:b=dx
  ·subst p
   obtain⟨_,_,h⟩:=E.hand;rw[h]at u;cases u;exact⟨F,F,.hand F,λe=>by cases e⟩
  ·by_cases h5:b=bq
   ·subst h5
    obtain⟨_,_,h⟩:=qK;rw[h]at u;cases u;exact⟨F,F,.gate F,λe=>by cases e⟩
   by_cases H:b<W0.heap.size
   ·rw[E.M' b H p h5]at u
    obtain⟨q1,q2,q3,q4⟩:=L.chans _ _ _ _ _ _ _ u;refine⟨q1,q2,?_,q4⟩;cases q3 with
    |work k z e=>exact .work k z e
    |done s d e=>exact .done s (eK _ d) e
    |told k z e=>exact .told k z e
    |box=>exact .box
    |gate e=>exact .gate e
    |hand e=>exact .hand e
   ·have:=E.new b ai _ _ _ _ _ _ u
    subst this;obtain⟨_,_,h⟩:=E.tok;rw[h]at u;cases u;exact⟨F,F,.done ⟨S,b,0,Y⟩ (fu ..) F,λe=>by cases e⟩
 ·exact qK
 ·obtain⟨a,b,h⟩:=E.hand
  exact⟨ay D,a,b,h,.inr ⟨_,fu ..,F⟩⟩
 ·rcases bQ.1 d with rfl|d
  ·rcases bQ.1 m with rfl|m
   ·rfl
   ·have p:=(L.EK A m).2
    have e:D=J.D:=e;omega
  ·rcases bQ.1 m with rfl|m
   ·have p:=(L.EK A d).2
    have e:s.D=D:=e;omega
   ·exact L.x9 s d J m e
 ·rcases bQ.1 d with rfl|d
  ·rcases bQ.1 m with rfl|m
   ·rfl
   ·have p:=(L.EK A m).1
    have e:S=J.S:=e;omega
  ·rcases bQ.1 m with rfl|m
   ·have p:=(L.EK A d).1
    have e:s.S=S:=e;omega
   ·exact L.ua s d J m e
 ·rcases bQ.1 d with rfl|d
  ·show(R.filter λk=>k.S==S).length=0
   rw[BK,List.filter_eq_nil_iff];intro k z;obtain⟨s,d,e1,_⟩:=(L.k k z).pF;have:=(L.EK A d).1;simp only[beq_iff_eq];omega
  ·exact L.count s d
 ·rw[ft,rb]
  refine⟨λhm=>?_,L.Bm⟩;obtain⟨s,d,e⟩:=ox.1 hm;have:=(L.EK A d).1;have e:s.S=S:=e;omega
end
section
variable {X:Loc->Prop}{O At:Nat->Loc->Prop}{V:Loc->Prop}{P:Nat->aj YS}{R:ae dp}{T:ae cz}{N:aj uC}{B B1 n:Nat}{w0 W0 w W:au}{S D bs M bm:Nat}{lim:Int}
theorem Core.Sa(C:Core X O At V P R T I B n w0 W0)(E:HQ W0.heap.size S D bs M bm lim w0 W0 w W)(A:∃a b,w.heap[bq]?=Z (.chan 5 #[yA (bK T)] Y a b Y))(z:Rel (bN ak) (Eg X S) w W)(u:W.heap.size<=B1):Core (Eg X S) O At (S6 V S) P R (⟨S,D,0,Y⟩::T) I B1 n w W:=by
 have L:=C.fo;have q:=C.rel;have G:=q.size;have o:∀k∈R,k.S<W0.heap.size:=λk d=>by
  obtain⟨s,c,m,_⟩:=(L.k k d).pF;have:=(L.EK q c).1;omega
 have f:∀k∈R,∀s,s∈(⟨S,D,0,Y⟩:cz)::T->s.S=k.S->s∈T:=λk d s c e=>by
  rcases bQ.1 c with rfl|c
  ·have:=o k d
   have e:S=k.S:=e;have:=E.hS;omega
  ·exact c
 refine⟨z,L.Sa q E A,u,λg l h=>?_,λl=>?_,C.y8,λg l h=>.inl (C.Av g l h),C.cK,λk d s c m p=>C.yr k d s (f k d s c m) m p,λk d s c m p=>C.gone k d s (f k d s c m) m p,λi y v=>?_,C.g0,λj x=>?_⟩
 ·obtain⟨r,t⟩:=C.qW g l h
  exact⟨.inl r,t⟩
 ·constructor
  ·rintro(h|h)
   ·obtain⟨s,c,e⟩:=(C.mI l).1 h
    exact⟨s,eK _ c,e⟩
   ·exact⟨_,fu ..,h⟩
  ·rintro⟨s,c,e⟩
   rcases bQ.1 c with rfl|c
   ·exact .inr e
   ·exact .inl ((C.mI l).2 ⟨s,c,e⟩)
 ·rcases C.yq i y v with⟨k,d,s,c,h⟩|h
  ·exact .inl ⟨k,d,s,eK _ c,h⟩
  ·exact .inr h
 ·cases x
theorem Core.apA(C:Core X O At V P R T N B n w0 W0):(∀i y,P i=Z y->∀w o,y.K w->y.K (bM w o))/\∀i y c,P i=Z y->y.s.has c->c<W0.heap.size:=by
 refine⟨λi y d w o e=>?_,λi y c d m=>?_⟩
 ·rcases C.yq i y d with⟨k,q,s,_,_,_,_,f,rfl⟩|⟨j,p,rfl,f,rfl⟩
  ·exact wK.push e o
  ·exact eC.push e o
 ·obtain⟨l,g,a,b,h⟩:=C.aaz d m
  have:=cZ h;have:=C.rel.size;omega
end
theorem Ga{t:af ag}{e:ae bV}{a:dD}(d x:Tmp)(b:BinOp)(c:Int):cu (bJ ⟨f,t,[],e,.run,a,I⟩) (aO d (.binOp b 3 (tm x) (kc (.int .i64 c)) 3))=(do pure (.value (<-(do kX b 3 (tm x) (kc (.int .i64 c)) (t.getD x aC) (.int .i64 c);binOp b 3 (t.getD x aC) (.int .i64 c))))):=rfl
section
variable {R:ag->au->Prop}
theorem anm{s:dM}(i:Inv s)(hg:Good LL R s.bW)(st:ko s.E s.fr' s.cs' s.fr s.cs){t:af ag}{z:ae bV}{f:dD}(bH:74<=t.size)
  (e1:s.fr'=⟨38,t,[.code E7,.code d38],z,.run,f,I⟩)(e3:s.fr=⟨38,t,[.code CP,.code d38],z,.run,f,I⟩):
  ∃W k n b,Inv W/\Real s W/\0<k/\kj LL s.bW W.bW k n b:=by
 have b:=i.base;have C:=b.core;have L:=C.fo;have K:=ko.ne st;have eI:Below ak LL s.cs':=st.belows i.xD;obtain⟨tt,_,_,tV,_⟩:=st.fr;rw[e3]at tV;have M:f=.normal\/f=.deferred:=tV.kind.imp id λh=>h.1;have fN:∀d∈z,lV ak d:=tV.defers;have hh:∀τ e,iY ak (re s.w τ e):=λτ e=>C.rel.tk;have hz:=C.rel.size;generalize hk:([.code d38]:ae aK)=k at e1 e3;have pX:s.bW=⟨⟨38,t,.code E7::k,z,.run,f,I⟩,s.cs',s.w⟩:=by unfold dM.bW;rw[e1]
 rw[pX]at hg⊢;obtain⟨n1,L1,g1⟩:=hg.quiet 2 (anV k z f s.cs' t M) K;have q0:He[0]?=Z (aO 35 (.binOp .lss 3 (tm 2) (kc (.int .i64 1000001)) 3)):=rfl;have q1:He[1]?=Z (aO 36 (.binOp .lss 3 (tm 0) (kc (.int .i64 9)) 3)):=rfl;have q2:He[2]?=Z (aO 37 (.binOp .gtr 3 (tm 0) (kc (.int .i64 0)) 3)):=rfl;rcases OZ .lss (.inl F) (t.getD 2 aC) 1000001 (tm 2) (kc (.int .i64 1000001))with⟨m,μ,aQ⟩|de
 case inr=>exact(qI M eI fN hh q0 (Ga ..) (λτ e=>by obtain⟨y,h⟩:=de (re s.w τ e);exact⟨y,h⟩) g1).elim
 obtain⟨L2,g2⟩:=rF M K q0 (Ga ..) (λτ e=>aQ _) g1;generalize ayd:(if BinOp.lss=.lss then decide (m<1000001)else decide (1000001<m))=Uf at L2 g2;have iu:(t.setIfInBounds 35 (.bool Uf)).getD 0 aC=t.getD 0 aC:=by rw[vr ai,if_neg ai]
 rcases OZ .lss (.inl F) (t.getD 0 aC) 9 (tm 0) (kc (.int .i64 9))with⟨Q,Et,zx⟩|de
 case inr=>exact(qI M eI fN hh q1 (Ga ..) (λτ e=>by rw[iu];obtain⟨y,h⟩:=de (re s.w τ e);exact⟨y,h⟩) g2).elim
 obtain⟨L3,g3⟩:=rF M K q1 (Ga ..) (λτ e=>by rw[iu];exact zx _) g2;have IU:((t.setIfInBounds 35 (.bool Uf)).setIfInBounds 36 (.bool (if BinOp.lss=.lss then decide (Q<9)else decide (9<Q)))).getD 0 aC=t.getD 0 aC:=by rw[vr (by rw[pH];omega),if_neg ai,iu]
 rcases OZ .gtr (.inr F) (t.getD 0 aC) 0 (tm 0) (kc (.int .i64 0))with⟨v1,zB,ρ⟩|de
 case inr=>exact(qI M eI fN hh q2 (Ga ..) (λτ e=>by rw[IU];obtain⟨y,h⟩:=de (re s.w τ e);exact⟨y,h⟩) g3).elim
 obtain⟨L4,g4⟩:=rF M K q2 (Ga ..) (λτ e=>by rw[IU];exact ρ _) g3;rw[Et]at zB;cases zB;have Q0:(if BinOp.lss=.lss then decide (Q<9)else decide (9<Q))=decide (Q<9):=if_pos F;have ξ:(if BinOp.gtr=.lss then decide (Q<0)else decide (0<Q))=decide (0<Q):=if_neg aZ;rw[Q0]at L3 L4 g4;rw[ξ]at L4 g4;generalize A4:((t.setIfInBounds 35 (.bool Uf)).setIfInBounds 36 (.bool (decide (Q<9)))).setIfInBounds 37 (.bool (decide (0<Q)))=X at L4 g4;have PG:X.getD 36 aC=.bool (decide (Q<9)):=by rw[<-A4,vr (by rw[pH,pH];omega),if_neg ai,vr (by rw[pH];omega),if_pos F]
 have υ:X.getD 37 aC=.bool (decide (0<Q)):=by rw[<-A4,vr (by rw[pH,pH];omega),if_pos F]
 obtain⟨n5,L5,g5⟩:=g4.quiet 2 (anN k z f s.cs' X M _) K;obtain⟨aE,L6⟩:=DT (bb:=decide (Q<9)) g5 K PG;have g6:=g5.mF L6 K;obtain⟨n7,L7,g7⟩:=g6.quiet 1 (anO k z f s.cs' X M) K;obtain⟨wo,L8⟩:=DT (bb:=decide (0<Q)) g7 K υ;have g8:=g7.mF L8 K;obtain⟨n9,L9,g9⟩:=g8.quiet 1 (anP k z f s.cs' X M) K;have aE:=of_decide_eq_true aE;have wo:=of_decide_eq_true wo;obtain⟨n,rfl⟩:=Int.eq_ofNat_of_zero_le (Int.le_of_lt wo);have LD:=amT (t:=X) (k:=.code (reg sj)::k) (ds:=z) (kind:=f) (cs:=s.cs') (w:=s.w) λi q=>s.W.tape (s.W.drawn+i) q;have gD:=g9.vz LD K;obtain⟨l,ho,a8,j5⟩:=aoU ((Question.order 38 3).cut (s.W.tape (s.W.drawn+0) (.order 38 3)));rw[ho]at LD gD;have pV:s.B<=max s.B (s.W.heap.size+4):=Nat.le_max_left _ _;have rJ:s.W.heap.size+4<=max s.B (s.W.heap.size+4):=Nat.le_max_right _ _;obtain⟨m0,T0,hm,H⟩:=b.afN pV (g':=G (aV 38 t lO (l++[5,6,7]) k z f) s.cs) (dd:=s.W.drawn+1) (by
  have h:=F8 (P:=ak) (main:=s.h==0) av (fn:=38) (tmps:=t) (k:=k) (defers:=z) (kind:=f) (cs:=s.cs) (id:=3) (ops:=lO) s.W;rw[<-ho,Nat.add_zero,e3,aqG];exact h)
 generalize max s.B (s.W.heap.size+4)=B1 at pV rJ H;obtain⟨eX,bY⟩:=C.apA;have π:X.size=t.size:=by rw[<-A4,pH,pH,pH]
 have Xd:∀i,i≠35->i≠36->i≠37->X[i]?=t[i]?:=λi h1 h2 h3=>by
  rw[<-A4,ie (λe=>h3 e.symm),ie (λe=>h2 e.symm),ie (λe=>h1 e.symm)]
 have nZ:∀{i},i<5->i∉l->False:=λh1 h2=>h2 (j5 _ h1);have hp:Ph s.Hid n m l X t s.w s.W s.w s.W:=by
  refine⟨bH,π,Xd,Et,μ,λh=>(nZ ai h).elim,λh=>(nZ ai h).elim,λh=>(nZ ai h).elim,λh=>(nZ ai h).elim,λh=>(nZ ai h).elim,λ_ b2 kr E B V W r tm h=>?_,C.rel,λ_ _=>⟨F,F⟩,df _,?_⟩
  ·have:=cZ h;omega
  ·rw[if_pos (j5 1 ai),if_pos (j5 2 ai),if_pos (j5 4 ai)]
 obtain⟨nn,nj,t2,v,S,p,Lp,gp,Hp,rS,tj,uS⟩:=apa M K ai ai eX bY l X t s.w s.W a8 hp gD H;obtain⟨u,WB⟩:=p.EL aZ;obtain⟨o,WC⟩:=p.EM aZ;obtain⟨η,σ⟩:=p.EN aZ;obtain⟨D,θ,PG,ζ,xF,Gk,φ⟩:=p.GQ aZ;have AY:S.heap.size=s.W.heap.size+3:=by have:=p.room;simpa using this
 have zD:v.heap.size=S.heap.size:=p.rel.size;have Lu:nj=lP (λi=>nj.getD i aC) (n4 u n o m D) (nj.toList.drop 74):=aax nj (by rw[p.NM];exact p.size) _ (by
  intro q hq;simp only[bQ,gk,or_false]at hq;rcases hq with rfl|rfl|rfl|rfl
  ·show nj.getD 33 aC=_
   rw[p.get' ai ai ai];exact WB
  ·show nj.getD 34 aC=_
   rw[p.get' ai ai ai];exact WC
  ·exact η
  ·exact θ)
 have et:t2=lP (λi=>t2.getD i aC) (n4 u n o m D) (t2.toList.drop 74):=aax t2 p.size _ (by
  intro q hq;simp only[bQ,gk,or_false]at hq;rcases hq with rfl|rfl|rfl|rfl
  ·exact WB
  ·exact WC
  ·exact σ
  ·exact PG)
 have Qn:∀i,i≠35->i≠36->i≠37->(λi=>nj.getD i aC) i=(λi=>t2.getD i aC) i:=λi h1 h2 h3=>p.get' h1 h2 h3;have tp:nj.toList.drop 74=t2.toList.drop 74:=by
  rw[tj,uS];apply List.ext_getElem?;intro j;rw[Fx,Fx,w7,w7,Xd _ ai ai ai]
 generalize nG:(λi=>nj.getD i aC)=T at Lu Qn;generalize zq:(λi=>t2.getD i aC)=gr at et Qn;rw[tp]at Lu;generalize t2.toList.drop 74=O at Lu et;rw[Lu]at Lp gp;rw[et]at Hp;have AU:=anM T O u n o D v.heap.size m (.code (reg sj)::k) z f s.cs' M;obtain⟨n10,nT,nX⟩:=DU gp AU K;obtain⟨n11,yS,AB⟩:=nX.quiet 4 (anR T O u n o D v.heap.size m (.agg (xy u n o m)) k z f s.cs' M) K;have f1:sj[1]?=Z (dR (.send (tm 36) (tm 37))):=rfl;have f2:sj[2]?=Z (aO 37 (.recv 100 (kc rO) Y)):=rfl;have f3:sj[3]?=Z (dR (.send (kc rO) (tm 36))):=rfl;obtain⟨c,E,B,V,a,b',gi,x1,A,x3⟩:=vm M K f1 (anX T O u n o D v.heap.size m (cV ⟨v.heap.size,D,0,Y⟩) z f) AB;cases x1;have A:(bM v (.cells (xy u n o m) 109)).heap[D]?=Z (.chan E B V a b' gi):=A;have PL:(bM v (.cells (xy u n o m) 109)).heap[D]?=Z (.chan 2 #[] Y 0 0 Y):=by rw[l7 _ _ (cZ xF)];exact xF
 rw[PL]at A;cases A;obtain⟨_,FJ,DO⟩:=x3 F;have WG:=cZ PL;generalize GK:(bM v (.cells (xy u n o m) 109))=w3 at*;obtain⟨hv,xR,xS,m9,_⟩:=L.hand;have ψ:=cZ m9;have W5:dx≠D:=by omega
 have Mm:(w3.setChan D 2 ((#[]:af ag).push (cV ⟨v.heap.size,D,0,Y⟩)) Y (0+1) 0 Y).heap[dx]?=Z (.chan 6 #[hv] Y xR xS Y):=by
  rw[heap_setChan _ WG,if_neg W5,<-GK,l7 _ _ ai,(p.old dx ai).1];exact m9
 obtain⟨c,E,B,V,a,b',gi,x1,A,x3⟩:=zP M K f2 (anW z f _) DO;cases x1;have A:(w3.setChan D 2 ((#[]:af ag).push (cV ⟨v.heap.size,D,0,Y⟩)) Y (0+1) 0 Y).heap[dx]?=Z (.chan E B V a b' gi):=A;rw[Mm]at A;cases A;obtain⟨_,Dq,DR⟩:=x3 F;rw[Za]at Dq DR;generalize Q5:(w3.setChan D 2 ((#[]:af ag).push (cV ⟨v.heap.size,D,0,Y⟩)) Y (0+1) 0 Y)=w4 at*;have wq:(w4.setChan dx 6 ((#[hv]:af ag).extract 1 (#[hv]:af ag).size) Y xR (xS+1) Y).heap[dx]?=Z (.chan 6 #[] Y xR (xS+1) Y):=oE _ Mm _ _ _ _ _ _;obtain⟨c,E,B,V,a,b',gi,x1,A,x3⟩:=vm M K f3 (anU T O u n o D v.heap.size m _ z f) DR;cases x1;have A:(w4.setChan dx 6 ((#[hv]:af ag).extract 1 (#[hv]:af ag).size) Y xR (xS+1) Y).heap[dx]?=Z (.chan E B V a b' gi):=A;rw[wq]at A;cases A;obtain⟨_,FK,Gf⟩:=x3 F;generalize Jh:((w4.setChan dx 6 ((#[hv]:af ag).extract 1 (#[hv]:af ag).size) Y xR (xS+1) Y).setChan dx 6 ((#[]:af ag).push (ay D)) Y (xR+1) (xS+1) Y)=w5 at*;have f4:sj[4]?=Z (aO 37 (.recv 100 (kc gL) Y)):=rfl;have f6:sj[6]?=Z (dR (.send (kc gL) (tm 37))):=rfl;obtain⟨zg,zh,J⟩:=L.gate;have IN:dx≠bq:=by decide
 have Xj:bq≠D:=by have:=cZ J;omega
 have Ee:w5.heap[bq]?=Z (.chan 5 (if s.dG.isNone then#[bK s.ss]else#[]) Y zg zh Y):=by
  rw[<-Jh,mM _ _ _ _ _ _ _ IN,mM _ _ _ _ _ _ _ IN,<-Q5,mM _ _ _ _ _ _ _ Xj.symm,<-GK,l7 _ _ (by have:=cZ J;omega),(p.old bq (by have:=cZ J;omega)).1];exact J
 obtain⟨c,E,B,V,a,b',gi,x1,A,x3⟩:=zP M K f4 (anS z f _) Gf;cases x1;have A:w5.heap[bq]?=Z (.chan E B V a b' gi):=A;rw[Ee]at A;cases A;obtain⟨tS,HM,Iy⟩:=x3 F;have hj:s.dG=I:=by
  cases hjj:s.dG with
  |none=>rfl
  |some j=>rw[hjj]at tS;simp at tS
 rw[hj]at Ee HM Iy C;have HM:eV LL _ ⟨aV 38 ((lP T (n8 u n o m D v.heap.size hv) O).setIfInBounds 37 (bK s.ss)) sj [5,6,7] k z f,s.cs',w5.setChan bq 5 #[] Y zg (zh+1) Y⟩ 1:=HM;have Iy:Good LL R ⟨aV 38 ((lP T (n8 u n o m D v.heap.size hv) O).setIfInBounds 37 (bK s.ss)) sj [5,6,7] k z f,s.cs',w5.setChan bq 5 #[] Y zg (zh+1) Y⟩:=Iy;have Ee:w5.heap[bq]?=Z (.chan 5 #[bK s.ss] Y zg zh Y):=Ee;rw[Za]at HM Iy;obtain⟨ays,γ,δ⟩:=Iy.quiet 1 (anZ T O u n o D v.heap.size m (bK s.ss) k z f s.cs' M) K;have QW:(w5.setChan bq 5 #[] Y zg (zh+1) Y).heap[bq]?=Z (.chan 5 #[] Y zg (zh+1) Y):=oE _ Ee _ _ _ _ _ _;obtain⟨c,E,B,V,a,b',gi,x1,A,x3⟩:=vm M K f6 (anT T O u n o D v.heap.size m (yA (bK s.ss)) z f) δ;cases x1;have A:(w5.setChan bq 5 #[] Y zg (zh+1) Y).heap[bq]?=Z (.chan E B V a b' gi):=A;rw[QW]at A;cases A;obtain⟨_,β,ε⟩:=x3 F;obtain⟨n15,FL,_⟩:=ε.quiet 2 (anQ T O u n o D v.heap.size m _ k z f s.cs' M) K;generalize XZ:((w5.setChan bq 5 #[] Y zg (zh+1) Y).setChan bq 5 ((#[]:af ag).push (yA (bK s.ss))) Y (zg+1) (zh+1) Y)=w6 at*;have dT:∀i y c,s.ax i=Z y->y.s.has c->c<S.heap.size:=λi y c hi hc=>by have:=bY i y c hi hc;omega
 have H2:=(Hp.new (an3 gr O u n o D S.heap.size m k z f s.cs M) F eX dT).quiet 2 (an4 gr O u n o D S.heap.size m _ k z f s.cs M);rw[<-arZ (g':=T) u n o m D S.heap.size (.agg (sZ u n o m D)) Qn O,<-zD]at H2;have Mu:dx<w4.heap.size:=cZ Mm;have r3:Rel (bN ak) (Eg s.Hid v.heap.size) w3 (bM S (.cells (sZ u n o m D) 109)):=by
  rw[<-GK];exact p.rel.apz (c:=xy u n o m) (d:=sZ u n o m D) (by simp[xy]) (λi hi=>by
   have hi:i<10:=hi;have:i=0\/i=1\/i=2\/i=3\/i=4\/i=5\/i=6\/i=7\/i=8\/i=9:=by omega
   rcases this with rfl|rfl|rfl|rfl|rfl|rfl|rfl|rfl|rfl|rfl<;>rfl) (by simp[xy,sZ])
 have r4:Rel (bN ak) (Eg s.Hid v.heap.size) w4 (bM S (.cells (sZ u n o m D) 109)):=by rw[<-Q5];exact r3.sd PL
 have r5:Rel (bN ak) (Eg s.Hid v.heap.size) w5 (bM S (.cells (sZ u n o m D) 109)):=by rw[<-Jh];exact(r4.sd Mm).sd wq
 have r6:Rel (bN ak) (Eg s.Hid v.heap.size) w6 (bM S (.cells (sZ u n o m D) 109)):=by rw[<-XZ];exact(r5.sd Ee).sd QW
 have h5:∀x,w5.heap[x]?=if x=dx then Z (.chan 6 #[ay D] Y (xR+1) (xS+1) Y)else w4.heap[x]?:=λx=>by
  rw[<-Jh,heap_setChan _ (by rw[size_setChan];exact Mu),heap_setChan _ Mu];split<;>rfl
 have WE:∀x,w6.heap[x]?=if x=bq then Z (.chan 5 #[yA (bK s.ss)] Y (zg+1) (zh+1) Y)else w5.heap[x]?:=λx=>by
  rw[<-XZ,heap_setChan _ (cZ QW),heap_setChan _ (cZ Ee)];split<;>rfl
 have h6:∀x,x≠bq->w6.heap[x]?=if x=dx then Z (.chan 6 #[ay D] Y (xR+1) (xS+1) Y)else w4.heap[x]?:=λx hx=>by
  rw[WE,if_neg hx];exact h5 x
 have ν:∃a b,w6.heap[bq]?=Z (.chan 5 #[yA (bK s.ss)] Y a b Y):=⟨_,_,by rw[WE,if_pos F]⟩;have iu:=cZ J;have h4:∀x,w4.heap[x]?=if x=D then Z (.chan 2 #[cV ⟨v.heap.size,D,0,Y⟩] Y 1 0 Y)else w3.heap[x]?:=λx=>by
  rw[<-Q5,heap_setChan _ WG];rfl
 have h3:∀x,w3.heap[x]?=if x=v.heap.size then Z (.cells (xy u n o m) 109)else v.heap[x]?:=λx=>by rw[<-GK,lJ]
 have ω:=cZ xF;have hE:HQ s.W.heap.size v.heap.size D u n o m s.w s.W w6 (bM S (.cells (sZ u n o m D) 109)):=by
  refine⟨by omega,ζ,by omega,by rw[r6.size,size_push,AY,C.rel.size];omega,λx hx χ Q8=>?_,λx hx=>?_,⟨_,_,by rw[h6 _ IN,if_pos F]⟩,⟨1,0,by rw[h6 _ Xj.symm,if_neg (λe=>W5 e.symm),h4,if_pos F]⟩,?_,?_,?_,λx hx E B V W r tm h=>?_⟩
  ·rw[h6 _ Q8,if_neg χ,h4,if_neg ai,h3,if_neg ai]
   exact(p.old x hx).1
  ·rw[l7 _ _ ai]
   exact(p.old x hx).2
  ·rw[l7 _ _ ai];exact Gk
  ·rw[h6 _ ai,if_neg ai,h4,if_neg ai,h3,if_pos F]
  ·rw[lJ,if_pos zD]
  ·rw[h6 _ ai,if_neg ai,h4]at h
   by_cases e:x=D
   ·exact e
   ·rw[if_neg e,h3]at h
    split at h
    ·cases h
    ·exact φ x hx _ _ _ _ _ _ h
 have zo:=C.Sa (B1:=B1) hE ν r6 (by rw[size_push];omega);obtain⟨N,gs,w9,sl,T2,q,d,aa,y1,y2,y3,y4,rfl,y5,⟨dd,y6⟩⟩:=H2;subst y5 y6;have th:∀g l,s.St g l->¬S6 s.Shun v.heap.size l:=λg l hl hS=>by
  rcases hS with hS|hS
  ·exact b.hold.past.apart g l hl hS
  ·have h1:=(C.qW g l hl).1
   have:∃i,l=.cell (be v.heap.size i):=hS.elim (λe=>⟨_,e⟩) λe=>⟨_,e⟩;obtain⟨ii,rfl⟩:=this;have:=(C.rel.mT _ h1).1;have:v.heap.size<s.w.heap.size:=this;omega
 have C9:=fe.mI (Ar:=S6 s.Shun v.heap.size) y4.wX (λl h=>.inl h) th C.Av;have uN:=zo.re dd;rw[<-y2]at uN;obtain⟨W,hb,⟨N2,uQ⟩,z1,z2,z3,z4,z5,z6,_,_,⟨τ,d2,z7⟩,_,dW,eW⟩:=settle (sl:=sl) C9 y3 uN ⟨38,lP T (n8 u n o m D v.heap.size (.agg (sZ u n o m D))) O,k,z,.run,f,I⟩ s.cs';obtain⟨N0,tf⟩:=hm;have QY:sW W:=by
  refine i.ni.tF (by rw[e1]) z5 (z6.trans hj.symm) ?_;rw[z1,z2,z3,z4];refine st.eo ?_ (by rw[e3]) (by rw[e3]);subst hk;exact⟨_,F,.cons (.code (.same _ av)) .nil,tV,.inl F⟩
 have cv:W.bW=⟨⟨38,lP T (n8 u n o m D v.heap.size (.agg (sZ u n o m D))) O,k,z,.run,f,I⟩,s.cs',re (re w6 (bM S (.cells (sZ u n o m D) 109)).tape dd) τ d2⟩:=by unfold dM.bW;rw[z1,z2,z7]
 obtain⟨kk,ET,Dx,cy,hL⟩:∃kk ET Dx,0<kk/\kj LL ⟨⟨38,t,.code E7::k,z,.run,f,I⟩,s.cs',s.w⟩ W.bW kk ET Dx:=by
  rw[cv];have ι:=(((((((L1.trans L2).trans L3).trans L4).trans L5).trans L6).trans L7).trans L8).trans L9;have κ:=((((((((Lp.trans nT).trans yS).trans FJ).trans Dq).trans FK).trans HM).trans γ).trans β).trans FL;exact⟨_,_,_,by omega,((ι.vz (a:=λ_ _=>0)).trans LD).trans (κ.vz (a:=λ_ _=>0))⟩
 exact⟨W,kk,ET,Dx,⟨hb,QY⟩,⟨⟨N0+N+N2,kG (kG tf y1) uQ⟩,by
  have AF:=hE.dead L b.core.rel;rw[eW,z7];exact(((AF.at _).at _).re _ _).re _ _⟩,cy,hL⟩
end
section
variable {R:ag->au->Prop}{w:au}{X:ae az}
theorem ahp{f}{a}{c}{b}{t}{k}(i:Good LL R ⟨⟨f,t,.code (.refuse b)::k,c,.run,a,I⟩,X,w⟩)(m:X≠[]):False:=by
 obtain⟨τ,d,_,n,l,j,h⟩:=i (λ_ _=>0);obtain⟨o,e,p⟩:∃o e,aG LL U (G ⟨f,t,.code (.refuse b)::k,c,.run,a,I⟩ X) (re w τ d)=.ended o e #[]:=⟨_,_,by rfl⟩;obtain⟨q,g,_⟩:=JV ⟨n,l,j,h⟩ F;cases g
end
theorem af8(a):bG LL 46 a .normal=⟨46,pad 84 a,[.code (.refuse "")],[],.run,.normal,I⟩:=av
theorem alb{R}{s}(i:Inv s)(m:Good LL R s.bW)(P:¬over s.fr s.cs):∃G k n b,Inv G/\Real s G/\0<k/\kj LL s.bW G.bW k n b:=by
 by_cases H:∃j v,s.dG=Z j/\s.fr'=j.A'.finish v/\s.cs'=j.L'/\s.fr=j.A.finish v/\s.cs=[wrap]
 ·obtain⟨j,v,u,g,d,o,p⟩:=H
  cases i.ni with
  |main h _ _=>rw[u]at h;cases h
  |work V h D C _=>rw[u]at h;cases h;exact YJ i m u D C g d o p
  |back V h D C _ _ _ _ _=>rw[u]at h;cases h;exact YJ i m u D C g d o p
 ·by_cases y:sQ s
  ·obtain⟨r,O,W,a,l,⟨f,B,pZ,g,o,T⟩,d,p,q⟩:=id y
   have N:∀{k},r=k->k=.deferred->f=44:=λe d=>Ob (T (e.trans d));rcases q with⟨rfl,x,q⟩|⟨rfl,x,q⟩
   ·rcases VQ pZ with rfl|rfl|rfl|rfl|rfl
    ·exact anq i m y q g d o p x
    ·exact ant i m y q g d o p x
    ·exfalso
     rw[af8]at g;have:s.bW=⟨⟨46,pad 84 B,[.code (.refuse "")],[],.run,.normal,I⟩,O::W,s.w⟩:=by unfold dM.bW;rw[g,d]
     rw[this]at m;exact ahp m aZ
    ·exact anr i m y q g d o p
    ·exact anp i m q g d o p x
   ·have:=N rfl rfl
    subst this;exact anu i m y q g d o p x
  ·by_cases J:J8 sV s.fr' s.fr
   ·have A:ko s.E s.fr' s.cs' s.fr s.cs:=by
     cases i.ni with
     |main _ _ A=>simp_all
     |work j h D C A=>simp_all
     |back j h D C v g d o p=>grind
    obtain⟨x,c',c,k',k,L,t2,S⟩:=J;obtain⟨tt,E,_⟩:=A.fr;generalize z:s.fr=Q at*;obtain⟨fn,t,M,ds,K,r,ro⟩:=Q;subst x t2;rw[E]at L;subst L;cases S with
    |CP _ h=>exact anm i m (z▸A) h E z
    |Bv _ h=>exact ann i m (z▸A) h E z
    |oQ _ h=>exact anl i m (z▸A) h E z
   ·exact ala i (λj v u g d o p=>H ⟨j,v,u,g,d,o,p⟩) y J P m
theorem amW{R}{g}{w}(A:g.mode=.returning)(u:g.defers=[])(z:g.kind=.normal){n}{r}(d:di LL (n+1) (lone g [gQ LL] w)=.next r)(y:vP LL R r):False:=by
 obtain⟨j,a,b,i,s,q,p⟩:=g;subst A u z;have t:∀(v)(w),rh LL U ⟨j,a,b,[],.returning,.normal,p⟩ [gQ LL] I v w=dO ((gQ LL).finish v) [] w #[]:=λ_ _=>rfl;have l:(∃v c es,aG LL U (G ⟨j,a,b,[],.returning,.normal,p⟩ [gQ LL]) w=dO ((gQ LL).finish v) [] c es)\/rY (aG LL U (G ⟨j,a,b,[],.returning,.normal,p⟩ [gQ LL]) w)=U:=by
  cases h1:LL.funcs[j]? with
  |none=>exact .inl ⟨a.getD 0 aC,w,#[],by simp only[G,aG,lU,h1,t]⟩
  |some f=>
   cases aQ:(results f a).run LL w with
   |ok v c=>
    have k:(results f a).runT LL w #[]=(.ok v c,(results f a).events LL w #[]):=by rw[jR,aQ]
    refine .inl ⟨v,c,?_⟩;simp only[G,aG,lU,h1,k];exact⟨_,F⟩
   |halt x c=>
    have k:(results f a).runT LL w #[]=(.halt x c,(results f a).events LL w #[]):=by rw[jR,aQ]
    refine .inr ?_;simp only[G,aG,lU,h1,k];cases x<;>rfl
 rcases l with⟨v,c,es,h⟩|h
 ·simp only[di,eY h]at d
  cases n with
  |zero=>
   simp only[di,xf]at d;subst d;obtain⟨B,E,C,e,_⟩:=y;have:=congrArg (λm:fg=>(m.gs[0]?).map (·.callers)) e;simp[lone]at this
  |succ n=>
   cases d
 ·obtain⟨o,D,e⟩:=zX h
  simp only[di,e]at d;cases d
theorem abI{P}{Spec}{c0}{E}{b c}{a d}(h:mO P Spec c0 E b a c d)(e:d=[]):a=[c0]/\fE P Spec b c/\c.kind=.normal/\inner c.fn=Y:=by
 cases h with
 |BZ h _ g f=>simp_all
 |under=>cases e
 |bound=>cases e
theorem Yz:∀{b},bK b=ah 0->∀s∈b,s.st=U
 |[],_,s,a=>by cases a
 |x::b,h,s,a=>by
  simp only[bK]at h;split at h
  ·rename_i c
   rcases bQ.1 a with rfl|a
   ·exact c
   ·exact Yz h s a
  ·cases h
theorem runT_crowd_ended{P}{a}{w b}{sl}{i}{g}{o}{es}(d:a[i]?=Z g)(h:aG P (i==0) g w=.ended o b es):runT P (crowd a w sl) i=(.ended o b,db i g.frame.fn g.frame.place es):=by
 obtain⟨aE,rfl⟩:=gG.1 d;have c:=swapAt_of_lt aE {(default:aH)with status:=.finished};show runT P {world:=w,gs:=a,rest:={timers:=#[],alone:=I,slice:=sl}} i=_;unfold runT;simp only[c,h,GStep.es]
theorem agv{s}(b:Base s){i:au}{o:au}(w:o.heap.size<=i.heap.size){e}(h:qt s.Hid o.heap.size e):BN s.St s.Shun (max s.B i.heap.size) e:=by
 obtain⟨l,u,t⟩:=e;cases l with
 |cell a=>
  obtain⟨j,m,v⟩:=h;refine⟨λx c=>?_,by simp,by simp,?_⟩
  ·simp only[gy,lS,ij]at c
   subst c;exact⟨λg d=>absurd (b.core.qW g _ d).1 j,λd=>absurd (b.core.S3 d) j⟩
  ·show a.block<_
   omega
 |obj r=>
  obtain⟨j,m⟩:=h;have q:r<max s.B i.heap.size:=by omega
  have k:∀x:Touch,x.loc=.obj r->As s.St s.Shun x:=λx n=>by
   refine⟨λg d=>?_,λd=>?_⟩
   ·obtain⟨a,e,_⟩:=(b.core.qW g _ d).2
    rw[n]at e;cases e
   ·obtain⟨y,_,e⟩:=(b.core.mI _).1 d
    rw[n]at e;rcases e with e|e<;>cases e
  cases t<;>cases u<;>first
   |exact⟨λx c=>by simp only[gy,lS,ij]at c;subst c;exact k _ rfl,by simp,by simp,q⟩
   |(simp at m)
 |mark p=>
  cases p with
  |extern f=>exact⟨λx c=>by simp[gy,lS]at c,by simp,by simp,trivial⟩
  |noRoom=>exact⟨λx c=>by simp[gy,lS]at c,by simp,by simp,trivial⟩
  |_=>exact h.elim
 |_=>exact h.elim
theorem ak5:Tryz.prog.inits=#[2]:=av
theorem art{a}{tmps}{todo}{ro}{v}{W1}(b:Tryz.prog.inits.idxOf? a=I):rh ak (0==0) ⟨a,tmps,todo,[],.returning,.normal,ro⟩ [] I v W1=.ended (.done v) W1 #[]:=by
 show(match Tryz.prog.inits.idxOf? a with
  |some k=>GStep.go {frame:=bG ak (Tryz.prog.initFrom (k+1)) #[] .normal,callers:=[],status:=.running,dying:=I} W1
  |none=>.ended (.done v) W1)=_
 rw[b]
theorem af4{R}(hR:∀v w,R v w->∃a b,w.heap[bq]?=Z (.chan 5 #[ah 0] Y a b Y)){s}(i:Inv s)(D:Good LL R s.bW)(θ:over s.fr s.cs):∃v o c V,stepT ak s.m=(.ended (.done v) o,c)/\R v V/\V.heap=s.w.heap/\V.os=s.w.os/\V.output=s.w.output/\Rel (bN ak) s.Hid s.w o/\mN s.w s.W s.w o/\(∀L,¬Race L (s.T++c))/\(s.T++c).HandedOver/\s.m.OnlyLeaving ak/\s.m.EndHearing ak (s.T++c):=by
 obtain⟨nY,hm,hd⟩:=θ;have b:=i.base;have C:=b.core;have hr:=C.rel;obtain⟨e0,hf,E,nZ⟩:s.cs'=[gQ LL]/\fE ak sV s.fr' s.fr/\s.fr.kind=.normal/\inner s.fr.fn=Y:=by
  have hF:¬sQ s:=λ⟨K,a',l',a,l,_,_,e,_⟩=>by simp_all
  cases i.ni with
  |main _ _ st=>exact abI (st.resolve_right hF) nY
  |work j _ _ _ st=>exact abI (st.resolve_right hF) nY
  |back j _ _ _ v _ _ _ e=>simp_all
 obtain⟨tt,H,_⟩:=hf;obtain⟨τ,d,kM,n,m',N,kv⟩:=D _;have pX:s.bW.on τ d=lone s.fr' [gQ LL] (re s.w τ d):=by unfold dM.bW il.on;rw[e0]
 rw[pX]at N;have Gx:s.fr'.mode=.returning:=by rw[H];exact hm
 have ζ:s.fr'.defers=[]:=by rw[H];exact hd
 have bX:s.fr'.kind=.normal:=by rw[H];exact E
 cases n with
 |succ n=>exact(amW Gx ζ bX N kv).elim
 |zero=>
 simp only[di,xf]at N;subst N;obtain⟨ee,w2,v,e1,hl,WR⟩:=kv;have ef:s.fr'=ee:=by
  have:=congrArg (λm:fg=>(m.gs[0]?).map (·.frame)) e1;simpa[lone]using this
 have ew:re s.w τ d=w2:=congrArg (·.world) e1;subst ef ew;obtain⟨ga,gb,u⟩:=C.fo.gate;obtain⟨qB,qG,A⟩:=hR _ _ WR;have A:s.w.heap[bq]?=Z (.chan 5 #[ah 0] Y qB qG Y):=A;rw[u]at A;have hj:s.dG=I:=by
  cases hj:s.dG with
  |none=>rfl
  |some j=>
   simp_all
 have β:bK s.ss=ah 0:=by
  rw[hj]at A;simp at A;exact A.1
 have aF:=Yz β;have h0:=i.ni.h0 hj;have hI:∀x,s.ax x=I:=λx=>by
  cases e:s.ax x with
  |none=>rfl
  |some y=>
   rcases C.yq x y e with⟨k,_,t,ht,_,B,_⟩|⟨j,B,_⟩
   ·simp_all
   ·simp_all
 obtain⟨_,_,_,f',we,aQ⟩:=hl;have Qi:s.fr'.fn=s.fr.fn:=by rw[H]
 have Je:s.fr'.tmps=s.fr.tmps:=by rw[H]
 rw[Qi]at we;rw[Je]at aQ;obtain⟨f,WQ,QU⟩:∃f,Tryz.prog.funcs[s.fr.fn]?=Z f/\f'.results=f.results:=by
  rcases(S7 s.Hid).res s.fr.fn with⟨h1,_⟩|⟨g',g,h1,J,h3⟩
  ·simp_all
  ·simp_all
 have rS:results f' s.fr.tmps=results f s.fr.tmps:=by unfold results;rw[QU]
 rw[rS]at aQ;have S:=abk (P:=ak) (fs:=fs) (fx:=bN ak) (Hid:=s.Hid) (rs:=[]) f s.fr.tmps;obtain⟨_,nn,T,B,pq⟩:=(S _ _ (hr.re _ d) aZ).1 v _ aQ;have J:=pq s.w.tape s.w.drawn λi _ q=>(kM i q).symm;have Xe:d=d+nn:=congrArg (·.drawn) B;have η:nn=0:=by omega
 subst η;have Bc:re T s.w.tape (s.w.drawn+0)=s.w:=by
  have q1:s.w.heap=T.heap:=congrArg (·.heap) B;have q2:s.w.os=T.os:=congrArg (·.os) B;have q3:s.w.output=T.output:=congrArg (·.output) B;unfold YtgahemdblfapeaaGreatDoor.re;rw[<-q1,<-q2,<-q3];rfl
 rw[Bc]at J;have J:=J;obtain⟨⟨o,Q,hS,ez,ey,pY⟩,_⟩:=(S _ _ hr aZ).1 v _ J;have rM:(results f s.fr.tmps).runT ak s.W #[]=(.ok v o,Q):=by rw[hS];simp
 have Mq:Tryz.prog.inits.idxOf? s.fr.fn=I:=by
  rw[ak5];have:s.fr.fn≠2:=λe=>by rw[e]at nZ;cases nZ
  exact Array.idxOf?_eq_none_iff.2 (by simpa using this)
 have gR:aG ak (s.h==0) (G s.fr s.cs) s.W=.ended (.done v) o (seen ak s.fr.fn Q):=by
  rw[h0,nY];generalize s.fr=fr at*;obtain⟨fn,p,r,M,ι,K,ro⟩:=fr;simp only at hm hd E WQ rM Mq;subst hm hd E;simp only[G,aG,lU,WQ,rM];have AJ:=art (tmps:=p) (todo:=r) (ro:=ro) (v:=v) (W1:=o) Mq;rw[AJ];simp[kF]
 have XM:=runT_crowd_ended (P:=ak) (sl:=s.sl) b.top gR;have jq:∀e∈seen ak s.fr.fn Q,BN s.St s.Shun (max s.B o.heap.size) e:=λe he=>agv b (Nat.le_of_eq ez.size) (pY e (BF he));obtain⟨X,γ,δ,ε⟩:=Iu (i:=s.h) (fn:=(G s.fr s.cs).frame.fn) (pos:=(G s.fr s.cs).frame.place) jq;have hP:=BO (b.hold.past.mono (Nat.le_max_left _ _)) X γ (λ_=>ε _) δ;generalize cI:db s.h (G s.fr s.cs).frame.fn (G s.fr s.cs).frame.place (seen ak s.fr.fn Q)=c at hP XM X;obtain⟨wm,κ,W⟩:=b.anv;have Xs:∀x g,x≠0->s.gs[x]?=Z g->QuitsD ak (s.q x) (dU s.T x) g:=λx g O h=>by
  have:=b.hold.idle x g (by rw[h0];exact O) h;rw[hI x]at this;exact this.2
 refine⟨v,o,c,re s.w τ d,b.eo.trans XM,WR,F,F,F,ez,ey.dead C.fo,hP.clean,λx g h aD hc=>?_,⟨λg D=>?_,by rw[W];rfl⟩,λx g h aD=>?_⟩
 ·obtain⟨a,ha,hZ,hh⟩:=hc
  have gq:touchAt (s.T++c) x=Z a:=ha;rcases hP.known x a gq hZ with E|⟨_,y,_,xV,_⟩|⟨_,cH,tr⟩
  ·rw[h0]at E
   obtain⟨q,z,hq,hz,hb⟩:=E;rcases hb with e|hb
   ·subst e
    rw[g?_of hq]at h;exact absurd ((dQ h).symm.trans hz) aD
   ·exact⟨q,by rw[g?_of hq,hz],hb⟩
  ·grind
  ·grind
 ·rw[W]at D
  have D:g∈s.gs.toList.drop 1:=D;obtain⟨x,O⟩:=List.mem_iff_getElem?.1 D;have h:s.gs[x+1]?=Z g:=by
   rw[Fx,w7,Nat.add_comm]at O;exact O
  exact⟨_,(Xs _ g ai h).leaves⟩
 ·rw[W]at h⊢
  have h:s.gs[x]?=Z g:=h;have kN:(s.T++c).deaf x (s.T++c).size=dU s.T x:=mX _ (g':=s.h) (by omega) _ X;rw[kN];exact⟨_,(Xs x g aD h).hears _⟩
def EI(b:Nat)(o:Obj):Obj:=if b=bq then .chan 5 #[ah 0] Y 0 0 Y else if b=dx then .chan 6 #[.chan I] Y 0 0 Y else match o with
 |.view .. |.chan .. |.pending .. |.loop .. |.deferred .. =>.view ⟨0,0,Z 0⟩ 0
 |o=>o
def low(W:au):au:={W with heap:=W.heap.mapIdx EI}
theorem MT(W:au):(low W).heap.size=W.heap.size:=by simp[low]
theorem Bh(W:au)(b:Nat):(low W).heap[b]?=(W.heap[b]?).map (EI b):=by simp[low]
section
variable {W:au}
theorem am9(i:∃a b,W.heap[bq]?=Z (.finalizers a b))(j:∃a b,W.heap[dx]?=Z (.finalizers a b)):Rel (bN ak) (λ_=>False) (low W) W:=by
 refine⟨MT W,F,F,F,F,λb o g=>?_,λ_ h=>h.elim,λ_ h=>h.elim⟩;rw[Bh]at g;obtain⟨O,c,e⟩:=gV.1 g;refine⟨O,c,?_⟩;subst e;unfold EI;by_cases d:b=bq
 ·subst d
  obtain⟨x,y,h⟩:=i;rw[c]at h;cases h;rw[if_pos F];exact .kR _ _ _ _ _ _ _ (λh=>h)
 ·rw[if_neg d]
  by_cases f:b=dx
  ·subst f
   obtain⟨x,y,h⟩:=j;rw[c]at h;cases h;rw[if_pos F];exact .kR _ _ _ _ _ _ _ (λh=>h)
  ·rw[if_neg f]
   cases O<;>first|exact .view _ _ trivial|exact .same _ trivial
theorem am5{b c s r:Nat}{a:af ag}{d tm:Bool}(h:(low W).heap[b]?=Z (.chan c a d s r tm)):(b=bq/\c=5/\a=#[ah 0]/\d=Y/\tm=Y)\/(b=dx/\c=6/\a=#[.chan I]/\d=Y/\tm=Y):=by
 rw[Bh]at h;obtain⟨O,i,e⟩:=gV.1 h;unfold EI at e;by_cases f:b=bq
 ·rw[if_pos f]at e;cases e;exact .inl ⟨f,F,F,F,F⟩
 ·rw[if_neg f]at e
  by_cases g:b=dx
  ·rw[if_pos g]at e;cases e;exact .inr ⟨g,F,F,F,F⟩
  ·rw[if_neg g]at e
   cases O<;>cases e
theorem am8(g:∃a b,W.heap[bq]?=Z (.finalizers a b))(i:∃a b,W.heap[dx]?=Z (.finalizers a b)):fL (λ_=>False) U [] [] (low W) W:=by
 refine⟨(λ_ h=>by cases h),(λ_ h=>by cases h),λb d c j x y tm f=>?_,?_,?_,(λ_ h=>by cases h),(λ_ h=>by cases h),(λ_ h=>by cases h),(λ_ h=>by cases h),(λ_ h=>by cases h),(λ_ h=>by cases h),List.nodup_nil,List.nodup_nil⟩
 ·rcases am5 f with⟨rfl,rfl,rfl,rfl,rfl⟩|⟨rfl,rfl,rfl,rfl,rfl⟩
  ·exact⟨rfl,rfl,.gate rfl,(λe=>by cases e)⟩
  ·exact⟨rfl,rfl,.hand rfl,(λe=>by cases e)⟩
 ·obtain⟨x,y,h⟩:=g
  exact⟨0,0,by rw[Bh,h];rfl⟩
 ·obtain⟨x,y,h⟩:=i
  exact⟨.chan I,0,0,by rw[Bh,h];rfl,.inl rfl⟩
abbrev M1:Nat->Loc->Prop:=λ_ _=>False
theorem am6(c:∃a b,W.heap[bq]?=Z (.finalizers a b))(d:∃a b,W.heap[dx]?=Z (.finalizers a b))(n:Nat):Core (λ_=>False) M1 M1 (λ_=>False) (λ_=>I) [] [] I W.heap.size n (low W) W:=⟨am9 c d,am8 c d,df _,λ_ _ h=>h.elim,λl=>⟨λh=>h.elim,(λ⟨_,h,_⟩=>by cases h)⟩,(λ_ h=>by cases h),λ_ _ h=>h.elim,(λ_ h=>by cases h),(λ_ h=>by cases h),(λ_ h=>by cases h),(λ_ _ h=>by cases h),(λ_ h=>by cases h),(λ_ h=>by cases h)⟩
theorem aqN(c:Bool):¬Race c #[]:=by
 rintro⟨i,j,_,⟨a,b,d,_⟩,_⟩;simp[Trace.act?]at d
theorem am7{g:aH}:fe ak M1 M1 (λ_=>False) (λ_=>I) 0 W.heap.size #[] #[g] W (λ_=>0):=by
 refine⟨λx y d f=>?_,(λ_ _ _ h=>by cases h),(λ_ _ h=>by cases h),(λ_ _ _ _ h=>by cases h),λj i=>rfl,λ_ h=>absurd F h,(λ_ _ h=>by cases h),λx d=>.inr (d.elim (λh=>absurd F h) id),(λ_ _ _ h=>by cases h),?_,(λ_ _ h=>by cases h),(λ_ _ _ h=>by cases h),λ_ _ _=>⟨λh=>h,λh=>h⟩⟩
 ·have:=(gG.1 f).1
  have e:x<1:=this;exact absurd (Nat.lt_one_iff.1 e) d
 ·refine⟨λb=>aqN b,λx a c=>?_,λx a c=>?_,λ_ _=>rfl,λk h=>by simp at h,λ_ _ h=>h.elim,λx a c=>?_⟩<;>simp[touchAt,Trace.act?]at c
end
theorem ak9{s:dM}(i:Inv s):s.cs'≠[]:=by
 have c:sQ s->s.cs'≠[]:=λ⟨d,m,n,a,l,_,e,_⟩h=>by rw[h]at e;cases e
 cases i.ni with
 |main _ _ b=>exact b.elim ko.ne c
 |work j _ _ _ b=>exact b.elim ko.ne c
 |back j _ g _ v _ e _ _=>
  obtain⟨p,k,a0,o,f,_⟩:=g.ni;rw[e,f];simp
theorem aoK{W:au}{l:Loc->Prop}{w g:au}(A:Rel (bN ak) l w g)(e:mN (low W) W w g)(z:∀b:Nat,b<W.heap.size->b≠bq->b≠dx->w.heap[b]?=(low W).heap[b]?)(b:Nat)(m:b<W.heap.size):g.heap[b]?=W.heap[b]?:=by
 by_cases i:b=bq
 ·exact e.r b (.inr (.inl i))
 ·by_cases j:b=dx
  ·exact e.r b (.inr (.inr j))
  ·have h:=z b m i j
   have k:W.heap[b]?=Z W.heap[b]:=wZ m;rw[Bh,k]at h;simp only[iy,EI,if_neg i,if_neg j]at h;have f:(low W).heap[b]?=Z (match W.heap[b]with
    |.view .. |.chan .. |.pending .. |.loop .. |.deferred .. =>.view ⟨0,0,Z 0⟩ 0
    |o=>o):=by
    rw[Bh,k];simp only[iy,EI,if_neg i,if_neg j]
   have n:=e.sh b (by rw[MT];exact m);have p:∀o:Obj,w.heap[b]?=Z o->W.heap[b]=o->qd o=Y->g.heap[b]?=W.heap[b]?:=λo v r s=>by
    obtain⟨O,q,y⟩:=A.obj b o v;cases y with
    |same=>rw[q,k,r]
    |cut c d t B C aE=>
     unfold fD at n;rw[q,k,r]at n;simp at n;omega
    |kR=>cases s
    |view=>cases s
   generalize x:W.heap[b]=O at*;cases O with
   |view a u=>exact e.r b (.inl ⟨_,f⟩)
   |chan=>exact e.r b (.inl ⟨_,f⟩)
   |pending=>exact e.r b (.inl ⟨_,f⟩)
   |loop=>exact e.r b (.inl ⟨_,f⟩)
   |deferred=>exact e.r b (.inl ⟨_,f⟩)
   |_=>exact p _ h F F
theorem VS(P:aA)(f:bA)(a:af ag):(bG P f a .normal).fn=f/\(bG P f a .normal).roundOf=I/\(bG P f a .normal).kind=.normal:=⟨F,F,F⟩
theorem awT{a:af ag}{E:az->ae az->az->ae az->Prop}(h:FP ak fs sV .normal (bG LL f a .normal) (bG ak f a .normal))(e:inner f=Y):ko E (bG LL f a .normal) [gQ LL] (bG ak f a .normal) []:=by
 obtain⟨d,j,k⟩:=VS ak f a;rcases h with h|⟨i,b,l,_,g,_⟩
 ·exact .BZ h j k (by rw[d];exact e)
 ·have c:=congrArg Frame.fn g
  rw[d,(VS ak i b).1]at c;subst c;rcases VQ l with rfl|rfl|rfl|rfl|rfl<;>cases e
theorem close{c:af ag}{Rl Q:ag->au->Prop}{W:au}(hf:inner f=Y)(hb:hasB fs f=U)(C:∃a b,W.heap[bq]?=Z (.finalizers a b))(hh:∃a b,W.heap[dx]?=Z (.finalizers a b))
  (P:∀v w,Rl v w->(∃a b,w.heap[bq]?=Z (.chan 5 #[ah 0] Y a b Y))/\w.os=W.os/\w.output=W.output/\∀b:Nat,b<W.heap.size->b≠bq->b≠dx->w.heap[b]?=(low W).heap[b]?)
  (hL:∀t d,Reach LL Rl (lone (bG LL f c .normal) [gQ LL] (re (low W) t d)))
  (hP:∀v w j,Rl v w->j.os=W.os->j.output=W.output->W.heap.size<=j.heap.size->(∀b:Nat,b<W.heap.size->j.heap[b]?=W.heap[b]?)->Q v j):
  ∃M last o D x,iz ak (M+1) (solo (G (bG ak f c .normal) []) W) #[]=(.ended o D,x)/\di ak M (solo (G (bG ak f c .normal) []) W)=.next last/\step ak last=.ended o D/\Conc.Good ak Q last o D x:=by
 obtain⟨u,A,⟨e,tf⟩,K,O,e3,e4,e5,e6,e7,e8,⟨τ,d,z⟩,_,dW,V⟩:=settle (sl:=I) (am7 (W:=W) (g:=G (bG ak f c .normal) [])) (by rfl) (am6 C hh 1) (bG LL f c .normal) [gQ LL];have hT:=(S7 (λ_=>False)).enter f c hb;have gu:Inv u:=by
  refine⟨A,.main e6 e5 (.inl ?_)⟩;rw[K,O,e3,e4];exact awT hT hf
 have l6:u.bW=⟨bG LL f c .normal,[gQ LL],re (low W) τ d⟩:=by unfold dM.bW;rw[K,O,z]
 obtain⟨s,X,hi,kv,y⟩:=asW (L:=LL) (R:=Rl) (Inv:=Inv) (Fin:=λs=>over s.fr s.cs) (bW:=dM.bW) (Real:=Real) (x0:=u.bW) u (Real.refl _) (λ_ _=>Real.trans) (λs i=>ak9 i) gu F
  (λt d=>by rw[l6];exact hL t d) λs i de C=>alb i C de
 obtain⟨v,k,l,S,m,n,h3,h4,h5,p,h7,h8,h9,jo,T⟩:=af4 (λv w h=>(P v w h).1) hi y kv;obtain⟨⟨N,hN⟩,E⟩:=X;obtain⟨_,r2,r3,r4⟩:=P v S n;have hz:W.heap.size<=k.heap.size:=by
  have H:=E.sz;have a2:=p.size;rw[z]at H;have a3:(low W).heap.size<=s.w.heap.size:=H;rw[MT]at a3;omega
 have B:mN (low W) W s.w k:=by
  have q:=E.trans h7;rw[z,V]at q;exact⟨q.v,q.r,q.sz,q.sh⟩
 have J:=kG tf hN;refine⟨e+N,s.m,.done v,k,s.T++l,?_,?_,by rw[step,m],v,F,hP v S k n (by rw[<-p.os,<-h4,r2]) (by rw[<-p.output,<-h5,r3]) hz λb tS=>?_,h8,h9,jo,T⟩
 ·have:iz ak 1 s.m s.T=(.ended (.done v) k,s.T++l):=by simp[iz,m]
  rw[show e+N+1=(e+N)+1 from F,runNT_add];show(match iz ak (e+N) (crowd #[G (bG ak f c .normal) []] W I) #[]with
   |(.next m',x)=>iz ak 1 m' x
   |r=>r)=_
  rw[J];exact this
 ·have:=runNT_fst ak (e+N) (crowd #[G (bG ak f c .normal) []] W I) #[]
  rw[J]at this;exact this.symm
 ·exact aoK p B (λb m n PF=>by rw[<-h3];exact r4 b m n PF) b tS
end
end Go.Proofs.YtgahemdblfapeaaGreatDoor
