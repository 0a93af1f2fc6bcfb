/- Helper lemmas, part 4: what the steps of the program do in the model; each holds under its own hypotheses. -/
import Derived.Test.YtgahemdblfapeaaGreatDoorA03
set_option maxRecDepth 100000
set_option maxHeartbeats 4000000
set_option linter.all false
namespace Go.Proofs.YtgahemdblfapeaaGreatDoor
open Go.Conc
open _root_.Array renaming getD_eq_getD_getElem?→nJ,getElem?_eq_getElem→xY,getElem?_eq_some_iff→iy,getElem?_setIfInBounds→uF,getElem?_setIfInBounds_ne→iK,getElem?_toList→Cy,size_setIfInBounds→ra
open _root_.Bool renaming and_eq_true→gT,false→Y,not_eq_true'→Gp,true→U
open Go renaming CallKind→dQ,Code→bH,Deferred→cz,Frame→aA,FuncId→cH,Goroutine→aH,Item→aJ,Machine→fT,Program→aD,Trace→ed,TypeId→aK,Value→ag,World→ax,doReturn→rW,eqGuard→lF,execOp→cN,goInt→ai,runN→dG,runNT→iz,stepG→aE,undef→aB,unwind→lT
open Go.Conc renaming Deaf→eh,Deaf_other→ni,heap_setChan_ne→mT,heap_setChan_self→oQ,mem_seen→Cz,runNT_then→kK
open Go.Frame renaming enter→bO,eval→bR
open Go.GStep renaming after→mx
open Go.MemAct renaming ofEvent→gI,touch?→lS
open Go.MemOp renaming ofEvents→dk
open Go.Proofs.Tryz renaming prog→ak
open Go.Region renaming schedule→tp
open Go.Sem renaming runT_eq→jN
open Go.Stepped.next renaming injEq→yc
open Go.World renaming cell?→fU,shape?→fF
open _root_.List renaming length_eq_zero_iff→IF,map_cons→fw,mem_cons→bM,mem_cons_of_mem→eK,mem_cons_self→eX,mem_map→og,nodup_cons→oO,not_mem_nil→gV
open _root_.Nat renaming le_refl→dt,lt_of_lt_of_le→pA
open _root_.Option renaming map_eq_some_iff→fX,map_some→jE,none→I,some→Z
open _root_.Option.some renaming inj→ee,injEq→gB
section
variable {f:cH}
structure Ph(Hid:Loc->Prop)(n:Nat)(lim:Int)(l:ae Nat)(t' t:af ag)(w0 W0 w W:ax):Prop where
 size:74<=t.size
 Py:t'.size=t.size
 XN:∀i,i≠35->i≠36->i≠37->t'[i]?=t[i]?
 m0:t.getD 0 aB=ai n
 m2:t.getD 2 aB=ai lim
 m32:0∉l->t.getD 32 aB=ai n
 FR:1∉l->∃b,t.getD 33 aB=F' b n
 FT:2∉l->∃b,t.getD 34 aB=.map (Z b)
 FU:3∉l->t'.getD 35 aB=ai lim/\t.getD 35 aB=ai lim
 HR:4∉l->∃b,t'.getD 36 aB=ay b/\t.getD 36 aB=ay b/\W0.heap.size<=b/\w.heap[b]?=Z (.chan 2 #[] Y 0 0 Y)/\W.heap[b]?=Z (.chan 0 #[] Y 0 0 Y)/\∀b2:Nat,W0.heap.size<=b2->∀cap buf cl s r tm,w.heap[b2]?=Z (.chan cap buf cl s r tm)->b2=b
 FY:4∈l->∀b2:Nat,W0.heap.size<=b2->∀cap buf cl s r tm,w.heap[b2]?≠Z (.chan cap buf cl s r tm)
 rel:Rel (bS ak) Hid w W
 old:∀b,b<W0.heap.size->w.heap[b]?=w0.heap[b]?/\W.heap[b]?=W0.heap[b]?
 le:W0.heap.size<=W.heap.size
 room:W.heap.size+(if 1∈l then 1 else 0)+(if 2∈l then 1 else 0)+(if 4∈l then 1 else 0)=W0.heap.size+3
theorem wj{t:af ag}{d i:Nat}{v:ag}(a:d<t.size):(t.setIfInBounds d v).getD i aB=if i=d then v else t.getD i aB:=by
 rw[nJ,uF,nJ];by_cases e:d=i
 ·subst e;rw[if_pos F,if_pos a,if_pos F];rfl
 ·rw[if_neg e,if_neg (λx=>e x.symm)]
section
variable {Hid:Loc->Prop}{n:Nat}{lim:Int}{l:ae Nat}{t' t:af ag}{w0 W0 w W:ax}
theorem Ph.slot{i d:Nat}{v:ag}(p:Ph Hid n lim (i::l) t' t w0 W0 w W)(hd:d<74)(A:d≠0/\d≠2){o f:ax}
  (x:0∉l->(t.setIfInBounds d v).getD 32 aB=ai n)(C:1∉l->∃b,(t.setIfInBounds d v).getD 33 aB=F' b n)(D:2∉l->∃b,(t.setIfInBounds d v).getD 34 aB=.map (Z b))
  (E:3∉l->(t'.setIfInBounds d v).getD 35 aB=ai lim/\(t.setIfInBounds d v).getD 35 aB=ai lim)
  (H:4∉l->∃b,(t'.setIfInBounds d v).getD 36 aB=ay b/\(t.setIfInBounds d v).getD 36 aB=ay b/\W0.heap.size<=b/\o.heap[b]?=Z (.chan 2 #[] Y 0 0 Y)/\f.heap[b]?=Z (.chan 0 #[] Y 0 0 Y)/\∀g:Nat,W0.heap.size<=g->∀c a u s r tm,o.heap[g]?=Z (.chan c a u s r tm)->g=b)
  (G:4∈l->∀g:Nat,W0.heap.size<=g->∀c a u s r tm,o.heap[g]?≠Z (.chan c a u s r tm))
  (z:Rel (bS ak) Hid o f)(y:∀b,b<W0.heap.size->o.heap[b]?=w0.heap[b]?/\f.heap[b]?=W0.heap[b]?)(le:W0.heap.size<=f.heap.size)
  (q:f.heap.size+(if 1∈l then 1 else 0)+(if 2∈l then 1 else 0)+(if 4∈l then 1 else 0)=W0.heap.size+3):
  Ph Hid n lim l (t'.setIfInBounds d v) (t.setIfInBounds d v) w0 W0 o f:=by
 have hs:=p.size;refine⟨by rw[ra];exact hs,by rw[ra,ra];exact p.Py,λj J O h3=>?_,?_,?_,x,C,D,E,H,G,z,y,le,q⟩
 ·rw[uF,uF,p.Py,p.XN j J O h3]
 ·rw[wj ah,if_neg (λe=>A.1 e.symm)];exact p.m0
 ·rw[wj ah,if_neg (λe=>A.2 e.symm)];exact p.m2
theorem Ph.get'(p:Ph Hid n lim l t' t w0 W0 w W){i:Nat}(a:i≠35)(b:i≠36)(c:i≠37):t'.getD i aB=t.getD i aB:=by
 rw[nJ,nJ,p.XN i a b c]
end
section
variable {R:ag->ax->Prop}{P k:ae aJ}{Q:ae cz}{X:dQ}{V L:ae aA}
variable {M At:Nat->Loc->Prop}{S:Loc->Prop}{N:Nat->aj YS}{h B K:Nat}{T:ed}{m:fT}
variable {Hid:Loc->Prop}{n:Nat}{lim:Int}{w0 W0:ax}
theorem arJ(aV:X=.normal\/X=.deferred)(az:V≠[])(h0:0<n)(h9:n<9)(hk:∀i y,N i=Z y->∀w o,y.K w->y.K (bW w o))(cP:∀i y c,N i=Z y->y.s.has c->c<W0.heap.size):∀(l:ae Nat)(t' t:af ag)(w W:ax),K9 l=U->Ph Hid n lim l t' t w0 W0 w W->Good LL R ⟨aX 38 t' mn (l++[5,6,7]) P Q X,V,w⟩->
                                                                                                                                                          dI ak M At S N h B K W m T 0 (·=G (aX 38 t lO (l++[5,6,7]) k Q X) L)->
                                                                                                                                                          ∃nn E t2 w2 W2,Ph Hid n lim [] E t2 w0 W0 w2 W2/\fA LL ⟨aX 38 t' mn (l++[5,6,7]) P Q X,V,w⟩ ⟨aX 38 E mn [5,6,7] P Q X,V,w2⟩ nn/\Good LL R ⟨aX 38 E mn [5,6,7] P Q X,V,w2⟩/\dI ak M At S N h B K W2 m T 0 (·=G (aX 38 t2 lO [5,6,7] k Q X) L)/\(∀i,i<74->i≠32->i≠33->i≠34->i≠35->i≠36->E.getD i aB=t'.getD i aB/\t2.getD i aB=t.getD i aB)/\E.toList.drop 74=t'.toList.drop 74/\t2.toList.drop 74=t.toList.drop 74:=by
 intro l;induction l with
 |nil=>intro t' t w W _ p hg H;exact⟨0,t',t,w,W,p,.refl,hg,H,λi _ _ _ _ _ _=>⟨F,F⟩,F,F⟩
 |cons i l ih=>
  intro t' t w W cy p hg H;simp only[K9,gT,decide_eq_true_eq,Gp,Bool.and_eq_false_iff,beq_eq_false_iff_ne]at cy;obtain⟨⟨⟨hi,iN⟩,nV⟩,cy⟩:=cy;have nV:i∉l:=by simpa using nV
  have hs:=p.size;have bG:=p.Py;have hz:w.heap.size=W.heap.size:=p.rel.size
  have EJ:∀(d:Nat)(v:ag)(w1 W1:ax)(n1:Nat),32<=d->d<=36->Ph Hid n lim l (t'.setIfInBounds d v) (t.setIfInBounds d v) w0 W0 w1 W1->
    fA LL ⟨aX 38 t' mn (i::(l++[5,6,7])) P Q X,V,w⟩ ⟨aX 38 (t'.setIfInBounds d v) mn (l++[5,6,7]) P Q X,V,w1⟩ n1->Good LL R ⟨aX 38 (t'.setIfInBounds d v) mn (l++[5,6,7]) P Q X,V,w1⟩->
    dI ak M At S N h B K W1 m T 0 (·=G (aX 38 (t.setIfInBounds d v) lO (l++[5,6,7]) k Q X) L)->
    ∃nn E t2 w2 W2,Ph Hid n lim [] E t2 w0 W0 w2 W2/\fA LL ⟨aX 38 t' mn (i::l++[5,6,7]) P Q X,V,w⟩ ⟨aX 38 E mn [5,6,7] P Q X,V,w2⟩ nn/\Good LL R ⟨aX 38 E mn [5,6,7] P Q X,V,w2⟩/\dI ak M At S N h B K W2 m T 0 (·=G (aX 38 t2 lO [5,6,7] k Q X) L)/\(∀i,i<74->i≠32->i≠33->i≠34->i≠35->i≠36->E.getD i aB=t'.getD i aB/\t2.getD i aB=t.getD i aB)/\E.toList.drop 74=t'.toList.drop 74/\t2.toList.drop 74=t.toList.drop 74:=λd v w1 W1 n1 tW tX p1 x A D=>by
   obtain⟨nn,E,t2,w2,W2,q1,q2,q3,q4,q5,q6,q7⟩:=ih _ _ _ _ cy p1 A D;refine⟨n1+nn,E,t2,w2,W2,q1,x.trans q2,q3,q4,λj hj h1 u h3 h4 h5=>?_,?_,?_⟩
   ·obtain⟨a,b⟩:=q5 j hj h1 u h3 h4 h5
    rw[a,b,wj ah,wj ah,if_neg ah,if_neg ah];exact⟨F,F⟩
   ·rw[q6,Array.toList_setIfInBounds,List.drop_set_of_lt ah]
   ·rw[q7,Array.toList_setIfInBounds,List.drop_set_of_lt ah]
  have skip:∀{j d:Nat}{v:ag},j≠d->d<74->(t.setIfInBounds d v).getD j aB=t.getD j aB:=λ{j d v}hj hd=>by rw[wj ah,if_neg hj]
  have Gd:∀{j d:Nat}{v:ag},j≠d->d<74->(t'.setIfInBounds d v).getD j aB=t'.getD j aB:=λ{j d v}hj hd=>by rw[wj ah,if_neg hj]
  have J4:∀{d:Nat}{v:ag},d<74->(t.setIfInBounds d v).getD d aB=v:=λ{d v}hd=>by rw[wj ah,if_pos F]
  have ZB:∀{d:Nat}{v:ag},d<74->(t'.setIfInBounds d v).getD d aB=v:=λ{d v}hd=>by rw[wj ah,if_pos F]
  have f:∀{j:Nat},j∉l->j≠i->j∉i::l:=λh1 u h=>(bM.1 h).elim u h1;have xv:∀{j:Nat},j≠i->(if j∈i::l then 1 else 0)=(if j∈l then(1:Nat)else 0):=λ{j}hj=>by
   by_cases e:j∈l
   ·rw[if_pos e,if_pos (eK _ e)]
   ·rw[if_neg e,if_neg (f e hj)]
  have Tu:(if i∈i::l then 1 else 0)=1+(if i∈l then(1:Nat)else 0):=by
   rw[if_pos (eX ..),if_neg nV]
  have BS:=p.room;have Wb:∀(C:Obj)(b:Nat),b<W0.heap.size->(bW w C).heap[b]?=w0.heap[b]?:=λC b J=>by rw[l8 _ _ (by have:=p.le;omega)];exact(p.old b J).1
  have Qu:∀(C:Obj)(b:Nat),b<W0.heap.size->(bW W C).heap[b]?=W0.heap[b]?:=λC b J=>by rw[l8 _ _ (by have:=p.le;omega)];exact(p.old b J).2
  have JX:∀i y c,N i=Z y->y.s.has c->c<W.heap.size:=λi y c hi hc=>pA (cP i y c hi hc) p.le;have QI:∀{C:Obj},qS C=Y->∀(z:Nat)q g cl s r tm,(bW w C).heap[z]?=Z (.chan q g cl s r tm)->w.heap[z]?=Z (.chan q g cl s r tm):=λ{C}ho z q g cl s r tm u=>by
   rw[lM]at u;split at u
   ·cases u;cases ho
   ·exact u
  have β:∀{C:Obj}{d:Nat}{v:ag},qS C=Y->d≠36->d<74->i≠4->4∉l->∃b,(t'.setIfInBounds d v).getD 36 aB=ay b/\(t.setIfInBounds d v).getD 36 aB=ay b/\W0.heap.size<=b/\(bW w C).heap[b]?=Z (.chan 2 #[] Y 0 0 Y)/\(bW W C).heap[b]?=Z (.chan 0 #[] Y 0 0 Y)/\∀z:Nat,W0.heap.size<=z->∀q g cl s r tm,(bW w C).heap[z]?=Z (.chan q g cl s r tm)->z=b:=λ{C d v}ho hd tX γ h4=>by
   obtain⟨b,a1,a2,a3,a4,a5,a6⟩:=p.HR (f h4 (λe=>γ e.symm));refine⟨b,by rw[Gd (λe=>hd e.symm) tX];exact a1,by rw[skip (λe=>hd e.symm) tX];exact a2,a3,?_,?_,λz lg q g cl s r tm u=>a6 z lg _ _ _ _ _ _ (QI ho _ _ _ _ _ _ _ u)⟩
   ·rw[l8 _ _ (dD a4)];exact a4
   ·rw[l8 _ _ (dD a5)];exact a5
  have:i=0\/i=1\/i=2\/i=3\/i=4:=by omega
  rcases this with rfl|rfl|rfl|rfl|rfl
  ·have hv:t'.getD 0 aB=ai n:=by rw[p.get' ah ah ah];exact p.m0
   obtain⟨x,A⟩:=acR aV az aj7 Nm.1 Nm.2 (XU _ _ _ _) hg;have D:=Wx aV akc Nm.1 Nm.2 (XU _ _ _ _) H;rw[hv]at x A;rw[p.m0]at D;refine EJ 32 _ _ _ 1 ah ah (p.slot ah ah (λ_=>J4 ah) (λh=>?_) (λh=>?_) (λh=>?_) (λh=>?_) (λh=>p.FY (eK _ h)) p.rel p.old p.le ?_) x A D
   ·rw[skip ah ah];exact p.FR (f h ah)
   ·rw[skip ah ah];exact p.FT (f h ah)
   ·rw[skip ah ah,Gd ah ah];exact p.FU (f h ah)
   ·rw[skip ah ah,Gd ah ah];exact p.HR (f h ah)
   ·rw[xv ah,xv ah,xv ah]at BS;exact BS
  ·have YN:0∉1::l:=f (by rcases iN with h|h;exact absurd rfl h;simpa using h) ah
   have Fz:t'.getD 32 aB=ai n:=by rw[p.get' ah ah ah];exact p.m32 YN
   obtain⟨k1,_,cc,tt,k3⟩:=abi W.heap.size h0 h9;obtain⟨_,k2,_⟩:=abi w.heap.size h0 h9;obtain⟨x,A⟩:=U2 aV az aj8 Nn.1 Nn.2 (by rw[XV,Fz];exact k2) hg;have D:=Qf aV akd Nn.1 Nn.2 (by rw[XV,p.m32 YN];exact k1) hk JX H;rw[hz]at x A;have rE:qS (OO n)=Y:=by rw[k3];rfl
   refine EJ 33 _ _ _ 1 ah ah (p.slot ah ah (λh=>?_) (λh=>⟨_,J4 ah⟩) (λh=>?_) (λh=>?_) (β rE ah ah ah) (λh z lg q g cl s r tm u=>p.FY (eK _ h) z lg _ _ _ _ _ _ (QI rE _ _ _ _ _ _ _ u)) (p.rel.push (by rw[k3];trivial)).1 (λb J=>⟨Wb _ b J,Qu _ b J⟩) (by rw[size_push];have:=p.le;omega) ?_) x A D
   ·rw[skip ah ah];exact p.m32 (f h ah)
   ·rw[skip ah ah];exact p.FT (f h ah)
   ·rw[skip ah ah,Gd ah ah];exact p.FU (f h ah)
   ·rw[Tu,xv ah,xv ah]at BS
    rw[size_push];omega
  ·obtain⟨x,A⟩:=U2 aV az aj9 No.1 No.2 (ah8 _ _ _ _) hg
   have D:=Qf aV ake No.1 No.2 (aia _ _ _ _) hk JX H;rw[hz]at x A;refine EJ 34 _ _ _ 1 ah ah (p.slot ah ah (λh=>?_) (λh=>?_) (λh=>⟨_,J4 ah⟩) (λh=>?_) (β rfl ah ah ah) (λh z lg q g cl s r tm u=>p.FY (eK _ h) z lg _ _ _ _ _ _ (QI rfl _ _ _ _ _ _ _ u)) (p.rel.push (o:=.map #[] 0) trivial).1 (λb J=>⟨Wb _ b J,Qu _ b J⟩) (by rw[size_push];have:=p.le;omega) ?_) x A D
   ·rw[skip ah ah];exact p.m32 (f h ah)
   ·rw[skip ah ah];exact p.FR (f h ah)
   ·rw[skip ah ah,Gd ah ah];exact p.FU (f h ah)
   ·rw[Tu,xv ah,xv ah]at BS
    rw[size_push];omega
  ·have hv:t'.getD 2 aB=ai lim:=by rw[p.get' ah ah ah];exact p.m2
   obtain⟨x,A⟩:=acR aV az aka Np.1 Np.2 (XW _ _ _ _) hg;have D:=Wx aV akf Np.1 Np.2 (XW _ _ _ _) H;rw[hv]at x A;rw[p.m2]at D;refine EJ 35 _ _ _ 1 ah ah (p.slot ah ah (λh=>?_) (λh=>?_) (λh=>?_) (λh=>⟨ZB ah,J4 ah⟩) (λh=>?_) (λh=>p.FY (eK _ h)) p.rel p.old p.le ?_) x A D
   ·rw[skip ah ah];exact p.m32 (f h ah)
   ·rw[skip ah ah];exact p.FR (f h ah)
   ·rw[skip ah ah];exact p.FT (f h ah)
   ·rw[skip ah ah,Gd ah ah];exact p.HR (f h ah)
   ·rw[xv ah,xv ah,xv ah]at BS;exact BS
  ·obtain⟨x,A⟩:=U2 aV az akb YD.1 YD.2 (ah9 _ _ _ _) hg
   have D:=Qf aV akg YE.1 YE.2 (aib _ _ _ _) hk JX H;rw[hz]at x A;refine EJ 36 _ _ _ 1 ah ah (p.slot ah ah (λh=>?_) (λh=>?_) (λh=>?_) (λh=>?_) (λh=>⟨_,ZB ah,J4 ah,p.le,?_,?_,λz lg q g cl s r tm u=>?_⟩) (λh=>absurd h nV) (p.rel.Ii (mF:=Hid) (O:=.chan 0 #[] Y 0 0 Y) trivial (λ_ h=>h) λ_ h=>.inl h) (λb J=>⟨Wb _ b J,Qu _ b J⟩) (by rw[size_push];have:=p.le;omega) ?_) x A D
   ·rw[skip ah ah];exact p.m32 (f h ah)
   ·rw[skip ah ah];exact p.FR (f h ah)
   ·rw[skip ah ah];exact p.FT (f h ah)
   ·rw[skip ah ah,Gd ah ah];exact p.FU (f h ah)
   ·rw[lM,hz,if_pos rfl]
   ·rw[lM,if_pos rfl]
   ·rw[lM,hz]at u
    by_cases e:z=W.heap.size
    ·exact e
    ·rw[if_neg e]at u
     exact absurd u (p.FY (eX ..) z lg _ _ _ _ _ _)
   ·rw[Tu,xv ah,xv ah]at BS
    rw[size_push];omega
end
abbrev n4(T n V:Nat)(X:Int)(D:Nat):ae (Nat×ag):=[(33,F' T n),(34,.map (Z V)),(35,ai X),(36,ay D)]
def yw(T n V:Nat)(X:Int):af ag:=#[.int .i32 0,.int .u32 0,F' T n,.slice I 0 0,.map (Z V),ai 0,ai X,.slice I 0 0,.slice I 0 0,.pointer I]
def tM(T n V:Nat)(X:Int)(D:Nat):af ag:=#[.int .i32 0,.int .u32 0,F' T n,.slice I 0 0,.map (Z V),ai 0,ai X,.slice I 0 0,.slice I 0 0,.pointer I,ay D,.int .u64 0,.int .u32 0,.bool Y]
abbrev n6(T n V:Nat)(X:Int)(D S:Nat)(x:ag):ae (Nat×ag):=(37,x)::(38,ptr S 0)::n4 T n V X D
abbrev n8(T n V:Nat)(X:Int)(D S:Nat)(x:ag):ae (Nat×ag):=(8,ptr S 0)::n6 T n V X D S x
abbrev lP(g:Nat->ag)(m:ae (Nat×ag))(l:ae ag):af ag:=bI 74 (ov g m) l
section
variable (g:Nat->ag)(l:ae ag)(T n V D S N:Nat)(X:Int)(x:ag)(k:ae aJ)(ds:ae cz)(kind:dQ)(cs:ae aA)(t:af ag)
theorem aqb(a:kind=.normal\/kind=.deferred):oI LL N (G (aX 38 (lP g (n4 T n V X D) l) mn [5,6,7] k ds kind) cs)=Z (G (aX 38 (lP g (n6 T n V X D N (.agg (yw T n V X))) l) mn [7] k ds kind) cs,.cells (yw T n V X) 109):=by
 rcases a with rfl|rfl<;>kernel_rfl
theorem aqo(a:kind=.normal\/kind=.deferred):oI ak N (G (aX 38 (lP g (n4 T n V X D) l) lO [5,6,7] k ds kind) cs)=Z (G (aX 38 (lP g (n6 T n V X D N (.agg (tM T n V X D))) l) lO [7] k ds kind) cs,.cells (tM T n V X D) 109):=by
 rcases a with rfl|rfl<;>kernel_rfl
theorem aqp(a:kind=.normal\/kind=.deferred):aN ak 2 (G (aX 38 (lP g (n6 T n V X D N x) l) lO [7] k ds kind) cs)=G ⟨38,lP g (n8 T n V X D N x) l,k,ds,.run,kind,I⟩ cs:=by
 rcases a with rfl|rfl<;>kernel_rfl
theorem aqg(a:kind=.normal\/kind=.deferred):aN LL 4 (G (aX 38 (lP g (n6 T n V X D S x) l) mn [7] (.code (reg sX)::k) ds kind) cs)=G (aX 38 (lP g (n8 T n V X D S (db ⟨S,D,0,Y⟩)) l) sX [1,2,3,4,5,6,7] k ds kind) cs:=by
 rcases a with rfl|rfl<;>kernel_rfl
theorem aqm:fR LL (cN (bR ⟨38,lP g (n8 T n V X D S x) l,[],ds,.run,kind,I⟩) (ep (.send (tm 36) (tm 37))))=Z (.comm #[{chan:=ay D,send:=Z x,zero:=.tuple #[]}] U .send):=al
theorem aql:fR LL (cN (bR ⟨38,t,[],ds,.run,kind,I⟩) (aP 37 (.recv 100 (kc sM) Y)))=Z (.comm #[{chan:=sM,send:=I,zero:=.agg #[]}] U (.recv Y)):=al
theorem abn(v:ag):(lP g (n8 T n V X D S x) l).setIfInBounds 37 v=lP g (n8 T n V X D S v) l:=al
theorem aqj:fR LL (cN (bR ⟨38,lP g (n8 T n V X D S x) l,[],ds,.run,kind,I⟩) (ep (.send (kc sM) (tm 36))))=Z (.comm #[{chan:=sM,send:=Z (ay D),zero:=.tuple #[]}] U .send):=al
theorem aqh:fR LL (cN (bR ⟨38,t,[],ds,.run,kind,I⟩) (aP 37 (.recv 100 (kc gN) Y)))=Z (.comm #[{chan:=gN,send:=I,zero:=.agg #[]}] U (.recv Y)):=al
theorem aqn(a:kind=.normal\/kind=.deferred):aN LL 1 (G (aX 38 (lP g (n8 T n V X D S x) l) sX [5,6,7] k ds kind) cs)=G (aX 38 (lP g (n8 T n V X D S (zu x)) l) sX [6,7] k ds kind) cs:=by
 rcases a with rfl|rfl<;>kernel_rfl
theorem aqi:fR LL (cN (bR ⟨38,lP g (n8 T n V X D S x) l,[],ds,.run,kind,I⟩) (ep (.send (kc gN) (tm 37))))=Z (.comm #[{chan:=gN,send:=Z x,zero:=.tuple #[]}] U .send):=al
theorem aqf(a:kind=.normal\/kind=.deferred):aN LL 2 (G (aX 38 (lP g (n8 T n V X D S x) l) sX [7] k ds kind) cs)=G ⟨38,lP g (n8 T n V X D S (.agg (tM T n V X D))) l,k,ds,.run,kind,I⟩ cs:=by
 rcases a with rfl|rfl<;>kernel_rfl
theorem aqk(a:kind=.normal\/kind=.deferred):aN LL 2 (G ⟨38,t,.code F5::k,ds,.run,kind,I⟩ cs)=G (aX 38 t Il [0,1,2] (.code (.seq (.cond (tm 36) .skip (.refuse "")) Lj)::k) ds kind) cs:=by
 rcases a with rfl|rfl<;>kernel_rfl
theorem aqc(a:kind=.normal\/kind=.deferred)(q:bH):aN LL 2 (G (aX 38 t Il [] (.code (.seq q Lj)::k) ds kind) cs)=G ⟨38,t,.code q::.code Lj::k,ds,.run,kind,I⟩ cs:=by
 rcases a with rfl|rfl<;>kernel_rfl
theorem aqd(a:kind=.normal\/kind=.deferred):aN LL 1 (G ⟨38,t,.code Lj::k,ds,.run,kind,I⟩ cs)=G ⟨38,t,.code (.cond (tm 37) .skip (.refuse ""))::.code UR::k,ds,.run,kind,I⟩ cs:=by
 rcases a with rfl|rfl<;>kernel_rfl
theorem aqe(a:kind=.normal\/kind=.deferred):aN LL 1 (G ⟨38,t,.code UR::k,ds,.run,kind,I⟩ cs)=G ⟨38,t,.code (.region 3 mn U)::.code (reg sX)::k,ds,.run,kind,I⟩ cs:=by
 rcases a with rfl|rfl<;>kernel_rfl
theorem atj:D5=.region 3 lO U:=al
end
theorem apl{t:af ag}{k:ae aJ}{ds:ae cz}{kind:dQ}{cs:ae aA}{w:ax}(a:Nat->Question->Nat):ku LL ⟨⟨38,t,.code (.region 3 mn U)::k,ds,.run,kind,I⟩,cs,w⟩ ⟨aX 38 t mn (tp U lO ((Question.order 38 3).cut (a 0 (.order 38 3)))) k ds kind,cs,w⟩ 1 1 a:=λτ d b=>by
 have h:=G5 (P:=LL) (main:=U) Yt (fn:=38) (tmps:=t) (k:=k) (defers:=ds) (kind:=kind) (cs:=cs) (id:=3) (ops:=mn) (re w τ d);have e:(re w τ d).tape (re w τ d).drawn (.order 38 3)=a 0 (.order 38 3):=b 0 ah _;rw[e,auG]at h;simp only[ik.on,dG];rw[fe (t:=aX 38 t mn (tp U lO ((Question.order 38 3).cut (a 0 (.order 38 3)))) k ds kind) (c:=cs) h];rfl
theorem art(g:Nat->ag):∀(m:ae (Nat×ag)),(∀p∈m,g p.1=p.2)->ov g m=g:=λm h=>by
 funext i;unfold ov;cases e:m.lookup i with
 |none=>rfl
 |some v=>
  have:(i,v)∈m:=by
   clear h;induction m with
   |nil=>cases e
   |cons p m c=>
    obtain⟨a,b⟩:=p;rw[List.lookup_cons]at e;by_cases h:(i==a)=U
    ·rw[h]at e
     cases e;rw[eq_of_beq h];exact eX ..
    ·have:(i==a)=Y:=by simpa using h
     rw[this]at e;exact eK _ (c e)
  exact(h _ this).symm
theorem acY(t:af ag)(h:74<=t.size)(m:ae (Nat×ag))(a:∀p∈m,t.getD p.1 aB=p.2):t=lP (λi=>t.getD i aB) m (t.toList.drop 74):=by
 unfold lP;rw[art _ m a];exact Vm t 74 h
theorem avH(n:Nat){f g:Nat->ag}(h:∀i,f i=g i)(l:ae ag):bI n f l=bI n g l:=by
 rw[show f=g from funext h]
theorem auj{g' g:Nat->ag}(T n V:Nat)(X:Int)(D S:Nat)(x:ag)(h:∀i,i≠35->i≠36->i≠37->g' i=g i)(l:ae ag):lP g' (n8 T n V X D S x) l=lP g (n8 T n V X D S x) l:=by
 refine avH 74 (λi=>?_) l;by_cases a:i=35
 ·subst a;rfl
 ·by_cases b:i=36
  ·subst b;rfl
  ·by_cases c:i=37
   ·subst c;rfl
   ·unfold ov
    rw[h i a b c]
section
variable {fx:Obj->Prop}{Hid:Loc->Prop}{w W:ax}
theorem Rel.asc(h:Rel fx Hid w W){c d:af ag}{t:aK}(z:0<c.size)(y:∀i,i<c.size->c[i]?=d[i]?)(aC:c.size<d.size):Rel fx (λl=>Hid l\/∃i,c.size<=i/\i<d.size/\l=.cell (bn w.heap.size i)) (bW w (.cells c t)) (bW W (.cells d t)):=by
 refine⟨by rw[size_push,size_push,h.size],h.tape,h.drawn,h.os,h.output,λb o f=>?_,λa p=>?_,λr q=>?_⟩
 ·rw[lM]at f
  rw[lM,<-h.size];by_cases e:b=w.heap.size
  ·rw[if_pos e]at f⊢
   cases f;exact⟨_,F,.cut _ _ _ z y aC⟩
  ·rw[if_neg e]at f⊢
   obtain⟨O,m,u⟩:=h.obj b o f;exact⟨O,m,u.bN λA=>A.resolve_right λ⟨_,_,_,e⟩=>by cases e⟩
 ·rcases p with p|⟨i,m,u,e⟩
  ·obtain⟨s,j⟩:=h.m9 a p
   refine⟨by rw[size_push];omega,?_⟩;unfold fU at j⊢;rw[l8 _ _ s];exact j
  ·cases e
   refine⟨by rw[size_push];exact Nat.lt_succ_self _,?_⟩;unfold fU;rw[lM,if_pos rfl];simp[m]
 ·rcases q with q|⟨_,_,_,e⟩
  ·obtain⟨s,j⟩:=h.pM r q
   exact⟨by rw[size_push];omega,λo v=>j o (by rw[l8 _ _ s]at v;exact v)⟩
  ·cases e
end
def Ff(Hid:Loc->Prop)(S:Nat)(l:Loc):Prop:=Hid l\/∃i,10<=i/\i<14/\l=.cell (bn S i)
def Vd(X:Loc->Prop)(S:Nat)(l:Loc):Prop:=X l\/l=.cell (bn S 11)\/l=.cell (bn S 12)
structure I4(N0 S D bs n bm:Nat)(lim:Int)(w0 W0 w W:ax):Prop where
 hS:N0<=S
 hD:N0<=D
 ne:D≠S
 grow:w0.heap.size<=w.heap.size
 OQ:∀b,b<N0->b≠dO->b≠bw->w.heap[b]?=w0.heap[b]?
 Ux:∀b,b<N0->W.heap[b]?=W0.heap[b]?
 hand:∃a b,w.heap[dO]?=Z (.chan 6 #[ay D] Y a b Y)
 tok:∃a b,w.heap[D]?=Z (.chan 2 #[db ⟨S,D,0,Y⟩] Y a b Y)
 ay0:W.heap[D]?=Z (.chan 0 #[] Y 0 0 Y)
 ahq:w.heap[S]?=Z (.cells (yw bs n bm lim) 109)
 Jp:W.heap[S]?=Z (.cells (tM bs n bm lim D) 109)
 new:∀b:Nat,N0<=b->∀cap buf cl s r tm,w.heap[b]?=Z (.chan cap buf cl s r tm)->b=D
section
variable {Hid:Loc->Prop}{R:Bool}{T:ae dU}{V:ae dg}{w0 W0 w W:ax}{S D bs n bm:Nat}{lim:Int}
theorem fO.FQ(L:fO Hid R T V w0 W0)(a:Rel (bS ak) Hid w0 W0){s:dg}(b:s∈V):s.S<W0.heap.size/\s.D<W0.heap.size:=by
 have l:=L.s s b;obtain⟨_,_,h⟩:=l.lone;have:=dD h;have:=a.size;exact⟨wq l.sh.2,by omega⟩
theorem I4.dead(E:I4 W0.heap.size S D bs n bm lim w0 W0 w W)(L:fO Hid R T V w0 W0)(f:Rel (bS ak) Hid w0 W0):mU w0 W0 w W:=by
 have k:=f.size;obtain⟨g,i,a⟩:=L.gate;obtain⟨v,j,d,c,_⟩:=L.hand;refine⟨λb u h=>?_,λb o=>E.Ux b ?_,E.grow,λb d=>by unfold fF;rw[E.Ux b ah]⟩
 ·rw[E.OQ b (by have:=dD h;omega) (λe=>by rw[e,c]at h;cases h) (λe=>by rw[e,a]at h;cases h)];exact h
 ·rcases o with⟨u,h⟩|rfl|rfl
  ·have:=dD h;omega
  ·have:=dD a;omega
  ·have:=dD c;omega
theorem fO.Um(L:fO Hid U T V w0 W0)(A:Rel (bS ak) Hid w0 W0)(E:I4 W0.heap.size S D bs n bm lim w0 W0 w W)(uT:∃a b,w.heap[bw]?=Z (.chan 5 #[zu (cY V)] Y a b Y)):fO (Ff Hid S) U T (⟨S,D,0,Y⟩::V) w W:=by
 have hz:=A.size;obtain⟨hv,yO,yP,nC,_⟩:=L.hand;obtain⟨_,_,J3⟩:=L.gate;have hS:=E.hS;have hD:=E.hD;have G:∀{b m s r:Nat}{q:af ag}{K tm:Bool},m≠6->m≠5->w0.heap[b]?=Z (.chan m q K s r tm)->w.heap[b]?=Z (.chan m q K s r tm):=λ{b m s r q K tm}h6 M h=>by
  rw[E.OQ b (by have:=dD h;omega) (L.tN h nC h6) (L.tN h J3 M)];exact h
 have C:∀{b:Nat}{o:Obj},W0.heap[b]?=Z o->W.heap[b]?=Z o:=λ{b o}h=>by rw[E.Ux b (dD h)];exact h
 have MT:∀{b:Nat}{c t f},w0.heap[b]?=Z (.cells c t f)->w.heap[b]?=Z (.cells c t f):=λ{b c t f}h=>by
  rw[E.OQ b (by have:=dD h;omega) (λe=>by rw[e,nC]at h;cases h) (λe=>by rw[e,J3]at h;cases h)];exact h
 refine⟨λs d=>?_,λk z=>?_,λb m q K x y tm u=>?_,?_,?_,L.DF,L.DD,L.AF,λs d J g e=>?_,λs d J g e=>?_,λs d=>?_,L.nodup,?_⟩
 ·rcases bM.1 d with rfl|d
  ·refine⟨E.tok,⟨0,E.ay0⟩,⟨?_,?_⟩,?_,?_,?_,?_,λi p H=>.inr ⟨i,p,H,rfl⟩,by show 0<=9;omega⟩
   ·show w.shape? S=Z (109,10)
    unfold fF;rw[E.ahq];rfl
   ·show W.shape? S=Z (109,14)
    unfold fF;rw[E.Jp];rfl
   ·show W.cell? (bn S 10)=Z (ay D)
    unfold fU;rw[E.Jp];rfl
   ·show W.cell? (bn S 11)=Z (jD 0)
    unfold fU;rw[E.Jp];rfl
   ·show W.cell? (bn S 12)=Z (.int .u32 0)
    unfold fU;rw[E.Jp];rfl
   ·show W.cell? (bn S 13)=Z (.bool Y)
    unfold fU;rw[E.Jp];rfl
  ·have l:=L.s s d
   obtain⟨a,b,hl⟩:=l.lone;obtain⟨k,z⟩:=l.real;have hc:∀{i v},W0.cell? (bn s.S i)=Z v->W.cell? (bn s.S i)=Z v:=λh=>vE (λc t f=>C) h;exact⟨⟨a,b,G ah ah hl⟩,⟨k,C z⟩,⟨AV (λc t f=>MT) l.sh.1,AV (λc t f=>C) l.sh.2⟩,hc l.done,hc l.cnt,hc l.qW,hc l.stop,λi p H=>.inl (l.bN i p H),l.le⟩
 ·have l:=L.k k z
  obtain⟨s,d,e1,e2⟩:=l.p9;obtain⟨a1,b1,q1⟩:=l.work;obtain⟨a2,b2,q2⟩:=l.told;obtain⟨a3,b3,q3⟩:=l.wb;obtain⟨a4,b4,q4⟩:=l.sb;obtain⟨j,q5⟩:=l.zw;exact⟨⟨s,eK _ d,e1,e2⟩,⟨a1,b1,G ah ah q1⟩,⟨a2,b2,G ah ah q2⟩,⟨j,C q5⟩,⟨a3,b3,G ah ah q3⟩,C l.rR,⟨a4,b4,G ah ah q4⟩,C l.uo,.inl l.bN.1,.inl l.bN.2.1,.inl l.bN.2.2⟩
 ·by_cases p:b=dO
  ·subst p
   obtain⟨_,_,h⟩:=E.hand;rw[h]at u;cases u;exact⟨F,F,.hand F,λe=>by cases e⟩
  ·by_cases M:b=bw
   ·subst M
    obtain⟨_,_,h⟩:=uT;rw[h]at u;cases u;exact⟨F,F,.gate F,λe=>by cases e⟩
   by_cases H:b<W0.heap.size
   ·rw[E.OQ b H p M]at u
    obtain⟨q1,q2,q3,q4⟩:=L.chans _ _ _ _ _ _ _ u;refine⟨q1,q2,?_,q4⟩;cases q3 with
    |work k z e=>exact .work k z e
    |done s d e=>exact .done s (eK _ d) e
    |told k z e=>exact .told k z e
    |box=>exact .box
    |gate e=>exact .gate e
    |hand e=>exact .hand e
   ·have:=E.new b ah _ _ _ _ _ _ u
    subst this;obtain⟨_,_,h⟩:=E.tok;rw[h]at u;cases u;exact⟨F,F,.done ⟨S,b,0,Y⟩ (eX ..) F,λe=>by cases e⟩
 ·exact uT
 ·obtain⟨a,b,h⟩:=E.hand
  exact⟨ay D,a,b,h,.inr ⟨_,eX ..,F⟩⟩
 ·rcases bM.1 d with rfl|d
  ·rcases bM.1 g with rfl|g
   ·rfl
   ·have p:=(L.FQ A g).2
    have e:D=J.D:=e;omega
  ·rcases bM.1 g with rfl|g
   ·have p:=(L.FQ A d).2
    have e:s.D=D:=e;omega
   ·exact L.yZ s d J g e
 ·rcases bM.1 d with rfl|d
  ·rcases bM.1 g with rfl|g
   ·rfl
   ·have p:=(L.FQ A g).1
    have e:S=J.S:=e;omega
  ·rcases bM.1 g with rfl|g
   ·have p:=(L.FQ A d).1
    have e:s.S=S:=e;omega
   ·exact L.u5 s d J g e
 ·rcases bM.1 d with rfl|d
  ·show(T.filter λk=>k.S==S).length=0
   rw[IF,List.filter_eq_nil_iff];intro k z;obtain⟨s,d,e1,_⟩:=(L.k k z).p9;have:=(L.FQ A d).1;simp only[beq_iff_eq];omega
  ·exact L.count s d
 ·rw[fw,oO]
  refine⟨λhm=>?_,L.B6⟩;obtain⟨s,d,e⟩:=og.1 hm;have:=(L.FQ A d).1;have e:s.S=S:=e;omega
end
section
variable {Hid:Loc->Prop}{P At:Nat->Loc->Prop}{X:Loc->Prop}{Q:Nat->aj YS}{T:ae dU}{V:ae dg}{O:aj wU}{B B1 n:Nat}{w0 W0 w W:ax}{S D bs N bm:Nat}{lim:Int}
theorem Core.Um(C:Core Hid P At X Q T V I B n w0 W0)(E:I4 W0.heap.size S D bs N bm lim w0 W0 w W)(A:∃a b,w.heap[bw]?=Z (.chan 5 #[zu (cY V)] Y a b Y))(z:Rel (bS ak) (Ff Hid S) w W)(u:W.heap.size<=B1):Core (Ff Hid S) P At (Vd X S) Q T (⟨S,D,0,Y⟩::V) I B1 n w W:=by
 have L:=C.ft;have q:=C.rel;have G:=q.size;have o:∀k∈T,k.S<W0.heap.size:=λk d=>by
  obtain⟨s,c,m,_⟩:=(L.k k d).p9;have:=(L.FQ q c).1;omega
 have f:∀k∈T,∀s,s∈(⟨S,D,0,Y⟩:dg)::V->s.S=k.S->s∈V:=λk d s c e=>by
  rcases bM.1 c with rfl|c
  ·have:=o k d
   have e:S=k.S:=e;have:=E.hS;omega
  ·exact c
 refine⟨z,L.Um q E A,u,λg l h=>?_,λl=>?_,C.zX,λg l h=>.inl (C.Bq g l h),C.cS,λk d s c m p=>C.zl k d s (f k d s c m) m p,λk d s c m p=>C.gone k d s (f k d s c m) m p,λi y v=>?_,C.g0,λj x=>?_⟩
 ·obtain⟨r,t⟩:=C.rN g l h
  exact⟨.inl r,t⟩
 ·constructor
  ·rintro(h|h)
   ·obtain⟨s,c,e⟩:=(C.mO l).1 h
    exact⟨s,eK _ c,e⟩
   ·exact⟨_,eX ..,h⟩
  ·rintro⟨s,c,e⟩
   rcases bM.1 c with rfl|c
   ·exact .inr e
   ·exact .inl ((C.mO l).2 ⟨s,c,e⟩)
 ·rcases C.zj i y v with⟨k,d,s,c,h⟩|h
  ·exact .inl ⟨k,d,s,eK _ c,h⟩
  ·exact .inr h
 ·cases x
theorem Core.asd(C:Core Hid P At X Q T V O B n w0 W0):(∀i y,Q i=Z y->∀w o,y.K w->y.K (bW w o))/\∀i y c,Q i=Z y->y.s.has c->c<W0.heap.size:=by
 refine⟨λi y d w o e=>?_,λi y c d m=>?_⟩
 ·rcases C.zj i y d with⟨k,q,s,_,_,_,_,f,rfl⟩|⟨j,p,rfl,f,rfl⟩
  ·exact wK.push e o
  ·exact eQ.push e o
 ·obtain⟨l,g,a,b,h⟩:=C.acZ d m
  have:=dD h;have:=C.rel.size;omega
end
theorem G8{t:af ag}{e:ae cz}{a:dQ}(d x:Tmp)(b:BinOp)(c:Int):cN (bR ⟨f,t,[],e,.run,a,I⟩) (aP d (.binOp b 3 (tm x) (kc (.int .i64 c)) 3))=(do pure (.value (<-(do lF b 3 (tm x) (kc (.int .i64 c)) (t.getD x aB) (.int .i64 c);binOp b 3 (t.getD x aB) (.int .i64 c))))):=rfl
section
variable {R:ag->ax->Prop}
theorem apO{s:eC}(i:Inv s)(hg:Good LL R s.cu)(st:ky s.E s.fr' s.cs' s.fr s.cs){t:af ag}{z:ae cz}{f:dQ}(bJ:74<=t.size)
  (e1:s.fr'=⟨38,t,[.code F5,.code d38],z,.run,f,I⟩)(e3:s.fr=⟨38,t,[.code D5,.code d38],z,.run,f,I⟩):
  ∃s' k n b,Inv s'/\Real s s'/\0<k/\ku LL s.cu s'.cu k n b:=by
 have b:=i.base;have C:=b.core;have L:=C.ft;have M:=ky.ne st;have eO:Below ak LL s.cs':=st.belows i.yD;obtain⟨tt,_,_,uS,_⟩:=st.fr;rw[e3]at uS;have K:f=.normal\/f=.deferred:=uS.kind.imp id λh=>h.1;have fH:∀d∈z,lV ak d:=uS.defers;have hh:∀τ e,iW ak (re s.w τ e):=λτ e=>C.rel.tY;have hz:=C.rel.size;generalize hk:([.code d38]:ae aJ)=k at e1 e3;have qK:s.cu=⟨⟨38,t,.code F5::k,z,.run,f,I⟩,s.cs',s.w⟩:=by unfold eC.cu;rw[e1]
 rw[qK]at hg⊢;obtain⟨n1,L1,g1⟩:=hg.quiet 2 (aqk k z f s.cs' t K) M;have q0:Il[0]?=Z (aP 35 (.binOp .lss 3 (tm 2) (kc (.int .i64 1000001)) 3)):=rfl;have q1:Il[1]?=Z (aP 36 (.binOp .lss 3 (tm 0) (kc (.int .i64 9)) 3)):=rfl;have q2:Il[2]?=Z (aP 37 (.binOp .gtr 3 (tm 0) (kc (.int .i64 0)) 3)):=rfl;rcases QL .lss (.inl F) (t.getD 2 aB) 1000001 (tm 2) (kc (.int .i64 1000001))with⟨m,σ,aL⟩|cL
 case inr=>exact(rz K eO fH hh q0 (G8 ..) (λτ e=>by obtain⟨y,h⟩:=cL (re s.w τ e);exact⟨y,h⟩) g1).elim
 obtain⟨L2,g2⟩:=sH K M q0 (G8 ..) (λτ e=>aL _) g1;generalize aAO:(if BinOp.lss=.lss then decide (m<1000001)else decide (1000001<m))=Wg at L2 g2;have iG:(t.setIfInBounds 35 (.bool Wg)).getD 0 aB=t.getD 0 aB:=by rw[wj ah,if_neg ah]
 rcases QL .lss (.inl F) (t.getD 0 aB) 9 (tm 0) (kc (.int .i64 9))with⟨Q,Dz,Ay⟩|cL
 case inr=>exact(rz K eO fH hh q1 (G8 ..) (λτ e=>by rw[iG];obtain⟨y,h⟩:=cL (re s.w τ e);exact⟨y,h⟩) g2).elim
 obtain⟨L3,g3⟩:=sH K M q1 (G8 ..) (λτ e=>by rw[iG];exact Ay _) g2;have J2:((t.setIfInBounds 35 (.bool Wg)).setIfInBounds 36 (.bool (if BinOp.lss=.lss then decide (Q<9)else decide (9<Q)))).getD 0 aB=t.getD 0 aB:=by rw[wj (by rw[ra];omega),if_neg ah,iG]
 rcases QL .gtr (.inr F) (t.getD 0 aB) 0 (tm 0) (kc (.int .i64 0))with⟨v1,DC,ρ⟩|cL
 case inr=>exact(rz K eO fH hh q2 (G8 ..) (λτ e=>by rw[J2];obtain⟨y,h⟩:=cL (re s.w τ e);exact⟨y,h⟩) g3).elim
 obtain⟨L4,g4⟩:=sH K M q2 (G8 ..) (λτ e=>by rw[J2];exact ρ _) g3;rw[Dz]at DC;cases DC;have Tf:(if BinOp.lss=.lss then decide (Q<9)else decide (9<Q))=decide (Q<9):=if_pos F;have ξ:(if BinOp.gtr=.lss then decide (Q<0)else decide (0<Q))=decide (0<Q):=if_neg ba;rw[Tf]at L3 L4 g4;rw[ξ]at L4 g4;generalize pS:((t.setIfInBounds 35 (.bool Wg)).setIfInBounds 36 (.bool (decide (Q<9)))).setIfInBounds 37 (.bool (decide (0<Q)))=t' at L4 g4;have Rv:t'.getD 36 aB=.bool (decide (Q<9)):=by rw[<-pS,wj (by rw[ra,ra];omega),if_neg ah,wj (by rw[ra];omega),if_pos F]
 have φ:t'.getD 37 aB=.bool (decide (0<Q)):=by rw[<-pS,wj (by rw[ra,ra];omega),if_pos F]
 obtain⟨n5,L5,g5⟩:=g4.quiet 2 (aqc k z f s.cs' t' K _) M;obtain⟨aC,L6⟩:=EN (bb:=decide (Q<9)) g5 M Rv;have g6:=g5.mL L6 M;obtain⟨n7,L7,g7⟩:=g6.quiet 1 (aqd k z f s.cs' t' K) M;obtain⟨uX,L8⟩:=EN (bb:=decide (0<Q)) g7 M φ;have g8:=g7.mL L8 M;obtain⟨n9,L9,g9⟩:=g8.quiet 1 (aqe k z f s.cs' t' K) M;have aC:=of_decide_eq_true aC;have uX:=of_decide_eq_true uX;obtain⟨n,rfl⟩:=Int.eq_ofNat_of_zero_le (Int.le_of_lt uX);have LD:=apl (t:=t') (k:=.code (reg sX)::k) (ds:=z) (kind:=f) (cs:=s.cs') (w:=s.w) λi q=>s.W.tape (s.W.drawn+i) q;have gD:=g9.wy LD M;obtain⟨l,ho,cy,j7⟩:=arj ((Question.order 38 3).cut (s.W.tape (s.W.drawn+0) (.order 38 3)));rw[ho]at LD gD;have qG:s.B<=max s.B (s.W.heap.size+4):=Nat.le_max_left _ _;have sI:s.W.heap.size+4<=max s.B (s.W.heap.size+4):=Nat.le_max_right _ _;obtain⟨m0,T0,hm,H⟩:=b.ah7 qG (g':=G (aX 38 t lO (l++[5,6,7]) k z f) s.cs) (dd:=s.W.drawn+1) (by
  have h:=G5 (P:=ak) (main:=s.h==0) al (fn:=38) (tmps:=t) (k:=k) (defers:=z) (kind:=f) (cs:=s.cs) (id:=3) (ops:=lO) s.W;rw[<-ho,Nat.add_zero,e3,atj];exact h)
 generalize max s.B (s.W.heap.size+4)=B1 at qG sI H;obtain⟨dV,cP⟩:=C.asd;have π:t'.size=t.size:=by rw[<-pS,ra,ra,ra]
 have Zi:∀i,i≠35->i≠36->i≠37->t'[i]?=t[i]?:=λi h1 h2 h3=>by
  rw[<-pS,iK (λe=>h3 e.symm),iK (λe=>h2 e.symm),iK (λe=>h1 e.symm)]
 have oz:∀{i},i<5->i∉l->False:=λh1 h2=>h2 (j7 _ h1);have hp:Ph s.Hid n m l t' t s.w s.W s.w s.W:=by
  refine⟨bJ,π,Zi,Dz,σ,λh=>(oz ah h).elim,λh=>(oz ah h).elim,λh=>(oz ah h).elim,λh=>(oz ah h).elim,λh=>(oz ah h).elim,λ_ b2 lg E B V s' r tm h=>?_,C.rel,λ_ _=>⟨F,F⟩,dt _,?_⟩
  ·have:=dD h;omega
  ·rw[if_pos (j7 1 ah),if_pos (j7 2 ah),if_pos (j7 4 ah)]
 obtain⟨nn,nI,t2,v,S,p,Lp,gp,Hp,tZ,tW,tX⟩:=arJ K M ah ah dV cP l t' t s.w s.W cy hp gD H;obtain⟨u,YQ⟩:=p.FR ba;obtain⟨o,YR⟩:=p.FT ba;obtain⟨ε,υ⟩:=p.FU ba;obtain⟨D,ζ,Rv,μ,yG,Hj,χ⟩:=p.HR ba;have BS:S.heap.size=s.W.heap.size+3:=by have:=p.room;simpa using this
 have AE:v.heap.size=S.heap.size:=p.rel.size;have Nc:nI=lP (λi=>nI.getD i aB) (n4 u n o m D) (nI.toList.drop 74):=acY nI (by rw[p.Py];exact p.size) _ (by
  intro q hq;simp only[bM,gV,or_false]at hq;rcases hq with rfl|rfl|rfl|rfl
  ·show nI.getD 33 aB=_
   rw[p.get' ah ah ah];exact YQ
  ·show nI.getD 34 aB=_
   rw[p.get' ah ah ah];exact YR
  ·exact ε
  ·exact ζ)
 have et:t2=lP (λi=>t2.getD i aB) (n4 u n o m D) (t2.toList.drop 74):=acY t2 p.size _ (by
  intro q hq;simp only[bM,gV,or_false]at hq;rcases hq with rfl|rfl|rfl|rfl
  ·exact YQ
  ·exact YR
  ·exact υ
  ·exact Rv)
 have Ss:∀i,i≠35->i≠36->i≠37->(λi=>nI.getD i aB) i=(λi=>t2.getD i aB) i:=λi h1 h2 h3=>p.get' h1 h2 h3;have J':nI.toList.drop 74=t2.toList.drop 74:=by
  rw[tW,tX];apply List.ext_getElem?;intro j;rw[List.getElem?_drop,List.getElem?_drop,Cy,Cy,Zi _ ah ah ah]
 generalize oU:(λi=>nI.getD i aB)=T at Nc Ss;generalize Ao:(λi=>t2.getD i aB)=gr at et Ss;rw[J']at Nc;generalize t2.toList.drop 74=O at Nc et;rw[Nc]at Lp gp;rw[et]at Hp;have rD:=aqb T O u n o D v.heap.size m (.code (reg sX)::k) z f s.cs' K;obtain⟨n10,oq,ow⟩:=EO gp rD M;obtain⟨n11,zM,By⟩:=ow.quiet 4 (aqg T O u n o D v.heap.size m (.agg (yw u n o m)) k z f s.cs' K) M;have f1:sX[1]?=Z (ep (.send (tm 36) (tm 37))):=rfl;have f2:sX[2]?=Z (aP 37 (.recv 100 (kc sM) Y)):=rfl;have f3:sX[3]?=Z (ep (.send (kc sM) (tm 36))):=rfl;obtain⟨c,E,B,V,a,b',iJ,x1,A,x3⟩:=wa K M f1 (aqm T O u n o D v.heap.size m (db ⟨v.heap.size,D,0,Y⟩) z f) By;cases x1;have A:(bW v (.cells (yw u n o m) 109)).heap[D]?=Z (.chan E B V a b' iJ):=A;have Ry:(bW v (.cells (yw u n o m) 109)).heap[D]?=Z (.chan 2 #[] Y 0 0 Y):=by rw[l8 _ _ (dD yG)];exact yG
 rw[Ry]at A;cases A;obtain⟨_,GB,EL⟩:=x3 F;have YU:=dD Ry;generalize nf:(bW v (.cells (yw u n o m) 109))=w3 at*;obtain⟨hv,yO,yP,nC,_⟩:=L.hand;have aAx:=dD nC;have Za:dO≠D:=by omega
 have NV:(w3.setChan D 2 ((#[]:af ag).push (db ⟨v.heap.size,D,0,Y⟩)) Y (0+1) 0 Y).heap[dO]?=Z (.chan 6 #[hv] Y yO yP Y):=by
  rw[heap_setChan _ YU,if_neg Za,<-nf,l8 _ _ ah,(p.old dO ah).1];exact nC
 obtain⟨c,E,B,V,a,b',iJ,x1,A,x3⟩:=AR K M f2 (aql z f _) EL;cases x1;have A:(w3.setChan D 2 ((#[]:af ag).push (db ⟨v.heap.size,D,0,Y⟩)) Y (0+1) 0 Y).heap[dO]?=Z (.chan E B V a b' iJ):=A;rw[NV]at A;cases A;obtain⟨_,Ex,EM⟩:=x3 F;rw[abn]at Ex EM;generalize sS:(w3.setChan D 2 ((#[]:af ag).push (db ⟨v.heap.size,D,0,Y⟩)) Y (0+1) 0 Y)=w4 at*;have xo:(w4.setChan dO 6 ((#[hv]:af ag).extract 1 (#[hv]:af ag).size) Y yO (yP+1) Y).heap[dO]?=Z (.chan 6 #[] Y yO (yP+1) Y):=oQ _ NV _ _ _ _ _ _;obtain⟨c,E,B,V,a,b',iJ,x1,A,x3⟩:=wa K M f3 (aqj T O u n o D v.heap.size m _ z f) EM;cases x1;have A:(w4.setChan dO 6 ((#[hv]:af ag).extract 1 (#[hv]:af ag).size) Y yO (yP+1) Y).heap[dO]?=Z (.chan E B V a b' iJ):=A;rw[xo]at A;cases A;obtain⟨_,GC,Hb⟩:=x3 F;generalize uf:((w4.setChan dO 6 ((#[hv]:af ag).extract 1 (#[hv]:af ag).size) Y yO (yP+1) Y).setChan dO 6 ((#[]:af ag).push (ay D)) Y (yO+1) (yP+1) Y)=w5 at*;have f4:sX[4]?=Z (aP 37 (.recv 100 (kc gN) Y)):=rfl;have f6:sX[6]?=Z (ep (.send (kc gN) (tm 37))):=rfl;obtain⟨W,X,J⟩:=L.gate;have JW:dO≠bw:=by decide
 have Zp:bw≠D:=by have:=dD J;omega
 have Fc:w5.heap[bw]?=Z (.chan 5 (if s.dN.isNone then#[cY s.ss]else#[]) Y W X Y):=by
  rw[<-uf,mT _ _ _ _ _ _ _ JW,mT _ _ _ _ _ _ _ JW,<-sS,mT _ _ _ _ _ _ _ Zp.symm,<-nf,l8 _ _ (by have:=dD J;omega),(p.old bw (by have:=dD J;omega)).1];exact J
 obtain⟨c,E,B,V,a,b',iJ,x1,A,x3⟩:=AR K M f4 (aqh z f _) Hb;cases x1;have A:w5.heap[bw]?=Z (.chan E B V a b' iJ):=A;rw[Fc]at A;cases A;obtain⟨rB,I0,JH⟩:=x3 F;have hj:s.dN=I:=by
  cases hjj:s.dN with
  |none=>rfl
  |some j=>rw[hjj]at rB;simp at rB
 rw[hj]at Fc I0 JH C;have I0:fA LL _ ⟨aX 38 ((lP T (n8 u n o m D v.heap.size hv) O).setIfInBounds 37 (cY s.ss)) sX [5,6,7] k z f,s.cs',w5.setChan bw 5 #[] Y W (X+1) Y⟩ 1:=I0;have JH:Good LL R ⟨aX 38 ((lP T (n8 u n o m D v.heap.size hv) O).setIfInBounds 37 (cY s.ss)) sX [5,6,7] k z f,s.cs',w5.setChan bw 5 #[] Y W (X+1) Y⟩:=JH;have Fc:w5.heap[bw]?=Z (.chan 5 #[cY s.ss] Y W X Y):=Fc;rw[abn]at I0 JH;obtain⟨ω,γ,η⟩:=JH.quiet 1 (aqn T O u n o D v.heap.size m (cY s.ss) k z f s.cs' K) M;have S9:(w5.setChan bw 5 #[] Y W (X+1) Y).heap[bw]?=Z (.chan 5 #[] Y W (X+1) Y):=oQ _ Fc _ _ _ _ _ _;obtain⟨c,E,B,V,a,b',iJ,x1,A,x3⟩:=wa K M f6 (aqi T O u n o D v.heap.size m (zu (cY s.ss)) z f) η;cases x1;have A:(w5.setChan bw 5 #[] Y W (X+1) Y).heap[bw]?=Z (.chan E B V a b' iJ):=A;rw[S9]at A;cases A;obtain⟨_,δ,θ⟩:=x3 F;obtain⟨n15,GD,_⟩:=θ.quiet 2 (aqf T O u n o D v.heap.size m _ k z f s.cs' K) M;generalize β:((w5.setChan bw 5 #[] Y W (X+1) Y).setChan bw 5 ((#[]:af ag).push (zu (cY s.ss))) Y (W+1) (X+1) Y)=w6 at*;have dP:∀i y c,s.ao i=Z y->y.s.has c->c<S.heap.size:=λi y c hi hc=>by have:=cP i y c hi hc;omega
 have H2:=(Hp.new (aqo gr O u n o D S.heap.size m k z f s.cs K) F dV dP).quiet 2 (aqp gr O u n o D S.heap.size m _ k z f s.cs K);rw[<-auj (g':=T) u n o m D S.heap.size (.agg (tM u n o m D)) Ss O,<-AE]at H2;have N5:dO<w4.heap.size:=dD NV;have r3:Rel (bS ak) (Ff s.Hid v.heap.size) w3 (bW S (.cells (tM u n o m D) 109)):=by
  rw[<-nf];exact p.rel.asc (c:=yw u n o m) (d:=tM u n o m D) (by simp[yw]) (λi hi=>by
   have hi:i<10:=hi;have:i=0\/i=1\/i=2\/i=3\/i=4\/i=5\/i=6\/i=7\/i=8\/i=9:=by omega
   rcases this with rfl|rfl|rfl|rfl|rfl|rfl|rfl|rfl|rfl|rfl<;>rfl) (by simp[yw,tM])
 have r4:Rel (bS ak) (Ff s.Hid v.heap.size) w4 (bW S (.cells (tM u n o m D) 109)):=by rw[<-sS];exact r3.sV Ry
 have r5:Rel (bS ak) (Ff s.Hid v.heap.size) w5 (bW S (.cells (tM u n o m D) 109)):=by rw[<-uf];exact(r4.sV NV).sV xo
 have r6:Rel (bS ak) (Ff s.Hid v.heap.size) w6 (bW S (.cells (tM u n o m D) 109)):=by rw[<-β];exact(r5.sV Fc).sV S9
 have h5:∀x,w5.heap[x]?=if x=dO then Z (.chan 6 #[ay D] Y (yO+1) (yP+1) Y)else w4.heap[x]?:=λx=>by
  rw[<-uf,heap_setChan _ (by rw[size_setChan];exact N5),heap_setChan _ N5];split<;>rfl
 have YT:∀x,w6.heap[x]?=if x=bw then Z (.chan 5 #[zu (cY s.ss)] Y (W+1) (X+1) Y)else w5.heap[x]?:=λx=>by
  rw[<-β,heap_setChan _ (dD S9),heap_setChan _ (dD Fc)];split<;>rfl
 have h6:∀x,x≠bw->w6.heap[x]?=if x=dO then Z (.chan 6 #[ay D] Y (yO+1) (yP+1) Y)else w4.heap[x]?:=λx hx=>by
  rw[YT,if_neg hx];exact h5 x
 have ν:∃a b,w6.heap[bw]?=Z (.chan 5 #[zu (cY s.ss)] Y a b Y):=⟨_,_,by rw[YT,if_pos F]⟩;have iG:=dD J;have h4:∀x,w4.heap[x]?=if x=D then Z (.chan 2 #[db ⟨v.heap.size,D,0,Y⟩] Y 1 0 Y)else w3.heap[x]?:=λx=>by
  rw[<-sS,heap_setChan _ YU];rfl
 have h3:∀x,w3.heap[x]?=if x=v.heap.size then Z (.cells (yw u n o m) 109)else v.heap[x]?:=λx=>by rw[<-nf,lM]
 have az9:=dD yG;have hE:I4 s.W.heap.size v.heap.size D u n o m s.w s.W w6 (bW S (.cells (tM u n o m D) 109)):=by
  refine⟨by omega,μ,by omega,by rw[r6.size,size_push,BS,C.rel.size];omega,λx hx ψ Tq=>?_,λx hx=>?_,⟨_,_,by rw[h6 _ JW,if_pos F]⟩,⟨1,0,by rw[h6 _ Zp.symm,if_neg (λe=>Za e.symm),h4,if_pos F]⟩,?_,?_,?_,λx hx E B V s' r tm h=>?_⟩
  ·rw[h6 _ Tq,if_neg ψ,h4,if_neg ah,h3,if_neg ah]
   exact(p.old x hx).1
  ·rw[l8 _ _ ah]
   exact(p.old x hx).2
  ·rw[l8 _ _ ah];exact Hj
  ·rw[h6 _ ah,if_neg ah,h4,if_neg ah,h3,if_pos F]
  ·rw[lM,if_pos AE]
  ·rw[h6 _ ah,if_neg ah,h4]at h
   by_cases e:x=D
   ·exact e
   ·rw[if_neg e,h3]at h
    split at h
    ·cases h
    ·exact χ x hx _ _ _ _ _ _ h
 have Al:=C.Um (B1:=B1) hE ν r6 (by rw[size_push];omega);obtain⟨N,gs,w9,sl,T2,q,d,aa,y1,y2,y3,y4,rfl,y5,⟨dd,y6⟩⟩:=H2;subst y5 y6;have tU:∀g l,s.St g l->¬Vd s.Shun v.heap.size l:=λg l hl hS=>by
  rcases hS with hS|hS
  ·exact b.hold.past.apart g l hl hS
  ·have h1:=(C.rN g l hl).1
   have:∃i,l=.cell (bn v.heap.size i):=hS.elim (λe=>⟨_,e⟩) λe=>⟨_,e⟩;obtain⟨ii,rfl⟩:=this;have:=(C.rel.m9 _ h1).1;have:v.heap.size<s.w.heap.size:=this;omega
 have C9:=fg.mO (Bn:=Vd s.Shun v.heap.size) y4.xX (λl h=>.inl h) tU C.Bq;have BC:=Al.re dd;rw[<-y2]at BC;obtain⟨s',hb,⟨N2,vI⟩,z1,z2,z3,z4,z5,z6,_,_,⟨τ,d2,z7⟩,_,dW,eW⟩:=settle (sl:=sl) C9 y3 BC ⟨38,lP T (n8 u n o m D v.heap.size (.agg (tM u n o m D))) O,k,z,.run,f,I⟩ s.cs';obtain⟨N0,tT⟩:=hm;have Td:tI s':=by
  refine i.nH.uy (by rw[e1]) z5 (z6.trans hj.symm) ?_;rw[z1,z2,z3,z4];refine st.bX ?_ (by rw[e3]) (by rw[e3]);subst hk;exact⟨_,F,.cons (.code (.same _ al)) .nil,uS,.inl F⟩
 have bG:s'.cu=⟨⟨38,lP T (n8 u n o m D v.heap.size (.agg (tM u n o m D))) O,k,z,.run,f,I⟩,s.cs',re (re w6 (bW S (.cells (tM u n o m D) 109)).tape dd) τ d2⟩:=by unfold eC.cu;rw[z1,z2,z7]
 obtain⟨kk,FX,EA,cK,hL⟩:∃kk FX EA,0<kk/\ku LL ⟨⟨38,t,.code F5::k,z,.run,f,I⟩,s.cs',s.w⟩ s'.cu kk FX EA:=by
  rw[bG];have ι:=(((((((L1.trans L2).trans L3).trans L4).trans L5).trans L6).trans L7).trans L8).trans L9;have κ:=((((((((Lp.trans oq).trans zM).trans GB).trans Ex).trans GC).trans I0).trans γ).trans δ).trans GD;exact⟨_,_,_,by omega,((ι.wy (a:=λ_ _=>0)).trans LD).trans (κ.wy (a:=λ_ _=>0))⟩
 exact⟨s',kk,FX,EA,⟨hb,Td⟩,⟨⟨N0+N+N2,kK (kK tT y1) vI⟩,by
  have BD:=hE.dead L b.core.rel;rw[eW,z7];exact(((BD.at _).at _).re _ _).re _ _⟩,cK,hL⟩
end
section
variable {R:ag->ax->Prop}{w:ax}{X:ae aA}
theorem ajP{f}{a}{c}{b}{t}{k}(i:Good LL R ⟨⟨f,t,.code (.refuse b)::k,c,.run,a,I⟩,X,w⟩)(m:X≠[]):False:=by
 obtain⟨τ,d,_,n,l,j,h⟩:=i (λ_ _=>0);obtain⟨o,e,p⟩:∃o e,aE LL U (G ⟨f,t,.code (.refuse b)::k,c,.run,a,I⟩ X) (re w τ d)=.ended o e #[]:=⟨_,_,by rfl⟩;obtain⟨q,g,_⟩:=Lk ⟨n,l,j,h⟩ F;cases g
end
theorem aix(a):bO LL 46 a .normal=⟨46,pad 84 a,[.code (.refuse "")],[],.run,.normal,I⟩:=al
theorem anH{R}{s}(i:Inv s)(m:Good LL R s.cu)(P:¬over s.fr s.cs):∃G k n b,Inv G/\Real s G/\0<k/\ku LL s.cu G.cu k n b:=by
 by_cases H:∃j v,s.dN=Z j/\s.fr'=j.A'.finish v/\s.cs'=j.L'/\s.fr=j.A.finish v/\s.cs=[wrap]
 ·obtain⟨j,v,u,g,d,o,p⟩:=H
  cases i.nH with
  |main h _ _=>rw[u]at h;cases h
  |work V h D C _=>rw[u]at h;cases h;exact aaX i m u D C g d o p
  |back V h D C _ _ _ _ _=>rw[u]at h;cases h;exact aaX i m u D C g d o p
 ·by_cases y:tE s
  ·obtain⟨r,O,W,a,l,⟨f,B,qM,g,o,T⟩,d,p,q⟩:=id y
   have N:∀{k},r=k->k=.deferred->f=44:=λe d=>PZ (T (e.trans d));rcases q with⟨rfl,x,q⟩|⟨rfl,x,q⟩
   ·rcases X4 qM with rfl|rfl|rfl|rfl|rfl
    ·exact apT i m y q g d o p x
    ·exact apV i m y q g d o p x
    ·exfalso
     rw[aix]at g;have:s.cu=⟨⟨46,pad 84 B,[.code (.refuse "")],[],.run,.normal,I⟩,O::W,s.w⟩:=by unfold eC.cu;rw[g,d]
     rw[this]at m;exact ajP m ba
    ·exact apU i m y q g d o p
    ·exact apS i m q g d o p x
   ·have:=N rfl rfl
    subst this;exact apW i m y q g d o p x
  ·by_cases J:LB tH s.fr' s.fr
   ·have A:ky s.E s.fr' s.cs' s.fr s.cs:=by
     cases i.nH with
     |main _ _ A=>simp_all
     |work j h D C A=>simp_all
     |back j h D C v g d o p=>grind
    obtain⟨x,c',c,k',k,L,t2,S⟩:=J;obtain⟨tt,E,_⟩:=A.fr;generalize z:s.fr=Q at*;obtain⟨fn,t,M,ds,K,r,ro⟩:=Q;subst x t2;rw[E]at L;subst L;cases S with
    |D5 _ h=>exact apO i m (z▸A) h E z
    |Cl _ h=>exact apQ i m (z▸A) h E z
    |pq _ h=>exact apN i m (z▸A) h E z
   ·exact anG i (λj v u g d o p=>H ⟨j,v,u,g,d,o,p⟩) y J P m
theorem apo{R}{g}{w}(A:g.mode=.returning)(u:g.defers=[])(z:g.kind=.normal){n}{r}(d:dG LL (n+1) (lone g [hY LL] w)=.next r)(y:wW LL R r):False:=by
 obtain⟨j,a,b,i,s,q,p⟩:=g;subst A u z;have t:∀(v)(w),rW LL U ⟨j,a,b,[],.returning,.normal,p⟩ [hY LL] I v w=dZ ((hY LL).finish v) [] w #[]:=λ_ _=>rfl;have l:(∃v c es,aE LL U (G ⟨j,a,b,[],.returning,.normal,p⟩ [hY LL]) w=dZ ((hY LL).finish v) [] c es)\/u6 (aE LL U (G ⟨j,a,b,[],.returning,.normal,p⟩ [hY LL]) w)=U:=by
  cases h1:LL.funcs[j]? with
  |none=>exact .inl ⟨a.getD 0 aB,w,#[],by simp only[G,aE,lT,h1,t]⟩
  |some f=>
   cases aL:(results f a).run LL w with
   |ok v c=>
    have k:(results f a).runT LL w #[]=(.ok v c,(results f a).events LL w #[]):=by rw[jN,aL]
    refine .inl ⟨v,c,?_⟩;simp only[G,aE,lT,h1,k];exact⟨_,F⟩
   |halt x c=>
    have k:(results f a).runT LL w #[]=(.halt x c,(results f a).events LL w #[]):=by rw[jN,aL]
    refine .inr ?_;simp only[G,aE,lT,h1,k];cases x<;>rfl
 rcases l with⟨v,c,es,h⟩|h
 ·simp only[dG,fe h]at d
  cases n with
  |zero=>
   simp only[dG,yc]at d;subst d;obtain⟨B,E,C,e,_⟩:=y;have:=congrArg (λm:fT=>(m.gs[0]?).map (·.callers)) e;simp[lone]at this
  |succ n=>
   cases d
 ·obtain⟨o,D,e⟩:=Cq h
  simp only[dG,e]at d;cases d
theorem aec{P}{Spec}{c0}{E}{b c}{a d}(h:mW P Spec c0 E b a c d)(e:d=[]):a=[c0]/\fG P Spec b c/\c.kind=.normal/\inner c.fn=Y:=by
 cases h with
 |CX h _ g f=>simp_all
 |under=>cases e
 |bound=>cases e
theorem aaP:∀{b},cY b=ai 0->∀s∈b,s.st=U
 |[],_,s,a=>by cases a
 |x::b,h,s,a=>by
  simp only[cY]at h;split at h
  ·rename_i c
   rcases bM.1 a with rfl|a
   ·exact c
   ·exact aaP h s a
  ·cases h
theorem runT_crowd_ended{P}{a}{w b}{sl}{i}{g}{o}{es}(d:a[i]?=Z g)(h:aE P (i==0) g w=.ended o b es):runT P (crowd a w sl) i=(.ended o b,dk i g.frame.fn g.frame.place es):=by
 obtain⟨aC,rfl⟩:=iy.1 d;have c:=swapAt_of_lt aC {(default:aH)with status:=.finished};show runT P {world:=w,gs:=a,rest:={timers:=#[],alone:=I,slice:=sl}} i=_;unfold runT;simp only[c,h,GStep.es]
theorem aiU{s}(b:Base s){i:ax}{o:ax}(w:o.heap.size<=i.heap.size){e}(h:rk s.Hid o.heap.size e):CK s.St s.Shun (max s.B i.heap.size) e:=by
 obtain⟨l,u,t⟩:=e;cases l with
 |cell a=>
  obtain⟨j,m,v⟩:=h;refine⟨λx c=>?_,by simp,by simp,?_⟩
  ·simp only[gI,lS,gB]at c
   subst c;exact⟨λg d=>absurd (b.core.rN g _ d).1 j,λd=>absurd (b.core.U' d) j⟩
  ·show a.block<_
   omega
 |obj r=>
  obtain⟨j,m⟩:=h;have q:r<max s.B i.heap.size:=by omega
  have k:∀x:Touch,x.loc=.obj r->Bo s.St s.Shun x:=λx n=>by
   refine⟨λg d=>?_,λd=>?_⟩
   ·obtain⟨a,e,_⟩:=(b.core.rN g _ d).2
    rw[n]at e;cases e
   ·obtain⟨y,_,e⟩:=(b.core.mO _).1 d
    rw[n]at e;rcases e with e|e<;>cases e
  cases t<;>cases u<;>first
   |exact⟨λx c=>by simp only[gI,lS,gB]at c;subst c;exact k _ rfl,by simp,by simp,q⟩
   |(simp at m)
 |mark p=>
  cases p with
  |extern f=>exact⟨λx c=>by simp[gI,lS]at c,by simp,by simp,trivial⟩
  |noRoom=>exact⟨λx c=>by simp[gI,lS]at c,by simp,by simp,trivial⟩
  |_=>exact h.elim
 |_=>exact h.elim
theorem anB:Tryz.prog.inits=#[2]:=al
theorem atY{a}{tmps}{todo}{ro}{v}{W1}(b:Tryz.prog.inits.idxOf? a=I):rW ak (0==0) ⟨a,tmps,todo,[],.returning,.normal,ro⟩ [] I v W1=.ended (.done v) W1 #[]:=by
 show(match Tryz.prog.inits.idxOf? a with
  |some k=>GStep.go {frame:=bO ak (Tryz.prog.initFrom (k+1)) #[] .normal,callers:=[],status:=.running,dying:=I} W1
  |none=>.ended (.done v) W1)=_
 rw[b]
theorem aio{R}(hR:∀v w,R v w->∃a b,w.heap[bw]?=Z (.chan 5 #[ai 0] Y a b Y)){s}(i:Inv s)(D:Good LL R s.cu)(BQ:over s.fr s.cs):∃v o c V,stepT ak s.m=(.ended (.done v) o,c)/\R v V/\V.heap=s.w.heap/\V.os=s.w.os/\V.output=s.w.output/\Rel (bS ak) s.Hid s.w o/\mU s.w s.W s.w o/\(∀L,¬Race L (s.T++c))/\(s.T++c).HandedOver/\s.m.OnlyLeaving ak/\s.m.EndHearing ak (s.T++c):=by
 obtain⟨l7,hm,hd⟩:=BQ;have b:=i.base;have C:=b.core;have hr:=C.rel;obtain⟨e0,hf,E,oz⟩:s.cs'=[hY LL]/\fG ak tH s.fr' s.fr/\s.fr.kind=.normal/\inner s.fr.fn=Y:=by
  have hF:¬tE s:=λ⟨K,a',l',a,l,_,_,e,_⟩=>by simp_all
  cases i.nH with
  |main _ _ st=>exact aec (st.resolve_right hF) l7
  |work j _ _ _ st=>exact aec (st.resolve_right hF) l7
  |back j _ _ _ v _ _ _ e=>simp_all
 obtain⟨tt,H,_⟩:=hf;obtain⟨τ,d,kV,n,m',N,kA⟩:=D _;have qK:s.cu.on τ d=lone s.fr' [hY LL] (re s.w τ d):=by unfold eC.cu ik.on;rw[e0]
 rw[qK]at N;have HC:s.fr'.mode=.returning:=by rw[H];exact hm
 have JY:s.fr'.defers=[]:=by rw[H];exact hd
 have cI:s.fr'.kind=.normal:=by rw[H];exact E
 cases n with
 |succ n=>exact(apo HC JY cI N kA).elim
 |zero=>
 simp only[dG,yc]at N;subst N;obtain⟨fp,w2,v,e1,hl,Y3⟩:=kA;have ef:s.fr'=fp:=by
  have:=congrArg (λm:fT=>(m.gs[0]?).map (·.frame)) e1;simpa[lone]using this
 have ew:re s.w τ d=w2:=congrArg (·.world) e1;subst ef ew;obtain⟨ga,gb,u⟩:=C.ft.gate;obtain⟨rv,ry,A⟩:=hR _ _ Y3;have A:s.w.heap[bw]?=Z (.chan 5 #[ai 0] Y rv ry Y):=A;rw[u]at A;have hj:s.dN=I:=by
  cases hj:s.dN with
  |none=>rfl
  |some j=>
   simp_all
 have β:cY s.ss=ai 0:=by
  rw[hj]at A;simp at A;exact A.1
 have aF:=aaP β;have h0:=i.nH.h0 hj;have hI:∀x,s.ao x=I:=λx=>by
  cases e:s.ao x with
  |none=>rfl
  |some y=>
   rcases C.zj x y e with⟨k,_,t,ht,_,B,_⟩|⟨j,B,_⟩
   ·simp_all
   ·simp_all
 obtain⟨_,_,_,f',vM,aL⟩:=hl;have Fa:s.fr'.fn=s.fr.fn:=by rw[H]
 have AA:s.fr'.tmps=s.fr.tmps:=by rw[H]
 rw[Fa]at vM;rw[AA]at aL;obtain⟨f,Y2,Fu⟩:∃f,Tryz.prog.funcs[s.fr.fn]?=Z f/\f'.results=f.results:=by
  rcases(Ve s.Hid).res s.fr.fn with⟨h1,_⟩|⟨g',g,h1,J,h3⟩
  ·simp_all
  ·simp_all
 have tZ:results f' s.fr.tmps=results f s.fr.tmps:=by unfold results;rw[Fu]
 rw[tZ]at aL;have S:=adT (P:=ak) (fs:=fs) (fx:=bS ak) (Hid:=s.Hid) (rs:=[]) f s.fr.tmps;obtain⟨_,nn,T,B,pO⟩:=(S _ _ (hr.re _ d) ba).1 v _ aL;have J:=pO s.w.tape s.w.drawn λi _ q=>(kV i q).symm;have Zj:d=d+nn:=congrArg (·.drawn) B;have ζ:nn=0:=by omega
 subst ζ;have rF:re T s.w.tape (s.w.drawn+0)=s.w:=by
  have q1:s.w.heap=T.heap:=congrArg (·.heap) B;have q2:s.w.os=T.os:=congrArg (·.os) B;have q3:s.w.output=T.output:=congrArg (·.output) B;unfold YtgahemdblfapeaaGreatDoor.re;rw[<-q1,<-q2,<-q3];rfl
 rw[rF]at J;have J:=J;obtain⟨⟨o,Q,hS,eF,dx,qL⟩,_⟩:=(S _ _ hr ba).1 v _ J;have sL:(results f s.fr.tmps).runT ak s.W #[]=(.ok v o,Q):=by rw[hS];simp
 have NY:Tryz.prog.inits.idxOf? s.fr.fn=I:=by
  rw[anB];have:s.fr.fn≠2:=λe=>by rw[e]at oz;cases oz
  exact Array.idxOf?_eq_none_iff.2 (by simpa using this)
 have gX:aE ak (s.h==0) (G s.fr s.cs) s.W=.ended (.done v) o (seen ak s.fr.fn Q):=by
  rw[h0,l7];generalize s.fr=fr at*;obtain⟨fn,p,r,M,η,K,ro⟩:=fr;simp only at hm hd E Y2 sL NY;subst hm hd E;simp only[G,aE,lT,Y2,sL];have Am:=atY (tmps:=p) (todo:=r) (ro:=ro) (v:=v) (W1:=o) NY;rw[Am];simp[mx]
 have ZY:=runT_crowd_ended (P:=ak) (sl:=s.sl) b.top gX;have gQ:∀e∈seen ak s.fr.fn Q,CK s.St s.Shun (max s.B o.heap.size) e:=λe he=>aiU b (Nat.le_of_eq eF.size) (qL e (Cz he));obtain⟨X,γ,δ,ε⟩:=JC (i:=s.h) (fn:=(G s.fr s.cs).frame.fn) (pos:=(G s.fr s.cs).frame.place) gQ;have hP:=CL (b.hold.past.mono (Nat.le_max_left _ _)) X γ (λ_=>ε _) δ;generalize cO:dk s.h (G s.fr s.cs).frame.fn (G s.fr s.cs).frame.place (seen ak s.fr.fn Q)=c at hP ZY X;obtain⟨wm,θ,W⟩:=b.apX;have Zz:∀x g,x≠0->s.gs[x]?=Z g->QuitsD ak (s.q x) (eh s.T x) g:=λx g O h=>by
  have:=b.hold.idle x g (by rw[h0];exact O) h;rw[hI x]at this;exact this.2
 refine⟨v,o,c,re s.w τ d,b.bX.trans ZY,Y3,F,F,F,eF,dx.dead C.ft,hP.clean,λx g h az hc=>?_,⟨λg D=>?_,by rw[W];rfl⟩,λx g h az=>?_⟩
 ·obtain⟨a,ha,fZ,hh⟩:=hc
  have gz:touchAt (s.T++c) x=Z a:=ha;rcases hP.known x a gz fZ with E|⟨_,y,_,HA,_⟩|⟨_,dM,uV⟩
  ·rw[h0]at E
   obtain⟨q,z,hq,hz,hb⟩:=E;rcases hb with e|hb
   ·subst e
    rw[g?_of hq]at h;exact absurd ((ee h).symm.trans hz) az
   ·exact⟨q,by rw[g?_of hq,hz],hb⟩
  ·grind
  ·grind
 ·rw[W]at D
  have D:g∈s.gs.toList.drop 1:=D;obtain⟨x,O⟩:=List.mem_iff_getElem?.1 D;have h:s.gs[x+1]?=Z g:=by
   rw[List.getElem?_drop,Cy,Nat.add_comm]at O;exact O
  exact⟨_,(Zz _ g ah h).leaves⟩
 ·rw[W]at h⊢
  have h:s.gs[x]?=Z g:=h;have kX:(s.T++c).deaf x (s.T++c).size=eh s.T x:=ni _ (g':=s.h) (by omega) _ X;rw[kX];exact⟨_,(Zz x g az h).hears _⟩
def FN(b:Nat)(o:Obj):Obj:=if b=bw then .chan 5 #[ai 0] Y 0 0 Y else if b=dO then .chan 6 #[.chan I] Y 0 0 Y else match o with
 |.view .. |.chan .. |.pending .. |.loop .. |.deferred .. =>.view ⟨0,0,Z 0⟩ 0
 |o=>o
def low(W:ax):ax:={W with heap:=W.heap.mapIdx FN}
theorem Ov(W:ax):(low W).heap.size=W.heap.size:=by simp[low]
theorem B2(W:ax)(b:Nat):(low W).heap[b]?=(W.heap[b]?).map (FN b):=by simp[low]
section
variable {W:ax}
theorem apB(i:∃a b,W.heap[bw]?=Z (.finalizers a b))(j:∃a b,W.heap[dO]?=Z (.finalizers a b)):Rel (bS ak) (λ_=>False) (low W) W:=by
 refine⟨Ov W,F,F,F,F,λb o g=>?_,λ_ h=>h.elim,λ_ h=>h.elim⟩;rw[B2]at g;obtain⟨O,c,e⟩:=fX.1 g;refine⟨O,c,?_⟩;subst e;unfold FN;by_cases d:b=bw
 ·subst d
  obtain⟨x,y,h⟩:=i;rw[c]at h;cases h;rw[if_pos F];exact .k8 _ _ _ _ _ _ _ (λh=>h)
 ·rw[if_neg d]
  by_cases f:b=dO
  ·subst f
   obtain⟨x,y,h⟩:=j;rw[c]at h;cases h;rw[if_pos F];exact .k8 _ _ _ _ _ _ _ (λh=>h)
  ·rw[if_neg f]
   cases O<;>first|exact .view _ _ trivial|exact .same _ trivial
theorem apx{b c s r:Nat}{a:af ag}{d tm:Bool}(h:(low W).heap[b]?=Z (.chan c a d s r tm)):(b=bw/\c=5/\a=#[ai 0]/\d=Y/\tm=Y)\/(b=dO/\c=6/\a=#[.chan I]/\d=Y/\tm=Y):=by
 rw[B2]at h;obtain⟨O,i,e⟩:=fX.1 h;unfold FN at e;by_cases f:b=bw
 ·rw[if_pos f]at e;cases e;exact .inl ⟨f,F,F,F,F⟩
 ·rw[if_neg f]at e
  by_cases g:b=dO
  ·rw[if_pos g]at e;cases e;exact .inr ⟨g,F,F,F,F⟩
  ·rw[if_neg g]at e
   cases O<;>cases e
theorem apA(g:∃a b,W.heap[bw]?=Z (.finalizers a b))(i:∃a b,W.heap[dO]?=Z (.finalizers a b)):fO (λ_=>False) U [] [] (low W) W:=by
 refine⟨(λ_ h=>by cases h),(λ_ h=>by cases h),λb d c j x y tm f=>?_,?_,?_,(λ_ h=>by cases h),(λ_ h=>by cases h),(λ_ h=>by cases h),(λ_ h=>by cases h),(λ_ h=>by cases h),(λ_ h=>by cases h),List.nodup_nil,List.nodup_nil⟩
 ·rcases apx f with⟨rfl,rfl,rfl,rfl,rfl⟩|⟨rfl,rfl,rfl,rfl,rfl⟩
  ·exact⟨rfl,rfl,.gate rfl,(λe=>by cases e)⟩
  ·exact⟨rfl,rfl,.hand rfl,(λe=>by cases e)⟩
 ·obtain⟨x,y,h⟩:=g
  exact⟨0,0,by rw[B2,h];rfl⟩
 ·obtain⟨x,y,h⟩:=i
  exact⟨.chan I,0,0,by rw[B2,h];rfl,.inl rfl⟩
abbrev OG:Nat->Loc->Prop:=λ_ _=>False
theorem apy(c:∃a b,W.heap[bw]?=Z (.finalizers a b))(d:∃a b,W.heap[dO]?=Z (.finalizers a b))(n:Nat):Core (λ_=>False) OG OG (λ_=>False) (λ_=>I) [] [] I W.heap.size n (low W) W:=⟨apB c d,apA c d,dt _,λ_ _ h=>h.elim,λl=>⟨λh=>h.elim,(λ⟨_,h,_⟩=>by cases h)⟩,(λ_ h=>by cases h),λ_ _ h=>h.elim,(λ_ h=>by cases h),(λ_ h=>by cases h),(λ_ h=>by cases h),(λ_ _ h=>by cases h),(λ_ h=>by cases h),(λ_ h=>by cases h)⟩
theorem atq(c:Bool):¬Race c #[]:=by
 rintro⟨i,j,_,⟨a,b,d,_⟩,_⟩;simp[Trace.act?]at d
theorem apz{g:aH}:fg ak OG OG (λ_=>False) (λ_=>I) 0 W.heap.size #[] #[g] W (λ_=>0):=by
 refine⟨λx y d f=>?_,(λ_ _ _ h=>by cases h),(λ_ _ h=>by cases h),(λ_ _ _ _ h=>by cases h),λj i=>rfl,λ_ h=>absurd F h,(λ_ _ h=>by cases h),λx d=>.inr (d.elim (λh=>absurd F h) id),(λ_ _ _ h=>by cases h),?_,(λ_ _ h=>by cases h),(λ_ _ _ h=>by cases h),λ_ _ _=>⟨λh=>h,λh=>h⟩⟩
 ·have:=(iy.1 f).1
  have e:x<1:=this;exact absurd (Nat.lt_one_iff.1 e) d
 ·refine⟨λb=>atq b,λx a c=>?_,λx a c=>?_,λ_ _=>rfl,λk h=>by simp at h,λ_ _ h=>h.elim,λx a c=>?_⟩<;>simp[touchAt,Trace.act?]at c
end
theorem anF{s:eC}(i:Inv s):s.cs'≠[]:=by
 have c:tE s->s.cs'≠[]:=λ⟨d,m,n,a,l,_,e,_⟩h=>by rw[h]at e;cases e
 cases i.nH with
 |main _ _ b=>exact b.elim ky.ne c
 |work j _ _ _ b=>exact b.elim ky.ne c
 |back j _ g _ v _ e _ _=>
  obtain⟨p,k,a0,o,f,_⟩:=g.nH;rw[e,f];simp
theorem aq6{W:ax}{Hid:Loc->Prop}{w g:ax}(z:Rel (bS ak) Hid w g)(e:mU (low W) W w g)(y:∀b:Nat,b<W.heap.size->b≠bw->b≠dO->w.heap[b]?=(low W).heap[b]?)(b:Nat)(l:b<W.heap.size):g.heap[b]?=W.heap[b]?:=by
 by_cases i:b=bw
 ·exact e.r b (.inr (.inl i))
 ·by_cases j:b=dO
  ·exact e.r b (.inr (.inr j))
  ·have h:=y b l i j
   have k:W.heap[b]?=Z W.heap[b]:=xY l;rw[B2,k]at h;simp only[jE,FN,if_neg i,if_neg j]at h;have f:(low W).heap[b]?=Z (match W.heap[b]with
    |.view .. |.chan .. |.pending .. |.loop .. |.deferred .. =>.view ⟨0,0,Z 0⟩ 0
    |o=>o):=by
    rw[B2,k];simp only[jE,FN,if_neg i,if_neg j]
   have m:=e.sh b (by rw[Ov];exact l);have n:∀o:Obj,w.heap[b]?=Z o->W.heap[b]=o->qS o=Y->g.heap[b]?=W.heap[b]?:=λo s q r=>by
    obtain⟨O,p,x⟩:=z.obj b o s;cases x with
    |same=>rw[p,k,q]
    |cut c d t A B aC=>
     unfold fF at m;rw[p,k,q]at m;simp at m;omega
    |k8=>cases r
    |view=>cases r
   generalize v:W.heap[b]=O at*;cases O with
   |view a u=>exact e.r b (.inl ⟨_,f⟩)
   |chan=>exact e.r b (.inl ⟨_,f⟩)
   |pending=>exact e.r b (.inl ⟨_,f⟩)
   |loop=>exact e.r b (.inl ⟨_,f⟩)
   |deferred=>exact e.r b (.inl ⟨_,f⟩)
   |_=>exact n _ h F F
theorem X6(P:aD)(f:cH)(a:af ag):(bO P f a .normal).fn=f/\(bO P f a .normal).roundOf=I/\(bO P f a .normal).kind=.normal:=⟨F,F,F⟩
theorem ay3{a:af ag}{E:aA->ae aA->aA->ae aA->Prop}(h:GL ak fs tH .normal (bO LL f a .normal) (bO ak f a .normal))(e:inner f=Y):ky E (bO LL f a .normal) [hY LL] (bO ak f a .normal) []:=by
 obtain⟨d,j,k⟩:=X6 ak f a;rcases h with h|⟨i,b,l,_,g,_⟩
 ·exact .CX h j k (by rw[d];exact e)
 ·have c:=congrArg Frame.fn g
  rw[d,(X6 ak i b).1]at c;subst c;rcases X4 l with rfl|rfl|rfl|rfl|rfl<;>cases e
theorem close{c:af ag}{Rl O:ag->ax->Prop}{W:ax}(hf:inner f=Y)(hb:hasB fs f=U)(B:∃a b,W.heap[bw]?=Z (.finalizers a b))(hh:∃a b,W.heap[dO]?=Z (.finalizers a b))
  (P:∀v w,Rl v w->(∃a b,w.heap[bw]?=Z (.chan 5 #[ai 0] Y a b Y))/\w.os=W.os/\w.output=W.output/\∀b:Nat,b<W.heap.size->b≠bw->b≠dO->w.heap[b]?=(low W).heap[b]?)
  (hL:∀t d,Reach LL Rl (lone (bO LL f c .normal) [hY LL] (re (low W) t d)))
  (hP:∀v w j,Rl v w->j.os=W.os->j.output=W.output->W.heap.size<=j.heap.size->(∀b:Nat,b<W.heap.size->j.heap[b]?=W.heap[b]?)->O v j):
  ∃M last o C x,iz ak (M+1) (solo (G (bO ak f c .normal) []) W) #[]=(.ended o C,x)/\dG ak M (solo (G (bO ak f c .normal) []) W)=.next last/\step ak last=.ended o C/\Conc.Good ak O last o C x:=by
 obtain⟨u,qJ,⟨e,tT⟩,J,K,e3,e4,e5,e6,e7,e8,⟨τ,d,z⟩,_,dW,T⟩:=settle (sl:=I) (apz (W:=W) (g:=G (bO ak f c .normal) [])) (by rfl) (apy B hh 1) (bO LL f c .normal) [hY LL];have hT:=(Ve (λ_=>False)).enter f c hb;have gR:Inv u:=by
  refine⟨qJ,.main e6 e5 (.inl ?_)⟩;rw[J,K,e3,e4];exact ay3 hT hf
 have kW:u.cu=⟨bO LL f c .normal,[hY LL],re (low W) τ d⟩:=by unfold eC.cu;rw[J,K,z]
 obtain⟨s,V,hi,kA,y⟩:=avh (L:=LL) (R:=Rl) (Inv:=Inv) (Fin:=λs=>over s.fr s.cs) (cu:=eC.cu) (Real:=Real) (x0:=u.cu) u (Real.refl _) (λ_ _=>Real.trans) (λs i=>anF i) gR F
  (λt d=>by rw[kW];exact hL t d) λs i cL B=>anH i B cL
 obtain⟨v,k,l,Q,m,n,h3,h4,h5,p,h7,h8,h9,iN,S⟩:=aio (λv w h=>(P v w h).1) hi y kA;obtain⟨⟨N,hN⟩,D⟩:=V;obtain⟨_,r2,r3,r4⟩:=P v Q n;have hz:W.heap.size<=k.heap.size:=by
  have E:=D.sz;have a2:=p.size;rw[z]at E;have a3:(low W).heap.size<=s.w.heap.size:=E;rw[Ov]at a3;omega
 have A:mU (low W) W s.w k:=by
  have q:=D.trans h7;rw[z,T]at q;exact⟨q.v,q.r,q.sz,q.sh⟩
 have H:=kK tT hN;refine⟨e+N,s.m,.done v,k,s.T++l,?_,?_,by rw[step,m],v,F,hP v Q k n (by rw[<-p.os,<-h4,r2]) (by rw[<-p.output,<-h5,r3]) hz λb rB=>?_,h8,h9,iN,S⟩
 ·have:iz ak 1 s.m s.T=(.ended (.done v) k,s.T++l):=by simp[iz,m]
  rw[show e+N+1=(e+N)+1 from F,runNT_add];show(match iz ak (e+N) (crowd #[G (bO ak f c .normal) []] W I) #[]with
   |(.next m',x)=>iz ak 1 m' x
   |r=>r)=_
  rw[H];exact this
 ·have:=runNT_fst ak (e+N) (crowd #[G (bO ak f c .normal) []] W I) #[]
  rw[H]at this;exact this.symm
 ·exact aq6 p A (λb m n X=>by rw[<-h3];exact r4 b m n X) b rB
end
end Go.Proofs.YtgahemdblfapeaaGreatDoor
