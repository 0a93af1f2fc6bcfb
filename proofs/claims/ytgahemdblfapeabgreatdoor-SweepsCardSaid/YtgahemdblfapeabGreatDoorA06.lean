/- Helper lemmas, part 6: what the steps of the program do in the model; each holds under its own hypotheses. -/
import Derived.Test.YtgahemdblfapeabGreatDoorA05
set_option maxRecDepth 100000
set_option maxHeartbeats 4000000
set_option linter.all false
namespace Go.Proofs.YtgahemdblfapeabGreatDoor
open Go.Conc
open _root_.Array renaming getElem?_setIfInBounds_ne→iK,getElem?_setIfInBounds_self_of_lt→kJ,replicate→qa
open _root_.Bool renaming and_eq_true→gT,false→Y,false_eq_true→hZ,not_eq_true'→Gp,true→U
open Go renaming Addr→aU,CallKind→dQ,Code→bH,Deferred→cz,Frame→aA,FuncId→cH,Item→aJ,Oper→bq,Operand→iP,Program→aD,TypeId→aK,Value→ag,World→ax,doReturn→rW,eqGuard→lF,execOp→cN,goInt→ai,stepG→aE,undef→aB
open Go.Deferred renaming ofValue→Eg
open Go.Frame renaming enter→bO,eval→bR,finish→jw
open Go.GStep renaming after→qt
open Go.Instr renaming endLoop→wF,endRound→xZ,enterLoop→qb,sliceAt→aBq,sliceBound→aBu
open Go.Next renaming value→mR
open Go.Region renaming noSelect→Em,ready→nK,wanted→wO
open Go.Result renaming andThen→fy
open Go.Sem renaming bind→tB,pure→qi,run→bP,runT_eq→jN
open Go.stepG renaming apply→iA,exec→cf
open _root_.List renaming append_assoc→iL,append_nil→rb,drop_eq_getElem_cons→aBJ,eq_nil_of_length_eq_zero→zC,flatMap_append→IE,getD_eq_getElem?_getD→wI,getElem?_append_left→LZ,getElem?_append_right→Ma,getElem?_cons_zero→qe,getElem?_drop→aBP,getElem?_eq_getElem→eI,getElem?_eq_none→Gr,getElem?_eq_some_iff→dq,getElem?_map→fW,getElem?_set_ne→rK,getElem?_set_self→zD,getElem?_take→aBL,length_append→oe,length_cons→jY,length_eq_zero_iff→IF,length_map→jM,length_nil→tc,length_reverse→IH,length_set→wJ,length_take→CF,map_cons→fw,mem_append→pz,mem_cons→bM,mem_cons_of_mem→eK,mem_cons_self→eX,mem_map→og,mem_map_of_mem→jg,mem_of_getElem?→jZ,mem_singleton→my,nodup_append→zE,nodup_cons→oO,pairwise_append→CH,pairwise_cons→mQ,perm_append_comm→lD,perm_middle→qf,replicate→kq,sum_cons→aBv
open _root_.List.Perm renaming append_left→Gq,cons→CB,swap→CC
open _root_.Nat renaming eq_of_beq_eq_true→CI,le_of_ble_eq_true→zH,le_refl→dt,le_trans→rU,mul_one→x9,zero_le→gJ
open _root_.Option renaming bind_eq_some_iff→nj,bind_some→wN,getD_some→rV,isSome_iff_exists→A7,map_eq_some_iff→fX,map_some→jE,none→I,some→Z,some→iQ
open _root_.Option.some renaming injEq→gB
open _root_.Prod.mk renaming injEq→fN
section
variable {H:Hp}{b:Int}{a d g i j k n s:Nat}{o:Obj}{α:Type}{P:aD}{L:ae En}{f:cH}
section
open Go.Conc (G)
theorem Qd{X:Cx}{b:af bq}{k:ae aJ}{d:ae En->Prop}{l:af Bool}{c:ae cz}{a:Env}{ι:Type}(E:ι->Env)(LL:ι->ae En)(h:∀i,Rs P X k c (E i) (LL i))(e:(∀i,Rs P X k c (E i) (LL i))->df P X b k d n l c a L):df P X b k d n l c a L:=e h
abbrev xK(b:Nat)(g:aj Nat)(n a:Nat):En:=.ob b (.cells #[sv g n a] 45)
def aR.more(x:aR)(c:Nat)(g:aj Nat)(a:Nat):aR:={x with rp:=g,CZ:=a,cl:=x.cl++[c]}
def kY(x:aR)(d:ae Stp)(c:Nat)(b:aj Nat)(a e:Nat):c5:=⟨c,x.cl.length,b,a,d,0,.func (.func 49) #[pt c] #[],e,0,0,0,.nilFunc,.nilFunc⟩
abbrev Bt(o m l:Nat)(x:aR)(g:aj Nat)(e:Nat)(h:ae Stp)(id:Int)(p q:ag)(u:dT)(f:eG)(n:Int)(a:Gc)(b c d a0 j i k:Nat):ae En:=[gv o x.s,xK m g h.length e,iE l id,x.en,bK g e h,x.lE,aQ 1 p,aQ 2 q,gE a b,hE (.chan I) c d,x.uE (u.by f),f.wE a0 j,dE f.d x.s n Y i k]
theorem ag3(k j i:Nat)(x:aR)(g:Option Nat)(e:Nat)(f:List Stp)(id:Int)(h p:Value)(u:dT)(q:eG)(n:Int)(a:Gc)(b c d a0 m l o:Nat)(r:f.length≤4398046511104)(s:(sZ x.ch.length false f&&decide ((f.length:Int)≤200))=false):Fl Sv 47 [pt k,pt j,pt i].toArray (Bt k j i x g e f id h p u q n a b c d a0 m l o) λv L=>v=h∧L=Bt k j i x g e f id h p u q n a b c d a0 m l o:=by
 refine Fl.of 46 λw t=>av [0,1] (eR [3,4] (Pe x g e f r) ?_);rintro _ _ ⟨rfl,rfl⟩;rw[s];exact av [6] (cU [] [h] _ ⟨rfl,rfl⟩)
theorem ag4(k j i:Nat)(x:aR)(g:Option Nat)(e:Nat)(f:List Stp)(id:Int)(p h:Value)(u:dT)(q:eG)(n:Int)(a:Gc)(b c d a0 m l o:Nat)(r:f.length≤4398046511104)(s:(sZ x.ch.length false f&&decide ((f.length:Int)≤200))=true)(y:x.cl.length=8):Fl Sv 47 [pt k,pt j,pt i].toArray (Bt k j i x g e f id p h u q n a b c d a0 m l o) λv L=>v=h∧L=Bt k j i x g e f id p h u q n a b c d a0 m l o:=by
 refine Fl.of 46 λw t=>av [0,1] (eR [3,4] (Pe x g e f r) ?_);rintro _ _ ⟨rfl,rfl⟩;rw[s];exact av [0,3,kT x.cl.length 8,7] (cU [] [h] _ ⟨rfl,rfl⟩)
theorem ag5 (bs bp bo:Nat) (x:aR) (g:Nat) (cap:Nat) (pr:List Stp) (id:Int) (e1 e2:Value) (u:dT) (k0:eG) (n:Int) (a:Gc) (b c d a0 b0 a2 b2:Nat) (hl:pr.length≤4398046511104) (hp:0<pr.length) (hr:(sZ x.ch.length false pr&&decide ((pr.length:Int)≤200))=true) (h8:x.cl.length<8) (hw:x.sw=u.w) (hn:0≤n∧n<9):Fl Sv 47 [pt bs,pt bp,pt bo].toArray (Bt bs bp bo x (some g) cap pr id e1 e2 u k0 n a b c d a0 b0 a2 b2) λv L=>v=.nilIface∧∃q r o f e i k,k.d=k0.d∧L=[gv bs x.s,xK bp (some g) pr.length cap,iE bo x.cl.length,(x.more q r o).en,bK (some g) cap pr,(x.more q r o).lE,aQ 1 e1,aQ 2 e2,gE (a+1) (b+1),hE (.chan none) (c+1) (d+1),x.uE (u.by k0),k0.wE (a0+1) (b0+1),dE k0.d x.s (n+1) false (a2+1) (b2+1),(kY x pr q f e i).pE,(kY x pr q f e i).wE [] 0,k.wE 1 0,x.kE ((kY x pr q f e i).by k)]:=by
 have D:=hw;have B:pr.length≤200:=by
  simp only[Bool.and_eq_true,decide_eq_true_eq]at hr;omega
 refine Fl.of 46 λE C=>av [0,1] (eR [3,4] (Pe x (some g) cap pr hl) ?_);rintro _ _ ⟨rfl,rfl⟩;rw[hr];refine av [0,3,ie x.cl.length 8,0,3,2] (pC 69 3 ?_);refine Qb [0,1,2,5] 6 [2,0,1,0] ?_
 refine Qd (ι:=Option Nat×Nat×Nat×{k:eG//k.d=k0.d}×Nat) (λp=>[(0,pt bs),(1,pt bp),(2,pt bo),(4,pt p.2.2.2.2)]) (λp=>[gv bs x.s,xK bp (some g) pr.length cap,iE bo x.cl.length,x.en,bK (some g) cap pr,x.lE,aQ 1 e1,aQ 2 e2,gE (a+1) (b+1),hE (.chan none) (c+1) (d+1),x.uE (u.by k0),k0.wE (a0+1) (b0+1),dE k0.d x.s (n+1) false (a2+1) (b2+1),(kY x pr p.2.2.2.2 p.1 p.2.1 p.2.2.1).pE,(kY x pr p.2.2.2.2 p.1 p.2.1 p.2.2.1).wE [] 0,p.2.2.2.1.1.wE 1 0,
                                                                                                                 .ob p.2.2.2.2 (.cells #[goInt x.cl.length,pt x.s,sv p.1 pr.length p.2.1,goInt 0,.nilFunc,.map (some p.2.2.1),goInt 0,goInt 0,goInt 0,.chan (some p.2.2.2.1.1.w),.chan (some p.2.2.2.1.1.t)] 143)]) ?_ λm=>?_
 ·rintro⟨f,e,i,⟨k,l⟩,q⟩
  refine av [16] ?_;refine jO 8 [0,0,3] [6,7] [8,9,10] (tD (λ_=>[]) λz=>Gy (app1 115 5 17 x.cl.length ah) ?_);rintro _ _ ⟨r,o,rfl,rfl⟩;refine ib (Fl.run [3] (av [] ?_));refine cU [17] [.nilIface] [gv bs x.s,xK bp (some g) pr.length cap,iE bo x.cl.length,.ob x.s (.cells #[.int .i32 x.mu,.int .u32 0,sv (some x.sb) x.si.length x.si.length,sv (some x.cb) x.ch.length x.vD,.map (some x.mb),goInt x.ck,goInt x.li,sv (some r) (x.cl.length+1) o,sv x.eg x.ev.length x.ec,pt x.sw] 126),bK (some g) cap pr,.row 140 1 (some r) (x.cl.length+1) o (x.cl.map pt++[pt q]),aQ 1 e1,aQ 2 e2,gE (a+1) (b+1),hE (.chan none) (c+1) (d+1),x.uE (u.by k0),k0.wE (a0+1) (b0+1),dE k0.d x.s (n+1) false (a2+1) (b2+1),(kY x pr q f e i).pE,(kY x pr q f e i).wE [] 0,k.wE 1 0,x.kE ((kY x pr q f e i).by k)] ⟨rfl,q,some r,o,f,e,i,k,l,?_⟩;simp[aR.more,aR.en,aR.lE]
 refine eM [3,4] ⟨?_,?_,trivial⟩
 ·refine Ew (MI 45 3 13 4 g 0 pr.length cap 0 (pr.flatMap Stp.cells) (pr.flatMap Stp.cells) hp ah (Bx Stp.len _) (JF Stp.one _) (λj u h=>by rw[Nat.zero_add];exact h)) ?_
  rintro _ _ ⟨y,w,rfl,rfl⟩;have A:(0:Nat)+pr.length=pr.length:=Nat.zero_add _;rw[A];refine ib ?_;refine eM [4,6] ⟨?_,?_,trivial⟩
  ·refine lf (λ_=>[]) λt=>?_
   refine eM [6] ⟨?_,trivial⟩
   ·refine Gx [8,9,3,10,11,12] (Iz x u k0 n a b c d a0 b0 a2 b2 hw hn) ?_
    rintro _ _ ⟨k,l,rfl,rfl⟩;refine ib ?_;refine eM [7] ⟨lY [] (eM [8] ⟨lf (λ_=>[]) λs=>eM [9] ⟨lY [] (wT ?_),trivial⟩,trivial⟩),trivial⟩;exact cq (m (some y,w,t,⟨k,l⟩,s))
  ·refine Gx [8,9,3,10,11,12] (Iz x u k0 n a b c d a0 b0 a2 b2 hw hn) ?_
   rintro _ _ ⟨k,l,rfl,rfl⟩;refine ib ?_;refine eM [4] ⟨?_,trivial⟩
   ·refine lf (λ_=>[]) λt=>?_
    refine eM [7] ⟨lY [] (eM [8] ⟨lf (λ_=>[]) λs=>eM [9] ⟨lY [] (wT ?_),trivial⟩,trivial⟩),trivial⟩;exact Eu [0,1,2,3,4,5,6,7,8,9,10,11,12,13,15,14,16] (cq (m (some y,w,t,⟨k,l⟩,s)))
 ·refine lf (λ_=>[]) λt=>?_
  refine eM [3] ⟨?_,trivial⟩
  ·refine Ew (MI 45 3 13 4 g 0 pr.length cap 0 (pr.flatMap Stp.cells) (pr.flatMap Stp.cells) hp ah (Bx Stp.len _) (JF Stp.one _) (λj u h=>by rw[Nat.zero_add];exact h)) ?_
   rintro _ _ ⟨y,w,rfl,rfl⟩;have A:(0:Nat)+pr.length=pr.length:=Nat.zero_add _;rw[A];refine ib ?_;refine eM [6] ⟨?_,trivial⟩
   ·refine Gx [8,9,3,10,11,12] (Iz x u k0 n a b c d a0 b0 a2 b2 hw hn) ?_
    rintro _ _ ⟨k,l,rfl,rfl⟩;refine ib ?_;refine eM [7] ⟨lY [] (eM [8] ⟨lf (λ_=>[]) λs=>eM [9] ⟨lY [] (wT ?_),trivial⟩,trivial⟩),trivial⟩;exact cq (m (some y,w,t,⟨k,l⟩,s))
theorem ag6 (bs bp bo:Nat) (x:aR) (g:Option Nat) (cap:Nat) (pr:List Stp) (id:Int) (e1 e2:Value) (u:dT) (k0:eG) (n:Int) (a:Gc) (b c d a0 b0 a2 b2:Nat) (hl:pr.length≤4398046511104) (hp:pr=[]) (hr:(sZ x.ch.length false pr&&decide ((pr.length:Int)≤200))=true) (h8:x.cl.length<8) (hw:x.sw=u.w) (hn:0≤n∧n<9):Fl Sv 47 [pt bs,pt bp,pt bo].toArray (Bt bs bp bo x g cap pr id e1 e2 u k0 n a b c d a0 b0 a2 b2) λv L=>v=.nilIface∧∃q m l f e h k,k.d=k0.d∧L=[gv bs x.s,xK bp g pr.length cap,iE bo x.cl.length,(x.more q m l).en,bK g cap pr,(x.more q m l).lE,aQ 1 e1,aQ 2 e2,gE (a+1) (b+1),hE (.chan none) (c+1) (d+1),x.uE (u.by k0),k0.wE (a0+1) (b0+1),dE k0.d x.s (n+1) false (a2+1) (b2+1),(kY x pr q f e h).pE,(kY x pr q f e h).wE [] 0,k.wE 1 0,x.kE ((kY x pr q f e h).by k)]:=by
 subst hp;refine Fl.of 46 λt s=>av [0,1] (eR [3,4] (Pe x g cap ([]:List Stp) hl) ?_);rintro _ _ ⟨rfl,rfl⟩;rw[hr];refine av [0,3,ie x.cl.length 8,0,3,2] (pC 69 3 ?_);refine Qb [0,1,2,5] 6 [2,0,1,0] ?_
 refine Qd (ι:=Option Nat×Nat×Nat×{k:eG//k.d=k0.d}×Nat) (λp=>[(0,pt bs),(1,pt bp),(2,pt bo),(4,pt p.2.2.2.2)]) (λp=>[gv bs x.s,xK bp g ([]:List Stp).length cap,iE bo x.cl.length,x.en,bK g cap ([]:List Stp),x.lE,aQ 1 e1,aQ 2 e2,gE (a+1) (b+1),hE (.chan none) (c+1) (d+1),x.uE (u.by k0),k0.wE (a0+1) (b0+1),dE k0.d x.s (n+1) false (a2+1) (b2+1),(kY x ([]:List Stp) p.2.2.2.2 p.1 p.2.1 p.2.2.1).pE,(kY x ([]:List Stp) p.2.2.2.2 p.1 p.2.1 p.2.2.1).wE [] 0,p.2.2.2.1.1.wE 1 0,
                                                                                                                 .ob p.2.2.2.2 (.cells #[goInt x.cl.length,pt x.s,sv p.1 ([]:List Stp).length p.2.1,goInt 0,.nilFunc,.map (some p.2.2.1),goInt 0,goInt 0,goInt 0,.chan (some p.2.2.2.1.1.w),.chan (some p.2.2.2.1.1.t)] 143)]) ?_ λj=>?_
 ·rintro⟨f,e,h,⟨k,i⟩,q⟩
  refine av [16] ?_;refine jO 8 [0,0,3] [6,7] [8,9,10] (tD (λ_=>[]) λz=>Gy (app1 115 5 17 x.cl.length ah) ?_);rintro _ _ ⟨m,l,rfl,rfl⟩;refine ib (Fl.run [3] (av [] ?_));refine cU [17] [.nilIface] [gv bs x.s,xK bp g ([]:List Stp).length cap,iE bo x.cl.length,.ob x.s (.cells #[.int .i32 x.mu,.int .u32 0,sv (some x.sb) x.si.length x.si.length,sv (some x.cb) x.ch.length x.vD,.map (some x.mb),goInt x.ck,goInt x.li,sv (some m) (x.cl.length+1) l,sv x.eg x.ev.length x.ec,pt x.sw] 126),bK g cap ([]:List Stp),.row 140 1 (some m) (x.cl.length+1) l (x.cl.map pt++[pt q]),aQ 1 e1,aQ 2 e2,gE (a+1) (b+1),hE (.chan none) (c+1) (d+1),x.uE (u.by k0),k0.wE (a0+1) (b0+1),dE k0.d x.s (n+1) false (a2+1) (b2+1),(kY x ([]:List Stp) q f e h).pE,(kY x ([]:List Stp) q f e h).wE [] 0,k.wE 1 0,x.kE ((kY x ([]:List Stp) q f e h).by k)] ⟨rfl,q,some m,l,f,e,h,k,i,?_⟩;simp[aR.more,aR.en,aR.lE]
 refine eM [3,4] ⟨?_,?_,trivial⟩
 ·refine lY [YtgahemdblfapeabGreatDoor.a0 45 3 none 0 0 (g.map λb=>⟨b,0,none⟩) cap (Nat.le_refl _)] ?_
  refine eM [4,6] ⟨?_,?_,trivial⟩
  ·refine lf (λ_=>[]) λr=>?_
   refine eM [6] ⟨?_,trivial⟩
   ·refine Gx [8,9,3,10,11,12] (Iz x u k0 n a b c d a0 b0 a2 b2 hw hn) ?_
    rintro _ _ ⟨k,i,rfl,rfl⟩;refine ib ?_;refine eM [7] ⟨lY [] (eM [8] ⟨lf (λ_=>[]) λo=>eM [9] ⟨lY [] (wT ?_),trivial⟩,trivial⟩),trivial⟩;exact cq (j (none,0,r,⟨k,i⟩,o))
  ·refine Gx [8,9,3,10,11,12] (Iz x u k0 n a b c d a0 b0 a2 b2 hw hn) ?_
   rintro _ _ ⟨k,i,rfl,rfl⟩;refine ib ?_;refine eM [4] ⟨?_,trivial⟩
   ·refine lf (λ_=>[]) λr=>?_
    refine eM [7] ⟨lY [] (eM [8] ⟨lf (λ_=>[]) λo=>eM [9] ⟨lY [] (wT ?_),trivial⟩,trivial⟩),trivial⟩;exact Eu [0,1,2,3,4,5,6,7,8,9,10,11,12,13,15,14,16] (cq (j (none,0,r,⟨k,i⟩,o)))
 ·refine lf (λ_=>[]) λr=>?_
  refine eM [3] ⟨?_,trivial⟩
  ·refine lY [YtgahemdblfapeabGreatDoor.a0 45 3 none 0 0 (g.map λb=>⟨b,0,none⟩) cap (Nat.le_refl _)] ?_
   refine eM [6] ⟨?_,trivial⟩
   ·refine Gx [8,9,3,10,11,12] (Iz x u k0 n a b c d a0 b0 a2 b2 hw hn) ?_
    rintro _ _ ⟨k,i,rfl,rfl⟩;refine ib ?_;refine eM [7] ⟨lY [] (eM [8] ⟨lf (λ_=>[]) λo=>eM [9] ⟨lY [] (wT ?_),trivial⟩,trivial⟩),trivial⟩;exact cq (j (none,0,r,⟨k,i⟩,o))
end
section
open Go.Conc (G)
theorem ab2(f:ae Nat){L e:ae En}(h:outs f L=Z (e,[]):=by kernel_rfl):L.Perm e:=by
 have:=xJ h;rwa[rb]at this
abbrev uj:ByteArray:=⟨#[67,108,105,101,110,116]⟩
section
variable (x:aR)(u:dT)(V:eG)(g:aj Nat)(X:Nat)(W:ae Stp)(Q P O:ag)(n:Int)(a:Gc)(b c d a0 R T S:Nat)
def EG:ae En:=[(x.bf 0).en,x.uE (u.by V),V.wE a0 R,dE V.d x.s n Y T S,aQ 4 O,gE a b,hE (.chan I) c d,x.lE,bK g X W,aQ 1 Q,aQ 2 P]
def QK(q:Nat)(j:aj Nat)(i:Nat)(f:aj Nat)(e h:Nat)(k:eG):ae En:=[bK g X W,(x.more q j i).lE,aQ 1 Q,aQ 2 P,gE (a+1) (b+1),hE (.chan I) (c+1) (d+1),x.uE (u.by V),V.wE (a0+2) (R+2),dE V.d x.s (n+1) Y (T+2) (S+2),(kY x W q f e h).pE,(kY x W q f e h).wE [] 0,k.wE 1 0,x.kE ((kY x W q f e h).by k)]
def ag7(v:ag)(L:ae En):Prop:=v=.tuple #[ai x.cl.length,.nilIface]/\∃q f e i h j k,k.d=V.d/\L=aQ 4 O::(QK x u V g X W Q P n a b c d a0 R T S q f e i h j k++[((x.more q f e).bf 0).en])
theorem aha (hl:W.length≤4398046511104) (hr:(sZ x.ch.length false W&&decide ((W.length:Int)≤200))=true) (h8:x.cl.length<8) (hw:x.sw=u.w) (hn:0≤n∧n<9) (r:W=[]∨(0<W.length∧∃o,g=some o)):Fl Sv 24 [pt x.s,sv g W.length X].toArray (EG x u V g X W Q P O n a b c d a0 R T S) (ag7 x u V g X W Q P O n a b c d a0 R T S):=by
 have p:∀z,Fl Sv 47 [pt z,pt (z+1),pt (z+2)].toArray (Bt z (z+1) (z+2) (x.bf 1) g X W 0 Q P u V n a b c d (a0+1) (R+1) (T+1) (S+1)) λv L=>v=.nilIface∧∃q f e i h j k,k.d=V.d∧L=[gv z x.s,xK (z+1) g W.length X,iE (z+2) x.cl.length,((x.more q f e).bf 1).en,bK g X W,(x.more q f e).lE,aQ 1 Q,aQ 2 P,gE (a+1) (b+1),hE (.chan none) (c+1) (d+1),x.uE (u.by V),V.wE (a0+2) (R+2),dE V.d x.s (n+1) false (T+2) (S+2),(kY x W q i h j).pE,(kY x W q i h j).wE [] 0,k.wE 1 0,x.kE ((kY x W q i h j).by k)]:=λz=>by
  rcases r with r|⟨p,o,rfl⟩
  ·exact ag6 z (z+1) (z+2) (x.bf 1) g X W 0 Q P u V n a b c d (a0+1) (R+1) (T+1) (S+1) hl r hr h8 hw hn
  ·exact ag5 z (z+1) (z+2) (x.bf 1) o X W 0 Q P u V n a b c d (a0+1) (R+1) (T+1) (S+1) hl p hr h8 hw hn
 refine Fl.of 13 λA y=>di (λ_=>[13,11]) λz=>?_;have t:Fl Sv 47 [pt z,pt (z+1),pt (z+2)].toArray ((x.bf 1).en::x.uE (u.by V)::V.wE (a0+1) (R+1)::dE V.d x.s n false (T+1) (S+1)::[gE a b,hE (.chan none) c d,x.lE,bK g X W,aQ 1 Q,aQ 2 P,gv z x.s,xK (z+1) g W.length X,iE (z+2) 0]) λv L=>∃l s,(v=.nilIface∧l.s=x.s∧(∃q f e i h j k,k.d=V.d∧l=x.more q f e∧s=gv z x.s::xK (z+1) g W.length X::iE (z+2) x.cl.length::QK x u V g X W Q P n a b c d a0 R T S q f e i h j k))∧L=(l.bf 1).en::s:=by
  refine Fl.post (Fl.perm (p z) ?_) ?_
  ·exact ab2 [10,11,12,0,7,6,8,9,4,5,1,2,3]
  rintro v _ ⟨w,q,f,e,i,h,j,k,m,rfl⟩;exact⟨_,⟨x.more q f e,_,⟨w,rfl,q,f,e,i,h,j,k,m,rfl,rfl⟩,rfl⟩,List.perm_middle (l₁:=[_,_,_])⟩
 refine lW [] _ (Jl x u V uj 0 O z (z+1) (z+2) n a0 R T S _ _ hw (.inl ⟨.inr rfl,rfl⟩) none t) ?_;rintro _ _ ⟨rfl,l,_,⟨q,f,e,i,h,j,k,m,rfl,rfl⟩,rfl⟩;exact av [3] (cU [1,2,3] [goInt x.cl.length,.nilIface] _ ⟨rfl,q,f,e,i,h,j,k,m,rfl⟩)
theorem Xu (te:TypeId) (er:Value) (hw:x.sw=u.w) (h0:∀z,Fl Sv 47 [pt z,pt (z+1),pt (z+2)].toArray (Bt z (z+1) (z+2) (x.bf 1) g X W 0 Q P u V n a b c d (a0+1) (R+1) (T+1) (S+1)) λv L=>v=.iface te er∧L=Bt z (z+1) (z+2) (x.bf 1) g X W 0 Q P u V n a b c d (a0+1) (R+1) (T+1) (S+1)):Fl Sv 24 [pt x.s,sv g W.length X].toArray (EG x u V g X W Q P O n a b c d a0 R T S) λv L=>∃q,v=.tuple #[goInt 0,.iface 145 (pt q)]∧L=[aQ 4 O,iM q uj 0 (.iface te er),bK g X W,x.lE,aQ 1 Q,aQ 2 P,gE a b,hE (.chan none) c d,x.uE (u.by V),V.wE (a0+1) (R+1),dE V.d x.s n false (T+1) (S+1),(x.bf 0).en]:=by
 refine Fl.of 13 λk j=>di (λ_=>[13,11]) λz=>?_;have h:Fl Sv 47 [pt z,pt (z+1),pt (z+2)].toArray ((x.bf 1).en::x.uE (u.by V)::V.wE (a0+1) (R+1)::dE V.d x.s n false (T+1) (S+1)::[gE a b,hE (.chan none) c d,x.lE,bK g X W,aQ 1 Q,aQ 2 P,gv z x.s,xK (z+1) g W.length X,iE (z+2) 0]) λv L=>∃e f,(v=.iface te er∧e.s=x.s∧(e=x∧f=[gv z x.s,xK (z+1) g W.length X,iE (z+2) 0,bK g X W,x.lE,aQ 1 Q,aQ 2 P,gE a b,hE (.chan none) c d,x.uE (u.by V),V.wE (a0+1) (R+1),dE V.d x.s n false (T+1) (S+1)]))∧L=(e.bf 1).en::f:=by
  refine Fl.post (Fl.perm (h0 z) ?_) ?_
  ·exact ab2 [10,11,12,0,7,6,8,9,4,5,1,2,3]
  rintro v _ ⟨i,rfl⟩;exact⟨_,⟨x,_,⟨i,rfl,rfl,rfl⟩,rfl⟩,List.perm_middle (l₁:=[_,_,_])⟩
 refine lW [] _ (Jl x u V uj 0 O z (z+1) (z+2) n a0 R T S _ _ hw (.inl ⟨.inr rfl,rfl⟩) (some (te,er)) h) ?_;rintro _ _ ⟨q,rfl,e,_,⟨rfl,rfl⟩,rfl⟩;exact av [4] (cU [2,3,4] [goInt 0,.iface 145 (pt q)] _ ⟨q,rfl,rfl⟩)
theorem ag8(f:aK)(e:ag)(h:W.length<=4398046511104)(i:(sZ x.ch.length Y W&&decide ((W.length:Int)<=200))=Y)(j:x.sw=u.w):Fl Sv 24 [pt x.s,sv g W.length X].toArray (EG x u V g X W (.iface f e) P O n a b c d a0 R T S) λv L=>∃q,v=.tuple #[ai 0,.iface 145 (pt q)]/\L=[aQ 4 O,iM q uj 0 (.iface f e),bK g X W,x.lE,aQ 1 (.iface f e),aQ 2 P,gE a b,hE (.chan I) c d,x.uE (u.by V),V.wE (a0+1) (R+1),dE V.d x.s n Y (T+1) (S+1),(x.bf 0).en]:=
 Xu x u V g X W _ P O n a b c d a0 R T S f e j λz=>ag3 z (z+1) (z+2) (x.bf 1) g X W 0 _ P u V n a b c d _ _ _ _ h i
theorem ag9(f:aK)(e:ag)(i:W.length<=4398046511104)(j:(sZ x.ch.length Y W&&decide ((W.length:Int)<=200))=U)(h:x.cl.length=8)(k:x.sw=u.w):Fl Sv 24 [pt x.s,sv g W.length X].toArray (EG x u V g X W Q (.iface f e) O n a b c d a0 R T S) λv L=>∃q,v=.tuple #[ai 0,.iface 145 (pt q)]/\L=[aQ 4 O,iM q uj 0 (.iface f e),bK g X W,x.lE,aQ 1 Q,aQ 2 (.iface f e),gE a b,hE (.chan I) c d,x.uE (u.by V),V.wE (a0+1) (R+1),dE V.d x.s n Y (T+1) (S+1),(x.bf 0).en]:=
 Xu x u V g X W Q _ O n a b c d a0 R T S f e k λz=>ag4 z (z+1) (z+2) (x.bf 1) g X W 0 Q _ u V n a b c d _ _ _ _ i j h
end
theorem ahc(x:aR)(u:dT)(k:eG)(g:Option Nat)(l X:Nat)(f:TypeId)(e:Value)(n:Int)(h i T S:Nat)(j:x.sw=u.w):Fl Sv 24 [pt x.s,sv g l X].toArray [(x.bf 0).en,x.uE (u.by k),k.wE h i,dE k.d x.s n true T S,aQ 4 (.iface f e)] λv L=>∃q,v=.tuple #[goInt 0,.iface 145 (pt q)]∧L=[x.uE (u.by k),k.wE (h+1) (i+1),dE k.d x.s n true (T+1) (S+1),aQ 4 (.iface f e),iM q uj 0 (.iface f e),(x.bf 0).en]:=by
 refine Fl.of 13 λo m=>di (λ_=>[7,5]) λz=>eR [0,1,2,3,4] (QF x u k uj 0 f e (.func (.func 47) #[] #[pt z,pt (z+1),pt (z+2)]) n h i T S j) ?_;rintro _ _ ⟨q,rfl,rfl⟩;exact av [7] (cU [5,6,7] [goInt 0,.iface 145 (pt q)] _ ⟨q,rfl,rfl⟩)
theorem arV(x:aR)(u:dT)(k:eG)(i:Int)(f:TypeId)(e:Value)(n:Int)(h j T S:Nat)(l:x.sw=u.w):Fl Sv 27 [pt x.s,goInt i].toArray [(x.bf 0).en,x.uE (u.by k),k.wE h j,dE k.d x.s n true T S,aQ 4 (.iface f e)] λv L=>∃q,v=.tuple #[goInt 0,.iface 145 (pt q)]∧L=[x.uE (u.by k),k.wE (h+1) (j+1),dE k.d x.s n true (T+1) (S+1),aQ 4 (.iface f e),iM q ⟨#[80,105,99,107]⟩ i (.iface f e),(x.bf 0).en]:=by
 refine Fl.of 14 λo m=>di (λ_=>[7,5,6]) λz=>eR [0,1,2,3,4] (QF x u k ⟨#[80,105,99,107]⟩ i f e (.func (.func 54) #[] #[pt (z+1),pt z,pt (z+2)]) n h j T S l) ?_;rintro _ _ ⟨q,rfl,rfl⟩;exact av [7] (cU [5,6,7] [goInt 0,.iface 145 (pt q)] _ ⟨q,rfl,rfl⟩)
theorem ayG(x:aR)(u:dT)(k:eG)(f:TypeId)(e:Value)(n:Int)(h i T S:Nat)(j:x.sw=u.w):Fl Sv 34 [pt x.s].toArray [(x.bf 0).en,x.uE (u.by k),k.wE h i,dE k.d x.s n true T S,aQ 4 (.iface f e)] λv L=>∃q,v=.tuple #[.bool false,.iface 145 (pt q)]∧L=[x.uE (u.by k),k.wE (h+1) (i+1),dE k.d x.s n true (T+1) (S+1),aQ 4 (.iface f e),iM q ⟨#[83,119,101,101,112]⟩ 0 (.iface f e),(x.bf 0).en]:=by
 refine Fl.of 12 λm l=>di (λ_=>[6,5]) λz=>eR [0,1,2,3,4] (QF x u k ⟨#[83,119,101,101,112]⟩ 0 f e (.func (.func 59) #[] #[pt z,pt (z+1)]) n h i T S j) ?_;rintro _ _ ⟨q,rfl,rfl⟩;exact av [6,.d] (cU [5,6] [.bool false,.iface 145 (pt q)] _ ⟨q,rfl,rfl⟩)
end
section
open Go.Conc (G)
theorem Yp{α:Type}(l:ae α)(b:0<l.length):∀(n j:Nat),j<n*l.length->((kq n l).flatten)[j]?=l[j%l.length]?
 |0,j,h=>by omega
 |n+1,j,h=>by
  rw[List.replicate_succ,List.flatten_cons];by_cases a:j<l.length
  ·rw[LZ a,Nat.mod_eq_of_lt a]
  ·rw[Ma ah,Yp l b n (j-l.length) (by rw[Nat.add_mul]at h;omega),<-Nat.mod_eq_sub_mod ah]
theorem apY(a:af ag)(h:0<a.size)(n:Nat):(madeCells a (n*a.size)).toList=(kq n a.toList).flatten:=by
 apply List.ext_getElem?;intro j;have b:(kq n a.toList).flatten.length=n*a.size:=by simp
 by_cases c:j<n*a.size
 ·rw[Yp a.toList (by simpa using h) n j (by simpa using c)]
  have d:j%a.size<a.size:=Nat.mod_lt _ h;simp[madeCells,c,d]
 ·rw[Gr (by simp[madeCells];omega),Gr (by rw[b];omega)]
def mkS(t:aK)(a b:ag):Sem Next:=tB (Instr.makeSlice t a b) λv=>.pure (.value v)
theorem DU{m:ae En}(t e a n:Nat)(b:ae ag)(B:n<=1000000)(D:0<b.length)
  (h:((P.underlying t,(P.info? e).map λi=>(i.size,i.zero.map λz=>z.cells.toList,Nat.ble i.bytes 4096)),b.length)=((Z (.slice e),Z (a,Z b,U)),a):=by kernel_rfl):
  lU P m L (mkS t (ai n) (ai n)) λv l=>∃g,v=sv (Z g) n n/\l=L++[.row e a (Z g) n n (kq n b).flatten]:=λw u=>by
 simp only[fN]at h;obtain⟨⟨p,q⟩,rfl⟩:=h;obtain⟨i,y,d⟩:=fX.1 q;simp only[fN]at d;obtain⟨r,s,c⟩:=d;obtain⟨z,k,rfl⟩:=fX.1 s;have c:=zH c;have G:i.bytes*n<=4096*1000000:=Nat.mul_le_mul c B;have j:=run_make (P:=P) w t e i z p y k .i64 .i64 n n ah (Int.le_refl _) (by
  have:((i.bytes*n:Nat):Int)<=281474976710656:=by omega
  rwa[Int.natCast_mul]at this) ah
 simp only[Int.toNat_natCast]at j;have o:i.size=z.cells.size:=by rw[r];simp
 refine⟨sv (Z w.heap.size) n n,w.alloc (.cells (madeCells z.cells (n*i.size)) e),_,?_,F,F,⟨w.heap.size,F,F⟩,?_⟩
 ·show((Instr.makeSlice t (ai n) (ai n))>>=λv=>(qi (mR v):Sem Next)).run P w=_
  rw[fK];have E:bP P (Instr.makeSlice t (ai n) (ai n)) w=.ok (.slice (Z ⟨w.heap.size,0,I⟩) n n) (w.alloc (.cells (madeCells z.cells (n*i.size)) e)):=j;rw[E];rfl
 ·have f:=Kn.push u (.cells (madeCells z.cells (n*i.size)) e)
  rw[iL]at f⊢;refine Kn.set f ?_ (λx C=>?_) (dt _) (λx _ _=>rfl)
  ·show Row _ _ _ _ _ _
   rw[o,<-apY z.cells (by simpa using D)];have A:(madeCells z.cells (n*z.cells.size)).size=n*z.cells.size:=by simp[madeCells]
   refine⟨?_,.inr ⟨w.heap.size,n,madeCells z.cells (n*z.cells.size),F,?_,dt _,by unfold maxLen;omega,?_,?_⟩⟩
   ·simp[madeCells]
   ·show(w.heap.push _)[w.heap.size]?=_
    simp
   ·simp[madeCells]
   ·rw[List.take_of_length_le]
    simp[madeCells]
  ·cases C
   exact .inl F
def Gc.up(a:Gc):Gc:=⟨.iface 3 a.v,a.n⟩
def H7(s e S:Nat)(b:aj Nat)(k a d:Nat)(c:Int)(f:ag):En:=.ob s (.cells #[.int .i32 0,.int .u32 0,sv (Z e) S S,sv b k a,.map (Z d),ai 0,ai c,sv I 0 0,sv I 0 0,f] 126)
theorem ax9 (s sb S:Nat) (cg:Option Nat) (k cc mb:Nat) (li:Int) (D:Nat) (a:Gc) (b c d a2 b2:Nat):Fl Sv 44 [pt s].toArray [gE a b,hE (.chan (some D)) c d,H7 s sb S cg k cc mb li (.pointer none),dE D s 0 false a2 b2] λv L=>∃q:eG,q.d=D∧v=q.v∧L=[gE (a+1) (b+1),hE (.chan none) (c+1) (d+1),H7 s sb S cg k cc mb li (.pointer none),dE D s 1 false (a2+1) (b2+1),q.wE 1 0]:=by
 refine Fl.of 13 λh g=>av [] (lX 0 (gL 0 (lX 1 (gL 1 (av [.d,2] (lX 3 (av [G6 (tm 11) (tm 0) s,fu 0 9,aI (0+1) 1 ah] (gL 3 ?_))))))));refine di (λ_=>[]) λz=>?_;refine Wn OX λo f=>?_;simp only[OX,List.mem_cons,List.not_mem_nil,or_false]at f;rcases f with rfl|rfl|rfl|rfl|rfl|rfl|rfl|rfl
 ·exact di (λ_=>[]) λe=>gL 6 (av [5,5] (rX [4,5,7,8] 2 134 (z+1) (eG.v ⟨e,(e+1),D⟩) [5,5] _ ⟨⟨e,(e+1),D⟩,rfl,rfl,rfl⟩))
 ·exact di (λ_=>[]) λe=>gL 6 (av [5,5] (rX [4,5,7,8] 2 134 (z+1) (eG.v ⟨e,(e+1),D⟩) [5,5] _ ⟨⟨e,(e+1),D⟩,rfl,rfl,rfl⟩))
 ·exact di (λ_=>[]) λe=>gL 6 (av [5,5] (rX [4,5,7,8] 2 134 (z+1) (eG.v ⟨e,(e+2),D⟩) [5,5] _ ⟨⟨e,(e+2),D⟩,rfl,rfl,rfl⟩))
 ·exact di (λ_=>[]) λe=>gL 7 (av [5,5] (rX [4,5,6,8] 2 134 (z+1) (eG.v ⟨(e+1),e,D⟩) [5,5] _ ⟨⟨(e+1),e,D⟩,rfl,rfl,rfl⟩))
 ·exact di (λ_=>[]) λe=>gL 7 (av [5,5] (rX [4,5,6,8] 2 134 (z+1) (eG.v ⟨(e+1),e,D⟩) [5,5] _ ⟨⟨(e+1),e,D⟩,rfl,rfl,rfl⟩))
 ·exact di (λ_=>[]) λe=>gL 8 (av [5,5] (rX [4,5,6,7] 2 134 (z+1) (eG.v ⟨(e+2),e,D⟩) [5,5] _ ⟨⟨(e+2),e,D⟩,rfl,rfl,rfl⟩))
 ·exact di (λ_=>[]) λe=>gL 7 (av [5,5] (rX [4,5,6,8] 2 134 (z+1) (eG.v ⟨(e+1),(e+2),D⟩) [5,5] _ ⟨⟨(e+1),(e+2),D⟩,rfl,rfl,rfl⟩))
 ·exact di (λ_=>[]) λe=>gL 8 (av [5,5] (rX [4,5,6,7] 2 134 (z+1) (eG.v ⟨(e+2),(e+1),D⟩) [5,5] _ ⟨⟨(e+2),(e+1),D⟩,rfl,rfl,rfl⟩))
theorem aqv (sites keys dX:Int) (er:Value) (h:sites<1∨sites>8∨keys<1∨keys>20∨dX<0∨dX>1000000):Fl Sv 23 [goInt sites,goInt keys,goInt dX].toArray [aQ 0 er] λv L=>v=.tuple #[.pointer none,er]∧L=[aQ 0 er]:=by
 refine Fl.of 74 λi g=>?_;by_cases a:sites<1
 ·exact av [bT a] (gw 3 [0] [] (Fl.nil (av [] (cU [] [.pointer none,er] _ ⟨rfl,rfl⟩))))
 by_cases b:sites>8
 ·exact av [bF a,bT b] (gw 3 [0] [] (Fl.nil (av [] (cU [] [.pointer none,er] _ ⟨rfl,rfl⟩))))
 by_cases c:keys<1
 ·exact av [bF a,bF b,bT c] (gw 3 [0] [] (Fl.nil (av [] (cU [] [.pointer none,er] _ ⟨rfl,rfl⟩))))
 by_cases d:keys>20
 ·exact av [bF a,bF b,bF c,bT d] (gw 3 [0] [] (Fl.nil (av [] (cU [] [.pointer none,er] _ ⟨rfl,rfl⟩))))
 by_cases e:dX<0
 ·exact av [bF a,bF b,bF c,bF d,bT e] (gw 3 [0] [] (Fl.nil (av [] (cU [] [.pointer none,er] _ ⟨rfl,rfl⟩))))
 have f:dX>1000000:=by omega
 exact av [bF a,bF b,bF c,bF d,bF e,bT f] (gw 3 [0] [] (Fl.nil (av [] (cU [] [.pointer none,er] _ ⟨rfl,rfl⟩))))
def nB(c:Nat):En:=.ob c (.cells #[sv I 0 0] 130)
def x0(s f S a b:Nat)(c:ae Nat)(e:Nat)(d:Int)(g:Nat):aR:=⟨s,0,f,kq S ⟨Y,Y,0⟩,a,b,c,e,0,d,I,0,[],I,0,[],g⟩
def u0(u:Nat):dT:=⟨u,0,.func (.func 45) #[pt u] #[],.nilFunc,.nilFunc⟩
def aqu(e j:Nat)(i:Int)(a:Gc)(b c d:Nat)(v:ag)(L:ae En):Prop:=∃s m g h f l u k,v=.tuple #[pt s,.nilIface]/\f.length=j/\
 L=[gE (Gc.up a+2) (b+2),hE (.chan I) (c+2) (d+2),(x0 s m e g h f l i u).sE,(x0 s m e g h f l i u).mE [] 0,dE k.d s 1 Y 2 1,(x0 s m e g h f l i u).en,(x0 s m e g h f l i u).cE,k.wE 1 0,(x0 s m e g h f l i u).uE ((u0 u).by k)]++f.reverse.map nB
theorem Un (sites keys:Nat) (dX:Int) (a:Gc) (b c d:Nat) (h:1≤sites∧sites≤8∧1≤keys∧keys≤20∧0≤dX∧dX≤1000000):Fl Sv 23 [goInt sites,goInt keys,goInt dX].toArray [gE a b,hE (.chan none) c d] (aqu sites keys dX a b c d):=by
 refine Fl.of 74 λy x=>av [gi sites 1,ER sites 8,gi keys 1,ER keys 20,gi dX 0,ER dX 1000000,
  fu dX 1000001,fu sites 9,Nu sites 0] ?_
 refine Qb [0,3] 6 [] ?_;refine Qd (ι:=Nat×Nat×Nat×Nat) (λp=>[(0,goInt sites),(1,goInt keys),(2,goInt dX),(8,pt p.2.2.2),(33,sv (some p.1) sites sites),(34,.map (some p.2.1)),(35,goInt dX),(36,.chan (some p.2.2.1)),(7,.nilIface)]) (λp=>[gE a b,hE (.chan none) c d,.row 159 3 (some p.1) sites sites (List.replicate sites [.bool false,.bool false,goInt 0]).flatten,.ob p.2.1 (.map #[] 0),.ob p.2.2.1 (.chan 2 #[] false 0 0 false),H7 p.2.2.2 p.1 sites none 0 0 p.2.1 dX (.pointer none)]) ?_ λe=>?_
 ·rintro⟨g,f,D,s⟩
  refine av [] (gL 4 (lX 1 (gL 1 (lX 0 (av [] (gL 0 (av [.g,.x] (pC 127 1 ?_))))))));refine ji (ι:=Option Nat×Nat×List Nat) (λi=>keys-i.2.2.length) (λi=>[(8,pt s),(39,goInt keys),(40,goInt i.2.2.length),(7,.nilIface)]) (λi=>[gE (Gc.up a+1) (b+1),hE (.chan (some D)) (c+1) (d+1),.row 159 3 (some g) sites sites (List.replicate sites [.bool false,.bool false,goInt 0]).flatten,.ob f (.map #[] 0),dE D s 0 false 1 0,H7 s g sites i.1 i.2.2.length i.2.1 f dX (.pointer none),.row 127 1 i.1 i.2.2.length i.2.1 (i.2.2.map pt)]++i.2.2.reverse.map nB) (λi=>i.2.2.length≤keys) (none,0,[]) (Nat.zero_le _) ?_;rintro⟨r,m,j⟩ t q;simp only at t q;by_cases aC:j.length<keys
  ·have e:∀o l z,Rs Sv _ _ _ _ _:=λo l z=>q (o,l,j++[z]) (by simp only[List.length_append,List.length_cons,List.length_nil];omega) (by simp only[List.length_append,List.length_cons,List.length_nil];omega)
   simp only[List.length_append,List.length_cons,List.length_nil,Nat.zero_add,List.map_append,List.map_cons,List.map_nil,List.reverse_append,List.reverse_cons,List.reverse_nil,List.nil_append,List.cons_append]at e;refine cF _ _ (di (λ_=>[fu j.length keys,5]) λz=>kr (app1 113 6 8 j.length ah) ?_);rintro _ _ ⟨o,l,rfl,rfl⟩;refine av [5,aS j.length,.g,.x] (ey [8] (bE ?_));exact cq (e o l z)
  ·have v:j.length=keys:=by omega
   subst v;refine cF _ _ ?_;refine lJ 6 r j.length m ah λn w _=>?_;subst w;refine av [gi j.length j.length] (eR [0,1,5,4] (ax9 s g sites (some n) j.length m f dX D (Gc.up a+1) (b+1) (c+1) (d+1) 1 0) ?_);rintro _ _ ⟨k,rfl,rfl,rfl⟩;refine di (λ_=>[5]) λu=>?_;refine jO 9 [5,5] [] [9,10,11] (Fl.run [8] (av [] (bE ?_)));refine ez [pt s,.nilIface] ([gE (Gc.up a+2) (b+2),hE (.chan none) (c+2) (d+2),.row 159 3 (some g) sites sites (List.replicate sites [.bool false,.bool false,goInt 0]).flatten,.ob f (.map #[] 0),dE k.d s 1 false 2 1,H7 s g sites (some n) j.length m f dX (pt u),.row 127 1 (some n) j.length m (j.map pt),k.wE 1 0,.ob u (.cells #[pt s,goInt 0,.func (.func 45) #[pt u] #[],.chan (some k.w),.chan (some k.t)] 137)]++j.reverse.map nB) ⟨s,g,n,m,j,f,u,k,rfl,rfl,?_⟩;simp[x0,H7,aR.en,aR.sE,aR.mE,aR.cE,aR.uE,u0,dT.by,fY,ff.cells,List.flatMap_replicate]
 refine eM [1,2,4] ⟨?_,?_,?_,trivial⟩
 ·refine Ew (DU 112 159 3 sites [.bool false,.bool false,goInt 0] ah aT) ?_
  rintro _ _ ⟨g,rfl,rfl⟩;refine ib ?_;refine eM [2,4] ⟨?_,?_,trivial⟩
  ·refine lf (λ_=>[]) λf=>?_
   refine eM [4] ⟨?_,trivial⟩
   ·refine lf (λ_=>[]) λD=>?_
    refine eM [5] ⟨lY [] (eM [6] ⟨lf (λ_=>[]) λs=>eM [7] ⟨lY [] (wT ?_),trivial⟩,trivial⟩),trivial⟩;exact cq (e (g,f,D,s))
  ·refine lf (λ_=>[]) λD=>?_
   refine eM [2] ⟨?_,trivial⟩
   ·refine lf (λ_=>[]) λf=>?_
    refine eM [5] ⟨lY [] (eM [6] ⟨lf (λ_=>[]) λs=>eM [7] ⟨lY [] (wT ?_),trivial⟩,trivial⟩),trivial⟩;exact Eu [0,1,2,4,3,5] (cq (e (g,f,D,s)))
 ·refine lf (λ_=>[]) λf=>?_
  refine eM [1,4] ⟨?_,?_,trivial⟩
  ·refine Ew (DU 112 159 3 sites [.bool false,.bool false,goInt 0] ah aT) ?_
   rintro _ _ ⟨g,rfl,rfl⟩;refine ib ?_;refine eM [4] ⟨?_,trivial⟩
   ·refine lf (λ_=>[]) λD=>?_
    refine eM [5] ⟨lY [] (eM [6] ⟨lf (λ_=>[]) λs=>eM [7] ⟨lY [] (wT ?_),trivial⟩,trivial⟩),trivial⟩;exact Eu [0,1,3,2,4,5] (cq (e (g,f,D,s)))
  ·refine lf (λ_=>[]) λD=>?_
   refine eM [1] ⟨?_,trivial⟩
   ·refine Ew (DU 112 159 3 sites [.bool false,.bool false,goInt 0] ah aT) ?_
    rintro _ _ ⟨g,rfl,rfl⟩;refine ib ?_;refine eM [5] ⟨lY [] (eM [6] ⟨lf (λ_=>[]) λs=>eM [7] ⟨lY [] (wT ?_),trivial⟩,trivial⟩),trivial⟩;exact Eu [0,1,4,2,3,5] (cq (e (g,f,D,s)))
 ·refine lf (λ_=>[]) λD=>?_
  refine eM [1,2] ⟨?_,?_,trivial⟩
  ·refine Ew (DU 112 159 3 sites [.bool false,.bool false,goInt 0] ah aT) ?_
   rintro _ _ ⟨g,rfl,rfl⟩;refine ib ?_;refine eM [2] ⟨?_,trivial⟩
   ·refine lf (λ_=>[]) λf=>?_
    refine eM [5] ⟨lY [] (eM [6] ⟨lf (λ_=>[]) λs=>eM [7] ⟨lY [] (wT ?_),trivial⟩,trivial⟩),trivial⟩;exact Eu [0,1,3,4,2,5] (cq (e (g,f,D,s)))
  ·refine lf (λ_=>[]) λf=>?_
   refine eM [1] ⟨?_,trivial⟩
   ·refine Ew (DU 112 159 3 sites [.bool false,.bool false,goInt 0] ah aT) ?_
    rintro _ _ ⟨g,rfl,rfl⟩;refine ib ?_;refine eM [5] ⟨lY [] (eM [6] ⟨lf (λ_=>[]) λs=>eM [7] ⟨lY [] (wT ?_),trivial⟩,trivial⟩),trivial⟩;exact Eu [0,1,4,3,2,5] (cq (e (g,f,D,s)))
end
section
open Go.Conc (G)
theorem ayp(x:aR)(u:dT)(k)(n)(a)(b c e d f)(l:x.sw=u.w):Fl Sv 22 [pt x.s].toArray [(x.bf 0).en,x.uE (u.by k),k.wE c e,dE k.d x.s n Y d f,gE (Gc.up a) b] λv L=>v=.tuple #[]/\L=[x.uE (u.by k),k.wE (c+1) (e+1),dE k.d x.s n U (d+1) (f+1),gE (a+2) (b+2),(x.bf 0).en]:=by
 obtain⟨w,g,nx,i,h⟩:=u;subst l;refine Fl.of 25 λp o=>(av [] (eR [0] (BZ x) ?_));rintro _ _ ⟨rfl,rfl⟩;refine av [] (lX 4 (gL 4 (av [0,1] (lX 2 (gL 2 (av [] (lX 3 (av [G6 (tm 21) (tm 10) x.s] ?_))))))));refine lX 4 (av [] (gL 4 (av [] (gL 3 (av [] ?_)))));refine cM ([(x.bf 1).en]++[x.uE (dT.by ⟨x.sw,g,nx,i,h⟩ k),k.wE (c+1) (e+1),dE k.d x.s n U (d+1) (f+1),gE (a+2) (b+2)]) (du lD ?_);exact zJ [] [x.uE (dT.by ⟨x.sw,g,nx,i,h⟩ k),k.wE (c+1) (e+1),dE k.d x.s n U (d+1) (f+1),gE (a+2) (b+2)] _ (AH F) λm j=>⟨F,by rw[j];rfl⟩
theorem ayn(x:aR)(u:dT)(k)(n)(a)(b c e d f)(l:x.sw=u.w):Fl Sv 22 [pt x.s].toArray [(x.bf 0).en,x.uE (u.by k),k.wE c e,dE k.d x.s n U d f,gE a b] λv L=>v=.tuple #[]/\L=[x.uE (u.by k),k.wE (c+1) (e+1),dE k.d x.s n U (d+1) (f+1),gE (a+1) (b+1),(x.bf 0).en]:=by
 obtain⟨w,g,nx,i,h⟩:=u;subst l;refine Fl.of 25 λp o=>(av [] (eR [0] (BZ x) ?_));rintro _ _ ⟨rfl,rfl⟩;refine av [] (lX 4 (gL 4 (av [0,1] (lX 2 (gL 2 (av [] (lX 3 (av [G6 (tm 21) (tm 10) x.s] (gL 3 (av [] ?_))))))))));refine cM ([(x.bf 1).en]++[x.uE (dT.by ⟨x.sw,g,nx,i,h⟩ k),k.wE (c+1) (e+1),dE k.d x.s n U (d+1) (f+1),gE (a+1) (b+1)]) (du lD ?_);exact zJ [] [x.uE (dT.by ⟨x.sw,g,nx,i,h⟩ k),k.wE (c+1) (e+1),dE k.d x.s n U (d+1) (f+1),gE (a+1) (b+1)] _ (AH F) λm j=>⟨F,by rw[j];rfl⟩
end
section
open Go.Conc (G)
theorem W4{P:aD}{c:Region.Mode}{ops:af bq}{Q:Exit->Act->ax->Prop}{S b:ax->Prop}(h:∀w,S w->b w):∀(n:Nat)(l:af Bool)(a:Act)(w:ax),wpAnyH P c ops Q S n l a w->wpAnyH P c ops Q b n l a w
 |0,_,_,_,q=>q
 |n+1,_,_,_,q=>⟨q.1,λi f=>wpOp_mono (λe d⟨g,j⟩=>⟨h d g,W4 h n _ e d j⟩) (q.2 i f)⟩
def pH(P:aD)(X:Cx)(ops:af bq)(k:ae aJ)(O:ae En->Prop)(n:Nat)(l:af Bool)(V:ae cz)(W:Env)(L:ae En):Prop:=X.kind≠.early->∀c b a w(S:ax->Prop),(∀L w,O L->Kn (L++X.L2) w.heap->S w)->S w->gK X.N W a.tmps->a.defers=V->Kn (L++X.L2) w.heap->w.os=c->w.output=b->wpAnyH P .any ops (q0 P X k c b) S n l a w
section
variable {P:aD}{X:Cx}{ops:af bq}{k:ae aJ}{O:ae En->Prop}{n:Nat}{l:af Bool}{V:ae cz}{W:Env}{L:ae En}
theorem afg(h:Rs P X k V W L)(m:nK .any ops l=[]:=by kernel_rfl):pH P X ops k O 0 l V W L:=λc o b a w S p q d e f g j=>
 wpAnyH_done m ((Fl.nil (ops:=ops) h) o b a w c d e f g j) 0
theorem Wu(r:ae Nat)(h:Mi (λi=>l5 P X ops i V W L λV W L=>O L/\pH P X ops k O n (l.setIfInBounds i U) V W L) r)(b:(nK .any ops l,r.isEmpty)=(r,Y):=by kernel_rfl):pH P X ops k O (n+1) l V W L:=λq z d a w S c G s t u v x=>by
 simp only[fN]at b;obtain⟨b,m⟩:=b;refine wpAnyH_all (rs:=r) b (λe=>by rw[e]at m;cases m) λi y=>wpOp_mono (λp g⟨J,H,j,⟨o,A⟩,B,C,f,D,E⟩=>⟨c j g o f,A q z d p g S c (c j g o f) B C f (D.trans v) (E.trans x)⟩) (QU h y _ a w s t u)
theorem Qe(b:ae Nat)(e:ae (Aw P))(h:pH P X ops k (λd=>O d/\lA P X.N ops L b e W d) n (marks b l) V (xN ops b (oa P X.N ops L b e W) W) L)
  (q:(wB .any ops ops.size b l,Em ops)=(U,U):=by kernel_rfl)
  (s:gY P X.N ops L b e W=(Z (oa P X.N ops L b e W),U,(gY P X.N ops L b e W).2.2.map Pr.rf):=by kernel_rfl):pH P X ops k O (n+b.length) l V W L:=λy v g a w S G u B C p D E=>by
 simp only[fN]at q;unfold lA at h;generalize oa P X.N ops L b e W=t at s h;let j:ax->Prop:=λw=>S w/\∃d,Kn (d++X.L2) w.heap/\gY P X.N ops d b e W=(Z t,U,(gY P X.N ops d b e W).2.2.map Pr.rf);have r:∀w,j w->zP P X.N ops X.L2 b W t w:=λw⟨_,d,m,o⟩=>O9 o m;refine W4 (S:=j) (λw h=>h.1) _ _ _ _ ?_;exact LI (P:=P) (Q:=q0 P X k v g) (md:=.any) (f:=n) (S:=j) (λc a J w h=>by cases h.1) q.2 b l a W t w B r q.1 ⟨u,L,p,s⟩ λx z A=>h y v g x w j (λd H m o=>⟨G d H m.1 o,d,o,m.2⟩) ⟨u,L,p,s⟩ z (A.trans C) p D E
theorem aDk{ι:Type}(E:ι->Env)(LL:ι->ae En)(h:∀i,Rs P X k V (E i) (LL i))(a:(∀i,Rs P X k V (E i) (LL i))->pH P X ops k O n l V W L):pH P X ops k O n l V W L:=a h
variable {i:Nat}{T:ae cz->Env->ae En->Prop}
theorem Io{P:aD}{N:Nat}{ops:af bq}{L c:ae En}{b:ae Nat}{a:ae (Aw P)}{W:Env}(h:gY P N ops c b a W=(Z (oa P N ops L b a W),U,(gY P N ops c b a W).2.2.map Pr.rf):=by kernel_rfl):lA P N ops L b a W c:=h
theorem aCM(a:ae (Aw P))(h:T (ir P X.N ops V W L i a .w).ds (ir P X.N ops V W L i a .w).env (ir P X.N ops V W L i a .w).L)
 (b:O (ir P X.N ops V W L i a .w).L:=by first|exact True.intro|exact⟨True.intro,Io⟩|exact⟨⟨True.intro,Io⟩,Io⟩|exact⟨⟨⟨True.intro,Io⟩,Io⟩,Io⟩)
 (c:(ir P X.N ops V W L i a .w).pr=(ir P X.N ops V W L i a .w).rf:=by kernel_rfl):l5 P X ops i V W L λV W L=>O L/\T V W L:=l5.ev a ⟨b,h⟩ c
theorem aCN(a:Nat->ae (Aw P))(h:∀z,T (ir P X.N ops V W L i (a z) (.n z)).ds (ir P X.N ops V W L i (a z) (.n z)).env (ir P X.N ops V W L i (a z) (.n z)).L)
 (b:∀z,O (ir P X.N ops V W L i (a z) (.n z)).L:=by intro z;first|exact True.intro|exact⟨True.intro,Io⟩|exact⟨⟨True.intro,Io⟩,Io⟩|exact⟨⟨⟨True.intro,Io⟩,Io⟩,Io⟩)
 (c:∀z,(ir P X.N ops V W L i (a z) (.n z)).pr=(ir P X.N ops V W L i (a z) (.n z)).rf:=by intro z;kernel_rfl):l5 P X ops i V W L λV W L=>O L/\T V W L:=l5.new a (λz=>⟨b z,h z⟩) c
theorem Wq(b:ae Nat){d:ae En}{a:af ag}{R:ag->ae En->Prop}(g:Fl P f a d R)(h:∀v c,R v c->O (fill b c L)/\T V (pe W (sn ops i) v) (fill b c L))
  (e:outs b L=Z (d,left b L):=by kernel_rfl)
  (j:((Bp ops W i).bind (λs=>(sE P s .r [] [] []).map λq=>(q.1,q.2.2.2.2)),fits X.N (sn ops i))=(Z (.enter f a,[]),U):=by kernel_rfl):l5 P X ops i V W L λV W L=>O L/\T V W L:=
 Qa g (xJ e) (λ_=>Ni e) h j
theorem Ws{R T:Prop}(h:T)(a:R:=by first|exact True.intro|exact⟨True.intro,Io⟩|exact⟨⟨True.intro,Io⟩,Io⟩|exact⟨⟨⟨True.intro,Io⟩,Io⟩,Io⟩):R/\T:=⟨a,h⟩
end
theorem afa{P:aD}{X:Cx}{a:ae aJ}{V:ae cz}{W:Env}{L:ae En}(n:Nat)
  (d:pH P X (iD a) (tQ a) (λ_=>True) n (qa (iD a).size Y) V W L)
  (j:P.follows .mixedOrders=U:=by kernel_rfl)(c:(FF a,n)=(U,(iD a).size):=by kernel_rfl):Rs P X a V W L:=λf b H m h w e=>by
 subst e;simp only[fN]at c;obtain⟨g,rfl⟩:=c;obtain⟨id,ops,k,rfl⟩:=KH g;simp only[iD,tQ]at d;refine Rn.code ?_;refine wp_region_held (S:=λ_=>True) j ?_;exact d f w.os w.output ⟨b,V⟩ {w with drawn:=w.drawn+1} (λ_=>True) (λ_ _ _ _=>trivial) trivial m F h F F
theorem Pf{L d:ae En}{i:Nat}{S:Hp}{a:ae Nat}{b:Nat}(f:Kn (L++d) H)(g:L[i]?=Z (.ro S a))(c:S[b]?=Z o)(e:b≠8)(m:b≠10)(j:b∉a):H[b]?=Z o:=by
 have h:=f.at g;rw[<-c];exact h.2 b (aC c) e m j
theorem Lm{P:aD}{L A:ae En}(i:Nat)(S:Hp)(m:ae Nat)(b:Nat)(o:Obj)(s:Sem Next)(v:ag)(g:ae (Aw P))(D:S[b]?=Z o)(B:b≠8)(G:b≠10)(f:b∉m)(E:L[i]?=Z (.ro S m):=by kernel_rfl)(a:((sE P s .r [.ob b o] g []).map λq=>(q.1,q.2.2.2.2))=Z (.value v,match sE P s .r [.ob b o] g []with
                                                                                                                                                                        |some q=>q.2.2.2.2.map Pr.rf
                                                                                                                                                                        |none=>[]):=by kernel_rfl):lU P A L s λu y=>u=v/\y=L:=λw p=>by
 obtain⟨⟨M,z,H,J,K⟩,d,c⟩:=fX.1 a;rw[d]at c;simp only[fN]at c;obtain⟨rfl,C⟩:=c;have h:=zh C;have j:Kn ([.ob b o]++[]) w.heap:=⟨λe a=>by
  simp only[rb,my]at a;subst a;exact Pf p E D B G f,by simp⟩
 obtain⟨t,r,_⟩:=AS _ _ _ _ _ [] _ _ _ _ _ w d h j (λx f=>by cases f);obtain⟨rfl,_⟩:=F7 _ _ _ _ _ w t d r j.left h;exact⟨v,t,L,r,F,F,⟨F,F⟩,p⟩
theorem Kn.MS{L g:ae En}{i:Nat}{S:Hp}{d:ae Nat}{b:Nat}(j:Kn (L++g) H)(m:L[i]?=Z (.ro S d))(t:S[b]?=Z o)(s:b≠8)(v:b≠10)(f:b∉d):Kn (L.set i (.ro S (b::d))++[.ob b o]++g) H:=by
 have u:=j.at m;have q:H[b]?=Z o:=Pf j m t s v f;have r:Kn (L.set i (.ro S (b::d))++g) H:=yf j m ⟨u.1,λx E G q3 J=>u.2 x E G q3 λh=>J (eK _ h)⟩ (λx f=>.inl ⟨f.1,f.2.1,f.2.2.1,λh=>f.2.2.2 (eK _ h)⟩) (dt _) λx _ _=>rfl;refine Kn.perm (L:=.ob b o::(L.set i (.ro S (b::d))++g)) ⟨λe c=>?_,mQ.2 ⟨λe c x C p=>?_,r.nd⟩⟩ (by simpa using(qf (a:=En.ob b o) (l₁:=L.set i (.ro S (b::d))) (l₂:=g)).symm)
 ·rcases bM.1 c with rfl|c
  ·exact q
  ·exact r.sat e c
 ·cases C
  obtain⟨A,B,rfl,lq⟩:=PN m;rw[lq,iL]at c;rw[iL]at j;have y:=j.nd;rw[CH]at y;obtain⟨_,w,D⟩:=y;rw[List.cons_append,mQ]at w;have z:(En.ro S d).own b:=⟨aC t,s,v,f⟩;rcases pz.1 c with c|c
  ·exact D e c (.ro S d) (eX ..) b p z
  ·rcases bM.1 c with rfl|c
   ·exact p.2.2.2 (eX ..)
   ·exact w.1 e c b z p
theorem Kn.back{A m:ae En}{S:Hp}{j:ae Nat}{b:Nat}(f:Kn (.ro S (b::j)::.ob b o::(A++m)) H)(s:S[b]?=Z o):Kn (.ro S j::(A++m)) H:=by
 have q:=f.nd;rw[mQ,mQ]at q;obtain⟨t,u,v⟩:=q;have p:(En.ro S (b::j)).holds H:=f.sat _ (eX ..);have r:H[b]?=Z o:=f.sat (.ob b o) (eK _ (eX ..));refine⟨λe a=>?_,mQ.2 ⟨λe a x c g=>?_,v⟩⟩
 ·rcases bM.1 a with rfl|a
  ·refine⟨p.1,λx c g q3 w=>?_⟩
   by_cases e:x=b
   ·subst e;rw[r,s]
   ·exact p.2 x c g q3 λh=>(bM.1 h).elim e w
  ·exact f.sat e (eK _ (eK _ a))
 ·by_cases d:x=b
  ·subst d
   exact u e a x F g
  ·exact t e (eK _ a) x ⟨c.1,c.2.1,c.2.2.1,λh=>(bM.1 h).elim d c.2.2.2⟩ g
theorem Fl.MS{P:aD}{g:af ag}{S:Hp}{d:ae Nat}{b:Nat}{j:ae En}{R:ag->ae En->Prop}(p:S[b]?=Z o)(s:b≠8)(y:b≠10)(x:b∉d)(h:Fl P f g (.ob b o::j) λv L=>∃c,R v c/\L=.ob b o::c):Fl P f g (.ro S d::j) λv L=>∃c,R v c/\L=.ro S d::c:=λm H t w e=>by
 have q:=Kn.MS (i:=0) t F p s y x;have r:Kn ((.ob b o::j)++(.ro S (b::d)::m)) H:=q.perm (by
  simp only[List.set_cons_zero,List.cons_append,iL,List.nil_append];refine((qf (a:=En.ob b o) (l₁:=En.ro S (b::d)::j) (l₂:=m))).trans ?_;exact((qf (a:=En.ro S (b::d)) (l₁:=j) (l₂:=m)).symm.cons _))
 refine Fn.mono (h (.ro S (b::d)::m) H r w e) ?_;rintro v D ⟨z,B,_,⟨c,u,rfl⟩,C⟩;refine⟨z,B,.ro S d::c,⟨c,u,F⟩,?_⟩;refine Kn.back (A:=c) (b:=b) (o:=o) (C.perm ?_) p;simp only[List.cons_append];exact((qf (a:=En.ro S (b::d)) (l₁:=c) (l₂:=m)).cons _).trans (CC ..)
end
section
open Go.Conc (G)
section
variable {P:aD}{X:Cx}{W:ae aJ}{T:ae cz}{V:Env}{L:ae En}
abbrev H8(n:Nat)(P:aD)(X:Cx)(W:ae aJ)(T:ae cz)(V:Env)(L:ae En)(a:ae (Aw P))(z:Md:=.w):Cf P:=mE X.N n ⟨W,T,V,L,z,a,[]⟩
theorem Et(n:Nat)(a:ae (Aw P))(k:Rs P X (H8 n P X W T V L a).todo (H8 n P X W T V L a).ds (H8 n P X W T V L a).env (H8 n P X W T V L a).L)(j:(H8 n P X W T V L a).pr=(H8 n P X W T V L a).rf:=by kernel_rfl):Rs P X W T V L:=λc b H l i w e=>by
 subst e;obtain⟨o,p,f,g,h,d⟩:=TZ (fn:=X.fn) (cs:=X.cs) (L2:=X.L2) (N:=X.N) c n ⟨W,T,V,L,.w,a,[]⟩ b w (EP j) ⟨l,i,λx m=>by cases m⟩;exact Rh.steps f g h (k c o p.heap d.env d.kn)
theorem wR(a:ae (Aw P))(v:ag)(f:ae En)(h:Rs P X (sW W) T (pe V (kF W) v) f)(b:((mM W V).bind (λs=>(sE P s .w L a []).map λq=>(q.1,q.2.2.1,q.2.2.2.1.isEmpty,q.2.2.2.2)),fits X.N (kF W))=(iQ (.value v,f,U,(((mM W V).bind (λs=>(sE P s .w L a []).map λq=>q.2.2.2.2)).getD []).map Pr.rf),U):=by kernel_rfl):Rs P X W T V L:=by
 simp only[fN]at b;obtain⟨b,y⟩:=b;obtain⟨s,g,r⟩:=nj.1 b;obtain⟨⟨n,z,d,o,c⟩,i,j⟩:=fX.1 r;simp only[fN]at j;obtain⟨rfl,rfl,_,k⟩:=j;have m:∀p∈c,p.ok:=zh (by
  have e:(((mM W V).bind (λs=>(sE P s .w L a []).map λq=>q.2.2.2.2)).getD [])=c:=by rw[g];show((sE P s .w L a []).map _).getD []=c;rw[i];rfl
  rw[e]at k;exact k)
 refine kr (s:=s) (Q:=λu l=>u=v/\l=d) (λw t=>?_) (λu l A=>?_) (by rw[g,y])
 ·obtain⟨H,C,D,E,G,_⟩:=AS s .w z L d X.L2 a o [] c _ w i m t (λx B=>by cases B)
  exact⟨v,H,d,C,D,E,⟨F,F⟩,G⟩
 ·obtain⟨rfl,rfl⟩:=A
  exact h
theorem Wo(c:ae (Aw P))(v:Nat->ag)(b:Nat->ae En)(h:∀y,Rs P X (sW W) T (pe V (kF W) (v y)) (b y))(a:∀y,((mM W V).bind (λs=>(sE P s (.n y) L c []).map λq=>(q.1,q.2.2.1,q.2.2.2.1.isEmpty,q.2.2.2.2)),fits X.N (kF W))=(iQ (.value (v y),b y,U,(((mM W V).bind (λs=>(sE P s (.n y) L c []).map λq=>q.2.2.2.2)).getD []).map Pr.rf),U):=by intro y;kernel_rfl):Rs P X W T V L:=by
 have d:=a 0;simp only[fN]at d;obtain⟨d,B⟩:=d;obtain⟨s,g,_⟩:=nj.1 d;refine kr (s:=s) (Q:=λu l=>∃y,u=v y/\l=b y) (λw A=>?_) (λu l C=>?_) (by rw[g,B])
 ·have a:=a w.heap.size
  simp only[fN]at a;obtain⟨a,_⟩:=a;obtain⟨N,m,t⟩:=nj.1 a;rw[g]at m;cases m;obtain⟨⟨n,z,M,r,f⟩,i,j⟩:=fX.1 t;simp only[fN]at j;obtain⟨rfl,rfl,_,k⟩:=j;have o:∀p∈f,p.ok:=zh (by
   have e:(((mM W V).bind (λs=>(sE P s (.n w.heap.size) L c []).map λq=>q.2.2.2.2)).getD [])=f:=by rw[g];show((sE P s (.n w.heap.size) L c []).map _).getD []=f;rw[i];rfl
   rw[e]at k;exact k)
  obtain⟨K,E,G,H,J,_⟩:=AS s (.n w.heap.size) z L (b w.heap.size) X.L2 c r [] f _ w i o A (λx D=>by cases D;rfl);exact⟨v w.heap.size,K,b w.heap.size,E,G,H,⟨w.heap.size,F,F⟩,J⟩
 ·obtain⟨y,rfl,rfl⟩:=C
  exact h y
theorem lU.val{b:ae En}{s:Sem Next}{v:ag}(p:∀w,s.run P w=.ok (.value v) w):lU P b L s λu a=>u=v/\a=L:=λw c=>⟨v,w,L,p w,F,F,⟨F,F⟩,c⟩
end
def taS(x:ag)(a b:aK)(c:Bool):Sem Next:=tB (Instr.typeAssert x a b c) λv=>.pure (.value v)
theorem ayK{P:aD}{x v:ag}{a b:aK}{c:Bool}(h:∀w,(Instr.typeAssert x a b c).run P w=.ok v w)(w:ax):(taS x a b c).run P w=.ok (.value v) w:=by
 show((Instr.typeAssert x a b c)>>=λv=>(qi (mR v):Sem Next)).run P w=_;rw[fK,h w];rfl
def aaG(P:aD)(t b:aK):aj Bool:=match P.underlying b with
 |some (.interface a)=>(P.info? t).map λi=>(lacking a i.methods).isEmpty
 |_=>I
theorem PV{P:aD}{L f:ae En}(t a b:aK)(v:ag)(h:(aaG P t b,(P.info? b).map (·.zero))=(Z Y,Z (Z .nilIface)):=by kernel_rfl):lU P f L (taS (.iface t v) a b U) λu e=>u=.tuple #[.nilIface,.bool Y]/\e=L:=by
 simp only[fN]at h;obtain⟨c,g⟩:=h;unfold aaG at c;split at c
 ·rename_i d i
  exact lU.val (ayK λw=>run_typeAssert_lacksB i c g v a w)
 ·cases c
abbrev aY(a:aU):ag:=.iface 255 (.pointer (Z a))
def Ab(c:BinOp)(t:aK)(p q:iP)(a b:ag):Sem Next:=tB (tB (lF c t p q a b) λ_=>binOp c t a b) λv=>.pure (.value v)
theorem Jm{c:BinOp}{t:aK}{p q:iP}{a b v:ag}{w:ax}(d:(lF c t p q a b).run Sv w=.ok () w)(e:(binOp c t a b).run Sv w=.ok v w):(Ab c t p q a b).run Sv w=.ok (.value v) w:=by
 show(((lF c t p q a b)>>=λ_=>binOp c t a b)>>=λv=>(qi (mR v):Sem Next)).run Sv w=_;rw[fK,fK,d];simp only[fy];rw[e];rfl
theorem V4:∃a,Sv.underlying 63=Z (.interface a):=by
 have h:(match Sv.underlying 63 with
  |some (.interface _)=>U
  |_=>Y)=U:=by kernel_rfl
 split at h
 ·rename_i a b;exact⟨a,b⟩
 ·cases h
theorem UM(t e:aK)(h:(Sv.underlying t,(Sv.info? t).map (·.comparable),(Sv.info? e).map λi=>Nat.ble 1 i.size)=(Z (.pointer e),Z U,Z U)):Sv.underlying t=Z (.pointer e)/\(∃i,Sv.info? t=Z i/\i.comparable=U)/\∃j,Sv.info? e=Z j/\j.size≠0:=by
 simp only[fN]at h;obtain⟨a,b,c⟩:=h;obtain⟨i,f,d⟩:=fX.1 b;obtain⟨j,g,k⟩:=fX.1 c;exact⟨a,⟨i,f,d⟩,j,g,by have:=zH k;omega⟩
theorem aiP(t e:aK)(p q:iP)(a:aU)(h:(Sv.underlying t,(Sv.info? t).map (·.comparable),(Sv.info? e).map λi=>Nat.ble 1 i.size)=(Z (.pointer e),Z U,Z U))(w:ax):(Ab .eql 63 p q (.iface t (.pointer (Z a))) (.iface t (.pointer (Z a)))).run Sv w=.ok (.value (.bool U)) w:=by
 obtain⟨l,g⟩:=V4;obtain⟨b,⟨i,d,c⟩,j,f,k⟩:=UM t e h;exact Jm (by rfl) (run_eql_iface_ptr_same w a g b d c f)
theorem aqt(t e:aK)(p q:iP)(a:aU)(h:(Sv.underlying t,(Sv.info? t).map (·.comparable),(Sv.info? e).map λi=>Nat.ble 1 i.size)=(Z (.pointer e),Z U,Z U))(w:ax):(Ab .neq 63 p q (.iface t (.pointer (Z a))) (.iface t (.pointer (Z a)))).run Sv w=.ok (.value (.bool Y)) w:=by
 obtain⟨m,k⟩:=V4;obtain⟨c,⟨i,f,d⟩,j,g,l⟩:=UM t e h;refine Jm (by rfl) ?_;have:=run_eql_iface_ptr_same (P:=Sv) w a k c f d g;simp only[binOp]at this⊢;rw[fK]at this⊢;cases hr:bP Sv (Op.equal 63 (.iface t (.pointer (Z a))) (.iface t (.pointer (Z a)))) w with
 |ok b n=>
  rw[hr]at this;simp only[fy]at this⊢;cases this;rfl
 |halt=>rw[hr]at this;cases this
abbrev X9(t e:aK)(p q:iP)(a:aU)(h:(Sv.underlying t,(Sv.info? t).map (·.comparable),(Sv.info? e).map λi=>Nat.ble 1 i.size)=(Z (.pointer e),Z U,Z U):=by kernel_rfl):Aw Sv:=.s (Ab .eql 63 p q (.iface t (.pointer (Z a))) (.iface t (.pointer (Z a)))) (.value (.bool U)) (aiP t e p q a h)
abbrev neN(t e:aK)(p q:iP)(a:aU)(h:(Sv.underlying t,(Sv.info? t).map (·.comparable),(Sv.info? e).map λi=>Nat.ble 1 i.size)=(Z (.pointer e),Z U,Z U):=by kernel_rfl):Aw Sv:=.s (Ab .neq 63 p q (.iface t (.pointer (Z a))) (.iface t (.pointer (Z a)))) (.value (.bool Y)) (aqt t e p q a h)
structure Er(S:Hp)(ex:ae Nat)(a:aU):Prop where
 ob:∃c t,S[a.block]?=Z (.cells c t (0,0))
 n8:a.block≠8
 n10:a.block≠10
 nx:a.block∉ex
theorem eqN{L g:ae En}(i:Nat)(S:Hp)(c:ae Nat)(p q:iP)(a b:aU)(l:Er S c a)(m:Er S c b)(h:a≠b)(e:L[i]?=Z (.ro S c):=by kernel_rfl):lU Sv g L (Ab .eql 63 p q (aY a) (aY b)) λu f=>u=.bool Y/\f=L:=λw d=>by
 obtain⟨H,r⟩:=V4;obtain⟨k,⟨t,v,n⟩,j,o,s⟩:=UM 255 275 al;obtain⟨⟨E,J,x⟩,y,q3,C⟩:=l;obtain⟨⟨G,K,z⟩,A,B,D⟩:=m;exact⟨_,w,L,Jm (by rfl) (run_eql_iface_ptr_other w r k v n o s h (Pf d e x y q3 C) (Pf d e z A B D)),F,F,⟨F,F⟩,d⟩
end
section
open Go.Conc (G)
abbrev iw(i:Nat):ag:=.iface 216 (.agg #[.pointer (Z ⟨6,i,I⟩)])
theorem afh{X:Cx}{c:af bq}{k:ae aJ}{f:ae En->Prop}{l:af Bool}{g:ae cz}{b:Env}(d:Env)(h:pH P X c k f n l g d L)(u:d.map (λp=>lk b p.1)=d.map λp=>Z p.2:=by kernel_rfl):pH P X c k f n l g b L:=λj z e a w S s y i m o q r=>
 h j z e a w S s y ⟨i.size,λt v x=>i.get t v (Ot d t v u x)⟩ m o q r
theorem aeC (q:Nat) (nm:ByteArray) (i:Int) (er:Value):Fl Sv 51 [pt q].toArray [iM q nm i er] λv L=>v=er∧L=[iM q nm i er]:=by
 refine Fl.of 7 λb a=>av [0] (cU [] [er] _ ⟨rfl,rfl⟩)
theorem anI (S:Hp) (ex:List Nat) (q:Nat) (nm:ByteArray) (at_:Int) (o p:Addr) (ho:Er S ex o) (hp:Er S ex p):Fl Sv 90 [.iface 145 (pt q),aY o,.bool true].toArray [.ro S ex,iM q nm at_ (aY p)] λv L=>(v=.bool (decide (p=o)))∧L=[.ro S ex,iM q nm at_ (aY p)]:=by
 refine Fl.of 54 λb a=>av [.g,.d,.x] (Et 8 [] (kr (PV 145 63 225 (pt q)) ?_));rintro _ _ ⟨rfl,rfl⟩;refine av [] (eR [1] (aeC q nm at_ (aY p)) ?_);rintro _ _ ⟨rfl,rfl⟩;by_cases h:p=o
 ·subst h
  refine av [.d] (av [.g,X9 255 275 (tm 16) (tm 17) p] ?_);exact cU [] [.bool true] _ ⟨by simp[qV],rfl⟩
 ·refine av [.d] (av [.g] (kr (eqN 0 S ex (tm 16) (tm 17) p o hp ho h) ?_))
  rintro _ _ ⟨rfl,rfl⟩;refine Et 8 [] (kr (PV 255 63 225 (.pointer (some p))) ?_);rintro _ _ ⟨rfl,rfl⟩;refine Et 24 [] (kr (PV 255 63 223 (.pointer (some p))) ?_);rintro _ _ ⟨rfl,rfl⟩;refine Et 6 [] (kr (PV 255 63 224 (.pointer (some p))) ?_);rintro _ _ ⟨rfl,rfl⟩;exact av [] (cU [] [.bool false] _ ⟨by simp[qV,h],rfl⟩)
theorem anK(S:Hp)(b:ae Nat)(q:Nat)(c:ByteArray)(a:Int)(o p:aU)(d:Er S b o)(e:Er S b p):Fl Sv 53 [.iface 145 (pt q),aY o].toArray [.ro S b,iM q c a (aY p)] λv L=>(v=.bool (decide (p=o)))/\L=[.ro S b,iM q c a (aY p)]:=by
 refine Fl.of 22 λg f=>av [.d,.d] (wR [] (iw 255) [.ro S b,iM q c a (aY p)] (av [] (wR [] (.bool U) [.ro S b,iM q c a (aY p)] (av [] (eR [0,1] (anI S b q c a o p d e) ?_)))));rintro _ _ ⟨rfl,rfl⟩;exact av [] (cU [] [.bool (decide (p=o))] _ ⟨F,F⟩)
abbrev Pl(i y n:Nat):ag:=.agg #[.pointer (Z ⟨6,i,I⟩),pt y,.int .u64 n]
theorem afT (q t z:Nat):Fl Sv 88 [.iface 145 (pt q),.iface 147 (pt t),Pl 147 z 150,iw 145].toArray [.ob t (.cells #[.pointer none] 145),.ob z (.cells #[pt t] 147)] λv L=>v=.bool true∧L=[.ob t (.cells #[pt q] 145),.ob z (.cells #[pt t] 147)]:=by
 refine Fl.of 62 λb a=>di (λ_=>[.g]) λx=>?_;refine wR [] (iw 145) [.ob t (.cells #[.pointer none] 145),.ob z (.cells #[pt t] 147),.ob x (.cells #[.pointer (some ⟨6,147,none⟩),pt z,.int .u64 150] 182)] (av [] ?_);refine wR [] (.bool true) [.ob t (.cells #[.pointer none] 145),.ob z (.cells #[pt t] 147),.ob x (.cells #[.pointer (some ⟨6,147,none⟩),pt z,.int .u64 150] 182)] (av [2,2,2] ?_);refine wR [1] (Pl 145 t 406) [.ob t (.cells #[.pointer none] 145),.ob z (.cells #[pt t] 147),.ob x (.cells #[.pointer (some ⟨6,147,none⟩),pt z,.int .u64 150] 182)] (av [] ?_);refine Wo [] (λy=>Pl 145 y 150) (λy=>[.ob t (.cells #[.pointer none] 145),.ob z (.cells #[pt t] 147),.ob x (.cells #[.pointer (some ⟨6,147,none⟩),pt z,.int .u64 150] 182),.ob y (.cells #[pt q] 145)]) λy=>av [] ?_;refine wR [3,0] (.tuple #[]) [.ob t (.cells #[pt q] 145),.ob z (.cells #[pt t] 147),.ob x (.cells #[.pointer (some ⟨6,147,none⟩),pt z,.int .u64 150] 182),.ob y (.cells #[pt q] 145)] (av [] ?_);exact cU [2,3] [.bool true] _ ⟨rfl,rfl⟩
theorem afU (q t:Nat):Fl Sv 50 [.iface 145 (pt q),.iface 147 (pt t)].toArray [.ob t (.cells #[.pointer none] 145),.ob 5 (.cells #[iw 63] 185)] λv L=>v=.bool true∧L=[.ob t (.cells #[pt q] 145),.ob 5 (.cells #[iw 63] 185)]:=by
 refine Fl.of 42 λb a=>av [.d,.d] ?_;refine Wo [] (λy=>Pl 147 y 150) (λy=>[.ob t (.cells #[.pointer none] 145),.ob 5 (.cells #[iw 63] 185),.ob y (.cells #[pt t] 147)]) λz=>di (λ_=>[3,3,3,3,3,3]) λx=>?_;refine wR [] (iw 147) [.ob t (.cells #[.pointer none] 145),.ob 5 (.cells #[iw 63] 185),.ob z (.cells #[pt t] 147),.ob x (.cells #[.pointer (some ⟨6,147,none⟩),pt z,.int .u64 150] 182)] (av [] ?_);refine wR [] (.int .u8 22) [.ob t (.cells #[.pointer none] 145),.ob 5 (.cells #[iw 63] 185),.ob z (.cells #[pt t] 147),.ob x (.cells #[.pointer (some ⟨6,147,none⟩),pt z,.int .u64 150] 182)] (av [.d,3,3,3] ?_);refine wR [2] (.bool false) [.ob t (.cells #[.pointer none] 145),.ob 5 (.cells #[iw 63] 185),.ob z (.cells #[pt t] 147),.ob x (.cells #[.pointer (some ⟨6,147,none⟩),pt z,.int .u64 150] 182)] (av [] ?_);refine wR [] (iw 145) [.ob t (.cells #[.pointer none] 145),.ob 5 (.cells #[iw 63] 185),.ob z (.cells #[pt t] 147),.ob x (.cells #[.pointer (some ⟨6,147,none⟩),pt z,.int .u64 150] 182)] (av [] ?_);refine wR [] (.int .u8 22) [.ob t (.cells #[.pointer none] 145),.ob 5 (.cells #[iw 63] 185),.ob z (.cells #[pt t] 147),.ob x (.cells #[.pointer (some ⟨6,147,none⟩),pt z,.int .u64 150] 182)] (av [.d,1] ?_);refine wR [] (.bool true) [.ob t (.cells #[.pointer none] 145),.ob 5 (.cells #[iw 63] 185),.ob z (.cells #[pt t] 147),.ob x (.cells #[.pointer (some ⟨6,147,none⟩),pt z,.int .u64 150] 182)] (av [3,3,3] ?_);refine eR [0,2] (afT q t z) ?_;rintro _ _ ⟨rfl,rfl⟩;exact av [] (cU [2,3] [.bool true] _ ⟨rfl,rfl⟩)
theorem ajf(A:Nat→Addr):Fl Sv 52 [].toArray [aQ 0 (aY (A 0)),aQ 1 (aY (A 1)),aQ 2 (aY (A 2)),aQ 3 (aY (A 3)),aQ 4 (aY (A 4))] λv L=>∃z,v=sv (some z) 5 5∧L=[aQ 0 (aY (A 0)),aQ 1 (aY (A 1)),aQ 2 (aY (A 2)),aQ 3 (aY (A 3)),aQ 4 (aY (A 4)),.ob z (.cells #[aY (A 0),aY (A 1),aY (A 2),aY (A 3),aY (A 4)] 63)]:=by
 refine Fl.of 7 λb a=>di (λ_=>[0,1,2,3,4]) λz=>ez [sv (some z) 5 5] _ ⟨z,rfl,rfl⟩
theorem Us(b:ByteArray)(a:Int):Fl Sv 25 [.nilIface,.string b,goInt a].toArray [] λv L=>v=goInt 0∧L=[]:=by
 refine Fl.of 60 λd c=>av [.d] (ez [goInt 0] _ ⟨rfl,rfl⟩)
def bQ(S:Hp)(a:ae Nat)(A:Nat->aU):ae En:=[.ro S a,aQ 0 (aY (A 0)),aQ 1 (aY (A 1)),aQ 2 (aY (A 2)),aQ 3 (aY (A 3)),aQ 4 (aY (A 4)),.ob 5 (.cells #[iw 63] 185)]
structure rj(S:Hp)(ex:ae Nat)(A:Nat->aU):Prop where
 ok:∀i,i<5->Er S ex (A i)
 inj:∀i j,i<5->j<5->A i=A j->i=j
theorem Ut (S:Hp) (ex:List Nat) (A:Nat→Addr) (hA:rj S ex A) (q j:Nat) (hj:j<5) (nm:ByteArray) (at_:Int):Fl Sv 25 [.iface 145 (pt q),.string nm,goInt at_].toArray (bQ S ex A++[iM q nm at_ (aY (A j))]) λv L=>v=goInt ((j+1:Nat):Int)∧L=bQ S ex A++[iM q nm at_ (aY (A j))]:=by
 refine Fl.of 60 λl k=>di (λ_=>[.d]) λt=>?_;refine afa 35 (Qe (n:=33) [0,1] [] (Wu [2] ⟨Wq [8,6] (afU q t) ?_,trivial⟩));rintro _ _ ⟨rfl,rfl⟩;refine Ws ?_;refine Qe (n:=3) [3,4,5,6,7,8,9,10,11,12,13,14,15,16,17,18,19,20,21,22,23,24,25,26,27,29,30,31,32] [8,neN 145 149 (tm 17) (tm 19) ⟨q,0,none⟩,8,7,bB (a:=!(nm.toList==nm.toList)) (b:=false) ba,8,7,po at_ at_ rfl,8,8,7] (afh [(0,.iface 145 (pt q)),(6,goInt 0),(38,.bool false),(39,pt q),(44,aY (A j))] (Wu [28] ⟨Wq [7] (aeC q nm at_ (aY (A j))) ?_,trivial⟩));rintro _ _ ⟨rfl,rfl⟩;refine Ws (Qe (n:=0) [33,34] [neN 255 275 (tm 40) (tm 44) (A j)] (afg ?_));refine av [] (eR [1,2,3,4,5] (ajf A) ?_);rintro _ _ ⟨z,rfl,rfl⟩;refine av [.g,.x] ?_;refine ji (ι:=Nat) (λi=>5-i) (λi=>[(0,.iface 145 (pt q)),(47,sv (some z) 5 5),(48,goInt (5:Nat)),(49,goInt i),(6,goInt 0)]) (λ_=>[.ro S ex,aQ 0 (aY (A 0)),aQ 1 (aY (A 1)),aQ 2 (aY (A 2)),aQ 3 (aY (A 3)),aQ 4 (aY (A 4)),.ob 5 (.cells #[iw 63] 185),iM q nm at_ (aY (A j)),.ob t (.cells #[pt q] 145),.ob z (.cells #[aY (A 0),aY (A 1),aY (A 2),aY (A 3),aY (A 4)] 63)]) (λi=>i≤j) 0 (Nat.zero_le _) ?_;intro i m h;have g:[aY (A 0),aY (A 1),aY (A 2),aY (A 3),aY (A 4)][i*1]?=some (aY (A i)):=by
  have f:i=0∨i=1∨i=2∨i=3∨i=4:=by omega
  rcases f with rfl|rfl|rfl|rfl|rfl<;>rfl
 refine av [fu i (5:Nat),ix 150 1 z 5 5 i i ⟨rfl,by omega⟩,rr 9 g] ?_;refine eR [0,7] (anK S ex q nm at_ (A i) (A j) (hA.ok i ah) (hA.ok j hj)) ?_;rintro _ _ ⟨rfl,rfl⟩;by_cases d:i=j
 ·subst d
  have c:decide (A i=A i)=true:=by simp
  rw[c];exact av [aS i] (cU [8,9] [goInt ((i+1:Nat):Int)] _ ⟨rfl,rfl⟩)
 ·have c:decide (A j=A i)=false:=decide_eq_false λe=>d (hA.inj i j ah hj e.symm)
  rw[c];refine av [aS i,.g,.x] ?_;exact cq (h (i+1) ah ah)
end
section
open Go.Conc (G)
theorem ar5{a c:Int}{d:List En}{R:Nat→List En→Prop}(f:Fl Sv 23 [goInt a,goInt b,goInt c].toArray d λv L=>∃s,v=.tuple #[pt s,.nilIface]∧R s L):Fl Sv 8 [goInt a,goInt b,goInt c].toArray d λv L=>∃s,v=.tuple #[pt s,goInt 0]∧R s L:=by
 refine Fl.of 27 λi h=>av [] (lW [] d f ?_);rintro _ g ⟨s,rfl,e⟩;exact av [.d] (ez [pt s,goInt 0] _ ⟨s,rfl,e⟩)
theorem ar4{a c:Int}(p:Addr)(h:a<1∨a>8∨b<1∨b>20∨c<0∨c>1000000):Fl Sv 8 [goInt a,goInt b,goInt c].toArray [aQ 0 (aY p)] λv L=>v=.tuple #[.pointer none,goInt 1]∧L=[aQ 0 (aY p)]:=by
 refine Fl.of 27 λe d=>av [] (eR [0] (aqv a b c (aY p) h) ?_);rintro _ _ ⟨rfl,rfl⟩;exact av [.d,0,X9 255 275 (tm 22) (tm 23) p] (cU [] [.pointer none,goInt 1] _ ⟨rfl,rfl⟩)
theorem ar6{i:Int}{a:List En}{R:Int→List En→Prop}(c:Fl Sv 27 [pt s,goInt i].toArray a λv L=>∃r,v=.tuple #[goInt r,.nilIface]∧R r L):Fl Sv 14 [pt s,goInt i].toArray a λv L=>∃r,v=.tuple #[goInt r,goInt 0]∧R r L:=by
 refine Fl.of 18 λf e=>av [] (lW [] a c ?_);rintro _ d ⟨r,rfl,b⟩;refine av [] (IU (Us ⟨#[80,105,99,107]⟩ i) ?_);rintro _ _ ⟨rfl,rfl⟩;exact av [] (ez [goInt r,goInt 0] _ ⟨r,rfl,b⟩)
theorem ab8{S:Hp}{a:List Nat}{A:Nat→Addr}(c:rj S a A)(e:j<5){i:Int}{b L1:List En}(d:Fl Sv 27 [pt s,goInt i].toArray b λv L=>∃q,v=.tuple #[goInt 0,.iface 145 (pt q)]∧L=(bQ S a A++[iM q ⟨#[80,105,99,107]⟩ i (aY (A j))])++L1):Fl Sv 14 [pt s,goInt i].toArray b λv L=>v=.tuple #[goInt 0,goInt ((j+1:Nat):Int)]∧L=bQ S a A++L1:=by
 refine Fl.of 18 λg f=>av [] (lW [] b d ?_);rintro _ _ ⟨q,rfl,rfl⟩;refine cM ((bQ S a A++[iM q ⟨#[80,105,99,107]⟩ i (aY (A j))])++L1) (cF _ _ (av [] (lW [] _ (Ut S a A c q j e ⟨#[80,105,99,107]⟩ i) ?_)));rintro _ _ ⟨rfl,rfl⟩;exact av [] (ey [7] (bE (ez [goInt 0,goInt ((j+1:Nat):Int)] _ ⟨rfl,rfl⟩)))
theorem asb{a:List En}{R:Bool→List En→Prop}(c:Fl Sv 34 [pt s].toArray a λv L=>∃r,v=.tuple #[.bool r,.nilIface]∧R r L):Fl Sv 16 [pt s].toArray a λv L=>∃r,v=.tuple #[.bool r,goInt 0]∧R r L:=by
 refine Fl.of 14 λf e=>av [] (lW [] a c ?_);rintro _ d ⟨r,rfl,b⟩;refine av [] (IU (Us ⟨#[83,119,101,101,112]⟩ 0) ?_);rintro _ _ ⟨rfl,rfl⟩;exact av [] (ez [.bool r,goInt 0] _ ⟨r,rfl,b⟩)
theorem asa{S:Hp}{a:List Nat}{A:Nat→Addr}(c:rj S a A)(e:j<5){b L1:List En}(d:Fl Sv 34 [pt s].toArray b λv L=>∃q,v=.tuple #[.bool false,.iface 145 (pt q)]∧L=(bQ S a A++[iM q ⟨#[83,119,101,101,112]⟩ 0 (aY (A j))])++L1):Fl Sv 16 [pt s].toArray b λv L=>v=.tuple #[.bool false,goInt ((j+1:Nat):Int)]∧L=bQ S a A++L1:=by
 refine Fl.of 14 λg f=>av [] (lW [] b d ?_);rintro _ _ ⟨q,rfl,rfl⟩;refine cM ((bQ S a A++[iM q ⟨#[83,119,101,101,112]⟩ 0 (aY (A j))])++L1) (cF _ _ (av [] (lW [] _ (Ut S a A c q j e ⟨#[83,119,101,101,112]⟩ 0) ?_)));rintro _ _ ⟨rfl,rfl⟩;exact av [] (ey [7] (bE (ez [.bool false,goInt ((j+1:Nat):Int)] _ ⟨rfl,rfl⟩)))
theorem ab1  {g0:Option Nat} {kP:Nat} {pr:List Stp} {L0:List En} {Q:Int→Value→List En→Prop} {R:Int→Int→List En→Prop} (hl:pr.length≤4398046511104)
  (hf:∀g d,(pr=[]∨(0<pr.length∧∃A,g=some A))→Fl Sv 24 [pt s,sv g pr.length d].toArray (bK g d pr::L0) λv L=>∃id c a,v=.tuple #[goInt id,c]∧Q id c a∧L=bK g d pr::a)
  (hn:∀id c a,Q id c a→Fl Sv 25 [c,.string uj,goInt 0].toArray a λv L=>∃k,v=goInt k∧R id k L):
  Fl Sv 11 [pt s,sv g0 pr.length kP].toArray (bK g0 kP pr::L0) λv L=>∃id k a,v=.tuple #[goInt id,goInt k]∧R id k a∧L=bK g0 kP pr::a:=by
 rcases Nat.eq_zero_or_pos pr.length with l|l
 ·have G:pr=[]:=List.length_eq_zero_iff.1 l
  subst G;refine Fl.of 31 λx w=>?_;refine cF [bK g0 kP []] L0 (av [YtgahemdblfapeabGreatDoor.a0 45 3 none 0 0 (g0.map λb=>⟨b,0,none⟩) kP (Nat.le_refl _)] (pC 69 3 (bE ?_)));refine cM ([bK g0 kP []]++(bK none 0 []::L0)) ?_;refine lW [bK g0 kP []] _ (hf none 0 (.inl rfl)) ?_;rintro _ _ ⟨id,c,a,rfl,p,rfl⟩;refine cF [bK g0 kP [],bK none 0 []] a (av [.g,gi (0:Nat) (0:Nat)] (ey [1] (bE ?_)));refine lW [bK g0 kP []] _ (hn id c a p) ?_;rintro _ o ⟨k,rfl,q⟩;exact av [] (ez [goInt id,goInt k] _ ⟨id,k,o,rfl,q,rfl⟩)
 ·rcases hg:g0 with _|g
  ·exact Fl.of 31 λx w=>IV 0 none pr.length kP l rfl
  subst hg;refine Fl.of 31 λx w=>?_;refine cF [bK (some g) kP pr] L0 (av [] (pC 69 3 (kr (W5 32 45 3 1 0 g 0 pr.length kP 0 (pr.flatMap Stp.cells) (pr.flatMap Stp.cells) l ah (Bx Stp.len _) (JF Stp.one _) (λj u h=>by rw[Nat.zero_add];exact h)) ?_)));rintro _ _ ⟨e,f,rfl,rfl⟩;have z:(0:Nat)+pr.length=pr.length:=Nat.zero_add _;rw[z];refine av [] (bE ?_);refine cM ([bK (some g) kP pr]++(bK (some e) f pr::L0)) ?_;refine lW [bK (some g) kP pr] _ (hf (some e) f (.inr ⟨l,e,rfl⟩)) ?_;rintro _ _ ⟨id,c,a,rfl,p,rfl⟩;refine cF [bK (some g) kP pr,bK (some e) f pr] a (av [.g,.x] ?_);refine ji (ι:=Nat×List Value) (λi=>pr.length-i.1) (λi=>[(0,pt s),(6,sv (some e) pr.length f),(7,goInt id),(8,c),(19,goInt pr.length),(20,goInt i.1),(4,goInt 0),(5,goInt 0)]) (λi=>[bK (some g) kP pr,.row 69 3 (some e) pr.length f i.2]) (λi=>i.1≤pr.length∧i.2.length=pr.length*3) (0,pr.flatMap Stp.cells) ⟨Nat.zero_le _,Bx Stp.len _⟩ ?_;rintro⟨i,n⟩ ⟨E,m⟩ y;simp only at E m y;by_cases aC:i<pr.length
  ·have r:∀j(t:List Value),t.length=pr.length*3→j<3→∃u,t[i*3+j]?=some u:=λj t K J=>⟨_,List.getElem?_eq_getElem ah⟩
   obtain⟨u0,B⟩:=r 0 n m ah;obtain⟨M,C⟩:=r 1 (n.set (i*3) (goInt 6)) (by rw[List.length_set];exact m) ah;obtain⟨N,D⟩:=r 2 ((n.set (i*3) (goInt 6)).set (i*3+1) (goInt 0)) (by rw[List.length_set,List.length_set];exact m) ah;refine av [fu i pr.length,iX 45 3 e f aC,rr 1 B,rr 1 C,rr 1 D,aS i,.g,.x] ?_;exact cq (y (i+1,((n.set (i*3) (goInt 6)).set (i*3+1) (goInt 0)).set (i*3+2) (.string ⟨#[]⟩)) (by simp only;omega) ⟨aC,by simp[m]⟩)
  ·have H:i=pr.length:=by omega
   subst H;refine av [gi pr.length pr.length] (ey [1] (bE ?_));refine lW [bK (some g) kP pr] _ (hn id c a p) ?_;rintro _ o ⟨k,rfl,q⟩;exact av [] (ez [goInt id,goInt k] _ ⟨id,k,o,rfl,q,rfl⟩)
end
structure fV where
 set:Bool
 bt:Int
 aG:Int
structure Wt where
 key:Nat
 gone:Bool
 val:ByteArray
structure Cm where
 me:Nat
 pr:List Stp
 at_:Nat
 out:Bool
 site:Option Nat
 b:Int
 wrote:List Wt
 phase:Nat
 keys:Nat
 aG:Int
structure Mo where
 clock:Int
 dX:Int
 sites:List Int
 aM:List (List aZ)
 marks:List fV
 be:List Cm
 events:List Ev
 at_:Nat
 w:Int
 fE:Bool
def fV.no:fV:=⟨Y,0,0⟩
def eH:ByteArray:=⟨#[]⟩
def Mo.init(b a:Nat)(d:Int):Mo:=⟨0,d,kq b (-1),kq a [],kq a .no,[],[],0,0,Y⟩
def Mo.new(a b d:Int):Option Mo:=if a<1\/a>8\/b<1\/b>20\/d<0\/d>1000000 then I else Z (.init a.toNat b.toNat d)
def qp(a:Nat)(b:Bool)(p:Stp):Bool:=
 !(decide (p.kind<1)||decide (p.kind>6)||(decide (p.kind=1)==b))&&
 (if p.kind=2\/p.kind=3\/p.kind=4 then decide (0<=p.key)&&decide (p.key<a)else decide (p.key=0))&&
 decide (p.val.size<=16)&&(decide (p.kind=3)||decide (p.val.size=0))
def xI(p:Stp):Bool:=decide (p.kind≠5)&&decide (p.kind≠6)
def vX(a:Nat):Bool->List Stp->Bool
 |_,[]=>U
 |op,p::l=>qp a op p&&vX a (xI p) l
def Mo.right(m:Mo)(l:List Stp):Bool:=vX m.aM.length Y l&&decide (l.length<=200)
def Cm.new(a:Nat)(l:List Stp):Cm:=⟨a,l,0,Y,I,0,[],0,0,0⟩
def Mo.bt(m:Mo)(l:List Stp):Mo×Int×Int:=if m.fE then(m,0,5)else if m.right l=Y then(m,0,2)else if m.be.length=8 then(m,0,3)else({m with be:=m.be++[.new m.be.length l]},m.be.length,0)
def eo(b:Int):List aZ->Nat
 |[]=>0
 |v::l=>if v.aG<=b then 0 else eo b l+1
def mq(l:List aZ)(w:Int):List aZ:=match l[eo w l]? with
 |some v=>l.take (if v.gone then eo w l else eo w l+1)
 |none=>l
def Mo.da(m:Mo):Mo×Bool×Int:=
 if m.fE then(m,Y,5)
 else if m.at_=0 then({m with at_:=1,w:=m.clock},Y,0)
 else if m.at_<=m.sites.length then({m with at_:=m.at_+1,w:=match m.sites[m.at_-1]? with
  |some h=>if 0<=h/\h<m.w then h else m.w
  |none=>m.w},Y,0)
 else if m.at_-1-m.sites.length+1=m.aM.length then({m with at_:=0,aM:=m.aM.modify (m.at_-1-m.sites.length) λl=>mq l m.w},U,0)
 else({m with at_:=m.at_+1,aM:=m.aM.modify (m.at_-1-m.sites.length) λl=>mq l m.w},Y,0)
def Mo.bA(m:Mo)(c:Cm)(o:Int)(v:ByteArray)(t:Int):Mo:={m with events:=m.events++[⟨c.me,c.at_,o,v,t⟩]}
def Cm.up(c:Cm):Cm:={c with at_:=c.at_+1}
def yz(a:Nat)(k:fV):fV:=if k.set/\k.bt=a then .no else k
def Mo.leave(m:Mo)(c:Cm)(s:Nat):Mo:={m with marks:=m.marks.map (yz c.me),sites:=m.sites.set s (-1)}
def Cm.leave(c:Cm):Cm:={c with site:=I,wrote:=[],phase:=0,keys:=0,aG:=0}
def Cm.step(c:Cm)(n:Nat):Cm:=if c.keys+1=n then{c with keys:=0,phase:=c.phase+1}else{c with keys:=c.keys+1}
def mr(w:Wt):List Wt->List Wt
 |[]=>[w]
 |x::l=>if w.key<x.key then w::x::l else if x.key=w.key then w::l else x::mr w l
def Cm.take(c:Cm)(i:Nat):Cm:={c with site:=Z i}
def Cm.tick(c:Cm)(t:Int):Cm:={c with aG:=t,phase:=2}
def Cm.skip(c:Cm)(b:Bool):Cm:={c.up with out:=b}
def Cm.nk(c:Cm)(b:Int):Cm:={c.up with b:=b}
def Cm.put(c:Cm)(w:Wt):Cm:={c.up with wrote:=mr w c.wrote}
def lR(k:Nat)(l:List Wt):Option Wt:=l.find? λw=>w.key==k
def vj(a:Bool)(v:ByteArray):Int×ByteArray:=if a then(3,eH)else(2,v)
def oJ:List aZ->Int->Bool
 |v::_,b=>decide (v.aG>b)
 |[],_=>Y
def yE:List Int->Nat->Option Nat
 |[],_=>I
 |v::l,i=>if v=-1 then Z i else yE l (i+1)
def Mo.get(m:Mo)(c:Cm)(k:Nat):Option (Int×ByteArray):=match lR k c.wrote with
 |some w=>Z (vj w.gone w.val)
 |none=>
  let a:=m.marks.getD k .no;let l:=m.aM.getD k []
  if a.set/\a.bt≠c.me/\a.aG≠0/\a.aG<=c.b then I
  else match l[eo c.b l]? with
   |some v=>Z (vj v.gone v.val)
   |none=>Z (vj U eH)
def Mo.bX(m:Mo)(c:Cm):Mo×Cm×Int:=match c.pr[c.at_]? with
 |none=>(m,c,-1)
 |some p=>
  if c.out then(m.bA c 7 eH 0,c.skip (xI p),1)
  else if p.kind=1 then match c.site with
   |some i=>({m with sites:=m.sites.set i m.clock}.bA c 1 eH m.clock,c.nk m.clock,1)
   |none=>match yE m.sites 0 with
    |some i=>({m with sites:=m.sites.set i (-2)},c.take i,1)
    |none=>(m.bA c 5 eH 0,c.skip U,1)
  else if p.kind=2 then match m.get c p.key.toNat with
   |some o=>(m.bA c o.1 o.2 0,c.up,1)
   |none=>(m,c,0)
  else if p.kind=3\/p.kind=4 then(m.bA c 1 eH 0,c.put ⟨p.key.toNat,decide (p.kind=4),p.val⟩,1)
  else match c.site with
   |none=>(m,c,1)
   |some s=>
    if p.kind=6\/c.wrote.length=0 then((m.leave c s).bA c 1 eH 0,c.up.leave,1)
    else if c.phase=0 then match c.wrote[c.keys]? with
     |none=>(m,c,1)
     |some w=>
      let a:=m.marks.getD w.key .no
      if(a.set&&decide (a.bt≠c.me))||oJ (m.aM.getD w.key []) c.b then((m.leave c s).bA c 4 eH 0,c.up.leave,1)
      else({m with marks:=m.marks.set w.key ⟨U,c.me,0⟩},c.step c.wrote.length,1)
    else if c.phase=1 then
     if m.clock=m.dX then((m.leave c s).bA c 6 eH 0,c.up.leave,1)
     else({m with clock:=m.clock+1,marks:=c.wrote.foldl (λl w=>l.modify w.key λk=>{k with aG:=m.clock+1}) m.marks},c.tick (m.clock+1),1)
    else if c.phase=2 then match c.wrote[c.keys]? with
     |none=>(m,c,1)
     |some w=>({m with aM:=m.aM.modify w.key λl=>⟨c.aG,w.gone,w.val⟩::l,marks:=m.marks.set w.key .no},c.step c.wrote.length,1)
    else((m.leave c s).bA c 1 eH c.aG,c.up.leave,1)
def Mo.pick(m:Mo)(n:Int):Mo×Int×Int:=
 if m.fE then(m,0,5)
 else if n<0 then(m,0,4)
 else match m.be[n.toNat]? with
  |none=>(m,0,4)
  |some c=>let r:=m.bX c;({r.1 with be:=m.be.set n.toNat r.2.1},r.2.2,0)
def Cm.own(c:Cm)(j:Nat):Prop:=(c.phase=0/\j<c.keys)\/c.phase=1\/(c.phase=2/\c.keys<=j)
def Cm.zd(marks:List fV)(c:Cm):Prop:=∀j w,c.wrote[j]?=Z w->c.own j->∃t,marks[w.key]?=Z ⟨U,c.me,t⟩
structure Cm.Ok(K S:Nat)(c:Cm):Prop where
 len:c.pr.length<=200
 at_:c.at_<=c.pr.length
 pr:vX K Y c.pr=U
 lQ:(c.wrote.map (·.key)).Pairwise (·<·)
 key:∀w∈c.wrote,w.key<K
 site:∀s,c.site=Z s->s<S
 opn:c.out=Y->∀p,c.pr[c.at_]?=Z p->p.kind≠1->∃s,c.site=Z s
 cls:(c.out=U\/c.site=I)->c.wrote=[]
 out:c.out=U->c.site=I
 kz:∀p,c.pr[c.at_]?=Z p->p.kind=1->c.wrote=[]
 tO:(c.keys≠0\/c.phase≠0)->∃p,c.pr[c.at_]?=Z p/\p.kind=5
 keys:c.wrote≠[]->c.keys<c.wrote.length
 kR:c.wrote=[]->c.keys=0/\c.phase=0
 ph:c.phase<=3
 qU:c.phase=1\/c.phase=3->c.keys=0
 b:0<=c.b
 st:0<=c.aG
def Cm.inst(c:Cm):Nat:=if c.phase=2 then c.keys else if c.phase=3 then c.wrote.length else 0
structure Mo.Ok(m:Mo):Prop where
 k:1<=m.aM.length/\m.aM.length<=20
 s:1<=m.sites.length/\m.sites.length<=8
 ml:m.marks.length=m.aM.length
 si:∀v∈m.sites,-2<=v
 ck:0<=m.clock/\m.clock<=m.dX/\m.dX<=1000000
 cl:m.be.length<=8
 me:∀i(c:Cm),m.be[i]?=Z c->c.me=i/\c.Ok m.aM.length m.sites.length/\c.zd m.marks
 ev:m.events.length=(m.be.map (·.at_)).sum
 ch:(m.aM.map List.length).sum<=(m.be.map λc=>20*c.at_+c.inst).sum
 at_:m.at_<=m.sites.length+m.aM.length
theorem UL{K:Nat}:∀{l:List Stp}{o:Bool}{i:Nat}{p:Stp},vX K o l=U->l[i]?=Z p->∃d,qp K d p=U/\(∀q,l[i+1]?=Z q->qp K (xI p) q=U)
 |x::l,o,0,p,h,b=>by
  simp only[vX,gT]at h;simp only[qe,gB]at b;subst b;refine⟨o,h.1,λq a=>?_⟩;cases l with
  |nil=>simp at a
  |cons y l=>
   simp only[List.getElem?_cons_succ,qe,gB]at a;subst a;simp only[vX,gT]at h;exact h.2.1
 |x::l,o,i+1,p,h,b=>by
  simp only[vX,gT]at h;obtain⟨d,e,f⟩:=UL (i:=i) h.2 (by simpa using b);exact⟨d,e,λq a=>f q (by simpa using a)⟩
structure WR(K:Nat)(p:Stp):Prop where
 kind:1<=p.kind/\p.kind<=6
 key:p.kind=2\/p.kind=3\/p.kind=4->0<=p.key/\p.key<K
theorem aef{K:Nat}{o:Bool}{p:Stp}(h:qp K o p=U):WR K p:=by
 simp only[qp,gT,Gp,Bool.or_eq_false_iff,decide_eq_false_iff_not]at h;refine⟨by omega,λa=>?_⟩;have:=h.1.1.2;rw[if_pos a]at this;simpa using this
theorem VS{K:Nat}{o:Bool}{p:Stp}(h:qp K o p=U):o=!decide (p.kind=1):=by
 simp only[qp,gT,Gp,Bool.or_eq_false_iff]at h;have:=h.1.1.1.2;cases o<;>cases hd:decide (p.kind=1)<;>simp_all
theorem tC{m:Mo}{c:Cm}(h:c.Ok m.aM.length m.sites.length)(a:Mo×Cm×Int->Prop)
  (P:c.pr[c.at_]?=I->a (m,c,-1))
  (Q:∀p,c.pr[c.at_]?=Z p->c.out=U->a (m.bA c 7 eH 0,c.skip (xI p),1))
  (R:∀p i,c.pr[c.at_]?=Z p->c.out=Y->p.kind=1->c.site=Z i->i<m.sites.length->a ({m with sites:=m.sites.set i m.clock}.bA c 1 eH m.clock,c.nk m.clock,1))
  (T:∀p i,c.pr[c.at_]?=Z p->c.out=Y->p.kind=1->c.site=I->yE m.sites 0=Z i->a ({m with sites:=m.sites.set i (-2)},c.take i,1))
  (V:∀p,c.pr[c.at_]?=Z p->c.out=Y->p.kind=1->c.site=I->yE m.sites 0=I->a (m.bA c 5 eH 0,c.skip U,1))
  (W:∀p k o s,c.pr[c.at_]?=Z p->c.out=Y->p.kind=2->p.key=(k:Nat)->k<m.aM.length->c.site=Z s->s<m.sites.length->m.get c k=Z o->a (m.bA c o.1 o.2 0,c.up,1))
  (X:∀p k s,c.pr[c.at_]?=Z p->c.out=Y->p.kind=2->p.key=(k:Nat)->k<m.aM.length->c.site=Z s->s<m.sites.length->m.get c k=I->a (m,c,0))
  (h8:∀p k s,c.pr[c.at_]?=Z p->c.out=Y->(p.kind=3\/p.kind=4)->p.key=(k:Nat)->k<m.aM.length->c.site=Z s->s<m.sites.length->a (m.bA c 1 eH 0,c.put ⟨k,decide (p.kind=4),p.val⟩,1))
  (h9:∀p s,c.pr[c.at_]?=Z p->c.out=Y->(p.kind=6\/(p.kind=5/\c.wrote=[]))->c.site=Z s->s<m.sites.length->a ((m.leave c s).bA c 1 eH 0,c.up.leave,1))
  (iN:∀p s w,c.pr[c.at_]?=Z p->c.out=Y->p.kind=5->c.site=Z s->s<m.sites.length->c.phase=0->c.wrote[c.keys]?=Z w->w.key<m.aM.length->(((m.marks.getD w.key .no).set&&decide ((m.marks.getD w.key .no).bt≠c.me))||oJ (m.aM.getD w.key []) c.b)=U->a ((m.leave c s).bA c 4 eH 0,c.up.leave,1))
  (M:∀p s w,c.pr[c.at_]?=Z p->c.out=Y->p.kind=5->c.site=Z s->s<m.sites.length->c.phase=0->c.wrote[c.keys]?=Z w->w.key<m.aM.length->(((m.marks.getD w.key .no).set&&decide ((m.marks.getD w.key .no).bt≠c.me))||oJ (m.aM.getD w.key []) c.b)=Y->a ({m with marks:=m.marks.set w.key ⟨U,c.me,0⟩},c.step c.wrote.length,1))
  (N:∀p s,c.pr[c.at_]?=Z p->c.out=Y->p.kind=5->c.site=Z s->s<m.sites.length->c.phase=1->c.keys=0->c.wrote≠[]->m.clock=m.dX->a ((m.leave c s).bA c 6 eH 0,c.up.leave,1))
  (z:∀p s,c.pr[c.at_]?=Z p->c.out=Y->p.kind=5->c.site=Z s->s<m.sites.length->c.phase=1->c.keys=0->c.wrote≠[]->m.clock≠m.dX->a ({m with clock:=m.clock+1,marks:=c.wrote.foldl (λl w=>l.modify w.key λk=>{k with aG:=m.clock+1}) m.marks},c.tick (m.clock+1),1))
  (A:∀p s w,c.pr[c.at_]?=Z p->c.out=Y->p.kind=5->c.site=Z s->s<m.sites.length->c.phase=2->c.wrote[c.keys]?=Z w->w.key<m.aM.length->a ({m with aM:=m.aM.modify w.key λl=>⟨c.aG,w.gone,w.val⟩::l,marks:=m.marks.set w.key .no},c.step c.wrote.length,1))
  (B:∀p s,c.pr[c.at_]?=Z p->c.out=Y->p.kind=5->c.site=Z s->s<m.sites.length->c.phase=3->c.keys=0->c.wrote≠[]->a ((m.leave c s).bA c 1 eH c.aG,c.up.leave,1)):a (m.bX c):=by
 unfold Mo.bX;cases hp:c.pr[c.at_]? with
 |none=>exact P hp
 |some p=>
  obtain⟨o',hs,_⟩:=UL h.pr hp;have C:=aef hs;simp only
  cases ho:c.out with
  |true=>exact Q p hp ho
  |false=>
   simp only[hZ,if_false];by_cases g:p.kind=1
   ·simp only[g,if_true]
    cases b:c.site with
    |some i=>exact R p i hp ho g b (h.site i b)
    |none=>
     simp only
     cases iZ:yE m.sites 0 with
     |some i=>simp only;exact T p i hp ho g b iZ
     |none=>exact V p hp ho g b iZ
   ·obtain⟨s,b⟩:=h.opn ho p hp g
    have d:=h.site s b;simp only[g,if_false];by_cases q:p.kind=2
    ·have hk:=C.key (.inl q)
     have H:p.key=(p.key.toNat:Nat):=by omega
     have G:p.key.toNat<m.aM.length:=by omega
     simp only[q,if_true];cases hg:m.get c p.key.toNat with
     |some o=>exact W p _ o s hp ho q H G b d hg
     |none=>exact X p _ s hp ho q H G b d hg
    ·simp only[q,if_false]
     by_cases v:p.kind=3\/p.kind=4
     ·have hk:=C.key (.inr v)
      simp only[v,if_true];exact h8 p _ s hp ho v ah ah b d
     ·have dV:=C.kind
      simp only[v,if_false,b];by_cases D:p.kind=6\/c.wrote.length=0
      ·simp only[D,if_true]
       refine h9 p s hp ho ?_ b d;by_cases r:p.kind=6
       ·exact .inl r
       ·exact .inr ⟨by omega,zC (D.resolve_left r)⟩
      ·simp only[D,if_false]
       have j:p.kind=5:=by omega
       have J:0<c.wrote.length:=by omega
       have t:c.wrote≠[]:=λe=>by rw[e]at J;simp at J
       have O:=h.keys t;obtain⟨w,f⟩:∃w,c.wrote[c.keys]?=Z w:=⟨_,eI O⟩;have y:w.key<m.aM.length:=h.key w (jZ f);by_cases x:c.phase=0
       ·simp only[x,if_true,f]
        cases hc:(((m.marks.getD w.key .no).set&&decide ((m.marks.getD w.key .no).bt≠c.me))||oJ (m.aM.getD w.key []) c.b)with
        |true=>simp only[if_true];exact iN p s w hp ho j b d x f y hc
        |false=>simp only[hZ,if_false];exact M p s w hp ho j b d x f y hc
       ·simp only[x,if_false]
        by_cases n:c.phase=1
        ·simp only[n,if_true]
         by_cases u:m.clock=m.dX
         ·simp only[u,if_true];exact N p s hp ho j b d n (h.qU (.inl n)) t u
         ·simp only[u,if_false];exact z p s hp ho j b d n (h.qU (.inl n)) t u
        ·simp only[n,if_false]
         by_cases E:c.phase=2
         ·simp only[E,if_true,f];exact A p s w hp ho j b d E f y
         ·have:=h.ph
          have L:c.phase=3:=by omega
          simp only[E,if_false];exact B p s hp ho j b d L (h.qU (.inr L)) t
section
variable {K S:Nat}{c:Cm}{p:Stp}
theorem Cm.Ok.lx(h:c.Ok K S)(b:c.pr[c.at_]?=Z p){q:Stp}(d:c.pr[c.at_+1]?=Z q):(q.kind=1↔xI p=Y):=by
 obtain⟨_,_,a⟩:=UL h.pr b;have:=VS (a q d);rw[this];simp
theorem abV(p:Stp)(h:p.kind=5\/p.kind=6):xI p=Y:=by
 rcases h with h|h<;>simp[xI,h]
theorem Ib(p:Stp)(h:p.kind≠5/\p.kind≠6):xI p=U:=by simp[xI,h]
theorem Cm.Ok.lt(h:c.pr[c.at_]?=Z p):c.at_+1<=c.pr.length:=(dq.1 h).1
theorem Cm.Ok.no(h:c.Ok K S)(f:c.pr[c.at_]?=Z p)(e:p.kind≠5):c.keys=0/\c.phase=0:=by
 by_cases d:c.keys≠0\/c.phase≠0
 ·obtain⟨q,a,b⟩:=h.tO d
  rw[f]at a;cases a;exact absurd b e
 ·omega
theorem Cm.Ok.over(h:c.Ok K S)(a:c.pr[c.at_]?=Z p)(e:p.kind=5\/p.kind=6)(_:c.out=Y):c.up.leave.Ok K S where
 len:=h.len
 at_:=Cm.Ok.lt a
 pr:=h.pr
 lQ:=by simp[Cm.leave]
 key:=by simp[Cm.leave]
 site:=by simp[Cm.leave]
 opn:=λ_ q f d=>absurd ((h.lx a f).2 (abV p e)) d
 cls:=λ_=>rfl
 out:=λ_=>rfl
 kz:=λ_ _ _=>rfl
 tO:=by simp[Cm.leave]
 keys:=by simp[Cm.leave]
 kR:=by simp[Cm.leave]
 ph:=by simp[Cm.leave]
 qU:=by simp[Cm.leave]
 b:=h.b
 st:=by simp[Cm.leave]
theorem Cm.Ok.afO(h:c.Ok K S)(a:c.pr[c.at_]?=Z p)(j:p.kind=2)(f:c.out=Y):c.up.Ok K S where
 len:=h.len
 at_:=Cm.Ok.lt a
 pr:=h.pr
 lQ:=h.lQ
 key:=h.key
 site:=h.site
 opn:=λ_ q d i=>h.opn f p a ah
 cls:=h.cls
 out:=h.out
 kz:=λq d g=>absurd ((h.lx a d).1 g) (by rw[Ib p ah];simp)
 tO:=λe=>by
  have:=h.no a ah;simp only[Cm.up]at e;omega
 keys:=h.keys
 kR:=h.kR
 ph:=h.ph
 qU:=h.qU
 b:=h.b
 st:=h.st
theorem aeW(w:Wt)(l:List Wt):mr w l≠[]:=by
 cases l with
 |nil=>simp[mr]
 |cons x l=>simp only[mr];repeat' split<;>simp
theorem azV(w:Wt)(l:List Wt):0<(mr w l).length:=List.length_pos_iff.2 (aeW w l)
theorem aeV(w:Wt)(l:List Wt):∀k,k∈(mr w l).map (·.key)->k=w.key\/k∈l.map (·.key):=by
 induction l with
 |nil=>intro k a;simp[mr]at a;exact .inl a
 |cons x l b=>
  intro k a;simp only[mr]at a;split at a
  ·simpa using a
  ·split at a
   ·rename_i d
    simp only[fw,bM]at a⊢;rcases a with a|a
    ·exact .inl a
    ·exact .inr (.inr a)
   ·simp only[fw,bM]at a⊢
    rcases a with a|a
    ·exact .inr (.inl a)
    ·rcases b k a with h|h
     ·exact .inl h
     ·exact .inr (.inr h)
theorem aeY(w:Wt):∀l:List Wt,(l.map (·.key)).Pairwise (·<·)->((mr w l).map (·.key)).Pairwise (·<·)
 |[],_=>by simp[mr]
 |x::l,h=>by
  simp only[fw,mQ]at h;obtain⟨b,d⟩:=h;simp only[mr];split
  ·rename_i aC
   simp only[fw,mQ,bM];refine⟨λk a=>?_,b,d⟩;rcases a with rfl|a
   ·exact aC
   ·exact Nat.lt_trans aC (b k a)
  ·split
   ·rename_i e
    simp only[fw,mQ];exact⟨by rw[<-e];exact b,d⟩
   ·rename_i f e
    simp only[fw,mQ];refine⟨λk a=>?_,aeY w l d⟩;rcases aeV w l k a with rfl|a
    ·omega
    ·exact b k a
theorem Cm.Ok.wrote(h:c.Ok K S)(a:c.pr[c.at_]?=Z p)(o:p.kind=3\/p.kind=4)(f:c.out=Y)(w:Wt)(j:w.key<K):(c.put w).Ok K S where
 len:=h.len
 at_:=Cm.Ok.lt a
 pr:=h.pr
 lQ:=aeY w _ h.lQ
 key:=λx k=>by
  rcases aeV w c.wrote x.key (jg k)with e|e
  ·rw[e];exact j
  ·obtain⟨y,l,e⟩:=og.1 e
   rw[<-e];exact h.key y l
 site:=h.site
 opn:=λ_ q g n=>h.opn f p a ah
 cls:=λd=>by
  obtain⟨s,i⟩:=h.opn f p a ah;simp[Cm.put,Cm.up,f,i]at d
 out:=h.out
 kz:=λq g m=>absurd ((h.lx a g).1 m) (by rw[Ib p ah];simp)
 tO:=λd=>by
  have:=h.no a ah;simp only[Cm.put,Cm.up]at d;omega
 keys:=λ_=>by
  have:=h.no a ah;simp only[Cm.put,Cm.up,this.1];exact azV w _
 kR:=λe=>absurd e (aeW w _)
 ph:=h.ph
 qU:=h.qU
 b:=h.b
 st:=h.st
theorem Cm.Ok.adf(h:c.Ok K S)(d:c.pr[c.at_]?=Z p)(j:c.out=U\/(p.kind=1/\c.site=I))(b:Bool)(g:b=xI p):(c.skip b).Ok K S:=by
 have e:c.site=I:=j.elim h.out (·.2);have a:c.wrote=[]:=h.cls (.inr e);obtain⟨m,n⟩:=h.kR a;subst g;exact{
  len:=h.len
  at_:=Cm.Ok.lt d
  pr:=h.pr
  lQ:=h.lQ
  key:=h.key
  site:=h.site
  opn:=λl q k f=>absurd ((h.lx d k).2 l) f
  cls:=λ_=>a
  out:=λ_=>e
  kz:=λ_ _ _=>a
  tO:=λi=>by simp only[Cm.skip,Cm.up]at i;omega
  keys:=h.keys
  kR:=h.kR
  ph:=h.ph
  qU:=h.qU
  b:=h.b
  st:=h.st}
theorem Cm.Ok.begun(h:c.Ok K S)(d:c.pr[c.at_]?=Z p)(g:p.kind=1)(l:c.out=Y){s:Nat}(i:c.site=Z s)(b:Int)(e:0<=b):(c.nk b).Ok K S:=by
 have a:=h.kz p d g;obtain⟨j,k⟩:=h.kR a;exact{
  len:=h.len
  at_:=Cm.Ok.lt d
  pr:=h.pr
  lQ:=h.lQ
  key:=h.key
  site:=h.site
  opn:=λ_ _ _ _=>⟨s,i⟩
  cls:=λ_=>a
  out:=h.out
  kz:=λ_ _ _=>a
  tO:=λf=>by simp only[Cm.nk,Cm.up]at f;omega
  keys:=h.keys
  kR:=h.kR
  ph:=h.ph
  qU:=h.qU
  b:=e
  st:=h.st}
theorem Cm.Ok.taken(h:c.Ok K S)(g:c.pr[c.at_]?=Z p)(e:p.kind=1)(f:c.out=Y)(s:Nat)(j:s<S):(c.take s).Ok K S:=by
 have d:=h.kz p g e;exact{
  len:=h.len
  at_:=h.at_
  pr:=h.pr
  lQ:=h.lQ
  key:=h.key
  site:=λt i=>by simp only[Cm.take,gB]at i;omega
  opn:=λ_ _ _ _=>⟨s,F⟩
  cls:=λ_=>d
  out:=λa=>by rw[show(c.take s).out=c.out from F,f]at a;cases a
  kz:=λ_ _ _=>d
  tO:=h.tO
  keys:=h.keys
  kR:=h.kR
  ph:=h.ph
  qU:=h.qU
  b:=h.b
  st:=h.st}
theorem Cm.qX(c:Cm)(n:Nat):(c.step n).me=c.me/\(c.step n).pr=c.pr/\(c.step n).at_=c.at_/\(c.step n).out=c.out/\(c.step n).site=c.site/\(c.step n).b=c.b/\(c.step n).wrote=c.wrote/\(c.step n).aG=c.aG:=by
 unfold Cm.step;split<;>simp
theorem Cm.xW(c:Cm)(n:Nat):(c.keys+1=n/\(c.step n).keys=0/\(c.step n).phase=c.phase+1)\/(c.keys+1≠n/\(c.step n).keys=c.keys+1/\(c.step n).phase=c.phase):=by
 unfold Cm.step;split
 ·exact .inl ⟨‹_›,F,F⟩
 ·exact .inr ⟨‹_›,F,F⟩
theorem Cm.Ok.aeb(h:c.Ok K S)(q:c.pr[c.at_]?=Z p)(o:p.kind=5)(w:c.out=Y){s:Nat}(r:c.site=Z s)(t:c.phase=0\/c.phase=2)(i:c.keys<c.wrote.length):(c.step c.wrote.length).Ok K S:=by
 obtain⟨u,d,g,j,f,m,a,n⟩:=c.qX c.wrote.length;have k:c.wrote≠[]:=λe=>by rw[e]at i;simp at i
 have v:=c.xW c.wrote.length;have l:(c.step c.wrote.length).keys<c.wrote.length:=by omega
 exact{
  len:=by rw[d];exact h.len
  at_:=by rw[d,g];exact h.at_
  pr:=by rw[d];exact h.pr
  lQ:=by rw[a];exact h.lQ
  key:=by rw[a];exact h.key
  site:=by rw[f];exact h.site
  opn:=λ_ _ _ _=>⟨s,by rw[f];exact r⟩
  cls:=by rw[j,f,a];exact h.cls
  out:=by rw[j,f];exact h.out
  kz:=by rw[d,g,a];exact h.kz
  tO:=λ_=>⟨p,by rw[d,g];exact q,o⟩
  keys:=λ_=>by rw[a];exact l
  kR:=λe=>by rw[a]at e;exact absurd e k
  ph:=by omega
  qU:=by omega
  b:=by rw[m];exact h.b
  st:=by rw[n];exact h.st}
theorem Cm.Ok.ayY(h:c.Ok K S)(f:c.pr[c.at_]?=Z p)(d:p.kind=5)(t:Int)(g:0<=t)(a:c.wrote≠[]):(c.tick t).Ok K S where
 len:=h.len
 at_:=h.at_
 pr:=h.pr
 lQ:=h.lQ
 key:=h.key
 site:=h.site
 opn:=h.opn
 cls:=h.cls
 out:=h.out
 kz:=h.kz
 tO:=λ_=>⟨p,f,d⟩
 keys:=h.keys
 kR:=λe=>absurd e a
 ph:=by simp[Cm.tick]
 qU:=by simp[Cm.tick]
 b:=h.b
 st:=g
end
theorem Ro:∀(l:List Int)(i j:Nat),yE l i=Z j->i<=j/\j<i+l.length
 |[],_,_,h=>by cases h
 |v::l,i,j,h=>by
  simp only[yE]at h;split at h
  ·cases h;simp
  ·have:=Ro l (i+1) j h
   simp only[jY];omega
theorem PT{α:Type}(f:α->Nat):∀(l:List α)(i:Nat)(a b:α),l[i]?=Z a->((l.set i b).map f).sum+f a=(l.map f).sum+f b
 |[],i,a,b,h=>by simp at h
 |x::l,0,a,b,h=>by
  simp only[qe,gB]at h;subst h;simp only[List.set_cons_zero,fw,aBv];omega
 |x::l,i+1,a,b,h=>by
  have:=PT f l i a b (by simpa using h);simp only[List.set_cons_succ,fw,aBv];omega
theorem aeh{α:Type}(f:α->Nat)(g:α->α):∀(l:List α)(i:Nat)(a:α),l[i]?=Z a->((l.modify i g).map f).sum+f a=(l.map f).sum+f (g a)
 |[],i,a,h=>by simp at h
 |x::l,0,a,h=>by
  simp only[qe,gB]at h;subst h;simp only[List.modify_zero_cons,fw,aBv];omega
 |x::l,i+1,a,h=>by
  have:=aeh f g l i a (by simpa using h);simp only[List.modify_succ_cons,fw,aBv];omega
theorem aei{α:Type}(f:α->Nat)(g:α->α)(b:∀a,f (g a)<=f a):∀(l:List α)(i:Nat),((l.modify i g).map f).sum<=(l.map f).sum
 |[],i=>by simp
 |x::l,0=>by
  have:=b x;simp only[List.modify_zero_cons,fw,aBv];omega
 |x::l,i+1=>by
  have:=aei f g b l i;simp only[List.modify_succ_cons,fw,aBv];omega
theorem ad7(K:Nat):∀(l:List Nat)(n:Nat),l.Pairwise (·<·)->(∀k∈l,n<=k/\k<K)->n<=K->n+l.length<=K
 |[],n,_,_,d=>by simpa using d
 |x::l,n,h,b,d=>by
  simp only[mQ]at h;have e:=b x (eX ..);have:=ad7 K l (x+1) h.2 (λk a=>⟨h.1 k a,(b k (eK _ a)).2⟩) ah;simp only[jY];omega
theorem Cm.Ok.aeQ{K S:Nat}{c:Cm}(h:c.Ok K S):c.wrote.length<=K:=by
 have:=ad7 K (c.wrote.map (·.key)) 0 h.lQ (λk a=>by
  obtain⟨w,b,e⟩:=og.1 a;exact⟨gJ _,e▸h.key w b⟩) (gJ _)
 simpa using this
theorem Cm.Ok.inst{K S:Nat}{c:Cm}(h:c.Ok K S):c.inst<=K:=by
 have:=h.aeQ;unfold Cm.inst;split
 ·by_cases a:c.wrote=[]
  ·have:=h.kR a;omega
  ·have:=h.keys a;omega
 ·split<;>omega
theorem Nj(T:Int):∀(a:List Wt)(l:List fV)(k:Nat),(a.foldl (λl w=>l.modify w.key λk=>{k with aG:=T}) l)[k]?=(l[k]?).map λd=>if k∈a.map (·.key)then{d with aG:=T}else d
 |[],l,k=>by simp
 |w::a,l,k=>by
  rw[List.foldl_cons,Nj T a,List.getElem?_modify];cases l[k]? with
  |none=>rfl
  |some d=>
   by_cases b:w.key=k
   ·simp only[b,fw,bM,true_or,if_true]
    show Z _=Z _;split<;>rfl
   ·have f:¬k=w.key:=λe=>b e.symm
    simp only[fw,bM,f,false_or,if_neg b];rfl
theorem Ys(T:Int):∀(a:List Wt)(l:List fV),(a.foldl (λl w=>l.modify w.key λk=>{k with aG:=T}) l).length=l.length
 |[],l=>rfl
 |w::a,l=>by rw[List.foldl_cons,Ys T a,List.length_modify]
theorem Ui{c:Cm}{K S:Nat}(h:c.Ok K S){i j:Nat}{a b:Wt}(g:c.wrote[i]?=Z a)(k:c.wrote[j]?=Z b)(e:a.key=b.key):i=j:=by
 have m:(c.wrote.map (·.key)).Nodup:=h.lQ.imp λh=>Nat.ne_of_lt h;have d:(c.wrote.map (·.key))[i]?=Z a.key:=by rw[fW,g];rfl
 have f:(c.wrote.map (·.key))[j]?=Z b.key:=by rw[fW,k];rfl
 have l:=(dq.1 d).1;exact(List.getElem?_inj l m).1 (by rw[d,f,e])
structure MD(m:Mo)(c:Cm)(m':Mo)(c':Cm):Prop where
 k:m'.aM.length=m.aM.length
 s:m'.sites.length=m.sites.length
 ml:m'.marks.length=m.marks.length
 si:∀v∈m'.sites,-2<=v
 ck:0<=m'.clock/\m'.clock<=m'.dX
 li:m'.dX=m.dX
 at_:m'.at_=m.at_
 st:m'.fE=m.fE
 me:c'.me=c.me
 ok:c'.Ok m.aM.length m.sites.length
 mo:c'.zd m'.marks
 Ic:∀c2:Cm,c2.me≠c.me->c2.zd m.marks->c2.zd m'.marks
 ev:m'.events.length+c.at_=m.events.length+c'.at_
 ch:(m'.aM.map List.length).sum+20*c.at_+c.inst<=(m.aM.map List.length).sum+20*c'.at_+c'.inst
theorem Vg{l:List Int}(h:∀v∈l,-2<=v)(i:Nat)(x:Int)(b:-2<=x):∀v∈l.set i x,-2<=v:=λv a=>by
 rcases List.mem_or_eq_of_mem_set a with a|rfl
 ·exact h v a
 ·exact b
theorem ap1{marks:List fV}{b:Nat}{a:Cm}(g:a.me≠b)(h:a.zd marks):a.zd (marks.map (yz b)):=λj w f d=>by
 obtain⟨t,e⟩:=h j w f d;refine⟨t,?_⟩;rw[fW,e];simp[yz];omega
theorem HU{marks:List fV}{c:Cm}(h:c.wrote=[]):c.zd marks:=λj w a=>by rw[h]at a;simp at a
theorem aa7{marks:List fV}{c:Cm}(h:c.keys=0/\c.phase=0):c.zd marks:=λj w b a=>by
 unfold Cm.own at a;omega
theorem MD.over{m:Mo}{c:Cm}{p:Stp}{s:Nat}(a:m.Ok)(h:c.Ok m.aM.length m.sites.length)(g:c.pr[c.at_]?=Z p)(e:p.kind=5\/p.kind=6)(f:c.out=Y)(o t:Int)(v:ByteArray):MD m c ((m.leave c s).bA c o v t) c.up.leave where
 k:=rfl
 s:=wJ
 ml:=by simp[Mo.bA,Mo.leave]
 si:=Vg a.si _ _ ah
 ck:=⟨a.ck.1,a.ck.2.1⟩
 li:=rfl
 at_:=rfl
 st:=rfl
 me:=rfl
 ok:=h.over g e f
 mo:=HU F
 Ic:=λi b d=>ap1 b d
 ev:=by simp[Mo.bA,Mo.leave,Cm.leave,Cm.up];omega
 ch:=by
  have:=h.inst;have:=a.k.2;simp[Mo.bA,Mo.leave,Cm.leave,Cm.up];omega
theorem LK{m:Mo}{c:Cm}(f:m.Ok)(h:c.Ok m.aM.length m.sites.length)(L:c.zd m.marks):MD m c (m.bX c).1 (m.bX c).2.1:=by
 refine tC h (λr=>MD m c r.1 r.2.1) ?_ ?_ ?_ ?_ ?_ ?_ ?_ ?_ ?_ ?_ ?_ ?_ ?_ ?_ ?_
 ·intro _
  exact⟨F,F,F,f.si,⟨f.ck.1,f.ck.2.1⟩,F,F,F,F,h,L,λ_ _ h=>h,F,dt _⟩
 ·intro p g n
  have x:=h.cls (.inl n);have D:c.inst=0:=by have:=h.kR x;simp[Cm.inst,this]
  exact⟨F,F,F,f.si,⟨f.ck.1,f.ck.2.1⟩,F,F,F,F,h.adf g (.inl n) _ F,HU x,λ_ _ h=>h,by simp[Mo.bA,Cm.skip,Cm.up];omega,by simp[Mo.bA,Cm.skip,Cm.up,D];omega⟩
 ·intro p i g n q z D
  have x:=h.kz p g q;have oz:c.inst=0:=by have:=h.kR x;simp[Cm.inst,this]
  exact⟨F,by simp[Mo.bA],F,Vg f.si _ _ (by have:=f.ck.1;omega),⟨f.ck.1,f.ck.2.1⟩,F,F,F,F,h.begun g q n z _ f.ck.1,HU x,λ_ _ h=>h,by simp[Mo.bA,Cm.nk,Cm.up];omega,by simp[Mo.bA,Cm.nk,Cm.up,oz];omega⟩
 ·intro p i g n q z hf
  have x:=h.kz p g q;exact⟨F,wJ,F,Vg f.si _ _ ah,⟨f.ck.1,f.ck.2.1⟩,F,F,F,F,h.taken g q n i (by have:=(Ro _ _ _ hf).2;omega),HU x,λ_ _ h=>h,F,dt _⟩
 ·intro p g n q z hf
  have x:=h.kz p g q;have D:c.inst=0:=by have:=h.kR x;simp[Cm.inst,this]
  exact⟨F,F,F,f.si,⟨f.ck.1,f.ck.2.1⟩,F,F,F,F,h.adf g (.inr ⟨q,z⟩) _ (by rw[Ib p ah]),HU x,λ_ _ h=>h,by simp[Mo.bA,Cm.skip,Cm.up];omega,by simp[Mo.bA,Cm.skip,Cm.up,D];omega⟩
 ·intro p k o s g n q dV E z B hg
  have Q:=h.no g ah;have D:c.inst=0:=by simp[Cm.inst,Q]
  exact⟨F,F,F,f.si,⟨f.ck.1,f.ck.2.1⟩,F,F,F,F,h.afO g q n,aa7 Q,λ_ _ h=>h,by simp[Mo.bA,Cm.up];omega,by simp[Mo.bA,Cm.up,D];omega⟩
 ·intro p k s g n q dV E z B hg
  exact⟨F,F,F,f.si,⟨f.ck.1,f.ck.2.1⟩,F,F,F,F,h,L,λ_ _ h=>h,F,dt _⟩
 ·intro p k s g n q dV E z B
  have Q:=h.no g ah;have D:c.inst=0:=by simp[Cm.inst,Q]
  exact⟨F,F,F,f.si,⟨f.ck.1,f.ck.2.1⟩,F,F,F,F,h.wrote g q n _ E,aa7 Q,λ_ _ h=>h,by simp[Mo.bA,Cm.put,Cm.up];omega,by simp[Mo.bA,Cm.put,Cm.up,D];omega⟩
 ·intro p s g n q z B
  exact .over f h g ah n _ _ _
 ·intro p s w g n q z B y x P J
  exact .over f h g ah n _ _ _
 ·intro p s w g n q z B y x P J
  have E:=(dq.1 x).1;have W:w.key<m.marks.length:=by rw[f.ml];exact P
  obtain⟨N,f2,O,f4,f5,f6,R,f8⟩:=c.qX c.wrote.length;have gG:=c.xW c.wrote.length;refine⟨F,F,wJ,f.si,⟨f.ck.1,f.ck.2.1⟩,F,F,F,N,h.aeb g q n z (.inl y) E,λj u v C=>?_,λA M G j u v C=>?_,by rw[O],by
   have V:c.inst=0:=by simp[Cm.inst,y]
   rw[O,V];simp only;omega⟩
  ·rw[R]at v
   rw[N];by_cases e:w.key=u.key
   ·exact⟨0,by rw[e,zD (by rw[<-e];exact W)]⟩
   ·rw[rK e]
    have hj:j≠c.keys:=λej=>e (by rw[ej,x]at v;cases v;rfl);have mH:=(dq.1 v).1;refine L j u v (.inl ⟨y,?_⟩);simp only[Cm.own]at C;omega
  ·obtain⟨t,H⟩:=G j u v C
   by_cases e:w.key=u.key
   ·exfalso
    have:m.marks.getD w.key .no=⟨U,A.me,t⟩:=by rw[wI,e,H];rfl
    rw[this]at J;simp only[Bool.true_and,Bool.or_eq_false_iff,decide_eq_false_iff_not]at J;have:=J.1;omega
   ·exact⟨t,by rw[rK e];exact H⟩
 ·intro p s g n q z B y T M J
  exact .over f h g ah n _ _ _
 ·intro p s g n q z B y T M J
  have X:∀A:Cm,A.zd m.marks->∀j u,A.wrote[j]?=Z u->A.own j->∃t,(c.wrote.foldl (λl w=>l.modify w.key λk=>{k with aG:=m.clock+1}) m.marks)[u.key]?=Z ⟨U,A.me,t⟩:=λA G j u v C=>by
   obtain⟨t,H⟩:=G j u v C;rw[Nj,H];simp only[jE];split
   ·exact⟨_,F⟩
   ·exact⟨_,F⟩
  refine⟨F,F,Ys _ _ _,f.si,⟨by have:=f.ck;simp only;omega,by have:=f.ck;simp only;omega⟩,F,F,F,F,h.ayY g q _ (by have:=f.ck;omega) M,λj u v _=>X c L j u v (.inr (.inl y)),λA _ G j u v n=>X A G j u v n,F,by simp[Cm.inst,Cm.tick,y,T]⟩
 ·intro p s w g n q z B y x P
  have E:=(dq.1 x).1;have W:w.key<m.marks.length:=by rw[f.ml];exact P
  obtain⟨N,f2,O,f4,f5,f6,R,f8⟩:=c.qX c.wrote.length;have gG:=c.xW c.wrote.length;obtain⟨l,hl⟩:∃l,m.aM[w.key]?=Z l:=⟨_,eI P⟩;refine⟨List.length_modify ..,F,wJ,f.si,⟨f.ck.1,f.ck.2.1⟩,F,F,F,N,h.aeb g q n z (.inr y) E,λj u v C=>?_,λA M G j u v C=>?_,by rw[O],?_⟩
  ·rw[R]at v
   rw[N];have hj:c.keys<j:=by
    simp only[Cm.own]at C;omega
   have e:w.key≠u.key:=λe=>by have:=Ui h x v e;omega
   rw[rK e];exact L j u v (.inr (.inr ⟨y,by omega⟩))
  ·obtain⟨t,H⟩:=G j u v C
   by_cases e:w.key=u.key
   ·exfalso
    obtain⟨t',pS⟩:=L _ w x (.inr (.inr ⟨y,dt _⟩));rw[e,H]at pS;simp only[gB,fV.mk.injEq,true_and]at pS;omega
   ·exact⟨t,by rw[rK e];exact H⟩
  ·have h1:=aeh List.length (λl=>⟨c.aG,w.gone,w.val⟩::l) m.aM w.key l hl
   have V:c.inst=c.keys:=by simp[Cm.inst,y]
   have e2:(c.step c.wrote.length).inst=c.keys+1:=by
    unfold Cm.inst;rw[R];rcases gG with⟨a,b,d⟩|⟨a,b,d⟩
    ·rw[d,y];simp[a]
    ·rw[d,y,b];simp
   simp only[jY]at h1;rw[O,V,e2];simp only
   omega
 ·intro p s g n q z B y T M
  exact .over f h g ah n _ _ _
theorem ab5{m:Mo}(b:m.Ok)(n:Int):(m.pick n).1.Ok:=by
 unfold Mo.pick;split
 ·exact b
 ·split
  ·exact b
  ·split
   ·exact b
   ·rename_i c f
    obtain⟨e,j,d⟩:=b.me _ c f;have a:=LK b j d;have s:=(dq.1 f).1;refine⟨by simpa only[a.k]using b.k,by simpa only[a.s]using b.s,by simp only[a.ml,a.k,b.ml],a.si,⟨a.ck.1,a.ck.2,by simp only[a.li];exact b.ck.2.2⟩,by simpa using b.cl,λi g d=>?_,?_,?_,by simp only[a.at_,a.s,a.k];exact b.at_⟩
    ·simp only at d
     rw[List.getElem?_set]at d;simp only[a.k,a.s];split at d
     ·rename_i h
      subst h;cases d;exact⟨a.me.trans e,a.ok,a.mo⟩
     ·rename_i r
      obtain⟨o,q,q3⟩:=b.me i g d;exact⟨o,q,a.Ic g ah q3⟩
    ·have:=PT (·.at_) m.be _ c (m.bX c).2.1 f
     have k:=a.ev;have l:=b.ev;simp only
     omega
    ·have:=PT (λc:Cm=>20*c.at_+c.inst) m.be _ c (m.bX c).2.1 f
     have k:=a.ch;have l:=b.ch;simp only at this⊢;omega
theorem ay4(l:List aZ)(w:Int):(mq l w).length<=l.length:=by
 unfold mq;split
 ·rw[CF];omega
 ·exact dt _
theorem ayz{m:Mo}(a:m.Ok):m.da.1.Ok:=by
 have e:=a.k;have f:=a.s;have d:=a.at_;unfold Mo.da;split
 ·exact a
 ·split
  ·exact⟨a.k,a.s,a.ml,a.si,a.ck,a.cl,a.me,a.ev,a.ch,by simp only;omega⟩
  ·split
   ·exact⟨a.k,a.s,a.ml,a.si,a.ck,a.cl,a.me,a.ev,a.ch,by simp only;omega⟩
   ·have b:=λi=>rU (aei List.length (λl=>mq l m.w) (λl=>ay4 l m.w) m.aM i) a.ch
    split
    ·exact⟨by simpa using a.k,a.s,by simpa using a.ml,a.si,a.ck,a.cl,by simpa using a.me,a.ev,b _,by simp⟩
    ·exact⟨by simpa using a.k,a.s,by simpa using a.ml,a.si,a.ck,a.cl,by simpa using a.me,a.ev,b _,by simp only[List.length_modify];omega⟩
theorem Cm.Un{m:Mo}{l:List Stp}(a:m.right l=U):(Cm.new m.be.length l).Ok m.aM.length m.sites.length:=by
 simp only[Mo.right,gT,decide_eq_true_eq]at a;exact{
  len:=a.2
  at_:=gJ _
  pr:=a.1
  lQ:=List.Pairwise.nil
  key:=λw i=>by cases i
  site:=λs g=>by cases g
  opn:=λ_ p d f=>by
   cases l with
   |nil=>simp[Cm.new]at d
   |cons q l=>
    simp only[Cm.new,qe,gB]at d;subst d;have e:=a.1;simp only[vX,gT]at e;have:=VS e.1;simp at this;exact absurd this f
  cls:=λ_=>rfl
  out:=λ_=>rfl
  kz:=λ_ _ _=>rfl
  tO:=λh=>by simp[Cm.new]at h
  keys:=λh=>absurd F h
  kR:=λ_=>⟨F,F⟩
  ph:=gJ _
  qU:=λ_=>rfl
  b:=by simp[Cm.new]
  st:=by simp[Cm.new]}
theorem Xw{m:Mo}(a:m.Ok)(l:List Stp):(m.bt l).1.Ok:=by
 unfold Mo.bt;split
 ·exact a
 ·split
  ·exact a
  ·split
   ·exact a
   ·rename_i g d h
    have e:m.right l=U:=by simpa using d
    have f:=a.cl;refine⟨a.k,a.s,a.ml,a.si,a.ck,by simp only[oe,jY,tc];omega,λi c b=>?_,by simp[a.ev,Cm.new],by simpa[Cm.new,Cm.inst]using a.ch,a.at_⟩;simp only at b;rw[List.getElem?_append]at b;split at b
    ·exact a.me i c b
    ·rename_i j
     have:i-m.be.length=0:=by
      have:=(dq.1 b).1;simp at this;omega
     rw[this]at b;simp only[qe,gB]at b;subst b;exact⟨by simp only[Cm.new];omega,Cm.Un e,HU F⟩
theorem aqx{a c:Int}{m:Mo}(h:Mo.new a b c=Z m):m.Ok:=by
 unfold Mo.new at h;split at h
 ·cases h
 ·rename_i f
  cases h;refine⟨?_,?_,by simp[Mo.init],λv e=>?_,?_,by simp[Mo.init],λi c d=>by simp[Mo.init]at d,F,?_,gJ _⟩
  ·simp only[Mo.init,List.length_replicate];omega
  ·simp only[Mo.init,List.length_replicate];omega
  ·simp only[Mo.init,List.mem_replicate]at e;omega
  ·simp only[Mo.init];omega
  ·simp[Mo.init]
theorem PS{α:Type}(f:α->Nat)(n:Nat):∀l:List α,(∀a∈l,f a<=n)->(l.map f).sum<=n*l.length
 |[],_=>by simp
 |x::l,h=>by
  have d:=h x (eX ..);have e:=PS f n l λa b=>h a (eK _ b);simp only[fw,aBv,jY,Nat.mul_add];omega
theorem aaK{α:Type}(f:α->Nat):∀(l:List α)(a:α),a∈l->f a<=(l.map f).sum
 |x::l,a,h=>by
  simp only[fw,aBv];rcases bM.1 h with rfl|h
  ·omega
  ·have:=aaK f l a h;omega
theorem Mo.Ok.Gb{m:Mo}(a:m.Ok):m.events.length<=1600/\∀l∈m.aM,l.length<=40000:=by
 have n:=a.cl;have b:∀c∈m.be,c.at_<=200/\20*c.at_+c.inst<=4020:=λc b=>by
  obtain⟨i,j⟩:=List.getElem?_of_mem b;obtain⟨_,h,_⟩:=a.me i c j;have d:=h.len;have e:=h.at_;have f:=h.inst;have g:=a.k.2;omega
 have d:=PS (·.at_) 200 m.be λc h=>(b c h).1;have e:=PS (λc:Cm=>20*c.at_+c.inst) 4020 m.be λc h=>(b c h).2;have f:=a.ev;have g:=a.ch;refine⟨by omega,λl k=>?_⟩;have:=aaK List.length m.aM l k;omega
variable {c:Cm}{m:Mo}{l:ae Wt}
def pv(v:Int):ff:=if v=-1 then⟨Y,Y,0⟩else if v=-2 then⟨U,Y,0⟩else⟨U,U,v⟩
theorem Rj:∀(l:ae Int)(i:Nat),tR (l.map pv) i=yE l i
 |[],_=>rfl
 |v::l,i=>by
  simp only[fw,tR,yE,Rj l (i+1)];by_cases h:v=-1
  ·simp[pv,h]
  ·rw[if_neg h]
   have:(pv v).busy=U:=by
    unfold pv;rw[if_neg h];split<;>rfl
   rw[if_pos this]
theorem Rm:∀(l:ae Int)(i j:Nat),yE l i=Z j->l[j-i]?=Z (-1)
 |[],_,_,h=>by cases h
 |v::l,i,j,h=>by
  simp only[yE]at h;split at h
  ·rename_i b
   cases h;simp[b]
  ·have a:=Rm l (i+1) j h
   have c:=(Ro l (i+1) j h).1;rw[show j-i=(j-(i+1))+1 by omega];simpa using a
theorem avs(v:Int)(h:-2<=v):zq (pv v)=v:=by
 unfold pv zq;split
 ·simp;omega
 ·split
  ·simp;omega
  ·simp
theorem ada:∀l:ae Int,(∀v∈l,-2<=v)->(l.map pv).map zq=l
 |[],_=>rfl
 |v::l,h=>by
  simp only[fw,avs v (h v (eX ..)),ada l λv a=>h v (eK _ a)]
theorem apw(v w:Int)(h:-2<=v):y8 (pv v) w=if 0<=v/\v<w then v else w:=by
 unfold pv y8;split
 ·rename_i e;subst e;simp
 ·split
  ·rename_i e;subst e;simp
  ·have:0<=v:=by omega
   simp[this]
theorem avo:pv (-1)=⟨Y,Y,0⟩:=rfl
theorem avp(v:Int)(h:0<=v):pv v=⟨U,U,v⟩:=by
 unfold pv;rw[if_neg ah,if_neg ah]
theorem aeF(e:ae aZ)(b:Int):∀k i,upto e b k<=i->i<k->∀v,e[i]?=Z v->v.aG>b
 |0,_,_,h,_,_=>absurd h (Nat.not_lt_zero _)
 |k+1,i,a,c,v,d=>by
  simp only[upto]at a;split at a
  ·split at a
   ·rename_i u f g
    rcases Nat.lt_succ_iff_lt_or_eq.1 c with c|rfl
    ·exact aeF e b k i a c v d
    ·rw[f]at d;cases d;exact g
   ·omega
  ·omega
theorem aeG(a:ae aZ)(b:Int):∀k j,k<=a.length->upto a b k=j+1->∃v,a[j]?=Z v/\v.aG<=b
 |0,j,_,h=>by simp[upto]at h
 |k+1,j,d,h=>by
  obtain⟨u,c⟩:∃u,a[k]?=Z u:=⟨_,eI ah⟩;simp only[upto,c]at h;split at h
  ·exact aeG a b k j ah h
  ·rename_i e
   simp only[Nat.add_right_cancel_iff]at h;subst h;exact⟨u,c,by omega⟩
theorem OD(b:Int):∀l:ae aZ,eo b l<=l.length
 |[]=>dt _
 |v::l=>by
  have:=OD b l;simp only[eo];split<;>simp only[jY]<;>omega
theorem abz(b:Int):∀(l:ae aZ)(i:Nat)(v:aZ),i<eo b l->l[i]?=Z v->v.aG>b
 |x::l,0,v,h,a=>by
  simp only[qe,gB]at a;subst a;simp only[eo]at h;split at h
  ·omega
  ·omega
 |x::l,i+1,v,h,a=>by
  simp only[eo]at h;split at h
  ·omega
  ·exact abz b l i v ah (by simpa using a)
theorem aby(b:Int):∀(l:ae aZ)(v:aZ),l[eo b l]?=Z v->v.aG<=b
 |x::l,v,h=>by
  simp only[eo]at h;split at h
  ·rename_i a
   simp only[qe,gB]at h;subst h;exact a
  ·exact aby b l v (by simpa using h)
theorem aeH(l:ae aZ)(b:Int):upto l.reverse b l.length+eo b l=l.length:=by
 have k:=OD b l;have m:=P2 l.reverse b l.length;have e:∀i,i<l.length->∃v,l.reverse[i]?=Z v/\l[l.length-1-i]?=Z v:=λi g=>⟨l[l.length-1-i],by rw[List.getElem?_reverse g,eI],eI _⟩;by_cases aC:upto l.reverse b l.length+eo b l<l.length
 ·exfalso
  obtain⟨v,a,c⟩:=e (l.length-1-eo b l) ah;have n:=aeF l.reverse b l.length _ ah ah v a;rw[show l.length-1-(l.length-1-eo b l)=eo b l by omega]at c;have o:=aby b l v c;omega
 ·by_cases p:l.length<upto l.reverse b l.length+eo b l
  ·exfalso
   obtain⟨j,h⟩:∃j,upto l.reverse b l.length=j+1:=⟨upto l.reverse b l.length-1,by omega⟩;obtain⟨v,a,c⟩:=aeG l.reverse b l.length j ba h;obtain⟨q,d,f⟩:=e j ah;rw[a]at d;cases d;have:=abz b l _ v ah f;omega
  ·omega
theorem atA(l:ae aZ)(b:Int):xO (!(sY l.reverse b).2) (sY l.reverse b).1=match l[eo b l]? with
  |some v=>vj v.gone v.val
  |none=>vj U eH:=by
 have h:=aeH l b;unfold sY;rw[IH];by_cases g:eo b l=l.length
 ·have c:upto l.reverse b l.length=0:=by omega
  rw[g,Gr (dt _),c];cases l.reverse[0-1]?<;>simp[xO,vj,eH]
 ·have f:=OD b l
  obtain⟨v,a⟩:∃v,l[eo b l]?=Z v:=⟨_,eI ah⟩;have d:l.reverse[upto l.reverse b l.length-1]?=Z v:=by
   rw[List.getElem?_reverse ah,show l.length-1-(upto l.reverse b l.length-1)=eo b l by omega,a]
  have e:upto l.reverse b l.length≠0:=by omega
  rw[d,a];cases hg:v.gone<;>simp[e,hg,xO,vj,eH]
theorem aoU(l:ae aZ)(b:Int)(a:0<=b):decide (DL l.reverse>b)=oJ l b:=by
 cases l with
 |nil=>simp[DL,oJ];omega
 |cons v l=>simp[DL,oJ]
theorem ay7(l:ae aZ)(w:Int):mP l.reverse w=(mq l w).reverse:=by
 have g:=aeH l w;have e:=OD w l;unfold mP mq;rw[IH];by_cases f:eo w l=l.length
 ·have b:upto l.reverse w l.length=0:=by omega
  rw[b,f,Gr (dt _)]
 ·obtain⟨v,a⟩:∃v,l[eo w l]?=Z v:=⟨_,eI ah⟩
  obtain⟨k,d⟩:∃k,upto l.reverse w l.length=k+1:=⟨upto l.reverse w l.length-1,by omega⟩;have c:l.reverse[k]?=Z v:=by
   rw[List.getElem?_reverse ah,show l.length-1-k=eo w l by omega,a]
  rw[d,a];simp only[c];cases v.gone with
  |true=>
   simp only[if_true];rw[List.drop_reverse];congr 2;omega
  |false=>
   simp only[hZ,if_false];rw[List.drop_reverse];congr 2;omega
section
variable {V:Type}
theorem abg(k:Int):∀(l:bU V)(i:Nat),(vg k l i).map (·.2)=(l.find? λx=>decide (x.1=k)).map (·.2.1)
 |[],_=>rfl
 |x::l,i=>by
  simp only[vg,List.find?_cons];by_cases h:x.1=k
  ·simp[h]
  ·simp[h,abg k l (i+1)]
theorem T7(l:bU V)(k:Int):iI l k=(l.find? λx=>decide (x.1=k)).map (·.2.1):=abg k l 0
theorem abd(k:Int):iI ([]:bU V) k=I:=rfl
theorem xB(x:Int×V×Nat)(l:bU V)(k:Int):iI (x::l) k=if x.1=k then Z x.2.1 else iI l k:=by
 rw[T7,T7,List.find?_cons];by_cases h:x.1=k<;>simp[h]
theorem Oy{l:bU V}{k:Int}:iI l k=I↔k∉l.map (·.1):=by
 rw[T7];simp;constructor
 ·intro h a b d;exact h k a b d F
 ·intro h a b c d e;subst e;exact h b c d
theorem ap4:∀{l:bU V},(l.map (·.1)).Nodup->∀x∈l,iI l x.1=Z x.2.1
 |y::l,h,x,a=>by
  simp only[fw,oO]at h;rw[xB];rcases bM.1 a with rfl|a
  ·simp
  ·have:y.1≠x.1:=λe=>h.1 (by rw[e];exact jg a)
   rw[if_neg this];exact ap4 h.2 x a
theorem T8(k a:Int)(v:V)(c:Nat):∀l:bU V,iI (j9 l k v c) a=if k=a then Z v else iI l a
 |[]=>by simp only[j9,xB,abd]
 |x::l=>by
  simp only[j9];by_cases h:x.1=k
  ·subst h
   rw[if_pos F,xB,xB];by_cases b:x.1=a<;>simp[b]
  ·rw[if_neg h,xB,xB,T8 k a v c l]
   by_cases b:x.1=a
   ·have:¬k=a:=λe=>h (b.trans e.symm)
    simp[b,this]
   ·simp[b]
theorem OB(k:Int)(v:V)(a:Nat):∀l:bU V,(j9 l k v a).map (·.1)=if k∈l.map (·.1)then l.map (·.1)else l.map (·.1)++[k]
 |[]=>by simp[j9]
 |x::l=>by
  simp only[j9];by_cases h:x.1=k
  ·subst h;simp
  ·rw[if_neg h,fw,OB k v a l]
   have b:¬k=x.1:=λe=>h e.symm;simp only[fw,bM,b,false_or];split<;>simp
theorem K3(k:Int)(v:V)(a:Nat):∀l:bU V,(j9 l k v a).map (·.2.2)=if k∈l.map (·.1)then l.map (·.2.2)else l.map (·.2.2)++[a]
 |[]=>by simp[j9]
 |x::l=>by
  simp only[j9];by_cases h:x.1=k
  ·subst h;simp
  ·rw[if_neg h,fw,K3 k v a l]
   have b:¬k=x.1:=λe=>h e.symm;simp only[fw,bM,b,false_or];split<;>simp
theorem mG.set{l:bU V}(h:mG l d)(k:Int)(v:V):mG (j9 l k v d) (qP l k d):=by
 have c:∀b∈l.map (·.2.2),b<d:=λb g=>by
  obtain⟨x,i,rfl⟩:=og.1 g;exact h.old x i
 by_cases f:k∈l.map (·.1)
 ·have m:qP l k d=d:=by
   unfold qP;cases hg:iI l k with
   |none=>exact absurd f (Oy.1 hg)
   |some u=>simp
  rw[m];refine⟨by rw[OB,if_pos f];exact h.keys,by rw[K3,if_pos f];exact h.born,λx i=>?_⟩;have:x.2.2∈(j9 l k v d).map (·.2.2):=jg i;rw[K3,if_pos f]at this;exact c _ this
 ·have m:qP l k d=d+1:=by
   unfold qP;rw[Oy.2 f];rfl
  rw[m];refine⟨?_,?_,λx i=>?_⟩
  ·rw[OB,if_neg f,zE]
   exact⟨h.keys,by simp,λa j b g e=>by
    rw[my]at g;subst g e;exact f j⟩
  ·rw[K3,if_neg f,zE]
   exact⟨h.born,by simp,λa j b g e=>by
    rw[my]at g;subst g e;exact Nat.lt_irrefl _ (c _ j)⟩
  ·have:x.2.2∈(j9 l k v d).map (·.2.2):=jg i
   rw[K3,if_neg f,pz,my]at this;rcases this with h|h
   ·exact Nat.lt_succ_of_lt (c _ h)
   ·omega
theorem aa9(k:Int):∀l:bU V,(ng k l).Sublist l
 |[]=>.slnil
 |x::l=>by
  simp only[ng];split
  ·exact List.sublist_cons_self ..
  ·exact(aa9 k l).cons_cons x
theorem abc(k a:Int):∀{l:bU V},(l.map (·.1)).Nodup->iI (ng k l) a=if k=a then I else iI l a
 |[],_=>by simp[ng,abd]
 |x::l,h=>by
  simp only[fw,oO]at h;simp only[ng];by_cases c:x.1=k
  ·subst c
   rw[if_pos F,xB];by_cases b:x.1=a
   ·subst b;simp[Oy.2 h.1]
   ·simp[b]
  ·rw[if_neg c,xB,xB,abc k a h.2]
   by_cases b:x.1=a
   ·have:¬k=a:=λe=>c (b.trans e.symm)
    simp[b,this]
   ·simp[b]
end
theorem abe(id k:Int):∀{l:bU Mk},(l.map (·.1)).Nodup->iI (vW id l) k=match iI l k with
  |some m=>if m.1=id then I else Z m
  |none=>I
 |[],_=>rfl
 |x::l,h=>by
  simp only[fw,oO]at h;have b:=abe id k (l:=l) h.2;unfold vW at b⊢;rw[List.filter_cons,xB];by_cases c:x.1=k
  ·subst c
   rw[if_pos F];by_cases a:x.2.1.1=id
   ·have d:iI l x.1=I:=Oy.2 h.1
    rw[d]at b;simp[a,b]
   ·simp[a,xB]
  ·rw[if_neg c]
   by_cases a:x.2.1.1=id
   ·simp[a,b]
   ·simp[a,xB,c,b]
def pF(marks:ae fV)(a:bU Mk):Prop:=∀(k:Nat)(t:fV),marks[k]?=Z t->iI a k=if t.set then Z (t.bt,t.aG)else I
theorem pF.set{marks:ae fV}{b:bU Mk}(h:pF marks b)(k d:Nat)(c t:Int):pF (marks.set k ⟨U,c,t⟩) (j9 b k (c,t) d):=λj u a=>by
 rw[T8];by_cases e:k=j
 ·subst e
  have f:=(dq.1 a).1;rw[zD (by simpa using f)]at a;cases a;simp
 ·have:¬(k:Int)=j:=by omega
  rw[rK e]at a;rw[if_neg this];exact h j u a
theorem pF.del{marks:ae fV}{b:bU Mk}(h:pF marks b)(d:(b.map (·.1)).Nodup)(k:Nat):pF (marks.set k .no) (ng k b):=λj u a=>by
 rw[abc _ _ d];by_cases e:k=j
 ·subst e
  have c:=(dq.1 a).1;rw[zD (by simpa using c)]at a;cases a;simp[fV.no]
 ·have:¬(k:Int)=j:=by omega
  rw[rK e]at a;rw[if_neg this];exact h j u a
theorem pF.leave{marks:ae fV}{c:bU Mk}(h:pF marks c)(f:(c.map (·.1)).Nodup)(b:Nat):pF (marks.map (yz b)) (vW b c):=λj u e=>by
 rw[abe _ _ f];rw[fW]at e;obtain⟨t,g,rfl⟩:=fX.1 e;rw[h j t g];unfold yz;by_cases a:t.set=U
 ·by_cases d:t.bt=b
  ·simp[a,d,fV.no]
  ·simp[a,d]
 ·simp[a]
theorem pF.aG{ws:ae Wt}(b:Nat)(T:Int):∀(d:ae Wt)(marks:ae fV)(c:bU Mk)(a:Nat),pF marks c->mG c a->(∀w∈d,∃t,marks[w.key]?=Z ⟨U,b,t⟩)->pF (d.foldl (λl w=>l.modify w.key λk=>{k with aG:=T}) marks) (Ec b T (d.map λw=>(w.key:Int)) c a).1/\mG (Ec b T (d.map λw=>(w.key:Int)) c a).1 (Ec b T (d.map λw=>(w.key:Int)) c a).2
 |[],marks,c,a,h,g,_=>⟨h,g⟩
 |w::d,marks,c,a,h,g,i=>by
  obtain⟨t,m⟩:=i w (eX ..);have n:=(dq.1 m).1;have e:marks.modify w.key (λk=>{k with aG:=T})=marks.set w.key ⟨U,b,T⟩:=by
   apply List.ext_getElem?;intro j;rw[List.getElem?_modify,List.getElem?_set];by_cases f:w.key=j
   ·subst f
    rw[m,if_pos n];simp
   ·simp[f]
  have:=pF.aG (ws:=ws) b T d (marks.set w.key ⟨U,b,T⟩) (j9 c w.key (b,T) a) (qP c w.key a) (h.set w.key a b T) (g.set _ _) λu o=>by
   by_cases f:w.key=u.key
   ·exact⟨T,by rw[<-f,zD n]⟩
   ·obtain⟨q,p⟩:=i u (eK _ o)
    exact⟨q,by rw[rK f];exact p⟩
  simpa only[Ec,fw,List.foldl_cons,e]using this
def KY(marks:ae fV):Nat->ae (Int×Int×Int)
 |0=>[]
 |i+1=>KY marks i++match marks[i]? with
  |some t=>if t.set then [((i:Int),t.bt,t.aG)]else []
  |none=>[]
theorem aa6{marks:ae fV}{b:bU Mk}(h:pF marks b):∀i,i<=marks.length->pU b i=KY marks i
 |0,_=>rfl
 |i+1,d=>by
  obtain⟨t,a⟩:∃t,marks[i]?=Z t:=⟨_,eI ah⟩;simp only[pU,KY,aa6 h i ah,a,h i t a];by_cases c:t.set=U<;>simp[c]
structure rm(l:ae Wt)(ws:bU Wr):Prop where
 get:∀k:Nat,iI ws k=(lR k l).map λw=>(w.gone,w.val)
 keys:(ws.map (·.1)).Perm (l.map λw=>(w.key:Int))
theorem aEQ(k:Nat):lR k []=I:=rfl
theorem Gj(k:Nat)(w:Wt)(l:ae Wt):lR k (w::l)=if w.key=k then Z w else lR k l:=by
 unfold lR;rw[List.find?_cons];by_cases h:w.key=k
 ·simp[h]
 ·have:(w.key==k)=Y:=by simpa using h
  simp[h,this]
theorem rm.nil:rm [] ([]:bU Wr):=⟨λ_=>rfl,.refl _⟩
theorem aeU(w:Wt)(k:Nat):∀l:ae Wt,(l.map (·.key)).Pairwise (·<·)->lR k (mr w l)=if w.key=k then Z w else lR k l
 |[],_=>by simp[mr,Gj]
 |x::l,h=>by
  simp only[fw,mQ]at h;simp only[mr];split
  ·rw[Gj]
  ·split
   ·rename_i e
    rw[Gj,Gj];by_cases a:w.key=k
    ·simp[a]
    ·have:¬x.key=k:=λb=>a (e▸b)
     simp[a,this]
   ·rename_i e
    rw[Gj,Gj,aeU w k l h.2];by_cases a:x.key=k
    ·have:¬w.key=k:=λb=>e (a.trans b.symm)
     simp[a,this]
    ·simp[a]
theorem aeX(w:Wt):∀l:ae Wt,(l.map (·.key)).Pairwise (·<·)->((mr w l).map λw=>(w.key:Int)).Perm (if w.key∈l.map (·.key)then l.map λw=>(w.key:Int)else(l.map λw=>(w.key:Int))++[(w.key:Int)])
 |[],_=>by simp[mr]
 |x::l,h=>by
  simp only[fw,mQ]at h;have d:=aeX w l h.2;simp only[mr];split
  ·rename_i aC
   have c:¬w.key∈x.key::l.map (·.key):=λa=>by
    rcases bM.1 a with e|a
    ·omega
    ·have:=h.1 _ a;omega
   simp only[fw];rw[if_neg c];exact(lD (l₁:=[(w.key:Int)]))
  ·split
   ·rename_i e
    simp only[fw];rw[if_pos (by rw[e];exact eX ..),e]
   ·rename_i e
    have b:¬w.key=x.key:=λh=>e h.symm;simp only[fw,bM,b,false_or];refine(d.cons _).trans ?_;split
    ·exact .refl _
    ·exact .refl _
theorem rm.aav{b:bU Wr}(h:rm l b)(k:Nat):(k:Int)∈b.map (·.1)↔k∈l.map (·.key):=by
 rw[h.keys.mem_iff];simp only[og];constructor
 ·rintro⟨w,a,e⟩;exact⟨w,a,by omega⟩
 ·rintro⟨w,a,e⟩;exact⟨w,a,by omega⟩
theorem rm.put{c:bU Wr}(h:rm l c)(b:(l.map (·.key)).Pairwise (·<·))(w:Wt)(d:Nat):rm (mr w l) (j9 c w.key (w.gone,w.val) d)where
 get:=λk=>by
  rw[T8,aeU w k l b];by_cases e:w.key=k
  ·subst e;simp
  ·have:¬(w.key:Int)=k:=by omega
   rw[if_neg this,if_neg e];exact h.get k
 keys:=by
  rw[OB];refine List.Perm.trans ?_ (aeX w l b).symm;by_cases a:w.key∈l.map (·.key)
  ·rw[if_pos a,if_pos ((h.aav _).2 a)];exact h.keys
  ·rw[if_neg a,if_neg (λf=>a ((h.aav _).1 f))];exact h.keys.append_right _
theorem rm.jb{c:bU Wr}(h:rm l c)(d:(l.map (·.key)).Pairwise (·<·)):jb c=l.map λw=>(w.key:Int):=by
 unfold _root_.Go.Proofs.YtgahemdblfapeabGreatDoor.jb;rw[ad5 h.keys];unfold ti;refine List.mergeSort_of_pairwise (List.Pairwise.imp (R:=λa b:Int=>a<b) (λh=>by simp only[decide_eq_true_eq];omega) ?_);have:(l.map λw=>(w.key:Int))=(l.map (·.key)).map λk:Nat=>(k:Int):=by simp
 rw[this,List.pairwise_map];exact d.imp λh=>by omega
theorem rm.at_{c:bU Wr}(h:rm l c)(d:(l.map (·.key)).Pairwise (·<·)){w:Wt}(f:l[j]?=Z w):iI c w.key=Z (w.gone,w.val):=by
 have i:(l.map (·.key)).Nodup:=d.imp λh=>Nat.ne_of_lt h;rw[h.get];have:∀(l:ae Wt),(l.map (·.key)).Nodup->w∈l->lR w.key l=Z w:=by
  intro l;induction l with
  |nil=>intro _ h;cases h
  |cons x l g=>
   intro b a;simp only[fw,oO]at b;rw[Gj];rcases bM.1 a with rfl|a
   ·simp
   ·have:¬x.key=w.key:=λe=>b.1 (by rw[e];exact jg a)
    rw[if_neg this];exact g b.2 a
 rw[this l i (jZ f)];rfl
theorem ajy{h:bU Wr}{g:bU Mk}(j:rm c.wrote h)(i:pF m.marks g){l:ae aZ}(b:m.aM[k]?=Z l)(n:m.marks.length=m.aM.length):Aj h g l.reverse k c.me c.b=m.get c k:=by
 have o:=(dq.1 b).1;obtain⟨t,f⟩:∃t,m.marks[k]?=Z t:=⟨_,eI ah⟩;unfold Aj Mo.get;rw[j.get];cases hg:lR k c.wrote with
 |some w=>simp[xO,vj,eH]
 |none=>
  simp only[Option.map_none];rw[i k t f,wI,f,wI,b];simp only[rV];have d:=atA l c.b;by_cases e:t.set=U
  ·simp only[e,if_true,true_and]
   by_cases a:t.bt≠(c.me:Int)/\t.aG≠0/\t.aG<=c.b
   ·rw[if_pos a,if_pos a]
   ·rw[if_neg a,if_neg a,d]
    cases l[eo c.b l]?<;>rfl
  ·simp only[e,hZ,if_false,false_and]
   rw[d];cases l[eo c.b l]?<;>rfl
theorem ag2{f:bU Mk}(h:pF m.marks f){l:ae aZ}(d:m.aM[k]?=Z l)(i:m.marks.length=m.aM.length)(g:0<=c.b):clash f l.reverse k c.me c.b=(((m.marks.getD k .no).set&&decide ((m.marks.getD k .no).bt≠c.me))||oJ (m.aM.getD k []) c.b):=by
 have j:=(dq.1 d).1;obtain⟨t,e⟩:∃t,m.marks[k]?=Z t:=⟨_,eI ah⟩;unfold clash;rw[h k t e,aoU l c.b g,wI,e,wI,d];simp only[rV];by_cases a:t.set=U
 ·by_cases b:t.bt=c.me
  ·simp[a,b]
  ·simp[a,b]
 ·simp[a]
def fV.cells(k:fV):ae ag:=[.bool k.set,ai k.bt,ai k.aG]
theorem fV.len(k:fV):k.cells.length=3:=rfl
def Wt.cells(w:Wt):ae ag:=[ai w.key,.bool w.gone,.string w.val]
theorem Wt.len(w:Wt):w.cells.length=3:=rfl
def aDb:aj Nat->Int
 |some i=>i
 |none=>-1
structure a7 where
 g:aj Nat
 n:Nat
 cap:Nat
 cur:af ag
def a7.v(c:a7):ag:=sv c.g c.n c.cap
def a7.en(c:a7):En:=match c.g with
 |some g=>.ob g (.cells c.cur 88)
 |none=>.row 88 3 I 0 0 []
structure a7.Is(c:a7)(l:ae aZ):Prop where
 n:c.n=l.length
 cap:c.n<=c.cap
 cur:c.g.isSome=U->c.cur.toList.take (c.n*3)=l.flatMap aZ.cells
 no:c.g=I->l=[]
structure RS where
 s:Nat
 sg:aj Nat
 sc:Nat
 cb:Nat
 mb:Nat
 lg:aj Nat
 lc:Nat
 cl:ae Nat
 eg:aj Nat
 ec:Nat
 ch:ae a7
def RS.en(r:RS)(m:Mo):En:=.ob r.s (.cells #[ai m.clock,ai m.dX,sv r.sg m.sites.length r.sc,sv (Z r.cb) r.ch.length r.ch.length,sv (Z r.mb) m.marks.length m.marks.length,sv r.lg r.cl.length r.lc,sv r.eg m.events.length r.ec,ai m.at_,ai m.w,.bool m.fE] 61)
def RS.sE(r:RS)(m:Mo):En:=.row 3 1 r.sg m.sites.length r.sc (m.sites.map ai)
def RS.cE(r:RS):En:=.row 86 1 (Z r.cb) r.ch.length r.ch.length (r.ch.map a7.v)
def RS.mE(r:RS)(m:Mo):En:=.row 102 3 (Z r.mb) m.marks.length m.marks.length (m.marks.flatMap fV.cells)
def RS.lE(r:RS):En:=.row 73 1 r.lg r.cl.length r.lc (r.cl.map pt)
def RS.eE(r:RS)(m:Mo):En:=.row 93 5 r.eg m.events.length r.ec (m.events.flatMap Ev.cells)
structure RC where
 c:Nat
 pg:aj Nat
 pc:Nat
 wg:aj Nat
 wc:Nat
def RC.en(q:RC)(c:Cm):En:=.ob q.c (.cells #[ai c.me,sv q.pg c.pr.length q.pc,ai c.at_,.bool c.out,ai (aDb c.site),ai c.b,sv q.wg c.wrote.length q.wc,ai c.phase,ai c.keys,ai c.aG] 76)
def RC.pE(q:RC)(c:Cm):En:=.row 71 3 q.pg c.pr.length q.pc (c.pr.flatMap Stp.cells)
def RC.wE(q:RC)(c:Cm):En:=.row 83 3 q.wg c.wrote.length q.wc (c.wrote.flatMap Wt.cells)
def RS.ev(r:RS)(g:aj Nat)(a:Nat):RS:={r with eg:=g,ec:=a}
theorem w7(r:RS)(m:Mo)(q:RC)(c:Cm)(o t:Int)(v:ByteArray)(h:m.events.length<1000000)(i:c.at_<1000000):Fl Sv 28 [pt r.s,pt q.c,ai o,.string v,ai t].toArray [r.en m,q.en c,r.eE m] λ_ L=>∃g b,L=[(r.ev g b).en (m.bA c o v t),q.en c.up,(r.ev g b).eE (m.bA c o v t)]:=by
 refine Fl.of 38 λf e=>?_;refine av [] ?_;refine jO 19 [0,1,1] [17,18] [19,20,21] ?_;refine tD (λ_=>[]) λz=>Gy (app1 59 2 3 m.events.length ah) ?_;rintro _ _ ⟨d,a,rfl,rfl⟩;refine ib (Fl.run [0] ?_);refine av [1,aS c.at_,1] ?_;refine cU [3] [] [.ob r.s (.cells #[ai m.clock,ai m.dX,sv r.sg m.sites.length r.sc,sv (Z r.cb) r.ch.length r.ch.length,sv (Z r.mb) m.marks.length m.marks.length,sv r.lg r.cl.length r.lc,sv (Z d) (m.events.length+1) a,ai m.at_,ai m.w,.bool m.fE] 61),q.en c.up,.row 93 5 (Z d) (m.events.length+1) a (m.events.flatMap Ev.cells++Ev.cells ⟨c.me,c.at_,o,v,t⟩)] ⟨Z d,a,?_⟩;simp[Mo.bA,RS.en,RS.eE,RS.ev]
theorem aCD(r:RS)(m:Mo)(q:RC)(c:Cm)(a:Bool)(v:ByteArray)(d:m.events.length<1000000)(e:c.at_<1000000):Fl Sv 57 [pt r.s,pt q.c,.bool a,.string v].toArray [r.en m,q.en c,r.eE m] λ_ L=>∃g b,L=[(r.ev g b).en (m.bA c (vj a v).1 (vj a v).2 0),q.en c.up,(r.ev g b).eE (m.bA c (vj a v).1 (vj a v).2 0)]:=by
 cases a with
 |true=>
  refine Fl.of 16 λh f=>av [] (eR [0,1,2] (w7 r m q c 3 0 ⟨#[]⟩ d e) ?_);rintro _ _ ⟨g,b,rfl⟩;exact av [] (cU [] [] _ ⟨g,b,F⟩)
 |false=>
  refine Fl.of 16 λh f=>av [] (eR [0,1,2] (w7 r m q c 2 0 v d e) ?_);rintro _ _ ⟨g,b,rfl⟩;exact av [] (cU [] [] _ ⟨g,b,F⟩)
theorem aCA(q:RC)(c:Cm)(n:Nat)(e:c.keys<1000000)(f:c.phase<1000000):Fl Sv 58 [pt q.c,ai n].toArray [q.en c] λ_ L=>L=[q.en (c.step n)]:=by
 refine Fl.of 27 λd b=>?_;by_cases a:c.keys+1=n
 ·refine av [0,aS c.keys,0,0,kT (c.keys+1:Nat) n,0,0,aS c.phase,0] ?_
  refine cU [] [] [q.en {c with keys:=0,phase:=c.phase+1}] ?_;rw[Cm.step,if_pos a]
 ·refine av [0,aS c.keys,0,0,ie (c.keys+1:Nat) n] ?_
  refine cU [] [] [q.en {c with keys:=c.keys+1}] ?_;rw[Cm.step,if_neg a]
variable {q:RC}{r:RS}{C:a7}
theorem a7.Is.get{l:ae aZ}(h:C.Is l)(d:C.g=Z g){v:aZ}{u:ag}(e:j<3)(b:l[i]?=Z v)(f:v.cells[j]?=Z u):C.cur.toList[i*3+j]?=Z u:=by
 have c:=h.cur (by rw[d];rfl);have k:=(dq.1 b).1;have a:(l.flatMap aZ.cells)[i*3+j]?=Z u:=by
  have:=gW aZ.len l i j v e b;rw[this];exact f
 rw[<-c,aBL]at a;split at a
 ·exact a
 ·cases a
theorem aDV{l:ae aZ}{v:aZ}(h:l[i]?=Z v):eo b (l.drop i)=if v.aG<=b then 0 else eo b (l.drop (i+1))+1:=by
 obtain⟨a,e⟩:=dq.1 h;rw[aBJ a,e];rfl
theorem aC7(r:RS)(m:Mo)(C:a7)(l:List aZ)(k:Nat)(b:Int)(e:C.Is l)(p:r.ch[k]?=some C)(D:l.length<1000000):Fl Sv 35 [pt r.s,goInt k,goInt b].toArray [r.en m,r.cE,C.en] λv L=>v=goInt (eo b l)∧L=[r.en m,r.cE,C.en]:=by
 have u:=(List.getElem?_eq_some_iff.1 p).1;have t:(r.ch.map a7.v)[k*1]?=some C.v:=by rw[Nat.mul_one,List.getElem?_map,p];rfl
 obtain⟨g,n,a,c⟩:=C;have w:n=l.length:=e.n;subst w;refine Fl.of 32 λA z=>av [0,iX 56 1 r.cb r.ch.length u,rr 1 t,.g,.x] ?_;cases g with
 |none=>
  have h:=e.no rfl;subst h;exact av [gi 0 (0:Nat)] (cU [] [goInt 0] _ ⟨rfl,rfl⟩)
 |some g=>
  refine ji (ι:=Nat) (λi=>l.length-i) (λi=>[(0,pt r.s),(2,goInt b),(7,sv (some g) l.length a),(8,goInt i),(6,goInt 0)]) (λ_=>[r.en m,r.cE,a7.en ⟨some g,l.length,a,c⟩]) (λi=>i≤l.length∧eo b l=i+eo b (l.drop i)) 0 ⟨Nat.zero_le _,by simp⟩ ?_;rintro i ⟨B,q⟩ y;by_cases aC:i<l.length
  ·obtain⟨v,s⟩:∃v,l[i]?=some v:=⟨_,List.getElem?_eq_getElem aC⟩
   have o:c.toList[i*3]?=some (goInt v.aG):=e.get rfl (j:=0) aT s rfl;have f:=aDV (b:=b) s;by_cases d:v.aG≤b
   ·rw[if_pos d]at f
    refine av [fu i l.length,iX 86 3 g a aC,rr 2 o,bT d] ?_;exact cU [] [goInt i] _ ⟨by rw[q,f];rfl,rfl⟩
   ·rw[if_neg d]at f
    refine av [fu i l.length,iX 86 3 g a aC,rr 2 o,bF d,aS i,.g,.x] ?_;exact cq (y (i+1) ah ⟨aC,by omega⟩)
  ·have x:i=l.length:=by omega
   refine av [gi i l.length] ?_;refine cU [] [goInt l.length] _ ⟨?_,rfl⟩;rw[q,x,List.drop_length];rfl
def vr(a:Nat)(l:ae fV)(i:Nat):ae fV:=(l.take i).map (yz a)++l.drop i
theorem aDo(a:Nat)(l:ae fV)(i:Nat):(vr a l i).length=l.length:=by
 simp only[vr,oe,jM,CF,List.length_drop];omega
theorem aDn{l:ae fV}(h:i<l.length):(vr a l i)[i]?=l[i]?:=by
 unfold vr;rw[Ma (by simp[Nat.le_of_lt h]),aBP];congr 1;simp[Nat.le_of_lt h]
theorem aDp{b:Nat}{l:ae fV}{x:fV}(h:l[i]?=Z x):vr b l (i+1)=(vr b l i).set i (yz b x):=by
 have d:=(dq.1 h).1;apply List.ext_getElem?;intro j;unfold vr;rw[List.getElem?_set];by_cases e:i=j
 ·subst e
  have a:i<((l.take i).map (yz b)++l.drop i).length:=by simp;omega
  rw[if_pos F,if_pos a,LZ (by simp;omega),fW,aBL,if_pos (Nat.lt_succ_self i),h];rfl
 ·rw[if_neg e]
  by_cases c:j<i
  ·rw[LZ (by simp;omega),LZ (by simp;omega),fW,fW,aBL,aBL,if_pos ah,if_pos c]
  ·rw[Ma (by simp;omega),Ma (by simp;omega),aBP,aBP]
   congr 1;simp only[jM,CF];omega
theorem Pv{l:ae α}{x:α}(h:l[i]?=Z x):l.set i x=l:=by
 apply List.ext_getElem?;intro j;rw[List.getElem?_set];by_cases e:i=j
 ·subst e
  rw[if_pos F,if_pos (dq.1 h).1,h]
 ·rw[if_neg e]
def RC.off(q:RC):RC:={q with wg:=I,wc:=0}
theorem aB0 (r:RS) (m:Mo) (q:RC) (c:Cm) (s:Nat) (hs:c.site=some s) (bY:s<m.sites.length) (hk:m.marks.length<1000000):Fl Sv 32 [pt r.s,pt q.c].toArray [r.en m,q.en c,r.mE m,r.sE m] λ_ L=>L=[r.en (m.leave c s),q.off.en c.leave,r.mE (m.leave c s),r.sE (m.leave c s)]:=by
 refine Fl.of 68 λz y=>av [.g,.x] ?_;refine ji (ι:=Nat) (λi=>m.marks.length-i) (λi=>[(0,pt r.s),(1,pt q.c),(4,goInt i)]) (λi=>[r.en m,q.en c,.row 102 3 (some r.mb) m.marks.length m.marks.length ((vr c.me m.marks i).flatMap fV.cells),r.sE m]) (λi=>i≤m.marks.length) 0 (Nat.zero_le _) ?_;intro i B u;by_cases aC:i<m.marks.length
 ·obtain⟨x,j⟩:∃x,m.marks[i]?=some x:=⟨_,List.getElem?_eq_getElem aC⟩
  have d:(vr c.me m.marks i)[i]?=some x:=(aDn aC).trans j;have b:((vr c.me m.marks i).flatMap fV.cells)[i*3]?=some (.bool x.set):=gW fV.len _ i 0 x aT d;have h:((vr c.me m.marks i).flatMap fV.cells)[i*3+1]?=some (goInt x.bt):=gW fV.len _ i 1 x aT d;have o:((vr c.me m.marks i).flatMap fV.cells)[i*3+2]?=some (goInt x.aG):=gW fV.len _ i 2 x aT d;have a:=u (i+1) ah aC;rw[aDp j]at a;cases lq:x.set with
  |false=>
   rw[lq]at b;have e:yz c.me x=x:=by simp[yz,lq]
   rw[e,Pv d]at a;refine av [0,fu i m.marks.length] ?_;refine gw 23 [0,iX 57 3 r.mb m.marks.length aC,rr 2 b] [] (Fl.nil (av [aS i,.g,.x] ?_));exact cq a
  |true=>
   rw[lq]at b;by_cases f:x.bt=c.me
   ·have e:yz c.me x=.no:=by simp[yz,lq,f]
    rw[e,←Rg fV.len .no rfl _ i (by rw[aDo];exact aC)]at a;refine av [0,fu i m.marks.length] ?_;have l:(((vr c.me m.marks i).flatMap fV.cells).set (i*3) (.bool false))[i*3+1]?=some (goInt x.bt):=by
     rw[List.getElem?_set_ne ah];exact h
    have n:((((vr c.me m.marks i).flatMap fV.cells).set (i*3) (.bool false)).set (i*3+1) (goInt 0))[i*3+2]?=some (goInt x.aG):=by
     rw[List.getElem?_set_ne ah,List.getElem?_set_ne ah];exact o
    refine gw 23 [0,iX 57 3 r.mb m.marks.length aC,rr 2 b,0,iX 57 3 r.mb m.marks.length aC,rr 2 h,1,bT f] [] (Fl.nil (av [0,iX 57 3 r.mb m.marks.length aC,rr 2 b,rr 2 l,rr 2 n,aS i,.g,.x] ?_));exact cq a
   ·have e:yz c.me x=x:=by simp[yz,f]
    rw[e,Pv d]at a;refine av [0,fu i m.marks.length] ?_;refine gw 23 [0,iX 57 3 r.mb m.marks.length aC,rr 2 b,0,iX 57 3 r.mb m.marks.length aC,rr 2 h,1,bF f] [] (Fl.nil (av [aS i,.g,.x] ?_));exact cq a
 ·have t:i=m.marks.length:=by omega
  subst t;refine lJ 3 r.sg m.sites.length r.sc ah λg A C=>?_;obtain⟨r,rfl⟩:∃w:RS,r={w with sg:=some g}:=⟨r,by cases r;simp_all⟩;obtain⟨c,rfl⟩:∃c0:Cm,c={c0 with site:=some s}:=⟨c,by cases c;simp_all⟩;obtain⟨v,p⟩:∃v,m.sites[s]?=some v:=⟨_,List.getElem?_eq_getElem bY⟩;have k:(m.sites.map goInt)[s*1]?=some (goInt v):=by rw[Nat.mul_one,List.getElem?_map,p];rfl
  refine av [0,gi m.marks.length m.marks.length] ?_;refine jO 8 [0,1] [] [8,9] (Fl.run [iX 55 1 g r.sc bY,rr 3 k] (av [1,1,1,1,1] ?_));refine cU [] [] [RS.en {r with sg:=some g} m,q.off.en (Cm.leave {c with site:=some s}),.row 102 3 (some r.mb) m.marks.length m.marks.length ((vr c.me m.marks m.marks.length).flatMap fV.cells),.row 3 1 (some g) m.sites.length r.sc ((m.sites.map goInt).set (s*1) (goInt (-1)))] ?_;simp[RS.en,RS.mE,RS.sE,Mo.leave,vr,List.map_set]
def rwF(w:Wt):Bool->ae Wt->ae Wt
 |true,[]=>[]
 |false,[]=>[w]
 |a,x::l=>(if a=Y/\w.key<=x.key then [w]else [])++((if x.key=w.key then []else [x])++rwF w (a||decide (w.key<=x.key)) l)
theorem aCE(w:Wt):∀l:ae Wt,(∀x∈l,x.key≠w.key)->rwF w U l=l
 |[],_=>rfl
 |x::l,h=>by
  have a:=h x (eX ..);have b:=aCE w l λy c=>h y (eK _ c);simp[rwF,a,b]
theorem aC9(w:Wt):∀l:ae Wt,(l.map (·.key)).Pairwise (·<·)->rwF w Y l=mr w l
 |[],_=>rfl
 |x::l,h=>by
  simp only[fw,mQ]at h;have f:∀y∈l,x.key<y.key:=λy b=>h.1 _ (jg b);unfold mr;by_cases e:w.key<x.key
  ·have c:¬x.key=w.key:=by omega
   have d:w.key<=x.key:=by omega
   have a:=aCE w l λy b=>by have:=f y b;omega
   simp[rwF,e,c,d,a]
  ·by_cases c:x.key=w.key
   ·have d:w.key<=x.key:=by omega
    have a:=aCE w l λy b=>by have:=f y b;omega
    have g:¬w.key<w.key:=Nat.lt_irrefl _;simp[rwF,c,a]
   ·have d:¬w.key<=x.key:=by omega
    have a:=aC9 w l h.2;simp[rwF,e,c,d,a]
theorem aEr{w:Wt}{x:Wt}(a:Bool)(h:l[i]?=Z x):rwF w a (l.drop i)=(if a=Y/\w.key<=x.key then [w]else [])++((if x.key=w.key then []else [x])++rwF w (a||decide (w.key<=x.key)) (l.drop (i+1))):=by
 obtain⟨b,e⟩:=dq.1 h;rw[aBJ b,e];cases a<;>rfl
def RC.wr(q:RC)(g:aj Nat)(a:Nat):RC:={q with wg:=g,wc:=a}
abbrev wbE(z:Nat)(w:Wt):En:=.ob z (.cells #[ai w.key,.bool w.gone,.string w.val] 83)
abbrev wlE(g:aj Nat)(a:Nat)(l:ae Wt):En:=.row 83 3 g l.length a (l.flatMap Wt.cells)
theorem aDa (q:RC) (c:Cm) (w:Wt) (hs:(c.wrote.map (·.key)).Pairwise (·<·)) (hl:c.wrote.length<100000):Fl Sv 31 [pt q.c,.agg #[goInt w.key,.bool w.gone,.string w.val]].toArray [q.en c,q.wE c] λ_ L=>∃g m,L=[(q.wr g m).en {c with wrote:=mr w c.wrote},(q.wr g m).wE {c with wrote:=mr w c.wrote}]:=by
 refine Fl.of 66 λN M=>di (λ_=>[.g,.x]) λz=>pC 83 3 ?_;refine ji (ι:=Nat×Bool×Option Nat×Nat×List Wt) (λi=>c.wrote.length-i.1) (λi=>[(0,pt q.c),(3,pt z),(4,sv i.2.2.1 i.2.2.2.2.length i.2.2.2.1),(5,.bool i.2.1),(6,goInt i.1)]) (λi=>[q.en c,q.wE c,wbE z w,wlE i.2.2.1 i.2.2.2.1 i.2.2.2.2]) (λi=>i.1≤c.wrote.length∧i.2.2.2.2++rwF w i.2.1 (c.wrote.drop i.1)=mr w c.wrote∧i.2.2.2.2.length≤2*i.1) (0,false,none,0,[]) ⟨Nat.zero_le _,by simp[aC9 w _ hs],Nat.le_refl _⟩ ?_;rintro⟨i,u,g,m,d⟩ ⟨J,e,B⟩ D;simp only at J e B D;by_cases aC:i<c.wrote.length
 ·obtain⟨x,A⟩:∃x,c.wrote[i]?=some x:=⟨_,List.getElem?_eq_getElem aC⟩
  rcases KC:q.wg with _|f
  ·exact IV 1 q.wg c.wrote.length q.wc ah KC
  obtain⟨q,rfl⟩:∃q0:RC,q={q0 with wg:=some f}:=⟨q,by cases q;simp_all⟩;have k:(c.wrote.flatMap Wt.cells)[i*3]?=some (goInt x.key):=gW Wt.len _ i 0 x aT A;have v:(c.wrote.flatMap Wt.cells)[i*3+1]?=some (.bool x.gone):=gW Wt.len _ i 1 x aT A;have y:(c.wrote.flatMap Wt.cells)[i*3+2]?=some (.string x.val):=gW Wt.len _ i 2 x aT A;rw[aEr u A]at e;have a:∀s h b n,n++rwF w s (c.wrote.drop (i+1))=mr w c.wrote→n.length≤2*(i+1)→Rs Sv _ _ _ _ _:=λs h b n G H=>D (i+1,s,h,b,n) (by simp only;omega) ⟨aC,G,H⟩;by_cases l:x.key=w.key
  ·have o:w.key≤x.key:=by omega
   cases u with
   |false=>
    have a:=λh b=>a true h b (d++[w]) (by simpa[l,o]using e) (by simp only[List.length_append,List.length_cons,List.length_nil];omega);simp only[List.length_append,List.length_cons,List.length_nil,List.flatMap_append,List.flatMap_cons,List.flatMap_nil,List.append_nil,wlE]at a;refine av [0,fu i c.wrote.length] (gw 15 [0,iX 74 3 f q.wc aC,rr 1 k,2,He x.key w.key] [] (Fl.nil ?_));refine di (λ_=>[2,2,2]) λE=>kr (app1 74 3 4 d.length ah) ?_;rintro _ _ ⟨t,j,rfl,rfl⟩;refine av [] (ey [4] (gw 11 [0,iX 74 3 f q.wc aC,rr 1 k,2,po x.key w.key] [] (Fl.nil ?_)));refine av [aS i,.g,.x] ?_;exact cq (a (some t) j)
   |true=>
    have a:=λh b=>a true h b (d) (by simpa[l,o]using e) ah;refine av [0,fu i c.wrote.length] (gw 15 [] [] (Fl.nil ?_));refine av [] (gw 11 [0,iX 74 3 f q.wc aC,rr 1 k,2,po x.key w.key] [] (Fl.nil ?_));refine av [aS i,.g,.x] ?_;exact cq (a g m)
  ·by_cases o:w.key≤x.key
   ·cases u with
    |false=>
     have a:=λh b=>a true h b (d++[w]++[x]) (by simpa[l,o]using e) (by simp only[List.length_append,List.length_cons,List.length_nil];omega);simp only[List.length_append,List.length_cons,List.length_nil,List.flatMap_append,List.flatMap_cons,List.flatMap_nil,List.append_nil,wlE]at a;refine av [0,fu i c.wrote.length] (gw 15 [0,iX 74 3 f q.wc aC,rr 1 k,2,He x.key w.key] [] (Fl.nil ?_));refine di (λ_=>[2,2,2]) λE=>kr (app1 74 3 4 d.length ah) ?_;rintro _ _ ⟨t,j,rfl,rfl⟩;refine av [] (ey [4] (gw 11 [0,iX 74 3 f q.wc aC,rr 1 k,2,nqT x.key w.key] [] (Fl.nil ?_)));refine di (λ_=>[0,iX 74 3 f q.wc aC,rr 1 k,rr 1 v,rr 1 y]) λC=>kr (app1 74 3 4 (d.length+1) ah) ?_;rintro _ _ ⟨p,r,rfl,rfl⟩;refine av [aS i,.g,.x] (ey [4] ?_);exact cq (a (some p) r)
    |true=>
     have a:=λh b=>a true h b (d++[x]) (by simpa[l,o]using e) (by simp only[List.length_append,List.length_cons,List.length_nil];omega);simp only[List.length_append,List.length_cons,List.length_nil,List.flatMap_append,List.flatMap_cons,List.flatMap_nil,List.append_nil,wlE]at a;refine av [0,fu i c.wrote.length] (gw 15 [] [] (Fl.nil ?_));refine av [] (gw 11 [0,iX 74 3 f q.wc aC,rr 1 k,2,nqT x.key w.key] [] (Fl.nil ?_));refine di (λ_=>[0,iX 74 3 f q.wc aC,rr 1 k,rr 1 v,rr 1 y]) λC=>kr (app1 74 3 4 d.length ah) ?_;rintro _ _ ⟨p,r,rfl,rfl⟩;refine av [aS i,.g,.x] (ey [4] ?_);exact cq (a (some p) r)
   ·cases u with
    |false=>
     have a:=λh b=>a false h b (d++[x]) (by simpa[l,o]using e) (by simp only[List.length_append,List.length_cons,List.length_nil];omega);simp only[List.length_append,List.length_cons,List.length_nil,List.flatMap_append,List.flatMap_cons,List.flatMap_nil,List.append_nil,wlE]at a;refine av [0,fu i c.wrote.length] (gw 15 [0,iX 74 3 f q.wc aC,rr 1 k,2,Nr x.key w.key] [] (Fl.nil ?_));refine av [] (gw 11 [0,iX 74 3 f q.wc aC,rr 1 k,2,nqT x.key w.key] [] (Fl.nil ?_));refine di (λ_=>[0,iX 74 3 f q.wc aC,rr 1 k,rr 1 v,rr 1 y]) λC=>kr (app1 74 3 4 d.length ah) ?_;rintro _ _ ⟨p,r,rfl,rfl⟩;refine av [aS i,.g,.x] (ey [4] ?_);exact cq (a (some p) r)
    |true=>
     have a:=λh b=>a true h b (d++[x]) (by simpa[l,o]using e) (by simp only[List.length_append,List.length_cons,List.length_nil];omega);simp only[List.length_append,List.length_cons,List.length_nil,List.flatMap_append,List.flatMap_cons,List.flatMap_nil,List.append_nil,wlE]at a;refine av [0,fu i c.wrote.length] (gw 15 [] [] (Fl.nil ?_));refine av [] (gw 11 [0,iX 74 3 f q.wc aC,rr 1 k,2,nqT x.key w.key] [] (Fl.nil ?_));refine di (λ_=>[0,iX 74 3 f q.wc aC,rr 1 k,rr 1 v,rr 1 y]) λC=>kr (app1 74 3 4 d.length ah) ?_;rintro _ _ ⟨p,r,rfl,rfl⟩;refine av [aS i,.g,.x] (ey [4] ?_);exact cq (a (some p) r)
 ·have K:i=c.wrote.length:=by omega
  rw[K,List.drop_length]at e;cases u with
  |true=>
   have e:d=mr w c.wrote:=by simpa[rwF]using e
   subst e;refine av [0,gi i c.wrote.length,0] ?_;exact cU [1,2] [] _ ⟨g,m,rfl⟩
  |false=>
   have e:d++[w]=mr w c.wrote:=by simpa[rwF]using e
   refine di (λ_=>[0,gi i c.wrote.length,2,2,2]) λE=>kr (app1 74 3 4 d.length ah) ?_;rintro _ _ ⟨t,j,rfl,rfl⟩;refine av [0] ?_;refine cU [1,2,4] [] [.ob q.c (.cells #[goInt c.me,sv q.pg c.pr.length q.pc,goInt c.at_,.bool c.out,goInt (aDb c.site),goInt c.b,sv (some t) (d.length+1) j,goInt c.phase,goInt c.keys,goInt c.aG] 76),.row 83 3 (some t) (d.length+1) j (d.flatMap Wt.cells++w.cells)] ⟨some t,j,?_⟩;rw[←e];simp[RC.en,RC.wE,RC.wr]
theorem RS.wo(h:r.sg=Z g):∃a:RS,r={a with sg:=Z g}:=⟨r,by cases r;simp_all⟩
theorem aCH{s:aj Nat}(h:c.site=s):∃c0:Cm,c={c0 with site:=s}:=⟨c,by cases c;simp_all⟩
theorem aDY (r:RS) (m:Mo) (q:RC) (c:Cm) (i:Nat) (hs:c.site=some i) (hi:i<m.sites.length) (h1:m.events.length<1000000) (h2:c.at_<1000000):Fl Sv 29 [pt r.s,pt q.c].toArray [r.en m,q.en c,r.eE m,r.sE m] λ_ L=>∃g a,L=[(r.ev g a).en ({m with sites:=m.sites.set i m.clock}.bA c 1 eH m.clock),q.en (c.nk m.clock),(r.ev g a).eE (m.bA c 1 eH m.clock),r.sE {m with sites:=m.sites.set i m.clock}]:=by
 obtain⟨c,rfl⟩:=aCH hs;obtain⟨v,j⟩:∃v,m.sites[i]?=some v:=⟨_,List.getElem?_eq_getElem hi⟩;have f:(m.sites.map goInt)[i*1]?=some (goInt v):=by rw[Nat.mul_one,List.getElem?_map,j];rfl
 refine Fl.of 70 λl k=>lJ 3 r.sg m.sites.length r.sc ah λg h n=>?_;obtain⟨r,rfl⟩:=RS.wo h;refine av [1,He i 0,0,1] ?_;refine jO 12 [0,1,1] [] [12,13] (Fl.run [iX 55 1 g r.sc hi,rr 3 f] (av [1] ?_));refine eR [0,1,2] (w7 {r with sg:=some g} m q {c with site:=some i,b:=m.clock} 1 m.clock ⟨#[]⟩ h1 h2) ?_;rintro _ _ ⟨e,d,rfl⟩;refine av [] (cU [] [] [(RS.ev {r with sg:=some g} e d).en (m.bA c 1 eH m.clock),q.en (Cm.nk {c with site:=some i} m.clock),(RS.ev {r with sg:=some g} e d).eE (m.bA c 1 eH m.clock),.row 3 1 (some g) m.sites.length r.sc ((m.sites.map goInt).set (i*1) (goInt m.clock))] ⟨e,d,?_⟩);simp[RS.en,RS.eE,RS.sE,RS.ev,Mo.bA,List.map_set]
theorem aDt{l:ae Int}{v:Int}(h:l[i]?=Z v):yE (l.drop i) i=if v=-1 then Z i else yE (l.drop (i+1)) (i+1):=by
 obtain⟨a,e⟩:=dq.1 h;rw[aBJ a,e];rfl
def aBZ(r:RS)(m:Mo)(q:RC)(c:Cm)(L:ae En):Prop:=match yE m.sites 0 with
 |some i=>L=[r.en {m with sites:=m.sites.set i (-2)},q.en (c.take i),r.eE m,r.sE {m with sites:=m.sites.set i (-2)}]
 |none=>∃g a,L=[(r.ev g a).en (m.bA c 5 eH 0),q.en (c.skip U),(r.ev g a).eE (m.bA c 5 eH 0),r.sE m]
theorem aC2 (r:RS) (m:Mo) (q:RC) (c:Cm) (hs:c.site=none) (h1:m.events.length<1000000) (h2:c.at_<1000000) (hl:m.sites.length<1000000):Fl Sv 29 [pt r.s,pt q.c].toArray [r.en m,q.en c,r.eE m,r.sE m] λ_ L=>aBZ r m q c L:=by
 obtain⟨c,rfl⟩:=aCH hs;refine Fl.of 70 λp o=>av [1,Nr (-1) 0,.g,.x] ?_;refine ji (ι:=Nat) (λi=>m.sites.length-i) (λi=>[(0,pt r.s),(1,pt q.c),(4,goInt i)]) (λ_=>[r.en m,q.en {c with site:=none},r.eE m,r.sE m]) (λi=>i≤m.sites.length∧yE m.sites 0=yE (m.sites.drop i) i) 0 ⟨Nat.zero_le _,by simp⟩ ?_;rintro i ⟨s,d⟩ n;by_cases aC:i<m.sites.length
 ·obtain⟨v,j⟩:∃v,m.sites[i]?=some v:=⟨_,List.getElem?_eq_getElem aC⟩
  have h:(m.sites.map goInt)[i*1]?=some (goInt v):=by rw[Nat.mul_one,List.getElem?_map,j];rfl
  have b:=aDt j;refine lJ 3 r.sg m.sites.length r.sc ah λg k t=>?_;obtain⟨r,rfl⟩:=RS.wo k;by_cases a:v=-1
  ·rw[if_pos a]at b
   refine av [0,fu i m.sites.length,0,iX 55 1 g r.sc aC,rr 3 h,bT a,0,iX 55 1 g r.sc aC,rr 3 h,1] ?_;refine cU [] [] [RS.en {r with sg:=some g} m,q.en (Cm.take {c with site:=none} i),RS.eE {r with sg:=some g} m,.row 3 1 (some g) m.sites.length r.sc ((m.sites.map goInt).set (i*1) (goInt (-2)))] ?_;unfold aBZ;rw[d,b];simp[RS.en,RS.eE,RS.sE,List.map_set]
  ·rw[if_neg a]at b
   refine av [0,fu i m.sites.length,0,iX 55 1 g r.sc aC,rr 3 h,bF a,aS i,.g,.x] ?_;exact cq (n (i+1) ah ⟨aC,d.trans b⟩)
 ·have l:i=m.sites.length:=by omega
  rw[l,List.drop_length]at d;refine av [0,gi i m.sites.length,1] ?_;refine eR [0,1,2] (w7 r m q {c with site:=none,out:=true} 5 0 ⟨#[]⟩ h1 h2) ?_;rintro _ _ ⟨f,e,rfl⟩;refine av [] (cU [] [] [(RS.ev r f e).en (m.bA {c with site:=none} 5 eH 0),q.en (Cm.skip {c with site:=none} true),(RS.ev r f e).eE (m.bA {c with site:=none} 5 eH 0),r.sE m] ?_);unfold aBZ;rw[d];exact⟨f,e,rfl⟩
theorem aCJ{X:Cx}{a:ae aJ}{c:ae cz}{b:Env}(E:Env)(LL:ae En)(e:Rs P X (tQ a) c E LL->Rs P X a c b L)(d:Rs P X (tQ a) c E LL):Rs P X a c b L:=e d
theorem aB5(h:q.wg=Z g):∃q0:RC,q={q0 with wg:=Z g}:=⟨q,by cases q;simp_all⟩
theorem aEP{x:Wt}(h:l[i]?=Z x):lR k (l.drop i)=if x.key=k then Z x else lR k (l.drop (i+1)):=by
 obtain⟨a,e⟩:=dq.1 h;rw[aBJ a,e,Gj]
def aBN(r:RS)(m:Mo)(q:RC)(c:Cm)(C:a7)(k:Nat)(v:ag)(L:ae En):Prop:=match m.get c k with
 |none=>v=ai 0/\L=[r.en m,q.en c,r.eE m,q.wE c,r.mE m,r.cE,C.en]
 |some o=>v=ai 1/\∃g a,L=[(r.ev g a).en (m.bA c o.1 o.2 0),q.en c.up,(r.ev g a).eE (m.bA c o.1 o.2 0),q.wE c,r.mE m,r.cE,C.en]
theorem aCy{o:Int×ByteArray}(h:m.get c k=Z o)(g:aj Nat)(a:Nat):aBN r m q c C k (ai 1) [(r.ev g a).en (m.bA c o.1 o.2 0),q.en c.up,(r.ev g a).eE (m.bA c o.1 o.2 0),q.wE c,r.mE m,r.cE,C.en]:=by
 unfold aBN;rw[h];exact⟨F,g,a,F⟩
theorem aEc(h:m.get c k=I):aBN r m q c C k (ai 0) [r.en m,q.en c,r.eE m,q.wE c,r.mE m,r.cE,C.en]:=by
 unfold aBN;rw[h];exact⟨F,F⟩
theorem aC6 (r:RS) (m:Mo) (q:RC) (c:Cm) (C:a7) (l:List aZ) (k:Nat) (hC:C.Is l) (hk:r.ch[k]?=some C) (hm:m.aM[k]?=some l) (BM:k<m.marks.length) (hl:l.length<1000000) (h1:m.events.length<1000000) (h2:c.at_<1000000) (hw:c.wrote.length<1000000):Fl Sv 30 [pt r.s,pt q.c,goInt k].toArray [r.en m,q.en c,r.eE m,q.wE c,r.mE m,r.cE,C.en] (aBN r m q c C k):=by
 have D:=(List.getElem?_eq_some_iff.1 hk).1;have B:(r.ch.map a7.v)[k*1]?=some C.v:=by rw[Nat.mul_one,List.getElem?_map,hk];rfl
 refine Fl.of 115 λcs X=>av [.g,.x] ?_;refine ji (ι:=Nat) (λi=>c.wrote.length-i) (λi=>[(0,pt r.s),(1,pt q.c),(2,goInt k),(7,goInt i),(6,goInt 0)]) (λ_=>[r.en m,q.en c,r.eE m,q.wE c,r.mE m,r.cE,C.en]) (λi=>i≤c.wrote.length∧lR k c.wrote=lR k (c.wrote.drop i)) 0 ⟨Nat.zero_le _,by simp⟩ ?_;rintro i ⟨hi,J⟩ W;by_cases aC:i<c.wrote.length
 ·obtain⟨x,N⟩:∃x,c.wrote[i]?=some x:=⟨_,List.getElem?_eq_getElem aC⟩
  rcases KC:q.wg with _|O
  ·exact IV 3 q.wg c.wrote.length q.wc ah KC
  obtain⟨q,rfl⟩:=aB5 KC;have E:(c.wrote.flatMap Wt.cells)[i*3]?=some (goInt x.key):=gW Wt.len _ i 0 x aT N;have G:(c.wrote.flatMap Wt.cells)[i*3+1]?=some (.bool x.gone):=gW Wt.len _ i 1 x aT N;have H:(c.wrote.flatMap Wt.cells)[i*3+2]?=some (.string x.val):=gW Wt.len _ i 2 x aT N;have d:=aEP (k:=k) N;by_cases w:x.key=k
  ·rw[if_pos w]at d
   refine di (λ_=>[1,fu i c.wrote.length,1,iX 74 3 O q.wc aC,rr 3 E,rr 3 G,rr 3 H,7,7,7,7,kT x.key k,7,7]) λz=>?_;refine eR [0,1,2] (aCD r m {q with wg:=some O} c x.gone x.val h1 h2) ?_;rintro _ _ ⟨u,s,rfl⟩;have f:m.get c k=some (vj x.gone x.val):=by
    unfold Mo.get;rw[J,d]
   exact av [] (cU [7] [goInt 1] _ (aCy f u s))
  ·rw[if_neg w]at d
   refine di (λ_=>[1,fu i c.wrote.length,1,iX 74 3 O q.wc aC,rr 3 E,rr 3 G,rr 3 H,7,7,7,7,ie x.key k,aS i,.g,.x]) λz=>ey [7] ?_;exact cq (W (i+1) ah ⟨aC,J.trans d⟩)
 ·have V:i=c.wrote.length:=by omega
  rw[V,List.drop_length,aEQ]at J;obtain⟨⟨AY,e,a⟩,L⟩:∃t,m.marks[k]?=some t:=⟨_,List.getElem?_eq_getElem BM⟩;have E:(m.marks.flatMap fV.cells)[k*3]?=some (.bool AY):=gW fV.len _ k 0 ⟨AY,e,a⟩ aT L;have G:(m.marks.flatMap fV.cells)[k*3+1]?=some (goInt e):=gW fV.len _ k 1 ⟨AY,e,a⟩ aT L;have H:(m.marks.flatMap fV.cells)[k*3+2]?=some (goInt a):=gW fV.len _ k 2 ⟨AY,e,a⟩ aT L
  have f:m.get c k=if AY∧e≠c.me∧a≠0∧a≤c.b then none else match l[eo c.b l]? with
    |some v=>some (vj v.gone v.val)
    |none=>some (vj true eH):=by
   unfold Mo.get;rw[J,List.getD_eq_getElem?_getD,L,List.getD_eq_getElem?_getD,hm];rfl
  refine di (λ_=>[1,gi i c.wrote.length,0,iX 57 3 r.mb m.marks.length BM,rr 4 E,rr 4 G,rr 4 H,7,7,7]) λz=>?_;refine aCJ [(0,pt r.s),(1,pt q.c),(2,goInt k),(6,goInt 0),(69,.bool (decide (AY=true∧e≠c.me∧a≠0∧a≤c.b)))] [r.en m,q.en c,r.eE m,q.wE c,r.mE m,r.cE,C.en,.ob z (.cells #[.bool AY,goInt e,goInt a] 102)] (λb=>?_) ?_
  ·cases AY with
   |false=>
    have d:decide ((false:Bool)=true∧e≠c.me∧a≠0∧a≤c.b)=false:=decide_eq_false λh=>by cases h.1
    rw[d]at b;exact gw 25 [7] [] (Fl.nil (cq b))
   |true=>
    by_cases j:e=c.me
    ·have d:decide ((true:Bool)=true∧e≠c.me∧a≠0∧a≤c.b)=false:=decide_eq_false λh=>h.2.1 j
     rw[d]at b;exact gw 25 [7,7,1,B7 j] [] (Fl.nil (cq b))
    ·by_cases y:a=0
     ·have d:decide ((true:Bool)=true∧e≠c.me∧a≠0∧a≤c.b)=false:=decide_eq_false λh=>h.2.2.1 y
      rw[d]at b;exact gw 25 [7,7,1,xF j,7,B7 y] [] (Fl.nil (cq b))
     ·by_cases A:a≤c.b
      ·have d:decide ((true:Bool)=true∧e≠c.me∧a≠0∧a≤c.b)=true:=decide_eq_true ⟨rfl,j,y,A⟩
       rw[d]at b;exact gw 25 [7,7,1,xF j,7,xF y,7,1,bT A] [] (Fl.nil (cq b))
      ·have d:decide ((true:Bool)=true∧e≠c.me∧a≠0∧a≤c.b)=false:=decide_eq_false λh=>A h.2.2.2
       rw[d]at b;exact gw 25 [7,7,1,xF j,7,xF y,7,1,bF A] [] (Fl.nil (cq b))
  ·by_cases K:AY=true∧e≠c.me∧a≠0∧a≤c.b
   ·rw[decide_eq_true K]
    rw[if_pos K]at f;exact av [] (cU [7] [goInt 0] _ (aEc f))
   ·rw[decide_eq_false K]
    rw[if_neg K]at f;refine av [1] (eR [0,5,6] (aC7 r m C l k c.b hC hk hl) ?_);rintro _ _ ⟨rfl,rfl⟩;have P:C.n=l.length:=hC.n;have T:=OD c.b l;by_cases Q:eo c.b l=l.length
    ·refine av [0,iX 56 1 r.cb r.ch.length D,rr 5 B,kT (eo c.b l:Nat) (C.n:Nat)] ?_
     refine eR [0,1,2] (aCD r m q c true ⟨#[]⟩ h1 h2) ?_;rintro _ _ ⟨u,s,rfl⟩;rw[Q,List.getElem?_eq_none (Nat.le_refl _)]at f;exact av [] (cU [7] [goInt 1] _ (aCy f u s))
    ·obtain⟨v,M⟩:∃v,l[eo c.b l]?=some v:=⟨_,List.getElem?_eq_getElem ah⟩
     obtain⟨g,n,o,p⟩:=C;simp only at P;subst P;cases g with
     |none=>
      have:=hC.no rfl;subst this;simp at M
     |some g=>
      have R:p.toList[eo c.b l*3+1]?=some (.bool v.gone):=hC.get rfl aT M rfl;have S:p.toList[eo c.b l*3+2]?=some (.string v.val):=hC.get rfl aT M rfl;refine av [0,iX 56 1 r.cb r.ch.length D,rr 5 B,ie (eo c.b l:Nat) l.length] ?_;refine gw 25 [0,iX 56 1 r.cb r.ch.length D,rr 5 B,ix 86 3 g l.length o (eo c.b l:Nat) (eo c.b l) ⟨rfl,by omega⟩,rr 6 R,0,iX 56 1 r.cb r.ch.length D,rr 5 B,ix 86 3 g l.length o (eo c.b l:Nat) (eo c.b l) ⟨rfl,by omega⟩,rr 6 S] [24] (qq [0,1,2] (aCD r m q c v.gone v.val h1 h2) ?_);rintro _ _ ⟨u,s,rfl⟩;rw[M]at f;exact ib (Fl.nil (av [] (cU [7] [goInt 1] _ (aCy f u s))))
abbrev rcL(r:RS)(m:Mo)(q:RC)(c:Cm):ae En:=[r.en m,q.en c,r.eE m,q.wE c,r.mE m,r.sE m]
def aCi(r:RS)(m:Mo)(q:RC)(c:Cm)(s:Nat)(o t:Int)(L:ae En):Prop:=∃g a,L=[(r.ev g a).en ((m.leave c s).bA c o eH t),q.off.en c.up.leave,(r.ev g a).eE ((m.leave c s).bA c o eH t),(r.ev g a).mE ((m.leave c s).bA c o eH t),(r.ev g a).sE ((m.leave c s).bA c o eH t),q.off.wE c.up.leave]
section
variable (r:RS)(m:Mo)(q:RC)(c:Cm)(s:Nat)(R:c.site=Z s)(W:s<m.sites.length)(X:m.marks.length<1000000)(V:m.events.length<1000000)(S:c.at_<1000000)
include R W X V S
theorem aD2 (hw:c.wrote=[]):Fl Sv 33 [pt r.s,pt q.c].toArray (rcL r m q c) λ_ L=>aCi r m q c s 1 0 L:=by
 have b:(c.wrote.length:Int)=0:=by rw[hw];rfl
 refine Fl.of 232 λe d=>av [1,bT b] (eR [0,1,4,5] (aB0 r m q c s R W X) ?_);rintro _ _ rfl;refine av [] (eR [0,1,2] (w7 r (m.leave c s) q.off c.leave 1 0 ⟨#[]⟩ V S) ?_);rintro _ _ ⟨g,a,rfl⟩;exact av [] (pC 83 3 (cU [3] [] _ ⟨g,a,rfl⟩))
theorem aDZ (hw:c.wrote≠[]) (hp:c.phase=3):Fl Sv 33 [pt r.s,pt q.c].toArray (rcL r m q c) λ_ L=>aCi r m q c s 1 c.aG L:=by
 have b:¬(c.wrote.length:Int)=0:=λh=>hw (List.length_eq_zero_iff.1 ah);refine Fl.of 232 λe d=>av [1,bF b,1,ie c.phase 0,1,ie c.phase 1,1,ie c.phase 2,1] (eR [0,1,4,5] (aB0 r m q c s R W X) ?_);rintro _ _ rfl;refine av [] (eR [0,1,2] (w7 r (m.leave c s) q.off c.leave 1 c.aG ⟨#[]⟩ V S) ?_);rintro _ _ ⟨g,a,rfl⟩;exact av [] (pC 83 3 (cU [3] [] _ ⟨g,a,rfl⟩))
theorem aD1 (hw:c.wrote≠[]) (hp:c.phase=1) (hl:m.clock=m.dX):Fl Sv 33 [pt r.s,pt q.c].toArray (rcL r m q c) λ_ L=>aCi r m q c s 6 0 L:=by
 have b:¬(c.wrote.length:Int)=0:=λh=>hw (List.length_eq_zero_iff.1 ah);refine Fl.of 232 λe d=>av [1,bF b,1,ie c.phase 0,1,kT c.phase 1] (gw 9 [0,0,bT hl] [] (Fl.nil (av [] (eR [0,1,4,5] (aB0 r m q c s R W X) ?_))));rintro _ _ rfl;refine av [] (eR [0,1,2] (w7 r (m.leave c s) q.off c.leave 6 0 ⟨#[]⟩ V S) ?_);rintro _ _ ⟨g,a,rfl⟩;exact av [] (pC 83 3 (cU [3] [] _ ⟨g,a,rfl⟩))
end
def stI(T:Int)(a:ae Wt)(l:ae fV):ae fV:=a.foldl (λl w=>l.modify w.key λk=>{k with aG:=T}) l
theorem aDf(T:Int)(a:ae Wt)(l:ae fV):(stI T a l).length=l.length:=Ys T a l
theorem aEt(T:Int)(a:ae Wt)(w:Wt)(l:ae fV):stI T (a++[w]) l=(stI T a l).modify w.key λk=>{k with aG:=T}:=by simp[stI]
theorem Ub{α:Type}(f:α->α):∀(l:ae α)(i:Nat)(x:α),l[i]?=Z x->l.modify i f=l.set i (f x)
 |[],i,x,h=>by simp at h
 |y::l,0,x,h=>by
  simp only[qe,gB]at h;subst h;simp
 |y::l,i+1,x,h=>by
  have:=Ub f l i x (by simpa using h);simp[this]
theorem aD3 (r:RS) (m:Mo) (q:RC) (c:Cm) (hw:c.wrote≠[]) (mJ:c.wrote.length<1000000) (hp:c.phase=1) (hl:m.clock≠m.dX) (Zc:0≤m.clock∧m.clock<1000000000) (ZE:∀w∈c.wrote,w.key<m.marks.length) (X:m.marks.length<1000000):Fl Sv 33 [pt r.s,pt q.c].toArray (rcL r m q c) λ_ L=>L=rcL r {m with clock:=m.clock+1,marks:=stI (m.clock+1) c.wrote m.marks} q (c.tick (m.clock+1)):=by
 have e:¬(c.wrote.length:Int)=0:=λh=>hw (List.length_eq_zero_iff.1 ah);rcases KC:q.wg with _|a
 ·exact Fl.of 232 λk j=>IV 3 q.wg c.wrote.length q.wc ah KC
 obtain⟨q,rfl⟩:=aB5 KC;refine Fl.of 232 λk j=>av [1,bF e,1,ie c.phase 0,1,kT c.phase 1] (gw 9 [0,0,bF hl] [] (Fl.nil (av [0,aI (m.clock+1) (m.clock+1) ah,0,0,1,.g,.x] ?_)));refine ji (ι:=Nat) (λi=>c.wrote.length-i) (λi=>[(0,pt r.s),(1,pt q.c),(4,goInt c.wrote.length),(8,goInt i)]) (λi=>[r.en {m with clock:=m.clock+1},RC.en {q with wg:=some a} {c with aG:=m.clock+1},r.eE m,RC.wE {q with wg:=some a} c,.row 102 3 (some r.mb) m.marks.length m.marks.length ((stI (m.clock+1) (c.wrote.take i) m.marks).flatMap fV.cells),r.sE m]) (λi=>i≤c.wrote.length) 0 (Nat.zero_le _) ?_;intro i t p;by_cases aC:i<c.wrote.length
 ·obtain⟨w,f⟩:∃w,c.wrote[i]?=some w:=⟨_,List.getElem?_eq_getElem aC⟩
  have g:=ZE w (List.mem_of_getElem? f);have l:(c.wrote.flatMap Wt.cells)[i*3]?=some (goInt w.key):=gW Wt.len _ i 0 w aT f;obtain⟨x,b⟩:∃x,(stI (m.clock+1) (c.wrote.take i) m.marks)[w.key]?=some x:=⟨_,List.getElem?_eq_getElem (by rw[aDf];exact g)⟩;have n:((stI (m.clock+1) (c.wrote.take i) m.marks).flatMap fV.cells)[w.key*3+2]?=some (goInt x.aG):=gW fV.len _ w.key 2 x aT b;have d:=p (i+1) ah aC;rw[List.take_add_one,f,Option.toList_some,aEt,Ub _ _ _ _ b,←Yo fV.len (stI (m.clock+1) (c.wrote.take i) m.marks) w.key 2 x {x with aG:=m.clock+1} (goInt (m.clock+1)) aT b rfl]at d;refine av [fu i c.wrote.length] ?_;refine jO 16 [0,1,iX 74 3 a q.wc aC,rr 3 l,1] [] [16,17,18] (Fl.run [iX 57 3 r.mb m.marks.length g,rr 4 n] (av [aS i,.g,.x] ?_));exact cq d
 ·have o:i=c.wrote.length:=by omega
  subst o;refine av [gi c.wrote.length c.wrote.length,1] ?_;refine cU [] [] [r.en {m with clock:=m.clock+1},RC.en {q with wg:=some a} (c.tick (m.clock+1)),r.eE m,RC.wE {q with wg:=some a} c,.row 102 3 (some r.mb) m.marks.length m.marks.length ((stI (m.clock+1) (c.wrote.take c.wrote.length) m.marks).flatMap fV.cells),r.sE m] ?_;simp[rcL,RS.en,RS.mE,RS.eE,RS.sE,RC.wE,Cm.tick,aDf]
def aBG(t:fV)(l:ae aZ)(c:Cm):Bool:=(t.set&&decide (t.bt≠c.me))||oJ l c.b
def aB1(r:RS)(m:Mo)(q:RC)(c:Cm)(C:a7)(s:Nat)(t:fV)(l:ae aZ)(w:Wt)(L:ae En):Prop:=if aBG t l c then∃g a,L=[(r.ev g a).en ((m.leave c s).bA c 4 eH 0),q.off.en c.up.leave,(r.ev g a).eE ((m.leave c s).bA c 4 eH 0),(r.ev g a).mE ((m.leave c s).bA c 4 eH 0),(r.ev g a).sE ((m.leave c s).bA c 4 eH 0),r.cE,C.en,q.off.wE c.up.leave]
 else L=rcL r {m with marks:=m.marks.set w.key ⟨U,c.me,0⟩} q (c.step c.wrote.length)++[r.cE,C.en]
theorem aC3 (r:RS) (m:Mo) (q:RC) (c:Cm) (C:a7) (l:List aZ) (w:Wt) (t:fV) (s:Nat) (hs:c.site=some s) (bY:s<m.sites.length) (hk:m.marks.length<1000000) (h1:m.events.length<1000000) (h2:c.at_<1000000)
  (mJ:c.wrote.length<1000000) (hp:c.phase=0) (hw:c.wrote[c.keys]?=some w) (hC:C.Is l) (cP:r.ch[w.key]?=some C) (ht:m.marks[w.key]?=some t):
  Fl Sv 33 [pt r.s,pt q.c].toArray (rcL r m q c++[r.cE,C.en]) λ_ L=>aB1 r m q c C s t l w L:=by
 have X:=(List.getElem?_eq_some_iff.1 hw).1;have D:=(List.getElem?_eq_some_iff.1 ht).1;have R:=(List.getElem?_eq_some_iff.1 cP).1;have V:(r.ch.map a7.v)[w.key*1]?=some C.v:=by rw[Nat.mul_one,List.getElem?_map,cP];rfl
 have E:¬(c.wrote.length:Int)=0:=by omega
 rcases KC:q.wg with _|e
 ·exact Fl.of 232 λW Q=>IV 3 q.wg c.wrote.length q.wc ah KC
 obtain⟨q,rfl⟩:=aB5 KC;obtain⟨AY,f,d⟩:=t;have w0:(c.wrote.flatMap Wt.cells)[c.keys*3]?=some (goInt w.key):=gW Wt.len _ c.keys 0 w aT hw;have N:(m.marks.flatMap fV.cells)[w.key*3]?=some (.bool AY):=gW fV.len _ w.key 0 ⟨AY,f,d⟩ aT ht;have O:(m.marks.flatMap fV.cells)[w.key*3+1]?=some (goInt f):=gW fV.len _ w.key 1 ⟨AY,f,d⟩ aT ht;have P:(m.marks.flatMap fV.cells)[w.key*3+2]?=some (goInt d):=gW fV.len _ w.key 2 ⟨AY,f,d⟩ aT ht;have K:=hC.n;refine Fl.of 232 λW Q=>av [1,bF E,1,kT c.phase 0] (gw 12 [1,1,iX 74 3 e q.wc X,rr 3 w0] [] (Fl.nil ?_));refine di (λ_=>[0,iX 57 3 r.mb m.marks.length D,rr 4 N,rr 4 O,rr 4 P,8,8,8,0,iX 56 1 r.cb r.ch.length R,rr 6 V]) λz=>?_;refine aCJ [(0,pt r.s),(1,pt {q with wg:=some e}.c),(4,goInt c.wrote.length),(5,goInt w.key),(94,.bool (aBG ⟨AY,f,d⟩ l c))] [r.en m,RC.en {q with wg:=some e} c,r.eE m,RC.wE {q with wg:=some e} c,r.mE m,r.sE m,r.cE,C.en,.ob z (.cells #[.bool AY,goInt f,goInt d] 102)] (λa=>?_) ?_
 ·by_cases u:AY=true∧f≠c.me
  ·have x:aBG ⟨AY,f,d⟩ l c=true:=by simp[aBG,u.1,u.2]
   rw[x]at a;obtain⟨rfl,T⟩:=u;exact gw 27 [8,8,1,xF T] [] (Fl.nil (cq a))
  ·have x:aBG ⟨AY,f,d⟩ l c=oJ l c.b:=by
    unfold aBG;have:(AY&&decide (f≠c.me))=false:=by
     cases AY with
     |false=>rfl
     |true=>simpa usingλh=>u ⟨rfl,h⟩
    simp only[this,Bool.false_or]
   rw[x]at a;cases l with
   |nil=>
    have A:¬((C.n:Nat):Int)>0:=by rw[K];simp
    cases AY with
    |false=>exact gw 27 [8,bF A] [] (Fl.nil (cq a))
    |true=>
     have y:f=c.me:=Classical.byContradiction λh=>u ⟨rfl,h⟩;exact gw 27 [8,8,1,B7 y,bF A] [] (Fl.nil (cq a))
   |cons v l=>
    obtain⟨g,n,b,G⟩:=C;simp only at K;have p:(n:Int)>0:=by rw[K];simp only[List.length_cons];omega
    have o:0<n:=by omega
    cases g with
    |none=>exact absurd (hC.no rfl) ba
    |some g=>
     have B:G.toList[0*3]?=some (goInt v.aG):=hC.get rfl (i:=0) (j:=0) aT rfl rfl;have M:oJ (v::l) c.b=decide (v.aG>c.b):=rfl;by_cases k:v.aG>c.b
     ·rw[M,decide_eq_true k]at a
      cases AY with
      |false=>exact gw 27 [8,bT p,iX 86 3 g b o,rr 7 B,1,bT k] [] (Fl.nil (cq a))
      |true=>
       have y:f=c.me:=Classical.byContradiction λh=>u ⟨rfl,h⟩;exact gw 27 [8,8,1,B7 y,bT p,iX 86 3 g b o,rr 7 B,1,bT k] [] (Fl.nil (cq a))
     ·rw[M,decide_eq_false k]at a
      cases AY with
      |false=>exact gw 27 [8,bT p,iX 86 3 g b o,rr 7 B,1,bF k] [] (Fl.nil (cq a))
      |true=>
       have y:f=c.me:=Classical.byContradiction λh=>u ⟨rfl,h⟩;exact gw 27 [8,8,1,B7 y,bT p,iX 86 3 g b o,rr 7 B,1,bF k] [] (Fl.nil (cq a))
 ·cases x:aBG ⟨AY,f,d⟩ l c with
  |true=>
   refine av [] (eR [0,1,4,5] (aB0 r m {q with wg:=some e} c s hs bY hk) ?_);rintro _ _ rfl;refine av [] (eR [0,1,2] (w7 r (m.leave c s) (RC.off {q with wg:=some e}) c.leave 4 0 ⟨#[]⟩ h1 h2) ?_);rintro _ _ ⟨g,b,rfl⟩;refine av [] (pC 83 3 (cU [3,8] [] [(r.ev g b).en ((m.leave c s).bA c 4 eH 0),(RC.off {q with wg:=some e}).en c.up.leave,(r.ev g b).eE ((m.leave c s).bA c 4 eH 0),(r.ev g b).mE ((m.leave c s).bA c 4 eH 0),(r.ev g b).sE ((m.leave c s).bA c 4 eH 0),r.cE,C.en,(RC.off {q with wg:=some e}).wE c.up.leave] ?_));unfold aB1;rw[if_pos x];exact⟨g,b,rfl⟩
  |false=>
   have H:((m.marks.flatMap fV.cells).set (w.key*3) (.bool true))[w.key*3+1]?=some (goInt f):=by
    rw[List.getElem?_set_ne ah];exact O
   have J:(((m.marks.flatMap fV.cells).set (w.key*3) (.bool true)).set (w.key*3+1) (goInt c.me))[w.key*3+2]?=some (goInt d):=by
    rw[List.getElem?_set_ne ah,List.getElem?_set_ne ah];exact P
   refine av [] (jO 10 [0,1] [] [10,11] (Fl.run [iX 57 3 r.mb m.marks.length D,rr 4 N,rr 4 H,rr 4 J] (av [] ?_)));refine eR [1] (aCA {q with wg:=some e} c c.wrote.length ah ah) ?_;rintro _ _ rfl;refine av [] (cU [8] [] [r.en m,RC.en {q with wg:=some e} (c.step c.wrote.length),r.eE m,RC.wE {q with wg:=some e} c,.row 102 3 (some r.mb) m.marks.length m.marks.length ((((m.marks.flatMap fV.cells).set (w.key*3) (.bool true)).set (w.key*3+1) (goInt c.me)).set (w.key*3+2) (goInt 0)),r.sE m,r.cE,C.en] ?_);unfold aB1;rw[if_neg (by rw[x];simp),Rg fV.len ⟨true,c.me,0⟩ rfl m.marks w.key D];have S:=c.qX c.wrote.length;simp[rcL,RS.en,RS.mE,RS.eE,RS.sE,RC.wE,S.2.2.2.2.2.2.1]
theorem aCK{X:Cx}{c:ae aJ}{o:ae cz}{f:Env}(i e a g n d:Nat)(l:ae ag)(h:∀b:af ag,b.toList.take (n*a)=l->n<=d->Rs P X c o f (L.set i (.ob g (.cells b e))))(q:L[i]?=iQ (.row e a (iQ g) n d l):=by kernel_rfl):Rs P X c o f L:=λr j H t p=>by
 have s:Row H e a (sv (iQ g) n d) n l:=p.at q;rcases s.2 with⟨k,_⟩|⟨z,m,b,k,v,w,q3,A,y⟩
 ·cases k
 ·cases k
  refine h b y w r j H t (yf p q v (λx u=>.inl ?_) (dt _) λx _ _=>rfl);cases u;rfl
def RS.cd(r:RS)(k:Nat)(C:a7):RS:={r with ch:=r.ch.set k C}
def aEd(r:RS)(m:Mo)(q:RC)(c:Cm)(l:ae aZ)(w:Wt)(L:ae En):Prop:=∃C:a7,C.Is (⟨c.aG,w.gone,w.val⟩::l)/\L=rcL (r.cd w.key C) {m with marks:=m.marks.set w.key .no} q (c.step c.wrote.length)++[(r.cd w.key C).cE,C.en]
theorem aD0 (r:RS) (m:Mo) (q:RC) (c:Cm) (C:a7) (l:List aZ) (w:Wt) (hk:m.marks.length<1000000) (hl:l.length<1000000)
  (mJ:c.wrote.length<1000000) (hp:c.phase=2) (hw:c.wrote[c.keys]?=some w) (hC:C.Is l) (cP:r.ch[w.key]?=some C) (BM:w.key<m.marks.length):
  Fl Sv 33 [pt r.s,pt q.c].toArray (rcL r m q c++[r.cE,C.en]) λ_ L=>aEd r m q c l w L:=by
 have T:=(List.getElem?_eq_some_iff.1 hw).1;have B:=(List.getElem?_eq_some_iff.1 cP).1;have D:(r.ch.map a7.v)[w.key*1]?=some C.v:=by rw[Nat.mul_one,List.getElem?_map,cP];rfl
 have H:¬(c.wrote.length:Int)=0:=by omega
 rcases KC:q.wg with _|a
 ·exact Fl.of 232 λS R=>IV 3 q.wg c.wrote.length q.wc ah KC
 obtain⟨q,rfl⟩:=aB5 KC;obtain⟨⟨AY,G,f⟩,N⟩:∃t,m.marks[w.key]?=some t:=⟨_,List.getElem?_eq_getElem BM⟩;have V:(c.wrote.flatMap Wt.cells)[c.keys*3]?=some (goInt w.key):=gW Wt.len _ c.keys 0 w aT hw;have W:(c.wrote.flatMap Wt.cells)[c.keys*3+1]?=some (.bool w.gone):=gW Wt.len _ c.keys 1 w aT hw;have X:(c.wrote.flatMap Wt.cells)[c.keys*3+2]?=some (.string w.val):=gW Wt.len _ c.keys 2 w aT hw;have Q:(m.marks.flatMap fV.cells)[w.key*3]?=some (.bool AY):=gW fV.len _ w.key 0 ⟨AY,G,f⟩ aT N;have y:((m.marks.flatMap fV.cells).set (w.key*3) (.bool false))[w.key*3+1]?=some (goInt G):=by
  rw[List.getElem?_set_ne ah];exact gW fV.len _ w.key 1 ⟨AY,G,f⟩ aT N
 have A:(((m.marks.flatMap fV.cells).set (w.key*3) (.bool false)).set (w.key*3+1) (goInt 0))[w.key*3+2]?=some (goInt f):=by
  rw[List.getElem?_set_ne ah,List.getElem?_set_ne ah];exact gW fV.len _ w.key 2 ⟨AY,G,f⟩ aT N
 have s:=hC.n;have P:=c.qX c.wrote.length;refine Fl.of 232 λS R=>av [1,bF H,1,ie c.phase 0,1,ie c.phase 1,1,kT c.phase 2]
  (jO 11 [1,1,iX 74 3 a q.wc T,rr 3 V,rr 3 W,rr 3 X] [10] [11] (tD (λ_=>[]) λz=>Fl.run [8,8,8] (av [] (pC 88 3 ?_))))
 refine jO 12 [1,8,8] [10,11] [12] (tD (λ_=>[]) λz2=>Gy (app1 86 9 10 0 ah) ?_);rintro _ _ ⟨x,e,rfl,rfl⟩;refine ib (Fl.run [] (av [] ?_));refine lJ 9 (some x) 1 e ah λ_ _ J=>?_;cases l with
 |nil=>
  obtain⟨g,n,k,o⟩:=C;simp only at s;subst s;refine jO 16 [0,8,0,8,iX 56 1 r.cb r.ch.length B,rr 6 D] [15] [16,17] (yg [a0 86 3 (some x) 1 e (g.map λb=>⟨b,0,none⟩) k J] (Fl.run [iX 56 1 r.cb r.ch.length B,rr 6 D] (av [] ?_)));refine jO 7 [0,8] [] [7,8] (Fl.run [iX 57 3 r.mb m.marks.length BM,rr 4 Q,rr 4 y,rr 4 A] (av [] ?_));refine eR [1] (aCA {q with wg:=some a} c c.wrote.length ah ah) ?_;rintro _ _ rfl;refine av [] (ey [8,10] (aCK 8 88 3 x 1 e [goInt c.aG,.bool w.gone,.string w.val] (λd i p=>?_)));refine cU [7] [] [r.en m,RC.en {q with wg:=some a} (c.step c.wrote.length),r.eE m,RC.wE {q with wg:=some a} c,.row 102 3 (some r.mb) m.marks.length m.marks.length ((((m.marks.flatMap fV.cells).set (w.key*3) (.bool false)).set (w.key*3+1) (goInt 0)).set (w.key*3+2) (goInt 0)),r.sE m,.row 86 1 (some r.cb) r.ch.length r.ch.length ((r.ch.map a7.v).set (w.key*1) (sv (some x) 1 e)),.ob x (.cells d 88)] ⟨⟨some x,1,e,d⟩,⟨rfl,p,λ_=>by simpa[aZ.cells]using i,λh=>by cases h⟩,?_⟩;rw[Rg fV.len ⟨false,0,0⟩ rfl m.marks w.key BM];simp[rcL,RS.en,RS.mE,RS.eE,RS.sE,RS.cE,RS.cd,a7.en,a7.v,RC.wE,P.2.2.2.2.2.2.1,List.map_set,fV.no]
 |cons v l=>
  obtain⟨g,n,k,o⟩:=C;simp only at s;cases g with
  |none=>exact absurd (hC.no rfl) ba
  |some g=>
   have M:0<n:=by rw[s];simp
   have K:o.toList.take (n*3)=(v::l).flatMap aZ.cells:=hC.cur rfl;refine jO 16 [0,8,0,8,iX 56 1 r.cb r.ch.length B,rr 6 D] [15] [16,17] (Gy (MI 86 3 9 7 g 0 n k 1 o.toList ((v::l).flatMap aZ.cells) M (by simp only[List.length_cons]at s hl;omega) (by rw[Bx aZ.len,s]) (JF aZ.one _) (λj u h=>by
    rw[Nat.zero_add,←K,List.getElem?_take]at*;split at h
    ·exact h
    ·cases h)) ?_)
   rintro _ _ ⟨E,O,rfl,rfl⟩;refine ib (Fl.run [iX 56 1 r.cb r.ch.length B,rr 6 D] (av [] ?_));refine jO 7 [0,8] [] [7,8] (Fl.run [iX 57 3 r.mb m.marks.length BM,rr 4 Q,rr 4 y,rr 4 A] (av [] ?_));refine eR [1] (aCA {q with wg:=some a} c c.wrote.length ah ah) ?_;rintro _ _ rfl;refine av [] (ey [8,10] (aCK 8 88 3 E (1+n) O ([goInt c.aG,.bool w.gone,.string w.val]++(v::l).flatMap aZ.cells) (λd i p=>?_)));refine cU [7] [] [r.en m,RC.en {q with wg:=some a} (c.step c.wrote.length),r.eE m,RC.wE {q with wg:=some a} c,.row 102 3 (some r.mb) m.marks.length m.marks.length ((((m.marks.flatMap fV.cells).set (w.key*3) (.bool false)).set (w.key*3+1) (goInt 0)).set (w.key*3+2) (goInt 0)),r.sE m,.row 86 1 (some r.cb) r.ch.length r.ch.length ((r.ch.map a7.v).set (w.key*1) (sv (some E) (1+n) O)),.ob E (.cells d 88)] ⟨⟨some E,(1+n),O,d⟩,⟨by simp only[List.length_cons]at s⊢;omega,p,λ_=>by simpa[aZ.cells]using i,λh=>by cases h⟩,?_⟩;rw[Rg fV.len ⟨false,0,0⟩ rfl m.marks w.key BM];simp[rcL,RS.en,RS.mE,RS.eE,RS.sE,RS.cE,RS.cd,a7.en,a7.v,RC.wE,P.2.2.2.2.2.2.1,List.map_set,fV.no]
def aCR(t:aK)(x a b:ag):Sem Next:=tB (aBq t x I (Z a) (Z b)) λv=>.pure (.value v)
theorem aDr{t b:Nat}{g:aj Nat}{k:Int}(f:k=i)(q:i<=a)(h:oG P t b=U)(w:ax):(aCR t (sv g n a) (ai k) (ai k)).run P w=.ok (.value (sv g i i)) w:=by
 subst f;unfold oG at h;split at h
 ·rename_i e l
  split at h
  ·rename_i o d
   show((aBq t (sv g n a) I (Z (ai i)) (Z (ai i)))>>=λv=>(qi (mR v):Sem Next)).run P w=_;have m:=zy l w;have j:=Lv d w;have c:bP P (aBu (ai i) a .slice3Acap) w=.ok i w:=by
    unfold aBu;simp only[fK,ai,asIntOf,pure,bP,fy];rw[if_pos (by constructor<;>omega)];simp[bP]
   have p:bP P (aBu (ai i) i .slice3B) w=.ok i w:=by
    unfold aBu;simp only[fK,ai,asIntOf,pure,bP,fy];rw[if_pos (by constructor<;>omega)];simp[bP]
   unfold aBq Instr.slice;simp only[fK,m,fy,sv,Instr.sliceBounds,pure,bP,if_true,c,p,j,Nat.zero_mul,Nat.sub_zero];cases g with
   |none=>simp
   |some g=>
    simp only[jE];have:(⟨g,0,I⟩:aU).add 0=⟨g,0,I⟩:=by
     unfold Addr.add;simp
    rw[this];simp
  ·cases h
 ·cases h
abbrev aCo(t b:Nat)(g:aj Nat)(n a:Nat)(k:Int)(i:Nat)(c:k=i/\i<=a)(h:oG P t b=U:=by kernel_rfl):Aw P:=.s (aCR t (sv g n a) (ai k) (ai k)) (.value (sv g i i)) (aDr c.1 c.2 h)
theorem aBw{b:Bool}(h:m.fE=b):∃a:Mo,m={a with fE:=b}:=⟨m,by cases m;simp_all⟩
def sx(l:ae aZ)(w:Int):Nat:=match l[eo w l]? with
 |some v=>if v.gone then eo w l else eo w l+1
 |none=>l.length
theorem aEJ(l:ae aZ)(w:Int):mq l w=l.take (sx l w):=by
 cases h:l[eo w l]?<;>simp[mq,sx,h]
theorem aEK(l:ae aZ)(w:Int):sx l w<=l.length:=by
 have:=OD w l;unfold sx;split
 ·rename_i v a
  have:=(dq.1 a).1;split<;>omega
 ·exact dt _
def a7.cut(C:a7)(i:Nat):a7:=⟨C.g,i,i,C.cur⟩
theorem a7.Is.cut{l:ae aZ}(h:C.Is l)(b:i<=l.length):(C.cut i).Is (l.take i)where
 n:=by simp[a7.cut,Nat.min_eq_left b]
 cap:=dt _
 cur:=λa=>by
  have c:=h.cur a;have f:=h.n;have e:(l.take i).flatMap aZ.cells=(l.flatMap aZ.cells).take (i*3):=by
   have d:l.flatMap aZ.cells=(l.take i).flatMap aZ.cells++(l.drop i).flatMap aZ.cells:=by rw[<-IE,List.take_append_drop]
   have g:((l.take i).flatMap aZ.cells).length=i*3:=by rw[Bx aZ.len,CF,Nat.min_eq_left b]
   rw[d,List.take_append_of_le_length ah,List.take_of_length_le (l:=(l.take i).flatMap aZ.cells) ah]
  rw[e,<-c,List.take_take,Nat.min_eq_left (by rw[f];omega)];rfl
 no:=λa=>by rw[h.no a];simp
theorem aEp(r:RS)(m:Mo)(a:m.fE=true):Fl Sv 17 [pt r.s].toArray [r.en m] λv L=>v=.tuple #[.bool false,goInt 5]∧L=[r.en m]:=by
 obtain⟨m,rfl⟩:=aBw a;exact Fl.of 119 λc b=>av [0] (cU [] [.bool false,goInt 5] _ ⟨rfl,rfl⟩)
theorem aEn(r:RS)(m:Mo)(b:m.fE=false)(a:m.at_=0):Fl Sv 17 [pt r.s].toArray [r.en m] λv L=>v=.tuple #[.bool false,goInt 0]∧L=[r.en {m with at_:=1,w:=m.clock}]:=by
 obtain⟨m,rfl⟩:=aBw b;simp only at a;refine Fl.of 119 λd c=>av [0,0,0,0,aI ((m.at_:Int)+1) (1:Nat) ah,0,kT m.at_ 0,0,0] (cU [] [.bool false,goInt 0] _ ⟨rfl,rfl⟩)
theorem aEo (r:RS) (m:Mo) (h:Int) (hs:m.fE=false) (i:Nat) (ha:m.at_=i+1) (hh:m.sites[i]?=some h) (hS:m.sites.length<1000000):Fl Sv 17 [pt r.s].toArray [r.en m,r.sE m] λv L=>v=.tuple #[.bool false,goInt 0]∧L=[r.en {m with at_:=i+2,w:=if 0≤h∧h<m.w then h else m.w},r.sE m]:=by
 obtain⟨m,rfl⟩:=aBw hs;simp only at ha hh hS;have d:=(List.getElem?_eq_some_iff.1 hh).1;have c:(m.sites.map goInt)[i*1]?=some (goInt h):=by rw[Nat.mul_one,List.getElem?_map,hh];rfl
 refine Fl.of 119 λj f=>lJ 1 r.sg m.sites.length r.sc ah λg e _=>?_;obtain⟨r,rfl⟩:=RS.wo e;by_cases a:h≥0
 ·by_cases b:h<m.w
  ·rw[if_pos ⟨a,b⟩]
   exact av [0,0,0,0,aI ((m.at_:Int)+1) (i+2:Nat) ah,0,ie m.at_ 0,KU m.at_ m.sites.length,0,aI ((m.at_:Int)-1) (i:Nat) ah,iX 55 1 g r.sc d,rr 1 c,bT a,0,bT b,0] (cU [] [.bool false,goInt 0] _ ⟨rfl,rfl⟩)
  ·rw[if_neg (λh=>b h.2)]
   exact av [0,0,0,0,aI ((m.at_:Int)+1) (i+2:Nat) ah,0,ie m.at_ 0,KU m.at_ m.sites.length,0,aI ((m.at_:Int)-1) (i:Nat) ah,iX 55 1 g r.sc d,rr 1 c,bT a,0,bF b] (cU [] [.bool false,goInt 0] _ ⟨rfl,rfl⟩)
 ·rw[if_neg (λh=>a h.1)]
  exact av [0,0,0,0,aI ((m.at_:Int)+1) (i+2:Nat) ah,0,ie m.at_ 0,KU m.at_ m.sites.length,0,aI ((m.at_:Int)-1) (i:Nat) ah,iX 55 1 g r.sc d,rr 1 c,bF a] (cU [] [.bool false,goInt 0] _ ⟨rfl,rfl⟩)
theorem aC8 (r:RS) (m:Mo) (C:a7) (l:List aZ) (hs:m.fE=false) (k:Nat) (ha:m.at_=m.sites.length+1+k) (hC:C.Is l) (hk:r.ch[k]?=some C) (hS:m.sites.length<1000000) (hK:r.ch.length<1000000) (hl:l.length<1000000):Fl Sv 17 [pt r.s].toArray [r.en m,r.cE,C.en] λv L=>v=.tuple #[.bool (decide (k+1=r.ch.length)),goInt 0]∧L=[(r.cd k (C.cut (sx l m.w))).en {m with at_:=if k+1=r.ch.length then 0 else m.at_+1},(r.cd k (C.cut (sx l m.w))).cE,C.en]:=by
 obtain⟨m,rfl⟩:=aBw hs;simp only at ha hS;have f:=(List.getElem?_eq_some_iff.1 hk).1;have e:(r.ch.map a7.v)[k*1]?=some C.v:=by rw[Nat.mul_one,List.getElem?_map,hk];rfl
 have p:=hC.n;have o:=OD m.w l;have q:=hC.cap;refine Fl.of 119 λt s=>av [0,0,0,0,aI ((m.at_:Int)+1) (m.at_+1:Nat) ah,0,ie m.at_ 0,leF m.at_ m.sites.length,aI ((m.at_:Int)-1) ((m.at_:Int)-1) ah,aI ((m.at_:Int)-1-m.sites.length) (k:Nat) ah,0,iX 56 1 r.cb r.ch.length f,rr 1 e,0]
  (eR [0,1,2] (aC7 r {m with fE:=false,at_:=m.at_+1} C l k m.w hC hk hl) ?_)
 rintro _ _ ⟨rfl,rfl⟩;by_cases j:eo m.w l=l.length
 ·have b:sx l m.w=eo m.w l:=by
   unfold sx;rw[j,List.getElem?_eq_none (Nat.le_refl _)]
  refine av [gi (eo m.w l:Nat) (C.n:Nat)] ?_;refine jO 9 [0,aCo 86 3 C.g C.n C.cap (eo m.w l:Nat) (eo m.w l) ⟨rfl,by omega⟩] [] [9,10] (Fl.run [iX 56 1 r.cb r.ch.length f,rr 1 e] (av [] ?_));by_cases c:k+1=r.ch.length
  ·refine av [0,aI ((r.ch.length:Int)-1) (k:Nat) ah,kT k (k:Nat) rfl,0] ?_
   refine cU [] [.bool true,goInt 0] [r.en {m with fE:=false,at_:=0},.row 86 1 (some r.cb) r.ch.length r.ch.length ((r.ch.map a7.v).set (k*1) (sv C.g (eo m.w l) (eo m.w l))),C.en] ⟨by rw[decide_eq_true c];rfl,?_⟩;rw[b,if_pos c];simp[RS.en,RS.cE,RS.cd,a7.cut,a7.v,List.map_set]
  ·refine av [0,aI ((r.ch.length:Int)-1) ((r.ch.length:Int)-1) ah,ie k ((r.ch.length:Int)-1)] ?_
   refine cU [] [.bool false,goInt 0] [r.en {m with fE:=false,at_:=m.at_+1},.row 86 1 (some r.cb) r.ch.length r.ch.length ((r.ch.map a7.v).set (k*1) (sv C.g (eo m.w l) (eo m.w l))),C.en] ⟨by rw[decide_eq_false c];rfl,?_⟩;rw[b,if_neg c];simp[RS.en,RS.cE,RS.cd,a7.cut,a7.v,List.map_set]
 ·obtain⟨v,i⟩:∃v,l[eo m.w l]?=some v:=⟨_,List.getElem?_eq_getElem ah⟩
  obtain⟨g,n,a,d⟩:=C;simp only at p q;cases g with
  |none=>exact absurd (hC.no rfl) (by rintro rfl;simp at i)
  |some g=>
   have h:d.toList[eo m.w l*3+1]?=some (.bool v.gone):=hC.get rfl aT i rfl;cases hg:v.gone with
   |true=>
    rw[hg]at h;have b:sx l m.w=eo m.w l:=by
     unfold sx;rw[i];simp[hg]
    refine av [fu (eo m.w l:Nat) (n:Nat),ix 86 3 g n a (eo m.w l:Nat) (eo m.w l) ⟨rfl,by omega⟩,rr 2 h] ?_;refine jO 9 [0,aCo 86 3 (some g) n a (eo m.w l:Nat) (eo m.w l) ⟨rfl,by omega⟩] [] [9,10] (Fl.run [iX 56 1 r.cb r.ch.length f,rr 1 e] (av [] ?_));by_cases c:k+1=r.ch.length
    ·refine av [0,aI ((r.ch.length:Int)-1) (k:Nat) ah,kT k (k:Nat) rfl,0] ?_
     refine cU [] [.bool true,goInt 0] [r.en {m with fE:=false,at_:=0},.row 86 1 (some r.cb) r.ch.length r.ch.length ((r.ch.map a7.v).set (k*1) (sv (some g) (eo m.w l) (eo m.w l))),a7.en ⟨some g,n,a,d⟩] ⟨by rw[decide_eq_true c];rfl,?_⟩;rw[b,if_pos c];simp[RS.en,RS.cE,RS.cd,a7.cut,a7.v,List.map_set]
    ·refine av [0,aI ((r.ch.length:Int)-1) ((r.ch.length:Int)-1) ah,ie k ((r.ch.length:Int)-1)] ?_
     refine cU [] [.bool false,goInt 0] [r.en {m with fE:=false,at_:=m.at_+1},.row 86 1 (some r.cb) r.ch.length r.ch.length ((r.ch.map a7.v).set (k*1) (sv (some g) (eo m.w l) (eo m.w l))),a7.en ⟨some g,n,a,d⟩] ⟨by rw[decide_eq_false c];rfl,?_⟩;rw[b,if_neg c];simp[RS.en,RS.cE,RS.cd,a7.cut,a7.v,List.map_set]
   |false=>
    rw[hg]at h;have b:sx l m.w=eo m.w l+1:=by
     unfold sx;rw[i];simp[hg]
    refine av [fu (eo m.w l:Nat) (n:Nat),ix 86 3 g n a (eo m.w l:Nat) (eo m.w l) ⟨rfl,by omega⟩,rr 2 h,aI (((eo m.w l:Nat):Int)+1) ((eo m.w l+1:Nat):Int) ah] ?_;refine jO 9 [0,aCo 86 3 (some g) n a (eo m.w l+1:Nat) (eo m.w l+1) ⟨rfl,by omega⟩] [] [9,10] (Fl.run [iX 56 1 r.cb r.ch.length f,rr 1 e] (av [] ?_));by_cases c:k+1=r.ch.length
    ·refine av [0,aI ((r.ch.length:Int)-1) (k:Nat) ah,kT k (k:Nat) rfl,0] ?_
     refine cU [] [.bool true,goInt 0] [r.en {m with fE:=false,at_:=0},.row 86 1 (some r.cb) r.ch.length r.ch.length ((r.ch.map a7.v).set (k*1) (sv (some g) (eo m.w l+1) (eo m.w l+1))),a7.en ⟨some g,n,a,d⟩] ⟨by rw[decide_eq_true c];rfl,?_⟩;rw[b,if_pos c];simp[RS.en,RS.cE,RS.cd,a7.cut,a7.v,List.map_set]
    ·refine av [0,aI ((r.ch.length:Int)-1) ((r.ch.length:Int)-1) ah,ie k ((r.ch.length:Int)-1)] ?_
     refine cU [] [.bool false,goInt 0] [r.en {m with fE:=false,at_:=m.at_+1},.row 86 1 (some r.cb) r.ch.length r.ch.length ((r.ch.map a7.v).set (k*1) (sv (some g) (eo m.w l+1) (eo m.w l+1))),a7.en ⟨some g,n,a,d⟩] ⟨by rw[decide_eq_false c];rfl,?_⟩;rw[b,if_neg c];simp[RS.en,RS.cE,RS.cd,a7.cut,a7.v,List.map_set]
theorem aCI{r:RS}{g:Nat}(h:r.lg=Z g):∃a:RS,r={a with lg:=Z g}:=⟨r,by cases r;simp_all⟩
theorem aDj{q:RC}{g:Nat}(h:q.pg=Z g):∃q0:RC,q={q0 with pg:=Z g}:=⟨q,by cases q;simp_all⟩
theorem aDi{c:Cm}{b:Bool}(h:c.out=b):∃c0:Cm,c={c0 with out:=b}:=⟨c,by cases c;simp_all⟩
theorem aEj(r:RS)(m:Mo)(i:Int)(a:m.fE=true):Fl Sv 15 [pt r.s,goInt i].toArray [r.en m] λv L=>v=.tuple #[goInt 0,goInt 5]∧L=[r.en m]:=by
 obtain⟨m,rfl⟩:=aBw a;exact Fl.of 111 λd b=>av [0] (cU [] [goInt 0,goInt 5] _ ⟨rfl,rfl⟩)
theorem aEh(r:RS)(m:Mo)(i:Int)(b:m.fE=false)(h:i<0∨i≥r.cl.length):Fl Sv 15 [pt r.s,goInt i].toArray [r.en m] λv L=>v=.tuple #[goInt 0,goInt 4]∧L=[r.en m]:=by
 obtain⟨m,rfl⟩:=aBw b;refine Fl.of 111 λe d=>?_;by_cases a:i<0
 ·exact av [0,bT a] (cU [] [goInt 0,goInt 4] _ ⟨rfl,rfl⟩)
 ·exact av [0,bF a,0,bT (h.resolve_left a)] (cU [] [goInt 0,goInt 4] _ ⟨rfl,rfl⟩)
section
variable (r:RS)(m:Mo)(q:RC)(c:Cm)(i:Nat)(W:m.fE=Y)(X:r.cl[i]?=Z q.c)(V:r.cl.length<1000000)
include W X V
theorem aEi(d:c.pr[c.at_]?=none)(f:c.at_≤c.pr.length):Fl Sv 15 [pt r.s,goInt i].toArray [r.lE,q.pE c,r.en m,q.en c] λv L=>v=.tuple #[goInt (-1),goInt 0]∧L=[r.lE,q.pE c,r.en m,q.en c]:=by
 obtain⟨m,rfl⟩:=aBw W;have b:=(List.getElem?_eq_some_iff.1 X).1;have e:(r.cl.map pt)[i*1]?=some (pt q.c):=by rw[Nat.mul_one,List.getElem?_map,X];rfl
 have h:c.pr.length≤c.at_:=List.getElem?_eq_none_iff.1 d;exact Fl.of 111 λk j=>lJ 0 r.lg r.cl.length r.lc ah λg a _=>by
  obtain⟨r,rfl⟩:=aCI a;exact av [2,gi i 0,2,Nr i r.cl.length (by simp only at b;omega),2,iX 58 1 g r.lc b,rr 0 e] (gw 10 [3,3,kT c.at_ c.pr.length] [] (Fl.nil (av [] (cU [] [goInt (-1),goInt 0] _ ⟨rfl,rfl⟩))))
abbrev rpG(r:RS)(m:Mo)(q:RC)(c:Cm)(i:Nat)(a:ae En)(R:ag->ae En->Prop):Prop:=Fl Sv 15 [pt r.s,ai i].toArray ([r.lE,q.pE c,r.en m,q.en c]++a) R
abbrev rpR(r:RS)(q:RC)(c:Cm)(Q:ag->ae En->Prop)(x:ag->ag)(v:ag)(L:ae En):Prop:=∃b a,Q b a/\v=.tuple #[x b,ai 0]/\L=r.lE::q.pE c::a
theorem wG {p:Stp} (dM:c.pr[c.at_]?=some p):
  (c.out=false→p.kind=5→∀j Q,Fl Sv 33 [pt r.s,pt q.c].toArray (r.en m::q.en c::j) Q→rpG r m q c i j (rpR r q c Q λ_=>goInt 1))∧
  (c.out=false→p.kind=1→∀j Q,Fl Sv 29 [pt r.s,pt q.c].toArray (r.en m::q.en c::j) Q→rpG r m q c i j (rpR r q c Q λ_=>goInt 1))∧
  (c.out=false→p.kind=2→∀j Q,Fl Sv 30 [pt r.s,pt q.c,goInt p.key].toArray (r.en m::q.en c::j) Q→rpG r m q c i j (rpR r q c Q λv=>v))∧
  (c.out=false→∀(b:Bool)(k:Nat),(p.kind=3∧b=false∨p.kind=4∧b=true)→p.key=k→(c.wrote.map (·.key)).Pairwise (·<·)→c.wrote.length<100000→m.events.length<1000000→c.pr.length<1000000→rpG r m q c i [q.wE c,r.eE m] λv L=>v=.tuple #[goInt 1,goInt 0]∧∃g d u t,L=[r.lE,q.pE c,(r.ev g d).en (m.bA c 1 eH 0),(q.wr u t).en (c.put ⟨k,b,p.val⟩),(r.ev g d).eE (m.bA c 1 eH 0),(q.wr u t).wE (c.put ⟨k,b,p.val⟩)])∧
  (c.out=false→p.kind=6→∀s,c.site=some s→s<m.sites.length→m.marks.length<1000000→m.events.length<1000000→c.pr.length<1000000→rpG r m q c i [r.mE m,r.sE m,r.eE m,q.wE c] λv L=>v=.tuple #[goInt 1,goInt 0]∧∃E,aCi r m q c s 1 0 E∧L=r.lE::q.pE c::E)∧
  (c.out=true→m.events.length<1000000→c.pr.length<1000000→∀b,xI p=b→rpG r m q c i [r.eE m] λv L=>v=.tuple #[goInt 1,goInt 0]∧∃g d,L=[r.lE,q.pE c,(r.ev g d).en (m.bA c 7 eH 0),q.en (c.skip b),(r.ev g d).eE (m.bA c 7 eH 0)]):=by
 obtain⟨m,rfl⟩:=aBw W;obtain⟨a,y,o⟩:=p;have K:=(List.getElem?_eq_some_iff.1 X).1;have O:(r.cl.map pt)[i*1]?=some (pt q.c):=by rw[Nat.mul_one,List.getElem?_map,X];rfl
 have aC:=(List.getElem?_eq_some_iff.1 dM).1;have S:(c.pr.flatMap Stp.cells)[c.at_*3]?=some (goInt a):=gW Stp.len _ c.at_ 0 _ aT dM;have T:(c.pr.flatMap Stp.cells)[c.at_*3+1]?=some (goInt y):=gW Stp.len _ c.at_ 1 _ aT dM;have p2:(c.pr.flatMap Stp.cells)[c.at_*3+2]?=some (.string o):=gW Stp.len _ c.at_ 2 _ aT dM;refine⟨λw h j Q B=>?_,λw h j Q B=>?_,λw h j Q B=>?_,λw b k h G D J l n=>?_,λw h s P N M l n=>?_,λw l n b A=>?_⟩
 all_goals
  try simp only at h
  refine Fl.of 111 λcs L2=>cF [r.lE,q.pE c,r.en {m with fE:=false},q.en c] _ (lJ 0 r.lg r.cl.length r.lc ah λf C _=>lJ 1 q.pg c.pr.length q.pc ah λe R _=>?_);obtain⟨r,rfl⟩:=aCI C;obtain⟨q,rfl⟩:=aDj R;obtain⟨c,rfl⟩:=aDi w;refine av [2,gi i 0,2,Nr i r.cl.length (by simp only at K;omega),2,iX 58 1 f r.lc K,rr 0 O] (gw 10 [3,3,ie c.at_ c.pr.length (by simp only at aC;omega)] [] (Fl.nil ?_));refine av [] (jO 11 [3,3,iX 26 3 e q.pc aC,rr 1 S,rr 1 T,rr 1 p2] [10] [11] (tD (λ_=>[]) λz=>Fl.run [4,4,4] ?_))
 iterate 3
  first
   |refine av [3,4,kT a 1] (Eu [0,1,4,2,3] (bE ?_))
   |refine av [3,4,ie a 1,kT a 2,4] (Eu [0,1,4,2,3] (bE ?_))
   |refine av [3,4,ie a 1,ie a 2,ie a 3,ie a 4,ie a 6,kT a 5] (Eu [0,1,4,2,3] (bE ?_))
  refine lW [RS.lE {r with lg:=some f},RC.pE {q with pg:=some e} {c with out:=false},.ob z (.cells #[goInt a,goInt y,.string o] 71)] _ B ?_;rintro v x H;refine cF [RS.lE {r with lg:=some f},RC.pE {q with pg:=some e} {c with out:=false},.ob z (.cells #[goInt a,goInt y,.string o] 71)] x (av [] (ey [2] (bE ?_)))
  first
   |exact ez [goInt 1,goInt 0] _ ⟨v,x,H,rfl,rfl⟩
   |exact ez [v,goInt 0] _ ⟨v,x,H,rfl,rfl⟩
 ·simp only at G
  subst G;refine bE ?_;rcases h with⟨h,rfl⟩|⟨h,rfl⟩;refine av [3,4,ie a 1,ie a 2,kT a 3,4,4,ie a 4,4] (eR [3,5] (aDa ({q with pg:=some e}:RC) ({c with out:=false}:Cm) ⟨k,false,o⟩ D J) ?_);rintro _ _ ⟨u,t,rfl⟩;refine av [] (eR [2,3,6] (w7 {r with lg:=some f} {m with fE:=false} (RC.wr {q with pg:=some e} u t) (Cm.mk c.me c.pr c.at_ false c.site c.b (mr ⟨k,false,o⟩ c.wrote) c.phase c.keys c.aG) 1 0 ⟨#[]⟩ l (by simp only at aC n;show c.at_<1000000;omega)) ?_)
  rotate_left
  refine av [3,4,ie a 1,ie a 2,ie a 3,kT a 4,4,4,kT a 4,4] (eR [3,5] (aDa ({q with pg:=some e}:RC) ({c with out:=false}:Cm) ⟨k,true,o⟩ D J) ?_);rintro _ _ ⟨u,t,rfl⟩;refine av [] (eR [2,3,6] (w7 {r with lg:=some f} {m with fE:=false} (RC.wr {q with pg:=some e} u t) (Cm.mk c.me c.pr c.at_ false c.site c.b (mr ⟨k,true,o⟩ c.wrote) c.phase c.keys c.aG) 1 0 ⟨#[]⟩ l (by simp only at aC n;show c.at_<1000000;omega)) ?_)
  all_goals
   rintro _ _ ⟨g,d,rfl⟩;exact av [] (ey [4] (Eu [0,1,2,3,5,4] (cU [] [goInt 1,goInt 0] _ ⟨rfl,g,d,u,t,rfl⟩)))
 ·refine bE (av [3,4,ie a 1,ie a 2,ie a 3,ie a 4,kT a 6] (eR [2,3,5,6] (aB0 {r with lg:=some f} {m with fE:=false} {q with pg:=some e} {c with out:=false} s P N M) ?_))
  rintro _ _ rfl;refine av [] (eR [2,3,7] (w7 {r with lg:=some f} (Mo.leave {m with fE:=false} {c with out:=false} s) (RC.off {q with pg:=some e}) (Cm.leave {c with out:=false}) 1 0 ⟨#[]⟩ l (by simp only at aC n;show c.at_<1000000;omega)) ?_);rintro _ _ ⟨g,d,rfl⟩;exact av [] (pC 83 3 (ey [4,8] (Eu [0,1,2,3,6,4,5,7] (cU [] [goInt 1,goInt 0] _ ⟨rfl,_,⟨g,d,rfl⟩,rfl⟩))))
 ·refine bE ?_
  rcases(by omega:a=5∨a=6∨(a≠5∧a≠6))with h|h|h;obtain rfl:b=false:=by rw[←A];simp[xI,h]
  refine av [3,4,po a 5,3] (eR [2,3,5] (w7 {r with lg:=some f} {m with fE:=false} {q with pg:=some e} {c with out:=false} 7 0 ⟨#[]⟩ l (by simp only at aC n⊢;omega)) ?_)
  rotate_left
  obtain rfl:b=false:=by rw[←A];simp[xI,h]
  refine av [3,4,nqT a 5,4,po a 6,3] (eR [2,3,5] (w7 {r with lg:=some f} {m with fE:=false} {q with pg:=some e} {c with out:=false} 7 0 ⟨#[]⟩ l (by simp only at aC n⊢;omega)) ?_)
  rotate_left
  obtain rfl:b=true:=by rw[←A];simp[xI,h]
  refine av [3,4,nqT a 5,4,nqT a 6,3] (eR [2,3,5] (w7 {r with lg:=some f} {m with fE:=false} {q with pg:=some e} {c with out:=true} 7 0 ⟨#[]⟩ l (by simp only at aC n⊢;omega)) ?_)
  all_goals
   rintro _ _ ⟨g,d,rfl⟩;exact av [] (cU [4] [goInt 1,goInt 0] _ ⟨rfl,g,d,rfl⟩)
end
theorem aeq(a:ByteArray):∀(n i:Nat)(r:ae UInt8),a.size-i=n->(ByteArray.toList.loop a i r).length=n+r.length
 |0,i,r,h=>by
  unfold ByteArray.toList.loop;rw[if_neg ah];simp
 |n+1,i,r,h=>by
  unfold ByteArray.toList.loop;rw[if_pos ah,aeq a n (i+1) _ ah];simp only[jY];omega
theorem aet(a:ByteArray):a.toList.length=a.size:=by
 have:=aeq a a.size 0 [] ah;simpa[ByteArray.toList]using this
theorem abE(v:ByteArray):K4 v=!decide (v.size=0):=by
 have b:(⟨#[]⟩:ByteArray).toList=[]:=IF.1 (aet ⟨#[]⟩);unfold K4;rw[b];have:=aet v;cases hl:v.toList with
 |nil=>
  rw[hl]at this;simp only[tc]at this;rw[decide_eq_true this.symm];rfl
 |cons a l=>
  rw[hl]at this;simp only[jY]at this;rw[decide_eq_false ah];rfl
theorem ant{t b c:Nat}{i:Int}(p:i=j)(q:j<n)(h:oG P t a=U)(w:ax):(HO t (.slice (Z ⟨b,c,I⟩) n d) (ai i)).run P w=.ok (.value (.pointer (Z ⟨b,c+j*a,I⟩))) w:=by
 subst p;unfold oG at h;split at h
 ·rename_i e l
  split at h
  ·rename_i o g
   have h:=CI h;have m:=zy l w;have k:bP P (sizeOf e) w=.ok a w:=by rw[Lv g w,h]
   show((Instr.indexAt t (.slice (Z ⟨b,c,I⟩) n d) (ai j))>>=λv=>(qi (mR v):Sem Next)).run P w=_;unfold Instr.indexAt;simp only[fK,ai,asIntOf,pure,bP,m,fy];rw[if_pos (by constructor<;>omega)];simp only[fK,k,fy,bP,Int.toNat_natCast];unfold Addr.add;split
   ·rename_i f;rw[f];simp
   ·simp
  ·cases h
 ·cases h
abbrev ixo(t a b c n d:Nat)(i:Int)(j:Nat)(e:i=j/\j<n)(h:oG P t a=U:=by kernel_rfl):Aw P:=.s (HO t (.slice (Z ⟨b,c,I⟩) n d) (ai i)) (.value (.pointer (Z ⟨b,c+j*a,I⟩))) (ant e.1 e.2 h)
abbrev xr(t a b d c:Nat)(e:j<n)(h:oG P t a=U:=by kernel_rfl):Aw P:=ixo t a b d n c j j ⟨F,e⟩ h
abbrev Ir(b:Nat)(o:af ag)(t:aK)(f:Nat×Nat):En:=.ob b (.cells o t f)
def U7(o:af ag)(a:Nat)(b:ae Stp):Prop:=∀i p,b[i]?=Z p->∀j u,p.cells[j]?=Z u->o.toList[a+i*3+j]?=Z u
def aB2(K:Nat)(a:ae Stp)(v:ag):Prop:=v=.bool (vX K Y a&&decide ((a.length:Int)<=200))
theorem aEl(b:Option Addr)(a K:Nat):Fl Sv 26 [.slice b 0 a,goInt K].toArray [] λv L=>aB2 K [] v∧L=[]:=by
 exact Fl.of 93 λd c=>av [.g,gi 0 (0:Nat),.d] (ez [.bool (decide (((0:Nat):Int)≤200))] _ ⟨rfl,rfl⟩)
theorem aEm (b off:Nat) (oo:Array Value) (ty:TypeId) (fz:Nat×Nat) (cap K:Nat) (pr:List Stp) (hl:pr.length≤4398046511104) (gG:U7 oo off pr):Fl Sv 26 [.slice (some ⟨b,off,none⟩) pr.length cap,goInt K].toArray [Ir b oo ty fz] λv L=>aB2 K pr v∧L=[Ir b oo ty fz]:=by
 refine Fl.of 93 λJ H=>av [.g,.x] ?_;refine ji (ι:=Nat×Bool) (λi=>pr.length-i.1) (λi=>[(0,.slice (some ⟨b,off,none⟩) pr.length cap),(1,goInt K),(5,.bool i.2),(6,goInt i.1)]) (λ_=>[Ir b oo ty fz]) (λi=>i.1≤pr.length∧vX K false pr=vX K i.2 (pr.drop i.1)) (0,false) ⟨Nat.zero_le _,rfl⟩ ?_;rintro⟨i,o⟩ ⟨E,j⟩ A;simp only at E j A;by_cases aC:i<pr.length
 ·obtain⟨p,r⟩:∃p,pr[i]?=some p:=⟨_,List.getElem?_eq_getElem aC⟩
  have B:pr.drop i=p::pr.drop (i+1):=by
   rw[List.drop_eq_getElem_cons aC];congr 1;exact Option.some.inj ((List.getElem?_eq_getElem aC).symm.trans r)
  rw[B,vX]at j;have t:oo.toList[off+i*3]?=some (goInt p.kind):=gG i p r 0 _ rfl;have u:oo.toList[off+i*3+1]?=some (goInt p.key):=gG i p r 1 _ rfl;have w:oo.toList[off+i*3+2]?=some (.string p.val):=gG i p r 2 _ rfl;have d:qp K o p=false→aB2 K pr (.bool false)∧[Ir b oo ty fz]=[Ir b oo ty fz]:=λh=>⟨by unfold aB2;rw[j,h];rfl,rfl⟩;have m:qp K o p=true→∀b,xI p=b→_:=λh b D=>A (i+1,b) (by simp only;omega) ⟨aC,by rw[j,h,D];rfl⟩;obtain⟨e,c,a⟩:=p;simp only at t u w;refine di (λ_=>[fu i pr.length,xr 26 3 b off cap aC,rr 0 t,rr 0 u,rr 0 w,1,1,1,.x]) λz=>?_;have q:K4 a=!decide (a.size=0):=abE a;by_cases C:e=3∨e=2∨e=4
  ·rcases C with rfl|rfl|rfl
   refine av [1,.d,1,.d,.x] ?_
   rotate_left
   refine av [1,.d,.x] ?_
   rotate_left
   refine av [1,.d,1,.d,1,.d,.x] ?_
   rotate_left
   all_goals
    refine av [1,.d,1,.d,1,.d,.x] ?_;cases o
    ·exact av [.d] (cU [1] [.bool false] _ (d (by simp[qp])))
    refine av [.d,1,.x] ?_;by_cases f:c<0
    ·exact av [bT f] (cU [1] [.bool false] _ (d (by simp[qp,show¬0≤c by omega])))
    refine av [bF f,1,.x] ?_;by_cases x:c≥(K:Int)
    ·exact av [bT x] (cU [1] [.bool false] _ (d (by simp[qp,show¬c<(K:Int) by omega])))
    refine av [bF x,1,.x] ?_;by_cases k:(a.size:Int)>16
    ·exact av [bT k] (cU [1] [.bool false] _ (d (by simp[qp,show¬a.size≤16 by omega])))
    refine av [bF k,1,.d,1,.x] ?_;have y:0≤c∧c<(K:Int)∧a.size≤16:=by omega
   ·exact av [.d,1,.d,aS i,.g,.x] (ey [1] (cq (m (by simp[qp,y]) _ rfl)))
   all_goals
    by_cases n:a.size=0
    ·exact av [bB (q.trans (by simp[n]:_=false)),1,.d,1,.d,aS i,.g,.x] (ey [1] (cq (m (by simp[qp,y,n]) _ rfl)))
    ·exact av [bB (q.trans (by simp[n]:_=true))] (cU [1] [.bool false] _ (d (by simp[qp,n])))
  refine av [1,ie e 2,1,ie e 3,1,ie e 4,1,.x] ?_;by_cases s:e<1
  ·exact av [bT s] (cU [1] [.bool false] _ (d (by simp[qp,s])))
  refine av [bF s,1,.x] ?_;by_cases g:e>6
  ·exact av [bT g] (cU [1] [.bool false] _ (d (by simp[qp,g])))
  refine av [bF g,1,.x] ?_;rcases(by omega:e=5∨e=6∨e=1)with rfl|rfl|rfl
  iterate 2
   cases o
   ·exact av [.d,.d] (cU [1] [.bool false] _ (d (by simp[qp])))
   rotate_left
  cases o
  rotate_left
  ·exact av [.d,.d] (cU [1] [.bool false] _ (d (by simp[qp])))
  all_goals
   refine av [.d,.d,1,.x] ?_;by_cases f:c=0
   rotate_left
   ·exact av [nqT c 0 f] (cU [1] [.bool false] _ (d (by simp[qp,f])))
   refine av [po c 0 f,1,.x] ?_;by_cases k:(a.size:Int)>16
   ·exact av [bT k] (cU [1] [.bool false] _ (d (by simp[qp,show¬a.size≤16 by omega])))
   refine av [bF k,1,.d,1,.x] ?_;by_cases l:a.size=0
   rotate_left
   ·exact av [bB (q.trans (by simp[l]:_=true))] (cU [1] [.bool false] _ (d (by simp[qp,l])))
   refine av [bB (q.trans (by simp[l]:_=false)),1,.d,.x] ?_
  ·exact av [aS i,.g,.x] (ey [1] (cq (m (by simp[qp,f,l]) _ rfl)))
  all_goals exact av [1,.d,aS i,.g,.x] (ey [1] (cq (m (by simp[qp,f,l]) _ rfl)))
 ·have G:i=pr.length:=by omega
  subst G;rw[List.drop_length,vX]at j;exact av [gi pr.length pr.length,.d] (cU [] [.bool (decide ((pr.length:Int)≤200))] _ ⟨by unfold aB2;rw[j];rfl,rfl⟩)
theorem U7.flat{o:af ag}{b:ae Stp}(h:U7 o a b){u:ag}(g:(b.flatMap Stp.cells)[j]?=Z u):o.toList[a+j]?=Z u:=by
 have W:=(dq.1 g).1;rw[Bx Stp.len]at W;obtain⟨p,f⟩:∃p,b[j/3]?=Z p:=⟨_,eI ah⟩;have c:(b.flatMap Stp.cells)[j/3*3+j%3]?=p.cells[j%3]?:=by
  have d:j%3<3:=Nat.mod_lt _ aT;obtain⟨v,i⟩:∃v,p.cells[j%3]?=Z v:=⟨_,eI (by rw[Stp.len];exact d)⟩;rw[i,<-i];exact gW Stp.len b (j/3) (j%3) p d f
 have e:j/3*3+j%3=j:=by omega
 rw[e,g]at c;have k:=h (j/3) p f (j%3) u c.symm;rwa[show a+j/3*3+j%3=a+j by omega]at k
def RS.more(r:RS)(c:Nat)(g:aj Nat)(a:Nat):RS:={r with lg:=g,lc:=a,cl:=r.cl++[c]}
section
variable (r:RS)(m:Mo)
theorem aC5(a:Value)(X:m.fE=true):Fl Sv 13 [pt r.s,a].toArray [r.en m] λv L=>v=.tuple #[goInt 0,goInt 5]∧L=[r.en m]:=by
 obtain⟨m,rfl⟩:=aBw X;exact Fl.of 57 λc b=>av [0] (cU [] [goInt 0,goInt 5] _ ⟨rfl,rfl⟩)
variable (X:m.fE=Y)(W:r.cl.length<1000000)
include X W
def aC4(r:RS)(m:Mo)(b:ae Stp)(A:ae En)(v:ag)(L:ae En):Prop:=v=.tuple #[ai r.cl.length,ai 0]/\∃(q:RC)(g:aj Nat)(a:Nat),L=[(r.more q.c g a).en m,(r.more q.c g a).lE]++A++[q.en (Cm.new r.cl.length b),q.pE (Cm.new r.cl.length b),q.wE (Cm.new r.cl.length b)]
theorem aD4 (ad:Option Addr) (cap:Nat):Fl Sv 13 [pt r.s,.slice ad 0 cap].toArray [r.en m,r.lE] λv L=>if r.cl.length=8 then v=.tuple #[goInt 0,goInt 3]∧L=[r.en m,r.lE]else aC4 r m [] [] v L:=by
 obtain⟨m,rfl⟩:=aBw X;refine Fl.of 57 λf e=>av [0,0] (IU (aEl ad cap r.ch.length) ?_);rintro _ _ ⟨rfl,rfl⟩;have d:(vX r.ch.length false []&&decide (((([]:List Stp).length:Nat):Int)≤200))=true:=rfl;rw[d];by_cases c:r.cl.length=8
 ·refine av [0,kT r.cl.length 8] (cU [] [goInt 0,goInt 3] [r.en {m with fE:=false},r.lE] ?_)
  rw[if_pos c];exact⟨rfl,rfl⟩
 ·refine di (λ_=>[0,ie r.cl.length 8,0,2,a0 26 3 none 0 0 ad cap (Nat.le_refl _),2,0]) λz=>?_
  refine kr (app1 58 1 3 r.cl.length ah) ?_;rintro _ _ ⟨b,a,rfl,rfl⟩;refine av [0,2] (pC 71 3 (pC 83 3 ?_));refine cU [3] [goInt r.cl.length,goInt 0] [.ob r.s (.cells #[goInt m.clock,goInt m.dX,sv r.sg m.sites.length r.sc,sv (some r.cb) r.ch.length r.ch.length,sv (some r.mb) m.marks.length m.marks.length,sv (some b) (r.cl.length+1) a,sv r.eg m.events.length r.ec,goInt m.at_,goInt m.w,.bool false] 61),.row 73 1 (some b) (r.cl.length+1) a (r.cl.map pt++[pt z]),RC.en ⟨z,none,0,none,0⟩ (Cm.new r.cl.length []),RC.pE ⟨z,none,0,none,0⟩ (Cm.new r.cl.length []),RC.wE ⟨z,none,0,none,0⟩ (Cm.new r.cl.length [])] ?_;rw[if_neg c];refine⟨rfl,⟨z,none,0,none,0⟩,some b,a,?_⟩;simp[RS.more,RS.en,RS.lE]
theorem aD5 (b off:Nat) (oo:Array Value) (ty:TypeId) (fz:Nat×Nat) (cap:Nat) (pr:List Stp) (hp:0<pr.length) (kC:pr.length≤4398046511104) (gG:U7 oo off pr):Fl Sv 13 [pt r.s,.slice (some ⟨b,off,none⟩) pr.length cap].toArray [r.en m,r.lE,Ir b oo ty fz] λv L=>
  if(vX r.ch.length false pr&&decide ((pr.length:Int)≤200))=false then v=.tuple #[goInt 0,goInt 2]∧L=[r.en m,r.lE,Ir b oo ty fz]
  else if r.cl.length=8 then v=.tuple #[goInt 0,goInt 3]∧L=[r.en m,r.lE,Ir b oo ty fz]else aC4 r m pr [Ir b oo ty fz] v L:=by
 obtain⟨m,rfl⟩:=aBw X;refine Fl.of 57 λl k=>av [0,0] (eR [2] (aEm b off oo ty fz cap r.ch.length pr kC gG) ?_);rintro _ _ ⟨rfl,rfl⟩;cases hr:(vX r.ch.length false pr&&decide ((pr.length:Int)≤200))with
 |false=>
  refine av [] (cU [] [goInt 0,goInt 2] [r.en {m with fE:=false},r.lE,Ir b oo ty fz] ?_);rw[if_pos rfl];exact⟨rfl,rfl⟩
 |true=>
  have i:pr.length≤200:=by
   simp only[Bool.and_eq_true,decide_eq_true_eq]at hr;omega
  by_cases f:r.cl.length=8
  ·refine av [0,kT r.cl.length 8] (cU [] [goInt 0,goInt 3] [r.en {m with fE:=false},r.lE,Ir b oo ty fz] ?_)
   rw[if_neg ba,if_pos f];exact⟨rfl,rfl⟩
  ·refine di (λ_=>[0,ie r.cl.length 8,0,3]) λz=>pC 71 3 ?_
   refine kr (MI 26 3 4 2 b off pr.length cap 0 oo.toList (pr.flatMap Stp.cells) hp ah (Bx Stp.len _) (JF Stp.one _) (λj u h=>gG.flat h)) ?_;rintro _ _ ⟨d,c,rfl,rfl⟩;have g:(0:Nat)+pr.length=pr.length:=Nat.zero_add _;rw[g];refine di (λ_=>[3,0]) λn=>kr (app1 58 1 5 r.cl.length ah) ?_;rintro _ _ ⟨e,a,rfl,rfl⟩;refine av [0,3] (pC 83 3 ?_);refine cU [5] [goInt r.cl.length,goInt 0] [.ob r.s (.cells #[goInt m.clock,goInt m.dX,sv r.sg m.sites.length r.sc,sv (some r.cb) r.ch.length r.ch.length,sv (some r.mb) m.marks.length m.marks.length,sv (some e) (r.cl.length+1) a,sv r.eg m.events.length r.ec,goInt m.at_,goInt m.w,.bool false] 61),.row 73 1 (some e) (r.cl.length+1) a (r.cl.map pt++[pt z]),Ir b oo ty fz,RC.en ⟨z,some d,c,none,0⟩ (Cm.new r.cl.length pr),RC.pE ⟨z,some d,c,none,0⟩ (Cm.new r.cl.length pr),RC.wE ⟨z,some d,c,none,0⟩ (Cm.new r.cl.length pr)] ?_;rw[if_neg ba,if_neg f];refine⟨rfl,⟨z,some d,c,none,0⟩,some e,a,?_⟩;simp[RS.more,RS.en,RS.lE]
end
theorem aEf(a b d:Int)(h:a<1∨a>8∨b<1∨b>20∨d<0∨d>1000000):Fl Sv 9 [goInt a,goInt b,goInt d].toArray [] λv L=>v=.tuple #[.pointer none,goInt 1]∧L=[]:=by
 refine Fl.of 60 λl k=>?_;by_cases c:a<1
 ·exact av [bT c] (ez [.pointer none,goInt 1] _ ⟨rfl,rfl⟩)
 by_cases e:a>8
 ·exact av [bF c,bT e] (ez [.pointer none,goInt 1] _ ⟨rfl,rfl⟩)
 by_cases f:b<1
 ·exact av [bF c,bF e,bT f] (ez [.pointer none,goInt 1] _ ⟨rfl,rfl⟩)
 by_cases g:b>20
 ·exact av [bF c,bF e,bF f,bT g] (ez [.pointer none,goInt 1] _ ⟨rfl,rfl⟩)
 by_cases i:d<0
 ·exact av [bF c,bF e,bF f,bF g,bT i] (ez [.pointer none,goInt 1] _ ⟨rfl,rfl⟩)
 have j:d>1000000:=by omega
 exact av [bF c,bF e,bF f,bF g,bF i,bT j] (ez [.pointer none,goInt 1] _ ⟨rfl,rfl⟩)
def rnE(s:Nat)(a:Int)(sg:aj Nat)(n b:Nat)(c k:ag):En:=.ob s (.cells #[ai 0,ai a,sv sg n b,c,k,sv I 0 0,sv I 0 0,ai 0,ai 0,.bool Y] 61)
def rs0(s:Nat)(sg:aj Nat)(d b c a:Nat):RS:=⟨s,sg,d,b,c,I,0,[],I,0,kq a ⟨I,0,0,#[]⟩⟩
def aEe(b a:Nat)(f:Int)(v:ag)(L:ae En):Prop:=∃s sg e c d,v=.tuple #[pt s,ai 0]/\L=[(rs0 s sg e c d a).en (Mo.init b a f),(rs0 s sg e c d a).sE (Mo.init b a f),(rs0 s sg e c d a).cE,(rs0 s sg e c d a).mE (Mo.init b a f),(rs0 s sg e c d a).lE,(rs0 s sg e c d a).eE (Mo.init b a f)]
theorem aEg (sites keys:Nat) (dX:Int) (h:1≤sites∧sites≤8∧1≤keys∧keys≤20∧0≤dX∧dX≤1000000):Fl Sv 9 [goInt sites,goInt keys,goInt dX].toArray [] (aEe sites keys dX):=by
 refine Fl.of 60 λo n=>di (λ_=>[gi sites 1,ER sites 8,gi keys 1,ER keys 20,gi dX 0,ER dX 1000000,.g,.x]) λs=>pC 3 1 ?_;refine ji (ι:=Nat×Option Nat×Nat) (λi=>sites-i.1) (λi=>[(0,goInt sites),(1,goInt keys),(8,pt s),(9,goInt i.1)]) (λi=>[rnE s dX i.2.1 i.1 i.2.2 (sv none 0 0) (sv none 0 0),.row 3 1 i.2.1 i.1 i.2.2 (List.replicate i.1 (goInt (-1)))]) (λi=>i.1≤sites) (0,none,0) (Nat.zero_le _) ?_;rintro⟨i,sg,f⟩ l g;simp only at l g;by_cases aC:i<sites
 ·have a:∀c b,Rs Sv _ _ _ _ _:=λc b=>g (i+1,c,b) (by simp only;omega) aC
  simp only[List.replicate_succ']at a;refine di (λ_=>[fu i sites,0]) λz=>kr (app1 55 1 2 i ah) ?_;rintro _ _ ⟨c,b,rfl,rfl⟩;refine av [0,aS i,.g,.x] (ey [2] ?_);exact cq (a (some c) b)
 ·have m:i=sites:=by omega
  subst m;refine av [gi i i,.x] (Et 7 [] (kr (DU 56 86 1 keys [.slice none 0 0] ah aT) ?_));rintro _ _ ⟨d,rfl,rfl⟩;refine av [0,.x] (Et 5 [] (kr (DU 57 102 3 keys [.bool false,goInt 0,goInt 0] ah aT) ?_));rintro _ _ ⟨e,rfl,rfl⟩;refine av [0] (pC 73 1 (pC 93 5 ?_));refine cU [] [pt s,goInt 0] [rnE s dX sg i f (sv (some d) keys keys) (sv (some e) keys keys),.row 3 1 sg i f (List.replicate i (goInt (-1))),.row 86 1 (some d) keys keys (List.replicate keys [.slice none 0 0]).flatten,.row 102 3 (some e) keys keys (List.replicate keys [.bool false,goInt 0,goInt 0]).flatten,.row 73 1 none 0 0 [],.row 93 5 none 0 0 []] ⟨s,sg,f,d,e,rfl,?_⟩;have j:(List.replicate keys [(.slice none 0 0:Value)]).flatten=List.replicate keys (.slice none 0 0):=by
   simp[List.flatten_replicate_singleton]
  have k:(List.replicate keys [(.bool false:Value),goInt 0,goInt 0]).flatten=(List.replicate keys fV.no).flatMap fV.cells:=by
   simp[List.flatMap_replicate,fV.cells,fV.no]
  rw[j,k];simp[rs0,rnE,RS.en,RS.sE,RS.cE,RS.mE,RS.lE,RS.eE,Mo.init,a7.v]
theorem atL(p q:iP)(a:Int)(n:Nat)(c:0<n)(w:ax):(Ab .rem 3 p q (ai a) (ai n)).run Sv w=.ok (.value (ai (a.tmod n))) w:=by
 refine Jm (by rfl) ?_;have:¬(n:Int)=0:=by omega
 have b:n≠0:=by omega
 simp[binOp,Op.intDiv,ai,this,b,pure,bP]
abbrev acG(p q:iP)(a:Int)(n:Nat)(b:0<n):Aw Sv:=.s (Ab .rem 3 p q (ai a) (ai n)) (.value (ai (a.tmod n))) (atL p q a n b)
def vh(c:Int)(n:Nat):Nat:=(if c<0 then-(c+1)else c).toNat%n
theorem aes(a:Int)(n:Nat)(h:0<=a):a.tmod n=((a.toNat%n:Nat):Int):=by
 obtain⟨k,rfl⟩:=Int.eq_ofNat_of_zero_le h;rw[Int.tmod_eq_emod_of_nonneg h];simp
theorem Lf(c:Int)(n:Nat)(h:0<n):vh c n<n:=Nat.mod_lt _ h
theorem UG(c:Int)(n:Nat)(a:0<n)(f:-9223372036854775808≤c∧c<9223372036854775808):Fl Sv 10 [goInt c,goInt n].toArray [] λv L=>v=goInt (vh c n)∧L=[]:=by
 by_cases h:c<0
 ·have e:IntKind.i64.wrap (0-(c+1))=-(c+1):=wrap64 ah
  refine Fl.of 13 λd b=>av [bT h,aI (c+1) (c+1) ah,acG (tm 10) (tm 11) (IntKind.i64.wrap (0-(c+1))) n a] ?_;refine ez [goInt ((IntKind.i64.wrap (0-(c+1))).tmod n)] _ ⟨?_,rfl⟩;rw[e,aes _ _ ah];simp[vh,h,qV]
 ·refine Fl.of 13 λd b=>av [bF h,acG (tm 10) (tm 11) c n a] ?_
  refine ez [goInt (c.tmod n)] _ ⟨?_,rfl⟩;rw[aes _ _ ah];simp[vh,h,qV]
theorem ajC(b:Option Addr)(a:Nat):Fl Sv 12 [.slice b 0 a].toArray [] λv L=>v=sv none 0 0∧L=[bK none 0 []]:=by
 exact Fl.of 31 λd c=>av [.g,gi 0 (0:Nat)] (pC 69 3 (ez [sv none 0 0] _ ⟨rfl,rfl⟩))
theorem ajD (b off:Nat) (oo:Array Value) (ty:TypeId) (fz:Nat×Nat) (cap:Nat) (pr:List Stp) (kC:pr.length≤4398046511104) (gG:U7 oo off pr):Fl Sv 12 [.slice (some ⟨b,off,none⟩) pr.length cap].toArray [Ir b oo ty fz] λv L=>∃g c,v=sv g pr.length c∧L=[Ir b oo ty fz,bK g c pr]:=by
 refine Fl.of 31 λr q=>av [.g,.x] (pC 69 3 ?_);refine ji (ι:=Nat×Option Nat×Nat) (λi=>pr.length-i.1) (λi=>[(0,.slice (some ⟨b,off,none⟩) pr.length cap),(3,sv i.2.1 i.1 i.2.2),(4,goInt i.1)]) (λi=>[Ir b oo ty fz,.row 69 3 i.2.1 i.1 i.2.2 ((pr.take i.1).flatMap Stp.cells)]) (λi=>i.1≤pr.length) (0,none,0) (Nat.zero_le _) ?_;rintro⟨i,g,c⟩ m h;simp only at m h;by_cases aC:i<pr.length
 ·obtain⟨p,f⟩:∃p,pr[i]?=some p:=⟨_,List.getElem?_eq_getElem aC⟩
  have j:oo.toList[off+i*3]?=some (goInt p.kind):=gG i p f 0 _ rfl;have k:oo.toList[off+i*3+1]?=some (goInt p.key):=gG i p f 1 _ rfl;have l:oo.toList[off+i*3+2]?=some (.string p.val):=gG i p f 2 _ rfl;have a:∀e d,Rs Sv _ _ _ _ _:=λe d=>h (i+1,e,d) (by simp only;omega) aC;have n:(pr.take (i+1)).flatMap Stp.cells=(pr.take i).flatMap Stp.cells++p.cells:=by
   rw[List.take_add_one,f];simp
  simp only[n]at a;refine av [fu i pr.length] ?_;refine jO 19 [xr 26 3 b off cap aC,rr 0 j,xr 26 3 b off cap aC,rr 0 k,xr 26 3 b off cap aC,rr 0 l] [17,18] [19] (tD (λ_=>[]) λz=>Gy (Jf 32 45 1 2 i ah) ?_);rintro _ _ ⟨e,d,rfl,rfl⟩;refine ib (Fl.run [] (av [aS i,.g,.x] (ey [2] ?_)));exact cq (a (some e) d)
 ·have o:i=pr.length:=by omega
  subst o;refine av [gi pr.length pr.length] ?_;rw[List.take_length];exact ez [sv g pr.length c] _ ⟨g,c,rfl,rfl⟩
section
open Go.Conc (G)
def Ck(P:aD)(a:aA)(L:ae En)(R:ag->ae En->Prop):Prop:=∀L2(w),Kn (L++L2) w.heap->∀d cs,∃v O b,Steps P (lone a (d::cs) w) (lone (d.finish v) cs O)/\O.os=w.os/\O.output=w.output/\R v b/\Kn (b++L2) O.heap
theorem Fl.ck{P}{f}{a}{L}{R}(h:Fl P f a L R):Ck P (bO P f a .normal) L R:=λL2 w d r cs=>by
 obtain⟨e,O,q,⟨v,rfl,m,n,b,q3,p⟩,g,_,j⟩:=h _ _ d w F _;exact⟨v,O,b,g.trans (.one (step_leave_returned j)),m,n,q3,p⟩
section
variable {P:aD}{fn:cH}{W:af ag}{S:af bq}{i:Nat}{rest:ae Nat}{k:ae aJ}{K:ae cz}{kind:dQ}{cs:ae aA}{o:bq}{s:Sem Next}{w O:ax}{l:Nat}
theorem acM(a:S[i]?=Z o)(g:wO o (yielded S W)=U)(b:(match o.op with|.defer _=>Y|_=>U)=U)(f:cN (bR ⟨fn,W,[],K,.run,kind,I⟩) o=s):aE P U (G ⟨fn,W,.inRegion S (i::rest)::k,K,.run,kind,Z l⟩ cs) w=iA P U ⟨fn,W,.inRegion S (i::rest)::k,K,.run,kind,Z l⟩ cs I s w:=by
 have e:bR ⟨fn,W,.inRegion S (i::rest)::k,K,.run,kind,Z l⟩=bR ⟨fn,W,[],K,.run,kind,I⟩:=funext λx=>by cases x<;>rfl
 simp only[G,aE,cf,a,jE,g,rV,if_true];unfold stepG.oper;simp only[Frame.oper?,a];rw[<-f,e];cases d:o.op<;>first|(rw[d]at b;exact absurd b ba)|simp only
theorem U1{fr}{v}{n}(b:n=.value v\/(n=.skip/\v=aB))(e:fr.kind≠.early)(d:s.run P w=.ok n O):∃es,iA P U fr cs I s w=dZ (fr.finish v) cs O es:=by
 have a:s.runT P w #[]=(.ok n O,s.events P w #[]):=by rw[jN,d]
 unfold iA;simp only[a];rcases b with rfl|⟨rfl,rfl⟩<;>exact⟨_,by rfl⟩
theorem at7{fr}{f}{a}(e:∃S i r k,fr.todo=.inRegion S (i::r)::k\/∃l,fr.todo=.inRangeFunc l::k)(g:fr.kind≠.early)(d:s.run P w=.ok (.enter f a) O):∃es,iA P U fr cs I s w=dZ (bO P f a .normal) (fr::cs) O es:=by
 have b:s.runT P w #[]=(.ok (.enter f a) O,s.events P w #[]):=by rw[jN,d]
 unfold iA;simp only[b];obtain⟨S,i,r,k,h|⟨l,h⟩⟩:=e<;>exact⟨_,by simp[h];rfl⟩
theorem acN{fr}{l}{f}{tm}{a b}(g:fr.kind≠.early)(e:s.run P w=.ok (.round l f tm a b) O):∃es,iA P U fr cs I s w=dZ (Frame.round l f tm a b .normal) (fr::cs) O es:=by
 have d:s.runT P w #[]=(.ok (.round l f tm a b) O,s.events P w #[]):=by rw[jN,e]
 unfold iA;simp only[d];exact⟨_,by rfl⟩
end
def HX:ae aJ->Bool
 |.inRegion S (i::_)::_=>match S[i]? with
  |some o=>match o.op with
   |.defer _=>Y
   |_=>U
  |none=>U
 |_=>U
section
variable {P:aD}
def HS(N:Nat)(c:Cf P):aj (Cf P):=match HX c.todo with
 |true=>match mS N c with
  |some M=>match M.ds with
   |[]=>Z M
   |_=>I
  |none=>I
 |false=>I
def y9(N:Nat):Nat->Cf P->Cf P
 |0,c=>c
 |n+1,c=>match aCj c.an with
  |true=>⟨c.todo,c.ds,c.env,c.L,c.z,[],c.ps⟩
  |false=>match HS N c with
   |none=>c
   |some M=>y9 N n M
abbrev Iq(fn:cH)(kind:dQ)(l:Nat)(c:Cf P)(W:af ag):aA:=⟨fn,W,c.todo,c.ds,.run,kind,Z l⟩
section
variable {N:Nat}{L2:ae En}{c M:Cf P}{W:af ag}{w:ax}{fn:cH}{kind:dQ}{cs:ae aA}{l:Nat}
def WQ(P)(N:Nat)(L2:ae En)(fn:cH)(kind:dQ)(l:Nat)(cs:ae aA)(b:aA)(w:ax)(M:Cf P):Prop:=∃a O,step P (lone b cs w)=.next (lone (Iq fn kind l M a) cs O)/\O.os=w.os/\O.output=w.output/\At N L2 M a O
theorem apL(bj:kind≠.early)(h0:c.ds=[])(h:HS N c=Z M)(hg:M.sF)(f:At N L2 c W w):WQ P N L2 fn kind l cs (Iq fn kind l c W) w M/\M.ds=[]:=by
 obtain⟨V,K,T,L,z,an,ps⟩:=c;cases h0;unfold HS at h;split at h
 ·rename_i J
  split at h
  ·rename_i c1 a
   split at h
   ·rename_i Q
    cases h;refine⟨?_,Q⟩;unfold mS at a;dsimp only at a;split at a
    ·rename_i S i rest k
     split at a
     ·cases a
     ·rename_i o j
      unfold HX at J;simp only[j]at J;split at a
      ·cases a
      ·rename_i E
       have iV:=zz f.env E;unfold fin at a;split at a
       ·rename_i jy H
        cases a;have p:step P (lone ⟨fn,W,.inRegion S (i::rest)::k,[],.run,kind,Z l⟩ cs w)=.next (lone (jw ⟨fn,W,.inRegion S (i::rest)::k,[],.run,kind,Z l⟩ aB) cs w):=by
         refine fe (es:=#[]) ?_;simp[G,aE,cf,j,iV]
        have A:jw ⟨fn,W,.inRegion S (i::rest)::k,[],.run,kind,Z l⟩ aB=⟨fn,AY W o.dst aB,.inRegion S rest::k,[],.run,kind,Z l⟩:=by
         simp only[jw,j,wN];cases o.dst<;>rfl
        rw[A]at p;exact⟨_,w,p,F,F,oL f.env H,f.kn,f.z⟩
       ·cases a
      ·rename_i E
       split at a
       ·cases a
       ·rename_i R
        have r:=R;unfold rI at r;rw[gT]at r;have ln:∀cs b,o.op≠.select cs b:=λcs b e=>by
         rw[e]at r;exact absurd r.1 (by simp[HY])
        have B:=execOp_congr o ln (Ll (fr:=⟨fn,W,[],[],.run,kind,I⟩) f.env R);obtain⟨n,O,zY,q1,g,q3,q4,q5,q6,q7,q8,q9⟩:=UA a hg f.kn f.z;have hh:=acM (P:=P) (cs:=cs) (w:=w) (rest:=rest) (k:=k) (l:=l) j (zz f.env E) J B;have A:∀v,jw ⟨fn,W,.inRegion S (i::rest)::k,[],.run,kind,Z l⟩ v=⟨fn,AY W o.dst v,.inRegion S rest::k,[],.run,kind,Z l⟩:=λv=>by
         simp only[jw,j,wN];cases o.dst<;>rfl
        have go:∀v,(n=.value v\/(n=.skip/\v=aB))->fin N zY o.dst v (.inRegion S rest::k)=Z M->WQ P N L2 fn kind l cs ⟨fn,W,.inRegion S (i::rest)::k,[],.run,kind,Z l⟩ w M:=λv hn u=>by
         obtain⟨es,he⟩:=U1 (fr:=⟨fn,W,.inRegion S (i::rest)::k,[],.run,kind,Z l⟩) hn bj q1;unfold fin at u;split at u
         ·rename_i Jy H
          cases u;have p:=fe (hh.trans he);rw[A]at p;have tW:=Q;refine⟨_,O,?_,q3,q4,oL (by rw[q5];exact f.env) H,q7,q8⟩;rw[p,tW]
         ·cases u
        unfold xL at g;split at g
        ·simp_all
        ·simp_all
        ·rename_i d
         unfold fin at g;split at g
         ·grind
         ·cases g
        ·cases g
    ·rename_i q x y k
     split at a
     ·rename_i D
      cases a;have C:=G7 (fr:=⟨fn,W,.code (.cond q x y)::k,[],.run,kind,Z l⟩) f.env D;refine⟨W,w,fe (es:=#[]) ?_,F,F,f.env,f.kn,f.z⟩;simp[G,aE,cf,C]
     ·rename_i D
      cases a;have C:=G7 (fr:=⟨fn,W,.code (.cond q x y)::k,[],.run,kind,Z l⟩) f.env D;refine⟨W,w,fe (es:=#[]) ?_,F,F,f.env,f.kn,f.z⟩;simp[G,aE,cf,C]
     ·cases a
    ·rename_i b k
     split at a
     ·cases a
      refine⟨W,w,fe (es:=#[]) ?_,F,F,f.env,f.kn,f.z⟩;simp[G,aE,cf]
     ·cases a
    ·rename_i b k
     split at a
     ·cases a
      refine⟨W,w,fe (es:=#[]) ?_,F,F,f.env,f.kn,f.z⟩;simp[G,aE,cf]
     ·cases a
    ·split at a
     ·rename_i t m
      cases a;refine⟨W,w,fe (es:=#[]) ?_,F,F,f.env,f.kn,f.z⟩;unfold ctl at m;split at m<;>first
       |(cases m;done)
       |(cases m;simp[G,aE,cf])
       |(simp[G,aE,cf,m])
     ·cases a
   ·cases h
  ·cases h
 ·cases h
theorem apM(h:HS N c=Z M):∀p∈c.ps,p∈M.ps:=by
 unfold HS at h
 repeat'(split at h)
 all_goals first|(cases h;done)|(cases h;exact aaW ‹_›)
theorem apJ:∀(n)(c:Cf P),∀p∈c.ps,p∈(y9 N n c).ps:=by
 intro n;induction n with
 |zero=>intro c p a;exact a
 |succ n b=>
  intro c p a;unfold y9;split
  ·exact a
  ·split
   ·exact a
   ·exact b _ p (apM ‹_› p a)
theorem aaV(g:kind≠.early):∀(n)(c:Cf P)(W)(w),c.ds=[]->(y9 N n c).sF->At N L2 c W w->(y9 N n c).ds=[]/\∃f O,Steps P (lone (Iq fn kind l c W) cs w) (lone (Iq fn kind l (y9 N n c) f) cs O)/\O.os=w.os/\O.output=w.output/\At N L2 (y9 N n c) f O:=by
 intro n;induction n with
 |zero=>intro c W w b d a;exact⟨b,W,w,.refl .. ,F,F,a⟩
 |succ n y=>
  intro c W w b d a;cases hx:aCj c.an with
  |true=>
   simp only[y9,hx];exact⟨b,W,w,.refl .. ,F,F,a.env,a.kn,a.z⟩
  |false=>
   cases hs:HS N c with
   |none=>
    simp only[y9,hx,hs];exact⟨b,W,w,.refl .. ,F,F,a⟩
   |some M=>
    simp only[y9,hx,hs]at d⊢;obtain⟨⟨B,C,j,m,q,r⟩,e⟩:=apL g b hs (λp x=>d p (apJ n _ p x)) a;obtain⟨h,z,A,e,t,u,v⟩:=y _ _ _ e d r;exact⟨h,z,A,.head j e,t.trans m,u.trans q,v⟩
end
end
structure Xr where
 l:Nat
 fn:cH
 N:Nat
 fr:aA
 cs:ae aA
 L2:ae En
 eZ:ag->Hp->Prop
abbrev rx(l:Nat)(fn N:Nat)(b:aA)(cs:ae aA)(L2:ae En)(R:ag->ae En->Prop):Xr:=⟨l,fn,N,b,cs,L2,λv H=>∃a,R v a/\Kn (a++L2) H⟩
def Rr(P:aD)(X:Xr)(V:ae aJ)(T:Env)(L:ae En):Prop:=∀W(w),gK X.N T W->Kn (L++X.L2) w.heap->∃v O,Steps P (lone ⟨X.fn,W,V,[],.run,.normal,Z X.l⟩ (X.fr::X.cs) w) (lone (X.fr.finish v) X.cs O)/\O.os=w.os/\O.output=w.output/\X.eZ v O.heap
abbrev AM(P)(X:Xr)(V:ae aJ)(T:Env)(L:ae En)(a:ae (Aw P))(z:Md:=.w):Cf P:=y9 X.N 3000 ⟨V,[],T,L,z,a,[]⟩
section
variable {P:aD}{X:Xr}{V:ae aJ}{T:Env}{L:ae En}
theorem Rr.steps{j g}{w f}{R:ag->Hp->Prop}{e}{cs}(h:Steps P (lone j (e::cs) w) (lone g (e::cs) f))(m:f.os=w.os)(n:f.output=w.output)
  (p:∃v O,Steps P (lone g (e::cs) f) (lone (e.finish v) cs O)/\O.os=f.os/\O.output=f.output/\R v O.heap):
  ∃v O,Steps P (lone j (e::cs) w) (lone (e.finish v) cs O)/\O.os=w.os/\O.output=w.output/\R v O.heap:=by
 obtain⟨v,O,a,b,c,d⟩:=p;exact⟨v,O,h.trans a,b.trans m,c.trans n,d⟩
theorem Rr.au(a)(m:Rr P X (AM P X V T L a).todo (AM P X V T L a).env (AM P X V T L a).L)(j:(AM P X V T L a).pr=(AM P X V T L a).rf:=by kernel_rfl):Rr P X V T L:=λW w n h=>by
 obtain⟨d,q,r,e,f,g,b⟩:=aaV (kind:=.normal) ba _ _ _ w F (EP j) ⟨n,h,λx p=>by cases p⟩;refine Rr.steps e f g ?_;have:=m _ _ b.env b.kn;unfold Iq;rw[d];exact this
theorem Rr.new(a:Nat->ae (Aw P))(m:∀z,Rr P X (AM P X V T L (a z) (.n z)).todo (AM P X V T L (a z) (.n z)).env (AM P X V T L (a z) (.n z)).L)(j:∀z,(AM P X V T L (a z) (.n z)).pr=(AM P X V T L (a z) (.n z)).rf:=by intro z;kernel_rfl):Rr P X V T L:=λW w n h=>by
 obtain⟨d,q,r,e,f,g,b⟩:=aaV (kind:=.normal) ba _ _ _ w F (EP (j _)) ⟨n,h,λx p=>by cases p;rfl⟩;refine Rr.steps e f g ?_;have:=m _ _ _ b.env b.kn;unfold Iq;rw[d];exact this
theorem Rr.perm{L'}(h:L.Perm L')(b:Rr P X V T L'):Rr P X V T L:=λW w d a=>b _ w d (a.perm (h.append_right _))
theorem Rr.cJ(a)(h:Rr P X V T a)(b:L=a:=by kernel_rfl):Rr P X V T L:=by subst b;exact h
theorem abJ{l fn N:Nat}{W}(m:gK N T W){s}(h:mM V T=Z s)(d:HX V=U)(cs)(w):
  aE P U (G ⟨fn,W,V,[],.run,.normal,Z l⟩ cs) w=iA P U ⟨fn,W,V,[],.run,.normal,Z l⟩ cs I s w/\(∃S i r k,V=.inRegion S (i::r)::k)/\
  ∀v,jw ⟨fn,W,V,[],.run,.normal,Z l⟩ v=⟨fn,AY W (kF V) v,sW V,[],.run,.normal,Z l⟩:=by
 unfold mM at h
 repeat'(split at h)
 all_goals first|(cases h;done)|skip
 rename_i S i rest p _ o g _ n _ j;cases h;have a:=j;unfold rI at a;rw[gT]at a;have f:=execOp_congr o (λcs b e=>by
  rw[e]at a;exact absurd a.1 (by simp[HY])) (Ll (fr:=⟨fn,W,[],[],.run,.normal,I⟩) m j)
 unfold HX at d;simp only[g]at d;refine⟨acM g (zz m n) d f,⟨_,_,_,_,rfl⟩,λv=>?_⟩;simp only[jw,kF,g,wN];cases o.dst<;>rfl
theorem Rr.op{s}{Q}(t:lU P X.L2 L s Q)(h:∀v b,Q v b->Rr P X (sW V) (pe T (kF V) v) b)(a:(mM V T,HX V,fits X.N (kF V))=(Z s,U,U):=by kernel_rfl):Rr P X V T L:=λW w d n=>by
 simp only[fN]at a;obtain⟨a,x,p⟩:=a;obtain⟨r,_,u⟩:=abJ d a x _ w;obtain⟨v,O,b,e,f,g,j,m⟩:=t w n;obtain⟨es,q⟩:=U1 (fr:=⟨X.fn,W,V,[],.run,.normal,Z X.l⟩) (.inl F) ba e;refine Rr.steps (.one (fe (r.trans q))) f g ?_;rw[u];exact h v _ j _ _ (oL d (Ag p v)) m
theorem Rr.yield(m p)(i){l}{f}{tm}{a b}{R}(E:Ck P (Frame.round l f tm a b .normal) m R)(H:L.Perm (m++p))(h:∀v e,R v e->Rr P X (sW V) (pe T (kF V) v) (e++p))(d:((mM V T).bind (λs=>(sE P s .r L [.k i] []).map λq=>(q.1,q.2.2.2.1.isEmpty,q.2.2.2.2)),HX V,fits X.N (kF V))=(Z (.round l f tm a b,U,((mM V T).bind (λs=>(sE P s .r L [.k i] []).map λq=>q.2.2.2.2.map Pr.rf)).getD []),U,U):=by kernel_rfl):Rr P X V T L:=λW w y j=>by
 simp only[fN]at d;obtain⟨d,kX,C⟩:=d;obtain⟨s,r,B⟩:=nj.1 d;obtain⟨⟨n,z,L',an,ps⟩,g,t⟩:=fX.1 B;simp only[r,wN,g,fN]at t;obtain⟨rfl,_,u⟩:=t;obtain⟨G,_,Q⟩:=abJ y r kX _ w;obtain⟨w1,A,_⟩:=AS s _ z L _ _ _ _ _ _ _ w g (zh u) j (λx J=>by cases J);obtain⟨rfl,_⟩:=F7 s L _ _ _ w _ g A j.left (zh u);obtain⟨es,D⟩:=acN (fr:=⟨X.fn,W,V,[],.run,.normal,Z X.l⟩) ba A;obtain⟨v,O,e,q1,q2,q3,q4,q5⟩:=E _ _ (j.perm (by rw[<-iL];exact H.append_right _)) ..;refine Rr.steps ((Steps.one (fe (G.trans D))).trans q1) q2 q3 ?_;rw[Q];exact h v _ q4 _ _ (oL y (Ag C v)) (by grind)
end
end
section
open Go.Conc (G)
theorem Oj{L c}{i b}{o o'}{w:ax}(d:Kn (L++c) w.heap)(f:L[i]?=Z (.ob b o)):Kn (L.set i (.ob b o')++c) (w.putObj b o').heap:=by
 have g:=d.at f;exact yf d f (by show(w.heap.setIfInBounds b o')[b]?=Z o';rw[kJ (aC g)]) (λx a=>.inl a) (by simp[]) λx _ a=>by
  show(w.heap.setIfInBounds b o')[x]?=_;rw[iK (λe=>a e.symm)]
section
variable {P:aD}{X:Xr}{W:ae aJ}{V:Env}{L:ae En}
def aap:ae aJ->Bool
 |.beginRound::_=>U
 |_=>Y
theorem Rr.begin(i)(r)(h:Rr P X (tQ W) V (L.set i (.ob X.l (.loop {r with state:=.busy}))))(l:r.state=.ready)(a:(L[i]?,aap W)=(iQ (.ob X.l (.loop r)),U):=by kernel_rfl):Rr P X W V L:=λb w j d=>by
 simp only[fN]at a;obtain⟨a,c⟩:=a;obtain⟨k,rfl⟩:∃k,W=.beginRound::k:=by
  unfold aap at c;split at c
  ·exact⟨_,F⟩
  ·cases c
 have g:=d.at a;have f:(do(Z X.l).elim (stuck "beginRound: no round") Instr.beginRound;pure Next.skip).run P w=.ok .skip (w.putObj X.l (.loop {r with state:=.busy})):=by
  rw[fK];show((Instr.beginRound X.l).run P w).andThen _=_;rw[run_beginRound g l];rfl
 obtain⟨es,m⟩:=U1 (fr:=⟨X.fn,b,.beginRound::k,[],.run,.normal,Z X.l⟩) (.inr ⟨F,F⟩) ba f;have e:=m;exact Rr.steps (.one (fe e)) F F (h _ _ j (Oj d a))
def aaq:ae aJ->aj (aj bH)
 |[]=>Z I
 |.code .ret::_=>Z (Z .ret)
 |.code (.exit id)::k=>match exitTo id k with
  |none=>Z (Z (.exit id))
  |some _=>I
 |_=>I
theorem Rr.fin{l e N}{m}{k}{j}{R}(i)(r)(a)(h:R (.bool a.isNone) (L.set i (.ob l (.loop {r with state:=if a.isNone then .ready else .done,pending:=a}))))(c:(L[i]?,aaq W)=(iQ (.ob l (.loop r)),iQ a):=by kernel_rfl):Rr P (rx l e N m k j R) W V L:=λg w p f=>by
 simp only[fN]at c;obtain⟨c,b⟩:=c;have n:=f.at c;have d:(xZ l a).runT P w #[]=(.ok (.bool a.isNone) (w.putObj l (.loop {r with state:=if a.isNone then .ready else .done,pending:=a})),(xZ l a).events P w #[]):=by rw[jN,run_endRound _ n]
 refine⟨.bool a.isNone,w.putObj l (.loop {r with state:=if a.isNone then .ready else .done,pending:=a}),.one (fe (es:=seen P e ((xZ l a).events P w #[])) ?_),F,F,_,h,Oj f c⟩;unfold aaq at b;split at b
 ·cases b
  simp only[G,aE,cf,d,rW,qt];simp
 ·cases b
  simp only[G,aE,cf,d,rW,qt];simp
 ·split at b
  ·rename_i o
   cases b;simp only[G,aE,cf,o,d,rW,qt];simp
  ·cases b
 ·cases b
theorem Ck.round{l}{tm}{g i}{R}(N)(V)(p:gK N V tm)(h:∀m k j,Rr P (rx l f N m k j R) [.code g,.beginRound,.code i] V L):Ck P (Frame.round l f tm g i .normal) L R:=λj w o m k=>by
 obtain⟨v,q,a,b,c,n,d,e⟩:=h _ _ _ _ w p o;exact⟨v,q,n,a,b,c,d,e⟩
end
section
variable {P:aD}{X:Cx}{W:ae aJ}{T:ae cz}{V:Env}{L:ae En}
theorem aq8{d}{g}{s}{w}(h:eV P (G d [])=Z s):aE P U (G d g) w=iA P U d g I s w/\d.kind≠.early:=by
 obtain⟨j,c,f,i,rest,k,a,b,n,o,e,m,l,r,q⟩:=ze h;cases e;have p:bR ⟨j,c,.inRegion f (i::rest)::k,a,.run,b,I⟩=bR ⟨j,c,[],a,.run,b,I⟩:=funext λx=>by cases x<;>rfl
 refine⟨?_,m⟩;simp only[G,aE,cf,l,jE,r,rV,if_true];unfold stepG.oper;simp only[Frame.oper?,l,p,q]
theorem afd(k m)(i){l}{f}{tm}{a b}{R}(J:Ck P (Frame.round l f tm a b .normal) k R)(K:L.Perm (k++m))(h:∀v d,R v d->Rs P X (sW W) T (pe V (kF W) v) (d++m))(c:((mM W V).bind (λs=>(sE P s .r L [.k i] []).map λq=>(q.1,q.2.2.2.1.isEmpty,q.2.2.2.2)),fits X.N (kF W))=(iQ (.round l f tm a b,U,((mM W V).bind (λs=>(sE P s .r L [.k i] []).map λq=>q.2.2.2.2.map Pr.rf)).getD []),U):=by kernel_rfl):Rs P X W T V L:=λo A H u j w e=>by
 subst e;simp only[fN]at c;obtain⟨c,E⟩:=c;obtain⟨s,p,D⟩:=nj.1 c;obtain⟨⟨n,z,L',an,ps⟩,g,r⟩:=fX.1 D;simp only[p,wN,g,fN]at r;obtain⟨rfl,_,t⟩:=r;obtain⟨B,N⟩:=K5 o u p;obtain⟨w1,y,_⟩:=AS s _ z L _ _ _ _ _ _ _ w g (zh t) j (λx M=>by cases M);obtain⟨rfl,_⟩:=F7 s L _ _ _ w _ g y j.left (zh t);obtain⟨tU,C⟩:=aq8 B;obtain⟨es,G⟩:=acN C y;obtain⟨v,w',d,O,Q,q3,S,q5⟩:=J _ _ (j.perm (by rw[<-iL];exact K.append_right _)) ..;refine Rh.steps ((Steps.one (fe (tU.trans G))).trans O) Q q3 ?_;rw[N];exact h v _ S o _ _ (oL u (Ag E v)) (by grind)
def ij(fn:cH)(tmps:af ag)(params:af Tmp)(assign body:bH)(z:Nat):Loop:={state:=.ready,pending:=I,fn,tmps,params,assign,body,defers:=z}
def rfT:ae aJ->aj (iP×af Tmp×bH×bH)
 |.code (.rangeFunc q b a c)::_=>iQ (q,b,a,c)
 |_=>I
theorem Wp(q)(f)(c n)(x p)(y){g}{args:Nat->af ag}(Q:aj bH->ae En->Prop)
  (hf:∀z m,gK X.N V m->Fl P g (args (z+1)) (.ob (z+1) (.loop (ij X.fn m f c n z))::x) λ_ R=>∃O j M,O≠LoopState.busy/\R=.ob (z+1) (.loop {ij X.fn m f c n z with state:=O,pending:=j})::M/\Q j M)
  (hp:L.Perm (x++p))(h:∀z j M,Q j M->Rs P X ((j.map Item.code).toList++tQ W) (⟨.collected z,#[]⟩::T) V (.ob z (.deferred (iQ []))::(M++p)))
  (r:(rfT W,JB V q)=(iQ (q,f,c,n),iQ y):=by kernel_rfl)
  (hi:∀l w,(do let d<-Eg y #[.func (.yield l) #[] #[]];invoke d.target d.args).run P w=.ok (.enter g (args l)) w:=by intro l w;kernel_rfl):Rs P X W T V L:=λS m H t hK w e=>by
 subst e;simp only[fN]at r;obtain⟨r,hq⟩:=r;obtain⟨k,rfl⟩:∃k,W=.code (.rangeFunc q f c n)::k:=by
  unfold rfT at r;split at r
  ·simp_all
  ·cases r
 have gQ:=G7 (fr:=⟨X.fn,m,.code (.rangeFunc q f c n)::k,T,.run,X.kind,I⟩) t hq;let z:=w.heap.size;let u:=(w.alloc (.deferred (iQ []))).alloc (.loop (ij X.fn m f c n z));let o:aA:=⟨X.fn,m,.inRangeFunc (z+1)::k,⟨.collected z,#[]⟩::T,.run,X.kind,I⟩;have hT:(qb X.fn m f c n I).runT P w #[]=(.ok (z+1,[⟨.collected z,#[]⟩]) u,(qb X.fn m f c n I).events P w #[]):=by rw[jN,run_enterLoop_outer];rfl
 have aL:(do let d<-resolve o.eval {callee:=.value q,args:=#[.const (.func (.yield (z+1)) #[] #[])],argTypes:=#[]} 0;invoke d.target d.args).run P u=.ok (.enter g (args (z+1))) u:=by
  have J:o.eval q=y:=by
   rw[<-gQ];cases q<;>rfl
  have:resolve o.eval {callee:=.value q,args:=#[.const (.func (.yield (z+1)) #[] #[])],argTypes:=#[]} 0=Eg y #[.func (.yield (z+1)) #[] #[]]:=by
   have K:∀v,o.eval (.const v)=v:=λ_=>rfl;unfold resolve;simp only[J,List.map_toArray,fw,List.map_nil,K]
  rw[this];exact hi ..
 obtain⟨es,tU⟩:=at7 (fr:=o) ⟨#[],0,[],k,.inr ⟨z+1,F⟩⟩ S aL;have E:∃es,aE P U (G ⟨X.fn,m,.code (.rangeFunc q f c n)::k,T,.run,X.kind,I⟩ X.cs) w=dZ (bO P g (args (z+1)) .normal) (o::X.cs) u es:=by
  refine⟨seen P X.fn ((qb X.fn m f c n I).events P w #[])++es,?_⟩;simp only[G,aE,cf,hT];have:=tU;erw [this];rfl
 obtain⟨fP,E⟩:=E;have k1:Kn (L++[.ob z (.deferred (iQ []))]++X.L2) (w.heap.push (.deferred (iQ []))):=Kn.push hK _;have k2:=Kn.push k1 (.loop (ij X.fn m f c n z));rw[show(w.heap.push (Obj.deferred (iQ []))).size=z+1 by simp[z]]at k2;have k3:Kn ((.ob (z+1) (.loop (ij X.fn m f c n z))::x)++(.ob z (.deferred (iQ []))::(p++X.L2))) u.heap:=by
  refine Kn.perm k2 ?_;have:(L++[En.ob z (.deferred (iQ []))]++[En.ob (z+1) (.loop (ij X.fn m f c n z))]++X.L2).Perm ((x++p)++[En.ob z (.deferred (iQ []))]++[En.ob (z+1) (.loop (ij X.fn m f c n z))]++X.L2):=((hp.append_right _).append_right _).append_right _;refine this.trans ?_;have e2:∀(a b)(A B C:ae En),((A++B)++[a]++[b]++C).Perm ((b::A)++(a::(B++C))):=λa b A B C=>by
   simp only[iL];refine(Gq A (qf)).trans ?_;refine(Gq A (CB a (qf))).trans ?_;refine(qf).trans ?_;refine(CB a (qf)).trans ?_;refine(CC b a _).trans (CB b ?_);exact(qf).symm
  exact e2 ..
 obtain⟨v,s,R,q1,q2,q3,⟨O,j,M,HG,rfl,hQ⟩,q5⟩:=(hf z _ t).ck _ _ k3 ..;have hb:=q5.at (i:=0) F;let D:=s.putObj (z+1) (.loop {ij X.fn m f c n z with state:=.exhausted,pending:=j});have N:(wF (z+1)).runT P s #[]=(.ok j D,(wF (z+1)).events P s #[]):=by rw[jN,run_endLoop hb HG]
 have Ku:aE P U (G (o.finish v) X.cs) s=dZ ⟨X.fn,m,(j.map Item.code).toList++k,⟨.collected z,#[]⟩::T,.run,X.kind,I⟩ X.cs D (seen P X.fn ((wF (z+1)).events P s #[])):=by
  show aE P U (G ⟨X.fn,m,.endRangeFunc (z+1)::k,⟨.collected z,#[]⟩::T,.run,X.kind,I⟩ X.cs) s=_;simp only[G,aE,cf,N,qt];simp
 have k5:=Oj (o':=.loop {ij X.fn m f c n z with state:=.exhausted,pending:=j}) q5 (i:=0) F;have k6:Kn ((.ob z (.deferred (iQ []))::(M++p))++X.L2) D.heap:=by
  have k7:Kn (M++(.ob z (.deferred (iQ []))::(p++X.L2))) D.heap:=⟨λe t=>k5.sat e (eK _ t),(mQ.1 k5.nd).2⟩;refine k7.perm ?_;rw[List.cons_append,iL];exact qf
 refine Rh.steps ((Steps.one (fe E)).trans (q1.trans (.one (fe Ku)))) q2 q3 ?_;exact h z j M hQ S _ _ t k6
theorem Mm{f}{N}{b}{m}{R}{z}(j)(g)(h:R (qV j) g)(r:L=.ob z (.deferred (iQ []))::g:=by kernel_rfl)(d:(DG W,T,(P.funcs[f]?).bind λc=>AQ V c.results.toList)=(U,[⟨.collected z,#[]⟩],iQ j):=by kernel_rfl):Rs P (fx P f N b m R) W T V L:=λu a H t k w e=>by
 subst e;subst r;simp only[fN]at d;obtain⟨n,rfl,o⟩:=d;obtain⟨c,p,q⟩:=nj.1 o;have s:=k.at (i:=0) F;have s1:=Jx (P:=P) (fn:=f) (tmps:=a) (ds:=[⟨.collected z,#[]⟩]) (kind:=.normal) n b w;have s2:=step_collected (P:=P) (fr:=⟨f,a,W,[⟨.collected z,#[]⟩],.returning,.normal,I⟩) (cs:=b) ba F F (run_takeDeferred s);have l:=Oj (o':=.deferred I) k (i:=0) F;refine Rh.steps ((Steps.one s1).trans (.one s2)) F F (.done ⟨F,qV j,λx v=>⟨F,F,F,c,p,?_⟩,g,h,?_⟩)
 ·rw[Pb t q]
 ·exact⟨λe d=>l.sat e (eK _ d),(mQ.1 l.nd).2⟩
end
end
abbrev DI(z:Nat)(g:aj Nat)(n c:Nat):En:=.ob z (.cells #[sv g n c] 128)
abbrev uA(g:aj Nat)(n c:Nat)(a:ae aZ):En:=.row 229 3 g n c (a.flatMap aZ.cells)
def V7(x:aR)(A:ae En)(n:Nat)(a:ae aZ)(v:ag)(L:ae En):Prop:=∃z g c,v=.func (.func 122) #[] #[pt z]/\L=A++[DI z g n c,uA g n c a,(x.bf 0).en]
theorem aEN(x)(a)(h:a<0\/(x.ch.length)<=a):Fl Sv 92 [pt x.s,ai a].toArray [(x.bf 0).en] (V7 x [] 0 []):=by
 refine Fl.of 33 λe d=>(av [] (eR [0] (BZ x) ?_));rintro _ _ ⟨rfl,rfl⟩;by_cases f:a<0
 ·refine di (λ_=>[Nr a 0]) λz=>pC 229 3 ?_
  refine cM ([(x.bf 1).en]++[DI z I 0 0,uA I 0 0 []]) (du lD ?_);exact zJ [.func (.func 122) #[] #[pt z]] [DI z I 0 0,uA I 0 0 []] _ (AH F) λc b=>⟨z,I,0,F,by rw[b];rfl⟩
 ·refine di (λ_=>[He a 0,0,gi a x.ch.length]) λz=>pC 229 3 ?_
  refine cM ([(x.bf 1).en]++[DI z I 0 0,uA I 0 0 []]) (du lD ?_);exact zJ [.func (.func 122) #[] #[pt z]] [DI z I 0 0,uA I 0 0 []] _ (AH F) λc b=>⟨z,I,0,F,by rw[b];rfl⟩
theorem azG(x)(C:bV)(a:Nat)(h:x.ch[a]?=Z C.c)(f:C.vs.length<1000000):Fl Sv 92 [pt x.s,ai a].toArray [(x.bf 0).en,x.cE,C.hd,C.rw] (V7 x [x.cE,C.hd,C.rw] C.vs.length C.vs.reverse):=by
 have e:=(dq.1 h).1;have d:(x.ch.map pt)[a*1]?=Z (pt C.c):=by rw[x9,fW,h];rfl
 refine Fl.of 33 λk j=>(av [] (eR [0] (BZ x) ?_));rintro _ _ ⟨rfl,rfl⟩;refine di (λ_=>[He a 0,0,fu a x.ch.length,0,iX 113 1 x.cb x.vD e,rr 1 d]) λz=>?_;refine eR [2,3] (afM C f) ?_;rintro _ _ ⟨g,c,rfl,rfl⟩;refine av [4] ?_;refine cM ([(x.bf 1).en]++[x.cE,C.hd,C.rw,DI z g C.vs.length c,uA g C.vs.length c C.vs.reverse]) (du lD ?_);exact zJ [.func (.func 122) #[] #[pt z]] [x.cE,C.hd,C.rw,DI z g C.vs.length c,uA g C.vs.length c C.vs.reverse] _ (AH F) λi b=>⟨z,g,c,F,by rw[b];rfl⟩
abbrev azF(v:aZ):ag:=.agg #[ai v.aG,.bool v.gone,.string v.val]
def FP(r:Loop)(j:bH):Loop:={r with state:=.done,pending:=Z j}
def I7(P:aD)(l:Nat)(e p:Nat)(c:af ag)(a b:bH)(z:Nat)(h:ae aZ)(J:Nat->ae En->Prop)(D:Nat->bH->ae En->Prop):Prop:=∀i v g,h[i]?=Z v->J i g->Ck P (Frame.round l e (c.setIfInBounds p (azF v)) a b .normal) (.ob l (.loop (ij e c #[p] a b z))::g) λx f=>(x=.bool U/\∃d,f=.ob l (.loop (ij e c #[p] a b z))::d/\J (i+1) d)\/(x=.bool Y/\∃j d,f=.ob l (.loop (FP (ij e c #[p] a b z) j))::d/\D (i+1) j d)
def itR(l:Nat)(r:Loop)(n:Nat)(J:Nat->ae En->Prop)(D:Nat->bH->ae En->Prop)(L:ae En):Prop:=(∃a,L=.ob l (.loop r)::a/\J n a)\/(∃i j a,i<=n/\L=.ob l (.loop (FP r j))::a/\D i j a)
theorem anL(l h p)(f)(a e)(z)(d)(J)(D)(w:I7 Sv l h p f a e z d J D)(b)(g)(c)(K:d.length<1000000)(n)(t:J 0 n):Fl Sv 122 [.func (.yield l) #[] #[],pt b].toArray (.ob l (.loop (ij h f #[p] a e z))::DI b g d.length c::uA g d.length c d::n) λv L=>itR l (ij h f #[p] a e z) d.length J D L:=by
 refine Fl.of 16 λG E=>?_;refine cF [.ob l (.loop (ij h f #[p] a e z)),DI b g d.length c,uA g d.length c d] _ ?_;refine av [1,.g,.x] ?_;refine ey [1] (bE ?_);refine ji (λi=>d.length-i.1) (λi=>[(0,.func (.yield l) #[] #[]),(5,sv g d.length c),(6,ai d.length),(7,ai i.1)]) (λi=>.ob l (.loop (ij h f #[p] a e z))::uA g d.length c d::i.2) (λi=>i.1<=d.length/\J i.1 i.2) (0,n) ⟨gJ _,t⟩ ?_;rintro⟨i,L⟩ ⟨H,q⟩ C;by_cases aC:i<d.length
 ·obtain⟨v,r⟩:∃v,d[i]?=Z v:=⟨_,eI aC⟩
  have o:=λj A=>gW aZ.len _ i j v A r;refine lJ 1 g d.length c ah λk x M=>?_;subst x;refine cF [.ob l (.loop (ij h f #[p] a e z)),uA (Z k) d.length c d] L ?_;refine di (λ_=>[fu i d.length,iX 128 3 k c aC,rr 1 (o 0 aT),rr 1 (o 1 aT),rr 1 (o 2 aT),2,2,2,2,2,2]) λy=>?_;refine ey [2] ?_;refine bE ?_;refine cM (.ob l (.loop (ij h f #[p] a e z))::uA (Z k) d.length c d::L) ?_;refine afd _ _ 0 (w i v L r q) (CB _ (lD (l₁:=[uA (Z k) d.length c d]))) ?_;rintro _ _ (⟨rfl,m,rfl,s⟩|⟨rfl,j,m,rfl,u⟩)
  ·refine av [aS i,.g,.x] ?_
   refine cM ((.ob l (.loop (ij h f #[p] a e z))::m)++[uA (Z k) d.length c d]) ?_;refine du (CB _ (lD)) ?_;exact cq (C (i+1,m) ah ⟨aC,s⟩)
  ·refine av [] ?_
   refine cM ((.ob l (.loop (FP (ij h f #[p] a e z) j))::m)++[uA (Z k) d.length c d]) ?_;refine du (lD) (Bf ?_);exact ez [] _ (.inr ⟨i+1,j,m,aC,F,u⟩)
 ·have B:i=d.length:=by omega
  subst B;refine cF [.ob l (.loop (ij h f #[p] a e z)),uA g d.length c d] L ?_;refine av [gi d.length d.length] ?_;refine ey [1] (bE ?_);exact ez [] _ (.inl ⟨L,F,q⟩)
section
variable {P:aD}{X:Xr}{V:ae aJ}{W:Env}{L:ae En}
theorem Rr.cv(A B)(h:Rr P ⟨X.l,X.fn,X.N,X.fr,X.cs,B++X.L2,X.eZ⟩ V W A):Rr P X V W (A++B):=λa w b c=>h _ w b (by simp_all)
theorem Rr.bC{a B A}{l:Nat}{N}{e}{c}{b}(h:Rr P ⟨l,d,N,e,c,a,b⟩ V W (A++B)):Rr P ⟨l,d,N,e,c,B++a,b⟩ V W A:=λf w g i=>h _ w g (by simp_all)
theorem Rr.drop(c)(h:Rr P X V W (left c L))(l:(outs c L).isSome=U:=by kernel_rfl):Rr P X V W L:=λg w m i=>by
 obtain⟨⟨a,b⟩,f⟩:=A7.1 l;have k:left c L=b:=by unfold left;rw[f]
 rw[k]at h;have d:=i.perm ((xJ f).append_right _);rw[iL]at d;exact h _ w m ⟨λe j=>d.sat e (List.mem_append_right _ j),(CH.1 d.nd).2.1⟩
end
def bl:Type:=Quot (λa b:ae En=>a.Perm b)
def bl.of(l:ae En):bl:=Quot.mk _ l
def bl.one(a:En):bl:=bl.of [a]
def bl.add:bl->bl->bl:=Quot.lift (λa=>Quot.lift (λb=>bl.of (a++b)) λb d h=>Quot.sound (Gq a h)) λa c h=>by
 funext b;induction b using Quot.ind with
 |mk b=>exact Quot.sound (List.Perm.append_right b h)
theorem bl.exact{a b}(h:bl.of a=bl.of b):a.Perm b:=by
 have:=Quotient.exact h;exact this
theorem nN(a b):bl.of (a++b)=(bl.of a).add (bl.of b):=rfl
theorem pB(a)(b):bl.of (a::b)=(bl.one a).add (bl.of b):=rfl
theorem qk(x:bl):x.add (bl.of [])=x:=by
 induction x using Quot.ind with
 |mk a=>exact Quot.sound ba
theorem tA(x):(bl.of []).add x=x:=by
 induction x using Quot.ind with
 |mk a=>rfl
instance:Std.Associative bl.add:=⟨λa b c=>by
 induction a using Quot.ind with
 |mk a=>induction b using Quot.ind with
  |mk b=>induction c using Quot.ind with
   |mk c=>exact Quot.sound ba⟩
instance:Std.Commutative bl.add:=⟨λa b=>by
 induction a using Quot.ind with
 |mk a=>induction b using Quot.ind with
  |mk b=>exact Quot.sound lD⟩
theorem cx{p:Prop}(h:p:=by apply bl.exact;simp only[nN,pB,qk,tA];try ac_rfl):p:=h
theorem gK.sub{N}{W}{a}(h:gK N W a)(b)(c:b.map (λp=>lk W p.1)=b.map λp=>Z p.2):gK N b a:=⟨h.size,λt v d=>h.get t v (Ot _ t v c d)⟩
theorem gK.put{N}{W}{a}(h:gK N W a)(p)(v)(b:p<N):gK N ((p,v)::W) (a.setIfInBounds p v):=oL (dst:=Z p) h (by
                                                                                         have:=Nat.ble_eq_true_of_le b;simp only[F2,this])
abbrev vd(l d p:Nat)(c:af ag)(a b:bH)(z:Nat):En:=.ob l (.loop (ij d c #[p] a b z))
abbrev yB(b l:Nat):En:=.ob b (.cells #[.func (.yield l) #[] #[]] 193)
def WB(b:En)(c:En)(J:Nat->ae En->Prop)(i:Nat)(L:ae En):Prop:=∃a,L=b::c::a/\J i a
def Wm(l:Nat)(r:Loop)(c:En)(D:Nat->bH->ae En->Prop)(i:Nat)(j:bH)(L:ae En):Prop:=j=.ret/\∃b a,L=.ob l (.loop (FP r b))::c::a/\D i b a
def Pd:bH->aj (bH×bH)
 |.seq a b=>match Pd a with
  |some x=>Z x
  |none=>Pd b
 |.block _ a=>Pd a
 |.rangeFunc _ _ a b=>Z (a,b)
 |_=>I
noncomputable def XC(f:Nat):bH×bH:=match(Sv.funcs[f]?).bind (·.body)with
 |some c=>(Pd c).getD (.skip,.skip)
 |none=>(.skip,.skip)
noncomputable abbrev oR:bH×bH:=XC 91
theorem at5(l f p)(c)(a b)(z)(k)(J)(D)(r:I7 Sv l f p c a b z k J D)(h d e)(tm)(s:gK 13 [(3,pt e)] tm):I7 Sv h 91 8 tm oR.1 oR.2 d k (WB (vd l f p c a b z) (yB e l) J) (Wm l (ij f c #[p] a b z) (yB e l) D):=by
 rintro i v u t ⟨n,rfl,q⟩;refine Ck.round _ _ (s.put 8 _ aT) λx w g=>?_;refine Rr.cv [vd h 91 8 tm oR.1 oR.2 d,vd l f p c a b z,yB e l] _ ?_;refine Rr.new (λ_=>[3,3,3]) λy=>?_;refine Rr.begin 0 (ij 91 tm #[8] oR.1 oR.2 d) ?_ F;refine Rr.au [2,3,3,3] ?_;refine Rr.drop [3] (Rr.bC ?_);refine Rr.cJ (.ob h (.loop {ij 91 tm #[8] oR.1 oR.2 d with state:=.busy})::vd l f p c a b z::yB e l::n) ?_;refine Rr.yield _ [.ob h (.loop {ij 91 tm #[8] oR.1 oR.2 d with state:=.busy}),yB e l] 1 (r i v _ t q) ?_ ?_
 ·exact(CC .. ).trans (CB _ (lD (l₁:=[_,_])))
 rintro _ _ (⟨rfl,g,rfl,m⟩|⟨rfl,j,g,rfl,o⟩)
 ·refine Rr.au [] ?_
  refine Rr.cJ ((vd l f p c a b z::g)++[.ob h (.loop {ij 91 tm #[8] oR.1 oR.2 d with state:=.busy}),yB e l]) ?_;refine Rr.perm ((CB _ (lD)).trans (CC .. )) ?_;exact Rr.fin 0 {ij 91 tm #[8] oR.1 oR.2 d with state:=.busy} I (.inl ⟨F,_,F,g,F,m⟩)
 ·refine Rr.au [] ?_
  refine Rr.cJ ((.ob l (.loop (FP (ij f c #[p] a b z) j))::g)++[.ob h (.loop {ij 91 tm #[8] oR.1 oR.2 d with state:=.busy}),yB e l]) ?_;refine Rr.perm ((CB _ (lD)).trans (CC .. )) ?_;exact Rr.fin 0 {ij 91 tm #[8] oR.1 oR.2 d with state:=.busy} (Z .ret) (.inr ⟨F,.ret,_,F,F,j,g,F,o⟩)
abbrev iB(b:Nat)(i:Int):En:=.ob b (.cells #[ai i] 3)
abbrev D8(b s:Nat):En:=.ob b (.cells #[pt s] 34)
def agX(l:Nat)(r:Loop)(n:Nat)(J:Nat->ae En->Prop)(D:Nat->bH->ae En->Prop)(B L:ae En):Prop:=(∃a,L=.ob l (.loop r)::(a++B)/\J n a)\/(∃i j a,i<=n/\L=.ob l (.loop (FP r j))::(a++B)/\D i j a)
theorem agW(l f p)(d)(a b)(z)(e)(J)(D)(C:I7 Sv l f p d a b z e J D)(x)(h)(A)(H:Fl Sv 92 [pt x.s,ai h].toArray ((x.bf 0).en::A) (V7 x A e.length e))(q o)(G:e.length<1000000)(n)(B:J 0 n):Fl Sv 91 [.func (.yield l) #[] #[],pt q,pt o].toArray (vd l f p d a b z::D8 q x.s::iB o h::(x.bf 0).en::(A++n)) λ_ L=>agX l (ij f d #[p] a b z) e.length J D (A++[(x.bf 0).en]) L:=by
 refine Fl.of 13 λN K=>?_;refine cF [vd l f p d a b z,D8 q x.s,iB o h,(x.bf 0).en] _ ?_;refine di (λ_=>[1,2]) λk=>bE ?_;refine cM ([vd l f p d a b z,D8 q x.s,iB o h,(x.bf 0).en,yB k l]++(A++n)) ?_;refine im _ ([vd l f p d a b z,D8 q x.s,iB o h,yB k l]++n) H cx ?_;rintro _ _ ⟨s,g,c,rfl,rfl⟩;refine du (L':=[D8 q x.s,iB o h]++([vd l f p d a b z,yB k l,DI s g e.length c,uA g e.length c e]++(n++(A++[(x.bf 0).en])))) cx ?_;refine Bf (Bf ?_);refine cF _ _ ?_;refine av [] ?_;refine vw [(7,.func (.func 122) #[] #[pt s]),(3,pt k)] (bE ?_);refine cM (vd l f p d a b z::yB k l::DI s g e.length c::uA g e.length c e::(n++(A++[(x.bf 0).en]))) ?_;refine Wp (.tmp 7) #[8] oR.1 oR.2 (g:=122) (args:=λl=>#[.func (.yield l) #[] #[],pt s]) (DI s g e.length c::uA g e.length c e::(vd l f p d a b z::yB k l::n)) (A++[(x.bf 0).en]) (.func (.func 122) #[] #[pt s]) (λj M=>(j=I/\WB (vd l f p d a b z) (yB k l) J e.length M)\/∃i r,i<=e.length/\j=Z r/\Wm l (ij f d #[p] a b z) (yB k l) D i r M) ?_ ?_ ?_
 ·intro t tm E
  refine Fl.post (anL _ _ 8 _ _ _ _ _ _ _ (at5 l _ p _ _ _ z _ J D C _ _ _ _ (E.sub _ F)) _ g c G _ ⟨n,F,B⟩) ?_;rintro _ L (⟨m,rfl,u⟩|⟨i,r,m,w,rfl,v⟩)
  ·exact⟨_,⟨.ready,I,m,by simp,F,.inl ⟨F,u⟩⟩,List.Perm.refl _⟩
  ·exact⟨_,⟨.done,Z r,m,by simp,F,.inr ⟨i,r,w,F,v⟩⟩,List.Perm.refl _⟩
 ·exact cx
 ·rintro t j M (⟨rfl,m,rfl,u⟩|⟨i,r,w,rfl,rfl,y,m,rfl,v⟩)
  ·refine cM ([.ob t (.deferred (Z [])),vd l f p d a b z,yB k l]++(m++(A++[(x.bf 0).en]))) ?_
   refine cF _ _ ?_;refine av [] ?_;refine ey [2] ?_;refine bE ?_;exact Mm (z:=t) [] _ (.inl ⟨m,F,u⟩)
  ·refine cM ([.ob t (.deferred (Z [])),.ob l (.loop (FP (ij f d #[p] a b z) y)),yB k l]++(m++(A++[(x.bf 0).en]))) ?_
   refine cF _ _ ?_;refine av [] ?_;refine ey [2] ?_;refine bE ?_;exact Mm (z:=t) [] _ (.inr ⟨i,y,m,w,F,v⟩)
theorem agY(s)(a):Fl Sv 61 [pt s,ai a].toArray [] λv L=>∃c b,v=.func (.func 91) #[] #[pt c,pt b]/\L=[D8 c s,iB b a]:=by
 refine Fl.of 6 λe d=>di (λ_=>[]) λz=>?_;exact ez [.func (.func 91) #[] #[pt z,pt (z+1)]] _ ⟨z,z+1,F,F⟩
def sA(n:Int):Nat:=if 0<n/\n<2000 then n.toNat else 2000
theorem ahu(n):0<sA n:=by
 unfold sA;split<;>omega
theorem aht(n):sA n<=2000:=by
 unfold sA;split<;>omega
theorem ahs{n}{i}(h:i<sA n):((((i+1:Nat))=n\/((i+1:Nat):Int)=2000)↔i+1=sA n):=by
 unfold sA at h⊢;by_cases a:0<n/\n<2000
 ·grind
 ·grind
abbrev lB(b:Nat)(g:aj Nat)(i c:Nat):En:=.ob b (.cells #[sv g i c] 94)
abbrev vR(g:aj Nat)(i c:Nat)(a:ae aZ):En:=.row 96 3 g i c (a.flatMap aZ.cells)
def WA(n:Int)(a b:Nat)(d:ae aZ)(i:Nat)(L:ae En):Prop:=i<sA n/\∃g c,L=[iB a n,lB b g i c,vR g i c (d.take i)]
def Wl(n:Int)(a b:Nat)(d:ae aZ)(i:Nat)(j:bH)(L:ae En):Prop:=j=.exit 0/\i=sA n/\∃g c,L=[iB a n,lB b g i c,vR g i c (d.take i)]
noncomputable abbrev qx:bH×bH:=XC 37
theorem at4(n)(x:-9223372036854775808<=n/\n<9223372036854775808)(d)(l z e f)(tm)(p:gK 27 [(5,pt e),(7,pt f)] tm):I7 Sv l 37 12 tm qx.1 qx.2 z d (WA n e f d) (Wl n e f d):=by
 rintro i v r q ⟨o,g,c,rfl⟩;have w:=aht n;have m:=ahs o;have k:(d.take (i+1)).flatMap aZ.cells=(d.take i).flatMap aZ.cells++v.cells:=by
  rw[List.take_add_one,q];simp
 refine Ck.round _ _ (p.put _ _ aT) λu t s=>?_;refine Rr.new (λ_=>[4,4,4]) λy=>?_;refine Rr.begin 0 (ij 37 tm #[12] qx.1 qx.2 z) ?_ F;refine Rr.new (λ_=>[2,4,4,4]) λA=>?_;refine Rr.op (app1 94 3 5 i ah) ?_;rintro _ _ ⟨b,a,rfl,rfl⟩;by_cases h:((i+1))=n
 ·refine Rr.au [2,2,1,bT h] ?_
  refine Rr.drop [4,5] (Rr.cJ [.ob l (.loop {ij 37 tm #[12] qx.1 qx.2 z with state:=.busy}),iB e n,lB f (Z b) (i+1) a,.row 96 3 (Z b) (i+1) a ((d.take i).flatMap aZ.cells++v.cells)] ?_);refine Rr.fin 0 {ij 37 tm #[12] qx.1 qx.2 z with state:=.busy} (Z (.exit 0)) (.inr ⟨F,.exit 0,_,F,F,m.1 (.inl h),Z b,a,?_⟩);rw[<-k]
 ·by_cases j:((i+1):Int)=2000
  ·refine Rr.au [2,2,1,bF h,2,bT j] ?_
   refine Rr.drop [4,5] (Rr.cJ [.ob l (.loop {ij 37 tm #[12] qx.1 qx.2 z with state:=.busy}),iB e n,lB f (Z b) (i+1) a,.row 96 3 (Z b) (i+1) a ((d.take i).flatMap aZ.cells++v.cells)] ?_);refine Rr.fin 0 {ij 37 tm #[12] qx.1 qx.2 z with state:=.busy} (Z (.exit 0)) (.inr ⟨F,.exit 0,_,F,F,m.1 (.inr j),Z b,a,?_⟩);rw[<-k]
  ·refine Rr.au [2,2,1,bF h,2,bF j] ?_
   refine Rr.drop [4,5] (Rr.cJ [.ob l (.loop {ij 37 tm #[12] qx.1 qx.2 z with state:=.busy}),iB e n,lB f (Z b) (i+1) a,.row 96 3 (Z b) (i+1) a ((d.take i).flatMap aZ.cells++v.cells)] ?_);refine Rr.fin 0 {ij 37 tm #[12] qx.1 qx.2 z with state:=.busy} I (.inl ⟨F,_,F,?_,Z b,a,?_⟩)
   ·omega
   ·rw[<-k]
def ab0(x:aR)(A:ae En)(n:Int)(a:ae aZ)(v:ag)(L:ae En):Prop:=∃g c,v=sv g (a.take (sA n)).length c/\L=vR g (a.take (sA n)).length c (a.take (sA n))::(A++[(x.bf 0).en])
theorem arB(x)(d n)(v:-9223372036854775808<=n/\n<9223372036854775808)(a)(A)(w:Fl Sv 92 [pt x.s,ai d].toArray ((x.bf 0).en::A) (V7 x A a.length a))(t:a.length<1000000):Fl Sv 37 [pt x.s,ai d,ai n].toArray ((x.bf 0).en::A) (ab0 x A n a):=by
 refine Fl.of 27 λB y=>?_;refine cF [] _ ?_;refine di (λ_=>[]) λb=>?_;refine IU (agY x.s d) ?_;rintro _ _ ⟨k,h,rfl,rfl⟩;refine pC 96 3 ?_;refine av [] ?_;refine vw [(11,.func (.func 91) #[] #[pt k,pt h]),(5,pt b),(7,pt (b+1))] (bE ?_);refine cM (D8 k x.s::iB h d::iB b n::lB (b+1) I 0 0::vR I 0 0 []::(x.bf 0).en::A) ?_;refine Wp (.tmp 11) #[12] qx.1 qx.2 (g:=91) (args:=λl=>#[.func (.yield l) #[] #[],pt k,pt h]) (D8 k x.s::iB h d::(x.bf 0).en::(A++[iB b n,lB (b+1) I 0 0,vR I 0 0 []])) [] (.func (.func 91) #[] #[pt k,pt h]) (λj M=>(j=I/\∃e,M=e++(A++[(x.bf 0).en])/\WA n b (b+1) a a.length e)\/∃i f e,i<=a.length/\j=Z f/\M=e++(A++[(x.bf 0).en])/\Wl n b (b+1) a i f e) ?_ ?_ ?_
 ·intro m tm s
  refine Fl.post (agW _ _ _ _ _ _ _ _ _ _ (at4 n v _ _ _ _ _ _ (s.sub _ F)) x _ A w _ _ t _ ⟨ahu n,I,0,by rw[List.take_zero]⟩) ?_;rintro _ L (⟨e,rfl,q⟩|⟨i,f,e,o,rfl,r⟩)
  ·exact⟨_,⟨.ready,I,_,by simp,F,.inl ⟨F,e,F,q⟩⟩,List.Perm.refl _⟩
  ·exact⟨_,⟨.done,Z f,_,by simp,F,.inr ⟨i,f,e,o,F,F,r⟩⟩,List.Perm.refl _⟩
 ·exact cx
 ·rintro m j M (⟨rfl,_,rfl,aC,g,c,rfl⟩|⟨i,f,_,o,rfl,rfl,rfl,u,g,c,rfl⟩)
  ·rw[rb]
   refine cM ([.ob m (.deferred (Z [])),iB b n,lB (b+1) g a.length c,vR g a.length c (a.take a.length)]++(A++[(x.bf 0).en])) ?_;refine cF _ _ ?_;refine av [2] ?_;refine ey [1,2] ?_;refine bE ?_;refine Mm (z:=m) [sv g a.length c] (vR g a.length c (a.take a.length)::(A++[(x.bf 0).en])) ⟨g,c,?_,?_⟩
   ·rw[List.take_of_length_le ah];rfl
   ·grind
  ·rw[rb]
   refine cM ([.ob m (.deferred (Z [])),iB b n,lB (b+1) g i c,vR g i c (a.take i)]++(A++[(x.bf 0).en])) ?_;refine cF _ _ ?_;refine av [2] ?_;refine ey [1,2] ?_;refine bE ?_;have p:(a.take (sA n)).length=i:=by rw[CF];omega
   refine Mm (z:=m) [sv g i c] (vR g i c (a.take i)::(A++[(x.bf 0).en])) ⟨g,c,?_,?_⟩
   ·rw[p];rfl
   ·rw[p,u]
structure aBx{α:Type}(f:α->ae ag)(w:Nat)(l:ae α)(j:Nat)(xs:ae ag):Prop where
 le:j<=l.length
 len:xs.length=l.length*w
 at_:∀k e,j<=k->l[k]?=Z e->∀q u,q<w->(f e)[q]?=Z u->xs[k*w+q]?=Z u
theorem aBx.start{f:α->ae ag}{w:Nat}(b:∀a,(f a).length=w)(l:ae α):aBx f w l 0 (l.flatMap f):=⟨gJ _,Bx b l,λk e _ c q u d g=>by rw[gW b l k q e d c];exact g⟩
theorem aBx.set{f:α->ae ag}{w:Nat}{l:ae α}{a:ae ag}(h:aBx f w l j a)(d:j<l.length){b:ae ag}(p:b.length=a.length)(m:∀i,(j+1)*w<=i->b[i]?=a[i]?):aBx f w l (j+1) b:=⟨d,p.trans h.len,λk e g c q u n o=>by
                                                                                                                                                                                  rw[m _ (by
                                                                                                                                                                                   have:(j+1)*w<=k*w:=Nat.mul_le_mul_right w g;omega)]
                                                                                                                                                                                  exact h.at_ k e ah c q u n o⟩
theorem sd{c:ae ag}{b:Nat}{v:ag}(h:a≠b):(c.set a v)[b]?=c[b]?:=rK h
abbrev oP(z s r:Nat):En:=.ob z (.cells #[pt s,pt r] 41)
theorem aDL (x:aR) (r:RS) (m:Mo) (he:x.ev=m.events) (hl:m.events.length<1000000):Fl Sv 18 [.agg #[pt x.s,pt r.s]].toArray [(x.bf 0).en,x.eE,r.en m,r.eE m] λv L=>v=.bool true∧L=[(x.bf 0).en,x.eE,r.en m,r.eE m]:=by
 obtain⟨d,l,h,n,f,t,s,p,reg,c,o⟩:=r;have hn:x.ev.length=m.events.length:=by rw[he]
 refine Fl.of 79 λcs L2=>?_;refine di (λ_=>[.g,.x]) λz=>?_;refine cM [(x.bf 0).en,x.eE,RS.en ⟨d,l,h,n,f,t,s,p,reg,c,o⟩ m,RS.eE ⟨d,l,h,n,f,t,s,p,reg,c,o⟩ m,oP z x.s d] (du (L':=[oP z x.s d,(x.bf 0).en,x.eE,RS.en ⟨d,l,h,n,f,t,s,p,reg,c,o⟩ m,RS.eE ⟨d,l,h,n,f,t,s,p,reg,c,o⟩ m]) cx ?_);refine ji (ι:=Nat) (λi=>2-i) (λi=>[(1,pt z),(3,goInt i)]) (λ_=>[oP z x.s d,(x.bf 0).en,x.eE,RS.en ⟨d,l,h,n,f,t,s,p,reg,c,o⟩ m,RS.eE ⟨d,l,h,n,f,t,s,p,reg,c,o⟩ m]) (λi=>i≤2) 0 (Nat.zero_le _) ?_;intro i hi T;by_cases Q:i<2
 ·refine av [fu i 2,0] (eR [1,2] (ai0 x ah) ?_)
  rintro _ _ ⟨g,w,rfl,rfl⟩;refine av [0,3,po x.ev.length m.events.length,.g,.x] ?_;refine ji (ι:=Nat×List Value) (λj=>x.ev.length-j.1) (λj=>[(1,pt z),(3,goInt i),(4,sv g x.ev.length w),(5,goInt j.1)]) (λj=>[oP z x.s d,x.eE,.row 92 5 g x.ev.length w j.2,RS.en ⟨d,l,h,n,f,t,s,p,reg,c,o⟩ m,RS.eE ⟨d,l,h,n,f,t,s,p,reg,c,o⟩ m,(x.bf 0).en]) (λj=>aBx Ev.cells 5 x.ev j.1 j.2) (0,x.ev.flatMap Ev.cells) (aBx.start Ev.len _) ?_;rintro⟨j,B⟩ D J;simp only at D J;by_cases aC:j<x.ev.length
  ·obtain⟨e,H⟩:∃e,x.ev[j]?=some e:=⟨_,List.getElem?_eq_getElem aC⟩
   have A:∀q u,q<5→e.cells[q]?=some u→B[j*5+q]?=some u:=λq u E S=>D.at_ j e (Nat.le_refl _) H q u E S;have C:∀q,q<5→(m.events.flatMap Ev.cells)[j*5+q]?=e.cells[q]?:=λq E=>gW Ev.len m.events j q e E (by rw[←he];exact H);refine lJ 2 g x.ev.length w ah λG P ox=>?_;subst P;refine lJ 4 reg m.events.length c ah λN K M=>?_;subst K;refine di (λ_=>[fu j x.ev.length,iX 89 5 G w aC,rr 2 (A 0 _ aT rfl),rr 2 (A 1 _ aT rfl),rr 2 (A 2 _ aT rfl),rr 2 (A 3 _ aT rfl),rr 2 (A 4 _ aT rfl),6,6,6,6,6,
    0,3,ix 59 5 N m.events.length c j j ⟨rfl,by omega⟩,rr 4 (C 0 aT),rr 4 (C 1 aT),rr 4 (C 2 aT),rr 4 (C 3 aT),rr 4 (C 4 aT),7,7,7,7,7,.x]) λy=>?_
   have V:(B.set (j*5+0) (goInt 99))[j*5+1]?=_:=(sd ah).trans (A 1 _ aT rfl);have W:((B.set (j*5+0) (goInt 99)).set (j*5+1) (goInt 0))[j*5+2]?=_:=(sd ah).trans ((sd ah).trans (A 2 _ aT rfl));have X:(((B.set (j*5+0) (goInt 99)).set (j*5+1) (goInt 0)).set (j*5+2) (goInt 0))[j*5+3]?=_:=(sd ah).trans ((sd ah).trans ((sd ah).trans (A 3 _ aT rfl)));have w4:((((B.set (j*5+0) (goInt 99)).set (j*5+1) (goInt 0)).set (j*5+2) (goInt 0)).set (j*5+3) (.string ⟨#[]⟩))[j*5+4]?=_:=(sd ah).trans ((sd ah).trans ((sd ah).trans ((sd ah).trans (A 4 _ aT rfl))));refine av [6,7,po e.bt e.bt rfl,6,7,po e.step e.step rfl,6,7,po e.out e.out rfl,6,7,bB (a:=(e.val.toList !=e.val.toList)) (b:=false) ba,6,7,po e.aG e.aG rfl,iX 89 5 G w aC,rr 2 (A 0 _ aT rfl),rr 2 V,rr 2 W,rr 2 X,rr 2 w4,aS j,.g,.x] ?_;refine ey [6,7] ?_;refine cq (J (j+1,((((B.set (j*5+0) (goInt 99)).set (j*5+1) (goInt 0)).set (j*5+2) (goInt 0)).set (j*5+3) (.string ⟨#[]⟩)).set (j*5+4) (goInt 0)) (by simp only;omega) (D.set aC ba λk hk=>?_));rw[sd ah,sd ah,sd ah,sd ah,sd ah]
  ·have R:j=x.ev.length:=Nat.le_antisymm D.le ah
   subst R;refine av [gi x.ev.length x.ev.length,aS i,.g,.x] ?_;refine ey [2] ?_;refine cM [oP z x.s d,x.eE,RS.en ⟨d,l,h,n,f,t,s,p,reg,c,o⟩ m,RS.eE ⟨d,l,h,n,f,t,s,p,reg,c,o⟩ m,(x.bf 0).en] (du (L':=[oP z x.s d,(x.bf 0).en,x.eE,RS.en ⟨d,l,h,n,f,t,s,p,reg,c,o⟩ m,RS.eE ⟨d,l,h,n,f,t,s,p,reg,c,o⟩ m]) cx ?_);exact cq (T (i+1) ah ah)
 ·have O:i=2:=by omega
  subst O;refine av [gi (2:Nat) 2] ?_;exact cU [0] [.bool true] _ ⟨rfl,rfl⟩
def aBY(i:Int):ae ag:=[ai i]
theorem aDI(l:ae Int):l.flatMap aBY=l.map ai:=by
 induction l with
 |nil=>rfl
 |cons a l b=>simp[aBY,b]
theorem aDP (x:aR) (r:RS) (m:Mo) (he:x.si.map zq=m.sites) (Zc:x.ck=m.clock) (hl:m.sites.length<1000000):Fl Sv 20 [.agg #[pt x.s,pt r.s]].toArray [(x.bf 0).en,x.sE,r.en m,r.sE m] λv L=>v=.bool true∧L=[(x.bf 0).en,x.sE,r.en m,r.sE m]:=by
 obtain⟨b,d,c,l,h,q,p,o,reg,a,n⟩:=r;have S:x.si.length=m.sites.length:=by rw[←he,List.length_map]
 refine Fl.of 55 λP O=>?_;refine di (λ_=>[.g,.x]) λz=>?_;refine cM [(x.bf 0).en,x.sE,RS.en ⟨b,d,c,l,h,q,p,o,reg,a,n⟩ m,RS.sE ⟨b,d,c,l,h,q,p,o,reg,a,n⟩ m,oP z x.s b] (du (L':=[oP z x.s b,(x.bf 0).en,x.sE,RS.en ⟨b,d,c,l,h,q,p,o,reg,a,n⟩ m,RS.sE ⟨b,d,c,l,h,q,p,o,reg,a,n⟩ m]) cx ?_);refine ji (ι:=Nat) (λi=>2-i) (λi=>[(1,pt z),(3,goInt i)]) (λ_=>[oP z x.s b,(x.bf 0).en,x.sE,RS.en ⟨b,d,c,l,h,q,p,o,reg,a,n⟩ m,RS.sE ⟨b,d,c,l,h,q,p,o,reg,a,n⟩ m]) (λi=>i≤2) 0 (Nat.zero_le _) ?_;intro i Q N;by_cases J:i<2
 ·refine av [fu i 2,0] (eR [1,2] (avu x ah) ?_)
  rintro _ _ ⟨g,s,rfl,rfl⟩;rw[he,←aDI];refine av [0,3,po x.si.length m.sites.length,.g,.x] ?_;refine ji (ι:=Nat×List Value) (λj=>x.si.length-j.1) (λj=>[(1,pt z),(3,goInt i),(4,sv g x.si.length s),(5,goInt j.1)]) (λj=>[oP z x.s b,x.sE,.row 3 1 g x.si.length s j.2,RS.en ⟨b,d,c,l,h,q,p,o,reg,a,n⟩ m,RS.sE ⟨b,d,c,l,h,q,p,o,reg,a,n⟩ m,(x.bf 0).en]) (λj=>aBx aBY 1 m.sites j.1 j.2) (0,m.sites.flatMap aBY) (aBx.start (f:=aBY) (λ_=>rfl) _) ?_;rintro⟨j,B⟩ t A;simp only at t A;by_cases aC:j<x.si.length
  ·obtain⟨e,y⟩:∃e,m.sites[j]?=some e:=⟨_,List.getElem?_eq_getElem ah⟩
   have w:B[j*1]?=some (goInt e):=t.at_ j e (Nat.le_refl _) y 0 _ aT rfl;have M:(m.sites.map goInt)[j*1]?=some (goInt e):=by rw[Nat.mul_one,List.getElem?_map,y];rfl
   refine lJ 2 g x.si.length s ah λu H T=>?_;subst H;refine lJ 4 d m.sites.length c ah λE C D=>?_;subst C;refine av [fu j x.si.length] ?_;refine gw 13 [iX 55 1 u s aC,rr 2 w,0,3,ix 55 1 E m.sites.length c j j ⟨rfl,by omega⟩,rr 4 M,po e e rfl] [] (Fl.nil ?_);refine av [iX 55 1 u s aC,rr 2 w,aS j,.g,.x] ?_;refine cq (A (j+1,B.set (j*1) (goInt 99)) (by simp only;omega) (t.set ah ba λk R=>sd ah))
  ·have K:j=x.si.length:=Nat.le_antisymm (by have:=t.le;omega) ah
   subst K;refine av [gi x.si.length x.si.length,aS i,.g,.x] ?_;refine ey [2] ?_;refine cM [oP z x.s b,x.sE,RS.en ⟨b,d,c,l,h,q,p,o,reg,a,n⟩ m,RS.sE ⟨b,d,c,l,h,q,p,o,reg,a,n⟩ m,(x.bf 0).en] (du (L':=[oP z x.s b,(x.bf 0).en,x.sE,RS.en ⟨b,d,c,l,h,q,p,o,reg,a,n⟩ m,RS.sE ⟨b,d,c,l,h,q,p,o,reg,a,n⟩ m]) cx ?_);exact cq (N (i+1) ah ah)
 ·have G:i=2:=by omega
  subst G;refine av [gi (2:Nat) 2,0] (eR [1] (aDm x) ?_);rintro _ _ ⟨rfl,rfl⟩;refine av [0,3,kT x.ck m.clock Zc] ?_;exact cU [0] [.bool true] _ ⟨rfl,rfl⟩
theorem aCZ(marks:ae fV)(k:Nat):∀d,∃l,KY marks (k+d)=KY marks k++l
 |0=>⟨[],by simp⟩
 |d+1=>by
  obtain⟨l,h⟩:=aCZ marks k d;show∃l,KY marks (k+d+1)=_;simp only[KY,h,iL];exact⟨_,F⟩
theorem aDT{marks:ae fV}{t:fV}(h:marks[k]?=Z t)(b:t.set=U)(c:k<n):(KY marks n)[(KY marks k).length]?=Z ((k:Int),t.bt,t.aG):=by
 obtain⟨d,rfl⟩:∃d,n=k+1+d:=⟨n-(k+1),by omega⟩;obtain⟨l,a⟩:=aCZ marks (k+1) d;rw[a];simp only[KY,h,b,if_true,iL];rw[Ma (dt _),Nat.sub_self];rfl
theorem aCY(marks:ae fV):∀n,(KY marks n).length<=n
 |0=>dt _
 |n+1=>by
  have:=aCY marks n;simp only[KY,oe];split
  ·split<;>simp<;>omega
  ·simp;omega
theorem aDQ (x:aR) (ms:bU Mk) (km:Nat) (r:RS) (m:Mo) (hM:pU ms x.ch.length=KY m.marks m.marks.length) (hc:x.ch.length<1000000) (hl:m.marks.length<1000000):Fl Sv 21 [.agg #[pt x.s,pt r.s]].toArray [(x.bf 0).en,x.mE ms km,r.en m,r.mE m] λv L=>v=.bool true∧L=[(x.bf 0).en,x.mE ms km,r.en m,r.mE m]:=by
 obtain⟨b,h,e,l,d,w,s,p,reg,a,o⟩:=r;refine Fl.of 79 λcs L2=>?_;refine di (λ_=>[.g,.x]) λz=>?_;refine cM [(x.bf 0).en,x.mE ms km,RS.en ⟨b,h,e,l,d,w,s,p,reg,a,o⟩ m,RS.mE ⟨b,h,e,l,d,w,s,p,reg,a,o⟩ m,oP z x.s b] (du (L':=[oP z x.s b,(x.bf 0).en,x.mE ms km,RS.en ⟨b,h,e,l,d,w,s,p,reg,a,o⟩ m,RS.mE ⟨b,h,e,l,d,w,s,p,reg,a,o⟩ m]) cx ?_);refine ji (ι:=Nat) (λi=>2-i) (λi=>[(1,pt z),(3,goInt i)]) (λ_=>[oP z x.s b,(x.bf 0).en,x.mE ms km,RS.en ⟨b,h,e,l,d,w,s,p,reg,a,o⟩ m,RS.mE ⟨b,h,e,l,d,w,s,p,reg,a,o⟩ m]) (λi=>i≤2) 0 (Nat.zero_le _) ?_;intro i hi ih;by_cases β:i<2
 ·refine av [fu i 2,0] (eR [1,2] (ap2 x ms km hc) ?_)
  rintro _ _ ⟨g,c,rfl,rfl⟩;rw[hM];have W:(KY m.marks m.marks.length).length<1000000:=Nat.lt_of_le_of_lt (aCY _ _) hl;refine av [.g,.x] ?_;refine ji (ι:=Nat×List Value) (λj=>m.marks.length-j.1) (λj=>[(1,pt z),(3,goInt i),(4,sv g (KY m.marks m.marks.length).length c),(5,goInt (KY m.marks j.1).length),(6,goInt j.1)]) (λj=>[oP z x.s b,x.mE ms km,.row 104 3 g (KY m.marks m.marks.length).length c j.2,RS.en ⟨b,h,e,l,d,w,s,p,reg,a,o⟩ m,RS.mE ⟨b,h,e,l,d,w,s,p,reg,a,o⟩ m,(x.bf 0).en]) (λj=>j.1≤m.marks.length∧aBx OA 3 (KY m.marks m.marks.length) (KY m.marks j.1).length j.2) (0,(KY m.marks m.marks.length).flatMap OA) ⟨Nat.zero_le _,aBx.start (f:=OA) (λ_=>rfl) _⟩ ?_;rintro⟨j,H⟩ ⟨P,K⟩ R;simp only at K R P;by_cases aC:j<m.marks.length
  ·obtain⟨t,M⟩:∃t,m.marks[j]?=some t:=⟨_,List.getElem?_eq_getElem aC⟩
   have D:∀q,q<3→(m.marks.flatMap fV.cells)[j*3+q]?=t.cells[q]?:=λq Q=>gW fV.len m.marks j q t Q M;obtain⟨S,O,N⟩:=t;cases S with
   |false=>
    have C:KY m.marks (j+1)=KY m.marks j:=by simp only[KY,M];simp
    refine di (λ_=>[0,3,fu j m.marks.length,0,3,iX 57 3 d m.marks.length aC,rr 4 (D 0 aT),rr 4 (D 1 aT),rr 4 (D 2 aT),6,6,6,6,aS j,.g,.x]) λy=>?_;refine ey [6] ?_;have B:=R (j+1,H) (by simp only;omega) ⟨aC,by simp only;rw[C];exact K⟩;simp only[C]at B;exact cq B
   |true=>
    have T:=aDT (n:=m.marks.length) M rfl aC;have G:(KY m.marks j).length<(KY m.marks m.marks.length).length:=(List.getElem?_eq_some_iff.1 T).1;have C:(KY m.marks (j+1)).length=(KY m.marks j).length+1:=by simp only[KY,M];simp
    generalize hA:(KY m.marks j).length=A at*;have E:∀q u,q<3→(OA ((j:Int),O,N))[q]?=some u→H[A*3+q]?=some u:=λq u Q hu=>K.at_ A _ (Nat.le_refl _) T q u Q hu;refine lJ 2 g (KY m.marks m.marks.length).length c ah λJ X ox=>?_;subst X;refine di (λ_=>[0,3,fu j m.marks.length,0,3,iX 57 3 d m.marks.length aC,rr 4 (D 0 aT),rr 4 (D 1 aT),rr 4 (D 2 aT),6,6,6,6]) λy=>?_;refine gw 33 [Nr A ((KY m.marks m.marks.length).length),ix 99 3 J (KY m.marks m.marks.length).length c A A ⟨rfl,G⟩,rr 2 (E 0 _ aT rfl),po j j rfl,ix 99 3 J (KY m.marks m.marks.length).length c A A ⟨rfl,G⟩,rr 2 (E 1 _ aT rfl),6,po O O rfl,ix 99 3 J (KY m.marks m.marks.length).length c A A ⟨rfl,G⟩,rr 2 (E 2 _ aT rfl),6,po N N rfl] [] (Fl.nil ?_);have w1:(H.set (A*3+0) (goInt 99))[A*3+1]?=_:=(sd ah).trans (E 1 _ aT rfl);have w2:((H.set (A*3+0) (goInt 99)).set (A*3+1) (goInt 0))[A*3+2]?=_:=(sd ah).trans ((sd ah).trans (E 2 _ aT rfl));refine av [ix 99 3 J (KY m.marks m.marks.length).length c A A ⟨rfl,G⟩,rr 2 (E 0 _ aT rfl),rr 2 w1,rr 2 w2,aS A,aS j,.g,.x] ?_;refine ey [6] ?_;have B:=R (j+1,((H.set (A*3+0) (goInt 99)).set (A*3+1) (goInt 0)).set (A*3+2) (goInt 0)) (by simp only;omega) ⟨aC,by
     simp only;rw[C];refine K.set G ba λk C=>?_;rw[sd ah,sd ah,sd ah]⟩
    simp only[C]at B;exact cq B
  ·have P:j=m.marks.length:=by omega
   subst P;refine av [0,3,gi m.marks.length m.marks.length,po ((KY m.marks m.marks.length).length) ((KY m.marks m.marks.length).length) rfl,aS i,.g,.x] ?_;refine ey [2] ?_;refine cM [oP z x.s b,x.mE ms km,RS.en ⟨b,h,e,l,d,w,s,p,reg,a,o⟩ m,RS.mE ⟨b,h,e,l,d,w,s,p,reg,a,o⟩ m,(x.bf 0).en] (du (L':=[oP z x.s b,(x.bf 0).en,x.mE ms km,RS.en ⟨b,h,e,l,d,w,s,p,reg,a,o⟩ m,RS.mE ⟨b,h,e,l,d,w,s,p,reg,a,o⟩ m]) cx ?_);exact cq (ih (i+1) ah ah)
 ·have V:i=2:=by omega
  subst V;refine av [gi (2:Nat) 2] ?_;exact cU [0] [.bool true] _ ⟨rfl,rfl⟩
end
end Go.Proofs.YtgahemdblfapeabGreatDoor
