/- Helper lemmas, part 6: what the steps of the program do in the model; each holds under its own hypotheses. -/
import Derived.Test.YtgahemdblfapeaaGreatDoorA05
set_option maxRecDepth 100000
set_option maxHeartbeats 4000000
set_option linter.all false
namespace Go.Proofs.YtgahemdblfapeaaGreatDoor
open Go.Conc
open _root_.Array renaming getElem?_setIfInBounds_ne→iK,getElem?_setIfInBounds_self_of_lt→kJ,replicate→qa
open _root_.Bool renaming and_eq_true→gT,false→Y,false_eq_true→hZ,not_eq_true'→Gp,true→U
open Go renaming Addr→aU,CallKind→dQ,Code→bH,Deferred→cz,Frame→aA,FuncId→cH,Item→aJ,Oper→bq,Operand→iP,Program→aD,TypeId→aK,Value→ag,World→ax,doReturn→rW,eqGuard→lF,execOp→cN,goInt→ai,stepG→aE,undef→aB
open Go.Deferred renaming ofValue→Eg
open Go.Frame renaming enter→bO,eval→bR,finish→jw
open Go.GStep renaming after→mx
open Go.Instr renaming endLoop→wF,endRound→xZ,enterLoop→qb,loadAt→uG
open Go.Next renaming value→mR
open Go.Region renaming noSelect→Em,ready→nK,wanted→wO
open Go.Result renaming andThen→fy
open Go.Sem renaming pure→qi,run→bP,runT_eq→jN
open Go.stepG renaming apply→iA,exec→cf
open _root_.Int renaming le_refl→gU
open _root_.List renaming Perm→rT,append_assoc→iL,append_nil→rb,eq_nil_of_length_eq_zero→zC,filter_cons→Ej,flatMap_append→IE,flatMap_cons→vp,getD_eq_getElem?_getD→wI,getElem?_append_left→LZ,getElem?_append_right→Ma,getElem?_cons_zero→qe,getElem?_eq_getElem→eI,getElem?_eq_none→Gr,getElem?_eq_some_iff→dq,getElem?_map→fW,getElem?_modify→Gs,getElem?_of_mem→CE,getElem?_replicate→Mb,getElem?_set_ne→uH,getElem?_set_self→zD,length→vq,length_append→oe,length_cons→jY,length_eq_zero_iff→IF,length_map→jM,length_nil→uI,length_reverse→IH,length_set→wJ,length_take→CF,map_append→CG,map_cons→fw,map_set→wL,mem_append→pz,mem_append_right→IK,mem_cons→bM,mem_cons_of_mem→eK,mem_cons_self→eX,mem_map→og,mem_map_of_mem→jg,mem_of_getElem?→jZ,mem_singleton→my,nodup_append→zE,nodup_cons→oO,pairwise_append→CH,pairwise_cons→mQ,perm_append_comm→lD,perm_middle→qf,replicate→kq,take_add_one→Ek,take_of_length_le→IL
open _root_.List.Pairwise renaming nil→Eh
open _root_.List.Perm renaming append_left→Gq,cons→CB,swap→CC
open _root_.Nat renaming eq_of_beq_eq_true→CI,le_of_ble_eq_true→zH,le_refl→dt,le_trans→rU,mul_one→x9,zero_le→gJ
open _root_.Option renaming bind_eq_some_iff→nj,bind_some→wN,getD_some→rV,isSome_iff_exists→A7,map_eq_some_iff→fX,map_some→jE,none→I,some→Z,some→iQ
open _root_.Option.some renaming injEq→gB
open _root_.Prod.mk renaming injEq→fN
section
variable {H:Hp}{a:Int}{j:Nat}{f:cH}
section
open Go.Conc (G)
theorem Qd{P:aD}{X:Cx}{b:af bq}{k:ae aJ}{d:ae En->Prop}{n:Nat}{l:af Bool}{c:ae cz}{a:Env}{L:ae En}{ι:Type}(E:ι->Env)(LL:ι->ae En)(h:∀i,Rs P X k c (E i) (LL i))(e:(∀i,Rs P X k c (E i) (LL i))->df P X b k d n l c a L):df P X b k d n l c a L:=e h
abbrev xK(b:Nat)(g:aj Nat)(n a:Nat):En:=.ob b (.cells #[sv g n a] 45)
def aR.more(x:aR)(c:Nat)(g:aj Nat)(a:Nat):aR:={x with rp:=g,CZ:=a,cl:=x.cl++[c]}
def kY(x:aR)(d:ae Stp)(c:Nat)(b:aj Nat)(a e:Nat):c5:=⟨c,x.cl.length,b,a,d,0,.func (.func 60) #[pt c] #[],e,0,0,0,.nilFunc,.nilFunc⟩
abbrev Bt(o m l:Nat)(x:aR)(g:aj Nat)(e:Nat)(h:ae Stp)(id:Int)(p q:ag)(u:dT)(f:eG)(n:Int)(a:Gc)(b c d a0 j i k:Nat):ae En:=[gv o x.s,xK m g h.length e,iE l id,x.en,bK g e h,x.lE,aQ 1 p,aQ 2 q,gE a b,hE (.chan I) c d,x.uE (u.by f),f.wE a0 j,dE f.d x.s n Y i k]
theorem ag3(k j i:Nat)(x:aR)(g:Option Nat)(e:Nat)(f:List Stp)(id:Int)(h p:Value)(u:dT)(q:eG)(n:Int)(a:Gc)(b c d a0 m l o:Nat)(r:f.length≤4398046511104)(s:(sZ x.ch.length false f&&decide ((f.length:Int)≤200))=false):Fl Sv 58 [pt k,pt j,pt i].toArray (Bt k j i x g e f id h p u q n a b c d a0 m l o) λv L=>v=h∧L=Bt k j i x g e f id h p u q n a b c d a0 m l o:=by
 refine Fl.of 46 λw t=>av [0,1] (eR [3,4] (Pe x g e f r) ?_);rintro _ _ ⟨rfl,rfl⟩;rw[s];exact av [6] (cU [] [h] _ ⟨rfl,rfl⟩)
theorem ag4(k j i:Nat)(x:aR)(g:Option Nat)(e:Nat)(f:List Stp)(id:Int)(p h:Value)(u:dT)(q:eG)(n:Int)(a:Gc)(b c d a0 m l o:Nat)(r:f.length≤4398046511104)(s:(sZ x.ch.length false f&&decide ((f.length:Int)≤200))=true)(y:x.cl.length=8):Fl Sv 58 [pt k,pt j,pt i].toArray (Bt k j i x g e f id p h u q n a b c d a0 m l o) λv L=>v=h∧L=Bt k j i x g e f id p h u q n a b c d a0 m l o:=by
 refine Fl.of 46 λw t=>av [0,1] (eR [3,4] (Pe x g e f r) ?_);rintro _ _ ⟨rfl,rfl⟩;rw[s];exact av [0,3,kT x.cl.length 8,7] (cU [] [h] _ ⟨rfl,rfl⟩)
theorem ag5 (bs bp bo:Nat) (x:aR) (g:Nat) (cap:Nat) (pr:List Stp) (id:Int) (e1 e2:Value) (u:dT) (k0:eG) (n:Int) (a:Gc) (b c d a0 b0 a2 b2:Nat) (hl:pr.length≤4398046511104) (hp:0<pr.length) (hr:(sZ x.ch.length false pr&&decide ((pr.length:Int)≤200))=true) (h8:x.cl.length<8) (hw:x.sw=u.w) (hn:0≤n∧n<9):Fl Sv 58 [pt bs,pt bp,pt bo].toArray (Bt bs bp bo x (some g) cap pr id e1 e2 u k0 n a b c d a0 b0 a2 b2) λv L=>v=.nilIface∧∃q r o f e i k,k.d=k0.d∧L=[gv bs x.s,xK bp (some g) pr.length cap,iE bo x.cl.length,(x.more q r o).en,bK (some g) cap pr,(x.more q r o).lE,aQ 1 e1,aQ 2 e2,gE (a+1) (b+1),hE (.chan none) (c+1) (d+1),x.uE (u.by k0),k0.wE (a0+1) (b0+1),dE k0.d x.s (n+1) false (a2+1) (b2+1),(kY x pr q f e i).pE,(kY x pr q f e i).wE [] 0,k.wE 1 0,x.kE ((kY x pr q f e i).by k)]:=by
 have D:=hw;have B:pr.length≤200:=by
  simp only[Bool.and_eq_true,decide_eq_true_eq]at hr;omega
 refine Fl.of 46 λE C=>av [0,1] (eR [3,4] (Pe x (some g) cap pr hl) ?_);rintro _ _ ⟨rfl,rfl⟩;rw[hr];refine av [0,3,ie x.cl.length 8,0,3,2] (pC 50 3 ?_);refine Qb [0,1,2,5] 6 [2,0,1,0] ?_
 refine Qd (ι:=Option Nat×Nat×Nat×{k:eG//k.d=k0.d}×Nat) (λp=>[(0,pt bs),(1,pt bp),(2,pt bo),(4,pt p.2.2.2.2)]) (λp=>[gv bs x.s,xK bp (some g) pr.length cap,iE bo x.cl.length,x.en,bK (some g) cap pr,x.lE,aQ 1 e1,aQ 2 e2,gE (a+1) (b+1),hE (.chan none) (c+1) (d+1),x.uE (u.by k0),k0.wE (a0+1) (b0+1),dE k0.d x.s (n+1) false (a2+1) (b2+1),(kY x pr p.2.2.2.2 p.1 p.2.1 p.2.2.1).pE,(kY x pr p.2.2.2.2 p.1 p.2.1 p.2.2.1).wE [] 0,p.2.2.2.1.1.wE 1 0,
                                                                                                                 .ob p.2.2.2.2 (.cells #[goInt x.cl.length,pt x.s,sv p.1 pr.length p.2.1,goInt 0,.nilFunc,.map (some p.2.2.1),goInt 0,goInt 0,goInt 0,.chan (some p.2.2.2.1.1.w),.chan (some p.2.2.2.1.1.t)] 152)]) ?_ λm=>?_
 ·rintro⟨f,e,i,⟨k,l⟩,q⟩
  refine av [16] ?_;refine jO 8 [0,0,3] [6,7] [8,9,10] (tD (λ_=>[]) λz=>Gy (app1 98 5 17 x.cl.length ah) ?_);rintro _ _ ⟨r,o,rfl,rfl⟩;refine ib (Fl.run [3] (av [] ?_));refine cU [17] [.nilIface] [gv bs x.s,xK bp (some g) pr.length cap,iE bo x.cl.length,.ob x.s (.cells #[.int .i32 x.mu,.int .u32 0,sv (some x.sb) x.si.length x.si.length,sv (some x.cb) x.ch.length x.vD,.map (some x.mb),goInt x.ck,goInt x.li,sv (some r) (x.cl.length+1) o,sv x.eg x.ev.length x.ec,pt x.sw] 109),bK (some g) cap pr,.row 149 1 (some r) (x.cl.length+1) o (x.cl.map pt++[pt q]),aQ 1 e1,aQ 2 e2,gE (a+1) (b+1),hE (.chan none) (c+1) (d+1),x.uE (u.by k0),k0.wE (a0+1) (b0+1),dE k0.d x.s (n+1) false (a2+1) (b2+1),(kY x pr q f e i).pE,(kY x pr q f e i).wE [] 0,k.wE 1 0,x.kE ((kY x pr q f e i).by k)] ⟨rfl,q,some r,o,f,e,i,k,l,?_⟩;simp[aR.more,aR.en,aR.lE]
 refine eM [3,4] ⟨?_,?_,trivial⟩
 ·refine Ew (MI 45 3 13 4 g 0 pr.length cap 0 (pr.flatMap Stp.cells) (pr.flatMap Stp.cells) hp ah (Bx Stp.len _) (JF Stp.one _) (λj u h=>by rw[Nat.zero_add];exact h)) ?_
  rintro _ _ ⟨y,w,rfl,rfl⟩;have A:(0:Nat)+pr.length=pr.length:=Nat.zero_add _;rw[A];refine ib ?_;refine eM [4,6] ⟨?_,?_,trivial⟩
  ·refine lf (λ_=>[]) λt=>?_
   refine eM [6] ⟨?_,trivial⟩
   ·refine Gx [8,9,3,10,11,12] (Iz x u k0 n a b c d a0 b0 a2 b2 hw hn) ?_
    rintro _ _ ⟨k,l,rfl,rfl⟩;refine ib ?_;refine eM [7] ⟨lY [] (eM [8] ⟨lf (λ_=>[]) λs=>eM [9] ⟨lY [] (wT ?_),trivial⟩,trivial⟩),trivial⟩;exact cq (m (some y,w,t,⟨k,l⟩,s))
  ·refine Gx [8,9,3,10,11,12] (Iz x u k0 n a b c d a0 b0 a2 b2 hw hn) ?_
   rintro _ _ ⟨k,l,rfl,rfl⟩;refine ib ?_;refine eM [4] ⟨?_,trivial⟩
   ·refine lf (λ_=>[]) λt=>?_
    refine eM [7] ⟨lY [] (eM [8] ⟨lf (λ_=>[]) λs=>eM [9] ⟨lY [] (wT ?_),trivial⟩,trivial⟩),trivial⟩;exact Eu [0,1,2,3,4,5,6,7,8,9,10,11,12,13,15,14,16] (cq (m (some y,w,t,⟨k,l⟩,s)))
 ·refine lf (λ_=>[]) λt=>?_
  refine eM [3] ⟨?_,trivial⟩
  ·refine Ew (MI 45 3 13 4 g 0 pr.length cap 0 (pr.flatMap Stp.cells) (pr.flatMap Stp.cells) hp ah (Bx Stp.len _) (JF Stp.one _) (λj u h=>by rw[Nat.zero_add];exact h)) ?_
   rintro _ _ ⟨y,w,rfl,rfl⟩;have A:(0:Nat)+pr.length=pr.length:=Nat.zero_add _;rw[A];refine ib ?_;refine eM [6] ⟨?_,trivial⟩
   ·refine Gx [8,9,3,10,11,12] (Iz x u k0 n a b c d a0 b0 a2 b2 hw hn) ?_
    rintro _ _ ⟨k,l,rfl,rfl⟩;refine ib ?_;refine eM [7] ⟨lY [] (eM [8] ⟨lf (λ_=>[]) λs=>eM [9] ⟨lY [] (wT ?_),trivial⟩,trivial⟩),trivial⟩;exact cq (m (some y,w,t,⟨k,l⟩,s))
theorem ag6 (bs bp bo:Nat) (x:aR) (g:Option Nat) (cap:Nat) (pr:List Stp) (id:Int) (e1 e2:Value) (u:dT) (k0:eG) (n:Int) (a:Gc) (b c d a0 b0 a2 b2:Nat) (hl:pr.length≤4398046511104) (hp:pr=[]) (hr:(sZ x.ch.length false pr&&decide ((pr.length:Int)≤200))=true) (h8:x.cl.length<8) (hw:x.sw=u.w) (hn:0≤n∧n<9):Fl Sv 58 [pt bs,pt bp,pt bo].toArray (Bt bs bp bo x g cap pr id e1 e2 u k0 n a b c d a0 b0 a2 b2) λv L=>v=.nilIface∧∃q m l f e h k,k.d=k0.d∧L=[gv bs x.s,xK bp g pr.length cap,iE bo x.cl.length,(x.more q m l).en,bK g cap pr,(x.more q m l).lE,aQ 1 e1,aQ 2 e2,gE (a+1) (b+1),hE (.chan none) (c+1) (d+1),x.uE (u.by k0),k0.wE (a0+1) (b0+1),dE k0.d x.s (n+1) false (a2+1) (b2+1),(kY x pr q f e h).pE,(kY x pr q f e h).wE [] 0,k.wE 1 0,x.kE ((kY x pr q f e h).by k)]:=by
 subst hp;refine Fl.of 46 λt s=>av [0,1] (eR [3,4] (Pe x g cap ([]:List Stp) hl) ?_);rintro _ _ ⟨rfl,rfl⟩;rw[hr];refine av [0,3,ie x.cl.length 8,0,3,2] (pC 50 3 ?_);refine Qb [0,1,2,5] 6 [2,0,1,0] ?_
 refine Qd (ι:=Option Nat×Nat×Nat×{k:eG//k.d=k0.d}×Nat) (λp=>[(0,pt bs),(1,pt bp),(2,pt bo),(4,pt p.2.2.2.2)]) (λp=>[gv bs x.s,xK bp g ([]:List Stp).length cap,iE bo x.cl.length,x.en,bK g cap ([]:List Stp),x.lE,aQ 1 e1,aQ 2 e2,gE (a+1) (b+1),hE (.chan none) (c+1) (d+1),x.uE (u.by k0),k0.wE (a0+1) (b0+1),dE k0.d x.s (n+1) false (a2+1) (b2+1),(kY x ([]:List Stp) p.2.2.2.2 p.1 p.2.1 p.2.2.1).pE,(kY x ([]:List Stp) p.2.2.2.2 p.1 p.2.1 p.2.2.1).wE [] 0,p.2.2.2.1.1.wE 1 0,
                                                                                                                 .ob p.2.2.2.2 (.cells #[goInt x.cl.length,pt x.s,sv p.1 ([]:List Stp).length p.2.1,goInt 0,.nilFunc,.map (some p.2.2.1),goInt 0,goInt 0,goInt 0,.chan (some p.2.2.2.1.1.w),.chan (some p.2.2.2.1.1.t)] 152)]) ?_ λj=>?_
 ·rintro⟨f,e,h,⟨k,i⟩,q⟩
  refine av [16] ?_;refine jO 8 [0,0,3] [6,7] [8,9,10] (tD (λ_=>[]) λz=>Gy (app1 98 5 17 x.cl.length ah) ?_);rintro _ _ ⟨m,l,rfl,rfl⟩;refine ib (Fl.run [3] (av [] ?_));refine cU [17] [.nilIface] [gv bs x.s,xK bp g ([]:List Stp).length cap,iE bo x.cl.length,.ob x.s (.cells #[.int .i32 x.mu,.int .u32 0,sv (some x.sb) x.si.length x.si.length,sv (some x.cb) x.ch.length x.vD,.map (some x.mb),goInt x.ck,goInt x.li,sv (some m) (x.cl.length+1) l,sv x.eg x.ev.length x.ec,pt x.sw] 109),bK g cap ([]:List Stp),.row 149 1 (some m) (x.cl.length+1) l (x.cl.map pt++[pt q]),aQ 1 e1,aQ 2 e2,gE (a+1) (b+1),hE (.chan none) (c+1) (d+1),x.uE (u.by k0),k0.wE (a0+1) (b0+1),dE k0.d x.s (n+1) false (a2+1) (b2+1),(kY x ([]:List Stp) q f e h).pE,(kY x ([]:List Stp) q f e h).wE [] 0,k.wE 1 0,x.kE ((kY x ([]:List Stp) q f e h).by k)] ⟨rfl,q,some m,l,f,e,h,k,i,?_⟩;simp[aR.more,aR.en,aR.lE]
 refine eM [3,4] ⟨?_,?_,trivial⟩
 ·refine lY [YtgahemdblfapeaaGreatDoor.a0 45 3 none 0 0 (g.map λb=>⟨b,0,none⟩) cap (Nat.le_refl _)] ?_
  refine eM [4,6] ⟨?_,?_,trivial⟩
  ·refine lf (λ_=>[]) λr=>?_
   refine eM [6] ⟨?_,trivial⟩
   ·refine Gx [8,9,3,10,11,12] (Iz x u k0 n a b c d a0 b0 a2 b2 hw hn) ?_
    rintro _ _ ⟨k,i,rfl,rfl⟩;refine ib ?_;refine eM [7] ⟨lY [] (eM [8] ⟨lf (λ_=>[]) λo=>eM [9] ⟨lY [] (wT ?_),trivial⟩,trivial⟩),trivial⟩;exact cq (j (none,0,r,⟨k,i⟩,o))
  ·refine Gx [8,9,3,10,11,12] (Iz x u k0 n a b c d a0 b0 a2 b2 hw hn) ?_
   rintro _ _ ⟨k,i,rfl,rfl⟩;refine ib ?_;refine eM [4] ⟨?_,trivial⟩
   ·refine lf (λ_=>[]) λr=>?_
    refine eM [7] ⟨lY [] (eM [8] ⟨lf (λ_=>[]) λo=>eM [9] ⟨lY [] (wT ?_),trivial⟩,trivial⟩),trivial⟩;exact Eu [0,1,2,3,4,5,6,7,8,9,10,11,12,13,15,14,16] (cq (j (none,0,r,⟨k,i⟩,o)))
 ·refine lf (λ_=>[]) λr=>?_
  refine eM [3] ⟨?_,trivial⟩
  ·refine lY [YtgahemdblfapeaaGreatDoor.a0 45 3 none 0 0 (g.map λb=>⟨b,0,none⟩) cap (Nat.le_refl _)] ?_
   refine eM [6] ⟨?_,trivial⟩
   ·refine Gx [8,9,3,10,11,12] (Iz x u k0 n a b c d a0 b0 a2 b2 hw hn) ?_
    rintro _ _ ⟨k,i,rfl,rfl⟩;refine ib ?_;refine eM [7] ⟨lY [] (eM [8] ⟨lf (λ_=>[]) λo=>eM [9] ⟨lY [] (wT ?_),trivial⟩,trivial⟩),trivial⟩;exact cq (j (none,0,r,⟨k,i⟩,o))
end
section
open Go.Conc (G)
theorem ab2(f:ae Nat){L e:ae En}(h:outs f L=Z (e,[]):=by kernel_rfl):L.Perm e:=by
 have:=xJ h;rwa[rb]at this
abbrev uj:ByteArray:=⟨#[67,108,105,101,110,116]⟩
section
variable (x:aR)(u:dT)(V:eG)(g:aj Nat)(X:Nat)(W:ae Stp)(Q P O:ag)(n:Int)(a:Gc)(b c d a0 R T S:Nat)
def EG:ae En:=[(x.bf 0).en,x.uE (u.by V),V.wE a0 R,dE V.d x.s n Y T S,aQ 4 O,gE a b,hE (.chan I) c d,x.lE,bK g X W,aQ 1 Q,aQ 2 P]
def QK(q:Nat)(j:aj Nat)(i:Nat)(f:aj Nat)(e h:Nat)(k:eG):ae En:=[bK g X W,(x.more q j i).lE,aQ 1 Q,aQ 2 P,gE (a+1) (b+1),hE (.chan I) (c+1) (d+1),x.uE (u.by V),V.wE (a0+2) (R+2),dE V.d x.s (n+1) Y (T+2) (S+2),(kY x W q f e h).pE,(kY x W q f e h).wE [] 0,k.wE 1 0,x.kE ((kY x W q f e h).by k)]
def ag7(v:ag)(L:ae En):Prop:=v=.tuple #[ai x.cl.length,.nilIface]/\∃q f e i h j k,k.d=V.d/\L=aQ 4 O::(QK x u V g X W Q P n a b c d a0 R T S q f e i h j k++[((x.more q f e).bf 0).en])
theorem aha (hl:W.length≤4398046511104) (hr:(sZ x.ch.length false W&&decide ((W.length:Int)≤200))=true) (h8:x.cl.length<8) (hw:x.sw=u.w) (hn:0≤n∧n<9) (r:W=[]∨(0<W.length∧∃o,g=some o)):Fl Sv 39 [pt x.s,sv g W.length X].toArray (EG x u V g X W Q P O n a b c d a0 R T S) (ag7 x u V g X W Q P O n a b c d a0 R T S):=by
 have p:∀z,Fl Sv 58 [pt z,pt (z+1),pt (z+2)].toArray (Bt z (z+1) (z+2) (x.bf 1) g X W 0 Q P u V n a b c d (a0+1) (R+1) (T+1) (S+1)) λv L=>v=.nilIface∧∃q f e i h j k,k.d=V.d∧L=[gv z x.s,xK (z+1) g W.length X,iE (z+2) x.cl.length,((x.more q f e).bf 1).en,bK g X W,(x.more q f e).lE,aQ 1 Q,aQ 2 P,gE (a+1) (b+1),hE (.chan none) (c+1) (d+1),x.uE (u.by V),V.wE (a0+2) (R+2),dE V.d x.s (n+1) false (T+2) (S+2),(kY x W q i h j).pE,(kY x W q i h j).wE [] 0,k.wE 1 0,x.kE ((kY x W q i h j).by k)]:=λz=>by
  rcases r with r|⟨p,o,rfl⟩
  ·exact ag6 z (z+1) (z+2) (x.bf 1) g X W 0 Q P u V n a b c d (a0+1) (R+1) (T+1) (S+1) hl r hr h8 hw hn
  ·exact ag5 z (z+1) (z+2) (x.bf 1) o X W 0 Q P u V n a b c d (a0+1) (R+1) (T+1) (S+1) hl p hr h8 hw hn
 refine Fl.of 13 λA y=>di (λ_=>[13,11]) λz=>?_;have t:Fl Sv 58 [pt z,pt (z+1),pt (z+2)].toArray ((x.bf 1).en::x.uE (u.by V)::V.wE (a0+1) (R+1)::dE V.d x.s n false (T+1) (S+1)::[gE a b,hE (.chan none) c d,x.lE,bK g X W,aQ 1 Q,aQ 2 P,gv z x.s,xK (z+1) g W.length X,iE (z+2) 0]) λv L=>∃l s,(v=.nilIface∧l.s=x.s∧(∃q f e i h j k,k.d=V.d∧l=x.more q f e∧s=gv z x.s::xK (z+1) g W.length X::iE (z+2) x.cl.length::QK x u V g X W Q P n a b c d a0 R T S q f e i h j k))∧L=(l.bf 1).en::s:=by
  refine Fl.post (Fl.perm (p z) ?_) ?_
  ·exact ab2 [10,11,12,0,7,6,8,9,4,5,1,2,3]
  rintro v _ ⟨w,q,f,e,i,h,j,k,m,rfl⟩;exact⟨_,⟨x.more q f e,_,⟨w,rfl,q,f,e,i,h,j,k,m,rfl,rfl⟩,rfl⟩,List.perm_middle (l₁:=[_,_,_])⟩
 refine lW [] _ (Jl x u V uj 0 O z (z+1) (z+2) n a0 R T S _ _ hw (.inl ⟨.inr rfl,rfl⟩) none t) ?_;rintro _ _ ⟨rfl,l,_,⟨q,f,e,i,h,j,k,m,rfl,rfl⟩,rfl⟩;exact av [3] (cU [1,2,3] [goInt x.cl.length,.nilIface] _ ⟨rfl,q,f,e,i,h,j,k,m,rfl⟩)
theorem Xu (te:TypeId) (er:Value) (hw:x.sw=u.w) (h0:∀z,Fl Sv 58 [pt z,pt (z+1),pt (z+2)].toArray (Bt z (z+1) (z+2) (x.bf 1) g X W 0 Q P u V n a b c d (a0+1) (R+1) (T+1) (S+1)) λv L=>v=.iface te er∧L=Bt z (z+1) (z+2) (x.bf 1) g X W 0 Q P u V n a b c d (a0+1) (R+1) (T+1) (S+1)):Fl Sv 39 [pt x.s,sv g W.length X].toArray (EG x u V g X W Q P O n a b c d a0 R T S) λv L=>∃q,v=.tuple #[goInt 0,.iface 154 (pt q)]∧L=[aQ 4 O,iM q uj 0 (.iface te er),bK g X W,x.lE,aQ 1 Q,aQ 2 P,gE a b,hE (.chan none) c d,x.uE (u.by V),V.wE (a0+1) (R+1),dE V.d x.s n false (T+1) (S+1),(x.bf 0).en]:=by
 refine Fl.of 13 λk j=>di (λ_=>[13,11]) λz=>?_;have h:Fl Sv 58 [pt z,pt (z+1),pt (z+2)].toArray ((x.bf 1).en::x.uE (u.by V)::V.wE (a0+1) (R+1)::dE V.d x.s n false (T+1) (S+1)::[gE a b,hE (.chan none) c d,x.lE,bK g X W,aQ 1 Q,aQ 2 P,gv z x.s,xK (z+1) g W.length X,iE (z+2) 0]) λv L=>∃e f,(v=.iface te er∧e.s=x.s∧(e=x∧f=[gv z x.s,xK (z+1) g W.length X,iE (z+2) 0,bK g X W,x.lE,aQ 1 Q,aQ 2 P,gE a b,hE (.chan none) c d,x.uE (u.by V),V.wE (a0+1) (R+1),dE V.d x.s n false (T+1) (S+1)]))∧L=(e.bf 1).en::f:=by
  refine Fl.post (Fl.perm (h0 z) ?_) ?_
  ·exact ab2 [10,11,12,0,7,6,8,9,4,5,1,2,3]
  rintro v _ ⟨i,rfl⟩;exact⟨_,⟨x,_,⟨i,rfl,rfl,rfl⟩,rfl⟩,List.perm_middle (l₁:=[_,_,_])⟩
 refine lW [] _ (Jl x u V uj 0 O z (z+1) (z+2) n a0 R T S _ _ hw (.inl ⟨.inr rfl,rfl⟩) (some (te,er)) h) ?_;rintro _ _ ⟨q,rfl,e,_,⟨rfl,rfl⟩,rfl⟩;exact av [4] (cU [2,3,4] [goInt 0,.iface 154 (pt q)] _ ⟨q,rfl,rfl⟩)
theorem ag8(f:aK)(e:ag)(h:W.length<=4398046511104)(i:(sZ x.ch.length Y W&&decide ((W.length:Int)<=200))=Y)(j:x.sw=u.w):Fl Sv 39 [pt x.s,sv g W.length X].toArray (EG x u V g X W (.iface f e) P O n a b c d a0 R T S) λv L=>∃q,v=.tuple #[ai 0,.iface 154 (pt q)]/\L=[aQ 4 O,iM q uj 0 (.iface f e),bK g X W,x.lE,aQ 1 (.iface f e),aQ 2 P,gE a b,hE (.chan I) c d,x.uE (u.by V),V.wE (a0+1) (R+1),dE V.d x.s n Y (T+1) (S+1),(x.bf 0).en]:=
 Xu x u V g X W _ P O n a b c d a0 R T S f e j λz=>ag3 z (z+1) (z+2) (x.bf 1) g X W 0 _ P u V n a b c d _ _ _ _ h i
theorem ag9(f:aK)(e:ag)(i:W.length<=4398046511104)(j:(sZ x.ch.length Y W&&decide ((W.length:Int)<=200))=U)(h:x.cl.length=8)(k:x.sw=u.w):Fl Sv 39 [pt x.s,sv g W.length X].toArray (EG x u V g X W Q (.iface f e) O n a b c d a0 R T S) λv L=>∃q,v=.tuple #[ai 0,.iface 154 (pt q)]/\L=[aQ 4 O,iM q uj 0 (.iface f e),bK g X W,x.lE,aQ 1 Q,aQ 2 (.iface f e),gE a b,hE (.chan I) c d,x.uE (u.by V),V.wE (a0+1) (R+1),dE V.d x.s n Y (T+1) (S+1),(x.bf 0).en]:=
 Xu x u V g X W Q _ O n a b c d a0 R T S f e k λz=>ag4 z (z+1) (z+2) (x.bf 1) g X W 0 Q _ u V n a b c d _ _ _ _ i j h
end
theorem ahc(x:aR)(u:dT)(k:eG)(g:Option Nat)(l X:Nat)(f:TypeId)(e:Value)(n:Int)(h i T S:Nat)(j:x.sw=u.w):Fl Sv 39 [pt x.s,sv g l X].toArray [(x.bf 0).en,x.uE (u.by k),k.wE h i,dE k.d x.s n true T S,aQ 4 (.iface f e)] λv L=>∃q,v=.tuple #[goInt 0,.iface 154 (pt q)]∧L=[x.uE (u.by k),k.wE (h+1) (i+1),dE k.d x.s n true (T+1) (S+1),aQ 4 (.iface f e),iM q uj 0 (.iface f e),(x.bf 0).en]:=by
 refine Fl.of 13 λo m=>di (λ_=>[7,5]) λz=>eR [0,1,2,3,4] (QF x u k uj 0 f e (.func (.func 58) #[] #[pt z,pt (z+1),pt (z+2)]) n h i T S j) ?_;rintro _ _ ⟨q,rfl,rfl⟩;exact av [7] (cU [5,6,7] [goInt 0,.iface 154 (pt q)] _ ⟨q,rfl,rfl⟩)
theorem arV(x:aR)(u:dT)(k:eG)(i:Int)(f:TypeId)(e:Value)(n:Int)(h j T S:Nat)(l:x.sw=u.w):Fl Sv 41 [pt x.s,goInt i].toArray [(x.bf 0).en,x.uE (u.by k),k.wE h j,dE k.d x.s n true T S,aQ 4 (.iface f e)] λv L=>∃q,v=.tuple #[goInt 0,.iface 154 (pt q)]∧L=[x.uE (u.by k),k.wE (h+1) (j+1),dE k.d x.s n true (T+1) (S+1),aQ 4 (.iface f e),iM q ⟨#[80,105,99,107]⟩ i (.iface f e),(x.bf 0).en]:=by
 refine Fl.of 14 λo m=>di (λ_=>[7,5,6]) λz=>eR [0,1,2,3,4] (QF x u k ⟨#[80,105,99,107]⟩ i f e (.func (.func 65) #[] #[pt (z+1),pt z,pt (z+2)]) n h j T S l) ?_;rintro _ _ ⟨q,rfl,rfl⟩;exact av [7] (cU [5,6,7] [goInt 0,.iface 154 (pt q)] _ ⟨q,rfl,rfl⟩)
theorem ayG(x:aR)(u:dT)(k:eG)(f:TypeId)(e:Value)(n:Int)(h i T S:Nat)(j:x.sw=u.w):Fl Sv 42 [pt x.s].toArray [(x.bf 0).en,x.uE (u.by k),k.wE h i,dE k.d x.s n true T S,aQ 4 (.iface f e)] λv L=>∃q,v=.tuple #[.bool false,.iface 154 (pt q)]∧L=[x.uE (u.by k),k.wE (h+1) (i+1),dE k.d x.s n true (T+1) (S+1),aQ 4 (.iface f e),iM q ⟨#[83,119,101,101,112]⟩ 0 (.iface f e),(x.bf 0).en]:=by
 refine Fl.of 12 λm l=>di (λ_=>[6,5]) λz=>eR [0,1,2,3,4] (QF x u k ⟨#[83,119,101,101,112]⟩ 0 f e (.func (.func 68) #[] #[pt z,pt (z+1)]) n h i T S j) ?_;rintro _ _ ⟨q,rfl,rfl⟩;exact av [6,.d] (cU [5,6] [.bool false,.iface 154 (pt q)] _ ⟨q,rfl,rfl⟩)
end
section
open Go.Conc (G)
theorem Yp{α:Type}(l:ae α)(b:0<l.length):∀(n j:Nat),j<n*l.length->((kq n l).flatten)[j]?=l[j%l.length]?
 |0,j,h=>by omega
 |n+1,j,h=>by
  rw[List.replicate_succ,List.flatten_cons];by_cases a:j<l.length
  ·rw[LZ a,Nat.mod_eq_of_lt a]
  ·rw[Ma ah,Yp l b n (j-l.length) (by rw[Nat.add_mul]at h;omega),<-Nat.mod_eq_sub_mod ah]
theorem apY(a:af ag)(h:0<a.size)(n:Nat):(madeCells a (n*a.size)).toList=(kq n a.toList).flatten:=by
 apply List.ext_getElem?;intro j;have b:(kq n a.toList).flatten.length=n*a.size:=by simp
 by_cases c:j<n*a.size
 ·rw[Yp a.toList (by simpa using h) n j (by simpa using c)]
  have d:j%a.size<a.size:=Nat.mod_lt _ h;simp[madeCells,c,d]
 ·rw[Gr (by simp[madeCells];omega),Gr (by rw[b];omega)]
def mkS(t:aK)(a b:ag):Sem Next:=Sem.bind (Instr.makeSlice t a b) λv=>.pure (.value v)
theorem DU{P:aD}{L m:ae En}(t e a n:Nat)(b:ae ag)(B:n<=1000000)(D:0<b.length)
  (h:((P.underlying t,(P.info? e).map λi=>(i.size,i.zero.map λz=>z.cells.toList,Nat.ble i.bytes 4096)),b.length)=((Z (.slice e),Z (a,Z b,U)),a):=by kernel_rfl):
  lU P m L (mkS t (ai n) (ai n)) λv l=>∃g,v=sv (Z g) n n/\l=L++[.row e a (Z g) n n (kq n b).flatten]:=λw u=>by
 simp only[fN]at h;obtain⟨⟨p,q⟩,rfl⟩:=h;obtain⟨i,y,d⟩:=fX.1 q;simp only[fN]at d;obtain⟨r,s,c⟩:=d;obtain⟨z,k,rfl⟩:=fX.1 s;have c:=zH c;have G:i.bytes*n<=4096*1000000:=Nat.mul_le_mul c B;have j:=run_make (P:=P) w t e i z p y k .i64 .i64 n n ah (gU _) (by
  have:((i.bytes*n:Nat):Int)<=281474976710656:=by omega
  rwa[Int.natCast_mul]at this) ah
 simp only[Int.toNat_natCast]at j;have o:i.size=z.cells.size:=by rw[r];simp
 refine⟨sv (Z w.heap.size) n n,w.alloc (.cells (madeCells z.cells (n*i.size)) e),_,?_,F,F,⟨w.heap.size,F,F⟩,?_⟩
 ·show((Instr.makeSlice t (ai n) (ai n))>>=λv=>(qi (mR v):Sem Next)).run P w=_
  rw[fK];have E:bP P (Instr.makeSlice t (ai n) (ai n)) w=.ok (.slice (Z ⟨w.heap.size,0,I⟩) n n) (w.alloc (.cells (madeCells z.cells (n*i.size)) e)):=j;rw[E];rfl
 ·have f:=Kn.push u (.cells (madeCells z.cells (n*i.size)) e)
  rw[iL]at f⊢;refine Kn.set f ?_ (λx C=>?_) (dt _) (λx _ _=>rfl)
  ·show Row _ _ _ _ _ _
   rw[o,<-apY z.cells (by simpa using D)];have A:(madeCells z.cells (n*z.cells.size)).size=n*z.cells.size:=by simp[madeCells]
   refine⟨?_,.inr ⟨w.heap.size,n,madeCells z.cells (n*z.cells.size),F,?_,dt _,by unfold maxLen;omega,?_,?_⟩⟩
   ·simp[madeCells]
   ·show(w.heap.push _)[w.heap.size]?=_
    simp
   ·simp[madeCells]
   ·rw[IL]
    simp[madeCells]
  ·cases C
   exact .inl F
def Gc.up(a:Gc):Gc:=⟨.iface 3 a.v,a.n⟩
def H7(s e S:Nat)(b:aj Nat)(k a d:Nat)(c:Int)(f:ag):En:=.ob s (.cells #[.int .i32 0,.int .u32 0,sv (Z e) S S,sv b k a,.map (Z d),ai 0,ai c,sv I 0 0,sv I 0 0,f] 109)
theorem ax9 (s sb S:Nat) (cg:Option Nat) (k cc mb:Nat) (li:Int) (D:Nat) (a:Gc) (b c d a2 b2:Nat):Fl Sv 55 [pt s].toArray [gE a b,hE (.chan (some D)) c d,H7 s sb S cg k cc mb li (.pointer none),dE D s 0 false a2 b2] λv L=>∃q:eG,q.d=D∧v=q.v∧L=[gE (a+1) (b+1),hE (.chan none) (c+1) (d+1),H7 s sb S cg k cc mb li (.pointer none),dE D s 1 false (a2+1) (b2+1),q.wE 1 0]:=by
 refine Fl.of 13 λh g=>av [] (lX 0 (gL 0 (lX 1 (gL 1 (av [.d,2] (lX 3 (av [G6 (tm 11) (tm 0) s,fu 0 9,aI (0+1) 1 ah] (gL 3 ?_))))))));refine di (λ_=>[]) λz=>?_;refine Wn OX λo f=>?_;simp only[OX,List.mem_cons,List.not_mem_nil,or_false]at f;rcases f with rfl|rfl|rfl|rfl|rfl|rfl|rfl|rfl
 ·exact di (λ_=>[]) λe=>gL 6 (av [5,5] (rX [4,5,7,8] 2 142 (z+1) (eG.v ⟨e,(e+1),D⟩) [5,5] _ ⟨⟨e,(e+1),D⟩,rfl,rfl,rfl⟩))
 ·exact di (λ_=>[]) λe=>gL 6 (av [5,5] (rX [4,5,7,8] 2 142 (z+1) (eG.v ⟨e,(e+1),D⟩) [5,5] _ ⟨⟨e,(e+1),D⟩,rfl,rfl,rfl⟩))
 ·exact di (λ_=>[]) λe=>gL 6 (av [5,5] (rX [4,5,7,8] 2 142 (z+1) (eG.v ⟨e,(e+2),D⟩) [5,5] _ ⟨⟨e,(e+2),D⟩,rfl,rfl,rfl⟩))
 ·exact di (λ_=>[]) λe=>gL 7 (av [5,5] (rX [4,5,6,8] 2 142 (z+1) (eG.v ⟨(e+1),e,D⟩) [5,5] _ ⟨⟨(e+1),e,D⟩,rfl,rfl,rfl⟩))
 ·exact di (λ_=>[]) λe=>gL 7 (av [5,5] (rX [4,5,6,8] 2 142 (z+1) (eG.v ⟨(e+1),e,D⟩) [5,5] _ ⟨⟨(e+1),e,D⟩,rfl,rfl,rfl⟩))
 ·exact di (λ_=>[]) λe=>gL 8 (av [5,5] (rX [4,5,6,7] 2 142 (z+1) (eG.v ⟨(e+2),e,D⟩) [5,5] _ ⟨⟨(e+2),e,D⟩,rfl,rfl,rfl⟩))
 ·exact di (λ_=>[]) λe=>gL 7 (av [5,5] (rX [4,5,6,8] 2 142 (z+1) (eG.v ⟨(e+1),(e+2),D⟩) [5,5] _ ⟨⟨(e+1),(e+2),D⟩,rfl,rfl,rfl⟩))
 ·exact di (λ_=>[]) λe=>gL 8 (av [5,5] (rX [4,5,6,7] 2 142 (z+1) (eG.v ⟨(e+2),(e+1),D⟩) [5,5] _ ⟨⟨(e+2),(e+1),D⟩,rfl,rfl,rfl⟩))
theorem aqv (sites keys dX:Int) (er:Value) (h:sites<1∨sites>8∨keys<1∨keys>20∨dX<0∨dX>1000000):Fl Sv 38 [goInt sites,goInt keys,goInt dX].toArray [aQ 0 er] λv L=>v=.tuple #[.pointer none,er]∧L=[aQ 0 er]:=by
 refine Fl.of 74 λi g=>?_;by_cases a:sites<1
 ·exact av [bT a] (gw 3 [0] [] (Fl.nil (av [] (cU [] [.pointer none,er] _ ⟨rfl,rfl⟩))))
 by_cases b:sites>8
 ·exact av [bF a,bT b] (gw 3 [0] [] (Fl.nil (av [] (cU [] [.pointer none,er] _ ⟨rfl,rfl⟩))))
 by_cases c:keys<1
 ·exact av [bF a,bF b,bT c] (gw 3 [0] [] (Fl.nil (av [] (cU [] [.pointer none,er] _ ⟨rfl,rfl⟩))))
 by_cases d:keys>20
 ·exact av [bF a,bF b,bF c,bT d] (gw 3 [0] [] (Fl.nil (av [] (cU [] [.pointer none,er] _ ⟨rfl,rfl⟩))))
 by_cases e:dX<0
 ·exact av [bF a,bF b,bF c,bF d,bT e] (gw 3 [0] [] (Fl.nil (av [] (cU [] [.pointer none,er] _ ⟨rfl,rfl⟩))))
 have f:dX>1000000:=by omega
 exact av [bF a,bF b,bF c,bF d,bF e,bT f] (gw 3 [0] [] (Fl.nil (av [] (cU [] [.pointer none,er] _ ⟨rfl,rfl⟩))))
def nB(c:Nat):En:=.ob c (.cells #[sv I 0 0] 138)
def x0(s f S a b:Nat)(c:ae Nat)(e:Nat)(d:Int)(g:Nat):aR:=⟨s,0,f,kq S ⟨Y,Y,0⟩,a,b,c,e,0,d,I,0,[],I,0,[],g⟩
def u0(u:Nat):dT:=⟨u,0,.func (.func 56) #[pt u] #[],.nilFunc,.nilFunc⟩
def aqu(e j:Nat)(i:Int)(a:Gc)(b c d:Nat)(v:ag)(L:ae En):Prop:=∃s m g h f l u k,v=.tuple #[pt s,.nilIface]/\f.length=j/\
 L=[gE (Gc.up a+2) (b+2),hE (.chan I) (c+2) (d+2),(x0 s m e g h f l i u).sE,(x0 s m e g h f l i u).mE [] 0,dE k.d s 1 Y 2 1,(x0 s m e g h f l i u).en,(x0 s m e g h f l i u).cE,k.wE 1 0,(x0 s m e g h f l i u).uE ((u0 u).by k)]++f.reverse.map nB
theorem Un (sites keys:Nat) (dX:Int) (a:Gc) (b c d:Nat) (h:1≤sites∧sites≤8∧1≤keys∧keys≤20∧0≤dX∧dX≤1000000):Fl Sv 38 [goInt sites,goInt keys,goInt dX].toArray [gE a b,hE (.chan none) c d] (aqu sites keys dX a b c d):=by
 refine Fl.of 74 λy x=>av [gi sites 1,ER sites 8,gi keys 1,ER keys 20,gi dX 0,ER dX 1000000,
  fu dX 1000001,fu sites 9,Nu sites 0] ?_
 refine Qb [0,3] 6 [] ?_;refine Qd (ι:=Nat×Nat×Nat×Nat) (λp=>[(0,goInt sites),(1,goInt keys),(2,goInt dX),(8,pt p.2.2.2),(33,sv (some p.1) sites sites),(34,.map (some p.2.1)),(35,goInt dX),(36,.chan (some p.2.2.1)),(7,.nilIface)]) (λp=>[gE a b,hE (.chan none) c d,.row 111 3 (some p.1) sites sites (List.replicate sites [.bool false,.bool false,goInt 0]).flatten,.ob p.2.1 (.map #[] 0),.ob p.2.2.1 (.chan 2 #[] false 0 0 false),H7 p.2.2.2 p.1 sites none 0 0 p.2.1 dX (.pointer none)]) ?_ λe=>?_
 ·rintro⟨g,f,D,s⟩
  refine av [] (gL 4 (lX 1 (gL 1 (lX 0 (av [] (gL 0 (av [.g,.x] (pC 135 1 ?_))))))));refine ji (ι:=Option Nat×Nat×List Nat) (λi=>keys-i.2.2.length) (λi=>[(8,pt s),(39,goInt keys),(40,goInt i.2.2.length),(7,.nilIface)]) (λi=>[gE (Gc.up a+1) (b+1),hE (.chan (some D)) (c+1) (d+1),.row 111 3 (some g) sites sites (List.replicate sites [.bool false,.bool false,goInt 0]).flatten,.ob f (.map #[] 0),dE D s 0 false 1 0,H7 s g sites i.1 i.2.2.length i.2.1 f dX (.pointer none),.row 135 1 i.1 i.2.2.length i.2.1 (i.2.2.map pt)]++i.2.2.reverse.map nB) (λi=>i.2.2.length≤keys) (none,0,[]) (Nat.zero_le _) ?_;rintro⟨r,m,j⟩ t q;simp only at t q;by_cases aC:j.length<keys
  ·have e:∀o l z,Rs Sv _ _ _ _ _:=λo l z=>q (o,l,j++[z]) (by simp only[List.length_append,List.length_cons,List.length_nil];omega) (by simp only[List.length_append,List.length_cons,List.length_nil];omega)
   simp only[List.length_append,List.length_cons,List.length_nil,Nat.zero_add,List.map_append,List.map_cons,List.map_nil,List.reverse_append,List.reverse_cons,List.reverse_nil,List.nil_append,List.cons_append]at e;refine cF _ _ (di (λ_=>[fu j.length keys,5]) λz=>kr (app1 96 6 8 j.length ah) ?_);rintro _ _ ⟨o,l,rfl,rfl⟩;refine av [5,aS j.length,.g,.x] (ey [8] (bE ?_));exact cq (e o l z)
  ·have v:j.length=keys:=by omega
   subst v;refine cF _ _ ?_;refine lJ 6 r j.length m ah λn w _=>?_;subst w;refine av [gi j.length j.length] (eR [0,1,5,4] (ax9 s g sites (some n) j.length m f dX D (Gc.up a+1) (b+1) (c+1) (d+1) 1 0) ?_);rintro _ _ ⟨k,rfl,rfl,rfl⟩;refine di (λ_=>[5]) λu=>?_;refine jO 9 [5,5] [] [9,10,11] (Fl.run [8] (av [] (bE ?_)));refine ez [pt s,.nilIface] ([gE (Gc.up a+2) (b+2),hE (.chan none) (c+2) (d+2),.row 111 3 (some g) sites sites (List.replicate sites [.bool false,.bool false,goInt 0]).flatten,.ob f (.map #[] 0),dE k.d s 1 false 2 1,H7 s g sites (some n) j.length m f dX (pt u),.row 135 1 (some n) j.length m (j.map pt),k.wE 1 0,.ob u (.cells #[pt s,goInt 0,.func (.func 56) #[pt u] #[],.chan (some k.w),.chan (some k.t)] 146)]++j.reverse.map nB) ⟨s,g,n,m,j,f,u,k,rfl,rfl,?_⟩;simp[x0,H7,aR.en,aR.sE,aR.mE,aR.cE,aR.uE,u0,dT.by,fY,ff.cells,List.flatMap_replicate]
 refine eM [1,2,4] ⟨?_,?_,?_,trivial⟩
 ·refine Ew (DU 95 111 3 sites [.bool false,.bool false,goInt 0] ah aT) ?_
  rintro _ _ ⟨g,rfl,rfl⟩;refine ib ?_;refine eM [2,4] ⟨?_,?_,trivial⟩
  ·refine lf (λ_=>[]) λf=>?_
   refine eM [4] ⟨?_,trivial⟩
   ·refine lf (λ_=>[]) λD=>?_
    refine eM [5] ⟨lY [] (eM [6] ⟨lf (λ_=>[]) λs=>eM [7] ⟨lY [] (wT ?_),trivial⟩,trivial⟩),trivial⟩;exact cq (e (g,f,D,s))
  ·refine lf (λ_=>[]) λD=>?_
   refine eM [2] ⟨?_,trivial⟩
   ·refine lf (λ_=>[]) λf=>?_
    refine eM [5] ⟨lY [] (eM [6] ⟨lf (λ_=>[]) λs=>eM [7] ⟨lY [] (wT ?_),trivial⟩,trivial⟩),trivial⟩;exact Eu [0,1,2,4,3,5] (cq (e (g,f,D,s)))
 ·refine lf (λ_=>[]) λf=>?_
  refine eM [1,4] ⟨?_,?_,trivial⟩
  ·refine Ew (DU 95 111 3 sites [.bool false,.bool false,goInt 0] ah aT) ?_
   rintro _ _ ⟨g,rfl,rfl⟩;refine ib ?_;refine eM [4] ⟨?_,trivial⟩
   ·refine lf (λ_=>[]) λD=>?_
    refine eM [5] ⟨lY [] (eM [6] ⟨lf (λ_=>[]) λs=>eM [7] ⟨lY [] (wT ?_),trivial⟩,trivial⟩),trivial⟩;exact Eu [0,1,3,2,4,5] (cq (e (g,f,D,s)))
  ·refine lf (λ_=>[]) λD=>?_
   refine eM [1] ⟨?_,trivial⟩
   ·refine Ew (DU 95 111 3 sites [.bool false,.bool false,goInt 0] ah aT) ?_
    rintro _ _ ⟨g,rfl,rfl⟩;refine ib ?_;refine eM [5] ⟨lY [] (eM [6] ⟨lf (λ_=>[]) λs=>eM [7] ⟨lY [] (wT ?_),trivial⟩,trivial⟩),trivial⟩;exact Eu [0,1,4,2,3,5] (cq (e (g,f,D,s)))
 ·refine lf (λ_=>[]) λD=>?_
  refine eM [1,2] ⟨?_,?_,trivial⟩
  ·refine Ew (DU 95 111 3 sites [.bool false,.bool false,goInt 0] ah aT) ?_
   rintro _ _ ⟨g,rfl,rfl⟩;refine ib ?_;refine eM [2] ⟨?_,trivial⟩
   ·refine lf (λ_=>[]) λf=>?_
    refine eM [5] ⟨lY [] (eM [6] ⟨lf (λ_=>[]) λs=>eM [7] ⟨lY [] (wT ?_),trivial⟩,trivial⟩),trivial⟩;exact Eu [0,1,3,4,2,5] (cq (e (g,f,D,s)))
  ·refine lf (λ_=>[]) λf=>?_
   refine eM [1] ⟨?_,trivial⟩
   ·refine Ew (DU 95 111 3 sites [.bool false,.bool false,goInt 0] ah aT) ?_
    rintro _ _ ⟨g,rfl,rfl⟩;refine ib ?_;refine eM [5] ⟨lY [] (eM [6] ⟨lf (λ_=>[]) λs=>eM [7] ⟨lY [] (wT ?_),trivial⟩,trivial⟩),trivial⟩;exact Eu [0,1,4,3,2,5] (cq (e (g,f,D,s)))
end
section
open Go.Conc (G)
theorem ayp(x:aR)(u:dT)(k)(n)(a)(b c e d f)(l:x.sw=u.w):Fl Sv 30 [pt x.s].toArray [(x.bf 0).en,x.uE (u.by k),k.wE c e,dE k.d x.s n Y d f,gE (Gc.up a) b] λv L=>v=.tuple #[]/\L=[x.uE (u.by k),k.wE (c+1) (e+1),dE k.d x.s n U (d+1) (f+1),gE (a+2) (b+2),(x.bf 0).en]:=by
 obtain⟨w,g,nx,i,h⟩:=u;subst l;refine Fl.of 25 λp o=>(av [] (eR [0] (BZ x) ?_));rintro _ _ ⟨rfl,rfl⟩;refine av [] (lX 4 (gL 4 (av [0,1] (lX 2 (gL 2 (av [] (lX 3 (av [G6 (tm 21) (tm 10) x.s] ?_))))))));refine lX 4 (av [] (gL 4 (av [] (gL 3 (av [] ?_)))));refine cM ([(x.bf 1).en]++[x.uE (dT.by ⟨x.sw,g,nx,i,h⟩ k),k.wE (c+1) (e+1),dE k.d x.s n U (d+1) (f+1),gE (a+2) (b+2)]) (du lD ?_);exact zJ [] [x.uE (dT.by ⟨x.sw,g,nx,i,h⟩ k),k.wE (c+1) (e+1),dE k.d x.s n U (d+1) (f+1),gE (a+2) (b+2)] _ (AH F) λm j=>⟨F,by rw[j];rfl⟩
theorem ayn(x:aR)(u:dT)(k)(n)(a)(b c e d f)(l:x.sw=u.w):Fl Sv 30 [pt x.s].toArray [(x.bf 0).en,x.uE (u.by k),k.wE c e,dE k.d x.s n U d f,gE a b] λv L=>v=.tuple #[]/\L=[x.uE (u.by k),k.wE (c+1) (e+1),dE k.d x.s n U (d+1) (f+1),gE (a+1) (b+1),(x.bf 0).en]:=by
 obtain⟨w,g,nx,i,h⟩:=u;subst l;refine Fl.of 25 λp o=>(av [] (eR [0] (BZ x) ?_));rintro _ _ ⟨rfl,rfl⟩;refine av [] (lX 4 (gL 4 (av [0,1] (lX 2 (gL 2 (av [] (lX 3 (av [G6 (tm 21) (tm 10) x.s] (gL 3 (av [] ?_))))))))));refine cM ([(x.bf 1).en]++[x.uE (dT.by ⟨x.sw,g,nx,i,h⟩ k),k.wE (c+1) (e+1),dE k.d x.s n U (d+1) (f+1),gE (a+1) (b+1)]) (du lD ?_);exact zJ [] [x.uE (dT.by ⟨x.sw,g,nx,i,h⟩ k),k.wE (c+1) (e+1),dE k.d x.s n U (d+1) (f+1),gE (a+1) (b+1)] _ (AH F) λm j=>⟨F,by rw[j];rfl⟩
end
section
open Go.Conc (G)
theorem W4{P:aD}{c:Region.Mode}{ops:af bq}{Q:Exit->Act->ax->Prop}{S b:ax->Prop}(h:∀w,S w->b w):∀(n:Nat)(l:af Bool)(a:Act)(w:ax),wpAnyH P c ops Q S n l a w->wpAnyH P c ops Q b n l a w
 |0,_,_,_,q=>q
 |n+1,_,_,_,q=>⟨q.1,λi f=>wpOp_mono (λe d⟨g,j⟩=>⟨h d g,W4 h n _ e d j⟩) (q.2 i f)⟩
def pH(P:aD)(X:Cx)(ops:af bq)(k:ae aJ)(O:ae En->Prop)(n:Nat)(l:af Bool)(V:ae cz)(W:Env)(L:ae En):Prop:=X.kind≠.early->∀c b a w(S:ax->Prop),(∀L w,O L->Kn (L++X.L2) w.heap->S w)->S w->gK X.N W a.tmps->a.defers=V->Kn (L++X.L2) w.heap->w.os=c->w.output=b->wpAnyH P .any ops (q0 P X k c b) S n l a w
section
variable {P:aD}{X:Cx}{ops:af bq}{k:ae aJ}{O:ae En->Prop}{n:Nat}{l:af Bool}{V:ae cz}{W:Env}{L:ae En}
theorem afg(h:Rs P X k V W L)(m:nK .any ops l=[]:=by kernel_rfl):pH P X ops k O 0 l V W L:=λc o b a w S p q d e f g j=>
 wpAnyH_done m ((Fl.nil (ops:=ops) h) o b a w c d e f g j) 0
theorem Wu(r:ae Nat)(h:Mi (λi=>l5 P X ops i V W L λV W L=>O L/\pH P X ops k O n (l.setIfInBounds i U) V W L) r)(b:(nK .any ops l,r.isEmpty)=(r,Y):=by kernel_rfl):pH P X ops k O (n+1) l V W L:=λq z d a w S c G s t u v x=>by
 simp only[fN]at b;obtain⟨b,m⟩:=b;refine wpAnyH_all (rs:=r) b (λe=>by rw[e]at m;cases m) λi y=>wpOp_mono (λp g⟨J,H,j,⟨o,A⟩,B,C,f,D,E⟩=>⟨c j g o f,A q z d p g S c (c j g o f) B C f (D.trans v) (E.trans x)⟩) (QU h y _ a w s t u)
theorem Qe(b:ae Nat)(e:ae (Aw P))(h:pH P X ops k (λd=>O d/\lA P X.N ops L b e W d) n (marks b l) V (xN ops b (oa P X.N ops L b e W) W) L)
  (q:(wB .any ops ops.size b l,Em ops)=(U,U):=by kernel_rfl)
  (s:gY P X.N ops L b e W=(Z (oa P X.N ops L b e W),U,(gY P X.N ops L b e W).2.2.map Pr.rf):=by kernel_rfl):pH P X ops k O (n+b.length) l V W L:=λy v g a w S G u B C p D E=>by
 simp only[fN]at q;unfold lA at h;generalize oa P X.N ops L b e W=t at s h;let j:ax->Prop:=λw=>S w/\∃d,Kn (d++X.L2) w.heap/\gY P X.N ops d b e W=(Z t,U,(gY P X.N ops d b e W).2.2.map Pr.rf);have r:∀w,j w->zP P X.N ops X.L2 b W t w:=λw⟨_,d,m,o⟩=>O9 o m;refine W4 (S:=j) (λw h=>h.1) _ _ _ _ ?_;exact LI (P:=P) (Q:=q0 P X k v g) (md:=.any) (f:=n) (S:=j) (λc a J w h=>by cases h.1) q.2 b l a W t w B r q.1 ⟨u,L,p,s⟩ λx z A=>h y v g x w j (λd H m o=>⟨G d H m.1 o,d,o,m.2⟩) ⟨u,L,p,s⟩ z (A.trans C) p D E
variable {i:Nat}{T:ae cz->Env->ae En->Prop}
theorem Io{P:aD}{N:Nat}{ops:af bq}{L c:ae En}{b:ae Nat}{a:ae (Aw P)}{W:Env}(h:gY P N ops c b a W=(Z (oa P N ops L b a W),U,(gY P N ops c b a W).2.2.map Pr.rf):=by kernel_rfl):lA P N ops L b a W c:=h
theorem Wq(b:ae Nat){d:ae En}{a:af ag}{R:ag->ae En->Prop}(g:Fl P f a d R)(h:∀v c,R v c->O (fill b c L)/\T V (pe W (sn ops i) v) (fill b c L))
  (e:outs b L=Z (d,left b L):=by kernel_rfl)
  (j:((Bp ops W i).bind (λs=>(sE P s .r [] [] []).map λq=>(q.1,q.2.2.2.2)),fits X.N (sn ops i))=(Z (.enter f a,[]),U):=by kernel_rfl):l5 P X ops i V W L λV W L=>O L/\T V W L:=
 Qa g (xJ e) (λ_=>Ni e) h j
theorem Ws{R T:Prop}(h:T)(a:R:=by first|exact True.intro|exact⟨True.intro,Io⟩|exact⟨⟨True.intro,Io⟩,Io⟩|exact⟨⟨⟨True.intro,Io⟩,Io⟩,Io⟩):R/\T:=⟨a,h⟩
end
theorem afa{P:aD}{X:Cx}{a:ae aJ}{V:ae cz}{W:Env}{L:ae En}(n:Nat)
  (d:pH P X (iD a) (tQ a) (λ_=>True) n (qa (iD a).size Y) V W L)
  (j:P.follows .mixedOrders=U:=by kernel_rfl)(c:(FF a,n)=(U,(iD a).size):=by kernel_rfl):Rs P X a V W L:=λf b H m h w e=>by
 subst e;simp only[fN]at c;obtain⟨g,rfl⟩:=c;obtain⟨id,ops,k,rfl⟩:=KH g;simp only[iD,tQ]at d;refine Rn.code ?_;refine wp_region_held (S:=λ_=>True) j ?_;exact d f w.os w.output ⟨b,V⟩ {w with drawn:=w.drawn+1} (λ_=>True) (λ_ _ _ _=>trivial) trivial m F h F F
theorem Pf{L d:ae En}{i:Nat}{S:Hp}{a:ae Nat}{b:Nat}{o:Obj}(f:Kn (L++d) H)(g:L[i]?=Z (.ro S a))(c:S[b]?=Z o)(e:b≠8)(m:b≠10)(j:b∉a):H[b]?=Z o:=by
 have h:=f.at g;rw[<-c];exact h.2 b (aC c) e m j
theorem Lm{P:aD}{L A:ae En}(i:Nat)(S:Hp)(m:ae Nat)(b:Nat)(o:Obj)(s:Sem Next)(v:ag)(g:ae (Aw P))(D:S[b]?=Z o)(B:b≠8)(G:b≠10)(f:b∉m)(E:L[i]?=Z (.ro S m):=by kernel_rfl)(a:((sE P s .r [.ob b o] g []).map λq=>(q.1,q.2.2.2.2))=Z (.value v,match sE P s .r [.ob b o] g []with
                                                                                                                                                                        |some q=>q.2.2.2.2.map Pr.rf
                                                                                                                                                                        |none=>[]):=by kernel_rfl):lU P A L s λu y=>u=v/\y=L:=λw p=>by
 obtain⟨⟨M,z,H,J,K⟩,d,c⟩:=fX.1 a;rw[d]at c;simp only[fN]at c;obtain⟨rfl,C⟩:=c;have h:=zh C;have j:Kn ([.ob b o]++[]) w.heap:=⟨λe a=>by
  simp only[rb,my]at a;subst a;exact Pf p E D B G f,by simp⟩
 obtain⟨t,r,_⟩:=AS _ _ _ _ _ [] _ _ _ _ _ w d h j (λx f=>by cases f);obtain⟨rfl,_⟩:=F7 _ _ _ _ _ w t d r j.left h;exact⟨v,t,L,r,F,F,⟨F,F⟩,p⟩
theorem Kn.MS{L g:ae En}{i:Nat}{S:Hp}{d:ae Nat}{b:Nat}{o:Obj}(j:Kn (L++g) H)(m:L[i]?=Z (.ro S d))(t:S[b]?=Z o)(s:b≠8)(v:b≠10)(f:b∉d):Kn (L.set i (.ro S (b::d))++[.ob b o]++g) H:=by
 have u:=j.at m;have q:H[b]?=Z o:=Pf j m t s v f;have r:Kn (L.set i (.ro S (b::d))++g) H:=yf j m ⟨u.1,λx E G q3 J=>u.2 x E G q3 λh=>J (eK _ h)⟩ (λx f=>.inl ⟨f.1,f.2.1,f.2.2.1,λh=>f.2.2.2 (eK _ h)⟩) (dt _) λx _ _=>rfl;refine Kn.perm (L:=.ob b o::(L.set i (.ro S (b::d))++g)) ⟨λe c=>?_,mQ.2 ⟨λe c x C p=>?_,r.nd⟩⟩ (by simpa using(qf (a:=En.ob b o) (l₁:=L.set i (.ro S (b::d))) (l₂:=g)).symm)
 ·rcases bM.1 c with rfl|c
  ·exact q
  ·exact r.sat e c
 ·cases C
  obtain⟨A,B,rfl,lq⟩:=PN m;rw[lq,iL]at c;rw[iL]at j;have y:=j.nd;rw[CH]at y;obtain⟨_,w,D⟩:=y;rw[List.cons_append,mQ]at w;have z:(En.ro S d).own b:=⟨aC t,s,v,f⟩;rcases pz.1 c with c|c
  ·exact D e c (.ro S d) (eX ..) b p z
  ·rcases bM.1 c with rfl|c
   ·exact p.2.2.2 (eX ..)
   ·exact w.1 e c b z p
theorem Kn.back{A m:ae En}{S:Hp}{j:ae Nat}{b:Nat}{o:Obj}(f:Kn (.ro S (b::j)::.ob b o::(A++m)) H)(s:S[b]?=Z o):Kn (.ro S j::(A++m)) H:=by
 have q:=f.nd;rw[mQ,mQ]at q;obtain⟨t,u,v⟩:=q;have p:(En.ro S (b::j)).holds H:=f.sat _ (eX ..);have r:H[b]?=Z o:=f.sat (.ob b o) (eK _ (eX ..));refine⟨λe a=>?_,mQ.2 ⟨λe a x c g=>?_,v⟩⟩
 ·rcases bM.1 a with rfl|a
  ·refine⟨p.1,λx c g q3 w=>?_⟩
   by_cases e:x=b
   ·subst e;rw[r,s]
   ·exact p.2 x c g q3 λh=>(bM.1 h).elim e w
  ·exact f.sat e (eK _ (eK _ a))
 ·by_cases d:x=b
  ·subst d
   exact u e a x F g
  ·exact t e (eK _ a) x ⟨c.1,c.2.1,c.2.2.1,λh=>(bM.1 h).elim d c.2.2.2⟩ g
theorem Fl.MS{P:aD}{g:af ag}{S:Hp}{d:ae Nat}{b:Nat}{o:Obj}{j:ae En}{R:ag->ae En->Prop}(p:S[b]?=Z o)(s:b≠8)(y:b≠10)(x:b∉d)(h:Fl P f g (.ob b o::j) λv L=>∃c,R v c/\L=.ob b o::c):Fl P f g (.ro S d::j) λv L=>∃c,R v c/\L=.ro S d::c:=λm H t w e=>by
 have q:=Kn.MS (i:=0) t F p s y x;have r:Kn ((.ob b o::j)++(.ro S (b::d)::m)) H:=q.perm (by
  simp only[List.set_cons_zero,List.cons_append,iL,List.nil_append];refine((qf (a:=En.ob b o) (l₁:=En.ro S (b::d)::j) (l₂:=m))).trans ?_;exact((qf (a:=En.ro S (b::d)) (l₁:=j) (l₂:=m)).symm.cons _))
 refine Fn.mono (h (.ro S (b::d)::m) H r w e) ?_;rintro v D ⟨z,B,_,⟨c,u,rfl⟩,C⟩;refine⟨z,B,.ro S d::c,⟨c,u,F⟩,?_⟩;refine Kn.back (A:=c) (b:=b) (o:=o) (C.perm ?_) p;simp only[List.cons_append];exact((qf (a:=En.ro S (b::d)) (l₁:=c) (l₂:=m)).cons _).trans (CC ..)
end
section
open Go.Conc (G)
section
variable {P:aD}{X:Cx}{W:ae aJ}{T:ae cz}{V:Env}{L:ae En}
abbrev H8(n:Nat)(P:aD)(X:Cx)(W:ae aJ)(T:ae cz)(V:Env)(L:ae En)(a:ae (Aw P))(z:Md:=.w):Cf P:=mE X.N n ⟨W,T,V,L,z,a,[]⟩
theorem Et(n:Nat)(a:ae (Aw P))(k:Rs P X (H8 n P X W T V L a).todo (H8 n P X W T V L a).ds (H8 n P X W T V L a).env (H8 n P X W T V L a).L)(j:(H8 n P X W T V L a).pr=(H8 n P X W T V L a).rf:=by kernel_rfl):Rs P X W T V L:=λc b H l i w e=>by
 subst e;obtain⟨o,p,f,g,h,d⟩:=TZ (fn:=X.fn) (cs:=X.cs) (L2:=X.L2) (N:=X.N) c n ⟨W,T,V,L,.w,a,[]⟩ b w (EP j) ⟨l,i,λx m=>by cases m⟩;exact Rh.steps f g h (k c o p.heap d.env d.kn)
theorem wR(a:ae (Aw P))(v:ag)(f:ae En)(h:Rs P X (sW W) T (pe V (kF W) v) f)(b:((mM W V).bind (λs=>(sE P s .w L a []).map λq=>(q.1,q.2.2.1,q.2.2.2.1.isEmpty,q.2.2.2.2)),fits X.N (kF W))=(iQ (.value v,f,U,(((mM W V).bind (λs=>(sE P s .w L a []).map λq=>q.2.2.2.2)).getD []).map Pr.rf),U):=by kernel_rfl):Rs P X W T V L:=by
 simp only[fN]at b;obtain⟨b,y⟩:=b;obtain⟨s,g,r⟩:=nj.1 b;obtain⟨⟨n,z,d,o,c⟩,i,j⟩:=fX.1 r;simp only[fN]at j;obtain⟨rfl,rfl,_,k⟩:=j;have m:∀p∈c,p.ok:=zh (by
  have e:(((mM W V).bind (λs=>(sE P s .w L a []).map λq=>q.2.2.2.2)).getD [])=c:=by rw[g];show((sE P s .w L a []).map _).getD []=c;rw[i];rfl
  rw[e]at k;exact k)
 refine kr (s:=s) (Q:=λu l=>u=v/\l=d) (λw t=>?_) (λu l A=>?_) (by rw[g,y])
 ·obtain⟨H,C,D,E,G,_⟩:=AS s .w z L d X.L2 a o [] c _ w i m t (λx B=>by cases B)
  exact⟨v,H,d,C,D,E,⟨F,F⟩,G⟩
 ·obtain⟨rfl,rfl⟩:=A
  exact h
theorem Wo(c:ae (Aw P))(v:Nat->ag)(b:Nat->ae En)(h:∀y,Rs P X (sW W) T (pe V (kF W) (v y)) (b y))(a:∀y,((mM W V).bind (λs=>(sE P s (.n y) L c []).map λq=>(q.1,q.2.2.1,q.2.2.2.1.isEmpty,q.2.2.2.2)),fits X.N (kF W))=(iQ (.value (v y),b y,U,(((mM W V).bind (λs=>(sE P s (.n y) L c []).map λq=>q.2.2.2.2)).getD []).map Pr.rf),U):=by intro y;kernel_rfl):Rs P X W T V L:=by
 have d:=a 0;simp only[fN]at d;obtain⟨d,B⟩:=d;obtain⟨s,g,_⟩:=nj.1 d;refine kr (s:=s) (Q:=λu l=>∃y,u=v y/\l=b y) (λw A=>?_) (λu l C=>?_) (by rw[g,B])
 ·have a:=a w.heap.size
  simp only[fN]at a;obtain⟨a,_⟩:=a;obtain⟨N,m,t⟩:=nj.1 a;rw[g]at m;cases m;obtain⟨⟨n,z,M,r,f⟩,i,j⟩:=fX.1 t;simp only[fN]at j;obtain⟨rfl,rfl,_,k⟩:=j;have o:∀p∈f,p.ok:=zh (by
   have e:(((mM W V).bind (λs=>(sE P s (.n w.heap.size) L c []).map λq=>q.2.2.2.2)).getD [])=f:=by rw[g];show((sE P s (.n w.heap.size) L c []).map _).getD []=f;rw[i];rfl
   rw[e]at k;exact k)
  obtain⟨K,E,G,H,J,_⟩:=AS s (.n w.heap.size) z L (b w.heap.size) X.L2 c r [] f _ w i o A (λx D=>by cases D;rfl);exact⟨v w.heap.size,K,b w.heap.size,E,G,H,⟨w.heap.size,F,F⟩,J⟩
 ·obtain⟨y,rfl,rfl⟩:=C
  exact h y
theorem lU.val{b:ae En}{s:Sem Next}{v:ag}(p:∀w,s.run P w=.ok (.value v) w):lU P b L s λu a=>u=v/\a=L:=λw c=>⟨v,w,L,p w,F,F,⟨F,F⟩,c⟩
end
def taS(x:ag)(a b:aK)(c:Bool):Sem Next:=Sem.bind (Instr.typeAssert x a b c) λv=>.pure (.value v)
theorem ayK{P:aD}{x v:ag}{a b:aK}{c:Bool}(h:∀w,(Instr.typeAssert x a b c).run P w=.ok v w)(w:ax):(taS x a b c).run P w=.ok (.value v) w:=by
 show((Instr.typeAssert x a b c)>>=λv=>(qi (mR v):Sem Next)).run P w=_;rw[fK,h w];rfl
def aaG(P:aD)(t b:aK):aj Bool:=match P.underlying b with
 |some (.interface a)=>(P.info? t).map λi=>(lacking a i.methods).isEmpty
 |_=>I
theorem PV{P:aD}{L f:ae En}(t a b:aK)(v:ag)(h:(aaG P t b,(P.info? b).map (·.zero))=(Z Y,Z (Z .nilIface)):=by kernel_rfl):lU P f L (taS (.iface t v) a b U) λu e=>u=.tuple #[.nilIface,.bool Y]/\e=L:=by
 simp only[fN]at h;obtain⟨c,g⟩:=h;unfold aaG at c;split at c
 ·rename_i d i
  exact lU.val (ayK λw=>run_typeAssert_lacksB i c g v a w)
 ·cases c
abbrev aY(a:aU):ag:=.iface 272 (.pointer (Z a))
def Ab(c:BinOp)(t:aK)(p q:iP)(a b:ag):Sem Next:=Sem.bind (Sem.bind (lF c t p q a b) λ_=>binOp c t a b) λv=>.pure (.value v)
theorem Jm{c:BinOp}{t:aK}{p q:iP}{a b v:ag}{w:ax}(d:(lF c t p q a b).run Sv w=.ok () w)(e:(binOp c t a b).run Sv w=.ok v w):(Ab c t p q a b).run Sv w=.ok (.value v) w:=by
 show(((lF c t p q a b)>>=λ_=>binOp c t a b)>>=λv=>(qi (mR v):Sem Next)).run Sv w=_;rw[fK,fK,d];simp only[fy];rw[e];rfl
theorem V4:∃a,Sv.underlying 78=Z (.interface a):=by
 have h:(match Sv.underlying 78 with
  |some (.interface _)=>U
  |_=>Y)=U:=by kernel_rfl
 split at h
 ·rename_i a b;exact⟨a,b⟩
 ·cases h
theorem UM(t e:aK)(h:(Sv.underlying t,(Sv.info? t).map (·.comparable),(Sv.info? e).map λi=>Nat.ble 1 i.size)=(Z (.pointer e),Z U,Z U)):Sv.underlying t=Z (.pointer e)/\(∃i,Sv.info? t=Z i/\i.comparable=U)/\∃j,Sv.info? e=Z j/\j.size≠0:=by
 simp only[fN]at h;obtain⟨a,b,c⟩:=h;obtain⟨i,f,d⟩:=fX.1 b;obtain⟨j,g,k⟩:=fX.1 c;exact⟨a,⟨i,f,d⟩,j,g,by have:=zH k;omega⟩
theorem aiP(t e:aK)(p q:iP)(a:aU)(h:(Sv.underlying t,(Sv.info? t).map (·.comparable),(Sv.info? e).map λi=>Nat.ble 1 i.size)=(Z (.pointer e),Z U,Z U))(w:ax):(Ab .eql 78 p q (.iface t (.pointer (Z a))) (.iface t (.pointer (Z a)))).run Sv w=.ok (.value (.bool U)) w:=by
 obtain⟨l,g⟩:=V4;obtain⟨b,⟨i,d,c⟩,j,f,k⟩:=UM t e h;exact Jm (by rfl) (run_eql_iface_ptr_same w a g b d c f)
theorem aqt(t e:aK)(p q:iP)(a:aU)(h:(Sv.underlying t,(Sv.info? t).map (·.comparable),(Sv.info? e).map λi=>Nat.ble 1 i.size)=(Z (.pointer e),Z U,Z U))(w:ax):(Ab .neq 78 p q (.iface t (.pointer (Z a))) (.iface t (.pointer (Z a)))).run Sv w=.ok (.value (.bool Y)) w:=by
 obtain⟨m,k⟩:=V4;obtain⟨c,⟨i,f,d⟩,j,g,l⟩:=UM t e h;refine Jm (by rfl) ?_;have:=run_eql_iface_ptr_same (P:=Sv) w a k c f d g;simp only[binOp]at this⊢;rw[fK]at this⊢;cases hr:bP Sv (Op.equal 78 (.iface t (.pointer (Z a))) (.iface t (.pointer (Z a)))) w with
 |ok b n=>
  rw[hr]at this;simp only[fy]at this⊢;cases this;rfl
 |halt=>rw[hr]at this;cases this
abbrev X9(t e:aK)(p q:iP)(a:aU)(h:(Sv.underlying t,(Sv.info? t).map (·.comparable),(Sv.info? e).map λi=>Nat.ble 1 i.size)=(Z (.pointer e),Z U,Z U):=by kernel_rfl):Aw Sv:=.s (Ab .eql 78 p q (.iface t (.pointer (Z a))) (.iface t (.pointer (Z a)))) (.value (.bool U)) (aiP t e p q a h)
abbrev neN(t e:aK)(p q:iP)(a:aU)(h:(Sv.underlying t,(Sv.info? t).map (·.comparable),(Sv.info? e).map λi=>Nat.ble 1 i.size)=(Z (.pointer e),Z U,Z U):=by kernel_rfl):Aw Sv:=.s (Ab .neq 78 p q (.iface t (.pointer (Z a))) (.iface t (.pointer (Z a)))) (.value (.bool Y)) (aqt t e p q a h)
structure Er(S:Hp)(ex:ae Nat)(a:aU):Prop where
 ob:∃c t,S[a.block]?=Z (.cells c t (0,0))
 n8:a.block≠8
 n10:a.block≠10
 nx:a.block∉ex
theorem eqN{L g:ae En}(i:Nat)(S:Hp)(c:ae Nat)(p q:iP)(a b:aU)(l:Er S c a)(m:Er S c b)(h:a≠b)(e:L[i]?=Z (.ro S c):=by kernel_rfl):lU Sv g L (Ab .eql 78 p q (aY a) (aY b)) λu f=>u=.bool Y/\f=L:=λw d=>by
 obtain⟨H,r⟩:=V4;obtain⟨k,⟨t,v,n⟩,j,o,s⟩:=UM 272 292 al;obtain⟨⟨E,J,x⟩,y,q3,C⟩:=l;obtain⟨⟨G,K,z⟩,A,B,D⟩:=m;exact⟨_,w,L,Jm (by rfl) (run_eql_iface_ptr_other w r k v n o s h (Pf d e x y q3 C) (Pf d e z A B D)),F,F,⟨F,F⟩,d⟩
end
section
open Go.Conc (G)
abbrev iw(i:Nat):ag:=.iface 235 (.agg #[.pointer (Z ⟨6,i,I⟩)])
theorem afh{P:aD}{X:Cx}{c:af bq}{k:ae aJ}{f:ae En->Prop}{n:Nat}{l:af Bool}{g:ae cz}{b:Env}{L:ae En}(d:Env)(h:pH P X c k f n l g d L)(u:d.map (λp=>lk b p.1)=d.map λp=>Z p.2:=by kernel_rfl):pH P X c k f n l g b L:=λj z e a w S s y i m o q r=>
 h j z e a w S s y ⟨i.size,λt v x=>i.get t v (Ot d t v u x)⟩ m o q r
theorem aeC (q:Nat) (nm:ByteArray) (i:Int) (er:Value):Fl Sv 62 [pt q].toArray [iM q nm i er] λv L=>v=er∧L=[iM q nm i er]:=by
 refine Fl.of 7 λb a=>av [0] (cU [] [er] _ ⟨rfl,rfl⟩)
theorem anI (S:Hp) (ex:List Nat) (q:Nat) (nm:ByteArray) (at_:Int) (o p:Addr) (ho:Er S ex o) (hp:Er S ex p):Fl Sv 109 [.iface 154 (pt q),aY o,.bool true].toArray [.ro S ex,iM q nm at_ (aY p)] λv L=>(v=.bool (decide (p=o)))∧L=[.ro S ex,iM q nm at_ (aY p)]:=by
 refine Fl.of 54 λb a=>av [.g,.d,.x] (Et 8 [] (kr (PV 154 78 244 (pt q)) ?_));rintro _ _ ⟨rfl,rfl⟩;refine av [] (eR [1] (aeC q nm at_ (aY p)) ?_);rintro _ _ ⟨rfl,rfl⟩;by_cases h:p=o
 ·subst h
  refine av [.d] (av [.g,X9 272 292 (tm 16) (tm 17) p] ?_);exact cU [] [.bool true] _ ⟨by simp[qV],rfl⟩
 ·refine av [.d] (av [.g] (kr (eqN 0 S ex (tm 16) (tm 17) p o hp ho h) ?_))
  rintro _ _ ⟨rfl,rfl⟩;refine Et 8 [] (kr (PV 272 78 244 (.pointer (some p))) ?_);rintro _ _ ⟨rfl,rfl⟩;refine Et 24 [] (kr (PV 272 78 242 (.pointer (some p))) ?_);rintro _ _ ⟨rfl,rfl⟩;refine Et 6 [] (kr (PV 272 78 243 (.pointer (some p))) ?_);rintro _ _ ⟨rfl,rfl⟩;exact av [] (cU [] [.bool false] _ ⟨by simp[qV,h],rfl⟩)
theorem anK(S:Hp)(b:ae Nat)(q:Nat)(c:ByteArray)(a:Int)(o p:aU)(d:Er S b o)(e:Er S b p):Fl Sv 64 [.iface 154 (pt q),aY o].toArray [.ro S b,iM q c a (aY p)] λv L=>(v=.bool (decide (p=o)))/\L=[.ro S b,iM q c a (aY p)]:=by
 refine Fl.of 22 λg f=>av [.d,.d] (wR [] (iw 272) [.ro S b,iM q c a (aY p)] (av [] (wR [] (.bool U) [.ro S b,iM q c a (aY p)] (av [] (eR [0,1] (anI S b q c a o p d e) ?_)))));rintro _ _ ⟨rfl,rfl⟩;exact av [] (cU [] [.bool (decide (p=o))] _ ⟨F,F⟩)
abbrev Pl(i y n:Nat):ag:=.agg #[.pointer (Z ⟨6,i,I⟩),pt y,.int .u64 n]
theorem afT (q t z:Nat):Fl Sv 107 [.iface 154 (pt q),.iface 156 (pt t),Pl 156 z 150,iw 154].toArray [.ob t (.cells #[.pointer none] 154),.ob z (.cells #[pt t] 156)] λv L=>v=.bool true∧L=[.ob t (.cells #[pt q] 154),.ob z (.cells #[pt t] 156)]:=by
 refine Fl.of 62 λb a=>di (λ_=>[.g]) λx=>?_;refine wR [] (iw 154) [.ob t (.cells #[.pointer none] 154),.ob z (.cells #[pt t] 156),.ob x (.cells #[.pointer (some ⟨6,156,none⟩),pt z,.int .u64 150] 199)] (av [] ?_);refine wR [] (.bool true) [.ob t (.cells #[.pointer none] 154),.ob z (.cells #[pt t] 156),.ob x (.cells #[.pointer (some ⟨6,156,none⟩),pt z,.int .u64 150] 199)] (av [2,2,2] ?_);refine wR [1] (Pl 154 t 406) [.ob t (.cells #[.pointer none] 154),.ob z (.cells #[pt t] 156),.ob x (.cells #[.pointer (some ⟨6,156,none⟩),pt z,.int .u64 150] 199)] (av [] ?_);refine Wo [] (λy=>Pl 154 y 150) (λy=>[.ob t (.cells #[.pointer none] 154),.ob z (.cells #[pt t] 156),.ob x (.cells #[.pointer (some ⟨6,156,none⟩),pt z,.int .u64 150] 199),.ob y (.cells #[pt q] 154)]) λy=>av [] ?_;refine wR [3,0] (.tuple #[]) [.ob t (.cells #[pt q] 154),.ob z (.cells #[pt t] 156),.ob x (.cells #[.pointer (some ⟨6,156,none⟩),pt z,.int .u64 150] 199),.ob y (.cells #[pt q] 154)] (av [] ?_);exact cU [2,3] [.bool true] _ ⟨rfl,rfl⟩
theorem afU (q t:Nat):Fl Sv 61 [.iface 154 (pt q),.iface 156 (pt t)].toArray [.ob t (.cells #[.pointer none] 154),.ob 5 (.cells #[iw 78] 202)] λv L=>v=.bool true∧L=[.ob t (.cells #[pt q] 154),.ob 5 (.cells #[iw 78] 202)]:=by
 refine Fl.of 42 λb a=>av [.d,.d] ?_;refine Wo [] (λy=>Pl 156 y 150) (λy=>[.ob t (.cells #[.pointer none] 154),.ob 5 (.cells #[iw 78] 202),.ob y (.cells #[pt t] 156)]) λz=>di (λ_=>[3,3,3,3,3,3]) λx=>?_;refine wR [] (iw 156) [.ob t (.cells #[.pointer none] 154),.ob 5 (.cells #[iw 78] 202),.ob z (.cells #[pt t] 156),.ob x (.cells #[.pointer (some ⟨6,156,none⟩),pt z,.int .u64 150] 199)] (av [] ?_);refine wR [] (.int .u8 22) [.ob t (.cells #[.pointer none] 154),.ob 5 (.cells #[iw 78] 202),.ob z (.cells #[pt t] 156),.ob x (.cells #[.pointer (some ⟨6,156,none⟩),pt z,.int .u64 150] 199)] (av [.d,3,3,3] ?_);refine wR [2] (.bool false) [.ob t (.cells #[.pointer none] 154),.ob 5 (.cells #[iw 78] 202),.ob z (.cells #[pt t] 156),.ob x (.cells #[.pointer (some ⟨6,156,none⟩),pt z,.int .u64 150] 199)] (av [] ?_);refine wR [] (iw 154) [.ob t (.cells #[.pointer none] 154),.ob 5 (.cells #[iw 78] 202),.ob z (.cells #[pt t] 156),.ob x (.cells #[.pointer (some ⟨6,156,none⟩),pt z,.int .u64 150] 199)] (av [] ?_);refine wR [] (.int .u8 22) [.ob t (.cells #[.pointer none] 154),.ob 5 (.cells #[iw 78] 202),.ob z (.cells #[pt t] 156),.ob x (.cells #[.pointer (some ⟨6,156,none⟩),pt z,.int .u64 150] 199)] (av [.d,1] ?_);refine wR [] (.bool true) [.ob t (.cells #[.pointer none] 154),.ob 5 (.cells #[iw 78] 202),.ob z (.cells #[pt t] 156),.ob x (.cells #[.pointer (some ⟨6,156,none⟩),pt z,.int .u64 150] 199)] (av [3,3,3] ?_);refine eR [0,2] (afT q t z) ?_;rintro _ _ ⟨rfl,rfl⟩;exact av [] (cU [2,3] [.bool true] _ ⟨rfl,rfl⟩)
theorem ajf(A:Nat→Addr):Fl Sv 63 [].toArray [aQ 0 (aY (A 0)),aQ 1 (aY (A 1)),aQ 2 (aY (A 2)),aQ 3 (aY (A 3)),aQ 4 (aY (A 4))] λv L=>∃z,v=sv (some z) 5 5∧L=[aQ 0 (aY (A 0)),aQ 1 (aY (A 1)),aQ 2 (aY (A 2)),aQ 3 (aY (A 3)),aQ 4 (aY (A 4)),.ob z (.cells #[aY (A 0),aY (A 1),aY (A 2),aY (A 3),aY (A 4)] 78)]:=by
 refine Fl.of 7 λb a=>di (λ_=>[0,1,2,3,4]) λz=>ez [sv (some z) 5 5] _ ⟨z,rfl,rfl⟩
theorem Us(b:ByteArray)(a:Int):Fl Sv 40 [.nilIface,.string b,goInt a].toArray [] λv L=>v=goInt 0∧L=[]:=by
 refine Fl.of 60 λd c=>av [.d] (ez [goInt 0] _ ⟨rfl,rfl⟩)
def bQ(S:Hp)(a:ae Nat)(A:Nat->aU):ae En:=[.ro S a,aQ 0 (aY (A 0)),aQ 1 (aY (A 1)),aQ 2 (aY (A 2)),aQ 3 (aY (A 3)),aQ 4 (aY (A 4)),.ob 5 (.cells #[iw 78] 202)]
structure rj(S:Hp)(ex:ae Nat)(A:Nat->aU):Prop where
 ok:∀i,i<5->Er S ex (A i)
 inj:∀i j,i<5->j<5->A i=A j->i=j
theorem Ut (S:Hp) (ex:List Nat) (A:Nat→Addr) (hA:rj S ex A) (q j:Nat) (hj:j<5) (nm:ByteArray) (at_:Int):Fl Sv 40 [.iface 154 (pt q),.string nm,goInt at_].toArray (bQ S ex A++[iM q nm at_ (aY (A j))]) λv L=>v=goInt ((j+1:Nat):Int)∧L=bQ S ex A++[iM q nm at_ (aY (A j))]:=by
 refine Fl.of 60 λl k=>di (λ_=>[.d]) λt=>?_;refine afa 35 (Qe (n:=33) [0,1] [] (Wu [2] ⟨Wq [8,6] (afU q t) ?_,trivial⟩));rintro _ _ ⟨rfl,rfl⟩;refine Ws ?_;refine Qe (n:=3) [3,4,5,6,7,8,9,10,11,12,13,14,15,16,17,18,19,20,21,22,23,24,25,26,27,29,30,31,32] [8,neN 154 158 (tm 17) (tm 19) ⟨q,0,none⟩,8,7,bB (a:=!(nm.toList==nm.toList)) (b:=false) ba,8,7,po at_ at_ rfl,8,8,7] (afh [(0,.iface 154 (pt q)),(6,goInt 0),(38,.bool false),(39,pt q),(44,aY (A j))] (Wu [28] ⟨Wq [7] (aeC q nm at_ (aY (A j))) ?_,trivial⟩));rintro _ _ ⟨rfl,rfl⟩;refine Ws (Qe (n:=0) [33,34] [neN 272 292 (tm 40) (tm 44) (A j)] (afg ?_));refine av [] (eR [1,2,3,4,5] (ajf A) ?_);rintro _ _ ⟨z,rfl,rfl⟩;refine av [.g,.x] ?_;refine ji (ι:=Nat) (λi=>5-i) (λi=>[(0,.iface 154 (pt q)),(47,sv (some z) 5 5),(48,goInt (5:Nat)),(49,goInt i),(6,goInt 0)]) (λ_=>[.ro S ex,aQ 0 (aY (A 0)),aQ 1 (aY (A 1)),aQ 2 (aY (A 2)),aQ 3 (aY (A 3)),aQ 4 (aY (A 4)),.ob 5 (.cells #[iw 78] 202),iM q nm at_ (aY (A j)),.ob t (.cells #[pt q] 154),.ob z (.cells #[aY (A 0),aY (A 1),aY (A 2),aY (A 3),aY (A 4)] 78)]) (λi=>i≤j) 0 (Nat.zero_le _) ?_;intro i m h;have g:[aY (A 0),aY (A 1),aY (A 2),aY (A 3),aY (A 4)][i*1]?=some (aY (A i)):=by
  have f:i=0∨i=1∨i=2∨i=3∨i=4:=by omega
  rcases f with rfl|rfl|rfl|rfl|rfl<;>rfl
 refine av [fu i (5:Nat),ix 159 1 z 5 5 i i ⟨rfl,by omega⟩,rr 9 g] ?_;refine eR [0,7] (anK S ex q nm at_ (A i) (A j) (hA.ok i ah) (hA.ok j hj)) ?_;rintro _ _ ⟨rfl,rfl⟩;by_cases d:i=j
 ·subst d
  have c:decide (A i=A i)=true:=by simp
  rw[c];exact av [aS i] (cU [8,9] [goInt ((i+1:Nat):Int)] _ ⟨rfl,rfl⟩)
 ·have c:decide (A j=A i)=false:=decide_eq_false λe=>d (hA.inj i j ah hj e.symm)
  rw[c];refine av [aS i,.g,.x] ?_;exact cq (h (i+1) ah ah)
end
section
open Go.Conc (G)
theorem ar5{b c:Int}{d:List En}{R:Nat→List En→Prop}(f:Fl Sv 38 [goInt a,goInt b,goInt c].toArray d λv L=>∃s,v=.tuple #[pt s,.nilIface]∧R s L):Fl Sv 21 [goInt a,goInt b,goInt c].toArray d λv L=>∃s,v=.tuple #[pt s,goInt 0]∧R s L:=by
 refine Fl.of 27 λi h=>av [] (lW [] d f ?_);rintro _ g ⟨s,rfl,e⟩;exact av [.d] (ez [pt s,goInt 0] _ ⟨s,rfl,e⟩)
theorem ar4{b c:Int}(p:Addr)(h:a<1∨a>8∨b<1∨b>20∨c<0∨c>1000000):Fl Sv 21 [goInt a,goInt b,goInt c].toArray [aQ 0 (aY p)] λv L=>v=.tuple #[.pointer none,goInt 1]∧L=[aQ 0 (aY p)]:=by
 refine Fl.of 27 λe d=>av [] (eR [0] (aqv a b c (aY p) h) ?_);rintro _ _ ⟨rfl,rfl⟩;exact av [.d,0,X9 272 292 (tm 22) (tm 23) p] (cU [] [.pointer none,goInt 1] _ ⟨rfl,rfl⟩)
theorem ar6{s:Nat}{i:Int}{a:List En}{R:Int→List En→Prop}(c:Fl Sv 41 [pt s,goInt i].toArray a λv L=>∃r,v=.tuple #[goInt r,.nilIface]∧R r L):Fl Sv 24 [pt s,goInt i].toArray a λv L=>∃r,v=.tuple #[goInt r,goInt 0]∧R r L:=by
 refine Fl.of 18 λf e=>av [] (lW [] a c ?_);rintro _ d ⟨r,rfl,b⟩;refine av [] (IU (Us ⟨#[80,105,99,107]⟩ i) ?_);rintro _ _ ⟨rfl,rfl⟩;exact av [] (ez [goInt r,goInt 0] _ ⟨r,rfl,b⟩)
theorem ab8{S:Hp}{a:List Nat}{A:Nat→Addr}(c:rj S a A){s:Nat}(e:j<5){i:Int}{b L1:List En}(d:Fl Sv 41 [pt s,goInt i].toArray b λv L=>∃q,v=.tuple #[goInt 0,.iface 154 (pt q)]∧L=(bQ S a A++[iM q ⟨#[80,105,99,107]⟩ i (aY (A j))])++L1):Fl Sv 24 [pt s,goInt i].toArray b λv L=>v=.tuple #[goInt 0,goInt ((j+1:Nat):Int)]∧L=bQ S a A++L1:=by
 refine Fl.of 18 λg f=>av [] (lW [] b d ?_);rintro _ _ ⟨q,rfl,rfl⟩;refine cM ((bQ S a A++[iM q ⟨#[80,105,99,107]⟩ i (aY (A j))])++L1) (cF _ _ (av [] (lW [] _ (Ut S a A c q j e ⟨#[80,105,99,107]⟩ i) ?_)));rintro _ _ ⟨rfl,rfl⟩;exact av [] (ey [7] (bE (ez [goInt 0,goInt ((j+1:Nat):Int)] _ ⟨rfl,rfl⟩)))
theorem asb{s:Nat}{a:List En}{R:Bool→List En→Prop}(c:Fl Sv 42 [pt s].toArray a λv L=>∃r,v=.tuple #[.bool r,.nilIface]∧R r L):Fl Sv 25 [pt s].toArray a λv L=>∃r,v=.tuple #[.bool r,goInt 0]∧R r L:=by
 refine Fl.of 14 λf e=>av [] (lW [] a c ?_);rintro _ d ⟨r,rfl,b⟩;refine av [] (IU (Us ⟨#[83,119,101,101,112]⟩ 0) ?_);rintro _ _ ⟨rfl,rfl⟩;exact av [] (ez [.bool r,goInt 0] _ ⟨r,rfl,b⟩)
theorem asa{S:Hp}{a:List Nat}{A:Nat→Addr}(c:rj S a A){s:Nat}(e:j<5){b L1:List En}(d:Fl Sv 42 [pt s].toArray b λv L=>∃q,v=.tuple #[.bool false,.iface 154 (pt q)]∧L=(bQ S a A++[iM q ⟨#[83,119,101,101,112]⟩ 0 (aY (A j))])++L1):Fl Sv 25 [pt s].toArray b λv L=>v=.tuple #[.bool false,goInt ((j+1:Nat):Int)]∧L=bQ S a A++L1:=by
 refine Fl.of 14 λg f=>av [] (lW [] b d ?_);rintro _ _ ⟨q,rfl,rfl⟩;refine cM ((bQ S a A++[iM q ⟨#[83,119,101,101,112]⟩ 0 (aY (A j))])++L1) (cF _ _ (av [] (lW [] _ (Ut S a A c q j e ⟨#[83,119,101,101,112]⟩ 0) ?_)));rintro _ _ ⟨rfl,rfl⟩;exact av [] (ey [7] (bE (ez [.bool false,goInt ((j+1:Nat):Int)] _ ⟨rfl,rfl⟩)))
theorem ab1 {s:Nat} {g0:Option Nat} {kP:Nat} {pr:List Stp} {L0:List En} {Q:Int→Value→List En→Prop} {R:Int→Int→List En→Prop} (hl:pr.length≤4398046511104)
  (hf:∀g d,(pr=[]∨(0<pr.length∧∃A,g=some A))→Fl Sv 39 [pt s,sv g pr.length d].toArray (bK g d pr::L0) λv L=>∃id c a,v=.tuple #[goInt id,c]∧Q id c a∧L=bK g d pr::a)
  (hn:∀id c a,Q id c a→Fl Sv 40 [c,.string uj,goInt 0].toArray a λv L=>∃k,v=goInt k∧R id k L):
  Fl Sv 23 [pt s,sv g0 pr.length kP].toArray (bK g0 kP pr::L0) λv L=>∃id k a,v=.tuple #[goInt id,goInt k]∧R id k a∧L=bK g0 kP pr::a:=by
 rcases Nat.eq_zero_or_pos pr.length with l|l
 ·have G:pr=[]:=List.length_eq_zero_iff.1 l
  subst G;refine Fl.of 31 λx w=>?_;refine cF [bK g0 kP []] L0 (av [YtgahemdblfapeaaGreatDoor.a0 45 3 none 0 0 (g0.map λb=>⟨b,0,none⟩) kP (Nat.le_refl _)] (pC 50 3 (bE ?_)));refine cM ([bK g0 kP []]++(bK none 0 []::L0)) ?_;refine lW [bK g0 kP []] _ (hf none 0 (.inl rfl)) ?_;rintro _ _ ⟨id,c,a,rfl,p,rfl⟩;refine cF [bK g0 kP [],bK none 0 []] a (av [.g,gi (0:Nat) (0:Nat)] (ey [1] (bE ?_)));refine lW [bK g0 kP []] _ (hn id c a p) ?_;rintro _ o ⟨k,rfl,q⟩;exact av [] (ez [goInt id,goInt k] _ ⟨id,k,o,rfl,q,rfl⟩)
 ·rcases hg:g0 with _|g
  ·exact Fl.of 31 λx w=>IV 0 none pr.length kP l rfl
  subst hg;refine Fl.of 31 λx w=>?_;refine cF [bK (some g) kP pr] L0 (av [] (pC 50 3 (kr (W5 32 45 3 1 0 g 0 pr.length kP 0 (pr.flatMap Stp.cells) (pr.flatMap Stp.cells) l ah (Bx Stp.len _) (JF Stp.one _) (λj u h=>by rw[Nat.zero_add];exact h)) ?_)));rintro _ _ ⟨e,f,rfl,rfl⟩;have z:(0:Nat)+pr.length=pr.length:=Nat.zero_add _;rw[z];refine av [] (bE ?_);refine cM ([bK (some g) kP pr]++(bK (some e) f pr::L0)) ?_;refine lW [bK (some g) kP pr] _ (hf (some e) f (.inr ⟨l,e,rfl⟩)) ?_;rintro _ _ ⟨id,c,a,rfl,p,rfl⟩;refine cF [bK (some g) kP pr,bK (some e) f pr] a (av [.g,.x] ?_);refine ji (ι:=Nat×List Value) (λi=>pr.length-i.1) (λi=>[(0,pt s),(6,sv (some e) pr.length f),(7,goInt id),(8,c),(19,goInt pr.length),(20,goInt i.1),(4,goInt 0),(5,goInt 0)]) (λi=>[bK (some g) kP pr,.row 50 3 (some e) pr.length f i.2]) (λi=>i.1≤pr.length∧i.2.length=pr.length*3) (0,pr.flatMap Stp.cells) ⟨Nat.zero_le _,Bx Stp.len _⟩ ?_;rintro⟨i,n⟩ ⟨E,m⟩ y;simp only at E m y;by_cases aC:i<pr.length
  ·have r:∀j(t:List Value),t.length=pr.length*3→j<3→∃u,t[i*3+j]?=some u:=λj t K J=>⟨_,List.getElem?_eq_getElem ah⟩
   obtain⟨u0,B⟩:=r 0 n m ah;obtain⟨M,C⟩:=r 1 (n.set (i*3) (goInt 6)) (by rw[List.length_set];exact m) ah;obtain⟨N,D⟩:=r 2 ((n.set (i*3) (goInt 6)).set (i*3+1) (goInt 0)) (by rw[List.length_set,List.length_set];exact m) ah;refine av [fu i pr.length,iX 45 3 e f aC,rr 1 B,rr 1 C,rr 1 D,aS i,.g,.x] ?_;exact cq (y (i+1,((n.set (i*3) (goInt 6)).set (i*3+1) (goInt 0)).set (i*3+2) (.string ⟨#[]⟩)) (by simp only;omega) ⟨aC,by simp[m]⟩)
  ·have H:i=pr.length:=by omega
   subst H;refine av [gi pr.length pr.length] (ey [1] (bE ?_));refine lW [bK (some g) kP pr] _ (hn id c a p) ?_;rintro _ o ⟨k,rfl,q⟩;exact av [] (ez [goInt id,goInt k] _ ⟨id,k,o,rfl,q,rfl⟩)
end
structure fV where
 set:Bool
 bt:Int
 aG:Int
structure Wt where
 key:Nat
 gone:Bool
 val:ByteArray
structure Cm where
 me:Nat
 pr:List Stp
 at_:Nat
 out:Bool
 site:Option Nat
 b:Int
 wrote:List Wt
 phase:Nat
 keys:Nat
 aG:Int
structure Mo where
 clock:Int
 dX:Int
 sites:List Int
 aM:List (List aZ)
 marks:List fV
 be:List Cm
 events:List Ev
 at_:Nat
 w:Int
 fE:Bool
def fV.no:fV:=⟨Y,0,0⟩
def eH:ByteArray:=⟨#[]⟩
def Mo.init(b a:Nat)(d:Int):Mo:=⟨0,d,kq b (-1),kq a [],kq a .no,[],[],0,0,Y⟩
def Mo.new(a b d:Int):Option Mo:=if a<1\/a>8\/b<1\/b>20\/d<0\/d>1000000 then I else Z (.init a.toNat b.toNat d)
def Cr(a:Nat)(b:Bool)(p:Stp):Bool:=
 !(decide (p.kind<1)||decide (p.kind>6)||(decide (p.kind=1)==b))&&
 (if p.kind=2\/p.kind=3\/p.kind=4 then decide (0<=p.key)&&decide (p.key<a)else decide (p.key=0))&&
 decide (p.val.size<=16)&&(decide (p.kind=3)||decide (p.val.size=0))
def xI(p:Stp):Bool:=decide (p.kind≠5)&&decide (p.kind≠6)
def vX(a:Nat):Bool->List Stp->Bool
 |_,[]=>U
 |op,p::l=>Cr a op p&&vX a (xI p) l
def Mo.right(m:Mo)(l:List Stp):Bool:=vX m.aM.length Y l&&decide (l.length<=200)
def Cm.new(a:Nat)(l:List Stp):Cm:=⟨a,l,0,Y,I,0,[],0,0,0⟩
def Mo.bt(m:Mo)(l:List Stp):Mo×Int×Int:=if m.fE then(m,0,5)else if m.right l=Y then(m,0,2)else if m.be.length=8 then(m,0,3)else({m with be:=m.be++[.new m.be.length l]},m.be.length,0)
def eo(b:Int):List aZ->Nat
 |[]=>0
 |v::l=>if v.aG<=b then 0 else eo b l+1
def mq(l:List aZ)(w:Int):List aZ:=match l[eo w l]? with
 |some v=>l.take (if v.gone then eo w l else eo w l+1)
 |none=>l
def Mo.da(m:Mo):Mo×Bool×Int:=
 if m.fE then(m,Y,5)
 else if m.at_=0 then({m with at_:=1,w:=m.clock},Y,0)
 else if m.at_<=m.sites.length then({m with at_:=m.at_+1,w:=match m.sites[m.at_-1]? with
  |some h=>if 0<=h/\h<m.w then h else m.w
  |none=>m.w},Y,0)
 else if m.at_-1-m.sites.length+1=m.aM.length then({m with at_:=0,aM:=m.aM.modify (m.at_-1-m.sites.length) λl=>mq l m.w},U,0)
 else({m with at_:=m.at_+1,aM:=m.aM.modify (m.at_-1-m.sites.length) λl=>mq l m.w},Y,0)
def Mo.bA(m:Mo)(c:Cm)(o:Int)(v:ByteArray)(t:Int):Mo:={m with events:=m.events++[⟨c.me,c.at_,o,v,t⟩]}
def Cm.up(c:Cm):Cm:={c with at_:=c.at_+1}
def yz(a:Nat)(k:fV):fV:=if k.set/\k.bt=a then .no else k
def Mo.leave(m:Mo)(c:Cm)(s:Nat):Mo:={m with marks:=m.marks.map (yz c.me),sites:=m.sites.set s (-1)}
def Cm.leave(c:Cm):Cm:={c with site:=I,wrote:=[],phase:=0,keys:=0,aG:=0}
def Cm.step(c:Cm)(n:Nat):Cm:=if c.keys+1=n then{c with keys:=0,phase:=c.phase+1}else{c with keys:=c.keys+1}
def mr(w:Wt):List Wt->List Wt
 |[]=>[w]
 |x::l=>if w.key<x.key then w::x::l else if x.key=w.key then w::l else x::mr w l
def Cm.take(c:Cm)(i:Nat):Cm:={c with site:=Z i}
def Cm.tick(c:Cm)(t:Int):Cm:={c with aG:=t,phase:=2}
def Cm.skip(c:Cm)(b:Bool):Cm:={c.up with out:=b}
def Cm.nk(c:Cm)(b:Int):Cm:={c.up with b:=b}
def Cm.put(c:Cm)(w:Wt):Cm:={c.up with wrote:=mr w c.wrote}
def lR(k:Nat)(l:List Wt):Option Wt:=l.find? λw=>w.key==k
def vj(a:Bool)(v:ByteArray):Int×ByteArray:=if a then(3,eH)else(2,v)
def oJ:List aZ->Int->Bool
 |v::_,b=>decide (v.aG>b)
 |[],_=>Y
def yE:List Int->Nat->Option Nat
 |[],_=>I
 |v::l,i=>if v=-1 then Z i else yE l (i+1)
def Mo.get(m:Mo)(c:Cm)(k:Nat):Option (Int×ByteArray):=match lR k c.wrote with
 |some w=>Z (vj w.gone w.val)
 |none=>
  let a:=m.marks.getD k .no;let l:=m.aM.getD k []
  if a.set/\a.bt≠c.me/\a.aG≠0/\a.aG<=c.b then I
  else match l[eo c.b l]? with
   |some v=>Z (vj v.gone v.val)
   |none=>Z (vj U eH)
def Mo.bX(m:Mo)(c:Cm):Mo×Cm×Int:=match c.pr[c.at_]? with
 |none=>(m,c,-1)
 |some p=>
  if c.out then(m.bA c 7 eH 0,c.skip (xI p),1)
  else if p.kind=1 then match c.site with
   |some i=>({m with sites:=m.sites.set i m.clock}.bA c 1 eH m.clock,c.nk m.clock,1)
   |none=>match yE m.sites 0 with
    |some i=>({m with sites:=m.sites.set i (-2)},c.take i,1)
    |none=>(m.bA c 5 eH 0,c.skip U,1)
  else if p.kind=2 then match m.get c p.key.toNat with
   |some o=>(m.bA c o.1 o.2 0,c.up,1)
   |none=>(m,c,0)
  else if p.kind=3\/p.kind=4 then(m.bA c 1 eH 0,c.put ⟨p.key.toNat,decide (p.kind=4),p.val⟩,1)
  else match c.site with
   |none=>(m,c,1)
   |some s=>
    if p.kind=6\/c.wrote.length=0 then((m.leave c s).bA c 1 eH 0,c.up.leave,1)
    else if c.phase=0 then match c.wrote[c.keys]? with
     |none=>(m,c,1)
     |some w=>
      let a:=m.marks.getD w.key .no
      if(a.set&&decide (a.bt≠c.me))||oJ (m.aM.getD w.key []) c.b then((m.leave c s).bA c 4 eH 0,c.up.leave,1)
      else({m with marks:=m.marks.set w.key ⟨U,c.me,0⟩},c.step c.wrote.length,1)
    else if c.phase=1 then
     if m.clock=m.dX then((m.leave c s).bA c 6 eH 0,c.up.leave,1)
     else({m with clock:=m.clock+1,marks:=c.wrote.foldl (λl w=>l.modify w.key λk=>{k with aG:=m.clock+1}) m.marks},c.tick (m.clock+1),1)
    else if c.phase=2 then match c.wrote[c.keys]? with
     |none=>(m,c,1)
     |some w=>({m with aM:=m.aM.modify w.key λl=>⟨c.aG,w.gone,w.val⟩::l,marks:=m.marks.set w.key .no},c.step c.wrote.length,1)
    else((m.leave c s).bA c 1 eH c.aG,c.up.leave,1)
def Mo.pick(m:Mo)(n:Int):Mo×Int×Int:=
 if m.fE then(m,0,5)
 else if n<0 then(m,0,4)
 else match m.be[n.toNat]? with
  |none=>(m,0,4)
  |some c=>let r:=m.bX c;({r.1 with be:=m.be.set n.toNat r.2.1},r.2.2,0)
def Cm.own(c:Cm)(j:Nat):Prop:=(c.phase=0/\j<c.keys)\/c.phase=1\/(c.phase=2/\c.keys<=j)
def Cm.zd(marks:List fV)(c:Cm):Prop:=∀j w,c.wrote[j]?=Z w->c.own j->∃t,marks[w.key]?=Z ⟨U,c.me,t⟩
structure Cm.Ok(K S:Nat)(c:Cm):Prop where
 len:c.pr.length<=200
 at_:c.at_<=c.pr.length
 pr:vX K Y c.pr=U
 lQ:(c.wrote.map (·.key)).Pairwise (·<·)
 key:∀w∈c.wrote,w.key<K
 site:∀s,c.site=Z s->s<S
 opn:c.out=Y->∀p,c.pr[c.at_]?=Z p->p.kind≠1->∃s,c.site=Z s
 cls:(c.out=U\/c.site=I)->c.wrote=[]
 out:c.out=U->c.site=I
 kz:∀p,c.pr[c.at_]?=Z p->p.kind=1->c.wrote=[]
 tO:(c.keys≠0\/c.phase≠0)->∃p,c.pr[c.at_]?=Z p/\p.kind=5
 keys:c.wrote≠[]->c.keys<c.wrote.length
 kR:c.wrote=[]->c.keys=0/\c.phase=0
 ph:c.phase<=3
 qU:c.phase=1\/c.phase=3->c.keys=0
 b:0<=c.b
 st:0<=c.aG
def Cm.inst(c:Cm):Nat:=if c.phase=2 then c.keys else if c.phase=3 then c.wrote.length else 0
structure Mo.Ok(m:Mo):Prop where
 k:1<=m.aM.length/\m.aM.length<=20
 s:1<=m.sites.length/\m.sites.length<=8
 ml:m.marks.length=m.aM.length
 si:∀v∈m.sites,-2<=v
 ck:0<=m.clock/\m.clock<=m.dX/\m.dX<=1000000
 cl:m.be.length<=8
 me:∀i(c:Cm),m.be[i]?=Z c->c.me=i/\c.Ok m.aM.length m.sites.length/\c.zd m.marks
 ev:m.events.length=(m.be.map (·.at_)).sum
 ch:(m.aM.map vq).sum<=(m.be.map λc=>20*c.at_+c.inst).sum
 at_:m.at_<=m.sites.length+m.aM.length
theorem UL{K:Nat}:∀{l:List Stp}{o:Bool}{i:Nat}{p:Stp},vX K o l=U->l[i]?=Z p->∃d,Cr K d p=U/\(∀q,l[i+1]?=Z q->Cr K (xI p) q=U)
 |x::l,o,0,p,h,b=>by
  simp only[vX,gT]at h;simp only[qe,gB]at b;subst b;refine⟨o,h.1,λq a=>?_⟩;cases l with
  |nil=>simp at a
  |cons y l=>
   simp only[List.getElem?_cons_succ,qe,gB]at a;subst a;simp only[vX,gT]at h;exact h.2.1
 |x::l,o,i+1,p,h,b=>by
  simp only[vX,gT]at h;obtain⟨d,e,f⟩:=UL (i:=i) h.2 (by simpa using b);exact⟨d,e,λq a=>f q (by simpa using a)⟩
structure WR(K:Nat)(p:Stp):Prop where
 kind:1<=p.kind/\p.kind<=6
 key:p.kind=2\/p.kind=3\/p.kind=4->0<=p.key/\p.key<K
theorem aef{K:Nat}{o:Bool}{p:Stp}(h:Cr K o p=U):WR K p:=by
 simp only[Cr,gT,Gp,Bool.or_eq_false_iff,decide_eq_false_iff_not]at h;refine⟨by omega,λa=>?_⟩;have:=h.1.1.2;rw[if_pos a]at this;simpa using this
theorem VS{K:Nat}{o:Bool}{p:Stp}(h:Cr K o p=U):o=!decide (p.kind=1):=by
 simp only[Cr,gT,Gp,Bool.or_eq_false_iff]at h;have:=h.1.1.1.2;cases o<;>cases hd:decide (p.kind=1)<;>simp_all
theorem tC{m:Mo}{c:Cm}(h:c.Ok m.aM.length m.sites.length)(a:Mo×Cm×Int->Prop)
  (P:c.pr[c.at_]?=I->a (m,c,-1))
  (Q:∀p,c.pr[c.at_]?=Z p->c.out=U->a (m.bA c 7 eH 0,c.skip (xI p),1))
  (R:∀p i,c.pr[c.at_]?=Z p->c.out=Y->p.kind=1->c.site=Z i->i<m.sites.length->a ({m with sites:=m.sites.set i m.clock}.bA c 1 eH m.clock,c.nk m.clock,1))
  (T:∀p i,c.pr[c.at_]?=Z p->c.out=Y->p.kind=1->c.site=I->yE m.sites 0=Z i->a ({m with sites:=m.sites.set i (-2)},c.take i,1))
  (V:∀p,c.pr[c.at_]?=Z p->c.out=Y->p.kind=1->c.site=I->yE m.sites 0=I->a (m.bA c 5 eH 0,c.skip U,1))
  (W:∀p k o s,c.pr[c.at_]?=Z p->c.out=Y->p.kind=2->p.key=(k:Nat)->k<m.aM.length->c.site=Z s->s<m.sites.length->m.get c k=Z o->a (m.bA c o.1 o.2 0,c.up,1))
  (X:∀p k s,c.pr[c.at_]?=Z p->c.out=Y->p.kind=2->p.key=(k:Nat)->k<m.aM.length->c.site=Z s->s<m.sites.length->m.get c k=I->a (m,c,0))
  (h8:∀p k s,c.pr[c.at_]?=Z p->c.out=Y->(p.kind=3\/p.kind=4)->p.key=(k:Nat)->k<m.aM.length->c.site=Z s->s<m.sites.length->a (m.bA c 1 eH 0,c.put ⟨k,decide (p.kind=4),p.val⟩,1))
  (h9:∀p s,c.pr[c.at_]?=Z p->c.out=Y->(p.kind=6\/(p.kind=5/\c.wrote=[]))->c.site=Z s->s<m.sites.length->a ((m.leave c s).bA c 1 eH 0,c.up.leave,1))
  (iN:∀p s w,c.pr[c.at_]?=Z p->c.out=Y->p.kind=5->c.site=Z s->s<m.sites.length->c.phase=0->c.wrote[c.keys]?=Z w->w.key<m.aM.length->(((m.marks.getD w.key .no).set&&decide ((m.marks.getD w.key .no).bt≠c.me))||oJ (m.aM.getD w.key []) c.b)=U->a ((m.leave c s).bA c 4 eH 0,c.up.leave,1))
  (M:∀p s w,c.pr[c.at_]?=Z p->c.out=Y->p.kind=5->c.site=Z s->s<m.sites.length->c.phase=0->c.wrote[c.keys]?=Z w->w.key<m.aM.length->(((m.marks.getD w.key .no).set&&decide ((m.marks.getD w.key .no).bt≠c.me))||oJ (m.aM.getD w.key []) c.b)=Y->a ({m with marks:=m.marks.set w.key ⟨U,c.me,0⟩},c.step c.wrote.length,1))
  (N:∀p s,c.pr[c.at_]?=Z p->c.out=Y->p.kind=5->c.site=Z s->s<m.sites.length->c.phase=1->c.keys=0->c.wrote≠[]->m.clock=m.dX->a ((m.leave c s).bA c 6 eH 0,c.up.leave,1))
  (z:∀p s,c.pr[c.at_]?=Z p->c.out=Y->p.kind=5->c.site=Z s->s<m.sites.length->c.phase=1->c.keys=0->c.wrote≠[]->m.clock≠m.dX->a ({m with clock:=m.clock+1,marks:=c.wrote.foldl (λl w=>l.modify w.key λk=>{k with aG:=m.clock+1}) m.marks},c.tick (m.clock+1),1))
  (A:∀p s w,c.pr[c.at_]?=Z p->c.out=Y->p.kind=5->c.site=Z s->s<m.sites.length->c.phase=2->c.wrote[c.keys]?=Z w->w.key<m.aM.length->a ({m with aM:=m.aM.modify w.key λl=>⟨c.aG,w.gone,w.val⟩::l,marks:=m.marks.set w.key .no},c.step c.wrote.length,1))
  (B:∀p s,c.pr[c.at_]?=Z p->c.out=Y->p.kind=5->c.site=Z s->s<m.sites.length->c.phase=3->c.keys=0->c.wrote≠[]->a ((m.leave c s).bA c 1 eH c.aG,c.up.leave,1)):a (m.bX c):=by
 unfold Mo.bX;cases hp:c.pr[c.at_]? with
 |none=>exact P hp
 |some p=>
  obtain⟨o',hs,_⟩:=UL h.pr hp;have C:=aef hs;simp only
  cases ho:c.out with
  |true=>exact Q p hp ho
  |false=>
   simp only[hZ,if_false];by_cases g:p.kind=1
   ·simp only[g,if_true]
    cases b:c.site with
    |some i=>exact R p i hp ho g b (h.site i b)
    |none=>
     simp only
     cases iZ:yE m.sites 0 with
     |some i=>simp only;exact T p i hp ho g b iZ
     |none=>exact V p hp ho g b iZ
   ·obtain⟨s,b⟩:=h.opn ho p hp g
    have d:=h.site s b;simp only[g,if_false];by_cases q:p.kind=2
    ·have hk:=C.key (.inl q)
     have H:p.key=(p.key.toNat:Nat):=by omega
     have G:p.key.toNat<m.aM.length:=by omega
     simp only[q,if_true];cases hg:m.get c p.key.toNat with
     |some o=>exact W p _ o s hp ho q H G b d hg
     |none=>exact X p _ s hp ho q H G b d hg
    ·simp only[q,if_false]
     by_cases v:p.kind=3\/p.kind=4
     ·have hk:=C.key (.inr v)
      simp only[v,if_true];exact h8 p _ s hp ho v ah ah b d
     ·have dV:=C.kind
      simp only[v,if_false,b];by_cases D:p.kind=6\/c.wrote.length=0
      ·simp only[D,if_true]
       refine h9 p s hp ho ?_ b d;by_cases r:p.kind=6
       ·exact .inl r
       ·exact .inr ⟨by omega,zC (D.resolve_left r)⟩
      ·simp only[D,if_false]
       have j:p.kind=5:=by omega
       have J:0<c.wrote.length:=by omega
       have t:c.wrote≠[]:=λe=>by rw[e]at J;simp at J
       have O:=h.keys t;obtain⟨w,f⟩:∃w,c.wrote[c.keys]?=Z w:=⟨_,eI O⟩;have y:w.key<m.aM.length:=h.key w (jZ f);by_cases x:c.phase=0
       ·simp only[x,if_true,f]
        cases hc:(((m.marks.getD w.key .no).set&&decide ((m.marks.getD w.key .no).bt≠c.me))||oJ (m.aM.getD w.key []) c.b)with
        |true=>simp only[if_true];exact iN p s w hp ho j b d x f y hc
        |false=>simp only[hZ,if_false];exact M p s w hp ho j b d x f y hc
       ·simp only[x,if_false]
        by_cases n:c.phase=1
        ·simp only[n,if_true]
         by_cases u:m.clock=m.dX
         ·simp only[u,if_true];exact N p s hp ho j b d n (h.qU (.inl n)) t u
         ·simp only[u,if_false];exact z p s hp ho j b d n (h.qU (.inl n)) t u
        ·simp only[n,if_false]
         by_cases E:c.phase=2
         ·simp only[E,if_true,f];exact A p s w hp ho j b d E f y
         ·have:=h.ph
          have L:c.phase=3:=by omega
          simp only[E,if_false];exact B p s hp ho j b d L (h.qU (.inr L)) t
section
variable {K S:Nat}{c:Cm}{p:Stp}
theorem Cm.Ok.lx(h:c.Ok K S)(b:c.pr[c.at_]?=Z p){q:Stp}(d:c.pr[c.at_+1]?=Z q):(q.kind=1↔xI p=Y):=by
 obtain⟨_,_,a⟩:=UL h.pr b;have:=VS (a q d);rw[this];simp
theorem abV(p:Stp)(h:p.kind=5\/p.kind=6):xI p=Y:=by
 rcases h with h|h<;>simp[xI,h]
theorem Ib(p:Stp)(h:p.kind≠5/\p.kind≠6):xI p=U:=by simp[xI,h]
theorem Cm.Ok.lt(h:c.pr[c.at_]?=Z p):c.at_+1<=c.pr.length:=(dq.1 h).1
theorem Cm.Ok.no(h:c.Ok K S)(f:c.pr[c.at_]?=Z p)(e:p.kind≠5):c.keys=0/\c.phase=0:=by
 by_cases d:c.keys≠0\/c.phase≠0
 ·obtain⟨q,a,b⟩:=h.tO d
  rw[f]at a;cases a;exact absurd b e
 ·omega
theorem Cm.Ok.over(h:c.Ok K S)(a:c.pr[c.at_]?=Z p)(e:p.kind=5\/p.kind=6)(_:c.out=Y):c.up.leave.Ok K S where
 len:=h.len
 at_:=Cm.Ok.lt a
 pr:=h.pr
 lQ:=by simp[Cm.leave]
 key:=by simp[Cm.leave]
 site:=by simp[Cm.leave]
 opn:=λ_ q f d=>absurd ((h.lx a f).2 (abV p e)) d
 cls:=λ_=>rfl
 out:=λ_=>rfl
 kz:=λ_ _ _=>rfl
 tO:=by simp[Cm.leave]
 keys:=by simp[Cm.leave]
 kR:=by simp[Cm.leave]
 ph:=by simp[Cm.leave]
 qU:=by simp[Cm.leave]
 b:=h.b
 st:=by simp[Cm.leave]
theorem Cm.Ok.afO(h:c.Ok K S)(a:c.pr[c.at_]?=Z p)(j:p.kind=2)(f:c.out=Y):c.up.Ok K S where
 len:=h.len
 at_:=Cm.Ok.lt a
 pr:=h.pr
 lQ:=h.lQ
 key:=h.key
 site:=h.site
 opn:=λ_ q d i=>h.opn f p a ah
 cls:=h.cls
 out:=h.out
 kz:=λq d g=>absurd ((h.lx a d).1 g) (by rw[Ib p ah];simp)
 tO:=λe=>by
  have:=h.no a ah;simp only[Cm.up]at e;omega
 keys:=h.keys
 kR:=h.kR
 ph:=h.ph
 qU:=h.qU
 b:=h.b
 st:=h.st
theorem aeW(w:Wt)(l:List Wt):mr w l≠[]:=by
 cases l with
 |nil=>simp[mr]
 |cons x l=>simp only[mr];repeat' split<;>simp
theorem azV(w:Wt)(l:List Wt):0<(mr w l).length:=List.length_pos_iff.2 (aeW w l)
theorem aeV(w:Wt)(l:List Wt):∀k,k∈(mr w l).map (·.key)->k=w.key\/k∈l.map (·.key):=by
 induction l with
 |nil=>intro k a;simp[mr]at a;exact .inl a
 |cons x l b=>
  intro k a;simp only[mr]at a;split at a
  ·simpa using a
  ·split at a
   ·rename_i d
    simp only[fw,bM]at a⊢;rcases a with a|a
    ·exact .inl a
    ·exact .inr (.inr a)
   ·simp only[fw,bM]at a⊢
    rcases a with a|a
    ·exact .inr (.inl a)
    ·rcases b k a with h|h
     ·exact .inl h
     ·exact .inr (.inr h)
theorem aeY(w:Wt):∀l:List Wt,(l.map (·.key)).Pairwise (·<·)->((mr w l).map (·.key)).Pairwise (·<·)
 |[],_=>by simp[mr]
 |x::l,h=>by
  simp only[fw,mQ]at h;obtain⟨b,d⟩:=h;simp only[mr];split
  ·rename_i aC
   simp only[fw,mQ,bM];refine⟨λk a=>?_,b,d⟩;rcases a with rfl|a
   ·exact aC
   ·exact Nat.lt_trans aC (b k a)
  ·split
   ·rename_i e
    simp only[fw,mQ];exact⟨by rw[<-e];exact b,d⟩
   ·rename_i f e
    simp only[fw,mQ];refine⟨λk a=>?_,aeY w l d⟩;rcases aeV w l k a with rfl|a
    ·omega
    ·exact b k a
theorem Cm.Ok.wrote(h:c.Ok K S)(a:c.pr[c.at_]?=Z p)(o:p.kind=3\/p.kind=4)(f:c.out=Y)(w:Wt)(j:w.key<K):(c.put w).Ok K S where
 len:=h.len
 at_:=Cm.Ok.lt a
 pr:=h.pr
 lQ:=aeY w _ h.lQ
 key:=λx k=>by
  rcases aeV w c.wrote x.key (jg k)with e|e
  ·rw[e];exact j
  ·obtain⟨y,l,e⟩:=og.1 e
   rw[<-e];exact h.key y l
 site:=h.site
 opn:=λ_ q g n=>h.opn f p a ah
 cls:=λd=>by
  obtain⟨s,i⟩:=h.opn f p a ah;simp[Cm.put,Cm.up,f,i]at d
 out:=h.out
 kz:=λq g m=>absurd ((h.lx a g).1 m) (by rw[Ib p ah];simp)
 tO:=λd=>by
  have:=h.no a ah;simp only[Cm.put,Cm.up]at d;omega
 keys:=λ_=>by
  have:=h.no a ah;simp only[Cm.put,Cm.up,this.1];exact azV w _
 kR:=λe=>absurd e (aeW w _)
 ph:=h.ph
 qU:=h.qU
 b:=h.b
 st:=h.st
theorem Cm.Ok.adf(h:c.Ok K S)(d:c.pr[c.at_]?=Z p)(j:c.out=U\/(p.kind=1/\c.site=I))(b:Bool)(g:b=xI p):(c.skip b).Ok K S:=by
 have e:c.site=I:=j.elim h.out (·.2);have a:c.wrote=[]:=h.cls (.inr e);obtain⟨m,n⟩:=h.kR a;subst g;exact{
  len:=h.len
  at_:=Cm.Ok.lt d
  pr:=h.pr
  lQ:=h.lQ
  key:=h.key
  site:=h.site
  opn:=λl q k f=>absurd ((h.lx d k).2 l) f
  cls:=λ_=>a
  out:=λ_=>e
  kz:=λ_ _ _=>a
  tO:=λi=>by simp only[Cm.skip,Cm.up]at i;omega
  keys:=h.keys
  kR:=h.kR
  ph:=h.ph
  qU:=h.qU
  b:=h.b
  st:=h.st}
theorem Cm.Ok.begun(h:c.Ok K S)(d:c.pr[c.at_]?=Z p)(g:p.kind=1)(l:c.out=Y){s:Nat}(i:c.site=Z s)(b:Int)(e:0<=b):(c.nk b).Ok K S:=by
 have a:=h.kz p d g;obtain⟨j,k⟩:=h.kR a;exact{
  len:=h.len
  at_:=Cm.Ok.lt d
  pr:=h.pr
  lQ:=h.lQ
  key:=h.key
  site:=h.site
  opn:=λ_ _ _ _=>⟨s,i⟩
  cls:=λ_=>a
  out:=h.out
  kz:=λ_ _ _=>a
  tO:=λf=>by simp only[Cm.nk,Cm.up]at f;omega
  keys:=h.keys
  kR:=h.kR
  ph:=h.ph
  qU:=h.qU
  b:=e
  st:=h.st}
theorem Cm.Ok.taken(h:c.Ok K S)(g:c.pr[c.at_]?=Z p)(e:p.kind=1)(f:c.out=Y)(s:Nat)(j:s<S):(c.take s).Ok K S:=by
 have d:=h.kz p g e;exact{
  len:=h.len
  at_:=h.at_
  pr:=h.pr
  lQ:=h.lQ
  key:=h.key
  site:=λt i=>by simp only[Cm.take,gB]at i;omega
  opn:=λ_ _ _ _=>⟨s,F⟩
  cls:=λ_=>d
  out:=λa=>by rw[show(c.take s).out=c.out from F,f]at a;cases a
  kz:=λ_ _ _=>d
  tO:=h.tO
  keys:=h.keys
  kR:=h.kR
  ph:=h.ph
  qU:=h.qU
  b:=h.b
  st:=h.st}
theorem Cm.qX(c:Cm)(n:Nat):(c.step n).me=c.me/\(c.step n).pr=c.pr/\(c.step n).at_=c.at_/\(c.step n).out=c.out/\(c.step n).site=c.site/\(c.step n).b=c.b/\(c.step n).wrote=c.wrote/\(c.step n).aG=c.aG:=by
 unfold Cm.step;split<;>simp
theorem Cm.xW(c:Cm)(n:Nat):(c.keys+1=n/\(c.step n).keys=0/\(c.step n).phase=c.phase+1)\/(c.keys+1≠n/\(c.step n).keys=c.keys+1/\(c.step n).phase=c.phase):=by
 unfold Cm.step;split
 ·exact .inl ⟨‹_›,F,F⟩
 ·exact .inr ⟨‹_›,F,F⟩
theorem Cm.Ok.aeb(h:c.Ok K S)(q:c.pr[c.at_]?=Z p)(o:p.kind=5)(w:c.out=Y){s:Nat}(r:c.site=Z s)(t:c.phase=0\/c.phase=2)(i:c.keys<c.wrote.length):(c.step c.wrote.length).Ok K S:=by
 obtain⟨u,d,g,j,f,m,a,n⟩:=c.qX c.wrote.length;have k:c.wrote≠[]:=λe=>by rw[e]at i;simp at i
 have v:=c.xW c.wrote.length;have l:(c.step c.wrote.length).keys<c.wrote.length:=by omega
 exact{
  len:=by rw[d];exact h.len
  at_:=by rw[d,g];exact h.at_
  pr:=by rw[d];exact h.pr
  lQ:=by rw[a];exact h.lQ
  key:=by rw[a];exact h.key
  site:=by rw[f];exact h.site
  opn:=λ_ _ _ _=>⟨s,by rw[f];exact r⟩
  cls:=by rw[j,f,a];exact h.cls
  out:=by rw[j,f];exact h.out
  kz:=by rw[d,g,a];exact h.kz
  tO:=λ_=>⟨p,by rw[d,g];exact q,o⟩
  keys:=λ_=>by rw[a];exact l
  kR:=λe=>by rw[a]at e;exact absurd e k
  ph:=by omega
  qU:=by omega
  b:=by rw[m];exact h.b
  st:=by rw[n];exact h.st}
theorem Cm.Ok.ayY(h:c.Ok K S)(f:c.pr[c.at_]?=Z p)(d:p.kind=5)(t:Int)(g:0<=t)(a:c.wrote≠[]):(c.tick t).Ok K S where
 len:=h.len
 at_:=h.at_
 pr:=h.pr
 lQ:=h.lQ
 key:=h.key
 site:=h.site
 opn:=h.opn
 cls:=h.cls
 out:=h.out
 kz:=h.kz
 tO:=λ_=>⟨p,f,d⟩
 keys:=h.keys
 kR:=λe=>absurd e a
 ph:=by simp[Cm.tick]
 qU:=by simp[Cm.tick]
 b:=h.b
 st:=g
end
theorem Ro:∀(l:List Int)(i j:Nat),yE l i=Z j->i<=j/\j<i+l.length
 |[],_,_,h=>by cases h
 |v::l,i,j,h=>by
  simp only[yE]at h;split at h
  ·cases h;simp
  ·have:=Ro l (i+1) j h
   simp only[jY];omega
theorem PT{α:Type}(f:α->Nat):∀(l:List α)(i:Nat)(a b:α),l[i]?=Z a->((l.set i b).map f).sum+f a=(l.map f).sum+f b
 |[],i,a,b,h=>by simp at h
 |x::l,0,a,b,h=>by
  simp only[qe,gB]at h;subst h;simp only[List.set_cons_zero,fw,List.sum_cons];omega
 |x::l,i+1,a,b,h=>by
  have:=PT f l i a b (by simpa using h);simp only[List.set_cons_succ,fw,List.sum_cons];omega
theorem aeh{α:Type}(f:α->Nat)(g:α->α):∀(l:List α)(i:Nat)(a:α),l[i]?=Z a->((l.modify i g).map f).sum+f a=(l.map f).sum+f (g a)
 |[],i,a,h=>by simp at h
 |x::l,0,a,h=>by
  simp only[qe,gB]at h;subst h;simp only[List.modify_zero_cons,fw,List.sum_cons];omega
 |x::l,i+1,a,h=>by
  have:=aeh f g l i a (by simpa using h);simp only[List.modify_succ_cons,fw,List.sum_cons];omega
theorem aei{α:Type}(f:α->Nat)(g:α->α)(b:∀a,f (g a)<=f a):∀(l:List α)(i:Nat),((l.modify i g).map f).sum<=(l.map f).sum
 |[],i=>by simp
 |x::l,0=>by
  have:=b x;simp only[List.modify_zero_cons,fw,List.sum_cons];omega
 |x::l,i+1=>by
  have:=aei f g b l i;simp only[List.modify_succ_cons,fw,List.sum_cons];omega
theorem ad7(K:Nat):∀(l:List Nat)(n:Nat),l.Pairwise (·<·)->(∀k∈l,n<=k/\k<K)->n<=K->n+l.length<=K
 |[],n,_,_,d=>by simpa using d
 |x::l,n,h,b,d=>by
  simp only[mQ]at h;have e:=b x (eX ..);have:=ad7 K l (x+1) h.2 (λk a=>⟨h.1 k a,(b k (eK _ a)).2⟩) ah;simp only[jY];omega
theorem Cm.Ok.aeQ{K S:Nat}{c:Cm}(h:c.Ok K S):c.wrote.length<=K:=by
 have:=ad7 K (c.wrote.map (·.key)) 0 h.lQ (λk a=>by
  obtain⟨w,b,e⟩:=og.1 a;exact⟨gJ _,e▸h.key w b⟩) (gJ _)
 simpa using this
theorem Cm.Ok.inst{K S:Nat}{c:Cm}(h:c.Ok K S):c.inst<=K:=by
 have:=h.aeQ;unfold Cm.inst;split
 ·by_cases a:c.wrote=[]
  ·have:=h.kR a;omega
  ·have:=h.keys a;omega
 ·split<;>omega
theorem Nj(T:Int):∀(a:List Wt)(l:List fV)(k:Nat),(a.foldl (λl w=>l.modify w.key λk=>{k with aG:=T}) l)[k]?=(l[k]?).map λd=>if k∈a.map (·.key)then{d with aG:=T}else d
 |[],l,k=>by simp
 |w::a,l,k=>by
  rw[List.foldl_cons,Nj T a,Gs];cases l[k]? with
  |none=>rfl
  |some d=>
   by_cases b:w.key=k
   ·simp only[b,fw,bM,true_or,if_true]
    show Z _=Z _;split<;>rfl
   ·have f:¬k=w.key:=λe=>b e.symm
    simp only[fw,bM,f,false_or,if_neg b];rfl
theorem Ys(T:Int):∀(a:List Wt)(l:List fV),(a.foldl (λl w=>l.modify w.key λk=>{k with aG:=T}) l).length=l.length
 |[],l=>rfl
 |w::a,l=>by rw[List.foldl_cons,Ys T a,List.length_modify]
theorem Ui{c:Cm}{K S:Nat}(h:c.Ok K S){i j:Nat}{a b:Wt}(g:c.wrote[i]?=Z a)(k:c.wrote[j]?=Z b)(e:a.key=b.key):i=j:=by
 have m:(c.wrote.map (·.key)).Nodup:=h.lQ.imp λh=>Nat.ne_of_lt h;have d:(c.wrote.map (·.key))[i]?=Z a.key:=by rw[fW,g];rfl
 have f:(c.wrote.map (·.key))[j]?=Z b.key:=by rw[fW,k];rfl
 have l:=(dq.1 d).1;exact(List.getElem?_inj l m).1 (by rw[d,f,e])
structure MD(m:Mo)(c:Cm)(m':Mo)(c':Cm):Prop where
 k:m'.aM.length=m.aM.length
 s:m'.sites.length=m.sites.length
 ml:m'.marks.length=m.marks.length
 si:∀v∈m'.sites,-2<=v
 ck:0<=m'.clock/\m'.clock<=m'.dX
 li:m'.dX=m.dX
 at_:m'.at_=m.at_
 st:m'.fE=m.fE
 me:c'.me=c.me
 ok:c'.Ok m.aM.length m.sites.length
 mo:c'.zd m'.marks
 Ic:∀c2:Cm,c2.me≠c.me->c2.zd m.marks->c2.zd m'.marks
 ev:m'.events.length+c.at_=m.events.length+c'.at_
 ch:(m'.aM.map vq).sum+20*c.at_+c.inst<=(m.aM.map vq).sum+20*c'.at_+c'.inst
theorem Vg{l:List Int}(h:∀v∈l,-2<=v)(i:Nat)(x:Int)(b:-2<=x):∀v∈l.set i x,-2<=v:=λv a=>by
 rcases List.mem_or_eq_of_mem_set a with a|rfl
 ·exact h v a
 ·exact b
theorem ap1{marks:List fV}{b:Nat}{a:Cm}(g:a.me≠b)(h:a.zd marks):a.zd (marks.map (yz b)):=λj w f d=>by
 obtain⟨t,e⟩:=h j w f d;refine⟨t,?_⟩;rw[fW,e];simp[yz];omega
theorem HU{marks:List fV}{c:Cm}(h:c.wrote=[]):c.zd marks:=λj w a=>by rw[h]at a;simp at a
theorem aa7{marks:List fV}{c:Cm}(h:c.keys=0/\c.phase=0):c.zd marks:=λj w b a=>by
 unfold Cm.own at a;omega
theorem MD.over{m:Mo}{c:Cm}{p:Stp}{s:Nat}(a:m.Ok)(h:c.Ok m.aM.length m.sites.length)(g:c.pr[c.at_]?=Z p)(e:p.kind=5\/p.kind=6)(f:c.out=Y)(o t:Int)(v:ByteArray):MD m c ((m.leave c s).bA c o v t) c.up.leave where
 k:=rfl
 s:=wJ
 ml:=by simp[Mo.bA,Mo.leave]
 si:=Vg a.si _ _ ah
 ck:=⟨a.ck.1,a.ck.2.1⟩
 li:=rfl
 at_:=rfl
 st:=rfl
 me:=rfl
 ok:=h.over g e f
 mo:=HU F
 Ic:=λi b d=>ap1 b d
 ev:=by simp[Mo.bA,Mo.leave,Cm.leave,Cm.up];omega
 ch:=by
  have:=h.inst;have:=a.k.2;simp[Mo.bA,Mo.leave,Cm.leave,Cm.up];omega
theorem LK{m:Mo}{c:Cm}(f:m.Ok)(h:c.Ok m.aM.length m.sites.length)(L:c.zd m.marks):MD m c (m.bX c).1 (m.bX c).2.1:=by
 refine tC h (λr=>MD m c r.1 r.2.1) ?_ ?_ ?_ ?_ ?_ ?_ ?_ ?_ ?_ ?_ ?_ ?_ ?_ ?_ ?_
 ·intro _
  exact⟨F,F,F,f.si,⟨f.ck.1,f.ck.2.1⟩,F,F,F,F,h,L,λ_ _ h=>h,F,dt _⟩
 ·intro p g n
  have x:=h.cls (.inl n);have D:c.inst=0:=by have:=h.kR x;simp[Cm.inst,this]
  exact⟨F,F,F,f.si,⟨f.ck.1,f.ck.2.1⟩,F,F,F,F,h.adf g (.inl n) _ F,HU x,λ_ _ h=>h,by simp[Mo.bA,Cm.skip,Cm.up];omega,by simp[Mo.bA,Cm.skip,Cm.up,D];omega⟩
 ·intro p i g n q z D
  have x:=h.kz p g q;have oz:c.inst=0:=by have:=h.kR x;simp[Cm.inst,this]
  exact⟨F,by simp[Mo.bA],F,Vg f.si _ _ (by have:=f.ck.1;omega),⟨f.ck.1,f.ck.2.1⟩,F,F,F,F,h.begun g q n z _ f.ck.1,HU x,λ_ _ h=>h,by simp[Mo.bA,Cm.nk,Cm.up];omega,by simp[Mo.bA,Cm.nk,Cm.up,oz];omega⟩
 ·intro p i g n q z hf
  have x:=h.kz p g q;exact⟨F,wJ,F,Vg f.si _ _ ah,⟨f.ck.1,f.ck.2.1⟩,F,F,F,F,h.taken g q n i (by have:=(Ro _ _ _ hf).2;omega),HU x,λ_ _ h=>h,F,dt _⟩
 ·intro p g n q z hf
  have x:=h.kz p g q;have D:c.inst=0:=by have:=h.kR x;simp[Cm.inst,this]
  exact⟨F,F,F,f.si,⟨f.ck.1,f.ck.2.1⟩,F,F,F,F,h.adf g (.inr ⟨q,z⟩) _ (by rw[Ib p ah]),HU x,λ_ _ h=>h,by simp[Mo.bA,Cm.skip,Cm.up];omega,by simp[Mo.bA,Cm.skip,Cm.up,D];omega⟩
 ·intro p k o s g n q dV E z B hg
  have Q:=h.no g ah;have D:c.inst=0:=by simp[Cm.inst,Q]
  exact⟨F,F,F,f.si,⟨f.ck.1,f.ck.2.1⟩,F,F,F,F,h.afO g q n,aa7 Q,λ_ _ h=>h,by simp[Mo.bA,Cm.up];omega,by simp[Mo.bA,Cm.up,D];omega⟩
 ·intro p k s g n q dV E z B hg
  exact⟨F,F,F,f.si,⟨f.ck.1,f.ck.2.1⟩,F,F,F,F,h,L,λ_ _ h=>h,F,dt _⟩
 ·intro p k s g n q dV E z B
  have Q:=h.no g ah;have D:c.inst=0:=by simp[Cm.inst,Q]
  exact⟨F,F,F,f.si,⟨f.ck.1,f.ck.2.1⟩,F,F,F,F,h.wrote g q n _ E,aa7 Q,λ_ _ h=>h,by simp[Mo.bA,Cm.put,Cm.up];omega,by simp[Mo.bA,Cm.put,Cm.up,D];omega⟩
 ·intro p s g n q z B
  exact .over f h g ah n _ _ _
 ·intro p s w g n q z B y x P J
  exact .over f h g ah n _ _ _
 ·intro p s w g n q z B y x P J
  have E:=(dq.1 x).1;have W:w.key<m.marks.length:=by rw[f.ml];exact P
  obtain⟨N,f2,O,f4,f5,f6,R,f8⟩:=c.qX c.wrote.length;have gG:=c.xW c.wrote.length;refine⟨F,F,wJ,f.si,⟨f.ck.1,f.ck.2.1⟩,F,F,F,N,h.aeb g q n z (.inl y) E,λj u v C=>?_,λA M G j u v C=>?_,by rw[O],by
   have V:c.inst=0:=by simp[Cm.inst,y]
   rw[O,V];simp only;omega⟩
  ·rw[R]at v
   rw[N];by_cases e:w.key=u.key
   ·exact⟨0,by rw[e,zD (by rw[<-e];exact W)]⟩
   ·rw[uH e]
    have hj:j≠c.keys:=λej=>e (by rw[ej,x]at v;cases v;rfl);have mH:=(dq.1 v).1;refine L j u v (.inl ⟨y,?_⟩);simp only[Cm.own]at C;omega
  ·obtain⟨t,H⟩:=G j u v C
   by_cases e:w.key=u.key
   ·exfalso
    have:m.marks.getD w.key .no=⟨U,A.me,t⟩:=by rw[wI,e,H];rfl
    rw[this]at J;simp only[Bool.true_and,Bool.or_eq_false_iff,decide_eq_false_iff_not]at J;have:=J.1;omega
   ·exact⟨t,by rw[uH e];exact H⟩
 ·intro p s g n q z B y T M J
  exact .over f h g ah n _ _ _
 ·intro p s g n q z B y T M J
  have X:∀A:Cm,A.zd m.marks->∀j u,A.wrote[j]?=Z u->A.own j->∃t,(c.wrote.foldl (λl w=>l.modify w.key λk=>{k with aG:=m.clock+1}) m.marks)[u.key]?=Z ⟨U,A.me,t⟩:=λA G j u v C=>by
   obtain⟨t,H⟩:=G j u v C;rw[Nj,H];simp only[jE];split
   ·exact⟨_,F⟩
   ·exact⟨_,F⟩
  refine⟨F,F,Ys _ _ _,f.si,⟨by have:=f.ck;simp only;omega,by have:=f.ck;simp only;omega⟩,F,F,F,F,h.ayY g q _ (by have:=f.ck;omega) M,λj u v _=>X c L j u v (.inr (.inl y)),λA _ G j u v n=>X A G j u v n,F,by simp[Cm.inst,Cm.tick,y,T]⟩
 ·intro p s w g n q z B y x P
  have E:=(dq.1 x).1;have W:w.key<m.marks.length:=by rw[f.ml];exact P
  obtain⟨N,f2,O,f4,f5,f6,R,f8⟩:=c.qX c.wrote.length;have gG:=c.xW c.wrote.length;obtain⟨l,hl⟩:∃l,m.aM[w.key]?=Z l:=⟨_,eI P⟩;refine⟨List.length_modify ..,F,wJ,f.si,⟨f.ck.1,f.ck.2.1⟩,F,F,F,N,h.aeb g q n z (.inr y) E,λj u v C=>?_,λA M G j u v C=>?_,by rw[O],?_⟩
  ·rw[R]at v
   rw[N];have hj:c.keys<j:=by
    simp only[Cm.own]at C;omega
   have e:w.key≠u.key:=λe=>by have:=Ui h x v e;omega
   rw[uH e];exact L j u v (.inr (.inr ⟨y,by omega⟩))
  ·obtain⟨t,H⟩:=G j u v C
   by_cases e:w.key=u.key
   ·exfalso
    obtain⟨t',pS⟩:=L _ w x (.inr (.inr ⟨y,dt _⟩));rw[e,H]at pS;simp only[gB,fV.mk.injEq,true_and]at pS;omega
   ·exact⟨t,by rw[uH e];exact H⟩
  ·have h1:=aeh vq (λl=>⟨c.aG,w.gone,w.val⟩::l) m.aM w.key l hl
   have V:c.inst=c.keys:=by simp[Cm.inst,y]
   have e2:(c.step c.wrote.length).inst=c.keys+1:=by
    unfold Cm.inst;rw[R];rcases gG with⟨a,b,d⟩|⟨a,b,d⟩
    ·rw[d,y];simp[a]
    ·rw[d,y,b];simp
   simp only[jY]at h1;rw[O,V,e2];simp only
   omega
 ·intro p s g n q z B y T M
  exact .over f h g ah n _ _ _
theorem ab5{m:Mo}(b:m.Ok)(n:Int):(m.pick n).1.Ok:=by
 unfold Mo.pick;split
 ·exact b
 ·split
  ·exact b
  ·split
   ·exact b
   ·rename_i c f
    obtain⟨e,j,d⟩:=b.me _ c f;have a:=LK b j d;have s:=(dq.1 f).1;refine⟨by simpa only[a.k]using b.k,by simpa only[a.s]using b.s,by simp only[a.ml,a.k,b.ml],a.si,⟨a.ck.1,a.ck.2,by simp only[a.li];exact b.ck.2.2⟩,by simpa using b.cl,λi g d=>?_,?_,?_,by simp only[a.at_,a.s,a.k];exact b.at_⟩
    ·simp only at d
     rw[List.getElem?_set]at d;simp only[a.k,a.s];split at d
     ·rename_i h
      subst h;cases d;exact⟨a.me.trans e,a.ok,a.mo⟩
     ·rename_i r
      obtain⟨o,q,q3⟩:=b.me i g d;exact⟨o,q,a.Ic g ah q3⟩
    ·have:=PT (·.at_) m.be _ c (m.bX c).2.1 f
     have k:=a.ev;have l:=b.ev;simp only
     omega
    ·have:=PT (λc:Cm=>20*c.at_+c.inst) m.be _ c (m.bX c).2.1 f
     have k:=a.ch;have l:=b.ch;simp only at this⊢;omega
theorem ay4(l:List aZ)(w:Int):(mq l w).length<=l.length:=by
 unfold mq;split
 ·rw[CF];omega
 ·exact dt _
theorem ayz{m:Mo}(a:m.Ok):m.da.1.Ok:=by
 have e:=a.k;have f:=a.s;have d:=a.at_;unfold Mo.da;split
 ·exact a
 ·split
  ·exact⟨a.k,a.s,a.ml,a.si,a.ck,a.cl,a.me,a.ev,a.ch,by simp only;omega⟩
  ·split
   ·exact⟨a.k,a.s,a.ml,a.si,a.ck,a.cl,a.me,a.ev,a.ch,by simp only;omega⟩
   ·have b:=λi=>rU (aei vq (λl=>mq l m.w) (λl=>ay4 l m.w) m.aM i) a.ch
    split
    ·exact⟨by simpa using a.k,a.s,by simpa using a.ml,a.si,a.ck,a.cl,by simpa using a.me,a.ev,b _,by simp⟩
    ·exact⟨by simpa using a.k,a.s,by simpa using a.ml,a.si,a.ck,a.cl,by simpa using a.me,a.ev,b _,by simp only[List.length_modify];omega⟩
theorem Cm.Un{m:Mo}{l:List Stp}(a:m.right l=U):(Cm.new m.be.length l).Ok m.aM.length m.sites.length:=by
 simp only[Mo.right,gT,decide_eq_true_eq]at a;exact{
  len:=a.2
  at_:=gJ _
  pr:=a.1
  lQ:=Eh
  key:=λw i=>by cases i
  site:=λs g=>by cases g
  opn:=λ_ p d f=>by
   cases l with
   |nil=>simp[Cm.new]at d
   |cons q l=>
    simp only[Cm.new,qe,gB]at d;subst d;have e:=a.1;simp only[vX,gT]at e;have:=VS e.1;simp at this;exact absurd this f
  cls:=λ_=>rfl
  out:=λ_=>rfl
  kz:=λ_ _ _=>rfl
  tO:=λh=>by simp[Cm.new]at h
  keys:=λh=>absurd F h
  kR:=λ_=>⟨F,F⟩
  ph:=gJ _
  qU:=λ_=>rfl
  b:=by simp[Cm.new]
  st:=by simp[Cm.new]}
theorem Xw{m:Mo}(a:m.Ok)(l:List Stp):(m.bt l).1.Ok:=by
 unfold Mo.bt;split
 ·exact a
 ·split
  ·exact a
  ·split
   ·exact a
   ·rename_i g d h
    have e:m.right l=U:=by simpa using d
    have f:=a.cl;refine⟨a.k,a.s,a.ml,a.si,a.ck,by simp only[oe,jY,uI];omega,λi c b=>?_,by simp[a.ev,Cm.new],by simpa[Cm.new,Cm.inst]using a.ch,a.at_⟩;simp only at b;rw[List.getElem?_append]at b;split at b
    ·exact a.me i c b
    ·rename_i j
     have:i-m.be.length=0:=by
      have:=(dq.1 b).1;simp at this;omega
     rw[this]at b;simp only[qe,gB]at b;subst b;exact⟨by simp only[Cm.new];omega,Cm.Un e,HU F⟩
theorem aqx{b c:Int}{m:Mo}(h:Mo.new a b c=Z m):m.Ok:=by
 unfold Mo.new at h;split at h
 ·cases h
 ·rename_i f
  cases h;refine⟨?_,?_,by simp[Mo.init],λv e=>?_,?_,by simp[Mo.init],λi c d=>by simp[Mo.init]at d,F,?_,gJ _⟩
  ·simp only[Mo.init,List.length_replicate];omega
  ·simp only[Mo.init,List.length_replicate];omega
  ·simp only[Mo.init,List.mem_replicate]at e;omega
  ·simp only[Mo.init];omega
  ·simp[Mo.init]
theorem PS{α:Type}(f:α->Nat)(n:Nat):∀l:List α,(∀a∈l,f a<=n)->(l.map f).sum<=n*l.length
 |[],_=>by simp
 |x::l,h=>by
  have d:=h x (eX ..);have e:=PS f n l λa b=>h a (eK _ b);simp only[fw,List.sum_cons,jY,Nat.mul_add];omega
theorem aaK{α:Type}(f:α->Nat):∀(l:List α)(a:α),a∈l->f a<=(l.map f).sum
 |x::l,a,h=>by
  simp only[fw,List.sum_cons];rcases bM.1 h with rfl|h
  ·omega
  ·have:=aaK f l a h;omega
theorem Mo.Ok.Gb{m:Mo}(a:m.Ok):m.events.length<=1600/\∀l∈m.aM,l.length<=40000:=by
 have n:=a.cl;have b:∀c∈m.be,c.at_<=200/\20*c.at_+c.inst<=4020:=λc b=>by
  obtain⟨i,j⟩:=CE b;obtain⟨_,h,_⟩:=a.me i c j;have d:=h.len;have e:=h.at_;have f:=h.inst;have g:=a.k.2;omega
 have d:=PS (·.at_) 200 m.be λc h=>(b c h).1;have e:=PS (λc:Cm=>20*c.at_+c.inst) 4020 m.be λc h=>(b c h).2;have f:=a.ev;have g:=a.ch;refine⟨by omega,λl k=>?_⟩;have:=aaK vq m.aM l k;omega
def pv(v:Int):ff:=if v=-1 then⟨Y,Y,0⟩else if v=-2 then⟨U,Y,0⟩else⟨U,U,v⟩
theorem Rj:∀(l:ae Int)(i:Nat),tR (l.map pv) i=yE l i
 |[],_=>rfl
 |v::l,i=>by
  simp only[fw,tR,yE,Rj l (i+1)];by_cases h:v=-1
  ·simp[pv,h]
  ·rw[if_neg h]
   have:(pv v).busy=U:=by
    unfold pv;rw[if_neg h];split<;>rfl
   rw[if_pos this]
theorem Rm:∀(l:ae Int)(i j:Nat),yE l i=Z j->l[j-i]?=Z (-1)
 |[],_,_,h=>by cases h
 |v::l,i,j,h=>by
  simp only[yE]at h;split at h
  ·rename_i b
   cases h;simp[b]
  ·have a:=Rm l (i+1) j h
   have c:=(Ro l (i+1) j h).1;rw[show j-i=(j-(i+1))+1 by omega];simpa using a
theorem avs(v:Int)(h:-2<=v):zq (pv v)=v:=by
 unfold pv zq;split
 ·simp;omega
 ·split
  ·simp;omega
  ·simp
theorem ada:∀l:ae Int,(∀v∈l,-2<=v)->(l.map pv).map zq=l
 |[],_=>rfl
 |v::l,h=>by
  simp only[fw,avs v (h v (eX ..)),ada l λv a=>h v (eK _ a)]
theorem apw(v w:Int)(h:-2<=v):y8 (pv v) w=if 0<=v/\v<w then v else w:=by
 unfold pv y8;split
 ·rename_i e;subst e;simp
 ·split
  ·rename_i e;subst e;simp
  ·have:0<=v:=by omega
   simp[this]
theorem avo:pv (-1)=⟨Y,Y,0⟩:=rfl
theorem avp(v:Int)(h:0<=v):pv v=⟨U,U,v⟩:=by
 unfold pv;rw[if_neg ah,if_neg ah]
theorem aeF(e:ae aZ)(b:Int):∀k i,upto e b k<=i->i<k->∀v,e[i]?=Z v->v.aG>b
 |0,_,_,h,_,_=>absurd h (Nat.not_lt_zero _)
 |k+1,i,a,c,v,d=>by
  simp only[upto]at a;split at a
  ·split at a
   ·rename_i u f g
    rcases Nat.lt_succ_iff_lt_or_eq.1 c with c|rfl
    ·exact aeF e b k i a c v d
    ·rw[f]at d;cases d;exact g
   ·omega
  ·omega
theorem aeG(a:ae aZ)(b:Int):∀k j,k<=a.length->upto a b k=j+1->∃v,a[j]?=Z v/\v.aG<=b
 |0,j,_,h=>by simp[upto]at h
 |k+1,j,d,h=>by
  obtain⟨u,c⟩:∃u,a[k]?=Z u:=⟨_,eI ah⟩;simp only[upto,c]at h;split at h
  ·exact aeG a b k j ah h
  ·rename_i e
   simp only[Nat.add_right_cancel_iff]at h;subst h;exact⟨u,c,by omega⟩
theorem OD(b:Int):∀l:ae aZ,eo b l<=l.length
 |[]=>dt _
 |v::l=>by
  have:=OD b l;simp only[eo];split<;>simp only[jY]<;>omega
theorem abz(b:Int):∀(l:ae aZ)(i:Nat)(v:aZ),i<eo b l->l[i]?=Z v->v.aG>b
 |x::l,0,v,h,a=>by
  simp only[qe,gB]at a;subst a;simp only[eo]at h;split at h
  ·omega
  ·omega
 |x::l,i+1,v,h,a=>by
  simp only[eo]at h;split at h
  ·omega
  ·exact abz b l i v ah (by simpa using a)
theorem aby(b:Int):∀(l:ae aZ)(v:aZ),l[eo b l]?=Z v->v.aG<=b
 |x::l,v,h=>by
  simp only[eo]at h;split at h
  ·rename_i a
   simp only[qe,gB]at h;subst h;exact a
  ·exact aby b l v (by simpa using h)
theorem aeH(l:ae aZ)(b:Int):upto l.reverse b l.length+eo b l=l.length:=by
 have k:=OD b l;have m:=P2 l.reverse b l.length;have e:∀i,i<l.length->∃v,l.reverse[i]?=Z v/\l[l.length-1-i]?=Z v:=λi g=>⟨l[l.length-1-i],by rw[List.getElem?_reverse g,eI],eI _⟩;by_cases aC:upto l.reverse b l.length+eo b l<l.length
 ·exfalso
  obtain⟨v,a,c⟩:=e (l.length-1-eo b l) ah;have n:=aeF l.reverse b l.length _ ah ah v a;rw[show l.length-1-(l.length-1-eo b l)=eo b l by omega]at c;have o:=aby b l v c;omega
 ·by_cases p:l.length<upto l.reverse b l.length+eo b l
  ·exfalso
   obtain⟨j,h⟩:∃j,upto l.reverse b l.length=j+1:=⟨upto l.reverse b l.length-1,by omega⟩;obtain⟨v,a,c⟩:=aeG l.reverse b l.length j ba h;obtain⟨q,d,f⟩:=e j ah;rw[a]at d;cases d;have:=abz b l _ v ah f;omega
  ·omega
theorem atA(l:ae aZ)(b:Int):xO (!(sY l.reverse b).2) (sY l.reverse b).1=match l[eo b l]? with
  |some v=>vj v.gone v.val
  |none=>vj U eH:=by
 have h:=aeH l b;unfold sY;rw[IH];by_cases g:eo b l=l.length
 ·have c:upto l.reverse b l.length=0:=by omega
  rw[g,Gr (dt _),c];cases l.reverse[0-1]?<;>simp[xO,vj,eH]
 ·have f:=OD b l
  obtain⟨v,a⟩:∃v,l[eo b l]?=Z v:=⟨_,eI ah⟩;have d:l.reverse[upto l.reverse b l.length-1]?=Z v:=by
   rw[List.getElem?_reverse ah,show l.length-1-(upto l.reverse b l.length-1)=eo b l by omega,a]
  have e:upto l.reverse b l.length≠0:=by omega
  rw[d,a];cases hg:v.gone<;>simp[e,hg,xO,vj,eH]
theorem aoU(l:ae aZ)(b:Int)(a:0<=b):decide (DL l.reverse>b)=oJ l b:=by
 cases l with
 |nil=>simp[DL,oJ];omega
 |cons v l=>simp[DL,oJ]
theorem ay7(l:ae aZ)(w:Int):mP l.reverse w=(mq l w).reverse:=by
 have g:=aeH l w;have e:=OD w l;unfold mP mq;rw[IH];by_cases f:eo w l=l.length
 ·have b:upto l.reverse w l.length=0:=by omega
  rw[b,f,Gr (dt _)]
 ·obtain⟨v,a⟩:∃v,l[eo w l]?=Z v:=⟨_,eI ah⟩
  obtain⟨k,d⟩:∃k,upto l.reverse w l.length=k+1:=⟨upto l.reverse w l.length-1,by omega⟩;have c:l.reverse[k]?=Z v:=by
   rw[List.getElem?_reverse ah,show l.length-1-k=eo w l by omega,a]
  rw[d,a];simp only[c];cases v.gone with
  |true=>
   simp only[if_true];rw[List.drop_reverse];congr 2;omega
  |false=>
   simp only[hZ,if_false];rw[List.drop_reverse];congr 2;omega
section
variable {V:Type}
theorem abg(k:Int):∀(l:bU V)(i:Nat),(vg k l i).map (·.2)=(l.find? λx=>decide (x.1=k)).map (·.2.1)
 |[],_=>rfl
 |x::l,i=>by
  simp only[vg,List.find?_cons];by_cases h:x.1=k
  ·simp[h]
  ·simp[h,abg k l (i+1)]
theorem T7(l:bU V)(k:Int):iI l k=(l.find? λx=>decide (x.1=k)).map (·.2.1):=abg k l 0
theorem abd(k:Int):iI ([]:bU V) k=I:=rfl
theorem xB(x:Int×V×Nat)(l:bU V)(k:Int):iI (x::l) k=if x.1=k then Z x.2.1 else iI l k:=by
 rw[T7,T7,List.find?_cons];by_cases h:x.1=k<;>simp[h]
theorem Oy{l:bU V}{k:Int}:iI l k=I↔k∉l.map (·.1):=by
 rw[T7];simp;constructor
 ·intro h a b d;exact h k a b d F
 ·intro h a b c d e;subst e;exact h b c d
theorem ap4:∀{l:bU V},(l.map (·.1)).Nodup->∀x∈l,iI l x.1=Z x.2.1
 |y::l,h,x,a=>by
  simp only[fw,oO]at h;rw[xB];rcases bM.1 a with rfl|a
  ·simp
  ·have:y.1≠x.1:=λe=>h.1 (by rw[e];exact jg a)
   rw[if_neg this];exact ap4 h.2 x a
theorem T8(k a:Int)(v:V)(c:Nat):∀l:bU V,iI (j9 l k v c) a=if k=a then Z v else iI l a
 |[]=>by simp only[j9,xB,abd]
 |x::l=>by
  simp only[j9];by_cases h:x.1=k
  ·subst h
   rw[if_pos F,xB,xB];by_cases b:x.1=a<;>simp[b]
  ·rw[if_neg h,xB,xB,T8 k a v c l]
   by_cases b:x.1=a
   ·have:¬k=a:=λe=>h (b.trans e.symm)
    simp[b,this]
   ·simp[b]
theorem OB(k:Int)(v:V)(a:Nat):∀l:bU V,(j9 l k v a).map (·.1)=if k∈l.map (·.1)then l.map (·.1)else l.map (·.1)++[k]
 |[]=>by simp[j9]
 |x::l=>by
  simp only[j9];by_cases h:x.1=k
  ·subst h;simp
  ·rw[if_neg h,fw,OB k v a l]
   have b:¬k=x.1:=λe=>h e.symm;simp only[fw,bM,b,false_or];split<;>simp
theorem K3(k:Int)(v:V)(a:Nat):∀l:bU V,(j9 l k v a).map (·.2.2)=if k∈l.map (·.1)then l.map (·.2.2)else l.map (·.2.2)++[a]
 |[]=>by simp[j9]
 |x::l=>by
  simp only[j9];by_cases h:x.1=k
  ·subst h;simp
  ·rw[if_neg h,fw,K3 k v a l]
   have b:¬k=x.1:=λe=>h e.symm;simp only[fw,bM,b,false_or];split<;>simp
theorem mG.set{l:bU V}{d:Nat}(h:mG l d)(k:Int)(v:V):mG (j9 l k v d) (qP l k d):=by
 have c:∀b∈l.map (·.2.2),b<d:=λb g=>by
  obtain⟨x,i,rfl⟩:=og.1 g;exact h.old x i
 by_cases f:k∈l.map (·.1)
 ·have m:qP l k d=d:=by
   unfold qP;cases hg:iI l k with
   |none=>exact absurd f (Oy.1 hg)
   |some u=>simp
  rw[m];refine⟨by rw[OB,if_pos f];exact h.keys,by rw[K3,if_pos f];exact h.born,λx i=>?_⟩;have:x.2.2∈(j9 l k v d).map (·.2.2):=jg i;rw[K3,if_pos f]at this;exact c _ this
 ·have m:qP l k d=d+1:=by
   unfold qP;rw[Oy.2 f];rfl
  rw[m];refine⟨?_,?_,λx i=>?_⟩
  ·rw[OB,if_neg f,zE]
   exact⟨h.keys,by simp,λa j b g e=>by
    rw[my]at g;subst g e;exact f j⟩
  ·rw[K3,if_neg f,zE]
   exact⟨h.born,by simp,λa j b g e=>by
    rw[my]at g;subst g e;exact Nat.lt_irrefl _ (c _ j)⟩
  ·have:x.2.2∈(j9 l k v d).map (·.2.2):=jg i
   rw[K3,if_neg f,pz,my]at this;rcases this with h|h
   ·exact Nat.lt_succ_of_lt (c _ h)
   ·omega
theorem aa9(k:Int):∀l:bU V,(ng k l).Sublist l
 |[]=>.slnil
 |x::l=>by
  simp only[ng];split
  ·exact List.sublist_cons_self ..
  ·exact(aa9 k l).cons_cons x
theorem abc(k a:Int):∀{l:bU V},(l.map (·.1)).Nodup->iI (ng k l) a=if k=a then I else iI l a
 |[],_=>by simp[ng,abd]
 |x::l,h=>by
  simp only[fw,oO]at h;simp only[ng];by_cases c:x.1=k
  ·subst c
   rw[if_pos F,xB];by_cases b:x.1=a
   ·subst b;simp[Oy.2 h.1]
   ·simp[b]
  ·rw[if_neg c,xB,xB,abc k a h.2]
   by_cases b:x.1=a
   ·have:¬k=a:=λe=>c (b.trans e.symm)
    simp[b,this]
   ·simp[b]
end
theorem abe(id k:Int):∀{l:bU Mk},(l.map (·.1)).Nodup->iI (vW id l) k=match iI l k with
  |some m=>if m.1=id then I else Z m
  |none=>I
 |[],_=>rfl
 |x::l,h=>by
  simp only[fw,oO]at h;have b:=abe id k (l:=l) h.2;unfold vW at b⊢;rw[Ej,xB];by_cases c:x.1=k
  ·subst c
   rw[if_pos F];by_cases a:x.2.1.1=id
   ·have d:iI l x.1=I:=Oy.2 h.1
    rw[d]at b;simp[a,b]
   ·simp[a,xB]
  ·rw[if_neg c]
   by_cases a:x.2.1.1=id
   ·simp[a,b]
   ·simp[a,xB,c,b]
def pF(marks:ae fV)(a:bU Mk):Prop:=∀(k:Nat)(t:fV),marks[k]?=Z t->iI a k=if t.set then Z (t.bt,t.aG)else I
theorem pF.set{marks:ae fV}{b:bU Mk}(h:pF marks b)(k d:Nat)(c t:Int):pF (marks.set k ⟨U,c,t⟩) (j9 b k (c,t) d):=λj u a=>by
 rw[T8];by_cases e:k=j
 ·subst e
  have f:=(dq.1 a).1;rw[zD (by simpa using f)]at a;cases a;simp
 ·have:¬(k:Int)=j:=by omega
  rw[uH e]at a;rw[if_neg this];exact h j u a
theorem pF.del{marks:ae fV}{b:bU Mk}(h:pF marks b)(d:(b.map (·.1)).Nodup)(k:Nat):pF (marks.set k .no) (ng k b):=λj u a=>by
 rw[abc _ _ d];by_cases e:k=j
 ·subst e
  have c:=(dq.1 a).1;rw[zD (by simpa using c)]at a;cases a;simp[fV.no]
 ·have:¬(k:Int)=j:=by omega
  rw[uH e]at a;rw[if_neg this];exact h j u a
theorem pF.leave{marks:ae fV}{c:bU Mk}(h:pF marks c)(f:(c.map (·.1)).Nodup)(b:Nat):pF (marks.map (yz b)) (vW b c):=λj u e=>by
 rw[abe _ _ f];rw[fW]at e;obtain⟨t,g,rfl⟩:=fX.1 e;rw[h j t g];unfold yz;by_cases a:t.set=U
 ·by_cases d:t.bt=b
  ·simp[a,d,fV.no]
  ·simp[a,d]
 ·simp[a]
theorem pF.aG{ws:ae Wt}(b:Nat)(T:Int):∀(d:ae Wt)(marks:ae fV)(c:bU Mk)(a:Nat),pF marks c->mG c a->(∀w∈d,∃t,marks[w.key]?=Z ⟨U,b,t⟩)->pF (d.foldl (λl w=>l.modify w.key λk=>{k with aG:=T}) marks) (Ec b T (d.map λw=>(w.key:Int)) c a).1/\mG (Ec b T (d.map λw=>(w.key:Int)) c a).1 (Ec b T (d.map λw=>(w.key:Int)) c a).2
 |[],marks,c,a,h,g,_=>⟨h,g⟩
 |w::d,marks,c,a,h,g,i=>by
  obtain⟨t,m⟩:=i w (eX ..);have n:=(dq.1 m).1;have e:marks.modify w.key (λk=>{k with aG:=T})=marks.set w.key ⟨U,b,T⟩:=by
   apply List.ext_getElem?;intro j;rw[Gs,List.getElem?_set];by_cases f:w.key=j
   ·subst f
    rw[m,if_pos n];simp
   ·simp[f]
  have:=pF.aG (ws:=ws) b T d (marks.set w.key ⟨U,b,T⟩) (j9 c w.key (b,T) a) (qP c w.key a) (h.set w.key a b T) (g.set _ _) λu o=>by
   by_cases f:w.key=u.key
   ·exact⟨T,by rw[<-f,zD n]⟩
   ·obtain⟨q,p⟩:=i u (eK _ o)
    exact⟨q,by rw[uH f];exact p⟩
  simpa only[Ec,fw,List.foldl_cons,e]using this
def KY(marks:ae fV):Nat->ae (Int×Int×Int)
 |0=>[]
 |i+1=>KY marks i++match marks[i]? with
  |some t=>if t.set then [((i:Int),t.bt,t.aG)]else []
  |none=>[]
theorem aa6{marks:ae fV}{b:bU Mk}(h:pF marks b):∀i,i<=marks.length->pU b i=KY marks i
 |0,_=>rfl
 |i+1,d=>by
  obtain⟨t,a⟩:∃t,marks[i]?=Z t:=⟨_,eI ah⟩;simp only[pU,KY,aa6 h i ah,a,h i t a];by_cases c:t.set=U<;>simp[c]
structure rm(l:ae Wt)(ws:bU Wr):Prop where
 get:∀k:Nat,iI ws k=(lR k l).map λw=>(w.gone,w.val)
 keys:(ws.map (·.1)).Perm (l.map λw=>(w.key:Int))
theorem Gj(k:Nat)(w:Wt)(l:ae Wt):lR k (w::l)=if w.key=k then Z w else lR k l:=by
 unfold lR;rw[List.find?_cons];by_cases h:w.key=k
 ·simp[h]
 ·have:(w.key==k)=Y:=by simpa using h
  simp[h,this]
theorem rm.nil:rm [] ([]:bU Wr):=⟨λ_=>rfl,.refl _⟩
theorem aeU(w:Wt)(k:Nat):∀l:ae Wt,(l.map (·.key)).Pairwise (·<·)->lR k (mr w l)=if w.key=k then Z w else lR k l
 |[],_=>by simp[mr,Gj]
 |x::l,h=>by
  simp only[fw,mQ]at h;simp only[mr];split
  ·rw[Gj]
  ·split
   ·rename_i e
    rw[Gj,Gj];by_cases a:w.key=k
    ·simp[a]
    ·have:¬x.key=k:=λb=>a (e▸b)
     simp[a,this]
   ·rename_i e
    rw[Gj,Gj,aeU w k l h.2];by_cases a:x.key=k
    ·have:¬w.key=k:=λb=>e (a.trans b.symm)
     simp[a,this]
    ·simp[a]
theorem aeX(w:Wt):∀l:ae Wt,(l.map (·.key)).Pairwise (·<·)->((mr w l).map λw=>(w.key:Int)).Perm (if w.key∈l.map (·.key)then l.map λw=>(w.key:Int)else(l.map λw=>(w.key:Int))++[(w.key:Int)])
 |[],_=>by simp[mr]
 |x::l,h=>by
  simp only[fw,mQ]at h;have d:=aeX w l h.2;simp only[mr];split
  ·rename_i aC
   have c:¬w.key∈x.key::l.map (·.key):=λa=>by
    rcases bM.1 a with e|a
    ·omega
    ·have:=h.1 _ a;omega
   simp only[fw];rw[if_neg c];exact(lD (l₁:=[(w.key:Int)]))
  ·split
   ·rename_i e
    simp only[fw];rw[if_pos (by rw[e];exact eX ..),e]
   ·rename_i e
    have b:¬w.key=x.key:=λh=>e h.symm;simp only[fw,bM,b,false_or];refine(d.cons _).trans ?_;split
    ·exact .refl _
    ·exact .refl _
theorem rm.aav{l:ae Wt}{b:bU Wr}(h:rm l b)(k:Nat):(k:Int)∈b.map (·.1)↔k∈l.map (·.key):=by
 rw[h.keys.mem_iff];simp only[og];constructor
 ·rintro⟨w,a,e⟩;exact⟨w,a,by omega⟩
 ·rintro⟨w,a,e⟩;exact⟨w,a,by omega⟩
theorem rm.put{l:ae Wt}{c:bU Wr}(h:rm l c)(b:(l.map (·.key)).Pairwise (·<·))(w:Wt)(d:Nat):rm (mr w l) (j9 c w.key (w.gone,w.val) d)where
 get:=λk=>by
  rw[T8,aeU w k l b];by_cases e:w.key=k
  ·subst e;simp
  ·have:¬(w.key:Int)=k:=by omega
   rw[if_neg this,if_neg e];exact h.get k
 keys:=by
  rw[OB];refine List.Perm.trans ?_ (aeX w l b).symm;by_cases a:w.key∈l.map (·.key)
  ·rw[if_pos a,if_pos ((h.aav _).2 a)];exact h.keys
  ·rw[if_neg a,if_neg (λf=>a ((h.aav _).1 f))];exact h.keys.append_right _
theorem rm.jb{l:ae Wt}{c:bU Wr}(h:rm l c)(d:(l.map (·.key)).Pairwise (·<·)):jb c=l.map λw=>(w.key:Int):=by
 unfold _root_.Go.Proofs.YtgahemdblfapeaaGreatDoor.jb;rw[ad5 h.keys];unfold ti;refine List.mergeSort_of_pairwise (List.Pairwise.imp (R:=λa b:Int=>a<b) (λh=>by simp only[decide_eq_true_eq];omega) ?_);have:(l.map λw=>(w.key:Int))=(l.map (·.key)).map λk:Nat=>(k:Int):=by simp
 rw[this,List.pairwise_map];exact d.imp λh=>by omega
theorem rm.at_{l:ae Wt}{c:bU Wr}(h:rm l c)(d:(l.map (·.key)).Pairwise (·<·)){w:Wt}(f:l[j]?=Z w):iI c w.key=Z (w.gone,w.val):=by
 have i:(l.map (·.key)).Nodup:=d.imp λh=>Nat.ne_of_lt h;rw[h.get];have:∀(l:ae Wt),(l.map (·.key)).Nodup->w∈l->lR w.key l=Z w:=by
  intro l;induction l with
  |nil=>intro _ h;cases h
  |cons x l g=>
   intro b a;simp only[fw,oO]at b;rw[Gj];rcases bM.1 a with rfl|a
   ·simp
   ·have:¬x.key=w.key:=λe=>b.1 (by rw[e];exact jg a)
    rw[if_neg this];exact g b.2 a
 rw[this l i (jZ f)];rfl
theorem ajy{m:Mo}{c:Cm}{h:bU Wr}{g:bU Mk}(j:rm c.wrote h)(i:pF m.marks g){k:Nat}{l:ae aZ}(b:m.aM[k]?=Z l)(n:m.marks.length=m.aM.length):Aj h g l.reverse k c.me c.b=m.get c k:=by
 have o:=(dq.1 b).1;obtain⟨t,f⟩:∃t,m.marks[k]?=Z t:=⟨_,eI ah⟩;unfold Aj Mo.get;rw[j.get];cases hg:lR k c.wrote with
 |some w=>simp[xO,vj,eH]
 |none=>
  simp only[Option.map_none];rw[i k t f,wI,f,wI,b];simp only[rV];have d:=atA l c.b;by_cases e:t.set=U
  ·simp only[e,if_true,true_and]
   by_cases a:t.bt≠(c.me:Int)/\t.aG≠0/\t.aG<=c.b
   ·rw[if_pos a,if_pos a]
   ·rw[if_neg a,if_neg a,d]
    cases l[eo c.b l]?<;>rfl
  ·simp only[e,hZ,if_false,false_and]
   rw[d];cases l[eo c.b l]?<;>rfl
theorem ag2{m:Mo}{c:Cm}{f:bU Mk}(h:pF m.marks f){k:Nat}{l:ae aZ}(d:m.aM[k]?=Z l)(i:m.marks.length=m.aM.length)(g:0<=c.b):clash f l.reverse k c.me c.b=(((m.marks.getD k .no).set&&decide ((m.marks.getD k .no).bt≠c.me))||oJ (m.aM.getD k []) c.b):=by
 have j:=(dq.1 d).1;obtain⟨t,e⟩:∃t,m.marks[k]?=Z t:=⟨_,eI ah⟩;unfold clash;rw[h k t e,aoU l c.b g,wI,e,wI,d];simp only[rV];by_cases a:t.set=U
 ·by_cases b:t.bt=c.me
  ·simp[a,b]
  ·simp[a,b]
 ·simp[a]

theorem Pv{α:Type}{l:ae α}{i:Nat}{x:α}(h:l[i]?=Z x):l.set i x=l:=by
 apply List.ext_getElem?;intro j;rw[List.getElem?_set];by_cases e:i=j
 ·subst e
  rw[if_pos F,if_pos (dq.1 h).1,h]
 ·rw[if_neg e]



theorem Ub{α:Type}(f:α->α):∀(l:ae α)(i:Nat)(x:α),l[i]?=Z x->l.modify i f=l.set i (f x)
 |[],i,x,h=>by simp at h
 |y::l,0,x,h=>by
  simp only[qe,gB]at h;subst h;simp
 |y::l,i+1,x,h=>by
  have:=Ub f l i x (by simpa using h);simp[this]




theorem aeq(a:ByteArray):∀(n i:Nat)(r:ae UInt8),a.size-i=n->(ByteArray.toList.loop a i r).length=n+r.length
 |0,i,r,h=>by
  unfold ByteArray.toList.loop;rw[if_neg ah];simp
 |n+1,i,r,h=>by
  unfold ByteArray.toList.loop;rw[if_pos ah,aeq a n (i+1) _ ah];simp only[jY];omega
theorem aet(a:ByteArray):a.toList.length=a.size:=by
 have:=aeq a a.size 0 [] ah;simpa[ByteArray.toList]using this
theorem abE(v:ByteArray):K4 v=!decide (v.size=0):=by
 have b:(⟨#[]⟩:ByteArray).toList=[]:=IF.1 (aet ⟨#[]⟩);unfold K4;rw[b];have:=aet v;cases hl:v.toList with
 |nil=>
  rw[hl]at this;simp only[uI]at this;rw[decide_eq_true this.symm];rfl
 |cons a l=>
  rw[hl]at this;simp only[jY]at this;rw[decide_eq_false ah];rfl
theorem ant{P:aD}{t a b c n d:Nat}{i:Int}(p:i=j)(q:j<n)(h:oG P t a=U)(w:ax):(HO t (.slice (Z ⟨b,c,I⟩) n d) (ai i)).run P w=.ok (.value (.pointer (Z ⟨b,c+j*a,I⟩))) w:=by
 subst p;unfold oG at h;split at h
 ·rename_i e l
  split at h
  ·rename_i o g
   have h:=CI h;have m:=zy l w;have k:bP P (sizeOf e) w=.ok a w:=by rw[Lv g w,h]
   show((Instr.indexAt t (.slice (Z ⟨b,c,I⟩) n d) (ai j))>>=λv=>(qi (mR v):Sem Next)).run P w=_;unfold Instr.indexAt;simp only[fK,ai,asIntOf,pure,bP,m,fy];rw[if_pos (by constructor<;>omega)];simp only[fK,k,fy,bP,Int.toNat_natCast];unfold Addr.add;split
   ·rename_i f;rw[f];simp
   ·simp
  ·cases h
 ·cases h
abbrev ixo{P:aD}(t a b c n d:Nat)(i:Int)(j:Nat)(e:i=j/\j<n)(h:oG P t a=U:=by kernel_rfl):Aw P:=.s (HO t (.slice (Z ⟨b,c,I⟩) n d) (ai i)) (.value (.pointer (Z ⟨b,c+j*a,I⟩))) (ant e.1 e.2 h)
abbrev xr{P:aD}{n:Nat}(t a b d c:Nat)(e:j<n)(h:oG P t a=U:=by kernel_rfl):Aw P:=ixo t a b d n c j j ⟨F,e⟩ h
abbrev Ir(b:Nat)(o:af ag)(t:aK)(f:Nat×Nat):En:=.ob b (.cells o t f)
def U7(o:af ag)(a:Nat)(b:ae Stp):Prop:=∀i p,b[i]?=Z p->∀j u,p.cells[j]?=Z u->o.toList[a+i*3+j]?=Z u


theorem atL(p q:iP)(a:Int)(n:Nat)(c:0<n)(w:ax):(Ab .rem 3 p q (ai a) (ai n)).run Sv w=.ok (.value (ai (a.tmod n))) w:=by
 refine Jm (by rfl) ?_;have:¬(n:Int)=0:=by omega
 have b:n≠0:=by omega
 simp[binOp,Op.intDiv,ai,this,b,pure,bP]
abbrev acG(p q:iP)(a:Int)(n:Nat)(b:0<n):Aw Sv:=.s (Ab .rem 3 p q (ai a) (ai n)) (.value (ai (a.tmod n))) (atL p q a n b)
def vh(c:Int)(n:Nat):Nat:=(if c<0 then-(c+1)else c).toNat%n
theorem aes(a:Int)(n:Nat)(h:0<=a):a.tmod n=((a.toNat%n:Nat):Int):=by
 obtain⟨k,rfl⟩:=Int.eq_ofNat_of_zero_le h;rw[Int.tmod_eq_emod_of_nonneg h];simp
theorem Lf(c:Int)(n:Nat)(h:0<n):vh c n<n:=Nat.mod_lt _ h
theorem UG(c:Int)(n:Nat)(a:0<n)(f:-9223372036854775808≤c∧c<9223372036854775808):Fl Sv 37 [goInt c,goInt n].toArray [] λv L=>v=goInt (vh c n)∧L=[]:=by
 by_cases h:c<0
 ·have e:IntKind.i64.wrap (0-(c+1))=-(c+1):=wrap64 ah
  refine Fl.of 13 λd b=>av [bT h,aI (c+1) (c+1) ah,acG (tm 10) (tm 11) (IntKind.i64.wrap (0-(c+1))) n a] ?_;refine ez [goInt ((IntKind.i64.wrap (0-(c+1))).tmod n)] _ ⟨?_,rfl⟩;rw[e,aes _ _ ah];simp[vh,h,qV]
 ·refine Fl.of 13 λd b=>av [bF h,acG (tm 10) (tm 11) c n a] ?_
  refine ez [goInt (c.tmod n)] _ ⟨?_,rfl⟩;rw[aes _ _ ah];simp[vh,h,qV]
theorem ajC(b:Option Addr)(a:Nat):Fl Sv 22 [.slice b 0 a].toArray [] λv L=>v=sv none 0 0∧L=[bK none 0 []]:=by
 exact Fl.of 31 λd c=>av [.g,gi 0 (0:Nat)] (pC 50 3 (ez [sv none 0 0] _ ⟨rfl,rfl⟩))
theorem ajD (b off:Nat) (oo:Array Value) (ty:TypeId) (fz:Nat×Nat) (cap:Nat) (pr:List Stp) (kC:pr.length≤4398046511104) (gG:U7 oo off pr):Fl Sv 22 [.slice (some ⟨b,off,none⟩) pr.length cap].toArray [Ir b oo ty fz] λv L=>∃g c,v=sv g pr.length c∧L=[Ir b oo ty fz,bK g c pr]:=by
 refine Fl.of 31 λr q=>av [.g,.x] (pC 50 3 ?_);refine ji (ι:=Nat×Option Nat×Nat) (λi=>pr.length-i.1) (λi=>[(0,.slice (some ⟨b,off,none⟩) pr.length cap),(3,sv i.2.1 i.1 i.2.2),(4,goInt i.1)]) (λi=>[Ir b oo ty fz,.row 50 3 i.2.1 i.1 i.2.2 ((pr.take i.1).flatMap Stp.cells)]) (λi=>i.1≤pr.length) (0,none,0) (Nat.zero_le _) ?_;rintro⟨i,g,c⟩ m h;simp only at m h;by_cases aC:i<pr.length
 ·obtain⟨p,f⟩:∃p,pr[i]?=some p:=⟨_,List.getElem?_eq_getElem aC⟩
  have j:oo.toList[off+i*3]?=some (goInt p.kind):=gG i p f 0 _ rfl;have k:oo.toList[off+i*3+1]?=some (goInt p.key):=gG i p f 1 _ rfl;have l:oo.toList[off+i*3+2]?=some (.string p.val):=gG i p f 2 _ rfl;have a:∀e d,Rs Sv _ _ _ _ _:=λe d=>h (i+1,e,d) (by simp only;omega) aC;have n:(pr.take (i+1)).flatMap Stp.cells=(pr.take i).flatMap Stp.cells++p.cells:=by
   rw[List.take_add_one,f];simp
  simp only[n]at a;refine av [fu i pr.length] ?_;refine jO 19 [xr 42 3 b off cap aC,rr 0 j,xr 42 3 b off cap aC,rr 0 k,xr 42 3 b off cap aC,rr 0 l] [17,18] [19] (tD (λ_=>[]) λz=>Gy (Jf 32 45 1 2 i ah) ?_);rintro _ _ ⟨e,d,rfl,rfl⟩;refine ib (Fl.run [] (av [aS i,.g,.x] (ey [2] ?_)));exact cq (a (some e) d)
 ·have o:i=pr.length:=by omega
  subst o;refine av [gi pr.length pr.length] ?_;rw[List.take_length];exact ez [sv g pr.length c] _ ⟨g,c,rfl,rfl⟩
section
open Go.Conc (G)
def Ck(P:aD)(a:aA)(L:ae En)(R:ag->ae En->Prop):Prop:=∀L2(w),Kn (L++L2) w.heap->∀d cs,∃v O b,Steps P (lone a (d::cs) w) (lone (d.finish v) cs O)/\O.os=w.os/\O.output=w.output/\R v b/\Kn (b++L2) O.heap
theorem Fl.ck{P}{f}{a}{L}{R}(h:Fl P f a L R):Ck P (bO P f a .normal) L R:=λL2 w d r cs=>by
 obtain⟨e,O,q,⟨v,rfl,m,n,b,q3,p⟩,g,_,j⟩:=h _ _ d w F _;exact⟨v,O,b,g.trans (.one (step_leave_returned j)),m,n,q3,p⟩
section
variable {P:aD}{fn:cH}{W:af ag}{S:af bq}{i:Nat}{rest:ae Nat}{k:ae aJ}{K:ae cz}{kind:dQ}{cs:ae aA}{o:bq}{s:Sem Next}{w O:ax}{l:Nat}
theorem acM(a:S[i]?=Z o)(g:wO o (yielded S W)=U)(b:(match o.op with|.defer _=>Y|_=>U)=U)(f:cN (bR ⟨fn,W,[],K,.run,kind,I⟩) o=s):aE P U (G ⟨fn,W,.inRegion S (i::rest)::k,K,.run,kind,Z l⟩ cs) w=iA P U ⟨fn,W,.inRegion S (i::rest)::k,K,.run,kind,Z l⟩ cs I s w:=by
 have e:bR ⟨fn,W,.inRegion S (i::rest)::k,K,.run,kind,Z l⟩=bR ⟨fn,W,[],K,.run,kind,I⟩:=funext λx=>by cases x<;>rfl
 simp only[G,aE,cf,a,jE,g,rV,if_true];unfold stepG.oper;simp only[Frame.oper?,a];rw[<-f,e];cases d:o.op<;>first|(rw[d]at b;exact absurd b ba)|simp only
theorem U1{fr}{v}{n}(b:n=.value v\/(n=.skip/\v=aB))(e:fr.kind≠.early)(d:s.run P w=.ok n O):∃es,iA P U fr cs I s w=dZ (fr.finish v) cs O es:=by
 have a:s.runT P w #[]=(.ok n O,s.events P w #[]):=by rw[jN,d]
 unfold iA;simp only[a];rcases b with rfl|⟨rfl,rfl⟩<;>exact⟨_,by rfl⟩
theorem at7{fr}{f}{a}(e:∃S i r k,fr.todo=.inRegion S (i::r)::k\/∃l,fr.todo=.inRangeFunc l::k)(g:fr.kind≠.early)(d:s.run P w=.ok (.enter f a) O):∃es,iA P U fr cs I s w=dZ (bO P f a .normal) (fr::cs) O es:=by
 have b:s.runT P w #[]=(.ok (.enter f a) O,s.events P w #[]):=by rw[jN,d]
 unfold iA;simp only[b];obtain⟨S,i,r,k,h|⟨l,h⟩⟩:=e<;>exact⟨_,by simp[h];rfl⟩
theorem acN{fr}{l}{f}{tm}{a b}(g:fr.kind≠.early)(e:s.run P w=.ok (.round l f tm a b) O):∃es,iA P U fr cs I s w=dZ (Frame.round l f tm a b .normal) (fr::cs) O es:=by
 have d:s.runT P w #[]=(.ok (.round l f tm a b) O,s.events P w #[]):=by rw[jN,e]
 unfold iA;simp only[d];exact⟨_,by rfl⟩
end
def HX:ae aJ->Bool
 |.inRegion S (i::_)::_=>match S[i]? with
  |some o=>match o.op with
   |.defer _=>Y
   |_=>U
  |none=>U
 |_=>U
section
variable {P:aD}
def HS(N:Nat)(c:Cf P):aj (Cf P):=match HX c.todo with
 |true=>match mS N c with
  |some M=>match M.ds with
   |[]=>Z M
   |_=>I
  |none=>I
 |false=>I
def y9(N:Nat):Nat->Cf P->Cf P
 |0,c=>c
 |n+1,c=>match PR c.an with
  |true=>⟨c.todo,c.ds,c.env,c.L,c.z,[],c.ps⟩
  |false=>match HS N c with
   |none=>c
   |some M=>y9 N n M
abbrev Iq(fn:cH)(kind:dQ)(l:Nat)(c:Cf P)(W:af ag):aA:=⟨fn,W,c.todo,c.ds,.run,kind,Z l⟩
section
variable {N:Nat}{L2:ae En}{c M:Cf P}{W:af ag}{w:ax}{fn:cH}{kind:dQ}{cs:ae aA}{l:Nat}
def WQ(P)(N:Nat)(L2:ae En)(fn:cH)(kind:dQ)(l:Nat)(cs:ae aA)(b:aA)(w:ax)(M:Cf P):Prop:=∃a O,step P (lone b cs w)=.next (lone (Iq fn kind l M a) cs O)/\O.os=w.os/\O.output=w.output/\At N L2 M a O
theorem apL(bj:kind≠.early)(h0:c.ds=[])(h:HS N c=Z M)(hg:M.sF)(f:At N L2 c W w):WQ P N L2 fn kind l cs (Iq fn kind l c W) w M/\M.ds=[]:=by
 obtain⟨V,K,T,L,z,an,ps⟩:=c;cases h0;unfold HS at h;split at h
 ·rename_i J
  split at h
  ·rename_i c1 a
   split at h
   ·rename_i Q
    cases h;refine⟨?_,Q⟩;unfold mS at a;dsimp only at a;split at a
    ·rename_i S i rest k
     split at a
     ·cases a
     ·rename_i o j
      unfold HX at J;simp only[j]at J;split at a
      ·cases a
      ·rename_i E
       have iV:=zz f.env E;unfold fin at a;split at a
       ·rename_i jy H
        cases a;have p:step P (lone ⟨fn,W,.inRegion S (i::rest)::k,[],.run,kind,Z l⟩ cs w)=.next (lone (jw ⟨fn,W,.inRegion S (i::rest)::k,[],.run,kind,Z l⟩ aB) cs w):=by
         refine fe (es:=#[]) ?_;simp[G,aE,cf,j,iV]
        have A:jw ⟨fn,W,.inRegion S (i::rest)::k,[],.run,kind,Z l⟩ aB=⟨fn,AY W o.dst aB,.inRegion S rest::k,[],.run,kind,Z l⟩:=by
         simp only[jw,j,wN];cases o.dst<;>rfl
        rw[A]at p;exact⟨_,w,p,F,F,oL f.env H,f.kn,f.z⟩
       ·cases a
      ·rename_i E
       split at a
       ·cases a
       ·rename_i R
        have r:=R;unfold rI at r;rw[gT]at r;have ln:∀cs b,o.op≠.select cs b:=λcs b e=>by
         rw[e]at r;exact absurd r.1 (by simp[HY])
        have B:=execOp_congr o ln (Ll (fr:=⟨fn,W,[],[],.run,kind,I⟩) f.env R);obtain⟨n,O,zY,q1,g,q3,q4,q5,q6,q7,q8,q9⟩:=UA a hg f.kn f.z;have hh:=acM (P:=P) (cs:=cs) (w:=w) (rest:=rest) (k:=k) (l:=l) j (zz f.env E) J B;have A:∀v,jw ⟨fn,W,.inRegion S (i::rest)::k,[],.run,kind,Z l⟩ v=⟨fn,AY W o.dst v,.inRegion S rest::k,[],.run,kind,Z l⟩:=λv=>by
         simp only[jw,j,wN];cases o.dst<;>rfl
        have go:∀v,(n=.value v\/(n=.skip/\v=aB))->fin N zY o.dst v (.inRegion S rest::k)=Z M->WQ P N L2 fn kind l cs ⟨fn,W,.inRegion S (i::rest)::k,[],.run,kind,Z l⟩ w M:=λv hn u=>by
         obtain⟨es,he⟩:=U1 (fr:=⟨fn,W,.inRegion S (i::rest)::k,[],.run,kind,Z l⟩) hn bj q1;unfold fin at u;split at u
         ·rename_i Jy H
          cases u;have p:=fe (hh.trans he);rw[A]at p;have tW:=Q;refine⟨_,O,?_,q3,q4,oL (by rw[q5];exact f.env) H,q7,q8⟩;rw[p,tW]
         ·cases u
        unfold xL at g;split at g
        ·simp_all
        ·simp_all
        ·rename_i d
         unfold fin at g;split at g
         ·grind
         ·cases g
        ·cases g
    ·rename_i q x y k
     split at a
     ·rename_i D
      cases a;have C:=G7 (fr:=⟨fn,W,.code (.cond q x y)::k,[],.run,kind,Z l⟩) f.env D;refine⟨W,w,fe (es:=#[]) ?_,F,F,f.env,f.kn,f.z⟩;simp[G,aE,cf,C]
     ·rename_i D
      cases a;have C:=G7 (fr:=⟨fn,W,.code (.cond q x y)::k,[],.run,kind,Z l⟩) f.env D;refine⟨W,w,fe (es:=#[]) ?_,F,F,f.env,f.kn,f.z⟩;simp[G,aE,cf,C]
     ·cases a
    ·rename_i b k
     split at a
     ·cases a
      refine⟨W,w,fe (es:=#[]) ?_,F,F,f.env,f.kn,f.z⟩;simp[G,aE,cf]
     ·cases a
    ·rename_i b k
     split at a
     ·cases a
      refine⟨W,w,fe (es:=#[]) ?_,F,F,f.env,f.kn,f.z⟩;simp[G,aE,cf]
     ·cases a
    ·split at a
     ·rename_i t m
      cases a;refine⟨W,w,fe (es:=#[]) ?_,F,F,f.env,f.kn,f.z⟩;unfold ctl at m;split at m<;>first
       |(cases m;done)
       |(cases m;simp[G,aE,cf])
       |(simp[G,aE,cf,m])
     ·cases a
   ·cases h
  ·cases h
 ·cases h
theorem apM(h:HS N c=Z M):∀p∈c.ps,p∈M.ps:=by
 unfold HS at h
 repeat'(split at h)
 all_goals first|(cases h;done)|(cases h;exact aaW ‹_›)
theorem apJ:∀(n)(c:Cf P),∀p∈c.ps,p∈(y9 N n c).ps:=by
 intro n;induction n with
 |zero=>intro c p a;exact a
 |succ n b=>
  intro c p a;unfold y9;split
  ·exact a
  ·split
   ·exact a
   ·exact b _ p (apM ‹_› p a)
theorem aaV(g:kind≠.early):∀(n)(c:Cf P)(W)(w),c.ds=[]->(y9 N n c).sF->At N L2 c W w->(y9 N n c).ds=[]/\∃f O,Steps P (lone (Iq fn kind l c W) cs w) (lone (Iq fn kind l (y9 N n c) f) cs O)/\O.os=w.os/\O.output=w.output/\At N L2 (y9 N n c) f O:=by
 intro n;induction n with
 |zero=>intro c W w b d a;exact⟨b,W,w,.refl .. ,F,F,a⟩
 |succ n y=>
  intro c W w b d a;cases hx:PR c.an with
  |true=>
   simp only[y9,hx];exact⟨b,W,w,.refl .. ,F,F,a.env,a.kn,a.z⟩
  |false=>
   cases hs:HS N c with
   |none=>
    simp only[y9,hx,hs];exact⟨b,W,w,.refl .. ,F,F,a⟩
   |some M=>
    simp only[y9,hx,hs]at d⊢;obtain⟨⟨B,C,j,m,q,r⟩,e⟩:=apL g b hs (λp x=>d p (apJ n _ p x)) a;obtain⟨h,z,A,e,t,u,v⟩:=y _ _ _ e d r;exact⟨h,z,A,.head j e,t.trans m,u.trans q,v⟩
end
end
structure Xr where
 l:Nat
 fn:cH
 N:Nat
 fr:aA
 cs:ae aA
 L2:ae En
 eZ:ag->Hp->Prop
abbrev rx(l:Nat)(fn N:Nat)(b:aA)(cs:ae aA)(L2:ae En)(R:ag->ae En->Prop):Xr:=⟨l,fn,N,b,cs,L2,λv H=>∃a,R v a/\Kn (a++L2) H⟩
def Rr(P:aD)(X:Xr)(V:ae aJ)(T:Env)(L:ae En):Prop:=∀W(w),gK X.N T W->Kn (L++X.L2) w.heap->∃v O,Steps P (lone ⟨X.fn,W,V,[],.run,.normal,Z X.l⟩ (X.fr::X.cs) w) (lone (X.fr.finish v) X.cs O)/\O.os=w.os/\O.output=w.output/\X.eZ v O.heap
abbrev AM(P)(X:Xr)(V:ae aJ)(T:Env)(L:ae En)(a:ae (Aw P))(z:Md:=.w):Cf P:=y9 X.N 3000 ⟨V,[],T,L,z,a,[]⟩
section
variable {P:aD}{X:Xr}{V:ae aJ}{T:Env}{L:ae En}
theorem Rr.steps{j g}{w f}{R:ag->Hp->Prop}{e}{cs}(h:Steps P (lone j (e::cs) w) (lone g (e::cs) f))(m:f.os=w.os)(n:f.output=w.output)
  (p:∃v O,Steps P (lone g (e::cs) f) (lone (e.finish v) cs O)/\O.os=f.os/\O.output=f.output/\R v O.heap):
  ∃v O,Steps P (lone j (e::cs) w) (lone (e.finish v) cs O)/\O.os=w.os/\O.output=w.output/\R v O.heap:=by
 obtain⟨v,O,a,b,c,d⟩:=p;exact⟨v,O,h.trans a,b.trans m,c.trans n,d⟩
theorem Rr.au(a)(m:Rr P X (AM P X V T L a).todo (AM P X V T L a).env (AM P X V T L a).L)(j:(AM P X V T L a).pr=(AM P X V T L a).rf:=by kernel_rfl):Rr P X V T L:=λW w n h=>by
 obtain⟨d,q,r,e,f,g,b⟩:=aaV (kind:=.normal) ba _ _ _ w F (EP j) ⟨n,h,λx p=>by cases p⟩;refine Rr.steps e f g ?_;have:=m _ _ b.env b.kn;unfold Iq;rw[d];exact this
theorem Rr.new(a:Nat->ae (Aw P))(m:∀z,Rr P X (AM P X V T L (a z) (.n z)).todo (AM P X V T L (a z) (.n z)).env (AM P X V T L (a z) (.n z)).L)(j:∀z,(AM P X V T L (a z) (.n z)).pr=(AM P X V T L (a z) (.n z)).rf:=by intro z;kernel_rfl):Rr P X V T L:=λW w n h=>by
 obtain⟨d,q,r,e,f,g,b⟩:=aaV (kind:=.normal) ba _ _ _ w F (EP (j _)) ⟨n,h,λx p=>by cases p;rfl⟩;refine Rr.steps e f g ?_;have:=m _ _ _ b.env b.kn;unfold Iq;rw[d];exact this
theorem Rr.perm{L'}(h:L.Perm L')(b:Rr P X V T L'):Rr P X V T L:=λW w d a=>b _ w d (a.perm (h.append_right _))
theorem Rr.cJ(a)(h:Rr P X V T a)(b:L=a:=by kernel_rfl):Rr P X V T L:=by subst b;exact h
theorem abJ{l fn N:Nat}{W}(m:gK N T W){s}(h:mM V T=Z s)(d:HX V=U)(cs)(w):
  aE P U (G ⟨fn,W,V,[],.run,.normal,Z l⟩ cs) w=iA P U ⟨fn,W,V,[],.run,.normal,Z l⟩ cs I s w/\(∃S i r k,V=.inRegion S (i::r)::k)/\
  ∀v,jw ⟨fn,W,V,[],.run,.normal,Z l⟩ v=⟨fn,AY W (kF V) v,sW V,[],.run,.normal,Z l⟩:=by
 unfold mM at h
 repeat'(split at h)
 all_goals first|(cases h;done)|skip
 rename_i S i rest p _ o g _ n _ j;cases h;have a:=j;unfold rI at a;rw[gT]at a;have f:=execOp_congr o (λcs b e=>by
  rw[e]at a;exact absurd a.1 (by simp[HY])) (Ll (fr:=⟨fn,W,[],[],.run,.normal,I⟩) m j)
 unfold HX at d;simp only[g]at d;refine⟨acM g (zz m n) d f,⟨_,_,_,_,rfl⟩,λv=>?_⟩;simp only[jw,kF,g,wN];cases o.dst<;>rfl
theorem Rr.op{s}{Q}(t:lU P X.L2 L s Q)(h:∀v b,Q v b->Rr P X (sW V) (pe T (kF V) v) b)(a:(mM V T,HX V,fits X.N (kF V))=(Z s,U,U):=by kernel_rfl):Rr P X V T L:=λW w d n=>by
 simp only[fN]at a;obtain⟨a,x,p⟩:=a;obtain⟨r,_,u⟩:=abJ d a x _ w;obtain⟨v,O,b,e,f,g,j,m⟩:=t w n;obtain⟨es,q⟩:=U1 (fr:=⟨X.fn,W,V,[],.run,.normal,Z X.l⟩) (.inl F) ba e;refine Rr.steps (.one (fe (r.trans q))) f g ?_;rw[u];exact h v _ j _ _ (oL d (Ag p v)) m
theorem Rr.yield(m p)(i){l}{f}{tm}{a b}{R}(E:Ck P (Frame.round l f tm a b .normal) m R)(H:L.Perm (m++p))(h:∀v e,R v e->Rr P X (sW V) (pe T (kF V) v) (e++p))(d:((mM V T).bind (λs=>(sE P s .r L [.k i] []).map λq=>(q.1,q.2.2.2.1.isEmpty,q.2.2.2.2)),HX V,fits X.N (kF V))=(Z (.round l f tm a b,U,((mM V T).bind (λs=>(sE P s .r L [.k i] []).map λq=>q.2.2.2.2.map Pr.rf)).getD []),U,U):=by kernel_rfl):Rr P X V T L:=λW w y j=>by
 simp only[fN]at d;obtain⟨d,kX,C⟩:=d;obtain⟨s,r,B⟩:=nj.1 d;obtain⟨⟨n,z,L',an,ps⟩,g,t⟩:=fX.1 B;simp only[r,wN,g,fN]at t;obtain⟨rfl,_,u⟩:=t;obtain⟨G,_,Q⟩:=abJ y r kX _ w;obtain⟨w1,A,_⟩:=AS s _ z L _ _ _ _ _ _ _ w g (zh u) j (λx J=>by cases J);obtain⟨rfl,_⟩:=F7 s L _ _ _ w _ g A j.left (zh u);obtain⟨es,D⟩:=acN (fr:=⟨X.fn,W,V,[],.run,.normal,Z X.l⟩) ba A;obtain⟨v,O,e,q1,q2,q3,q4,q5⟩:=E _ _ (j.perm (by rw[<-iL];exact H.append_right _)) ..;refine Rr.steps ((Steps.one (fe (G.trans D))).trans q1) q2 q3 ?_;rw[Q];exact h v _ q4 _ _ (oL y (Ag C v)) (by grind)
end
end
section
open Go.Conc (G)
theorem Oj{L c}{i b}{o o'}{w:ax}(d:Kn (L++c) w.heap)(f:L[i]?=Z (.ob b o)):Kn (L.set i (.ob b o')++c) (w.putObj b o').heap:=by
 have g:=d.at f;exact yf d f (by show(w.heap.setIfInBounds b o')[b]?=Z o';rw[kJ (aC g)]) (λx a=>.inl a) (by simp[]) λx _ a=>by
  show(w.heap.setIfInBounds b o')[x]?=_;rw[iK (λe=>a e.symm)]
section
variable {P:aD}{X:Xr}{W:ae aJ}{V:Env}{L:ae En}
def aap:ae aJ->Bool
 |.beginRound::_=>U
 |_=>Y
theorem Rr.begin(i)(r)(h:Rr P X (tQ W) V (L.set i (.ob X.l (.loop {r with state:=.busy}))))(l:r.state=.ready)(a:(L[i]?,aap W)=(iQ (.ob X.l (.loop r)),U):=by kernel_rfl):Rr P X W V L:=λb w j d=>by
 simp only[fN]at a;obtain⟨a,c⟩:=a;obtain⟨k,rfl⟩:∃k,W=.beginRound::k:=by
  unfold aap at c;split at c
  ·exact⟨_,F⟩
  ·cases c
 have g:=d.at a;have f:(do(Z X.l).elim (stuck "beginRound: no round") Instr.beginRound;pure Next.skip).run P w=.ok .skip (w.putObj X.l (.loop {r with state:=.busy})):=by
  rw[fK];show((Instr.beginRound X.l).run P w).andThen _=_;rw[run_beginRound g l];rfl
 obtain⟨es,m⟩:=U1 (fr:=⟨X.fn,b,.beginRound::k,[],.run,.normal,Z X.l⟩) (.inr ⟨F,F⟩) ba f;have e:=m;exact Rr.steps (.one (fe e)) F F (h _ _ j (Oj d a))
def aaq:ae aJ->aj (aj bH)
 |[]=>Z I
 |.code .ret::_=>Z (Z .ret)
 |.code (.exit id)::k=>match exitTo id k with
  |none=>Z (Z (.exit id))
  |some _=>I
 |_=>I
theorem Rr.fin{l e N}{m}{k}{j}{R}(i)(r)(a)(h:R (.bool a.isNone) (L.set i (.ob l (.loop {r with state:=if a.isNone then .ready else .done,pending:=a}))))(c:(L[i]?,aaq W)=(iQ (.ob l (.loop r)),iQ a):=by kernel_rfl):Rr P (rx l e N m k j R) W V L:=λg w p f=>by
 simp only[fN]at c;obtain⟨c,b⟩:=c;have n:=f.at c;have d:(xZ l a).runT P w #[]=(.ok (.bool a.isNone) (w.putObj l (.loop {r with state:=if a.isNone then .ready else .done,pending:=a})),(xZ l a).events P w #[]):=by rw[jN,run_endRound _ n]
 refine⟨.bool a.isNone,w.putObj l (.loop {r with state:=if a.isNone then .ready else .done,pending:=a}),.one (fe (es:=seen P e ((xZ l a).events P w #[])) ?_),F,F,_,h,Oj f c⟩;unfold aaq at b;split at b
 ·cases b
  simp only[G,aE,cf,d,rW,mx];simp
 ·cases b
  simp only[G,aE,cf,d,rW,mx];simp
 ·split at b
  ·rename_i o
   cases b;simp only[G,aE,cf,o,d,rW,mx];simp
  ·cases b
 ·cases b
theorem Ck.round{l}{tm}{g i}{R}(N)(V)(p:gK N V tm)(h:∀m k j,Rr P (rx l f N m k j R) [.code g,.beginRound,.code i] V L):Ck P (Frame.round l f tm g i .normal) L R:=λj w o m k=>by
 obtain⟨v,q,a,b,c,n,d,e⟩:=h _ _ _ _ w p o;exact⟨v,q,n,a,b,c,d,e⟩
end
section
variable {P:aD}{X:Cx}{W:ae aJ}{T:ae cz}{V:Env}{L:ae En}
theorem aq8{d}{g}{s}{w}(h:eV P (G d [])=Z s):aE P U (G d g) w=iA P U d g I s w/\d.kind≠.early:=by
 obtain⟨j,c,f,i,rest,k,a,b,n,o,e,m,l,r,q⟩:=ze h;cases e;have p:bR ⟨j,c,.inRegion f (i::rest)::k,a,.run,b,I⟩=bR ⟨j,c,[],a,.run,b,I⟩:=funext λx=>by cases x<;>rfl
 refine⟨?_,m⟩;simp only[G,aE,cf,l,jE,r,rV,if_true];unfold stepG.oper;simp only[Frame.oper?,l,p,q]
theorem afd(k m)(i){l}{f}{tm}{a b}{R}(J:Ck P (Frame.round l f tm a b .normal) k R)(K:L.Perm (k++m))(h:∀v d,R v d->Rs P X (sW W) T (pe V (kF W) v) (d++m))(c:((mM W V).bind (λs=>(sE P s .r L [.k i] []).map λq=>(q.1,q.2.2.2.1.isEmpty,q.2.2.2.2)),fits X.N (kF W))=(iQ (.round l f tm a b,U,((mM W V).bind (λs=>(sE P s .r L [.k i] []).map λq=>q.2.2.2.2.map Pr.rf)).getD []),U):=by kernel_rfl):Rs P X W T V L:=λo A H u j w e=>by
 subst e;simp only[fN]at c;obtain⟨c,E⟩:=c;obtain⟨s,p,D⟩:=nj.1 c;obtain⟨⟨n,z,L',an,ps⟩,g,r⟩:=fX.1 D;simp only[p,wN,g,fN]at r;obtain⟨rfl,_,t⟩:=r;obtain⟨B,N⟩:=K5 o u p;obtain⟨w1,y,_⟩:=AS s _ z L _ _ _ _ _ _ _ w g (zh t) j (λx M=>by cases M);obtain⟨rfl,_⟩:=F7 s L _ _ _ w _ g y j.left (zh t);obtain⟨tU,C⟩:=aq8 B;obtain⟨es,G⟩:=acN C y;obtain⟨v,w',d,O,Q,q3,S,q5⟩:=J _ _ (j.perm (by rw[<-iL];exact K.append_right _)) ..;refine Rh.steps ((Steps.one (fe (tU.trans G))).trans O) Q q3 ?_;rw[N];exact h v _ S o _ _ (oL u (Ag E v)) (by grind)
def ij(fn:cH)(tmps:af ag)(params:af Tmp)(assign body:bH)(z:Nat):Loop:={state:=.ready,pending:=I,fn,tmps,params,assign,body,defers:=z}
def rfT:ae aJ->aj (iP×af Tmp×bH×bH)
 |.code (.rangeFunc q b a c)::_=>iQ (q,b,a,c)
 |_=>I
theorem Wp(q)(f)(c n)(x p)(y){g}{args:Nat->af ag}(Q:aj bH->ae En->Prop)
  (hf:∀z m,gK X.N V m->Fl P g (args (z+1)) (.ob (z+1) (.loop (ij X.fn m f c n z))::x) λ_ O=>∃N j M,N≠LoopState.busy/\O=.ob (z+1) (.loop {ij X.fn m f c n z with state:=N,pending:=j})::M/\Q j M)
  (hp:L.Perm (x++p))(h:∀z j M,Q j M->Rs P X ((j.map Item.code).toList++tQ W) (⟨.collected z,#[]⟩::T) V (.ob z (.deferred (iQ []))::(M++p)))
  (r:(rfT W,JB V q)=(iQ (q,f,c,n),iQ y):=by kernel_rfl)
  (hi:∀l w,(do let d<-Eg y #[.func (.yield l) #[] #[]];invoke d.target d.args).run P w=.ok (.enter g (args l)) w:=by intro l w;kernel_rfl):Rs P X W T V L:=λR m H t hK w e=>by
 subst e;simp only[fN]at r;obtain⟨r,hq⟩:=r;obtain⟨k,rfl⟩:∃k,W=.code (.rangeFunc q f c n)::k:=by
  unfold rfT at r;split at r
  ·simp_all
  ·cases r
 have gQ:=G7 (fr:=⟨X.fn,m,.code (.rangeFunc q f c n)::k,T,.run,X.kind,I⟩) t hq;let z:=w.heap.size;let u:=(w.alloc (.deferred (iQ []))).alloc (.loop (ij X.fn m f c n z));let o:aA:=⟨X.fn,m,.inRangeFunc (z+1)::k,⟨.collected z,#[]⟩::T,.run,X.kind,I⟩;have hT:(qb X.fn m f c n I).runT P w #[]=(.ok (z+1,[⟨.collected z,#[]⟩]) u,(qb X.fn m f c n I).events P w #[]):=by rw[jN,run_enterLoop_outer];rfl
 have aL:(do let d<-resolve o.eval {callee:=.value q,args:=#[.const (.func (.yield (z+1)) #[] #[])],argTypes:=#[]} 0;invoke d.target d.args).run P u=.ok (.enter g (args (z+1))) u:=by
  have J:o.eval q=y:=by
   rw[<-gQ];cases q<;>rfl
  have:resolve o.eval {callee:=.value q,args:=#[.const (.func (.yield (z+1)) #[] #[])],argTypes:=#[]} 0=Eg y #[.func (.yield (z+1)) #[] #[]]:=by
   have K:∀v,o.eval (.const v)=v:=λ_=>rfl;unfold resolve;simp only[J,List.map_toArray,fw,List.map_nil,K]
  rw[this];exact hi ..
 obtain⟨es,tU⟩:=at7 (fr:=o) ⟨#[],0,[],k,.inr ⟨z+1,F⟩⟩ R aL;have E:∃es,aE P U (G ⟨X.fn,m,.code (.rangeFunc q f c n)::k,T,.run,X.kind,I⟩ X.cs) w=dZ (bO P g (args (z+1)) .normal) (o::X.cs) u es:=by
  refine⟨seen P X.fn ((qb X.fn m f c n I).events P w #[])++es,?_⟩;simp only[G,aE,cf,hT];have:=tU;erw [this];rfl
 obtain⟨fP,E⟩:=E;have k1:Kn (L++[.ob z (.deferred (iQ []))]++X.L2) (w.heap.push (.deferred (iQ []))):=Kn.push hK _;have S:=Kn.push k1 (.loop (ij X.fn m f c n z));rw[show(w.heap.push (Obj.deferred (iQ []))).size=z+1 by simp[z]]at S;have k3:Kn ((.ob (z+1) (.loop (ij X.fn m f c n z))::x)++(.ob z (.deferred (iQ []))::(p++X.L2))) u.heap:=by
  refine Kn.perm S ?_;have:(L++[En.ob z (.deferred (iQ []))]++[En.ob (z+1) (.loop (ij X.fn m f c n z))]++X.L2).Perm ((x++p)++[En.ob z (.deferred (iQ []))]++[En.ob (z+1) (.loop (ij X.fn m f c n z))]++X.L2):=((hp.append_right _).append_right _).append_right _;refine this.trans ?_;have e2:∀(a b)(A B C:ae En),((A++B)++[a]++[b]++C).Perm ((b::A)++(a::(B++C))):=λa b A B C=>by
   simp only[iL];refine(Gq A (qf)).trans ?_;refine(Gq A (CB a (qf))).trans ?_;refine(qf).trans ?_;refine(CB a (qf)).trans ?_;refine(CC b a _).trans (CB b ?_);exact(qf).symm
  exact e2 ..
 obtain⟨v,s,O,q1,q2,q3,⟨N,j,M,HG,rfl,hQ⟩,q5⟩:=(hf z _ t).ck _ _ k3 ..;have hb:=q5.at (i:=0) F;let D:=s.putObj (z+1) (.loop {ij X.fn m f c n z with state:=.exhausted,pending:=j});have RS:(wF (z+1)).runT P s #[]=(.ok j D,(wF (z+1)).events P s #[]):=by rw[jN,run_endLoop hb HG]
 have Ku:aE P U (G (o.finish v) X.cs) s=dZ ⟨X.fn,m,(j.map Item.code).toList++k,⟨.collected z,#[]⟩::T,.run,X.kind,I⟩ X.cs D (seen P X.fn ((wF (z+1)).events P s #[])):=by
  show aE P U (G ⟨X.fn,m,.endRangeFunc (z+1)::k,⟨.collected z,#[]⟩::T,.run,X.kind,I⟩ X.cs) s=_;simp only[G,aE,cf,RS,mx];simp
 have k5:=Oj (o':=.loop {ij X.fn m f c n z with state:=.exhausted,pending:=j}) q5 (i:=0) F;have k6:Kn ((.ob z (.deferred (iQ []))::(M++p))++X.L2) D.heap:=by
  have k7:Kn (M++(.ob z (.deferred (iQ []))::(p++X.L2))) D.heap:=⟨λe t=>k5.sat e (eK _ t),(mQ.1 k5.nd).2⟩;refine k7.perm ?_;rw[List.cons_append,iL];exact qf
 refine Rh.steps ((Steps.one (fe E)).trans (q1.trans (.one (fe Ku)))) q2 q3 ?_;exact h z j M hQ R _ _ t k6
theorem Mm{f}{N}{b}{m}{R}{z}(j)(g)(h:R (qV j) g)(r:L=.ob z (.deferred (iQ []))::g:=by kernel_rfl)(d:(DG W,T,(P.funcs[f]?).bind λc=>AQ V c.results.toList)=(U,[⟨.collected z,#[]⟩],iQ j):=by kernel_rfl):Rs P (fx P f N b m R) W T V L:=λu a H t k w e=>by
 subst e;subst r;simp only[fN]at d;obtain⟨n,rfl,o⟩:=d;obtain⟨c,p,q⟩:=nj.1 o;have s:=k.at (i:=0) F;have s1:=Jx (P:=P) (fn:=f) (tmps:=a) (ds:=[⟨.collected z,#[]⟩]) (kind:=.normal) n b w;have s2:=step_collected (P:=P) (fr:=⟨f,a,W,[⟨.collected z,#[]⟩],.returning,.normal,I⟩) (cs:=b) ba F F (run_takeDeferred s);have l:=Oj (o':=.deferred I) k (i:=0) F;refine Rh.steps ((Steps.one s1).trans (.one s2)) F F (.done ⟨F,qV j,λx v=>⟨F,F,F,c,p,?_⟩,g,h,?_⟩)
 ·rw[Pb t q]
 ·exact⟨λe d=>l.sat e (eK _ d),(mQ.1 l.nd).2⟩
end
end
abbrev DI(z:Nat)(g:aj Nat)(n c:Nat):En:=.ob z (.cells #[sv g n c] 136)
abbrev uA(g:aj Nat)(n c:Nat)(a:ae aZ):En:=.row 216 3 g n c (a.flatMap aZ.cells)
def V7(x:aR)(A:ae En)(n:Nat)(a:ae aZ)(v:ag)(L:ae En):Prop:=∃z g c,v=.func (.func 116) #[] #[pt z]/\L=A++[DI z g n c,uA g n c a,(x.bf 0).en]
theorem azG(x)(C:bV)(a:Nat)(h:x.ch[a]?=Z C.c)(f:C.vs.length<1000000):Fl Sv 73 [pt x.s,ai a].toArray [(x.bf 0).en,x.cE,C.hd,C.rw] (V7 x [x.cE,C.hd,C.rw] C.vs.length C.vs.reverse):=by
 have e:=(dq.1 h).1;have d:(x.ch.map pt)[a*1]?=Z (pt C.c):=by rw[x9,fW,h];rfl
 refine Fl.of 33 λk j=>(av [] (eR [0] (BZ x) ?_));rintro _ _ ⟨rfl,rfl⟩;refine di (λ_=>[He a 0,0,fu a x.ch.length,0,iX 96 1 x.cb x.vD e,rr 1 d]) λz=>?_;refine eR [2,3] (afM C f) ?_;rintro _ _ ⟨g,c,rfl,rfl⟩;refine av [4] ?_;refine cM ([(x.bf 1).en]++[x.cE,C.hd,C.rw,DI z g C.vs.length c,uA g C.vs.length c C.vs.reverse]) (du lD ?_);exact zJ [.func (.func 116) #[] #[pt z]] [x.cE,C.hd,C.rw,DI z g C.vs.length c,uA g C.vs.length c C.vs.reverse] _ (AH F) λi b=>⟨z,g,c,F,by rw[b];rfl⟩
abbrev azF(v:aZ):ag:=.agg #[ai v.aG,.bool v.gone,.string v.val]
def FP(r:Loop)(j:bH):Loop:={r with state:=.done,pending:=Z j}
def I7(P:aD)(l:Nat)(e p:Nat)(c:af ag)(a b:bH)(z:Nat)(h:ae aZ)(J:Nat->ae En->Prop)(D:Nat->bH->ae En->Prop):Prop:=∀i v g,h[i]?=Z v->J i g->Ck P (Frame.round l e (c.setIfInBounds p (azF v)) a b .normal) (.ob l (.loop (ij e c #[p] a b z))::g) λx f=>(x=.bool U/\∃d,f=.ob l (.loop (ij e c #[p] a b z))::d/\J (i+1) d)\/(x=.bool Y/\∃j d,f=.ob l (.loop (FP (ij e c #[p] a b z) j))::d/\D (i+1) j d)
def itR(l:Nat)(r:Loop)(n:Nat)(J:Nat->ae En->Prop)(D:Nat->bH->ae En->Prop)(L:ae En):Prop:=(∃a,L=.ob l (.loop r)::a/\J n a)\/(∃i j a,i<=n/\L=.ob l (.loop (FP r j))::a/\D i j a)
theorem anL(l h p)(f)(a e)(z)(d)(J)(D)(w:I7 Sv l h p f a e z d J D)(b)(g)(c)(K:d.length<1000000)(n)(t:J 0 n):Fl Sv 116 [.func (.yield l) #[] #[],pt b].toArray (.ob l (.loop (ij h f #[p] a e z))::DI b g d.length c::uA g d.length c d::n) λv L=>itR l (ij h f #[p] a e z) d.length J D L:=by
 refine Fl.of 16 λG E=>?_;refine cF [.ob l (.loop (ij h f #[p] a e z)),DI b g d.length c,uA g d.length c d] _ ?_;refine av [1,.g,.x] ?_;refine ey [1] (bE ?_);refine ji (λi=>d.length-i.1) (λi=>[(0,.func (.yield l) #[] #[]),(5,sv g d.length c),(6,ai d.length),(7,ai i.1)]) (λi=>.ob l (.loop (ij h f #[p] a e z))::uA g d.length c d::i.2) (λi=>i.1<=d.length/\J i.1 i.2) (0,n) ⟨gJ _,t⟩ ?_;rintro⟨i,L⟩ ⟨H,q⟩ C;by_cases aC:i<d.length
 ·obtain⟨v,r⟩:∃v,d[i]?=Z v:=⟨_,eI aC⟩
  have o:=λj A=>gW aZ.len _ i j v A r;refine lJ 1 g d.length c ah λk x M=>?_;subst x;refine cF [.ob l (.loop (ij h f #[p] a e z)),uA (Z k) d.length c d] L ?_;refine di (λ_=>[fu i d.length,iX 136 3 k c aC,rr 1 (o 0 aT),rr 1 (o 1 aT),rr 1 (o 2 aT),2,2,2,2,2,2]) λy=>?_;refine ey [2] ?_;refine bE ?_;refine cM (.ob l (.loop (ij h f #[p] a e z))::uA (Z k) d.length c d::L) ?_;refine afd _ _ 0 (w i v L r q) (CB _ (lD (l₁:=[uA (Z k) d.length c d]))) ?_;rintro _ _ (⟨rfl,m,rfl,s⟩|⟨rfl,j,m,rfl,u⟩)
  ·refine av [aS i,.g,.x] ?_
   refine cM ((.ob l (.loop (ij h f #[p] a e z))::m)++[uA (Z k) d.length c d]) ?_;refine du (CB _ (lD)) ?_;exact cq (C (i+1,m) ah ⟨aC,s⟩)
  ·refine av [] ?_
   refine cM ((.ob l (.loop (FP (ij h f #[p] a e z) j))::m)++[uA (Z k) d.length c d]) ?_;refine du (lD) (Bf ?_);exact ez [] _ (.inr ⟨i+1,j,m,aC,F,u⟩)
 ·have B:i=d.length:=by omega
  subst B;refine cF [.ob l (.loop (ij h f #[p] a e z)),uA g d.length c d] L ?_;refine av [gi d.length d.length] ?_;refine ey [1] (bE ?_);exact ez [] _ (.inl ⟨L,F,q⟩)
section
variable {P:aD}{X:Xr}{V:ae aJ}{W:Env}{L:ae En}
theorem Rr.cv(A B)(h:Rr P ⟨X.l,X.fn,X.N,X.fr,X.cs,B++X.L2,X.eZ⟩ V W A):Rr P X V W (A++B):=λa w b c=>h _ w b (by simp_all)
theorem Rr.bC{a B A}{l d:Nat}{N}{e}{c}{b}(h:Rr P ⟨l,d,N,e,c,a,b⟩ V W (A++B)):Rr P ⟨l,d,N,e,c,B++a,b⟩ V W A:=λf w g i=>h _ w g (by simp_all)
theorem Rr.drop(c)(h:Rr P X V W (left c L))(l:(outs c L).isSome=U:=by kernel_rfl):Rr P X V W L:=λg w m i=>by
 obtain⟨⟨a,b⟩,f⟩:=A7.1 l;have k:left c L=b:=by unfold left;rw[f]
 rw[k]at h;have d:=i.perm ((xJ f).append_right _);rw[iL]at d;exact h _ w m ⟨λe j=>d.sat e (IK _ j),(CH.1 d.nd).2.1⟩
end
def bl:Type:=Quot (λa b:ae En=>a.Perm b)
def bl.of(l:ae En):bl:=Quot.mk _ l
def bl.one(a:En):bl:=bl.of [a]
def bl.add:bl->bl->bl:=Quot.lift (λa=>Quot.lift (λb=>bl.of (a++b)) λb d h=>Quot.sound (Gq a h)) λa c h=>by
 funext b;induction b using Quot.ind with
 |mk b=>exact Quot.sound (List.Perm.append_right b h)
theorem bl.exact{a b}(h:bl.of a=bl.of b):a.Perm b:=by
 have:=Quotient.exact h;exact this
theorem nN(a b):bl.of (a++b)=(bl.of a).add (bl.of b):=rfl
theorem pB(a)(b):bl.of (a::b)=(bl.one a).add (bl.of b):=rfl
theorem qk(x:bl):x.add (bl.of [])=x:=by
 induction x using Quot.ind with
 |mk a=>exact Quot.sound ba
theorem tA(x):(bl.of []).add x=x:=by
 induction x using Quot.ind with
 |mk a=>rfl
instance:Std.Associative bl.add:=⟨λa b c=>by
 induction a using Quot.ind with
 |mk a=>induction b using Quot.ind with
  |mk b=>induction c using Quot.ind with
   |mk c=>exact Quot.sound ba⟩
instance:Std.Commutative bl.add:=⟨λa b=>by
 induction a using Quot.ind with
 |mk a=>induction b using Quot.ind with
  |mk b=>exact Quot.sound lD⟩
theorem cx{p:Prop}(h:p:=by apply bl.exact;simp only[nN,pB,qk,tA];try ac_rfl):p:=h
theorem gK.sub{N}{W}{a}(h:gK N W a)(b)(c:b.map (λp=>lk W p.1)=b.map λp=>Z p.2):gK N b a:=⟨h.size,λt v d=>h.get t v (Ot _ t v c d)⟩
theorem gK.put{N}{W}{a}(h:gK N W a)(p)(v)(b:p<N):gK N ((p,v)::W) (a.setIfInBounds p v):=oL (dst:=Z p) h (by
                                                                                         have:=Nat.ble_eq_true_of_le b;simp only[F2,this])
abbrev vd(l d p:Nat)(c:af ag)(a b:bH)(z:Nat):En:=.ob l (.loop (ij d c #[p] a b z))
abbrev yB(b l:Nat):En:=.ob b (.cells #[.func (.yield l) #[] #[]] 164)
def WB(b:En)(c:En)(J:Nat->ae En->Prop)(i:Nat)(L:ae En):Prop:=∃a,L=b::c::a/\J i a
def Wm(l:Nat)(r:Loop)(c:En)(D:Nat->bH->ae En->Prop)(i:Nat)(j:bH)(L:ae En):Prop:=j=.ret/\∃b a,L=.ob l (.loop (FP r b))::c::a/\D i b a
def Pd:bH->aj (bH×bH)
 |.seq a b=>match Pd a with
  |some x=>Z x
  |none=>Pd b
 |.block _ a=>Pd a
 |.rangeFunc _ _ a b=>Z (a,b)
 |_=>I
noncomputable def XC(f:Nat):bH×bH:=match(Sv.funcs[f]?).bind (·.body)with
 |some c=>(Pd c).getD (.skip,.skip)
 |none=>(.skip,.skip)
noncomputable abbrev oR:bH×bH:=XC 72
theorem at5(l f p)(c)(a b)(z)(k)(J)(D)(r:I7 Sv l f p c a b z k J D)(h d e)(tm)(s:gK 13 [(3,pt e)] tm):I7 Sv h 72 8 tm oR.1 oR.2 d k (WB (vd l f p c a b z) (yB e l) J) (Wm l (ij f c #[p] a b z) (yB e l) D):=by
 rintro i v u t ⟨n,rfl,q⟩;refine Ck.round _ _ (s.put 8 _ aT) λx w g=>?_;refine Rr.cv [vd h 72 8 tm oR.1 oR.2 d,vd l f p c a b z,yB e l] _ ?_;refine Rr.new (λ_=>[3,3,3]) λy=>?_;refine Rr.begin 0 (ij 72 tm #[8] oR.1 oR.2 d) ?_ F;refine Rr.au [2,3,3,3] ?_;refine Rr.drop [3] (Rr.bC ?_);refine Rr.cJ (.ob h (.loop {ij 72 tm #[8] oR.1 oR.2 d with state:=.busy})::vd l f p c a b z::yB e l::n) ?_;refine Rr.yield _ [.ob h (.loop {ij 72 tm #[8] oR.1 oR.2 d with state:=.busy}),yB e l] 1 (r i v _ t q) ?_ ?_
 ·exact(CC .. ).trans (CB _ (lD (l₁:=[_,_])))
 rintro _ _ (⟨rfl,g,rfl,m⟩|⟨rfl,j,g,rfl,o⟩)
 ·refine Rr.au [] ?_
  refine Rr.cJ ((vd l f p c a b z::g)++[.ob h (.loop {ij 72 tm #[8] oR.1 oR.2 d with state:=.busy}),yB e l]) ?_;refine Rr.perm ((CB _ (lD)).trans (CC .. )) ?_;exact Rr.fin 0 {ij 72 tm #[8] oR.1 oR.2 d with state:=.busy} I (.inl ⟨F,_,F,g,F,m⟩)
 ·refine Rr.au [] ?_
  refine Rr.cJ ((.ob l (.loop (FP (ij f c #[p] a b z) j))::g)++[.ob h (.loop {ij 72 tm #[8] oR.1 oR.2 d with state:=.busy}),yB e l]) ?_;refine Rr.perm ((CB _ (lD)).trans (CC .. )) ?_;exact Rr.fin 0 {ij 72 tm #[8] oR.1 oR.2 d with state:=.busy} (Z .ret) (.inr ⟨F,.ret,_,F,F,j,g,F,o⟩)
abbrev iB(b:Nat)(i:Int):En:=.ob b (.cells #[ai i] 3)
abbrev D8(b s:Nat):En:=.ob b (.cells #[pt s] 39)
def agX(l:Nat)(r:Loop)(n:Nat)(J:Nat->ae En->Prop)(D:Nat->bH->ae En->Prop)(B L:ae En):Prop:=(∃a,L=.ob l (.loop r)::(a++B)/\J n a)\/(∃i j a,i<=n/\L=.ob l (.loop (FP r j))::(a++B)/\D i j a)
theorem agW(l f p)(d)(a b)(z)(e)(J)(D)(C:I7 Sv l f p d a b z e J D)(x)(h)(A)(H:Fl Sv 73 [pt x.s,ai h].toArray ((x.bf 0).en::A) (V7 x A e.length e))(q o)(G:e.length<1000000)(n)(B:J 0 n):Fl Sv 72 [.func (.yield l) #[] #[],pt q,pt o].toArray (vd l f p d a b z::D8 q x.s::iB o h::(x.bf 0).en::(A++n)) λ_ L=>agX l (ij f d #[p] a b z) e.length J D (A++[(x.bf 0).en]) L:=by
 refine Fl.of 13 λN K=>?_;refine cF [vd l f p d a b z,D8 q x.s,iB o h,(x.bf 0).en] _ ?_;refine di (λ_=>[1,2]) λk=>bE ?_;refine cM ([vd l f p d a b z,D8 q x.s,iB o h,(x.bf 0).en,yB k l]++(A++n)) ?_;refine im _ ([vd l f p d a b z,D8 q x.s,iB o h,yB k l]++n) H cx ?_;rintro _ _ ⟨s,g,c,rfl,rfl⟩;refine du (L':=[D8 q x.s,iB o h]++([vd l f p d a b z,yB k l,DI s g e.length c,uA g e.length c e]++(n++(A++[(x.bf 0).en])))) cx ?_;refine Bf (Bf ?_);refine cF _ _ ?_;refine av [] ?_;refine vw [(7,.func (.func 116) #[] #[pt s]),(3,pt k)] (bE ?_);refine cM (vd l f p d a b z::yB k l::DI s g e.length c::uA g e.length c e::(n++(A++[(x.bf 0).en]))) ?_;refine Wp (.tmp 7) #[8] oR.1 oR.2 (g:=116) (args:=λl=>#[.func (.yield l) #[] #[],pt s]) (DI s g e.length c::uA g e.length c e::(vd l f p d a b z::yB k l::n)) (A++[(x.bf 0).en]) (.func (.func 116) #[] #[pt s]) (λj M=>(j=I/\WB (vd l f p d a b z) (yB k l) J e.length M)\/∃i r,i<=e.length/\j=Z r/\Wm l (ij f d #[p] a b z) (yB k l) D i r M) ?_ ?_ ?_
 ·intro t tm E
  refine Fl.post (anL _ _ 8 _ _ _ _ _ _ _ (at5 l _ p _ _ _ z _ J D C _ _ _ _ (E.sub _ F)) _ g c G _ ⟨n,F,B⟩) ?_;rintro _ L (⟨m,rfl,u⟩|⟨i,r,m,w,rfl,v⟩)
  ·exact⟨_,⟨.ready,I,m,by simp,F,.inl ⟨F,u⟩⟩,List.Perm.refl _⟩
  ·exact⟨_,⟨.done,Z r,m,by simp,F,.inr ⟨i,r,w,F,v⟩⟩,List.Perm.refl _⟩
 ·exact cx
 ·rintro t j M (⟨rfl,m,rfl,u⟩|⟨i,r,w,rfl,rfl,y,m,rfl,v⟩)
  ·refine cM ([.ob t (.deferred (Z [])),vd l f p d a b z,yB k l]++(m++(A++[(x.bf 0).en]))) ?_
   refine cF _ _ ?_;refine av [] ?_;refine ey [2] ?_;refine bE ?_;exact Mm (z:=t) [] _ (.inl ⟨m,F,u⟩)
  ·refine cM ([.ob t (.deferred (Z [])),.ob l (.loop (FP (ij f d #[p] a b z) y)),yB k l]++(m++(A++[(x.bf 0).en]))) ?_
   refine cF _ _ ?_;refine av [] ?_;refine ey [2] ?_;refine bE ?_;exact Mm (z:=t) [] _ (.inr ⟨i,y,m,w,F,v⟩)
theorem agY(s)(a):Fl Sv 45 [pt s,ai a].toArray [] λv L=>∃c b,v=.func (.func 72) #[] #[pt c,pt b]/\L=[D8 c s,iB b a]:=by
 refine Fl.of 6 λe d=>di (λ_=>[]) λz=>?_;exact ez [.func (.func 72) #[] #[pt z,pt (z+1)]] _ ⟨z,z+1,F,F⟩
def sA(n:Int):Nat:=if 0<n/\n<2000 then n.toNat else 2000
theorem ahu(n):0<sA n:=by
 unfold sA;split<;>omega
theorem aht(n):sA n<=2000:=by
 unfold sA;split<;>omega
theorem ahs{n}{i}(h:i<sA n):((((i+1:Nat))=n\/((i+1:Nat):Int)=2000)↔i+1=sA n):=by
 unfold sA at h⊢;by_cases a:0<n/\n<2000
 ·grind
 ·grind
abbrev lB(b:Nat)(g:aj Nat)(i c:Nat):En:=.ob b (.cells #[sv g i c] 59)
abbrev vR(g:aj Nat)(i c:Nat)(a:ae aZ):En:=.row 62 3 g i c (a.flatMap aZ.cells)
def WA(n:Int)(a b:Nat)(d:ae aZ)(i:Nat)(L:ae En):Prop:=i<sA n/\∃g c,L=[iB a n,lB b g i c,vR g i c (d.take i)]
def Wl(n:Int)(a b:Nat)(d:ae aZ)(i:Nat)(j:bH)(L:ae En):Prop:=j=.exit 0/\i=sA n/\∃g c,L=[iB a n,lB b g i c,vR g i c (d.take i)]
noncomputable abbrev qx:bH×bH:=XC 29
theorem at4(n)(x:-9223372036854775808<=n/\n<9223372036854775808)(d)(l z e f)(tm)(p:gK 27 [(5,pt e),(7,pt f)] tm):I7 Sv l 29 12 tm qx.1 qx.2 z d (WA n e f d) (Wl n e f d):=by
 rintro i v r q ⟨o,g,c,rfl⟩;have w:=aht n;have m:=ahs o;have k:(d.take (i+1)).flatMap aZ.cells=(d.take i).flatMap aZ.cells++v.cells:=by
  rw[Ek,q];simp
 refine Ck.round _ _ (p.put _ _ aT) λu t s=>?_;refine Rr.new (λ_=>[4,4,4]) λy=>?_;refine Rr.begin 0 (ij 29 tm #[12] qx.1 qx.2 z) ?_ F;refine Rr.new (λ_=>[2,4,4,4]) λA=>?_;refine Rr.op (app1 59 3 5 i ah) ?_;rintro _ _ ⟨b,a,rfl,rfl⟩;by_cases h:((i+1))=n
 ·refine Rr.au [2,2,1,bT h] ?_
  refine Rr.drop [4,5] (Rr.cJ [.ob l (.loop {ij 29 tm #[12] qx.1 qx.2 z with state:=.busy}),iB e n,lB f (Z b) (i+1) a,.row 62 3 (Z b) (i+1) a ((d.take i).flatMap aZ.cells++v.cells)] ?_);refine Rr.fin 0 {ij 29 tm #[12] qx.1 qx.2 z with state:=.busy} (Z (.exit 0)) (.inr ⟨F,.exit 0,_,F,F,m.1 (.inl h),Z b,a,?_⟩);rw[<-k]
 ·by_cases j:((i+1):Int)=2000
  ·refine Rr.au [2,2,1,bF h,2,bT j] ?_
   refine Rr.drop [4,5] (Rr.cJ [.ob l (.loop {ij 29 tm #[12] qx.1 qx.2 z with state:=.busy}),iB e n,lB f (Z b) (i+1) a,.row 62 3 (Z b) (i+1) a ((d.take i).flatMap aZ.cells++v.cells)] ?_);refine Rr.fin 0 {ij 29 tm #[12] qx.1 qx.2 z with state:=.busy} (Z (.exit 0)) (.inr ⟨F,.exit 0,_,F,F,m.1 (.inr j),Z b,a,?_⟩);rw[<-k]
  ·refine Rr.au [2,2,1,bF h,2,bF j] ?_
   refine Rr.drop [4,5] (Rr.cJ [.ob l (.loop {ij 29 tm #[12] qx.1 qx.2 z with state:=.busy}),iB e n,lB f (Z b) (i+1) a,.row 62 3 (Z b) (i+1) a ((d.take i).flatMap aZ.cells++v.cells)] ?_);refine Rr.fin 0 {ij 29 tm #[12] qx.1 qx.2 z with state:=.busy} I (.inl ⟨F,_,F,?_,Z b,a,?_⟩)
   ·omega
   ·rw[<-k]
def ab0(x:aR)(A:ae En)(n:Int)(a:ae aZ)(v:ag)(L:ae En):Prop:=∃g c,v=sv g (a.take (sA n)).length c/\L=vR g (a.take (sA n)).length c (a.take (sA n))::(A++[(x.bf 0).en])
theorem arB(x)(d n)(v:-9223372036854775808<=n/\n<9223372036854775808)(a)(A)(w:Fl Sv 73 [pt x.s,ai d].toArray ((x.bf 0).en::A) (V7 x A a.length a))(t:a.length<1000000):Fl Sv 29 [pt x.s,ai d,ai n].toArray ((x.bf 0).en::A) (ab0 x A n a):=by
 refine Fl.of 27 λB y=>?_;refine cF [] _ ?_;refine di (λ_=>[]) λb=>?_;refine IU (agY x.s d) ?_;rintro _ _ ⟨k,h,rfl,rfl⟩;refine pC 62 3 ?_;refine av [] ?_;refine vw [(11,.func (.func 72) #[] #[pt k,pt h]),(5,pt b),(7,pt (b+1))] (bE ?_);refine cM (D8 k x.s::iB h d::iB b n::lB (b+1) I 0 0::vR I 0 0 []::(x.bf 0).en::A) ?_;refine Wp (.tmp 11) #[12] qx.1 qx.2 (g:=72) (args:=λl=>#[.func (.yield l) #[] #[],pt k,pt h]) (D8 k x.s::iB h d::(x.bf 0).en::(A++[iB b n,lB (b+1) I 0 0,vR I 0 0 []])) [] (.func (.func 72) #[] #[pt k,pt h]) (λj M=>(j=I/\∃e,M=e++(A++[(x.bf 0).en])/\WA n b (b+1) a a.length e)\/∃i f e,i<=a.length/\j=Z f/\M=e++(A++[(x.bf 0).en])/\Wl n b (b+1) a i f e) ?_ ?_ ?_
 ·intro m tm s
  refine Fl.post (agW _ _ _ _ _ _ _ _ _ _ (at4 n v _ _ _ _ _ _ (s.sub _ F)) x _ A w _ _ t _ ⟨ahu n,I,0,by rw[List.take_zero]⟩) ?_;rintro _ L (⟨e,rfl,q⟩|⟨i,f,e,o,rfl,r⟩)
  ·exact⟨_,⟨.ready,I,_,by simp,F,.inl ⟨F,e,F,q⟩⟩,List.Perm.refl _⟩
  ·exact⟨_,⟨.done,Z f,_,by simp,F,.inr ⟨i,f,e,o,F,F,r⟩⟩,List.Perm.refl _⟩
 ·exact cx
 ·rintro m j M (⟨rfl,_,rfl,aC,g,c,rfl⟩|⟨i,f,_,o,rfl,rfl,rfl,u,g,c,rfl⟩)
  ·rw[rb]
   refine cM ([.ob m (.deferred (Z [])),iB b n,lB (b+1) g a.length c,vR g a.length c (a.take a.length)]++(A++[(x.bf 0).en])) ?_;refine cF _ _ ?_;refine av [2] ?_;refine ey [1,2] ?_;refine bE ?_;refine Mm (z:=m) [sv g a.length c] (vR g a.length c (a.take a.length)::(A++[(x.bf 0).en])) ⟨g,c,?_,?_⟩
   ·rw[IL ah];rfl
   ·grind
  ·rw[rb]
   refine cM ([.ob m (.deferred (Z [])),iB b n,lB (b+1) g i c,vR g i c (a.take i)]++(A++[(x.bf 0).en])) ?_;refine cF _ _ ?_;refine av [2] ?_;refine ey [1,2] ?_;refine bE ?_;have p:(a.take (sA n)).length=i:=by rw[CF];omega
   refine Mm (z:=m) [sv g i c] (vR g i c (a.take i)::(A++[(x.bf 0).en])) ⟨g,c,?_,?_⟩
   ·rw[p];rfl
   ·rw[p,u]



theorem ahr{n}(h:n<=0\/n>2000):sA n=2000:=by
 unfold sA;rw[if_neg ah]
structure PC where
 y:c5
 k:eG
 a:Nat
 b:Nat
 ws:bU Wr
 kw:Nat
 xs:ae En
def PC.hd(x:aR)(c:PC):ae En:=[x.kE (c.y.by c.k),c.k.wE c.a c.b,c.y.wE c.ws c.kw,c.y.pE]
def PC.es(x:aR)(c:PC):ae En:=c.hd x++c.xs
structure Sg where
 x:aR
 ms:bU Mk
 km:Nat
 cd:ae bV
 cls:ae PC
 u:dT
 k0:eG
 a0:Nat
 b0:Nat
 ux:ae En
 n:Int
 ad:Nat
 bd:Nat
 st:Bool
def bV.es(C:bV):ae En:=[C.hd,C.rw]
def Sg.top(σ:Sg):ae En:=[(σ.x.bf 0).en,σ.x.uE (σ.u.by σ.k0),σ.k0.wE σ.a0 σ.b0,dE σ.k0.d σ.x.s σ.n σ.st σ.ad σ.bd,σ.x.eE,σ.x.sE,σ.x.cE,σ.x.lE,σ.x.mE σ.ms σ.km]
def Sg.all(σ:Sg):ae En:=σ.top++(σ.ux++(σ.cd.flatMap bV.es++σ.cls.flatMap (PC.es σ.x)))
theorem EK{α β:Type}(f:α->ae β):∀(l:ae α)(i)(a),l[i]?=Z a->(l.flatMap f).Perm (f a++(l.eraseIdx i).flatMap f)
 |[],i,a,h=>by simp at h
 |x::l,0,a,h=>by
  simp_all
 |x::l,i+1,a,h=>by
  have:=EK f l i a (by simpa using h);simp only[vp,List.eraseIdx_cons_succ];refine(this.append_left _).trans ?_;rw[<-iL,<-iL];exact List.perm_append_comm.append_right _
def Sg.tl(σ:Sg)(i k:Nat):ae En:=σ.ux++((σ.cd.eraseIdx k).flatMap bV.es++(σ.cls.eraseIdx i).flatMap (PC.es σ.x))
theorem Sg.open(σ:Sg){i k}{c}{C}(h:σ.cls[i]?=Z c)(g:σ.cd[k]?=Z C):σ.all.Perm (σ.top++(C.es++(c.hd σ.x++(c.xs++σ.tl i k)))):=by
 refine Gq _ ?_;refine(((EK _ _ _ _ g).append (EK _ _ _ _ h)).append_left _).trans ?_;unfold Sg.tl PC.es;generalize (σ.cd.eraseIdx k).flatMap bV.es=b;generalize (σ.cls.eraseIdx i).flatMap (λc=>c.hd σ.x++c.xs)=d;generalize c.hd σ.x=A;generalize c.xs=B;generalize C.es=D;generalize σ.ux=a;have e:(a++(D++b++(A++B++d))).Perm (D++(a++(b++(A++B++d)))):=by
  rw[iL,<-iL,<-iL D a];exact List.perm_append_comm.append_right _
 refine e.trans (Gq D ?_);have f:(a++(b++(A++B++d))).Perm ((A++B)++(a++(b++d))):=by
  rw[<-iL a _,<-iL a _,<-iL _,<-iL (A++B)];exact List.perm_append_comm.append_right _
 refine f.trans ?_;rw[iL]
theorem Sg.abU(σ:Sg){k}{C}(a:σ.cd[k]?=Z C):σ.all.Perm (σ.top++(C.es++(σ.ux++((σ.cd.eraseIdx k).flatMap bV.es++σ.cls.flatMap (PC.es σ.x))))):=by
 refine Gq _ ?_;refine(((EK _ _ _ _ a).append_right _).append_left _).trans ?_;rw[iL,<-iL,<-iL C.es];exact List.perm_append_comm.append_right _
theorem ae8{x a}(h:a.s=x.s):PC.es a=PC.es x:=by
 funext c;unfold PC.es PC.hd aR.kE;rw[h]
theorem afe{σ σ':Sg}{i k}{c}{C}(a:σ'.ux=σ.ux)(b:σ'.cd=σ.cd.set k C)(d:σ'.cls=σ.cls.set i c)(e:σ'.x.s=σ.x.s):σ'.tl i k=σ.tl i k:=by
 unfold Sg.tl;rw[a,b,d,ae8 e,List.eraseIdx_set_eq,List.eraseIdx_set_eq]
inductive jP:Cm->c5->ae Int->ae En->Prop
 |skip {c:Cm} {y:c5} {ks:ae Int} (ho:c.out=U) (hn:y.nx=Vj y.c):jP c y ks []
 |kz {c:Cm} {y:c5} {ks:ae Int} (p:Stp) (i bc bi:Nat) (ho:c.out=Y) (hp:c.pr[c.at_]?=Z p) (hk:p.kind=1) (hs:c.site=Z i) (hn:y.nx=.func (.func 134) #[] #[pt bc,pt bi]):jP c y ks [.ob bc (.cells #[pt y.c] 149),.ob bi (.cells #[ai i] 3)]
 |read {c:Cm} {y:c5} {ks:ae Int} (ho:c.out=Y) (hb:∀p,c.pr[c.at_]?=Z p->p.kind=1->c.site=I) (h0:c.phase=0) (hk:c.keys=0) (hn:y.nx=.func (.func 60) #[pt y.c] #[]):jP c y ks []
 |mark {c:Cm} {y:c5} {ks:ae Int} (j g cap b1 b2:Nat) (h0:c.phase=0) (hk:c.keys=j+1) (hc:ks.length<=cap) (hn:y.nx=.func (.func 137) #[] #[pt b1,pt b2]):jP c y ks [vT g cap ks,.ob b1 (.cells #[pt y.c] 149),.ob b2 (.cells #[kS g j ks.length cap] 55)]
 |aG {c:Cm} {y:c5} {ks:ae Int} (h0:c.phase=1) (hn:y.nx=.func (.func 138) #[pt y.c] #[]):jP c y ks []
 |Oh {c:Cm} {y:c5} {ks:ae Int} (z:Nat) (h0:c.phase=2) (hk:c.keys=0) (hn:y.nx=.func (.func 156) #[] #[pt z]):jP c y ks [.ob z (.cells #[pt y.c] 149)]
 |inst {c:Cm} {y:c5} {ks:ae Int} (j g cap b1 b2:Nat) (h0:c.phase=2) (hk:c.keys=j+1) (hc:ks.length<=cap) (hn:y.nx=.func (.func 161) #[] #[pt b1,pt b2]):jP c y ks [vT g cap ks,.ob b1 (.cells #[pt y.c] 149),.ob b2 (.cells #[kS g j ks.length cap] 55)]
 |leave {c:Cm} {y:c5} {ks:ae Int} (z:Nat) (h0:c.phase=3) (hn:y.nx=.func (.func 162) #[] #[pt z]):jP c y ks [.ob z (.cells #[pt y.c] 149)]
structure tz(c:Cm)(p:PC):Prop where
 id:p.y.id=c.me
 pr:p.y.pr=c.pr
 at_:p.y.at_=c.at_
 b:p.y.b=c.b
 site:∀s,c.site=Z s->p.y.site=s
 aG:2<=c.phase->p.y.aG=c.aG
 wr:rm c.wrote p.ws
 mw:mG p.ws p.kw
 nx:jP c p.y (c.wrote.map λw=>(w.key:Int)) p.xs
inductive tK(m:Mo):dT->ae En->Prop
 |first {u:dT} (h:m.at_=0) (hn:u.nx=.func (.func 56) #[pt u.w] #[]):tK m u []
 |Is {u:dT} (z:Nat) (h:m.at_=1) (hl:u.low=m.w) (hn:u.nx=.func (.func 96) #[] #[pt z]):tK m u [.ob z (.cells #[pt u.w] 99)]
 |site {u:dT} (z z' i:Nat) (h:m.at_=i+2) (hi:i+1<m.sites.length) (hl:u.low=m.w) (hn:u.nx=.func (.func 128) #[] #[pt z,pt z']):tK m u [.ob z (.cells #[pt u.w] 99),.ob z' (.cells #[ai i] 3)]
 |HQ {u:dT} (z:Nat) (h:m.at_=m.sites.length+1) (hl:u.low=m.w) (hn:u.nx=.func (.func 129) #[] #[pt z]):tK m u [.ob z (.cells #[pt u.w] 99)]
 |key {u:dT} (z z' k:Nat) (h:m.at_=m.sites.length+2+k) (hk:k+1<m.aM.length) (hl:u.low=m.w) (hn:u.nx=.func (.func 153) #[] #[pt z,pt z']):tK m u [.ob z (.cells #[pt u.w] 99),.ob z' (.cells #[ai k] 3)]
structure kM(m:Mo)(σ:Sg):Prop where
 ck:σ.x.ck=m.clock
 li:σ.x.li=m.dX
 si:σ.x.si=m.sites.map pv
 ch:σ.x.ch=σ.cd.map (·.c)
 vs:σ.cd.map (·.vs)=m.aM.map List.reverse
 mm:pF m.marks σ.ms
 mo:mG σ.ms σ.km
 ev:σ.x.ev=m.events
 cl:σ.x.cl=σ.cls.map (·.y.c)
 cn:σ.cls.length=m.be.length
 cr:∀(i:Nat)(c:Cm)(p:PC),m.be[i]?=Z c->σ.cls[i]?=Z p->tz c p/\p.k.d=σ.k0.d
 sw:σ.x.sw=σ.u.w
 ux:tK m σ.u σ.ux
 n:σ.n=m.be.length+1
 st:σ.st=m.fE
theorem Fl.sub{P:aD}{a:af ag}{A L:ae En}{R R':ag->ae En->Prop}(B:ae En)(h:Fl P f a A R)(j:L.Perm (A++B))(i:∀v c,R v c->∃b,R' v b/\(c++B).Perm b):Fl P f a L R':=λd H g w e=>
 Fn.mono (h (B++d) H ((g.perm (j.append_right _)).perm (by rw[iL])) w e) λv p⟨k,l,c,q3,m⟩=>by
  obtain⟨b,n,o⟩:=i v c q3;exact⟨k,l,b,n,(m.perm (by rw[iL])).perm (o.append_right _)⟩
theorem P'{a b:ae En}(h:a.Perm b):bl.of a=bl.of b:=Quot.sound h
def K7:ag->cH
 |.func (.func f) _ _=>f
 |_=>0
def K6:ag->af ag
 |.func _ b c=>(b.toList++c.toList).toArray
 |_=>#[]
theorem ae6{y:c5}{v:ag}(h:y.nx=v):y.lx v=y:=by cases y;cases h;rfl
theorem azb{c:Cm}{y:c5}{W:ae Int}{X:ae En}(h:jP c y W X)(q:Nat)(x:aR){d:ae En}{R:ag->ae En->Prop}(a:Fl Sv (K7 y.nx) (K6 y.nx) (x.kE y::d) R):Fl Sv 67 [pt q].toArray (.ob q (.cells #[pt y.c] 149)::x.kE y::d) λv L=>∃b,R v b/\L=.ob q (.cells #[pt y.c] 149)::b:=by
 cases h
 all_goals
  rename_i f;rw[f]at a;have e:=ae6 f;rw[<-e]at a⊢;exact Fl.of 7 λk j=>av [0,1] (lW [.ob q (.cells #[pt y.c] 149)] _ a λv g i=>av [] (ez [v] _ ⟨g,i,F⟩))
section
variable {K S:Nat}{c:Cm}{y:c5}{W:ae Int}{X:ae En}
theorem Cm.Ok.Cc(a:c.Ok K S)(b:c.out=U):c.phase=0/\c.keys=0:=by
 have:=a.kR (a.cls (.inl b));omega
theorem Cm.Ok.xc(a:c.Ok K S){p:Stp}(d:c.pr[c.at_]?=Z p)(b:p.kind=1):c.phase=0/\c.keys=0:=by
 have:=a.kR (a.kz p d b);omega
theorem jP.sk(h:jP c y W X)(a:c.Ok K S)(b:c.out=U):y.nx=Vj y.c/\X=[]:=by
 have:=a.Cc b;cases h<;>first|(refine⟨?_,rfl⟩;assumption)|(exfalso;simp_all;done)|(exfalso;omega)
theorem jP.rd(h:jP c y W X)(a:c.Ok K S)(k:c.out=Y)(i:c.phase=0)(j:c.keys=0)(e:∀p,c.pr[c.at_]?=Z p->p.kind=1->c.site=I):y.nx=.func (.func 60) #[pt y.c] #[]/\X=[]:=by
 cases h
 case read f=>exact⟨f,F⟩
 case kz g d b _=>rw[e _ g d]at b;cases b
 all_goals first|omega|(have:=a.xc (by assumption) (by assumption);omega)|(have:=a.Cc (by assumption);omega)|simp_all
theorem jP.bg(h:jP c y W X)(d:c.Ok K S)(m:c.out=Y){p:Stp}{i:Nat}(j:c.pr[c.at_]?=Z p)(g:p.kind=1)(e:c.site=Z i):∃a b,y.nx=.func (.func 134) #[] #[pt a,pt b]/\X=[.ob a (.cells #[pt y.c] 149),.ob b (.cells #[ai i] 3)]:=by
 have:=d.xc j g;cases h
 case kz a b _ _ _ f l=>rw[e]at f;cases f;exact⟨a,b,l,F⟩
 case read k _ _ _=>rw[k p j g]at e;cases e
 all_goals first|omega|(have:=d.xc (by assumption) (by assumption);omega)|(have:=d.Cc (by assumption);omega)|simp_all
theorem jP.mk(h:jP c y W X)(e:c.Ok K S)(n:c.out=Y){j:Nat}(l:c.phase=0)(m:c.keys=j+1):∃g a b d,W.length<=a/\y.nx=.func (.func 137) #[] #[pt b,pt d]/\X=[vT g a W,.ob b (.cells #[pt y.c] 149),.ob d (.cells #[kS g j W.length a] 55)]:=by
 cases h
 case mark i g a b d _ k e f=>
  obtain rfl:i=j:=by omega
  exact⟨g,a,b,d,e,f,F⟩
 all_goals first|omega|(have:=e.xc (by assumption) (by assumption);omega)|(have:=e.Cc (by assumption);omega)|simp_all
theorem jP.st(h:jP c y W X)(a:c.Ok K S)(d:c.phase=1):y.nx=.func (.func 138) #[pt y.c] #[]/\X=[]:=by
 cases h
 case aG b=>exact⟨b,F⟩
 all_goals first|omega|(have:=a.xc (by assumption) (by assumption);omega)|(have:=a.Cc (by assumption);omega)|simp_all
theorem jP.i0(h:jP c y W X)(a:c.Ok K S)(d:c.phase=2)(e:c.keys=0):∃z,y.nx=.func (.func 156) #[] #[pt z]/\X=[.ob z (.cells #[pt y.c] 149)]:=by
 cases h
 case Oh b=>exact⟨_,b,F⟩
 all_goals first|omega|(have:=a.xc (by assumption) (by assumption);omega)|(have:=a.Cc (by assumption);omega)|simp_all
theorem jP.i1(h:jP c y W X)(e:c.Ok K S){j:Nat}(l:c.phase=2)(m:c.keys=j+1):∃g a b d,W.length<=a/\y.nx=.func (.func 161) #[] #[pt b,pt d]/\X=[vT g a W,.ob b (.cells #[pt y.c] 149),.ob d (.cells #[kS g j W.length a] 55)]:=by
 cases h
 case inst i g a b d _ k e f=>
  obtain rfl:i=j:=by omega
  exact⟨g,a,b,d,e,f,F⟩
 all_goals first|omega|(have:=e.xc (by assumption) (by assumption);omega)|(have:=e.Cc (by assumption);omega)|simp_all
theorem jP.lv(h:jP c y W X)(a:c.Ok K S)(d:c.phase=3):∃z,y.nx=.func (.func 162) #[] #[pt z]/\X=[.ob z (.cells #[pt y.c] 149)]:=by
 cases h
 case leave b=>exact⟨_,b,F⟩
 all_goals first|omega|(have:=a.xc (by assumption) (by assumption);omega)|(have:=a.Cc (by assumption);omega)|simp_all
end
structure SR(m:Mo)(x:aR)(ms:bU Mk)(km:Nat):Prop where
 ck:x.ck=m.clock
 li:x.li=m.dX
 si:x.si=m.sites.map pv
 mm:pF m.marks ms
 mo:mG ms km
 ev:x.ev=m.events
def XK(x a:aR):Prop:=a.s=x.s/\a.mu=x.mu/\a.sw=x.sw/\a.rp=x.rp/\a.CZ=x.CZ/\a.cl=x.cl/\a.ch=x.ch
def PK(p a:PC):Prop:=a.k=p.k/\a.a=p.a/\a.b=p.b/\a.y.c=p.y.c/\a.y.wk=p.y.wk/\a.y.tl=p.y.tl
def nL(x:aR)(p:PC)(b:bU Mk)(a:Nat)(C:bV):ae En:=x.kE p.y::x.en::([x.eE,x.sE,x.cE,x.mE b a,p.y.wE p.ws p.kw,p.y.pE,C.hd,C.rw]++p.xs)
structure Mv(x:aR)(p:PC)(k:Nat)(C:bV)(m:Mo)(T:Mo×Cm×Int)(x':aR)(p':PC)(mg:bU Mk)(mf:Nat)(C':bV):Prop where
 xk:XK x x'
 pk:PK p p'
 cc:C'.c=C.c
 ch:T.1.aM=m.aM.set k C'.vs.reverse
 sr:SR T.1 x' mg mf
 cr:tz T.2.1 p'
def CM(x:aR)(p:PC)(k:Nat)(C:bV)(m:Mo)(T:Mo×Cm×Int)(v:ag)(L:ae En):Prop:=∃f e d b a,v=ai T.2.2/\Mv x p k C m T f e d b a/\L=nL f e d b a
def Mu(x:aR)(p:PC)(b:bU Mk)(a:Nat)(m:Mo)(T:Mo×Cm×Int):Prop:=∃k,k<m.aM.length/\∀(C:bV)(l:ae aZ),x.ch[k]?=Z C.c->m.aM[k]?=Z l->C.vs=l.reverse->Fl Sv (K7 p.y.nx) (K6 p.y.nx) (nL x p b a C) (CM x p k C m T)
theorem nkp{x:aR}{p:PC}{k:Nat}{C:bV}{m:Mo}{T:Mo×Cm×Int}{v:ag}{L:ae En}(f:aR)(e:PC)(d:bU Mk)(b:Nat)(a:bV)(j:v=ai T.2.2)(h:Mv x p k C m T f e d b a)(i:L.Perm (nL f e d b a)):∃g,CM x p k C m T v g/\L.Perm g:=⟨_,⟨f,e,d,b,a,j,h,F⟩,i⟩
theorem MW{m:Mo}{k:Nat}{l:ae aZ}{C:bV}(a:m.aM[k]?=Z l)(b:C.vs=l.reverse):m.aM=m.aM.set k C.vs.reverse:=by
 rw[b,List.reverse_reverse];exact(Pv a).symm
theorem aqI{p:PC}{c:Cm}(X:tz c p){st:Stp}(hp:c.pr[c.at_]?=Z st):p.y.pr[p.y.at_]?=Z st:=by rw[X.pr,X.at_];exact hp
theorem OL{x:aR}{R:bU Mk}{S:Nat}{m:Mo}(W:SR m x R S):x.si.length=m.sites.length:=by rw[W.si,jM]
theorem aqK{m:Mo}(Q:m.Ok){k:Nat}{l:ae aZ}{C:bV}(a:m.aM[k]?=Z l)(hv:C.vs=l.reverse):C.vs.length<1000000:=by
 have:=Q.Gb.2 l (jZ a);rw[hv,IH];omega
theorem aqM{p:PC}{m:Mo}{c:Cm}(Q:m.Ok)(V:c.Ok m.aM.length m.sites.length)(X:tz c p):p.ws.length<1000000:=by
 have h1:=X.wr.keys.length_eq;simp only[jM]at h1;have:=V.aeQ;have:=Q.k;omega
theorem aqL{p:PC}{c:Cm}(X:tz c p)(h:c.wrote=[]):p.ws=[]:=by
 have h1:=X.wr.keys.length_eq;rw[h]at h1;simp only[jM,uI]at h1;exact IF.1 h1
section
variable {x:aR}{p:PC}{R:bU Mk}{S:Nat}{m:Mo}{c:Cm}(Q:m.Ok)(V:c.Ok m.aM.length m.sites.length)(W:SR m x R S)(X:tz c p)
include Q V W X
theorem aqH:x.Ok p.y:=⟨by rw[W.ev];have:=Q.Gb.1;omega,by rw[X.at_];have:=V.at_;have:=V.len;omega⟩
omit Q in
theorem K8{s:Nat}(h:c.site=Z s):p.y.site<x.si.length:=by
 rw[X.site s h,OL W];exact V.site s h
omit Q V in
theorem SR.bA(o:Int)(v:ByteArray)(t:Int)(g:aj Nat)(cap:Nat):SR (m.bA c o v t) (x.bA p.y o v t g cap) R S:=⟨W.ck,W.li,W.si,W.mm,W.mo,by
 show x.ev++[_]=m.events++[_];rw[W.ev,X.id,X.at_]⟩
omit Q W X in
theorem abL{st q:Stp}(hp:c.pr[c.at_]?=Z st)(hk:st.kind≠5/\st.kind≠6)(hq:c.pr[c.at_+1]?=Z q):q.kind≠1:=λh1=>by
 have:=(V.lx hp hq).1 h1;rw[Ib st hk]at this;cases this
omit Q V W in
theorem tz.rd{c':Cm}{p':PC}(e1:p'.y.id=p.y.id/\p'.y.pr=p.y.pr/\p'.y.at_=p.y.at_+1/\p'.y.nx=.func (.func 60) #[pt p'.y.c] #[]/\p'.xs=[])(e2:c'.me=c.me/\c'.pr=c.pr/\c'.at_=c.at_+1/\c'.out=Y/\c'.phase=0/\c'.keys=0)(hb:p'.y.b=c'.b)(fJ:∀s,c'.site=Z s->p'.y.site=s)(hw:rm c'.wrote p'.ws)(BN:mG p'.ws p'.kw)(hn:c'.site=I\/∀q,c.pr[c.at_+1]?=Z q->q.kind≠1):tz c' p' where
 id:=by rw[e1.1,e2.1,X.id]
 pr:=by rw[e1.2.1,e2.2.1,X.pr]
 at_:=by rw[e1.2.2.1,e2.2.2.1,X.at_]
 b:=hb
 site:=fJ
 aG:=λh=>by rw[e2.2.2.2.2.1]at h;omega
 wr:=hw
 mw:=BN
 nx:=by
  rw[e1.2.2.2.2];refine .read e2.2.2.2.1 (λq hq hk=>?_) e2.2.2.2.2.1 e2.2.2.2.2.2 e1.2.2.2.1;rw[e2.2.1,e2.2.2.1]at hq;exact hn.elim (λh=>h) λh=>absurd hk (h q hq)
omit Q V W X in
theorem xa{p:Prop}(h:p:=by(apply bl.exact;simp only[nN,pB,qk,tA,nL,aR.bA,aR.lv,aR.tick,aR.en,aR.eE,aR.sE,aR.cE,aR.mE,aR.kE,c5.rd,c5.skip,c5.nk,c5.take,c5.PO,c5.wE,c5.pE,wJ,eH];try ac_rfl)):p:=h
omit Q V W X in
theorem ou{p:Prop}(h:p:=by unfold nL;exact cx):p:=h
omit Q V W X in
theorem ui{k:Nat}{C:bV}{T:Mo×Cm×Int}{v:ag}{L:ae En}(x':aR)(p':PC)(mg:bU Mk)(mf:Nat)(C':bV)(h1:T.1.aM=m.aM.set k C'.vs.reverse)(h2:SR T.1 x' mg mf)(h3:tz T.2.1 p')(hL:L.Perm (nL x' p' mg mf C'))(hv:v=ai T.2.2:=by rfl)(hx:XK x x':=by exact⟨rfl,rfl,rfl,rfl,rfl,rfl,rfl⟩)(hp:PK p p':=by exact⟨rfl,rfl,rfl,rfl,rfl,rfl⟩)(V:C'.c=C.c:=by rfl):∃L',CM x p k C m T v L'/\L.Perm L':=nkp x' p' mg mf C' hv ⟨hx,hp,V,h1,h2,h3⟩ hL
theorem aqJ(Kd:c.zd m.marks):Mu x p R S m (m.bX c):=by
 obtain⟨y,E,a,b,e,n,P⟩:=p;have K:x.Ok y:=aqH Q V W X;have nx:jP c y (c.wrote.map λw=>(w.key:Int)) P:=X.nx;have O:y.id=c.me:=X.id;have dM:y.at_=c.at_:=X.at_;have M:∀{T:Mo×Cm×Int}(k:Nat),k<m.aM.length→(∀(C:bV)(l:List aZ),x.ch[k]?=some C.c→m.aM[k]?=some l→C.vs=l.reverse→m.aM=m.aM.set k C.vs.reverse→C.vs.length<1000000→Fl Sv (K7 y.nx) (K6 y.nx) (nL x ⟨y,E,a,b,e,n,P⟩ R S C) (CM x ⟨y,E,a,b,e,n,P⟩ k C m T))→Mu x ⟨y,E,a,b,e,n,P⟩ R S m T:=λk hk h=>⟨k,hk,λC l H G hv=>h C l H G hv (MW G hv) (aqK Q G hv)⟩;have k0:0<m.aM.length:=by have:=Q.k;omega
 have iu:∀{st:Stp},c.pr[c.at_]?=some st→y.pr[y.at_]?=some st:=λh=>aqI X h;have rd:∀{st:Stp},c.pr[c.at_]?=some st→c.out=false→(st.kind=1→c.site=none)→c.phase=0∧c.keys=0→y.nx=.func (.func 60) #[pt y.c] #[]∧P=[]:=λhp f h1 A=>nx.rd V f A.1 A.2 λq hq h2=>by rw[hp]at hq;cases hq;exact h1 h2
 have zk:∀{st:Stp},c.pr[c.at_]?=some st→st.kind≠5→c.phase=0∧c.keys=0:=λhp hk=>by have:=V.no hp hk;omega
 have an:∀{st:Stp}{k:Nat}{C:bV}{o:Int}{u:ByteArray}{g:Option Nat}{cap Ol:Nat}{LX:bU Wr}{c':Cm}{L:List En},c.pr[c.at_]?=some st→st.kind≠5∧st.kind≠6→m.aM=m.aM.set k C.vs.reverse→c'.me=c.me∧c'.pr=c.pr∧c'.at_=c.at_+1∧c'.out=false∧c'.phase=0∧c'.keys=0→c'.b=c.b∧c'.site=c.site→rm c'.wrote LX→mG LX Ol→L.Perm (nL (x.bA y o u 0 g cap) ⟨y.rd,E,a,b,LX,Ol,[]⟩ R S C)→∃L',CM x ⟨y,E,a,b,e,n,P⟩ k C m (m.bA c o u 0,c',1) (goInt 1) L'∧L.Perm L':=λ{st k C o u g cap Ol LX c' L}hp hk r h1 h2 h3 h4 h5=>
  ui _ ⟨y.rd,E,a,b,LX,Ol,[]⟩ R S C r (SR.bA W X _ _ _ _ _) (tz.rd X ⟨rfl,rfl,rfl,rfl,rfl⟩ h1 (X.b.trans h2.1.symm) (by rw[h2.2];exact X.site) h3 h4 (.inr λq hq=>abL V hp hk hq)) h5
 have lv:∀(g:Option Nat)(cap:Nat){s k:Nat}{C:bV}{o t:Int}{L:List En},c.site=some s→c.out=false→m.aM=m.aM.set k C.vs.reverse→L.Perm (nL ((x.lv y).bA y o eH t g cap) ⟨y.rd,E,a,b,[],n,[]⟩ (vW y.id R) S C)→∃L',CM x ⟨y,E,a,b,e,n,P⟩ k C m ((m.leave c s).bA c o eH t,c.up.leave,1) (goInt 1) L'∧L.Perm L':=λg cap{s k C o t L}fJ f r hL=>by
  refine ui ((x.lv y).bA y o eH t g cap) ⟨y.rd,E,a,b,[],n,[]⟩ (vW y.id R) S C r ⟨W.ck,W.li,?_,?_,W.mo.sub List.filter_sublist,?_⟩ (tz.rd X ⟨rfl,rfl,rfl,rfl,rfl⟩ ⟨rfl,rfl,rfl,f,rfl,rfl⟩ X.b (λs h=>by cases h) rm.nil ⟨by simp,by simp,λx hx=>by simp at hx⟩ (.inl rfl)) hL
  ·show x.si.set y.site ⟨false,false,0⟩=(m.sites.set s (-1)).map pv
   rw[List.map_set,W.si,X.site s fJ];rfl
  ·rw[O]
   exact W.mm.leave W.mo.keys c.me
  ·show x.ev++[_]=m.events++[_]
   rw[W.ev,O,dM]
 have J9:jb e=c.wrote.map λw=>(w.key:Int):=X.wr.jb V.lQ;have mJ:e.length=c.wrote.length:=by
  have h1:=X.wr.keys.length_eq;simpa only[List.length_map]using h1
 have AD:=aqM Q V X;have Dv:=c.qX c.wrote.length;have aF:=c.xW c.wrote.length;have cs:∀{q:Value}{qZ:List En},(2≤(c.step c.wrote.length).phase→2≤c.phase)→jP (c.step c.wrote.length) (y.lx q) (c.wrote.map λw=>(w.key:Int)) qZ→tz (c.step c.wrote.length) ⟨y.lx q,E,a,b,e,n,qZ⟩:=λh2 hn=>⟨by rw[Dv.1];exact O,by rw[Dv.2.1];exact X.pr,by rw[Dv.2.2.1];exact dM,by rw[Dv.2.2.2.2.2.1];exact X.b,λs h=>X.site s (by rw[←Dv.2.2.2.2.1];exact h),λh=>by rw[Dv.2.2.2.2.2.2.2];exact X.aG (h2 h),by rw[Dv.2.2.2.2.2.2.1];exact X.wr,X.mw,by rw[Dv.2.2.2.2.2.2.1];exact hn⟩;have cm:∀{st:Stp}{s:Nat}{w:Wt}{T:Mo×Cm×Int}{B:Bool},c.pr[c.at_]?=some st→c.out=false→st.kind=5→c.site=some s→c.phase=0→c.wrote[c.keys]?=some w→w.key<m.aM.length→(((m.marks.getD w.key .no).set&&decide ((m.marks.getD w.key .no).bt≠c.me))||oJ (m.aM.getD w.key []) c.b)=B→(∀{C:bV}{g cap:Nat}{v:Value}{L:List En},m.aM=m.aM.set w.key C.vs.reverse→clash R C.vs w.key y.id y.b=B→c.keys<c.wrote.length→c.wrote.length≤cap→za x y R S e n C g c.keys cap (c.wrote.map λw=>(w.key:Int)) w.key v L→∃L',CM x ⟨y,E,a,b,e,n,P⟩ w.key C m T v L'∧(L++[y.pE]).Perm L')→Mu x ⟨y,E,a,b,e,n,P⟩ R S m T:=by
  intro st s w T B hp f hk fJ Hg hw fq hB hT;refine M w.key fq λC l H G hv r J=>?_;have yT:((c.wrote.map λw=>(w.key:Int)))[c.keys]?=some (w.key:Int):=by rw[List.getElem?_map,hw];rfl
  have dJ:=(List.getElem?_eq_some_iff.1 hw).1;have bx:clash R C.vs (w.key:Nat) y.id y.b=B:=by
   rw[hv,O,X.b,←hB];exact ag2 W.mm G Q.ml V.b
  have bY:=K8 V W X fJ;rcases Nat.eq_zero_or_pos c.keys with A|A
  ·obtain⟨e1,rfl⟩:=rd hp f ah ⟨Hg,A⟩
   simp only[e1];refine Fl.sub ([]) ((Ip K (iu hp)).2.2.2.2 hk R S e n C w.key W.mo X.mw ⟨by omega,AD⟩ bY H J (by rw[J9,←yT,A])) ou ?_;rintro v _ ⟨g,cap,L',N,d,rfl⟩;rw[J9,←A]at d;obtain⟨L2,q1,q2⟩:=hT r bx dJ ah d;exact⟨L2,q1,.trans cx q2⟩
  ·obtain⟨j,hj⟩:∃j,c.keys=j+1:=⟨c.keys-1,by omega⟩
   obtain⟨g,cap,b1,b2,N,e1,rfl⟩:=nx.mk V f Hg hj;simp only[e1];refine Fl.sub ([y.pE]) (apZ x y R S e n C g j cap (c.wrote.map λw=>(w.key:Int)) w.key b1 b2 K W.mo bY H J (by rw[←hj];exact yT) N) ou ?_;intro v L1 d;rw[←hj]at d;rw[List.length_map]at N;exact hT r bx dJ N d
 refine tC V (Mu x ⟨y,E,a,b,e,n,P⟩ R S m) ?_ ?_ ?_ ?_ ?_ ?_ ?_ ?_ ?_ ?_ ?_ ?_ ?_ ?_ ?_
 ·intro hn
  refine M 0 k0 λC l H G hv r J=>?_;have nc:y.pr[y.at_]?=none:=by rw[X.pr,dM];exact hn
  have β:y.at_≤y.pr.length:=by rw[X.pr,dM];exact V.at_
  cases f:c.out with
  |true=>
   obtain⟨e1,rfl⟩:=nx.sk V f;simp only[e1];refine Fl.sub ([x.sE,x.cE,x.mE R S,y.wE e n,C.hd,C.rw]) (ade x y K β) ou ?_;intro v L1 d;rw[nc]at d;obtain⟨rfl,rfl⟩:=d;exact ui x _ R S C r W X ou
  |false=>
   have A:c.phase=0∧c.keys=0:=by
    by_cases h:c.keys≠0∨c.phase≠0
    ·obtain⟨q,hq,_⟩:=V.tO h
     rw[hn]at hq;cases hq
    ·omega
   obtain⟨e1,rfl⟩:=nx.rd V f A.1 A.2 (λq hq=>by rw[hn]at hq;cases hq);simp only[e1];refine Fl.sub ([x.en,x.eE,x.sE,x.cE,x.mE R S,y.wE e n,y.pE,C.hd,C.rw]) (atz x y (by have:=List.getElem?_eq_none_iff.1 nc;omega)) ou ?_;rintro _ _ ⟨rfl,rfl⟩;exact ui x _ R S C r W X ou
 ·intro st hp f
  refine M 0 k0 λC l H G hv r J=>?_;have A:=V.Cc f;obtain⟨e1,rfl⟩:=nx.sk V f;simp only[e1];refine Fl.sub ([x.sE,x.cE,x.mE R S,y.wE e n,C.hd,C.rw]) (ade x y K (by rw[X.pr,dM];exact V.at_)) ou ?_;intro v L1 d;rw[iu hp]at d;obtain⟨rfl,g,cap,rfl⟩:=d;unfold If;by_cases hk:st.kind≠5∧st.kind≠6
  ·rw[if_pos hk]
   exact ui _ ⟨y.skip,E,a,b,e,n,[]⟩ R S C r (SR.bA W X 7 eH 0 g cap) ⟨O,X.pr,congrArg (·+1) dM,X.b,X.site,λh=>absurd (show 2≤c.phase from h) ah,X.wr,X.mw,.skip (Ib st hk) rfl⟩ xa
  ·rw[if_neg hk]
   exact ui _ ⟨y.rd,E,a,b,e,n,[]⟩ R S C r (SR.bA W X 7 eH 0 g cap) (tz.rd X ⟨rfl,rfl,rfl,rfl,rfl⟩ ⟨rfl,rfl,rfl,abV st ah,A.1,A.2⟩ X.b X.site X.wr X.mw (.inl (V.out f))) xa
 ·intro st i hp f hk fJ hi
  refine M 0 k0 λC l H G hv r J=>?_;have A:=V.xc hp hk;obtain⟨bc,bi,e1,rfl⟩:=nx.bg V f hp hk fJ;simp only[e1];refine Fl.sub ([x.cE,x.mE R S,y.wE e n,y.pE,C.hd,C.rw]) (agl x y i bc bi K (by rw[OL W];exact hi)) ou ?_;rintro v _ ⟨rfl,g,cap,rfl⟩;refine ui (aR.bA {x with si:=x.si.set i ⟨true,true,x.ck⟩} y 1 eH x.ck g cap) ⟨(y.nk x.ck).rd,E,a,b,e,n,[]⟩ R S C r ⟨W.ck,W.li,?_,W.mm,W.mo,?_⟩ (tz.rd X ⟨rfl,rfl,rfl,rfl,rfl⟩ ⟨rfl,rfl,rfl,f,A.1,A.2⟩ W.ck X.site X.wr X.mw (.inr λq hq=>abL V hp ah hq)) ?_
  ·show x.si.set i ⟨true,true,x.ck⟩=(m.sites.set i m.clock).map pv
   rw[List.map_set,W.si,W.ck,avp _ Q.ck.1]
  ·show x.ev++[_]=m.events++[_]
   rw[W.ev,O,dM,W.ck]
  exact xa
 ·intro st i hp f hk fJ hf
  refine M 0 k0 λC l H G hv r J=>?_;obtain⟨e1,rfl⟩:=rd hp f (λ_=>fJ) (V.xc hp hk);simp only[e1];have An:tR x.si 0=some i:=by rw[W.si,Rj];exact hf
  refine Fl.sub ([x.cE,x.mE R S,y.wE e n,C.hd,C.rw]) ((Ip K (iu hp)).1 hk (by rw[OL W];have:=Q.s;omega)) ou ?_;rintro v _ ⟨L',d,rfl⟩;unfold GW at d;rw[An]at d;obtain⟨rfl,w,bc,bi,hw,rfl⟩:=d;have ma:w=⟨false,false,0⟩:=by
   have h1:=Rm m.sites 0 i hf;rw[W.si,List.getElem?_map]at hw;rw[Nat.sub_zero]at h1;rw[h1]at hw;simp only[Option.map_some,Option.some.injEq]at hw;rw[←hw];exact avo
  refine ui {x with si:=x.si.set i {w with busy:=true}} ⟨y.take i bc bi,E,a,b,e,n,[.ob bc (.cells #[pt y.c] 149),.ob bi (.cells #[goInt i] 3)]⟩ R S C r ⟨W.ck,W.li,?_,W.mm,W.mo,W.ev⟩ ⟨O,X.pr,dM,X.b,λs h=>by cases h;rfl,λh=>?_,X.wr,X.mw,.kz st i bc bi f hp hk rfl rfl⟩ ?_
  ·show x.si.set i {w with busy:=true}=(m.sites.set i (-2)).map pv
   rw[List.map_set,W.si,ma];rfl
  ·have:2≤c.phase:=h
   have:=V.xc hp hk;omega
  exact xa
 ·intro st hp f hk fJ hf
  refine M 0 k0 λC l H G hv r J=>?_;have A:=V.xc hp hk;obtain⟨e1,rfl⟩:=rd hp f (λ_=>fJ) A;simp only[e1];have An:tR x.si 0=none:=by rw[W.si,Rj];exact hf
  refine Fl.sub ([x.cE,x.mE R S,y.wE e n,C.hd,C.rw]) ((Ip K (iu hp)).1 hk (by rw[OL W];have:=Q.s;omega)) ou ?_;rintro v _ ⟨L',d,rfl⟩;unfold GW at d;rw[An]at d;obtain⟨rfl,g,cap,rfl⟩:=d;exact ui _ ⟨y.skip,E,a,b,e,n,[]⟩ R S C r (SR.bA W X 5 eH 0 g cap) ⟨O,X.pr,congrArg (·+1) dM,X.b,X.site,λh=>absurd (show 2≤c.phase from h) ah,X.wr,X.mw,.skip rfl rfl⟩ xa
 case' refine_6=>intro st k o s hp f hk dV dJ fJ _ hg
 case' refine_7=>intro st k s hp f hk dV dJ fJ _ hg
 iterate 2
  refine M k dJ λC l H G hv r J=>?_;have A:=zk hp ah;obtain⟨e1,rfl⟩:=rd hp f ah A;simp only[e1];have NT:Aj e R C.vs (k:Nat) y.id y.b=m.get c k:=by
   rw[hv,O,X.b];exact ajy X.wr W.mm G Q.ml
  refine Fl.sub ([x.sE]) ((Ip K (iu hp)).2.1 hk R S e n C k H J dV) ou ?_;rintro v _ ⟨L',d,rfl⟩;unfold Bz at d;rw[NT,hg]at d
  first
   |obtain⟨rfl,g,cap,rfl⟩:=d
    exact an hp ah r ⟨rfl,rfl,rfl,f,A.1,A.2⟩ ⟨rfl,rfl⟩ X.wr X.mw xa
   |obtain⟨rfl,rfl⟩:=d
    exact ui x _ R S C r W X ou
 ·intro st k s hp f hk dV dJ fJ _
  refine M 0 k0 λC l H G hv r J=>?_;have A:=zk hp ah;obtain⟨e1,rfl⟩:=rd hp f ah A;simp only[e1];refine Fl.sub ([x.sE,x.cE,x.mE R S,C.hd,C.rw]) ((Ip K (iu hp)).2.2.1 (decide (st.kind=4)) (hk.imp (λh=>⟨h,by simp[h]⟩) λh=>⟨h,by simp[h]⟩) e n) ou ?_;rintro v _ ⟨rfl,g,cap,rfl⟩;rw[dV];exact an hp ah r ⟨rfl,rfl,rfl,f,A.1,A.2⟩ ⟨rfl,rfl⟩ (X.wr.put V.lQ ⟨k,_,st.val⟩ n) (X.mw.set (k:Int) (_,st.val)) xa
 ·intro st s hp f hk fJ _
  refine M 0 k0 λC l H G hv r J=>?_;have bY:=K8 V W X fJ;obtain⟨e1,rfl⟩:=rd hp f ah (hk.elim (λh=>zk hp ah) λh=>by have:=V.kR h.2;omega);simp only[e1];refine Fl.sub ([x.cE,C.hd,C.rw]) ((Ip K (iu hp)).2.2.2.1 R S e n (hk.imp_right λh=>⟨h.1,aqL X h.2⟩) W.mo bY) ou ?_;rintro v _ ⟨rfl,g,cap,rfl⟩;exact lv g cap fJ f r xa
 ·intro st s w hp f hk fJ _ Hg hw fq vL
  refine cm hp f hk fJ Hg hw fq vL λr bx _ _ d=>?_;unfold za at d;rw[bx,if_pos rfl]at d;obtain⟨rfl,g,cap,rfl⟩:=d;exact lv g cap fJ f r xa
 ·intro st s w hp f hk fJ _ Hg hw fq vL
  refine cm hp f hk fJ Hg hw fq vL λ{C}g cap _ _ r bx dJ N d=>?_;unfold za at d;rw[bx,if_neg ba]at d;have sr:SR {m with marks:=m.marks.set w.key ⟨true,c.me,0⟩} x (j9 R w.key (y.id,0) S) (qP R w.key S):=⟨W.ck,W.li,W.si,by rw[O];exact W.mm.set w.key S c.me 0,W.mo.set _ _,W.ev⟩;obtain⟨rfl,d⟩:=d;rw[List.length_map]at d;split at d
  ·subst d
   exact ui x ⟨y.lx (.func (.func 138) #[pt y.c] #[]),E,a,b,e,n,[]⟩ _ _ C r sr (cs ah (.aG ah rfl)) ou
  ·obtain⟨b1,b2,rfl⟩:=d
   exact ui x ⟨y.lx (.func (.func 137) #[] #[pt b1,pt b2]),E,a,b,e,n,_⟩ _ _ C r sr (cs ah (.mark c.keys g cap b1 b2 ah ah (by rw[List.length_map];exact N) rfl)) (by unfold nL;simp only[List.length_map];exact cx)
 ·intro st s hp f hk fJ _ h1 cK az G
  refine M 0 k0 λC l H oX hv r J=>?_;obtain⟨e1,rfl⟩:=nx.st V h1;simp only[e1];refine Fl.sub ([x.cE,y.pE,C.hd,C.rw]) (ad8 x y R S e n K W.mo X.mw AD (K8 V W X fJ) (by rw[W.ck];have:=Q.ck;omega)) ou ?_;intro v L1 d;unfold LF at d;rw[W.ck,W.li,if_pos G]at d;obtain⟨rfl,g,cap,rfl⟩:=d;exact lv g cap fJ f r xa
 ·intro st s hp f hk fJ _ h1 cK az G
  refine M 0 k0 λC l H oX hv r J=>?_;obtain⟨e1,rfl⟩:=nx.st V h1;simp only[e1];refine Fl.sub ([x.cE,y.pE,C.hd,C.rw]) (ad8 x y R S e n K W.mo X.mw AD (K8 V W X fJ) (by rw[W.ck];have:=Q.ck;omega)) ou ?_;intro v L1 d;unfold LF at d;rw[W.ck,W.li,if_neg G]at d;obtain⟨rfl,z,rfl⟩:=d;have RN:=pF.aG (ws:=c.wrote) c.me (m.clock+1) c.wrote m.marks R S W.mm W.mo (λw hw=>by
   obtain⟨j,hj⟩:=List.getElem?_of_mem hw;exact Kd j w hj (.inr (.inl h1)))
  rw[←J9,←O]at RN;exact ui x.tick ⟨y.PO (m.clock+1) z,E,a,b,e,n,[.ob z (.cells #[pt y.c] 149)]⟩ _ _ C r ⟨congrArg (·+1) W.ck,W.li,W.si,RN.1,RN.2,W.ev⟩ ⟨O,X.pr,dM,X.b,X.site,λ_=>rfl,X.wr,X.mw,.Oh z rfl cK rfl⟩ xa
 ·intro st s w hp f hk fJ _ YP hw fq
  refine M w.key fq λC l H G hv r J=>?_;have yT:((c.wrote.map λw=>(w.key:Int)))[c.keys]?=some (w.key:Int):=by rw[List.getElem?_map,hw];rfl
  have dJ:=(List.getElem?_eq_some_iff.1 hw).1;have KC:iI e (w.key:Nat)=some (w.gone,w.val):=X.wr.at_ V.lQ hw;have fin:∀{g cap:Nat}{v:Value}{L:List En},c.wrote.length≤cap→FD x y R S e n C g c.keys cap (c.wrote.map λw=>(w.key:Int)) w.key (w.gone,w.val) v L→∃L',CM x ⟨y,E,a,b,e,n,P⟩ w.key C m ({m with aM:=m.aM.modify w.key λl=>⟨c.aG,w.gone,w.val⟩::l,marks:=m.marks.set w.key .no},c.step c.wrote.length,1) v L'∧(L++[x.eE,x.sE,y.pE]).Perm L':=λ{g cap v L}N d=>by
   unfold FD at d;rw[List.length_map]at d;obtain⟨rfl,d⟩:=d;have cP:∀g' D,(m.aM.modify w.key λl=>⟨c.aG,w.gone,w.val⟩::l)=m.aM.set w.key (C.put g' D ⟨y.aG,w.gone,w.val⟩).vs.reverse:=λg' D=>by
    rw[Ub _ _ _ _ G];congr 1;show _=(C.vs++[_]).reverse;rw[hv,X.aG ah];simp
   have sr:SR {m with aM:=m.aM.modify w.key λl=>⟨c.aG,w.gone,w.val⟩::l,marks:=m.marks.set w.key .no} x (ng w.key R) S:=⟨W.ck,W.li,W.si,W.mm.del W.mo.keys w.key,W.mo.sub (aa9 _ _),W.ev⟩;split at d
   ·obtain⟨z,g',D,rfl⟩:=d
    exact ui x ⟨y.lx (.func (.func 162) #[] #[pt z]),E,a,b,e,n,[.ob z (.cells #[pt y.c] 149)]⟩ _ S (C.put g' D ⟨y.aG,w.gone,w.val⟩) (cP g' D) sr (cs ah (.leave z ah rfl)) ou
   ·obtain⟨b1,b2,g',D,rfl⟩:=d
    exact ui x ⟨y.lx (.func (.func 161) #[] #[pt b1,pt b2]),E,a,b,e,n,_⟩ _ S (C.put g' D ⟨y.aG,w.gone,w.val⟩) (cP g' D) sr (cs ah (.inst c.keys g cap b1 b2 ah ah (by rw[List.length_map];exact N) rfl)) (by unfold nL;simp only[List.length_map];exact cx)
  rcases Nat.eq_zero_or_pos c.keys with A|A
  ·obtain⟨z0,e1,rfl⟩:=nx.i0 V YP A
   simp only[e1];refine Fl.sub ([x.eE,x.sE,y.pE]) (ax8 x y R S e n C w.key (w.gone,w.val) z0 X.mw AD KC H J (by rw[J9,←yT,A])) ou ?_;rintro v L1 ⟨g,cap,N,d⟩;rw[J9,←A]at d;exact fin ah d
  ·obtain⟨j,hj⟩:∃j,c.keys=j+1:=⟨c.keys-1,by omega⟩
   obtain⟨g,cap,b1,b2,N,e1,rfl⟩:=nx.i1 V YP hj;simp only[e1];refine Fl.sub ([x.eE,x.sE,y.pE]) (anC x y R S e n C g j cap (c.wrote.map λw=>(w.key:Int)) w.key (w.gone,w.val) b1 b2 KC H J (by rw[←hj];exact yT) N) ou ?_;intro v L1 d;rw[←hj]at d;rw[List.length_map]at N;exact fin N d
 ·intro st s hp f hk fJ _ h3 _ _
  refine M 0 k0 λC l H G hv r J=>?_;obtain⟨z,e1,rfl⟩:=nx.lv V h3;simp only[e1];refine Fl.sub ([x.cE,y.pE,C.hd,C.rw]) (anE x y R S e n z K W.mo (K8 V W X fJ)) ou ?_;rintro v _ ⟨rfl,g,cap,rfl⟩;rw[show y.aG=c.aG from X.aG ah];exact lv g cap fJ f r xa
end
theorem azg(m:Mo)(c:Cm):(m.bX c).1.w=m.w:=by
 unfold Mo.bX;dsimp only
 repeat' split
 all_goals rfl
theorem jP.Br{c:Cm}{y:c5}{q:ae Int}{r:ae En}(k:eG)(h:jP c y q r):jP c (y.by k) q r:=by
 cases h with
 |skip f a=>exact .skip f a
 |kz p i s t f v d w a=>exact .kz p i s t f v d w a
 |read f u b d a=>exact .read f u b d a
 |mark j g e l n b d o a=>exact .mark j g e l n b d o a
 |aG b a=>exact .aG b a
 |Oh z b d a=>exact .Oh z b d a
 |inst j g e l n b d o a=>exact .inst j g e l n b d o a
 |leave z b a=>exact .leave z b a
theorem tK.keep{m c:Mo}{u:dT}{f:ae En}(h:tK m u f)(g:c.at_=m.at_)(d:c.w=m.w)(j:c.sites.length=m.sites.length)(l:c.aM.length=m.aM.length):tK c u f:=by
 cases h with
 |first h a=>exact .first ah a
 |Is z h b a=>exact .Is z ah (by rw[d];exact b) a
 |site z e i h n b a=>exact .site z e i ah ah (by rw[d];exact b) a
 |HQ z h b a=>exact .HQ z ah (by rw[d];exact b) a
 |key z e k h o b a=>exact .key z e k ah ah (by rw[d];exact b) a
theorem aqa{x:aR}{i:Int}(h:x.mu=i):x.bf i=x:=by cases x;cases h;rfl
theorem agH{y:c5}{k:eG}(a:y.wk=.chan (Z k.w))(b:y.tl=.chan (Z k.t)):y.by k=y:=by cases y;cases a;cases b;rfl
theorem kM.sr{m:Mo}{σ:Sg}(h:kM m σ)(a:Int):SR m (σ.x.bf a) σ.ms σ.km:=⟨h.ck,h.li,h.si,h.mm,h.mo,h.ev⟩
theorem aoI{x a:aR}(h:XK x a):a.lE=x.lE:=by
 obtain⟨_,_,_,b,c,d,_⟩:=h;unfold aR.lE;rw[b,c,d]
def Sg.lx(σ:Sg)(i k:Nat)(e:aR)(d:PC)(c:bU Mk)(b:Nat)(a:bV):Sg:={σ with x:=e,ms:=c,km:=b,cd:=σ.cd.set k a,cls:=σ.cls.set i d,a0:=σ.a0+1,b0:=σ.b0+1,ad:=σ.ad+1+1,bd:=σ.bd+1+1}
def Mo.with(m a:Mo)(i:Nat)(c:Cm):Mo:={a with be:=m.be.set i c}
section
variable {m:Mo}{σ:Sg}(W:m.Ok)(X:kM m σ)
include W X
theorem kM.lx{i k:Nat}{c:Cm}{p r:PC}{C l:bV}{g:aR}{x:bU Mk}{w:Nat}(s:m.be[i]?=Z c)(t:σ.cls[i]?=Z p)(v:σ.cd[k]?=Z C)
  (h:Mv (σ.x.bf 1) {p with y:=p.y.by p.k} k C m (m.bX c) g r x w l):
  kM (m.with (m.bX c).1 i (m.bX c).2.1) (σ.lx i k g {r with a:=p.a+1,b:=p.b+1} x w l):=by
 obtain⟨J,B,K,G,f,d⟩:=h;have z:=W.me i c s;have q:=LK W z.2.1 z.2.2;have L:i<σ.cls.length:=(dq.1 t).1;have S:k<σ.cd.length:=(dq.1 v).1;have H:=X.cr i c p s t;obtain⟨x1,x2,O,x4,x5,P,Q⟩:=J;obtain⟨M,T,V,N,p5,p6⟩:=B;refine⟨f.ck,f.li,f.si,?_,?_,f.mm,f.mo,f.ev,?_,?_,λj u A R D=>?_,?_,X.ux.keep q.at_ (azg m c) q.s q.k,?_,?_⟩
 ·show g.ch=(σ.cd.set k l).map (·.c)
  rw[Q,wL,K,show(σ.x.bf 1).ch=σ.x.ch from F,X.ch];exact(Pv (by rw[fW,v];rfl)).symm
 ·show(σ.cd.set k l).map (·.vs)=(m.bX c).1.aM.map List.reverse
  rw[G,wL,wL,X.vs,List.reverse_reverse]
 ·show g.cl=(σ.cls.set i _).map (·.y.c)
  rw[P,wL,show(σ.x.bf 1).cl=σ.x.cl from F,X.cl];exact(Pv (by rw[fW,t];exact congrArg Z N.symm)).symm
 ·show(σ.cls.set i _).length=(m.be.set i _).length
  rw[wJ,wJ,X.cn]
 ·have o:(m.be.set i (m.bX c).2.1)[j]?=Z u:=R
  have n:(σ.cls.set i {r with a:=p.a+1,b:=p.b+1})[j]?=Z A:=D;by_cases e:i=j
  ·subst e
   have E:i<m.be.length:=(dq.1 s).1;rw[zD E]at o;rw[zD L]at n;cases o;cases n;refine⟨⟨d.id,d.pr,d.at_,d.b,d.site,d.aG,d.wr,d.mw,d.nx⟩,?_⟩;show r.k.d=σ.k0.d;rw[M];exact H.2
  ·rw[uH e]at o n
   exact X.cr j u A o n
 ·show g.sw=σ.u.w
  rw[O];exact X.sw
 ·show σ.n=((m.be.set i _).length:Int)+1
  rw[wJ];exact X.n
 ·show σ.st=(m.bX c).1.fE
  rw[q.st];exact X.st
theorem arP(G:m.fE=false){i:Nat}{c:Cm}(t:m.be[i]?=some c)(o:Value)(a:Gc)(b:Nat):Fl Sv 41 [pt σ.x.s,goInt i].toArray (aQ 4 o::gE a b::σ.all) λv L=>∃r,v=.tuple #[goInt r,.nilIface]∧∃x,r=(m.bX c).2.2∧kM (m.with (m.bX c).1 i (m.bX c).2.1) x∧x.x.s=σ.x.s∧L=aQ 4 o::gE (a+1) (b+1)::x.all:=by
 have M:i<σ.cls.length:=by rw[X.cn];exact(List.getElem?_eq_some_iff.1 t).1
 obtain⟨p,u⟩:∃p,σ.cls[i]?=some p:=⟨_,List.getElem?_eq_getElem M⟩;obtain⟨g,hd⟩:=X.cr i c p t u;have O:=W.me i c t;have E:tz c {p with y:=p.y.by p.k}:=⟨g.id,g.pr,g.at_,g.b,g.site,g.aG,g.wr,g.mw,g.nx.Br p.k⟩;obtain⟨k,V,hN⟩:=aqJ W O.2.1 (X.sr 1) E O.2.2;have bx:σ.cd.length=m.aM.length:=by have:=congrArg List.length X.vs;simpa using this
 obtain⟨C,s⟩:∃C,σ.cd[k]?=some C:=⟨_,List.getElem?_eq_getElem ah⟩;obtain⟨l,K⟩:∃l,m.aM[k]?=some l:=⟨_,List.getElem?_eq_getElem V⟩;have P:C.vs=l.reverse:=by
  have J:(σ.cd.map (·.vs))[k]?=some C.vs:=by rw[List.getElem?_map,s];rfl
  rw[X.vs,List.getElem?_map,K]at J;exact(Option.some.inj J).symm
 have S:=hN C l (by rw[show(σ.x.bf 1).ch=σ.x.ch from rfl,X.ch,List.getElem?_map,s];rfl) K P;have Q:jP c (p.y.by p.k) (c.wrote.map λw=>(w.key:Int)) p.xs:=E.nx;have T:=W.cl;have hP:=arS σ.x p.y σ.u σ.k0 p.k i o σ.n a b σ.a0 σ.b0 p.a p.b σ.ad σ.bd ([σ.x.eE,σ.x.sE,σ.x.cE,σ.x.mE σ.ms σ.km,p.y.wE p.ws p.kw,p.y.pE,C.hd,C.rw]++p.xs)
  (λr e D=>∃d j h f,r=(m.bX c).2.2∧Mv (σ.x.bf 1) {p with y:=p.y.by p.k} k C m (m.bX c) e d j h f∧D=e.kE d.y::([e.eE,e.sE,e.cE,e.mE j h,d.y.wE d.ws d.kw,d.y.pE,f.hd,f.rw]++d.xs))
  X.sw hd (by rw[X.cl,List.length_map,X.cn];omega) (by rw[X.cl,List.getElem?_map,u];rfl) (λq=>by
   refine Fl.post (Fl.perm (azb Q q (σ.x.bf 1) S) (by exact List.Perm.refl _)) ?_;rintro v _ ⟨L1,⟨e,d,j,h,f,rfl,n,rfl⟩,rfl⟩;refine⟨_,⟨(m.bX c).2.2,e,_,⟨rfl,n.xk.1,d,j,h,f,rfl,n,rfl⟩,rfl⟩,?_⟩;rw[aqa (show e.mu=1 from n.xk.2.1)];exact List.Perm.cons _ (List.Perm.swap ..))
 refine Fl.sub (σ.tl i k) hP ?_ ?_
 ·have A:=σ.open u s
  refine((A.cons _).cons _).trans ?_;unfold Sg.top PC.hd bV.es;rw[show σ.st=false from X.st.trans G];exact cx
 ·rintro v _ ⟨r,e,D,rfl,B,⟨d,j,h,f,rfl,n,rfl⟩,rfl⟩
  have ny:=X.lx W t u s n;refine⟨_,⟨_,rfl,_,rfl,ny,B,rfl⟩,?_⟩;have A:=(σ.lx i k e {d with a:=p.a+1,b:=p.b+1} j h f).open (i:=i) (k:=k) (by show(σ.cls.set i _)[i]?=_;rw[List.getElem?_set_self M]) (by show(σ.cd.set k f)[k]?=_;rw[List.getElem?_set_self ah])
  refine List.Perm.trans ?_ ((A.symm.cons _).cons _);rw[afe (σ:=σ) (σ':=σ.lx i k e {d with a:=p.a+1,b:=p.b+1} j h f) (c:={d with a:=p.a+1,b:=p.b+1}) (C:=f) rfl rfl rfl B];obtain⟨N,p2,p3,p4,p5,p6⟩:=n.pk;have R:d.y.by d.k=d.y:=by rw[N];exact agH p5 p6
  have z:=aoI n.xk;have H:e.s=σ.x.s:=B;show List.Perm _ (aQ 4 o::gE (a+1) (b+1)::([(e.bf 0).en,e.uE (σ.u.by σ.k0),σ.k0.wE (σ.a0+1) (σ.b0+1),dE σ.k0.d e.s σ.n σ.st (σ.ad+1+1) (σ.bd+1+1),e.eE,e.sE,e.cE,e.lE,e.mE j h]++([f.hd,f.rw]++([e.kE (d.y.by d.k),d.k.wE (p.a+1) (p.b+1),d.y.wE d.ws d.kw,d.y.pE]++(d.xs++σ.tl i k)))));rw[R,z,show e.uE (σ.u.by σ.k0)=σ.x.uE (σ.u.by σ.k0) by unfold aR.uE;rw[H],N,H,show σ.st=false from X.st.trans G,show(σ.x.bf 1).lE=σ.x.lE from rfl];exact cx
end
theorem aff{u:dT}{v:ag}(h:u.nx=v):u.go u.low v=u:=by cases u;cases h;rfl
theorem ayX{m:Mo}{u:dT}{S:ae En}(h:tK m u S)(q:Nat)(x:aR)(d:x.sw=u.w){c:ae En}{R:ag->ae En->Prop}(a:Fl Sv (K7 u.nx) (K6 u.nx) (x.en::x.uE u::c) R):Fl Sv 69 [pt q].toArray (.ob q (.cells #[pt x.s] 39)::x.en::x.uE u::c) λv L=>∃b,R v b/\L=.ob q (.cells #[pt x.s] 39)::b:=by
 cases h
 all_goals
  rename_i hn;rw[hn]at a;have e:=aff hn;rw[<-e]at a⊢;obtain⟨w,n,nx,p,o⟩:=u;simp only at d;subst d;exact Fl.of 10 λj f=>av [0,1,2] (lW [.ob q (.cells #[pt x.s] 39)] _ a λv L1 hR=>av [] (ez [v] _ ⟨L1,hR,rfl⟩))
section
variable {m:Mo}
theorem ayw(W:m.fE=Y)(h:m.at_=0):m.da=({m with at_:=1,w:=m.clock},Y,0):=by simp[Mo.da,W,h]
theorem ayF(W:m.fE=Y){i:Nat}(h:m.at_=i+1){v:Int}(hv:m.sites[i]?=Z v):m.da=({m with at_:=i+2,w:=if 0<=v/\v<m.w then v else m.w},Y,0):=by
 have hi:i+1<=m.sites.length:=(dq.1 hv).1;unfold Mo.da;rw[W,h];simp only[hZ,if_false,Nat.add_one_ne_zero,if_pos hi,Nat.add_sub_cancel,hv]
theorem ayB(W:m.fE=Y){k:Nat}(h:m.at_=m.sites.length+1+k)(hk:k+1=m.aM.length):m.da=({m with at_:=0,aM:=m.aM.modify k λl=>mq l m.w},U,0):=by
 have a:¬m.sites.length+1+k=0:=by omega
 have b:¬m.sites.length+1+k<=m.sites.length:=by omega
 have c:m.sites.length+1+k-1-m.sites.length=k:=by omega
 unfold Mo.da;rw[W,h];simp only[hZ,if_false,a,b,c,hk,if_true]
theorem ayA(W:m.fE=Y){k:Nat}(h:m.at_=m.sites.length+1+k)(hk:k+1≠m.aM.length):m.da=({m with at_:=m.sites.length+1+k+1,aM:=m.aM.modify k λl=>mq l m.w},Y,0):=by
 have a:¬m.sites.length+1+k=0:=by omega
 have b:¬m.sites.length+1+k<=m.sites.length:=by omega
 have c:m.sites.length+1+k-1-m.sites.length=k:=by omega
 unfold Mo.da;rw[W,h];simp only[hZ,if_false,a,b,c,hk]
end
def uL(x:aR)(u:dT)(C:bV)(S:ae En):ae En:=x.en::x.uE u::([x.sE,x.cE,C.hd,C.rw]++S)
structure WS(u:dT)(k:Nat)(C:bV)(m m':Mo)(u':dT)(C':bV)(qZ:ae En):Prop where
 uk:u'.w=u.w/\u'.wk=u.wk/\u'.tl=u.tl
 cc:C'.c=C.c
 ch:m'.aM=m.aM.set k C'.vs.reverse
 ux:tK m' u' qZ
def Qs(x:aR)(u:dT)(k:Nat)(C:bV)(m:Mo)(T:Mo×Bool×Int)(v:ag)(L:ae En):Prop:=∃c a b,v=ai (if T.2.1 then 1 else 0)/\WS u k C m T.1 c a b/\L=uL x c a b
def afx(x:aR)(u:dT)(S:ae En)(m:Mo)(T:Mo×Bool×Int):Prop:=∃k,k<m.aM.length/\∀(C:bV)(l:ae aZ),x.ch[k]?=Z C.c->m.aM[k]?=Z l->C.vs=l.reverse->Fl Sv (K7 u.nx) (K6 u.nx) (uL x u C S) (Qs x u k C m T)
section
variable {x:aR}{u:dT}{N:bU Mk}{O:Nat}{m:Mo}{S:ae En}(V:m.Ok)(W:m.fE=Y)(Q:SR m x N O)(P:x.ch.length=m.aM.length)
include V W Q P
omit P in
theorem aek{i:Nat}(hi:i<m.sites.length)(ha:m.at_=i+1)(HA:u.low=m.w){F:cH}{args:af ag}{LY:ae En}(hx:x.si.length<1000000)(hF:∀v,x.si[i]?=Z v->Fl Sv F args (LY++[x.en,x.uE u,x.sE]) (Cn x u i v)){k:Nat}{l:ae aZ}{C:bV}(hl:m.aM[k]?=Z l)(hv:C.vs=l.reverse):Fl Sv F args (uL x u C LY) (Qs x u k C m m.da):=by
 obtain⟨v,Te⟩:∃v,m.sites[i]?=Z v:=⟨_,eI hi⟩;have hxv:x.si[i]?=Z (pv v):=by rw[Q.si,fW,Te];rfl
 have j8:y8 (pv v) u.low=if 0<=v/\v<m.w then v else m.w:=by rw[HA];exact apw v m.w (V.si v (jZ Te))
 have bY:x.si.length=m.sites.length:=by rw[Q.si,jM]
 rw[ayF W ha Te];refine Fl.sub [x.cE,C.hd,C.rw] (hF _ hxv) (by unfold uL;exact cx) ?_;intro r L1 hR;refine Vf hR ?_ ?_
 ·rintro hn z rfl rfl
  rw[j8];refine⟨_,⟨u.go (if 0<=v/\v<m.w then v else m.w) (.func (.func 129) #[] #[pt z]),C,_,rfl,⟨⟨rfl,rfl,rfl⟩,rfl,MW hl hv,.HQ z ?_ rfl rfl⟩,rfl⟩,?_⟩
  ·show i+2=m.sites.length+1
   omega
  ·show rT _ (x.en::x.uE (u.go (if 0<=v/\v<m.w then v else m.w) (.func (.func 129) #[] #[pt z]))::([x.sE,x.cE,C.hd,C.rw]++[.ob z (.cells #[pt u.w] 99)]))
   exact cx
 ·rintro hn z z' rfl rfl
  rw[j8];refine⟨_,⟨u.go (if 0<=v/\v<m.w then v else m.w) (.func (.func 128) #[] #[pt z,pt z']),C,_,rfl,⟨⟨rfl,rfl,rfl⟩,rfl,MW hl hv,.site z z' i rfl ?_ rfl rfl⟩,rfl⟩,?_⟩
  ·show i+1<m.sites.length
   omega
  ·show rT _ (x.en::x.uE (u.go (if 0<=v/\v<m.w then v else m.w) (.func (.func 128) #[] #[pt z,pt z']))::([x.sE,x.cE,C.hd,C.rw]++[.ob z (.cells #[pt u.w] 99),.ob z' (.cells #[ai i] 3)]))
   exact cx
omit V Q in
theorem aej{k:Nat}(hk:k<m.aM.length)(ha:m.at_=m.sites.length+1+k)(HA:u.low=m.w){F:cH}{args:af ag}{LY:ae En}{l:ae aZ}{C:bV}(hl:m.aM[k]?=Z l)(hv:C.vs=l.reverse)(hF:Fl Sv F args (LY++[x.en,x.uE u,x.cE,C.hd,C.rw]) (xz x u C k)):Fl Sv F args (uL x u C LY) (Qs x u k C m m.da):=by
 have htr:mP C.vs u.low=(mq l m.w).reverse:=by rw[hv,HA];exact ay7 l m.w
 have cP:(m.aM.modify k λl=>mq l m.w)=m.aM.set k (mP C.vs u.low).reverse:=by
  rw[Ub _ _ _ _ hl,htr,List.reverse_reverse]
 refine Fl.sub [x.sE] hF (by unfold uL;exact cx) ?_;intro r L1 hR;refine Tx hR ?_ ?_
 ·rintro hn g cap rfl rfl
  rw[ayB W ha ah];refine⟨_,⟨u.go u.low (.func (.func 56) #[pt u.w] #[]),⟨C.c,g,cap,mP C.vs u.low⟩,[],rfl,⟨⟨rfl,rfl,rfl⟩,rfl,cP,.first rfl rfl⟩,rfl⟩,?_⟩;show rT _ (x.en::x.uE (u.go u.low (.func (.func 56) #[pt u.w] #[]))::([x.sE,x.cE,bV.hd ⟨C.c,g,cap,mP C.vs u.low⟩,bV.rw ⟨C.c,g,cap,mP C.vs u.low⟩]++[]));exact cx
 ·rintro hn g cap z z' rfl rfl
  rw[ayA W ha ah];refine⟨_,⟨u.go u.low (.func (.func 153) #[] #[pt z,pt z']),⟨C.c,g,cap,mP C.vs u.low⟩,_,rfl,⟨⟨rfl,rfl,rfl⟩,rfl,cP,.key z z' k ?_ ?_ HA rfl⟩,rfl⟩,?_⟩
  ·show m.sites.length+1+k+1=m.sites.length+2+k
   omega
  ·show k+1<(m.aM.modify k λl=>mq l m.w).length
   rw[List.length_modify];omega
  ·show rT _ (x.en::x.uE (u.go u.low (.func (.func 153) #[] #[pt z,pt z']))::([x.sE,x.cE,bV.hd ⟨C.c,g,cap,mP C.vs u.low⟩,bV.rw ⟨C.c,g,cap,mP C.vs u.low⟩]++[.ob z (.cells #[pt u.w] 99),.ob z' (.cells #[ai k] 3)]))
   exact cx
theorem ayt(f:tK m u S):afx x u S m m.da:=by
 have j:=V.k;have e:=V.s;have hx:x.si.length<1000000:=by rw[Q.si,jM];omega
 have c:x.ch.length<1000000:=by omega
 have d:∀{k:Nat}{l:ae aZ}{C:bV},m.aM[k]?=Z l->C.vs=l.reverse->C.vs.length<1000000:=λ{k l C}hl hv=>by
  have:=V.Gb.2 l (jZ hl);rw[hv,IH];omega
 cases f with
 |first h hn=>
  refine⟨0,by omega,λC l b hl hv=>?_⟩;rw[hn,ayw W h];refine Fl.sub [x.sE,x.cE,C.hd,C.rw] (aje x u) (by unfold uL;exact cx) ?_;rintro _ _ ⟨rfl,z,rfl⟩;rw[Q.ck];refine⟨_,⟨u.go m.clock (.func (.func 96) #[] #[pt z]),C,_,rfl,⟨⟨rfl,rfl,rfl⟩,rfl,MW hl hv,.Is z rfl rfl rfl⟩,rfl⟩,?_⟩;show rT _ (x.en::x.uE (u.go m.clock (.func (.func 96) #[] #[pt z]))::([x.sE,x.cE,C.hd,C.rw]++[.ob z (.cells #[pt u.w] 99)]));exact cx
 |Is z h hl hn=>
  refine⟨0,by omega,λC l b a hv=>?_⟩;rw[hn];exact aek V W Q (i:=0) ah ah hl hx (λv hv=>ajd x u v z hv hx) a hv
 |site z z' i h hi hl hn=>
  refine⟨0,by omega,λC l b a hv=>?_⟩;rw[hn];exact aek V W Q (i:=i+1) ah ah hl hx (λv hv=>avq x u v i z z' hv hx) a hv
 |HQ z h hl hn=>
  refine⟨0,by omega,λC l b a hv=>?_⟩;rw[hn];exact aej W P (k:=0) ah ah hl a hv (avr x u C z b (d a hv) c)
 |key z z' k h hk hl hn=>
  refine⟨k+1,by omega,λC l b a hv=>?_⟩;rw[hn];exact aej W P (k:=k+1) ah ah hl a hv (aof x u C k z z' b (d a hv) c)
end
def Sg.swp(σ:Sg)(k:Nat)(c:dT)(a:bV)(b:ae En):Sg:={σ with cd:=σ.cd.set k a,u:=c,ux:=b,a0:=σ.a0+1+1,b0:=σ.b0+1+1,ad:=σ.ad+1+1,bd:=σ.bd+1+1}
theorem auF{u:dT}{k:eG}(a:u.wk=.chan (Z k.w))(b:u.tl=.chan (Z k.t)):u.by k=u:=by cases u;cases a;cases b;rfl
theorem tK.Br{m:Mo}{u:dT}{S:ae En}(k:eG)(h:tK m u S):tK m (u.by k) S:=by
 cases h with
 |first h hn=>exact .first h hn
 |Is z h hl hn=>exact .Is z h hl hn
 |site z z' i h hi hl hn=>exact .site z z' i h hi hl hn
 |HQ z h hl hn=>exact .HQ z h hl hn
 |key z z' k h hk hl hn=>exact .key z z' k h hk hl hn
structure afA(m m':Mo):Prop where
 ck:m'.clock=m.clock/\m'.dX=m.dX
 si:m'.sites=m.sites
 xC:m'.marks=m.marks
 cl:m'.be=m.be
 ev:m'.events=m.events
 st:m'.fE=m.fE
theorem ayv(m:Mo):afA m m.da.1:=by
 unfold Mo.da
 repeat' split
 all_goals exact⟨⟨rfl,rfl⟩,rfl,rfl,rfl,rfl,rfl⟩
section
variable {m:Mo}{σ:Sg}(V:m.Ok)(X:kM m σ)
include V X
theorem ayy(W:m.fE=false)(h:Value)(a:Gc)(b:Nat):Fl Sv 42 [pt σ.x.s].toArray (aQ 4 h::gE a b::σ.all) λv L=>∃r,v=.tuple #[.bool r,.nilIface]∧∃n,r=m.da.2.1∧kM m.da.1 n∧n.x.s=σ.x.s∧L=aQ 4 h::gE (a+1) (b+1)::n.all:=by
 have P:σ.cd.length=m.aM.length:=by have:=congrArg List.length X.vs;simpa using this
 have y:(σ.x.bf 1).ch.length=m.aM.length:=by
  show σ.x.ch.length=_;rw[X.ch,List.length_map,P]
 obtain⟨k,A,B⟩:=ayt V W (X.sr 1) y (X.ux.Br σ.k0);obtain⟨C,j⟩:∃C,σ.cd[k]?=some C:=⟨_,List.getElem?_eq_getElem ah⟩;obtain⟨l,hl⟩:∃l,m.aM[k]?=some l:=⟨_,List.getElem?_eq_getElem A⟩;have s:C.vs=l.reverse:=by
  have p:(σ.cd.map (·.vs))[k]?=some C.vs:=by rw[List.getElem?_map,j];rfl
  rw[X.vs,List.getElem?_map,hl]at p;exact(Option.some.inj p).symm
 have w:=B C l (by rw[show(σ.x.bf 1).ch=σ.x.ch from rfl,X.ch,List.getElem?_map,j];rfl) hl s;have D:=ayC σ.x σ.u σ.k0 h σ.n a b σ.a0 σ.b0 σ.ad σ.bd ([σ.x.sE,σ.x.cE,C.hd,C.rw]++σ.ux)
  (λr o=>∃d c f,r=(if m.da.2.1 then 1 else 0)∧WS (σ.u.by σ.k0) k C m m.da.1 d c f∧o=σ.x.uE d::([σ.x.sE,σ.x.cE,c.hd,c.rw]++f)) X.sw (λz=>by
    refine Fl.post (ayX (X.ux.Br σ.k0) z (σ.x.bf 1) X.sw w) ?_;rintro v _ ⟨L1,⟨d,c,f,rfl,hF,rfl⟩,rfl⟩;exact⟨_,⟨_,_,⟨rfl,d,c,f,rfl,hF,rfl⟩,rfl⟩,.refl _⟩)
 refine Fl.sub ([σ.x.eE,σ.x.lE,σ.x.mE σ.ms σ.km]++((σ.cd.eraseIdx k).flatMap bV.es++σ.cls.flatMap (PC.es σ.x))) D ?_ ?_
 ·refine((σ.abU j).cons _|>.cons _).trans ?_
  unfold Sg.top bV.es;rw[show σ.st=false from X.st.trans W];exact cx
 ·rintro v _ ⟨r,o,rfl,⟨d,c,f,rfl,hF,rfl⟩,rfl⟩
  have e:=ayv m;have E:=m.da.1.aM.length;have q:m.da.1.aM.length=m.aM.length:=by rw[hF.ch,List.length_set]
  refine⟨_,⟨_,rfl,σ.swp k d c f,?_,⟨X.ck.trans e.ck.1.symm,X.li.trans e.ck.2.symm,by rw[e.si];exact X.si,?_,?_,by rw[e.xC];exact X.mm,X.mo,by rw[e.ev];exact X.ev,X.cl,by rw[e.cl];exact X.cn,by rw[e.cl];exact X.cr,?_,hF.ux,by rw[e.cl];exact X.n,by rw[e.st];exact X.st⟩,rfl,rfl⟩,?_⟩
  ·cases m.da.2.1<;>rfl
  ·show σ.x.ch=(σ.cd.set k c).map (·.c)
   rw[List.map_set,hF.cc,X.ch];exact(Pv (by rw[List.getElem?_map,j];rfl)).symm
  ·show(σ.cd.set k c).map (·.vs)=m.da.1.aM.map List.reverse
   rw[hF.ch,List.map_set,List.map_set,X.vs,List.reverse_reverse]
  ·show σ.x.sw=d.w
   rw[hF.uk.1];exact X.sw
  ·have G:=(σ.swp k d c f).abU (k:=k) (C:=c) (by show(σ.cd.set k c)[k]?=_;rw[List.getElem?_set_self ah])
   refine List.Perm.trans ?_ ((G.symm.cons _).cons _);have t:d.by σ.k0=d:=auF hF.uk.2.1 hF.uk.2.2;show List.Perm _ (aQ 4 h::gE (a+1) (b+1)::([(σ.x.bf 0).en,σ.x.uE (d.by σ.k0),σ.k0.wE (σ.a0+1+1) (σ.b0+1+1),dE σ.k0.d σ.x.s σ.n σ.st (σ.ad+1+1) (σ.bd+1+1),σ.x.eE,σ.x.sE,σ.x.cE,σ.x.lE,σ.x.mE σ.ms σ.km]++([c.hd,c.rw]++(f++(((σ.cd.set k c).eraseIdx k).flatMap bV.es++σ.cls.flatMap (PC.es σ.x))))));rw[t,List.eraseIdx_set_eq,show σ.st=false from X.st.trans W];exact cx
end
theorem aqG(p:Stp):OK p=xI p:=by
 unfold OK xI;rw[Bool.eq_iff_iff];simp
theorem atZ(K:Nat)(o:Bool)(p:Stp):oN K o p=Cr K o p:=by
 rw[Bool.eq_iff_iff];unfold oN qO Cr;have d:((p.val.size:Nat):Int)<=16↔p.val.size<=16:=by omega
 by_cases b:p.kind=2\/p.kind=3\/p.kind=4
 ·have a:¬p.kind<1/\¬p.kind>6:=by omega
  simp only[b,if_true,abE,a.1,a.2];simp;intro _;rw[d];simp only[and_assoc]
 ·by_cases c:p.kind=1\/p.kind=5\/p.kind=6
  ·have a:¬p.kind<1/\¬p.kind>6/\p.kind≠3:=by omega
   have e:(0<=p.key/\p.key<1)↔p.key=0:=by omega
   simp only[b,c,if_true,if_false,abE,a.1,a.2.1];simp[a.2.2];intro _;rw[d,<-e];simp only[and_assoc]
  ·have a:p.kind<1\/p.kind>6:=by omega
   simp only[b,c,if_false];rcases a with h|h<;>simp[h]
theorem acK(K:Nat):∀(o:Bool)(l:ae Stp),sZ K o l=vX K o l
 |_,[]=>rfl
 |o,p::l=>by
  simp only[sZ,vX,atZ,aqG,acK K _ l]
def Sg.pX(σ:Sg):Sg:={σ with a0:=σ.a0+1,b0:=σ.b0+1,ad:=σ.ad+1,bd:=σ.bd+1}
theorem kM.pX{m:Mo}{σ:Sg}(h:kM m σ):kM m σ.pX:=⟨h.ck,h.li,h.si,h.ch,h.vs,h.mm,h.mo,h.ev,h.cl,h.cn,h.cr,h.sw,h.ux,h.n,h.st⟩
def Sg.je(σ:Sg):ae En:=σ.ux++(σ.cd.flatMap bV.es++σ.cls.flatMap (PC.es σ.x))
section
variable {S:Hp}{W:ae Nat}{A:Nat->aU}(V:rj S W A){m:Mo}{σ:Sg}(T:m.Ok)(X:kM m σ)
include V T X
theorem Ig(n:Int)(a:Gc)(b:Nat):Fl Sv 24 [pt σ.x.s,goInt n].toArray (bQ S W A++(gE a b::σ.all)) λv L=>∃d l p,v=.tuple #[goInt (m.pick n).2.1,goInt (m.pick n).2.2]∧kM (m.pick n).1 d∧d.x.s=σ.x.s∧l.v=a.v∧L=bQ S W A++(gE l p::d.all):=by
 cases aF:m.fE with
 |true=>
  have f:m.pick n=(m,0,5):=by simp[Mo.pick,aF]
  rw[f];have g:=arV σ.x σ.u σ.k0 n 272 (.pointer (some (A 4))) σ.n σ.a0 σ.b0 σ.ad σ.bd X.sw;refine Fl.post (ab8 V (j:=4) aT (L1:=gE a b::σ.pX.all) (Fl.sub ([.ro S W,aQ 0 (aY (A 0)),aQ 1 (aY (A 1)),aQ 2 (aY (A 2)),aQ 3 (aY (A 3)),.ob 5 (.cells #[iw 78] 202),gE a b,σ.x.eE,σ.x.sE,σ.x.cE,σ.x.lE,σ.x.mE σ.ms σ.km]++σ.je) g ?_ ?_)) ?_
  ·unfold bQ Sg.all Sg.top Sg.je
   rw[show σ.st=true from X.st.trans aF];exact cx
  ·rintro v _ ⟨q,rfl,rfl⟩
   refine⟨_,⟨q,rfl,rfl⟩,?_⟩;unfold bQ Sg.all Sg.top Sg.je;show List.Perm _ ((([.ro S W,aQ 0 (aY (A 0)),aQ 1 (aY (A 1)),aQ 2 (aY (A 2)),aQ 3 (aY (A 3)),aQ 4 (aY (A 4)),.ob 5 (.cells #[iw 78] 202)]++[iM q ⟨#[80,105,99,107]⟩ n (aY (A 4))])++(gE a b::([(σ.x.bf 0).en,σ.x.uE (σ.u.by σ.k0),σ.k0.wE (σ.a0+1) (σ.b0+1),dE σ.k0.d σ.x.s σ.n σ.st (σ.ad+1) (σ.bd+1),σ.x.eE,σ.x.sE,σ.x.cE,σ.x.lE,σ.x.mE σ.ms σ.km]++(σ.ux++(σ.cd.flatMap bV.es++σ.cls.flatMap (PC.es σ.x)))))));rw[show σ.st=true from X.st.trans aF];exact cx
  ·rintro v L ⟨rfl,rfl⟩
   exact⟨_,⟨σ.pX,a,b,rfl,X.pX,rfl,rfl,rfl⟩,.refl _⟩
 |false=>
  by_cases e:n<0∨(m.be.length:Int)≤n
  ·have f:m.pick n=(m,0,4):=by
    unfold Mo.pick;rw[aF];rcases e with e|e
    ·simp[e]
    ·have:m.be[n.toNat]?=none:=List.getElem?_eq_none ah
     simp[this]
   rw[f];have g:=arO σ.x σ.u σ.k0 n 272 (aY (A 4)) (.pointer (some (A 3))) σ.n σ.a0 σ.b0 σ.ad σ.bd X.sw (by rw[X.cl,List.length_map,X.cn];exact e);refine Fl.post (ab8 V (j:=3) aT (L1:=gE a b::σ.pX.all) (Fl.sub ([.ro S W,aQ 0 (aY (A 0)),aQ 1 (aY (A 1)),aQ 2 (aY (A 2)),.ob 5 (.cells #[iw 78] 202),gE a b,σ.x.eE,σ.x.sE,σ.x.cE,σ.x.lE,σ.x.mE σ.ms σ.km]++σ.je) g ?_ ?_)) ?_
   ·unfold bQ Sg.all Sg.top Sg.je
    rw[show σ.st=false from X.st.trans aF];exact cx
   ·rintro v _ ⟨q,rfl,rfl⟩
    refine⟨_,⟨q,rfl,rfl⟩,?_⟩;unfold bQ Sg.all Sg.top Sg.je;show List.Perm _ ((([.ro S W,aQ 0 (aY (A 0)),aQ 1 (aY (A 1)),aQ 2 (aY (A 2)),aQ 3 (aY (A 3)),aQ 4 (aY (A 4)),.ob 5 (.cells #[iw 78] 202)]++[iM q ⟨#[80,105,99,107]⟩ n (aY (A 3))])++(gE a b::([(σ.x.bf 0).en,σ.x.uE (σ.u.by σ.k0),σ.k0.wE (σ.a0+1) (σ.b0+1),dE σ.k0.d σ.x.s σ.n σ.st (σ.ad+1) (σ.bd+1),σ.x.eE,σ.x.sE,σ.x.cE,σ.x.lE,σ.x.mE σ.ms σ.km]++(σ.ux++(σ.cd.flatMap bV.es++σ.cls.flatMap (PC.es σ.x)))))));rw[show σ.st=false from X.st.trans aF];exact cx
   ·rintro v L ⟨rfl,rfl⟩
    exact⟨_,⟨σ.pX,a,b,rfl,X.pX,rfl,rfl,rfl⟩,.refl _⟩
  ·obtain⟨i,rfl⟩:∃i:Nat,n=i:=⟨n.toNat,by omega⟩
   obtain⟨c,o⟩:∃c,m.be[i]?=some c:=⟨_,List.getElem?_eq_getElem ah⟩;have f:m.pick i=(m.with (m.bX c).1 i (m.bX c).2.1,(m.bX c).2.2,0):=by
    unfold Mo.pick;rw[aF];have:¬(i:Int)<0:=by omega
    simp[this,o,Mo.with]
   rw[f];refine Fl.post (ar6 (R:=λr L=>∃d,r=(m.bX c).2.2∧kM (m.with (m.bX c).1 i (m.bX c).2.1) d∧d.x.s=σ.x.s∧L=bQ S W A++(gE (a+1) (b+1)::d.all)) (Fl.sub [.ro S W,aQ 0 (aY (A 0)),aQ 1 (aY (A 1)),aQ 2 (aY (A 2)),aQ 3 (aY (A 3)),.ob 5 (.cells #[iw 78] 202)] (arP T X aF o (aY (A 4)) a b) ?_ ?_)) ?_
   ·unfold bQ
    exact cx
   ·rintro v _ ⟨r,rfl,d,rfl,h,k,rfl⟩
    refine⟨_,⟨_,rfl,d,rfl,h,k,rfl⟩,?_⟩;unfold bQ;exact cx
   ·rintro v _ ⟨r,rfl,d,rfl,h,k,rfl⟩
    exact⟨_,⟨d,a+1,b+1,rfl,h,k,rfl,rfl⟩,.refl _⟩
theorem UK(a:Gc)(b:Nat):Fl Sv 25 [pt σ.x.s].toArray (bQ S W A++(gE a b::σ.all)) λv L=>∃c f g,v=.tuple #[.bool m.da.2.1,goInt m.da.2.2]∧kM m.da.1 c∧c.x.s=σ.x.s∧f.v=a.v∧L=bQ S W A++(gE f g::c.all):=by
 cases aF:m.fE with
 |true=>
  have i:m.da=(m,false,5):=by simp[Mo.da,aF]
  rw[i];have h:=ayG σ.x σ.u σ.k0 272 (.pointer (some (A 4))) σ.n σ.a0 σ.b0 σ.ad σ.bd X.sw;refine Fl.post (asa V (j:=4) aT (L1:=gE a b::σ.pX.all) (Fl.sub ([.ro S W,aQ 0 (aY (A 0)),aQ 1 (aY (A 1)),aQ 2 (aY (A 2)),aQ 3 (aY (A 3)),.ob 5 (.cells #[iw 78] 202),gE a b,σ.x.eE,σ.x.sE,σ.x.cE,σ.x.lE,σ.x.mE σ.ms σ.km]++σ.je) h ?_ ?_)) ?_
  ·unfold bQ Sg.all Sg.top Sg.je
   rw[show σ.st=true from X.st.trans aF];exact cx
  ·rintro v _ ⟨q,rfl,rfl⟩
   refine⟨_,⟨q,rfl,rfl⟩,?_⟩;unfold bQ Sg.all Sg.top Sg.je;show List.Perm _ ((([.ro S W,aQ 0 (aY (A 0)),aQ 1 (aY (A 1)),aQ 2 (aY (A 2)),aQ 3 (aY (A 3)),aQ 4 (aY (A 4)),.ob 5 (.cells #[iw 78] 202)]++[iM q ⟨#[83,119,101,101,112]⟩ 0 (aY (A 4))])++(gE a b::([(σ.x.bf 0).en,σ.x.uE (σ.u.by σ.k0),σ.k0.wE (σ.a0+1) (σ.b0+1),dE σ.k0.d σ.x.s σ.n σ.st (σ.ad+1) (σ.bd+1),σ.x.eE,σ.x.sE,σ.x.cE,σ.x.lE,σ.x.mE σ.ms σ.km]++(σ.ux++(σ.cd.flatMap bV.es++σ.cls.flatMap (PC.es σ.x)))))));rw[show σ.st=true from X.st.trans aF];exact cx
  ·rintro v L ⟨rfl,rfl⟩
   exact⟨_,⟨σ.pX,a,b,rfl,X.pX,rfl,rfl,rfl⟩,.refl _⟩
 |false=>
  have d:m.da.2.2=0:=by
   unfold Mo.da;rw[aF]
   repeat' split
   all_goals first|rfl|contradiction
  rw[d];refine Fl.post (asb (R:=λr L=>∃c,r=m.da.2.1∧kM m.da.1 c∧c.x.s=σ.x.s∧L=bQ S W A++(gE (a+1) (b+1)::c.all)) (Fl.sub [.ro S W,aQ 0 (aY (A 0)),aQ 1 (aY (A 1)),aQ 2 (aY (A 2)),aQ 3 (aY (A 3)),.ob 5 (.cells #[iw 78] 202)] (ayy T X aF (aY (A 4)) a b) ?_ ?_)) ?_
  ·unfold bQ
   exact cx
  ·rintro v _ ⟨r,rfl,c,rfl,e,d,rfl⟩
   refine⟨_,⟨_,rfl,c,rfl,e,d,rfl⟩,?_⟩;unfold bQ;exact cx
  ·rintro v _ ⟨r,rfl,c,rfl,e,d,rfl⟩
   exact⟨_,⟨c,a+1,b+1,rfl,e,d,rfl,rfl⟩,.refl _⟩
end
def I5(N:ae En):Prop:=∀e∈N,∃t s,e=.row t s I 0 0 []
theorem Kn.OE{H}{L}:∀{N},I5 N->Kn L H->Kn (N++L) H
 |[],_,h=>h
 |e::N,a,h=>by
  have b:=Kn.OE (λe d=>a e (eK _ d)) h;obtain⟨t,s,rfl⟩:=a e (eX ..);refine⟨λx hx=>?_,mQ.2 ⟨λx hx y f=>(by cases f),b.nd⟩⟩;rcases bM.1 hx with rfl|hx
  ·exact⟨by simp,.inl ⟨rfl,rfl⟩⟩
  ·exact b.sat x hx
theorem Fl.OE{P}{f}{a}{L}{R g}(h:Fl P f a L R)(hi:∀v d,R v d->∃N b,I5 N/\g v b/\(N++d).Perm b):Fl P f a L g:=λy H j w e=>
 Fn.mono (h _ H j w e) λv z⟨l,n,d,q3,o⟩=>by
  obtain⟨N,b,r,t,u⟩:=hi v _ q3;exact⟨l,n,b,t,((Kn.OE r o).perm (by simp)).perm (u.append_right _)⟩
theorem ae7{P}{f}{a}{L}{R j}(h:Fl P f a L R)(hi:∀v d,R v d->∃G b,j v b/\d.Perm (G++b)):Fl P f a L j:=λz H l w e=>
 Fn.mono (h _ H l w e) λv B⟨o,r,d,q3,t⟩=>by
  obtain⟨G,b,u,y⟩:=hi v _ q3;have g:=t.perm (y.append_right _);rw[iL]at g;exact⟨o,r,b,u,λe n=>g.sat e (IK _ n),(CH.1 g.nd).2.1⟩
theorem I5.cons{t s:Nat}{N}(h:I5 N):I5 (.row t s I 0 0 []::N):=λe a=>(bM.1 a).elim (λh=>⟨t,s,h⟩) (h e)
def GZ(c:Nat):bV:=⟨c,I,0,[]⟩
theorem Xs:∀a:ae Nat,bl.of ((a.map GZ).flatMap bV.es)=(bl.of (a.map nB)).add (bl.of (a.map λ_=>(.row 216 3 I 0 0 [])))
 |[]=>rfl
 |c::a=>by
  have b:=Xs a;show bl.of ([nB c,.row 216 3 I 0 0 []]++(a.map GZ).flatMap bV.es)=(bl.of (nB c::a.map nB)).add (bl.of (.row 216 3 I 0 0 []::a.map λ_=>(.row 216 3 I 0 0 [])));simp only[nN,pB,b]
  ac_rfl
section
variable {S:Hp}{ex:ae Nat}{A:Nat->aU}
theorem UJ(g z y)(a)(b c d):Fl Sv 21 [ai g,ai z,ai y].toArray (bQ S ex A++[gE a b,hE (.chan I) c d]) λv L=>match Mo.new g z y with
  |none=>v=.tuple #[.pointer I,ai 1]/\L=bQ S ex A++[gE a b,hE (.chan I) c d]
  |some m=>∃σ E H J K,v=.tuple #[pt σ.x.s,ai 0]/\kM m σ/\E.v=.iface 3 a.v/\L=bQ S ex A++(gE E H::hE (.chan I) J K::σ.all):=by
 unfold Mo.new;by_cases h:g<1\/g>8\/z<1\/z>20\/y<0\/y>1000000
 ·rw[if_pos h]
  refine Fl.sub ([.ro S ex,aQ 1 (aY (A 1)),aQ 2 (aY (A 2)),aQ 3 (aY (A 3)),aQ 4 (aY (A 4)),.ob 5 (.cells #[iw 78] 202),gE a b,hE (.chan I) c d]) (ar4 _ h) (by unfold bQ;exact cx) ?_;rintro v _ ⟨rfl,rfl⟩;exact⟨_,⟨F,F⟩,by unfold bQ;exact cx⟩
 ·rw[if_neg h]
  obtain⟨B,rfl⟩:∃n:Nat,g=n:=⟨g.toNat,by omega⟩;obtain⟨C,rfl⟩:∃n:Nat,z=n:=⟨z.toNat,by omega⟩;have M:=Un B C y a b c d ah;have N:=ar5 (R:=λs L=>∃w l o f r u k,f.length=C/\L=[gE (Gc.up a+2) (b+2),hE (.chan I) (c+2) (d+2),(x0 s w B l o f r y u).sE,(x0 s w B l o f r y u).mE [] 0,dE k.d s 1 Y 2 1,(x0 s w B l o f r y u).en,(x0 s w B l o f r y u).cE,k.wE 1 0,(x0 s w B l o f r y u).uE ((u0 u).by k)]++f.reverse.map nB) (M.post λv L⟨s,w,l,o,f,r,u,k,h1,h2,D⟩=>⟨L,⟨s,h1,w,l,o,f,r,u,k,h2,D⟩,.refl _⟩);have G:=Fl.sub (R':=λv L=>∃s w l o f r u k,v=.tuple #[pt s,ai 0]/\f.length=C/\L=bQ S ex A++([gE (Gc.up a+2) (b+2),hE (.chan I) (c+2) (d+2),(x0 s w B l o f r y u).sE,(x0 s w B l o f r y u).mE [] 0,dE k.d s 1 Y 2 1,(x0 s w B l o f r y u).en,(x0 s w B l o f r y u).cE,k.wE 1 0,(x0 s w B l o f r y u).uE ((u0 u).by k)]++f.map nB)) _ N lD (λv L⟨s,h1,w,l,o,f,r,u,k,h2,D⟩=>by
   subst D;exact⟨_,⟨s,w,l,o,f,r,u,k,h1,h2,F⟩,List.perm_append_comm.trans (((List.reverse_perm _).map _).append_left _|>.append_left _)⟩)
  refine Fl.OE G ?_;rintro v _ ⟨s,w,l,o,f,r,u,k,rfl,hk,rfl⟩;refine⟨.row 34 5 I 0 0 []::.row 149 1 I 0 0 []::f.map λ_=>(.row 216 3 I 0 0 []),_,.cons (.cons λe P=>?_),⟨⟨x0 s w B l o f r y u,[],0,f.map GZ,[],u0 u,k,1,0,[],1,2,1,Y⟩,Gc.up a+2,b+2,c+2,d+2,F,⟨F,F,?_,?_,?_,λj t O=>?_,⟨by simp,by simp,λx hx=>by simp at hx⟩,F,F,F,λi c p h=>by simp[Mo.init]at h,F,.first F F,F,F⟩,F,F⟩,?_⟩
  ·grind
  ·show kq B _=(kq B (-1)).map pv
   rw[List.map_replicate];rfl
  ·show f=(f.map GZ).map (·.c)
   rw[List.map_map];exact(List.map_id _).symm
  ·show(f.map GZ).map (·.vs)=(kq C []).map List.reverse
   rw[List.map_map,List.map_replicate,<-hk];exact List.map_const' ..
  ·have h1:(kq C fV.no)[j]?=Z t:=O
   rw[Mb]at h1;split at h1
   ·cases h1;rfl
   ·cases h1
  ·
   show rT _ (bQ S ex A++(gE (Gc.up a+2) (b+2)::hE (.chan I) (c+2) (d+2)::([(x0 s w B l o f r y u).en,(x0 s w B l o f r y u).uE ((u0 u).by k),k.wE 1 0,dE k.d s 1 Y 2 1,.row 34 5 I 0 0 [],(x0 s w B l o f r y u).sE,(x0 s w B l o f r y u).cE,.row 149 1 I 0 0 [],(x0 s w B l o f r y u).mE [] 0]++([]++((f.map GZ).flatMap bV.es++[])))))
   (apply bl.exact;simp only[nN,pB,qk,tA,Xs];try ac_rfl)
end
section
variable {m:Mo}{σ:Sg}(W:m.Ok)(X:kM m σ)
include W X
theorem O4(a)(b)(n:m.fE=Y->∃w,a.v=.iface 3 w):Fl Sv 30 [pt σ.x.s].toArray (gE a b::σ.all) λv L=>∃e d l,v=.tuple #[]/\kM {m with fE:=U} e/\e.x.s=σ.x.s/\(if m.fE then d.v=a.v else a.v=.iface 3 d.v)/\L=gE d l::e.all:=by
 cases aF:m.fE with
 |true=>
  have j:{m with fE:=U}=m:=by cases m;cases aF;rfl
  rw[j];refine Fl.sub ([σ.x.eE,σ.x.sE,σ.x.cE,σ.x.lE,σ.x.mE σ.ms σ.km]++σ.je) (ayn _ _ σ.k0 σ.n a b σ.a0 σ.b0 σ.ad σ.bd X.sw) ?_ ?_
  ·unfold Sg.all Sg.top Sg.je
   rw[show σ.st=U from X.st.trans aF];exact cx
  ·rintro v _ ⟨rfl,rfl⟩
   refine⟨_,⟨σ.pX,a+1,b+1,F,X.pX,F,by rfl,F⟩,?_⟩;unfold Sg.all Sg.top Sg.je;show rT _ (gE (a+1) (b+1)::([(σ.x.bf 0).en,σ.x.uE (σ.u.by σ.k0),σ.k0.wE (σ.a0+1) (σ.b0+1),dE σ.k0.d σ.x.s σ.n σ.st (σ.ad+1) (σ.bd+1),σ.x.eE,σ.x.sE,σ.x.cE,σ.x.lE,σ.x.mE σ.ms σ.km]++(σ.ux++(σ.cd.flatMap bV.es++σ.cls.flatMap (PC.es σ.x)))));rw[show σ.st=U from X.st.trans aF];exact cx
 |false=>
  obtain⟨w,f⟩:=n aF;have g:gE a b=gE (Gc.up ⟨w,a.n⟩) b:=by unfold gE Gc.up;rw[f]
  rw[g];refine Fl.sub ([σ.x.eE,σ.x.sE,σ.x.cE,σ.x.lE,σ.x.mE σ.ms σ.km]++σ.je) (ayp _ _ σ.k0 σ.n ⟨w,a.n⟩ b σ.a0 σ.b0 σ.ad σ.bd X.sw) ?_ ?_
  ·unfold Sg.all Sg.top Sg.je
   rw[show σ.st=Y from X.st.trans aF];exact cx
  ·rintro v _ ⟨rfl,rfl⟩
   refine⟨_,⟨{σ.pX with st:=U},(⟨w,a.n⟩:Gc)+2,b+2,F,⟨X.ck,X.li,X.si,X.ch,X.vs,X.mm,X.mo,X.ev,X.cl,X.cn,X.cr,X.sw,X.ux.keep F F F F,X.n,F⟩,F,by exact f,F⟩,?_⟩;unfold Sg.all Sg.top Sg.je;show rT _ (gE ((⟨w,a.n⟩:Gc)+2) (b+2)::([(σ.x.bf 0).en,σ.x.uE (σ.u.by σ.k0),σ.k0.wE (σ.a0+1) (σ.b0+1),dE σ.k0.d σ.x.s σ.n U (σ.ad+1) (σ.bd+1),σ.x.eE,σ.x.sE,σ.x.cE,σ.x.lE,σ.x.mE σ.ms σ.km]++(σ.ux++(σ.cd.flatMap bV.es++σ.cls.flatMap (PC.es σ.x)))));exact cx
end
def Sg.more(σ:Sg)(q:Nat)(gl:aj Nat)(cl:Nat)(pr:ae Stp)(pg:aj Nat)(pc wb:Nat)(k:eG):Sg:={σ with x:=σ.x.more q gl cl,cls:=σ.cls++[⟨kY σ.x pr q pg pc wb,k,1,0,[],0,[]⟩],a0:=σ.a0+2,b0:=σ.b0+2,n:=σ.n+1,ad:=σ.ad+2,bd:=σ.bd+2}
section
variable {S:Hp}{ex:ae Nat}{A:Nat->aU}(V:rj S ex A){m:Mo}{σ:Sg}(W:m.Ok)(X:kM m σ)
include W X
omit W in
theorem kM.more(q)(gl)(cl)(pr)(pg)(pc wb)(k)(hk:k.d=σ.k0.d):kM {m with be:=m.be++[.new m.be.length pr]} (σ.more q gl cl pr pg pc wb k):=by
 have bx:σ.x.cl.length=m.be.length:=by rw[X.cl,jM,X.cn]
 refine⟨X.ck,X.li,X.si,X.ch,X.vs,X.mm,X.mo,X.ev,?_,?_,λi c p h1 h2=>?_,X.sw,X.ux.keep rfl rfl rfl rfl,?_,X.st⟩
 ·show σ.x.cl++[q]=(σ.cls++[_]).map (λc:PC=>c.y.c)
  rw[CG,X.cl];rfl
 ·show(σ.cls++[_]).length=(m.be++[_]).length
  rw[oe,oe,X.cn];rfl
 ·have nv:=h1
  have Hh:(σ.cls++[(⟨kY σ.x pr q pg pc wb,k,1,0,[],0,[]⟩)])[i]?=Z p:=h2;by_cases hi:i<m.be.length
  ·rw[LZ hi]at nv
   rw[LZ (by rw[X.cn];exact hi)]at Hh;exact X.cr i c p nv Hh
  ·have aC:=(dq.1 nv).1
   rw[oe,List.length_singleton]at aC;have gu:i=m.be.length:=by omega
   subst gu;rw[Ma (dt _),Nat.sub_self]at nv;rw[Ma (by rw[X.cn];exact dt _),X.cn,Nat.sub_self]at Hh;cases nv;cases Hh;refine⟨⟨?_,rfl,rfl,rfl,(λs h=>by cases h),λh=>?_,rm.nil,⟨by simp,by simp,λx hx=>by simp at hx⟩,.read rfl (λ_ _ _=>rfl) rfl rfl rfl⟩,hk⟩
   ·show((σ.x.cl.length))=((m.be.length):Int)
    rw[bx]
   ·simp[Cm.new]at h
 ·show σ.n+1=((m.be++[_]).length)+1
  rw[oe,X.n];simp
include V
theorem O3(pr:ae Stp)(f:aj Nat)(l:Nat)(w:pr.length<=4398046511104)(a:Gc)(b c d:Nat):Fl Sv 23 [pt σ.x.s,sv f pr.length l].toArray (bK f l pr::(bQ S ex A++(gE a b::hE (.chan I) c d::σ.all))) λv L=>∃r t B C D,v=.tuple #[ai (m.bt pr).2.1,ai (m.bt pr).2.2]/\kM (m.bt pr).1 r/\r.x.s=σ.x.s/\t.v=a.v/\L=bK f l pr::(bQ S ex A++(gE t B::hE (.chan I) C D::r.all)):=by
 have J:σ.x.cl.length=m.be.length:=by rw[X.cl,jM,X.cn]
 have z:σ.x.ch.length=m.aM.length:=by
  have:=congrArg vq X.vs;simp only[jM]at this;rw[X.ch,jM,this]
 have y:(sZ σ.x.ch.length Y pr&&decide ((pr.length:Int)<=200))=m.right pr:=by
  rw[z,acK];unfold Mo.right;congr 1;simp;omega
 have o:∀(j:Nat)(M:j<5)(bx:m.bt pr=(m,0,((j+1:Nat):Int)))(K:∀g e,(pr=[]\/(0<pr.length/\∃O,g=Z O))->Fl Sv 39 [pt σ.x.s,sv g pr.length e].toArray (bK g e pr::(bQ S ex A++(gE a b::hE (.chan I) c d::σ.all))) λv L=>∃q,v=.tuple #[ai 0,.iface 154 (pt q)]/\L=bK g e pr::((bQ S ex A++[iM q uj 0 (aY (A j))])++(gE a b::hE (.chan I) c d::σ.pX.all))),Fl Sv 23 [pt σ.x.s,sv f pr.length l].toArray (bK f l pr::(bQ S ex A++(gE a b::hE (.chan I) c d::σ.all))) λv L=>∃r t B C D,v=.tuple #[ai (m.bt pr).2.1,ai (m.bt pr).2.2]/\kM (m.bt pr).1 r/\r.x.s=σ.x.s/\t.v=a.v/\L=bK f l pr::(bQ S ex A++(gE t B::hE (.chan I) C D::r.all)):=λj M bx K=>by
  rw[bx];refine Fl.post (ab1 (g0:=f) (kP:=l) (Q:=λid u n=>∃q,id=0/\u=.iface 154 (pt q)/\n=(bQ S ex A++[iM q uj 0 (aY (A j))])++(gE a b::hE (.chan I) c d::σ.pX.all)) (R:=λid k L=>id=0/\k=((j+1:Nat):Int)/\L=bQ S ex A++(gE a b::hE (.chan I) c d::σ.pX.all)) w (λg e H=>(K g _ H).post ?_) ?_) ?_
  ·rintro v _ ⟨q,rfl,rfl⟩
   exact⟨_,⟨0,_,_,F,⟨q,F,F,F⟩,F⟩,.refl _⟩
  ·rintro id u n ⟨q,rfl,rfl,rfl⟩
   refine ae7 (Fl.frame _ (Ut S _ A V q j M _ 0)|>.perm lD) ?_;rintro v _ ⟨_,⟨rfl,rfl⟩,rfl⟩;refine⟨[iM q uj 0 (aY (A j))],_,⟨_,F,F,F,F⟩,?_⟩;exact cx
  ·rintro v _ ⟨id,k,n,rfl,⟨rfl,rfl,rfl⟩,rfl⟩
   exact⟨_,⟨σ.pX,a,b,c,d,F,X.pX,F,F,F⟩,.refl _⟩
 cases aF:m.fE with
 |true=>
  refine o 4 aT (by simp[Mo.bt,aF]) λg e _=>?_;refine Fl.sub ([.ro S ex,aQ 0 (aY (A 0)),aQ 1 (aY (A 1)),aQ 2 (aY (A 2)),aQ 3 (aY (A 3)),.ob 5 (.cells #[iw 78] 202),bK g e pr,gE a b,hE (.chan I) c d,σ.x.eE,σ.x.sE,σ.x.cE,σ.x.lE,σ.x.mE σ.ms σ.km]++σ.je) (ahc _ _ σ.k0 g _ _ 272 (.pointer (Z (A 4))) σ.n σ.a0 σ.b0 σ.ad σ.bd X.sw) ?_ ?_
  ·unfold bQ Sg.all Sg.top Sg.je
   rw[show σ.st=U from X.st.trans aF];exact cx
  ·rintro v _ ⟨q,rfl,rfl⟩
   refine⟨_,⟨q,F,F⟩,?_⟩;unfold bQ Sg.all Sg.top Sg.je;show rT _ (bK g e pr::(([.ro S ex,aQ 0 (aY (A 0)),aQ 1 (aY (A 1)),aQ 2 (aY (A 2)),aQ 3 (aY (A 3)),aQ 4 (aY (A 4)),.ob 5 (.cells #[iw 78] 202)]++[iM q uj 0 (aY (A 4))])++(gE a b::hE (.chan I) c d::([(σ.x.bf 0).en,σ.x.uE (σ.u.by σ.k0),σ.k0.wE (σ.a0+1) (σ.b0+1),dE σ.k0.d σ.x.s σ.n σ.st (σ.ad+1) (σ.bd+1),σ.x.eE,σ.x.sE,σ.x.cE,σ.x.lE,σ.x.mE σ.ms σ.km]++(σ.ux++(σ.cd.flatMap bV.es++σ.cls.flatMap (PC.es σ.x)))))));rw[show σ.st=U from X.st.trans aF];exact cx
 |false=>
  cases hr:m.right pr with
  |false=>
   refine o 1 aT (by simp[Mo.bt,aF,hr]) λg e _=>?_;refine Fl.sub ([.ro S ex,aQ 0 (aY (A 0)),aQ 3 (aY (A 3)),.ob 5 (.cells #[iw 78] 202),σ.x.eE,σ.x.sE,σ.x.cE,σ.x.mE σ.ms σ.km]++σ.je) (ag8 _ _ σ.k0 g _ _ (aY (A 2)) (aY (A 4)) σ.n a b c d σ.a0 σ.b0 σ.ad σ.bd 272 (.pointer (Z (A 1))) w (y.trans hr) X.sw) ?_ ?_
   ·unfold bQ Sg.all Sg.top Sg.je EG
    rw[show σ.st=Y from X.st.trans aF];exact cx
   ·rintro v _ ⟨q,rfl,rfl⟩
    refine⟨_,⟨q,F,F⟩,?_⟩;unfold bQ Sg.all Sg.top Sg.je;show rT _ (bK g e pr::(([.ro S ex,aQ 0 (aY (A 0)),aQ 1 (aY (A 1)),aQ 2 (aY (A 2)),aQ 3 (aY (A 3)),aQ 4 (aY (A 4)),.ob 5 (.cells #[iw 78] 202)]++[iM q uj 0 (aY (A 1))])++(gE a b::hE (.chan I) c d::([(σ.x.bf 0).en,σ.x.uE (σ.u.by σ.k0),σ.k0.wE (σ.a0+1) (σ.b0+1),dE σ.k0.d σ.x.s σ.n σ.st (σ.ad+1) (σ.bd+1),σ.x.eE,σ.x.sE,σ.x.cE,σ.x.lE,σ.x.mE σ.ms σ.km]++(σ.ux++(σ.cd.flatMap bV.es++σ.cls.flatMap (PC.es σ.x)))))));rw[show σ.st=Y from X.st.trans aF];exact cx
  |true=>
   by_cases E:m.be.length=8
   ·refine o 2 aT (by simp[Mo.bt,aF,hr,E]) λg e _=>?_
    refine Fl.sub ([.ro S ex,aQ 0 (aY (A 0)),aQ 3 (aY (A 3)),.ob 5 (.cells #[iw 78] 202),σ.x.eE,σ.x.sE,σ.x.cE,σ.x.mE σ.ms σ.km]++σ.je) (ag9 _ _ σ.k0 g _ _ (aY (A 1)) (aY (A 4)) σ.n a b c d σ.a0 σ.b0 σ.ad σ.bd 272 (.pointer (Z (A 2))) w (y.trans hr) (J.trans E) X.sw) ?_ ?_
    ·unfold bQ Sg.all Sg.top Sg.je EG
     rw[show σ.st=Y from X.st.trans aF];exact cx
    ·rintro v _ ⟨q,rfl,rfl⟩
     refine⟨_,⟨q,F,F⟩,?_⟩;unfold bQ Sg.all Sg.top Sg.je;show rT _ (bK g e pr::(([.ro S ex,aQ 0 (aY (A 0)),aQ 1 (aY (A 1)),aQ 2 (aY (A 2)),aQ 3 (aY (A 3)),aQ 4 (aY (A 4)),.ob 5 (.cells #[iw 78] 202)]++[iM q uj 0 (aY (A 2))])++(gE a b::hE (.chan I) c d::([(σ.x.bf 0).en,σ.x.uE (σ.u.by σ.k0),σ.k0.wE (σ.a0+1) (σ.b0+1),dE σ.k0.d σ.x.s σ.n σ.st (σ.ad+1) (σ.bd+1),σ.x.eE,σ.x.sE,σ.x.cE,σ.x.lE,σ.x.mE σ.ms σ.km]++(σ.ux++(σ.cd.flatMap bV.es++σ.cls.flatMap (PC.es σ.x)))))));rw[show σ.st=Y from X.st.trans aF];exact cx
   ·have N:=W.cl
    have G:m.bt pr=({m with be:=m.be++[Cm.new m.be.length pr]},((m.be.length:Nat):Int),0):=by simp[Mo.bt,aF,hr,E]
    rw[G];refine Fl.post (ab1 (g0:=f) (kP:=l) (Q:=λid u n=>id=m.be.length/\u=.nilIface/\∃q gl cl pg pc wb k,k.d=σ.k0.d/\n=bQ S ex A++(gE (a+1) (b+1)::hE (.chan I) (c+1) (d+1)::(σ.more q gl cl pr pg pc wb k).all)) (R:=λid k L=>id=m.be.length/\k=0/\∃q gl cl pg pc wb k,k.d=σ.k0.d/\L=bQ S ex A++(gE (a+1) (b+1)::hE (.chan I) (c+1) (d+1)::(σ.more q gl cl pr pg pc wb k).all)) w (λg e H=>?_) ?_) ?_
    ·refine Fl.sub ([.ro S ex,aQ 0 (aY (A 0)),aQ 3 (aY (A 3)),.ob 5 (.cells #[iw 78] 202),σ.x.eE,σ.x.sE,σ.x.cE,σ.x.mE σ.ms σ.km]++σ.je) (aha _ _ σ.k0 g _ _ (aY (A 1)) (aY (A 2)) (aY (A 4)) σ.n a b c d σ.a0 σ.b0 σ.ad σ.bd w (y.trans hr) ah X.sw (by have:=X.n;omega) H) ?_ ?_
     ·unfold bQ Sg.all Sg.top Sg.je EG
      rw[show σ.st=Y from X.st.trans aF];exact cx
     ·rintro v _ ⟨rfl,q,gl,cl,pg,pc,wb,k,hk,rfl⟩
      refine⟨_,⟨_,_,_,F,⟨by rw[J],F,q,gl,cl,pg,pc,wb,k,hk,F⟩,F⟩,?_⟩;unfold bQ Sg.all Sg.top Sg.je QK;show rT _ (bK g e pr::([.ro S ex,aQ 0 (aY (A 0)),aQ 1 (aY (A 1)),aQ 2 (aY (A 2)),aQ 3 (aY (A 3)),aQ 4 (aY (A 4)),.ob 5 (.cells #[iw 78] 202)]++(gE (a+1) (b+1)::hE (.chan I) (c+1) (d+1)::([((σ.x.more q gl cl).bf 0).en,σ.x.uE (σ.u.by σ.k0),σ.k0.wE (σ.a0+2) (σ.b0+2),dE σ.k0.d σ.x.s (σ.n+1) σ.st (σ.ad+2) (σ.bd+2),σ.x.eE,σ.x.sE,σ.x.cE,(σ.x.more q gl cl).lE,σ.x.mE σ.ms σ.km]++(σ.ux++(σ.cd.flatMap bV.es++(σ.cls++[(⟨kY σ.x pr q pg pc wb,k,1,0,[],0,[]⟩:PC)]).flatMap (PC.es σ.x)))))));rw[show σ.st=Y from X.st.trans aF,IE,show [(⟨kY σ.x pr q pg pc wb,k,1,0,[],0,[]⟩:PC)].flatMap (PC.es σ.x)=[σ.x.kE ((kY σ.x pr q pg pc wb).by k),k.wE 1 0,(kY σ.x pr q pg pc wb).wE [] 0,(kY σ.x pr q pg pc wb).pE]from F];exact cx
    ·rintro id u n ⟨rfl,rfl,q,gl,cl,pg,pc,wb,k,hk,rfl⟩
     refine Fl.sub _ (Us uj 0) (by rw[List.nil_append]) ?_;rintro v _ ⟨rfl,rfl⟩;exact⟨_,⟨0,F,F,F,q,gl,cl,pg,pc,wb,k,hk,F⟩,by rw[List.nil_append]⟩
    ·rintro v _ ⟨id,P,n,rfl,⟨rfl,rfl,q,gl,cl,pg,pc,wb,k,hk,rfl⟩,rfl⟩
     exact⟨_,⟨σ.more q gl cl pr pg pc wb k,a+1,b+1,c+1,d+1,F,X.more q gl cl pr pg pc wb k hk,F,F,F⟩,.refl _⟩
end

structure iY where
 kind:Int
 W:Int
 A:Int
 B:Int
 C:Int
 P:ag
 pr:ae Stp
def iY.v(o:iY):ag:=.agg #[ai o.kind,ai o.W,ai o.A,ai o.B,ai o.C,o.P]
def WK(S:Hp)(g:ae Nat)(v:ag)(d:ae Stp):Prop:=(d=[]/\∃f a,v=.slice f 0 a)\/(0<d.length/\∃b c a e i h,v=.slice (Z ⟨b,c,I⟩) d.length a/\S[b]?=Z (.cells e i h)/\U7 e c d/\b∉g/\b≠8/\b≠10)
def tG(n:Int):Prop:=-9223372036854775808<=n/\n<9223372036854775808
structure iY.Ok(S:Hp)(ex:ae Nat)(o:iY):Prop where
 k:tG o.kind
 W:tG o.W
 A:tG o.A
 B:tG o.B
 C:tG o.C
 P:WK S ex o.P o.pr
 l:o.pr.length<=4398046511104


def nR(A:Nat->aU):ae En:=[aQ 0 (aY (A 0)),aQ 1 (aY (A 1)),aQ 2 (aY (A 2)),aQ 3 (aY (A 3)),aQ 4 (aY (A 4)),.ob 5 (.cells #[iw 78] 202)]
theorem l6(S:Hp)(X:ae Nat)(A:Nat->aU):bQ S X A=.ro S X::nR A:=rfl
section
variable {S:Hp}{X:ae Nat}{A:Nat->aU}
theorem YJ{v:ag}{d:ae Stp}(h:WK S X v d)(m:d.length<=4398046511104):Fl Sv 22 [v].toArray [.ro S X] λv L=>∃g c,v=sv g d.length c/\L=[.ro S X,bK g c d]:=by
 rcases h with⟨rfl,f,a,rfl⟩|⟨r,b,e,a,p,q,i,rfl,l,j,n,k,o⟩
 ·refine Fl.sub [.ro S X] (ajC f a) (.refl _) ?_
  rintro v _ ⟨rfl,rfl⟩;exact⟨_,⟨I,0,rfl,rfl⟩,CC ..⟩
 ·refine Fl.post (Fl.MS (R:=λv L=>∃g c,v=sv g d.length c/\L=[bK g c d]) l k o n ((ajD b e p q i a d m j).post ?_)) ?_
  ·rintro v _ ⟨g,c,rfl,rfl⟩
   exact⟨_,⟨_,⟨g,c,rfl,rfl⟩,rfl⟩,.refl _⟩
  ·rintro v _ ⟨_,⟨g,c,rfl,rfl⟩,rfl⟩
   exact⟨_,⟨g,c,rfl,rfl⟩,.refl _⟩
theorem ap3(m:Mo)(l:ae Stp):(m.bt l).1.fE=m.fE:=by
 unfold Mo.bt
 repeat' split
 all_goals rfl
theorem ap9{m:Mo}(a:m.Ok)(n:Int):(m.pick n).1.fE=m.fE:=by
 unfold Mo.pick;dsimp only
 split
 ·rfl
 ·split
  ·rfl
  ·split
   ·rfl
   ·rename_i c d
    have b:=a.me _ c d;exact(LK a b.2.1 b.2.2).st
end


def FM(t:aK)(p:ag):Sem Next:=Sem.bind (uG t p) λv=>.pure (.value v)
def iY.cells(o:iY):ae ag:=[ai o.kind,ai o.W,ai o.A,ai o.B,ai o.C,o.P]
def F8(b:af ag)(a:Nat)(c:ae iY):Prop:=∀i o,c[i]?=Z o->∀j u,o.cells[j]?=Z u->b.toList[a+i*6+j]?=Z u
structure zQ(S:Hp)(ex:ae Nat)(M:ae En)(ad:aj aU)(os:ae iY):Prop where
 ld:∃b off,(0<os.length->ad=Z ⟨b,off,I⟩)/\(∀i o,os[i]?=Z o->∀L2 R0,lU Sv L2 (M++(.ro S ex::R0)) (FM 44 (.pointer (Z ⟨b,off+i*6,I⟩))) λu L'=>u=o.v/\L'=M++(.ro S ex::R0))/\
  (∀i o,os[i]?=Z o->∀L2 R0,lU Sv L2 (M++(.ro S ex::R0)) (FM 3 (.pointer (Z ⟨b,off+i*6,I⟩))) λu L'=>u=ai o.kind/\L'=M++(.ro S ex::R0))/\
  (M=[]->0<os.length->∃oo ty fz,S[b]?=Z (.cells oo ty fz)/\F8 oo off os/\b∉ex/\b≠8/\b≠10)
 ok:∀o∈os,o.Ok S ex
 len:os.length<=2199023255552
theorem auK{S:Hp}{c:List Nat}{b a:Nat}{d:Array Value}{g:TypeId}{e:Nat×Nat}{f:List iY}(k:S[b]?=some (.cells d g e))(n:b∉c)(j:b≠8)(p:b≠10)(m:F8 d a f)(t:∀o∈f,o.Ok S c)(q:f.length≤2199023255552):zQ S c [] (some ⟨b,a,none⟩) f:=⟨⟨b,a,λ_=>rfl,λi o l r s=>by
                                                                                                                                                                                                                                have h:=m i o l;refine Lm 0 S c b (.cells d g e) _ o.v [rr 0 (h 0 _ rfl),rr 0 (h 1 _ rfl),rr 0 (h 2 _ rfl),rr 0 (h 3 _ rfl),rr 0 (h 4 _ rfl),rr 0 (h 5 _ rfl)] k j p n,λi o l r s=>by
                                                                                                                                                                                                                                have h:=m i o l;refine Lm 0 S c b (.cells d g e) _ (goInt o.kind) [rr 0 (h 0 _ rfl)] k j p n,λ_ _=>⟨d,g,e,k,m,n,j,p⟩⟩,t,q⟩
theorem auJ{S:Hp}{c:ae Nat}(b:aj aU):zQ S c [] b []:=⟨⟨0,0,λh=>absurd h ba,λi o a=>by simp at a,λi o a=>by simp at a,λ_ h=>absurd h ba⟩,λo a=>by simp at a,by simp⟩
theorem zK{P:aD}{X:Cx}{a:ae aJ}{c:ae cz}{b:Env}{L:ae En}:∀(G:ae En),Rs P X a c b L->Rs P X a c b (G++L)
 |[],h=>h
 |_::G,h=>Bf (zK G h)
def KS(S:Hp)(X:ae Nat)(A:Nat->aU)(v:ag)(L:ae En):Prop:=v=.bool U/\∃(e:Gc)(f g h:Nat),e.v=ai 0/\L=.ro S X::(nR A++[gE e f,hE (.chan I) g h])
abbrev lN(S:Hp)(X:ae Nat)(A:Nat->aU)(a:Gc)(b c d:Nat):ae En:=.ro S X::(nR A++[gE a b,hE (.chan I) c d])
section
variable {S:Hp}{X:ae Nat}{A:Nat->aU}(T:rj S X A)(W:aj aU)(P:ae iY)(V:Nat)(Q:zQ S X [] W P)(a:Gc)(b c d:Nat)(R:a.v=ai 0)
include T Q R
end
end
end Go.Proofs.YtgahemdblfapeaaGreatDoor
