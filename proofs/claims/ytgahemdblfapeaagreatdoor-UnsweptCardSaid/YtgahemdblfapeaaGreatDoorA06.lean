/- Helper lemmas, part 6: what the steps of the program do in the model; each holds under its own hypotheses. -/
import Derived.Test.YtgahemdblfapeaaGreatDoorA05
set_option maxRecDepth 100000
set_option maxHeartbeats 4000000
set_option linter.all false
namespace Go.Proofs.YtgahemdblfapeaaGreatDoor
open Go.Conc
open _root_.Array renaming getElem?_setIfInBounds_ne→ie,getElem?_setIfInBounds_self_of_lt→kC,replicate→pG
open _root_.Bool renaming and_eq_true→ig,false→Y,false_eq_true→kg,not_eq_true'→Fu,true→U
open Go renaming Addr→aR,CallKind→dD,Code→bl,Deferred→bV,Frame→az,FuncId→bA,Item→aK,Oper→bh,Operand→gU,Program→aA,TypeId→aJ,Value→ag,World→au,doReturn→rh,eqGuard→kX,execOp→cu,goInt→ah,stepG→aG,undef→aC
open Go.Deferred renaming ofValue→Db
open Go.Frame renaming enter→bG,eval→bJ,finish→jd
open Go.GStep renaming after→kF
open Go.Instr renaming endLoop→uv,endRound→vE,enterLoop→pI,sliceAt→vF,sliceBound→xa
open Go.Next renaming value→lT
open Go.Region renaming noSelect→Dj,ready→nq,wanted→vH
open Go.Result renaming andThen→eh
open Go.Sem renaming bind→qo,pure→ayU,run→bx,runT_eq→jR
open Go.stepG renaming apply→ik,exec→bE
open _root_.List renaming append_assoc→gw,append_nil→xb,drop_eq_getElem_cons→Dc,eq_nil_of_length_eq_zero→De,flatMap_append→xc,getD_eq_getElem?_getD→yK,getElem?_append_left→Df,getElem?_append_right→Ab,getElem?_cons_succ→Kp,getElem?_cons_zero→tL,getElem?_drop→Fx,getElem?_eq_getElem→dq,getElem?_eq_none→Dg,getElem?_eq_some_iff→dv,getElem?_map→fq,getElem?_set_ne→kU,getElem?_set_self→sJ,getElem?_take→BJ,length_append→mL,length_cons→iH,length_eq_zero_iff→BK,length_map→iV,length_nil→ow,length_reverse→Hz,length_set→mZ,length_take→Dh,map_cons→ft,mem_append→Ad,mem_append_right→HA,mem_cons→bQ,mem_cons_of_mem→eK,mem_cons_self→fu,mem_map→ox,mem_map_of_mem→kV,mem_of_getElem?→lR,mem_singleton→yL,nodup_append→yM,nodup_cons→rb,pairwise_append→Di,pairwise_cons→nQ,perm_append_comm→kW,perm_middle→pK,replicate→kh,sum_cons→xd
open _root_.List.Perm renaming append_left→Fv,cons→BG,swap→BH
open _root_.Nat renaming eq_of_beq_eq_true→BL,le_of_ble_eq_true→yP,le_refl→df,le_trans→sK,mul_one→ayT,zero_le→je
open _root_.Option renaming bind_eq_some_iff→m4,bind_some→vG,getD_some→pM,isSome_iff_exists→Ae,map_eq_some_iff→gV,map_some→iy,none→I,some→Z,some→gH
open _root_.Option.some renaming injEq→ij
open _root_.Prod.mk renaming injEq→fK
section
variable {H:Hp}{N a b g i j k n s:Nat}{o:Obj}{α:Type}{P:aA}{L:ae En}{w:au}{f:bA}
section
open Go.Conc (G)
theorem Ol{X:Cx}{b:af bh}{k:ae aK}{d:ae En->Prop}{l:af Bool}{c:ae bV}{a:Env}{ι:Type}(E:ι->Env)(LL:ι->ae En)(h:∀i,Rs P X k c (E i) (LL i))(e:(∀i,Rs P X k c (E i) (LL i))->c6 P X b k d n l c a L):c6 P X b k d n l c a L:=e h
abbrev wM(b:Nat)(g:aj Nat)(n a:Nat):En:=.ob b (.cells #[sv g n a] 45)
def aM.more(x:aM)(c:Nat)(g:aj Nat)(a:Nat):aM:={x with qx:=g,B3:=a,cl:=x.cl++[c]}
def kP(x:aM)(d:ae Stp)(c:Nat)(b:aj Nat)(a e:Nat):cO:=⟨c,x.cl.length,b,a,d,0,.func (.func 60) #[pt c] #[],e,0,0,0,.nilFunc,.nilFunc⟩
abbrev Ay(o m l:Nat)(x:aM)(g:aj Nat)(e:Nat)(h:ae Stp)(id:Int)(p q:ag)(u:dN)(f:ed)(n:Int)(a:Gc)(b c d a0 j i k:Nat):ae En:=[gd o x.s,wM m g h.length e,iE l id,x.en,eB g e h,x.lE,aP 1 p,aP 2 q,gE a b,hE (.chan I) c d,x.uE (u.by f),f.wE a0 j,dE f.d x.s n Y i k]
theorem aeJ(k j i:Nat)(x:aM)(g:Option Nat)(e:Nat)(f:List Stp)(id:Int)(h p:Value)(u:dN)(q:ed)(n:Int)(a:Gc)(b c d a0 m l o:Nat)(r:f.length≤4398046511104)(s:(su x.ch.length false f&&decide ((f.length:Int)≤200))=false):Fl Sv 58 [pt k,pt j,pt i].toArray (Ay k j i x g e f id h p u q n a b c d a0 m l o) λv L=>v=h∧L=Ay k j i x g e f id h p u q n a b c d a0 m l o:=by
 refine Fl.of 46 λw t=>ao [0,1] (c5 [3,4] (Nw x g e f r) ?_);rintro _ _ ⟨rfl,rfl⟩;rw[s];exact ao [6] (a7 [] [h] _ ⟨rfl,rfl⟩)
theorem aeK(k j i:Nat)(x:aM)(g:Option Nat)(e:Nat)(f:List Stp)(id:Int)(p h:Value)(u:dN)(q:ed)(n:Int)(a:Gc)(b c d a0 m l o:Nat)(r:f.length≤4398046511104)(s:(su x.ch.length false f&&decide ((f.length:Int)≤200))=true)(y:x.cl.length=8):Fl Sv 58 [pt k,pt j,pt i].toArray (Ay k j i x g e f id p h u q n a b c d a0 m l o) λv L=>v=h∧L=Ay k j i x g e f id p h u q n a b c d a0 m l o:=by
 refine Fl.of 46 λw t=>ao [0,1] (c5 [3,4] (Nw x g e f r) ?_);rintro _ _ ⟨rfl,rfl⟩;rw[s];exact ao [0,3,fB x.cl.length 8,7] (a7 [] [h] _ ⟨rfl,rfl⟩)
theorem aeL (bs bp bo:Nat) (x:aM) (g:Nat) (cap:Nat) (pr:List Stp) (id:Int) (e1 e2:Value) (u:dN) (k0:ed) (n:Int) (a:Gc) (b c d a0 b0 a2 b2:Nat) (hl:pr.length≤4398046511104) (hp:0<pr.length) (hr:(su x.ch.length false pr&&decide ((pr.length:Int)≤200))=true) (h8:x.cl.length<8) (hw:x.sw=u.w) (hn:0≤n∧n<9):Fl Sv 58 [pt bs,pt bp,pt bo].toArray (Ay bs bp bo x (some g) cap pr id e1 e2 u k0 n a b c d a0 b0 a2 b2) λv L=>v=.nilIface∧∃q r o f e i k,k.d=k0.d∧L=[gd bs x.s,wM bp (some g) pr.length cap,iE bo x.cl.length,(x.more q r o).en,eB (some g) cap pr,(x.more q r o).lE,aP 1 e1,aP 2 e2,gE (a+1) (b+1),hE (.chan none) (c+1) (d+1),x.uE (u.by k0),k0.wE (a0+1) (b0+1),dE k0.d x.s (n+1) false (a2+1) (b2+1),(kP x pr q f e i).pE,(kP x pr q f e i).wE [] 0,k.wE 1 0,x.kE ((kP x pr q f e i).by k)]:=by
 have D:=hw;have B:pr.length≤200:=by
  simp only[Bool.and_eq_true,decide_eq_true_eq]at hr;omega
 refine Fl.of 46 λE C=>ao [0,1] (c5 [3,4] (Nw x (some g) cap pr hl) ?_);rintro _ _ ⟨rfl,rfl⟩;rw[hr];refine ao [0,3,bR x.cl.length 8,0,3,2] (jJ 50 3 ?_);refine Oj [0,1,2,5] 6 [2,0,1,0] ?_
 refine Ol (ι:=Option Nat×Nat×Nat×{k:ed//k.d=k0.d}×Nat) (λp=>[(0,pt bs),(1,pt bp),(2,pt bo),(4,pt p.2.2.2.2)]) (λp=>[gd bs x.s,wM bp (some g) pr.length cap,iE bo x.cl.length,x.en,eB (some g) cap pr,x.lE,aP 1 e1,aP 2 e2,gE (a+1) (b+1),hE (.chan none) (c+1) (d+1),x.uE (u.by k0),k0.wE (a0+1) (b0+1),dE k0.d x.s (n+1) false (a2+1) (b2+1),(kP x pr p.2.2.2.2 p.1 p.2.1 p.2.2.1).pE,(kP x pr p.2.2.2.2 p.1 p.2.1 p.2.2.1).wE [] 0,p.2.2.2.1.1.wE 1 0,
                                                                                                                 .ob p.2.2.2.2 (.cells #[goInt x.cl.length,pt x.s,sv p.1 pr.length p.2.1,goInt 0,.nilFunc,.map (some p.2.2.1),goInt 0,goInt 0,goInt 0,.chan (some p.2.2.2.1.1.w),.chan (some p.2.2.2.1.1.t)] 152)]) ?_ λm=>?_
 ·rintro⟨f,e,i,⟨k,l⟩,q⟩
  refine ao [16] ?_;refine gX 8 [0,0,3] [6,7] [8,9,10] (rk (λ_=>[]) λz=>BR (app1 98 5 17 x.cl.length ai) ?_);rintro _ _ ⟨r,o,rfl,rfl⟩;refine gY (Fl.run [3] (ao [] ?_));refine a7 [17] [.nilIface] [gd bs x.s,wM bp (some g) pr.length cap,iE bo x.cl.length,.ob x.s (.cells #[.int .i32 x.mu,.int .u32 0,sv (some x.sb) x.si.length x.si.length,sv (some x.cb) x.ch.length x.uG,.map (some x.mb),goInt x.ck,goInt x.li,sv (some r) (x.cl.length+1) o,sv x.eg x.ev.length x.ec,pt x.sw] 109),eB (some g) cap pr,.row 149 1 (some r) (x.cl.length+1) o (x.cl.map pt++[pt q]),aP 1 e1,aP 2 e2,gE (a+1) (b+1),hE (.chan none) (c+1) (d+1),x.uE (u.by k0),k0.wE (a0+1) (b0+1),dE k0.d x.s (n+1) false (a2+1) (b2+1),(kP x pr q f e i).pE,(kP x pr q f e i).wE [] 0,k.wE 1 0,x.kE ((kP x pr q f e i).by k)] ⟨rfl,q,some r,o,f,e,i,k,l,?_⟩;simp[aM.more,aM.en,aM.lE]
 refine eG [3,4] ⟨?_,?_,trivial⟩
 ·refine Dn (FU 45 3 13 4 g 0 pr.length cap 0 (pr.flatMap Stp.cells) (pr.flatMap Stp.cells) hp ai (tR Stp.len _) (DL Stp.one _) (λj u h=>by rw[Nat.zero_add];exact h)) ?_
  rintro _ _ ⟨y,w,rfl,rfl⟩;have A:(0:Nat)+pr.length=pr.length:=Nat.zero_add _;rw[A];refine gY ?_;refine eG [4,6] ⟨?_,?_,trivial⟩
  ·refine kZ (λ_=>[]) λt=>?_
   refine eG [6] ⟨?_,trivial⟩
   ·refine FE [8,9,3,10,11,12] (Hr x u k0 n a b c d a0 b0 a2 b2 hw hn) ?_
    rintro _ _ ⟨k,l,rfl,rfl⟩;refine gY ?_;refine eG [7] ⟨lX [] (eG [8] ⟨kZ (λ_=>[]) λs=>eG [9] ⟨lX [] (vM ?_),trivial⟩,trivial⟩),trivial⟩;exact cx (m (some y,w,t,⟨k,l⟩,s))
  ·refine FE [8,9,3,10,11,12] (Hr x u k0 n a b c d a0 b0 a2 b2 hw hn) ?_
   rintro _ _ ⟨k,l,rfl,rfl⟩;refine gY ?_;refine eG [4] ⟨?_,trivial⟩
   ·refine kZ (λ_=>[]) λt=>?_
    refine eG [7] ⟨lX [] (eG [8] ⟨kZ (λ_=>[]) λs=>eG [9] ⟨lX [] (vM ?_),trivial⟩,trivial⟩),trivial⟩;exact vL [0,1,2,3,4,5,6,7,8,9,10,11,12,13,15,14,16] (cx (m (some y,w,t,⟨k,l⟩,s)))
 ·refine kZ (λ_=>[]) λt=>?_
  refine eG [3] ⟨?_,trivial⟩
  ·refine Dn (FU 45 3 13 4 g 0 pr.length cap 0 (pr.flatMap Stp.cells) (pr.flatMap Stp.cells) hp ai (tR Stp.len _) (DL Stp.one _) (λj u h=>by rw[Nat.zero_add];exact h)) ?_
   rintro _ _ ⟨y,w,rfl,rfl⟩;have A:(0:Nat)+pr.length=pr.length:=Nat.zero_add _;rw[A];refine gY ?_;refine eG [6] ⟨?_,trivial⟩
   ·refine FE [8,9,3,10,11,12] (Hr x u k0 n a b c d a0 b0 a2 b2 hw hn) ?_
    rintro _ _ ⟨k,l,rfl,rfl⟩;refine gY ?_;refine eG [7] ⟨lX [] (eG [8] ⟨kZ (λ_=>[]) λs=>eG [9] ⟨lX [] (vM ?_),trivial⟩,trivial⟩),trivial⟩;exact cx (m (some y,w,t,⟨k,l⟩,s))
theorem aeM (bs bp bo:Nat) (x:aM) (g:Option Nat) (cap:Nat) (pr:List Stp) (id:Int) (e1 e2:Value) (u:dN) (k0:ed) (n:Int) (a:Gc) (b c d a0 b0 a2 b2:Nat) (hl:pr.length≤4398046511104) (hp:pr=[]) (hr:(su x.ch.length false pr&&decide ((pr.length:Int)≤200))=true) (h8:x.cl.length<8) (hw:x.sw=u.w) (hn:0≤n∧n<9):Fl Sv 58 [pt bs,pt bp,pt bo].toArray (Ay bs bp bo x g cap pr id e1 e2 u k0 n a b c d a0 b0 a2 b2) λv L=>v=.nilIface∧∃q m l f e h k,k.d=k0.d∧L=[gd bs x.s,wM bp g pr.length cap,iE bo x.cl.length,(x.more q m l).en,eB g cap pr,(x.more q m l).lE,aP 1 e1,aP 2 e2,gE (a+1) (b+1),hE (.chan none) (c+1) (d+1),x.uE (u.by k0),k0.wE (a0+1) (b0+1),dE k0.d x.s (n+1) false (a2+1) (b2+1),(kP x pr q f e h).pE,(kP x pr q f e h).wE [] 0,k.wE 1 0,x.kE ((kP x pr q f e h).by k)]:=by
 subst hp;refine Fl.of 46 λt s=>ao [0,1] (c5 [3,4] (Nw x g cap ([]:List Stp) hl) ?_);rintro _ _ ⟨rfl,rfl⟩;rw[hr];refine ao [0,3,bR x.cl.length 8,0,3,2] (jJ 50 3 ?_);refine Oj [0,1,2,5] 6 [2,0,1,0] ?_
 refine Ol (ι:=Option Nat×Nat×Nat×{k:ed//k.d=k0.d}×Nat) (λp=>[(0,pt bs),(1,pt bp),(2,pt bo),(4,pt p.2.2.2.2)]) (λp=>[gd bs x.s,wM bp g ([]:List Stp).length cap,iE bo x.cl.length,x.en,eB g cap ([]:List Stp),x.lE,aP 1 e1,aP 2 e2,gE (a+1) (b+1),hE (.chan none) (c+1) (d+1),x.uE (u.by k0),k0.wE (a0+1) (b0+1),dE k0.d x.s (n+1) false (a2+1) (b2+1),(kP x ([]:List Stp) p.2.2.2.2 p.1 p.2.1 p.2.2.1).pE,(kP x ([]:List Stp) p.2.2.2.2 p.1 p.2.1 p.2.2.1).wE [] 0,p.2.2.2.1.1.wE 1 0,
                                                                                                                 .ob p.2.2.2.2 (.cells #[goInt x.cl.length,pt x.s,sv p.1 ([]:List Stp).length p.2.1,goInt 0,.nilFunc,.map (some p.2.2.1),goInt 0,goInt 0,goInt 0,.chan (some p.2.2.2.1.1.w),.chan (some p.2.2.2.1.1.t)] 152)]) ?_ λj=>?_
 ·rintro⟨f,e,h,⟨k,i⟩,q⟩
  refine ao [16] ?_;refine gX 8 [0,0,3] [6,7] [8,9,10] (rk (λ_=>[]) λz=>BR (app1 98 5 17 x.cl.length ai) ?_);rintro _ _ ⟨m,l,rfl,rfl⟩;refine gY (Fl.run [3] (ao [] ?_));refine a7 [17] [.nilIface] [gd bs x.s,wM bp g ([]:List Stp).length cap,iE bo x.cl.length,.ob x.s (.cells #[.int .i32 x.mu,.int .u32 0,sv (some x.sb) x.si.length x.si.length,sv (some x.cb) x.ch.length x.uG,.map (some x.mb),goInt x.ck,goInt x.li,sv (some m) (x.cl.length+1) l,sv x.eg x.ev.length x.ec,pt x.sw] 109),eB g cap ([]:List Stp),.row 149 1 (some m) (x.cl.length+1) l (x.cl.map pt++[pt q]),aP 1 e1,aP 2 e2,gE (a+1) (b+1),hE (.chan none) (c+1) (d+1),x.uE (u.by k0),k0.wE (a0+1) (b0+1),dE k0.d x.s (n+1) false (a2+1) (b2+1),(kP x ([]:List Stp) q f e h).pE,(kP x ([]:List Stp) q f e h).wE [] 0,k.wE 1 0,x.kE ((kP x ([]:List Stp) q f e h).by k)] ⟨rfl,q,some m,l,f,e,h,k,i,?_⟩;simp[aM.more,aM.en,aM.lE]
 refine eG [3,4] ⟨?_,?_,trivial⟩
 ·refine lX [YtgahemdblfapeaaGreatDoor.a0 45 3 none 0 0 (g.map λb=>⟨b,0,none⟩) cap (Nat.le_refl _)] ?_
  refine eG [4,6] ⟨?_,?_,trivial⟩
  ·refine kZ (λ_=>[]) λr=>?_
   refine eG [6] ⟨?_,trivial⟩
   ·refine FE [8,9,3,10,11,12] (Hr x u k0 n a b c d a0 b0 a2 b2 hw hn) ?_
    rintro _ _ ⟨k,i,rfl,rfl⟩;refine gY ?_;refine eG [7] ⟨lX [] (eG [8] ⟨kZ (λ_=>[]) λo=>eG [9] ⟨lX [] (vM ?_),trivial⟩,trivial⟩),trivial⟩;exact cx (j (none,0,r,⟨k,i⟩,o))
  ·refine FE [8,9,3,10,11,12] (Hr x u k0 n a b c d a0 b0 a2 b2 hw hn) ?_
   rintro _ _ ⟨k,i,rfl,rfl⟩;refine gY ?_;refine eG [4] ⟨?_,trivial⟩
   ·refine kZ (λ_=>[]) λr=>?_
    refine eG [7] ⟨lX [] (eG [8] ⟨kZ (λ_=>[]) λo=>eG [9] ⟨lX [] (vM ?_),trivial⟩,trivial⟩),trivial⟩;exact vL [0,1,2,3,4,5,6,7,8,9,10,11,12,13,15,14,16] (cx (j (none,0,r,⟨k,i⟩,o)))
 ·refine kZ (λ_=>[]) λr=>?_
  refine eG [3] ⟨?_,trivial⟩
  ·refine lX [YtgahemdblfapeaaGreatDoor.a0 45 3 none 0 0 (g.map λb=>⟨b,0,none⟩) cap (Nat.le_refl _)] ?_
   refine eG [6] ⟨?_,trivial⟩
   ·refine FE [8,9,3,10,11,12] (Hr x u k0 n a b c d a0 b0 a2 b2 hw hn) ?_
    rintro _ _ ⟨k,i,rfl,rfl⟩;refine gY ?_;refine eG [7] ⟨lX [] (eG [8] ⟨kZ (λ_=>[]) λo=>eG [9] ⟨lX [] (vM ?_),trivial⟩,trivial⟩),trivial⟩;exact cx (j (none,0,r,⟨k,i⟩,o))
end
section
open Go.Conc (G)
theorem ZF(f:ae Nat){L e:ae En}(h:outs f L=Z (e,[]):=by kernel_rfl):L.Perm e:=by
 have:=wL h;rwa[xb]at this
abbrev sf:ByteArray:=⟨#[67,108,105,101,110,116]⟩
section
variable (x:aM)(u:dN)(V:ed)(g:aj Nat)(X:Nat)(W:ae Stp)(Q P O:ag)(n:Int)(a:Gc)(b c d a0 R T S:Nat)
def DG:ae En:=[(x.aL 0).en,x.uE (u.by V),V.wE a0 R,dE V.d x.s n Y T S,aP 4 O,gE a b,hE (.chan I) c d,x.lE,eB g X W,aP 1 Q,aP 2 P]
def OY(q:Nat)(j:aj Nat)(i:Nat)(f:aj Nat)(e h:Nat)(k:ed):ae En:=[eB g X W,(x.more q j i).lE,aP 1 Q,aP 2 P,gE (a+1) (b+1),hE (.chan I) (c+1) (d+1),x.uE (u.by V),V.wE (a0+2) (R+2),dE V.d x.s (n+1) Y (T+2) (S+2),(kP x W q f e h).pE,(kP x W q f e h).wE [] 0,k.wE 1 0,x.kE ((kP x W q f e h).by k)]
def aeN(v:ag)(L:ae En):Prop:=v=.tuple #[ah x.cl.length,.nilIface]/\∃q f e i h j k,k.d=V.d/\L=aP 4 O::(OY x u V g X W Q P n a b c d a0 R T S q f e i h j k++[((x.more q f e).aL 0).en])
theorem aeR (hl:W.length≤4398046511104) (hr:(su x.ch.length false W&&decide ((W.length:Int)≤200))=true) (h8:x.cl.length<8) (hw:x.sw=u.w) (hn:0≤n∧n<9) (r:W=[]∨(0<W.length∧∃o,g=some o)):Fl Sv 39 [pt x.s,sv g W.length X].toArray (DG x u V g X W Q P O n a b c d a0 R T S) (aeN x u V g X W Q P O n a b c d a0 R T S):=by
 have p:∀z,Fl Sv 58 [pt z,pt (z+1),pt (z+2)].toArray (Ay z (z+1) (z+2) (x.aL 1) g X W 0 Q P u V n a b c d (a0+1) (R+1) (T+1) (S+1)) λv L=>v=.nilIface∧∃q f e i h j k,k.d=V.d∧L=[gd z x.s,wM (z+1) g W.length X,iE (z+2) x.cl.length,((x.more q f e).aL 1).en,eB g X W,(x.more q f e).lE,aP 1 Q,aP 2 P,gE (a+1) (b+1),hE (.chan none) (c+1) (d+1),x.uE (u.by V),V.wE (a0+2) (R+2),dE V.d x.s (n+1) false (T+2) (S+2),(kP x W q i h j).pE,(kP x W q i h j).wE [] 0,k.wE 1 0,x.kE ((kP x W q i h j).by k)]:=λz=>by
  rcases r with r|⟨p,o,rfl⟩
  ·exact aeM z (z+1) (z+2) (x.aL 1) g X W 0 Q P u V n a b c d (a0+1) (R+1) (T+1) (S+1) hl r hr h8 hw hn
  ·exact aeL z (z+1) (z+2) (x.aL 1) o X W 0 Q P u V n a b c d (a0+1) (R+1) (T+1) (S+1) hl p hr h8 hw hn
 refine Fl.of 13 λA y=>cd (λ_=>[13,11]) λz=>?_;have t:Fl Sv 58 [pt z,pt (z+1),pt (z+2)].toArray ((x.aL 1).en::x.uE (u.by V)::V.wE (a0+1) (R+1)::dE V.d x.s n false (T+1) (S+1)::[gE a b,hE (.chan none) c d,x.lE,eB g X W,aP 1 Q,aP 2 P,gd z x.s,wM (z+1) g W.length X,iE (z+2) 0]) λv L=>∃l s,(v=.nilIface∧l.s=x.s∧(∃q f e i h j k,k.d=V.d∧l=x.more q f e∧s=gd z x.s::wM (z+1) g W.length X::iE (z+2) x.cl.length::OY x u V g X W Q P n a b c d a0 R T S q f e i h j k))∧L=(l.aL 1).en::s:=by
  refine Fl.post (Fl.perm (p z) ?_) ?_
  ·exact ZF [10,11,12,0,7,6,8,9,4,5,1,2,3]
  rintro v _ ⟨w,q,f,e,i,h,j,k,m,rfl⟩;exact⟨_,⟨x.more q f e,_,⟨w,rfl,q,f,e,i,h,j,k,m,rfl,rfl⟩,rfl⟩,List.perm_middle (l₁:=[_,_,_])⟩
 refine m5 [] _ (H9 x u V sf 0 O z (z+1) (z+2) n a0 R T S _ _ hw (.inl ⟨.inr rfl,rfl⟩) none t) ?_;rintro _ _ ⟨rfl,l,_,⟨q,f,e,i,h,j,k,m,rfl,rfl⟩,rfl⟩;exact ao [3] (a7 [1,2,3] [goInt x.cl.length,.nilIface] _ ⟨rfl,q,f,e,i,h,j,k,m,rfl⟩)
theorem Vl (te:TypeId) (er:Value) (hw:x.sw=u.w) (h0:∀z,Fl Sv 58 [pt z,pt (z+1),pt (z+2)].toArray (Ay z (z+1) (z+2) (x.aL 1) g X W 0 Q P u V n a b c d (a0+1) (R+1) (T+1) (S+1)) λv L=>v=.iface te er∧L=Ay z (z+1) (z+2) (x.aL 1) g X W 0 Q P u V n a b c d (a0+1) (R+1) (T+1) (S+1)):Fl Sv 39 [pt x.s,sv g W.length X].toArray (DG x u V g X W Q P O n a b c d a0 R T S) λv L=>∃q,v=.tuple #[goInt 0,.iface 154 (pt q)]∧L=[aP 4 O,iI q sf 0 (.iface te er),eB g X W,x.lE,aP 1 Q,aP 2 P,gE a b,hE (.chan none) c d,x.uE (u.by V),V.wE (a0+1) (R+1),dE V.d x.s n false (T+1) (S+1),(x.aL 0).en]:=by
 refine Fl.of 13 λk j=>cd (λ_=>[13,11]) λz=>?_;have h:Fl Sv 58 [pt z,pt (z+1),pt (z+2)].toArray ((x.aL 1).en::x.uE (u.by V)::V.wE (a0+1) (R+1)::dE V.d x.s n false (T+1) (S+1)::[gE a b,hE (.chan none) c d,x.lE,eB g X W,aP 1 Q,aP 2 P,gd z x.s,wM (z+1) g W.length X,iE (z+2) 0]) λv L=>∃e f,(v=.iface te er∧e.s=x.s∧(e=x∧f=[gd z x.s,wM (z+1) g W.length X,iE (z+2) 0,eB g X W,x.lE,aP 1 Q,aP 2 P,gE a b,hE (.chan none) c d,x.uE (u.by V),V.wE (a0+1) (R+1),dE V.d x.s n false (T+1) (S+1)]))∧L=(e.aL 1).en::f:=by
  refine Fl.post (Fl.perm (h0 z) ?_) ?_
  ·exact ZF [10,11,12,0,7,6,8,9,4,5,1,2,3]
  rintro v _ ⟨i,rfl⟩;exact⟨_,⟨x,_,⟨i,rfl,rfl,rfl⟩,rfl⟩,List.perm_middle (l₁:=[_,_,_])⟩
 refine m5 [] _ (H9 x u V sf 0 O z (z+1) (z+2) n a0 R T S _ _ hw (.inl ⟨.inr rfl,rfl⟩) (some (te,er)) h) ?_;rintro _ _ ⟨q,rfl,e,_,⟨rfl,rfl⟩,rfl⟩;exact ao [4] (a7 [2,3,4] [goInt 0,.iface 154 (pt q)] _ ⟨q,rfl,rfl⟩)
theorem aeO(f:aJ)(e:ag)(h:W.length<=4398046511104)(i:(su x.ch.length Y W&&decide ((W.length:Int)<=200))=Y)(j:x.sw=u.w):Fl Sv 39 [pt x.s,sv g W.length X].toArray (DG x u V g X W (.iface f e) P O n a b c d a0 R T S) λv L=>∃q,v=.tuple #[ah 0,.iface 154 (pt q)]/\L=[aP 4 O,iI q sf 0 (.iface f e),eB g X W,x.lE,aP 1 (.iface f e),aP 2 P,gE a b,hE (.chan I) c d,x.uE (u.by V),V.wE (a0+1) (R+1),dE V.d x.s n Y (T+1) (S+1),(x.aL 0).en]:=
 Vl x u V g X W _ P O n a b c d a0 R T S f e j λz=>aeJ z (z+1) (z+2) (x.aL 1) g X W 0 _ P u V n a b c d _ _ _ _ h i
theorem aeQ(f:aJ)(e:ag)(i:W.length<=4398046511104)(j:(su x.ch.length Y W&&decide ((W.length:Int)<=200))=U)(h:x.cl.length=8)(k:x.sw=u.w):Fl Sv 39 [pt x.s,sv g W.length X].toArray (DG x u V g X W Q (.iface f e) O n a b c d a0 R T S) λv L=>∃q,v=.tuple #[ah 0,.iface 154 (pt q)]/\L=[aP 4 O,iI q sf 0 (.iface f e),eB g X W,x.lE,aP 1 Q,aP 2 (.iface f e),gE a b,hE (.chan I) c d,x.uE (u.by V),V.wE (a0+1) (R+1),dE V.d x.s n Y (T+1) (S+1),(x.aL 0).en]:=
 Vl x u V g X W Q _ O n a b c d a0 R T S f e k λz=>aeK z (z+1) (z+2) (x.aL 1) g X W 0 Q _ u V n a b c d _ _ _ _ i j h
end
theorem aeS(x:aM)(u:dN)(k:ed)(g:Option Nat)(l X:Nat)(f:TypeId)(e:Value)(n:Int)(h i T S:Nat)(j:x.sw=u.w):Fl Sv 39 [pt x.s,sv g l X].toArray [(x.aL 0).en,x.uE (u.by k),k.wE h i,dE k.d x.s n true T S,aP 4 (.iface f e)] λv L=>∃q,v=.tuple #[goInt 0,.iface 154 (pt q)]∧L=[x.uE (u.by k),k.wE (h+1) (i+1),dE k.d x.s n true (T+1) (S+1),aP 4 (.iface f e),iI q sf 0 (.iface f e),(x.aL 0).en]:=by
 refine Fl.of 13 λo m=>cd (λ_=>[7,5]) λz=>c5 [0,1,2,3,4] (OS x u k sf 0 f e (.func (.func 58) #[] #[pt z,pt (z+1),pt (z+2)]) n h i T S j) ?_;rintro _ _ ⟨q,rfl,rfl⟩;exact ao [7] (a7 [5,6,7] [goInt 0,.iface 154 (pt q)] _ ⟨q,rfl,rfl⟩)
theorem api(x:aM)(u:dN)(k:ed)(i:Int)(f:TypeId)(e:Value)(n:Int)(h j T S:Nat)(l:x.sw=u.w):Fl Sv 41 [pt x.s,goInt i].toArray [(x.aL 0).en,x.uE (u.by k),k.wE h j,dE k.d x.s n true T S,aP 4 (.iface f e)] λv L=>∃q,v=.tuple #[goInt 0,.iface 154 (pt q)]∧L=[x.uE (u.by k),k.wE (h+1) (j+1),dE k.d x.s n true (T+1) (S+1),aP 4 (.iface f e),iI q ⟨#[80,105,99,107]⟩ i (.iface f e),(x.aL 0).en]:=by
 refine Fl.of 14 λo m=>cd (λ_=>[7,5,6]) λz=>c5 [0,1,2,3,4] (OS x u k ⟨#[80,105,99,107]⟩ i f e (.func (.func 65) #[] #[pt (z+1),pt z,pt (z+2)]) n h j T S l) ?_;rintro _ _ ⟨q,rfl,rfl⟩;exact ao [7] (a7 [5,6,7] [goInt 0,.iface 154 (pt q)] _ ⟨q,rfl,rfl⟩)
theorem awv(x:aM)(u:dN)(k:ed)(f:TypeId)(e:Value)(n:Int)(h i T S:Nat)(j:x.sw=u.w):Fl Sv 42 [pt x.s].toArray [(x.aL 0).en,x.uE (u.by k),k.wE h i,dE k.d x.s n true T S,aP 4 (.iface f e)] λv L=>∃q,v=.tuple #[.bool false,.iface 154 (pt q)]∧L=[x.uE (u.by k),k.wE (h+1) (i+1),dE k.d x.s n true (T+1) (S+1),aP 4 (.iface f e),iI q ⟨#[83,119,101,101,112]⟩ 0 (.iface f e),(x.aL 0).en]:=by
 refine Fl.of 12 λm l=>cd (λ_=>[6,5]) λz=>c5 [0,1,2,3,4] (OS x u k ⟨#[83,119,101,101,112]⟩ 0 f e (.func (.func 68) #[] #[pt z,pt (z+1)]) n h i T S j) ?_;rintro _ _ ⟨q,rfl,rfl⟩;exact ao [6,.d] (a7 [5,6] [.bool false,.iface 154 (pt q)] _ ⟨q,rfl,rfl⟩)
end
section
open Go.Conc (G)
theorem V8{α:Type}(l:ae α)(b:0<l.length):∀(n j:Nat),j<n*l.length->((kh n l).flatten)[j]?=l[j%l.length]?
 |0,j,h=>by omega
 |n+1,j,h=>by
  rw[List.replicate_succ,List.flatten_cons];by_cases a:j<l.length
  ·rw[Df a,Nat.mod_eq_of_lt a]
  ·rw[Ab ai,V8 l b n (j-l.length) (by rw[Nat.add_mul]at h;omega),<-Nat.mod_eq_sub_mod ai]
theorem anw(a:af ag)(h:0<a.size)(n:Nat):(madeCells a (n*a.size)).toList=(kh n a.toList).flatten:=by
 apply List.ext_getElem?;intro j;have b:(kh n a.toList).flatten.length=n*a.size:=by simp
 by_cases c:j<n*a.size
 ·rw[V8 a.toList (by simpa using h) n j (by simpa using c)]
  have d:j%a.size<a.size:=Nat.mod_lt _ h;simp[madeCells,c,d]
 ·rw[Dg (by simp[madeCells];omega),Dg (by rw[b];omega)]
def mkS(t:aJ)(a b:ag):Sem Next:=qo (Instr.makeSlice t a b) λv=>.pure (.value v)
theorem EO{m:ae En}(t e a n:Nat)(b:ae ag)(B:n<=1000000)(D:0<b.length)
  (h:((P.underlying t,(P.info? e).map λi=>(i.size,i.zero.map λz=>z.cells.toList,Nat.ble i.bytes 4096)),b.length)=((Z (.slice e),Z (a,Z b,U)),a):=by kernel_rfl):
  nS P m L (mkS t (ah n) (ah n)) λv l=>∃g,v=sv (Z g) n n/\l=L++[.row e a (Z g) n n (kh n b).flatten]:=λw u=>by
 simp only[fK]at h;obtain⟨⟨p,q⟩,rfl⟩:=h;obtain⟨i,y,d⟩:=gV.1 q;simp only[fK]at d;obtain⟨r,s,c⟩:=d;obtain⟨z,k,rfl⟩:=gV.1 s;have c:=yP c;have G:i.bytes*n<=4096*1000000:=Nat.mul_le_mul c B;have j:=run_make (P:=P) w t e i z p y k .i64 .i64 n n ai (Int.le_refl _) (by
  have:((i.bytes*n:Nat):Int)<=281474976710656:=by omega
  rwa[Int.natCast_mul]at this) ai
 simp only[Int.toNat_natCast]at j;have o:i.size=z.cells.size:=by rw[r];simp
 refine⟨sv (Z w.heap.size) n n,w.alloc (.cells (madeCells z.cells (n*i.size)) e),_,?_,F,F,⟨w.heap.size,F,F⟩,?_⟩
 ·show((Instr.makeSlice t (ah n) (ah n))>>=λv=>(ayU (lT v):Sem Next)).run P w=_
  rw[eJ];have E:bx P (Instr.makeSlice t (ah n) (ah n)) w=.ok (.slice (Z ⟨w.heap.size,0,I⟩) n n) (w.alloc (.cells (madeCells z.cells (n*i.size)) e)):=j;rw[E];rfl
 ·have f:=Kn.push u (.cells (madeCells z.cells (n*i.size)) e)
  rw[gw]at f⊢;refine Kn.set f ?_ (λx C=>?_) (df _) (λx _ _=>rfl)
  ·show Row _ _ _ _ _ _
   rw[o,<-anw z.cells (by simpa using D)];have A:(madeCells z.cells (n*z.cells.size)).size=n*z.cells.size:=by simp[madeCells]
   refine⟨?_,.inr ⟨w.heap.size,n,madeCells z.cells (n*z.cells.size),F,?_,df _,by unfold maxLen;omega,?_,?_⟩⟩
   ·simp[madeCells]
   ·show(w.heap.push _)[w.heap.size]?=_
    simp
   ·simp[madeCells]
   ·rw[List.take_of_length_le]
    simp[madeCells]
  ·cases C
   exact .inl F
def Gc.up(a:Gc):Gc:=⟨.iface 3 a.v,a.n⟩
def G4(s e S:Nat)(b:aj Nat)(k a d:Nat)(c:Int)(f:ag):En:=.ob s (.cells #[.int .i32 0,.int .u32 0,sv (Z e) S S,sv b k a,.map (Z d),ah 0,ah c,sv I 0 0,sv I 0 0,f] 109)
theorem avR (s sb S:Nat) (cg:Option Nat) (k cc mb:Nat) (li:Int) (D:Nat) (a:Gc) (b c d a2 b2:Nat):Fl Sv 55 [pt s].toArray [gE a b,hE (.chan (some D)) c d,G4 s sb S cg k cc mb li (.pointer none),dE D s 0 false a2 b2] λv L=>∃q:ed,q.d=D∧v=q.v∧L=[gE (a+1) (b+1),hE (.chan none) (c+1) (d+1),G4 s sb S cg k cc mb li (.pointer none),dE D s 1 false (a2+1) (b2+1),q.wE 1 0]:=by
 refine Fl.of 13 λh g=>ao [] (lW 0 (gJ 0 (lW 1 (gJ 1 (ao [.d,2] (lW 3 (ao [F9 (tm 11) (tm 0) s,fp 0 9,aI (0+1) 1 ai] (gJ 3 ?_))))))));refine cd (λ_=>[]) λz=>?_;refine Uq Nh λo f=>?_;simp only[Nh,List.mem_cons,List.not_mem_nil,or_false]at f;rcases f with rfl|rfl|rfl|rfl|rfl|rfl|rfl|rfl
 ·exact cd (λ_=>[]) λe=>gJ 6 (ao [5,5] (rj [4,5,7,8] 2 142 (z+1) (ed.v ⟨e,(e+1),D⟩) [5,5] _ ⟨⟨e,(e+1),D⟩,rfl,rfl,rfl⟩))
 ·exact cd (λ_=>[]) λe=>gJ 6 (ao [5,5] (rj [4,5,7,8] 2 142 (z+1) (ed.v ⟨e,(e+1),D⟩) [5,5] _ ⟨⟨e,(e+1),D⟩,rfl,rfl,rfl⟩))
 ·exact cd (λ_=>[]) λe=>gJ 6 (ao [5,5] (rj [4,5,7,8] 2 142 (z+1) (ed.v ⟨e,(e+2),D⟩) [5,5] _ ⟨⟨e,(e+2),D⟩,rfl,rfl,rfl⟩))
 ·exact cd (λ_=>[]) λe=>gJ 7 (ao [5,5] (rj [4,5,6,8] 2 142 (z+1) (ed.v ⟨(e+1),e,D⟩) [5,5] _ ⟨⟨(e+1),e,D⟩,rfl,rfl,rfl⟩))
 ·exact cd (λ_=>[]) λe=>gJ 7 (ao [5,5] (rj [4,5,6,8] 2 142 (z+1) (ed.v ⟨(e+1),e,D⟩) [5,5] _ ⟨⟨(e+1),e,D⟩,rfl,rfl,rfl⟩))
 ·exact cd (λ_=>[]) λe=>gJ 8 (ao [5,5] (rj [4,5,6,7] 2 142 (z+1) (ed.v ⟨(e+2),e,D⟩) [5,5] _ ⟨⟨(e+2),e,D⟩,rfl,rfl,rfl⟩))
 ·exact cd (λ_=>[]) λe=>gJ 7 (ao [5,5] (rj [4,5,6,8] 2 142 (z+1) (ed.v ⟨(e+1),(e+2),D⟩) [5,5] _ ⟨⟨(e+1),(e+2),D⟩,rfl,rfl,rfl⟩))
 ·exact cd (λ_=>[]) λe=>gJ 8 (ao [5,5] (rj [4,5,6,7] 2 142 (z+1) (ed.v ⟨(e+2),(e+1),D⟩) [5,5] _ ⟨⟨(e+2),(e+1),D⟩,rfl,rfl,rfl⟩))
theorem aob (sites keys cq:Int) (er:Value) (h:sites<1∨sites>8∨keys<1∨keys>20∨cq<0∨cq>1000000):Fl Sv 38 [goInt sites,goInt keys,goInt cq].toArray [aP 0 er] λv L=>v=.tuple #[.pointer none,er]∧L=[aP 0 er]:=by
 refine Fl.of 74 λi g=>?_;by_cases a:sites<1
 ·exact ao [bT a] (dk 3 [0] [] (Fl.nil (ao [] (a7 [] [.pointer none,er] _ ⟨rfl,rfl⟩))))
 by_cases b:sites>8
 ·exact ao [bF a,bT b] (dk 3 [0] [] (Fl.nil (ao [] (a7 [] [.pointer none,er] _ ⟨rfl,rfl⟩))))
 by_cases c:keys<1
 ·exact ao [bF a,bF b,bT c] (dk 3 [0] [] (Fl.nil (ao [] (a7 [] [.pointer none,er] _ ⟨rfl,rfl⟩))))
 by_cases d:keys>20
 ·exact ao [bF a,bF b,bF c,bT d] (dk 3 [0] [] (Fl.nil (ao [] (a7 [] [.pointer none,er] _ ⟨rfl,rfl⟩))))
 by_cases e:cq<0
 ·exact ao [bF a,bF b,bF c,bF d,bT e] (dk 3 [0] [] (Fl.nil (ao [] (a7 [] [.pointer none,er] _ ⟨rfl,rfl⟩))))
 have f:cq>1000000:=by omega
 exact ao [bF a,bF b,bF c,bF d,bF e,bT f] (dk 3 [0] [] (Fl.nil (ao [] (a7 [] [.pointer none,er] _ ⟨rfl,rfl⟩))))
def nF(c:Nat):En:=.ob c (.cells #[sv I 0 0] 138)
def x0(s f S b c:Nat)(a:ae Nat)(e:Nat)(d:Int)(g:Nat):aM:=⟨s,0,f,kh S ⟨Y,Y,0⟩,b,c,a,e,0,d,I,0,[],I,0,[],g⟩
def u0(u:Nat):dN:=⟨u,0,.func (.func 56) #[pt u] #[],.nilFunc,.nilFunc⟩
def aoa(e j:Nat)(i:Int)(a:Gc)(b c d:Nat)(v:ag)(L:ae En):Prop:=∃s m g h f l u k,v=.tuple #[pt s,.nilIface]/\f.length=j/\
 L=[gE (Gc.up a+2) (b+2),hE (.chan I) (c+2) (d+2),(x0 s m e g h f l i u).sE,(x0 s m e g h f l i u).mE [] 0,dE k.d s 1 Y 2 1,(x0 s m e g h f l i u).en,(x0 s m e g h f l i u).cE,k.wE 1 0,(x0 s m e g h f l i u).uE ((u0 u).by k)]++f.reverse.map nF
theorem Sb (sites keys:Nat) (cq:Int) (a:Gc) (b c d:Nat) (h:1≤sites∧sites≤8∧1≤keys∧keys≤20∧0≤cq∧cq≤1000000):Fl Sv 38 [goInt sites,goInt keys,goInt cq].toArray [gE a b,hE (.chan none) c d] (aoa sites keys cq a b c d):=by
 refine Fl.of 74 λy x=>ao [fH sites 1,Gi sites 8,fH keys 1,Gi keys 20,fH cq 0,Gi cq 1000000,
  fp cq 1000001,fp sites 9,gtT sites 0] ?_
 refine Oj [0,3] 6 [] ?_;refine Ol (ι:=Nat×Nat×Nat×Nat) (λp=>[(0,goInt sites),(1,goInt keys),(2,goInt cq),(8,pt p.2.2.2),(33,sv (some p.1) sites sites),(34,.map (some p.2.1)),(35,goInt cq),(36,.chan (some p.2.2.1)),(7,.nilIface)]) (λp=>[gE a b,hE (.chan none) c d,.row 111 3 (some p.1) sites sites (List.replicate sites [.bool false,.bool false,goInt 0]).flatten,.ob p.2.1 (.map #[] 0),.ob p.2.2.1 (.chan 2 #[] false 0 0 false),G4 p.2.2.2 p.1 sites none 0 0 p.2.1 cq (.pointer none)]) ?_ λe=>?_
 ·rintro⟨g,f,D,s⟩
  refine ao [] (gJ 4 (lW 1 (gJ 1 (lW 0 (ao [] (gJ 0 (ao [.g,.x] (jJ 135 1 ?_))))))));refine j4 (ι:=Option Nat×Nat×List Nat) (λi=>keys-i.2.2.length) (λi=>[(8,pt s),(39,goInt keys),(40,goInt i.2.2.length),(7,.nilIface)]) (λi=>[gE (Gc.up a+1) (b+1),hE (.chan (some D)) (c+1) (d+1),.row 111 3 (some g) sites sites (List.replicate sites [.bool false,.bool false,goInt 0]).flatten,.ob f (.map #[] 0),dE D s 0 false 1 0,G4 s g sites i.1 i.2.2.length i.2.1 f cq (.pointer none),.row 135 1 i.1 i.2.2.length i.2.1 (i.2.2.map pt)]++i.2.2.reverse.map nF) (λi=>i.2.2.length≤keys) (none,0,[]) (Nat.zero_le _) ?_;rintro⟨t,m,j⟩ v r;simp only at v r;by_cases aE:j.length<keys
  ·have e:∀o l z,Rs Sv _ _ _ _ _:=λo l z=>r (o,l,j++[z]) (by simp only[List.length_append,List.length_cons,List.length_nil];omega) (by simp only[List.length_append,List.length_cons,List.length_nil];omega)
   simp only[List.length_append,List.length_cons,List.length_nil,Nat.zero_add,List.map_append,List.map_cons,List.map_nil,List.reverse_append,List.reverse_cons,List.reverse_nil,List.nil_append,List.cons_append]at e;refine fw _ _ (cd (λ_=>[fp j.length keys,5]) λz=>iW (app1 96 6 8 j.length ai) ?_);rintro _ _ ⟨o,l,rfl,rfl⟩;refine ao [5,aS j.length,.g,.x] (dP [8] (eF ?_));exact cx (e o l z)
  ·have w:j.length=keys:=by omega
   subst w;refine fw _ _ ?_;refine lF 6 t j.length m ai λn q _=>?_;subst q;refine ao [fH j.length j.length] (c5 [0,1,5,4] (avR s g sites (some n) j.length m f cq D (Gc.up a+1) (b+1) (c+1) (d+1) 1 0) ?_);rintro _ _ ⟨k,rfl,rfl,rfl⟩;refine cd (λ_=>[5]) λu=>?_;refine gX 9 [5,5] [] [9,10,11] (Fl.run [8] (ao [] (eF ?_)));refine dH [pt s,.nilIface] ([gE (Gc.up a+2) (b+2),hE (.chan none) (c+2) (d+2),.row 111 3 (some g) sites sites (List.replicate sites [.bool false,.bool false,goInt 0]).flatten,.ob f (.map #[] 0),dE k.d s 1 false 2 1,G4 s g sites (some n) j.length m f cq (pt u),.row 135 1 (some n) j.length m (j.map pt),k.wE 1 0,.ob u (.cells #[pt s,goInt 0,.func (.func 56) #[pt u] #[],.chan (some k.w),.chan (some k.t)] 146)]++j.reverse.map nF) ⟨s,g,n,m,j,f,u,k,rfl,rfl,?_⟩;simp[x0,G4,aM.en,aM.sE,aM.mE,aM.cE,aM.uE,u0,dN.by,fU,eZ.cells,List.flatMap_replicate]
 refine eG [1,2,4] ⟨?_,?_,?_,trivial⟩
 ·refine Dn (EO 95 111 3 sites [.bool false,.bool false,goInt 0] ai aX) ?_
  rintro _ _ ⟨g,rfl,rfl⟩;refine gY ?_;refine eG [2,4] ⟨?_,?_,trivial⟩
  ·refine kZ (λ_=>[]) λf=>?_
   refine eG [4] ⟨?_,trivial⟩
   ·refine kZ (λ_=>[]) λD=>?_
    refine eG [5] ⟨lX [] (eG [6] ⟨kZ (λ_=>[]) λs=>eG [7] ⟨lX [] (vM ?_),trivial⟩,trivial⟩),trivial⟩;exact cx (e (g,f,D,s))
  ·refine kZ (λ_=>[]) λD=>?_
   refine eG [2] ⟨?_,trivial⟩
   ·refine kZ (λ_=>[]) λf=>?_
    refine eG [5] ⟨lX [] (eG [6] ⟨kZ (λ_=>[]) λs=>eG [7] ⟨lX [] (vM ?_),trivial⟩,trivial⟩),trivial⟩;exact vL [0,1,2,4,3,5] (cx (e (g,f,D,s)))
 ·refine kZ (λ_=>[]) λf=>?_
  refine eG [1,4] ⟨?_,?_,trivial⟩
  ·refine Dn (EO 95 111 3 sites [.bool false,.bool false,goInt 0] ai aX) ?_
   rintro _ _ ⟨g,rfl,rfl⟩;refine gY ?_;refine eG [4] ⟨?_,trivial⟩
   ·refine kZ (λ_=>[]) λD=>?_
    refine eG [5] ⟨lX [] (eG [6] ⟨kZ (λ_=>[]) λs=>eG [7] ⟨lX [] (vM ?_),trivial⟩,trivial⟩),trivial⟩;exact vL [0,1,3,2,4,5] (cx (e (g,f,D,s)))
  ·refine kZ (λ_=>[]) λD=>?_
   refine eG [1] ⟨?_,trivial⟩
   ·refine Dn (EO 95 111 3 sites [.bool false,.bool false,goInt 0] ai aX) ?_
    rintro _ _ ⟨g,rfl,rfl⟩;refine gY ?_;refine eG [5] ⟨lX [] (eG [6] ⟨kZ (λ_=>[]) λs=>eG [7] ⟨lX [] (vM ?_),trivial⟩,trivial⟩),trivial⟩;exact vL [0,1,4,2,3,5] (cx (e (g,f,D,s)))
 ·refine kZ (λ_=>[]) λD=>?_
  refine eG [1,2] ⟨?_,?_,trivial⟩
  ·refine Dn (EO 95 111 3 sites [.bool false,.bool false,goInt 0] ai aX) ?_
   rintro _ _ ⟨g,rfl,rfl⟩;refine gY ?_;refine eG [2] ⟨?_,trivial⟩
   ·refine kZ (λ_=>[]) λf=>?_
    refine eG [5] ⟨lX [] (eG [6] ⟨kZ (λ_=>[]) λs=>eG [7] ⟨lX [] (vM ?_),trivial⟩,trivial⟩),trivial⟩;exact vL [0,1,3,4,2,5] (cx (e (g,f,D,s)))
  ·refine kZ (λ_=>[]) λf=>?_
   refine eG [1] ⟨?_,trivial⟩
   ·refine Dn (EO 95 111 3 sites [.bool false,.bool false,goInt 0] ai aX) ?_
    rintro _ _ ⟨g,rfl,rfl⟩;refine gY ?_;refine eG [5] ⟨lX [] (eG [6] ⟨kZ (λ_=>[]) λs=>eG [7] ⟨lX [] (vM ?_),trivial⟩,trivial⟩),trivial⟩;exact vL [0,1,4,3,2,5] (cx (e (g,f,D,s)))
end
section
open Go.Conc (G)
theorem awk(x:aM)(u:dN)(k)(n)(a)(b c e d f)(l:x.sw=u.w):Fl Sv 30 [pt x.s].toArray [(x.aL 0).en,x.uE (u.by k),k.wE c e,dE k.d x.s n Y d f,gE (Gc.up a) b] λv L=>v=.tuple #[]/\L=[x.uE (u.by k),k.wE (c+1) (e+1),dE k.d x.s n U (d+1) (f+1),gE (a+2) (b+2),(x.aL 0).en]:=by
 obtain⟨w,g,nx,i,h⟩:=u;subst l;refine Fl.of 25 λp o=>(ao [] (c5 [0] (yc x) ?_));rintro _ _ ⟨rfl,rfl⟩;refine ao [] (lW 4 (gJ 4 (ao [0,1] (lW 2 (gJ 2 (ao [] (lW 3 (ao [F9 (tm 21) (tm 10) x.s] ?_))))))));refine lW 4 (ao [] (gJ 4 (ao [] (gJ 3 (ao [] ?_)))));refine du ([(x.aL 1).en]++[x.uE (dN.by ⟨x.sw,g,nx,i,h⟩ k),k.wE (c+1) (e+1),dE k.d x.s n U (d+1) (f+1),gE (a+2) (b+2)]) (eP kW ?_);exact uA [] [x.uE (dN.by ⟨x.sw,g,nx,i,h⟩ k),k.wE (c+1) (e+1),dE k.d x.s n U (d+1) (f+1),gE (a+2) (b+2)] _ (vd F) λm j=>⟨F,by rw[j];rfl⟩
theorem awg(x:aM)(u:dN)(k)(n)(a)(b c e d f)(l:x.sw=u.w):Fl Sv 30 [pt x.s].toArray [(x.aL 0).en,x.uE (u.by k),k.wE c e,dE k.d x.s n U d f,gE a b] λv L=>v=.tuple #[]/\L=[x.uE (u.by k),k.wE (c+1) (e+1),dE k.d x.s n U (d+1) (f+1),gE (a+1) (b+1),(x.aL 0).en]:=by
 obtain⟨w,g,nx,i,h⟩:=u;subst l;refine Fl.of 25 λp o=>(ao [] (c5 [0] (yc x) ?_));rintro _ _ ⟨rfl,rfl⟩;refine ao [] (lW 4 (gJ 4 (ao [0,1] (lW 2 (gJ 2 (ao [] (lW 3 (ao [F9 (tm 21) (tm 10) x.s] (gJ 3 (ao [] ?_))))))))));refine du ([(x.aL 1).en]++[x.uE (dN.by ⟨x.sw,g,nx,i,h⟩ k),k.wE (c+1) (e+1),dE k.d x.s n U (d+1) (f+1),gE (a+1) (b+1)]) (eP kW ?_);exact uA [] [x.uE (dN.by ⟨x.sw,g,nx,i,h⟩ k),k.wE (c+1) (e+1),dE k.d x.s n U (d+1) (f+1),gE (a+1) (b+1)] _ (vd F) λm j=>⟨F,by rw[j];rfl⟩
end
section
open Go.Conc (G)
theorem UT{P:aA}{c:Region.Mode}{ops:af bh}{Q:Exit->Act->au->Prop}{S b:au->Prop}(h:∀w,S w->b w):∀(n:Nat)(l:af Bool)(a:Act)(w:au),wpAnyH P c ops Q S n l a w->wpAnyH P c ops Q b n l a w
 |0,_,_,_,q=>q
 |n+1,_,_,_,q=>⟨q.1,λi f=>wpOp_mono (λe d⟨g,j⟩=>⟨h d g,UT h n _ e d j⟩) (q.2 i f)⟩
def jK(P:aA)(X:Cx)(ops:af bh)(k:ae aK)(O:ae En->Prop)(n:Nat)(l:af Bool)(V:ae bV)(W:Env)(L:ae En):Prop:=X.kind≠.early->∀c b a w(S:au->Prop),(∀L w,O L->Kn (L++X.L2) w.heap->S w)->S w->gI X.N W a.tmps->a.defers=V->Kn (L++X.L2) w.heap->w.os=c->w.output=b->wpAnyH P .any ops (q0 P X k c b) S n l a w
section
variable {P:aA}{X:Cx}{ops:af bh}{k:ae aK}{O:ae En->Prop}{n:Nat}{l:af Bool}{V:ae bV}{W:Env}{L:ae En}
theorem Om(h:Rs P X k V W L)(m:nq .any ops l=[]:=by kernel_rfl):jK P X ops k O 0 l V W L:=λc o b a w S p q d e f g j=>
 wpAnyH_done m ((Fl.nil (ops:=ops) h) o b a w c d e f g j) 0
theorem Dp(r:ae Nat)(h:Kt (λi=>jT P X ops i V W L λV W L=>O L/\jK P X ops k O n (l.setIfInBounds i U) V W L) r)(b:(nq .any ops l,r.isEmpty)=(r,Y):=by kernel_rfl):jK P X ops k O (n+1) l V W L:=λq z d a w S c G s t u v x=>by
 simp only[fK]at b;obtain⟨b,m⟩:=b;refine wpAnyH_all (rs:=r) b (λe=>by rw[e]at m;cases m) λi y=>wpOp_mono (λp g⟨J,H,j,⟨o,A⟩,B,C,f,D,E⟩=>⟨c j g o f,A q z d p g S c (c j g o f) B C f (D.trans v) (E.trans x)⟩) (O5 h y _ a w s t u)
theorem FH(b:ae Nat)(e:ae (Aw P))(h:jK P X ops k (λd=>O d/\lz P X.N ops L b e W d) n (marks b l) V (wP ops b (nM P X.N ops L b e W) W) L)
  (q:(vA .any ops ops.size b l,Dj ops)=(U,U):=by kernel_rfl)
  (s:gS P X.N ops L b e W=(Z (nM P X.N ops L b e W),U,(gS P X.N ops L b e W).2.2.map Pr.rf):=by kernel_rfl):jK P X ops k O (n+b.length) l V W L:=λy v g a w S G u B C p D E=>by
 simp only[fK]at q;unfold lz at h;generalize nM P X.N ops L b e W=t at s h;let j:au->Prop:=λw=>S w/\∃d,Kn (d++X.L2) w.heap/\gS P X.N ops d b e W=(Z t,U,(gS P X.N ops d b e W).2.2.map Pr.rf);have r:∀w,j w->yV P X.N ops X.L2 b W t w:=λw⟨_,d,m,o⟩=>Nr o m;refine UT (S:=j) (λw h=>h.1) _ _ _ _ ?_;exact Kc (P:=P) (Q:=q0 P X k v g) (md:=.any) (f:=n) (S:=j) (λc a J w h=>by cases h.1) q.2 b l a W t w B r q.1 ⟨u,L,p,s⟩ λx z A=>h y v g x w j (λd H m o=>⟨G d H m.1 o,d,o,m.2⟩) ⟨u,L,p,s⟩ z (A.trans C) p D E
theorem acP{ι:Type}(E:ι->Env)(LL:ι->ae En)(h:∀i,Rs P X k V (E i) (LL i))(a:(∀i,Rs P X k V (E i) (LL i))->jK P X ops k O n l V W L):jK P X ops k O n l V W L:=a h
variable {i:Nat}{T:ae bV->Env->ae En->Prop}
theorem qf{P:aA}{N:Nat}{ops:af bh}{L c:ae En}{b:ae Nat}{a:ae (Aw P)}{W:Env}(h:gS P N ops c b a W=(Z (nM P N ops L b a W),U,(gS P N ops c b a W).2.2.map Pr.rf):=by kernel_rfl):lz P N ops L b a W c:=h
theorem Uv(a:ae (Aw P))(h:T (fC P X.N ops V W L i a .w).ds (fC P X.N ops V W L i a .w).env (fC P X.N ops V W L i a .w).L)
 (b:O (fC P X.N ops V W L i a .w).L:=by first|exact True.intro|exact⟨True.intro,qf⟩|exact⟨⟨True.intro,qf⟩,qf⟩|exact⟨⟨⟨True.intro,qf⟩,qf⟩,qf⟩)
 (c:(fC P X.N ops V W L i a .w).pr=(fC P X.N ops V W L i a .w).rf:=by kernel_rfl):jT P X ops i V W L λV W L=>O L/\T V W L:=jT.ev a ⟨b,h⟩ c
theorem Uw(a:Nat->ae (Aw P))(h:∀z,T (fC P X.N ops V W L i (a z) (.n z)).ds (fC P X.N ops V W L i (a z) (.n z)).env (fC P X.N ops V W L i (a z) (.n z)).L)
 (b:∀z,O (fC P X.N ops V W L i (a z) (.n z)).L:=by intro z;first|exact True.intro|exact⟨True.intro,qf⟩|exact⟨⟨True.intro,qf⟩,qf⟩|exact⟨⟨⟨True.intro,qf⟩,qf⟩,qf⟩)
 (c:∀z,(fC P X.N ops V W L i (a z) (.n z)).pr=(fC P X.N ops V W L i (a z) (.n z)).rf:=by intro z;kernel_rfl):jT P X ops i V W L λV W L=>O L/\T V W L:=jT.new a (λz=>⟨b z,h z⟩) c
theorem Kz(b:ae Nat){d:ae En}{a:af ag}{R:ag->ae En->Prop}(g:Fl P f a d R)(h:∀v c,R v c->O (fill b c L)/\T V (pe W (ru ops i) v) (fill b c L))
  (e:outs b L=Z (d,left b L):=by kernel_rfl)
  (j:((Au ops W i).bind (λs=>(sE P s .r [] [] []).map λq=>(q.1,q.2.2.2.2)),fits X.N (ru ops i))=(Z (.enter f a,[]),U):=by kernel_rfl):jT P X ops i V W L λV W L=>O L/\T V W L:=
 HG g (wL e) (λ_=>Lz e) h j
theorem KA{R T:Prop}(h:T)(a:R:=by first|exact True.intro|exact⟨True.intro,qf⟩|exact⟨⟨True.intro,qf⟩,qf⟩|exact⟨⟨⟨True.intro,qf⟩,qf⟩,qf⟩):R/\T:=⟨a,h⟩
end
theorem Up{P:aA}{X:Cx}{a:ae aK}{V:ae bV}{W:Env}{L:ae En}(n:Nat)
  (d:jK P X (iA a) (pT a) (λ_=>True) n (pG (iA a).size Y) V W L)
  (j:P.follows .mixedOrders=U:=by kernel_rfl)(c:(EB a,n)=(U,(iA a).size):=by kernel_rfl):Rs P X a V W L:=λf b H m h w e=>by
 subst e;simp only[fK]at c;obtain⟨g,rfl⟩:=c;obtain⟨id,ops,k,rfl⟩:=Jp g;simp only[iA,pT]at d;refine Rn.code ?_;refine wp_region_held (S:=λ_=>True) j ?_;exact d f w.os w.output ⟨b,V⟩ {w with drawn:=w.drawn+1} (λ_=>True) (λ_ _ _ _=>trivial) trivial m F h F F
theorem Ny{L d:ae En}{i:Nat}{S:Hp}{a:ae Nat}{b:Nat}(f:Kn (L++d) H)(g:L[i]?=Z (.ro S a))(c:S[b]?=Z o)(e:b≠8)(m:b≠10)(j:b∉a):H[b]?=Z o:=by
 have h:=f.at g;rw[<-c];exact h.2 b (aE c) e m j
theorem roB{P:aA}{L A:ae En}(i:Nat)(S:Hp)(h:ae Nat)(b:Nat)(o:Obj)(s:Sem Next)(v:ag)(g:ae (Aw P))(D:S[b]?=Z o)(B:b≠8)(G:b≠10)(f:b∉h)(E:L[i]?=Z (.ro S h):=by kernel_rfl)(a:((sE P s .r [.ob b o] g []).map λq=>(q.1,q.2.2.2.2))=Z (.value v,match sE P s .r [.ob b o] g []with
                                                                                                                                                                         |some q=>q.2.2.2.2.map Pr.rf
                                                                                                                                                                         |none=>[]):=by kernel_rfl):nS P A L s λu y=>u=v/\y=L:=λw p=>by
 obtain⟨⟨v',z,H,J,K⟩,d,c⟩:=gV.1 a;rw[d]at c;simp only[fK]at c;obtain⟨rfl,C⟩:=c;have m:=ym C;have j:Kn ([.ob b o]++[]) w.heap:=⟨λe a=>by
  simp only[xb,yL]at a;subst a;exact Ny p E D B G f,by simp⟩
 obtain⟨t,r,_⟩:=zQ _ _ _ _ _ [] _ _ _ _ _ w d m j (λx f=>by cases f);obtain⟨rfl,_⟩:=E' _ _ _ _ _ w t d r j.left m;exact⟨v,t,L,r,F,F,⟨F,F⟩,p⟩
theorem Kn.K6{L g:ae En}{i:Nat}{S:Hp}{d:ae Nat}{b:Nat}(j:Kn (L++g) H)(m:L[i]?=Z (.ro S d))(t:S[b]?=Z o)(s:b≠8)(v:b≠10)(f:b∉d):Kn (L.set i (.ro S (b::d))++[.ob b o]++g) H:=by
 have u:=j.at m;have q:H[b]?=Z o:=Ny j m t s v f;have r:Kn (L.set i (.ro S (b::d))++g) H:=xi j m ⟨u.1,λx E G q3 J=>u.2 x E G q3 λh=>J (eK _ h)⟩ (λx f=>.inl ⟨f.1,f.2.1,f.2.2.1,λh=>f.2.2.2 (eK _ h)⟩) (df _) λx _ _=>rfl;refine Kn.perm (L:=.ob b o::(L.set i (.ro S (b::d))++g)) ⟨λe c=>?_,nQ.2 ⟨λe c x C p=>?_,r.nd⟩⟩ (by simpa using(pK (a:=En.ob b o) (l₁:=L.set i (.ro S (b::d))) (l₂:=g)).symm)
 ·rcases bQ.1 c with rfl|c
  ·exact q
  ·exact r.sat e c
 ·cases C
  obtain⟨A,B,rfl,lL⟩:=NX m;rw[lL,gw]at c;rw[gw]at j;have y:=j.nd;rw[Di]at y;obtain⟨_,w,D⟩:=y;rw[List.cons_append,nQ]at w;have z:(En.ro S d).own b:=⟨aE t,s,v,f⟩;rcases Ad.1 c with c|c
  ·exact D e c (.ro S d) (fu ..) b p z
  ·rcases bQ.1 c with rfl|c
   ·exact p.2.2.2 (fu ..)
   ·exact w.1 e c b z p
theorem Kn.back{A j:ae En}{S:Hp}{g:ae Nat}{b:Nat}(d:Kn (.ro S (b::g)::.ob b o::(A++j)) H)(s:S[b]?=Z o):Kn (.ro S g::(A++j)) H:=by
 have q:=d.nd;rw[nQ,nQ]at q;obtain⟨t,u,v⟩:=q;have p:(En.ro S (b::g)).holds H:=d.sat _ (fu ..);have r:H[b]?=Z o:=d.sat (.ob b o) (eK _ (fu ..));refine⟨λe a=>?_,nQ.2 ⟨λe a x c f=>?_,v⟩⟩
 ·rcases bQ.1 a with rfl|a
  ·refine⟨p.1,λx c f q3 w=>?_⟩
   by_cases e:x=b
   ·subst e;rw[r,s]
   ·exact p.2 x c f q3 λh=>(bQ.1 h).elim e w
  ·exact d.sat e (eK _ (eK _ a))
 ·by_cases m:x=b
  ·subst m
   exact u e a x F f
  ·exact t e (eK _ a) x ⟨c.1,c.2.1,c.2.2.1,λh=>(bQ.1 h).elim m c.2.2.2⟩ f
theorem Fl.K6{P:aA}{g:af ag}{S:Hp}{d:ae Nat}{b:Nat}{j:ae En}{R:ag->ae En->Prop}(p:S[b]?=Z o)(s:b≠8)(y:b≠10)(x:b∉d)(h:Fl P f g (.ob b o::j) λv L=>∃c,R v c/\L=.ob b o::c):Fl P f g (.ro S d::j) λv L=>∃c,R v c/\L=.ro S d::c:=λm H t w e=>by
 have q:=Kn.K6 (i:=0) t F p s y x;have r:Kn ((.ob b o::j)++(.ro S (b::d)::m)) H:=q.perm (by
  simp only[List.set_cons_zero,List.cons_append,gw,List.nil_append];refine((pK (a:=En.ob b o) (l₁:=En.ro S (b::d)::j) (l₂:=m))).trans ?_;exact((pK (a:=En.ro S (b::d)) (l₁:=j) (l₂:=m)).symm.cons _))
 refine Fn.mono (h (.ro S (b::d)::m) H r w e) ?_;rintro v D ⟨z,B,_,⟨c,u,rfl⟩,C⟩;refine⟨z,B,.ro S d::c,⟨c,u,F⟩,?_⟩;refine Kn.back (A:=c) (b:=b) (o:=o) (C.perm ?_) p;simp only[List.cons_append];exact((pK (a:=En.ro S (b::d)) (l₁:=c) (l₂:=m)).cons _).trans (BH ..)
end
section
open Go.Conc (G)
section
variable {P:aA}{X:Cx}{W:ae aK}{T:ae bV}{V:Env}{L:ae En}
abbrev G5(n:Nat)(P:aA)(X:Cx)(W:ae aK)(T:ae bV)(V:Env)(L:ae En)(a:ae (Aw P))(z:Md:=.w):Cf P:=mE X.N n ⟨W,T,V,L,z,a,[]⟩
theorem FD(n:Nat)(a:ae (Aw P))(k:Rs P X (G5 n P X W T V L a).todo (G5 n P X W T V L a).ds (G5 n P X W T V L a).env (G5 n P X W T V L a).L)(j:(G5 n P X W T V L a).pr=(G5 n P X W T V L a).rf:=by kernel_rfl):Rs P X W T V L:=λc b H l i w e=>by
 subst e;obtain⟨o,p,f,g,h,d⟩:=RN (fn:=X.fn) (cs:=X.cs) (L2:=X.L2) (N:=X.N) c n ⟨W,T,V,L,.w,a,[]⟩ b w (DV j) ⟨l,i,λx m=>by cases m⟩;exact Rh.steps f g h (k c o p.heap d.env d.kn)
theorem vK(a:ae (Aw P))(v:ag)(f:ae En)(h:Rs P X (qQ W) T (pe V (ky W) v) f)(b:((mG W V).bind (λs=>(sE P s .w L a []).map λq=>(q.1,q.2.2.1,q.2.2.2.1.isEmpty,q.2.2.2.2)),fits X.N (ky W))=(gH (.value v,f,U,(((mG W V).bind (λs=>(sE P s .w L a []).map λq=>q.2.2.2.2)).getD []).map Pr.rf),U):=by kernel_rfl):Rs P X W T V L:=by
 simp only[fK]at b;obtain⟨b,y⟩:=b;obtain⟨s,g,r⟩:=m4.1 b;obtain⟨⟨n,z,d,m,c⟩,i,j⟩:=gV.1 r;simp only[fK]at j;obtain⟨rfl,rfl,_,k⟩:=j;have o:∀p∈c,p.ok:=ym (by
  have e:(((mG W V).bind (λs=>(sE P s .w L a []).map λq=>q.2.2.2.2)).getD [])=c:=by rw[g];show((sE P s .w L a []).map _).getD []=c;rw[i];rfl
  rw[e]at k;exact k)
 refine iW (s:=s) (Q:=λu l=>u=v/\l=d) (λw t=>?_) (λu l A=>?_) (by rw[g,y])
 ·obtain⟨H,C,D,E,G,_⟩:=zQ s .w z L d X.L2 a m [] c _ w i o t (λx B=>by cases B)
  exact⟨v,H,d,C,D,E,⟨F,F⟩,G⟩
 ·obtain⟨rfl,rfl⟩:=A
  exact h
theorem Us(c:ae (Aw P))(v:Nat->ag)(b:Nat->ae En)(h:∀y,Rs P X (qQ W) T (pe V (ky W) (v y)) (b y))(a:∀y,((mG W V).bind (λs=>(sE P s (.n y) L c []).map λq=>(q.1,q.2.2.1,q.2.2.2.1.isEmpty,q.2.2.2.2)),fits X.N (ky W))=(gH (.value (v y),b y,U,(((mG W V).bind (λs=>(sE P s (.n y) L c []).map λq=>q.2.2.2.2)).getD []).map Pr.rf),U):=by intro y;kernel_rfl):Rs P X W T V L:=by
 have f:=a 0;simp only[fK]at f;obtain⟨f,B⟩:=f;obtain⟨s,g,_⟩:=m4.1 f;refine iW (s:=s) (Q:=λu m=>∃y,u=v y/\m=b y) (λw A=>?_) (λu m C=>?_) (by rw[g,B])
 ·have a:=a w.heap.size
  simp only[fK]at a;obtain⟨a,_⟩:=a;obtain⟨N,l,t⟩:=m4.1 a;rw[g]at l;cases l;obtain⟨⟨n,z,M,o,d⟩,i,j⟩:=gV.1 t;simp only[fK]at j;obtain⟨rfl,rfl,_,k⟩:=j;have r:∀p∈d,p.ok:=ym (by
   have e:(((mG W V).bind (λs=>(sE P s (.n w.heap.size) L c []).map λq=>q.2.2.2.2)).getD [])=d:=by rw[g];show((sE P s (.n w.heap.size) L c []).map _).getD []=d;rw[i];rfl
   rw[e]at k;exact k)
  obtain⟨K,E,G,H,J,_⟩:=zQ s (.n w.heap.size) z L (b w.heap.size) X.L2 c o [] d _ w i r A (λx D=>by cases D;rfl);exact⟨v w.heap.size,K,b w.heap.size,E,G,H,⟨w.heap.size,F,F⟩,J⟩
 ·obtain⟨y,rfl,rfl⟩:=C
  exact h y
theorem nS.val{b:ae En}{s:Sem Next}{v:ag}(p:∀w,s.run P w=.ok (.value v) w):nS P b L s λu a=>u=v/\a=L:=λw c=>⟨v,w,L,p w,F,F,⟨F,F⟩,c⟩
end
def taS(x:ag)(a b:aJ)(c:Bool):Sem Next:=qo (Instr.typeAssert x a b c) λv=>.pure (.value v)
theorem awz{P:aA}{x v:ag}{a b:aJ}{c:Bool}(h:∀w,(Instr.typeAssert x a b c).run P w=.ok v w)(w:au):(taS x a b c).run P w=.ok (.value v) w:=by
 show((Instr.typeAssert x a b c)>>=λv=>(ayU (lT v):Sem Next)).run P w=_;rw[eJ,h w];rfl
def Yr(P:aA)(t b:aJ):aj Bool:=match P.underlying b with
 |some (.interface a)=>(P.info? t).map λi=>(lacking a i.methods).isEmpty
 |_=>I
theorem N6{P:aA}{L f:ae En}(t a b:aJ)(v:ag)(h:(Yr P t b,(P.info? b).map (·.zero))=(Z Y,Z (Z .nilIface)):=by kernel_rfl):nS P f L (taS (.iface t v) a b U) λu e=>u=.tuple #[.nilIface,.bool Y]/\e=L:=by
 simp only[fK]at h;obtain⟨c,g⟩:=h;unfold Yr at c;split at c
 ·rename_i d i
  exact nS.val (awz λw=>run_typeAssert_lacksB i c g v a w)
 ·cases c
abbrev aY(a:aR):ag:=.iface 272 (.pointer (Z a))
def B4(c:BinOp)(t:aJ)(p q:gU)(a b:ag):Sem Next:=qo (qo (kX c t p q a b) λ_=>binOp c t a b) λv=>.pure (.value v)
theorem Lc{c:BinOp}{t:aJ}{p q:gU}{a b v:ag}(d:(kX c t p q a b).run Sv w=.ok () w)(e:(binOp c t a b).run Sv w=.ok v w):(B4 c t p q a b).run Sv w=.ok (.value v) w:=by
 show(((kX c t p q a b)>>=λ_=>binOp c t a b)>>=λv=>(ayU (lT v):Sem Next)).run Sv w=_;rw[eJ,eJ,d];simp only[eh];rw[e];rfl
theorem T6:∃a,Sv.underlying 78=Z (.interface a):=by
 have h:(match Sv.underlying 78 with
  |some (.interface _)=>U
  |_=>Y)=U:=by kernel_rfl
 split at h
 ·rename_i a b;exact⟨a,b⟩
 ·cases h
theorem SB(t e:aJ)(h:(Sv.underlying t,(Sv.info? t).map (·.comparable),(Sv.info? e).map λi=>Nat.ble 1 i.size)=(Z (.pointer e),Z U,Z U)):Sv.underlying t=Z (.pointer e)/\(∃i,Sv.info? t=Z i/\i.comparable=U)/\∃j,Sv.info? e=Z j/\j.size≠0:=by
 simp only[fK]at h;obtain⟨a,b,c⟩:=h;obtain⟨i,f,d⟩:=gV.1 b;obtain⟨j,g,k⟩:=gV.1 c;exact⟨a,⟨i,f,d⟩,j,g,by have:=yP k;omega⟩
theorem agq(t e:aJ)(p q:gU)(a:aR)(h:(Sv.underlying t,(Sv.info? t).map (·.comparable),(Sv.info? e).map λi=>Nat.ble 1 i.size)=(Z (.pointer e),Z U,Z U))(w:au):(B4 .eql 78 p q (.iface t (.pointer (Z a))) (.iface t (.pointer (Z a)))).run Sv w=.ok (.value (.bool U)) w:=by
 obtain⟨l,g⟩:=T6;obtain⟨b,⟨i,d,c⟩,j,f,k⟩:=SB t e h;exact Lc (by rfl) (run_eql_iface_ptr_same w a g b d c f)
theorem an9(t e:aJ)(p q:gU)(a:aR)(h:(Sv.underlying t,(Sv.info? t).map (·.comparable),(Sv.info? e).map λi=>Nat.ble 1 i.size)=(Z (.pointer e),Z U,Z U))(w:au):(B4 .neq 78 p q (.iface t (.pointer (Z a))) (.iface t (.pointer (Z a)))).run Sv w=.ok (.value (.bool Y)) w:=by
 obtain⟨m,k⟩:=T6;obtain⟨c,⟨i,f,d⟩,j,g,l⟩:=SB t e h;refine Lc (by rfl) ?_;have:=run_eql_iface_ptr_same (P:=Sv) w a k c f d g;simp only[binOp]at this⊢;rw[eJ]at this⊢;cases hr:bx Sv (Op.equal 78 (.iface t (.pointer (Z a))) (.iface t (.pointer (Z a)))) w with
 |ok b n=>
  rw[hr]at this;simp only[eh]at this⊢;cases this;rfl
 |halt=>rw[hr]at this;cases this
abbrev VV(t e:aJ)(p q:gU)(a:aR)(h:(Sv.underlying t,(Sv.info? t).map (·.comparable),(Sv.info? e).map λi=>Nat.ble 1 i.size)=(Z (.pointer e),Z U,Z U):=by kernel_rfl):Aw Sv:=.s (B4 .eql 78 p q (.iface t (.pointer (Z a))) (.iface t (.pointer (Z a)))) (.value (.bool U)) (agq t e p q a h)
abbrev Zf(t e:aJ)(p q:gU)(a:aR)(h:(Sv.underlying t,(Sv.info? t).map (·.comparable),(Sv.info? e).map λi=>Nat.ble 1 i.size)=(Z (.pointer e),Z U,Z U):=by kernel_rfl):Aw Sv:=.s (B4 .neq 78 p q (.iface t (.pointer (Z a))) (.iface t (.pointer (Z a)))) (.value (.bool Y)) (an9 t e p q a h)
structure Dm(S:Hp)(ex:ae Nat)(a:aR):Prop where
 ob:∃c t,S[a.block]?=Z (.cells c t (0,0))
 n8:a.block≠8
 n10:a.block≠10
 nx:a.block∉ex
theorem eqN{L g:ae En}(i:Nat)(S:Hp)(c:ae Nat)(p q:gU)(a b:aR)(l:Dm S c a)(m:Dm S c b)(h:a≠b)(e:L[i]?=Z (.ro S c):=by kernel_rfl):nS Sv g L (B4 .eql 78 p q (aY a) (aY b)) λu f=>u=.bool Y/\f=L:=λw d=>by
 obtain⟨H,r⟩:=T6;obtain⟨k,⟨t,v,n⟩,j,o,s⟩:=SB 272 292 av;obtain⟨⟨E,J,x⟩,y,q3,C⟩:=l;obtain⟨⟨G,K,z⟩,A,B,D⟩:=m;exact⟨_,w,L,Lc (by rfl) (run_eql_iface_ptr_other w r k v n o s h (Ny d e x y q3 C) (Ny d e z A B D)),F,F,⟨F,F⟩,d⟩
end
section
open Go.Conc (G)
abbrev ib(i:Nat):ag:=.iface 235 (.agg #[.pointer (Z ⟨6,i,I⟩)])
theorem acR{X:Cx}{c:af bh}{k:ae aK}{f:ae En->Prop}{l:af Bool}{g:ae bV}{b:Env}(d:Env)(h:jK P X c k f n l g d L)(u:d.map (λp=>lk b p.1)=d.map λp=>Z p.2:=by kernel_rfl):jK P X c k f n l g b L:=λj z e a w S s y i m o q r=>
 h j z e a w S s y ⟨i.size,λt v x=>i.get t v (MR d t v u x)⟩ m o q r
theorem acd (q:Nat) (nm:ByteArray) (i:Int) (er:Value):Fl Sv 62 [pt q].toArray [iI q nm i er] λv L=>v=er∧L=[iI q nm i er]:=by
 refine Fl.of 7 λb a=>ao [0] (a7 [] [er] _ ⟨rfl,rfl⟩)
theorem alc (S:Hp) (ex:List Nat) (q:Nat) (nm:ByteArray) (at_:Int) (o p:Addr) (ho:Dm S ex o) (hp:Dm S ex p):Fl Sv 109 [.iface 154 (pt q),aY o,.bool true].toArray [.ro S ex,iI q nm at_ (aY p)] λv L=>(v=.bool (decide (p=o)))∧L=[.ro S ex,iI q nm at_ (aY p)]:=by
 refine Fl.of 54 λb a=>ao [.g,.d,.x] (FD 8 [] (iW (N6 154 78 244 (pt q)) ?_));rintro _ _ ⟨rfl,rfl⟩;refine ao [] (c5 [1] (acd q nm at_ (aY p)) ?_);rintro _ _ ⟨rfl,rfl⟩;by_cases h:p=o
 ·subst h
  refine ao [.d] (ao [.g,VV 272 292 (tm 16) (tm 17) p] ?_);exact a7 [] [.bool true] _ ⟨by simp[qg],rfl⟩
 ·refine ao [.d] (ao [.g] (iW (eqN 0 S ex (tm 16) (tm 17) p o hp ho h) ?_))
  rintro _ _ ⟨rfl,rfl⟩;refine FD 8 [] (iW (N6 272 78 244 (.pointer (some p))) ?_);rintro _ _ ⟨rfl,rfl⟩;refine FD 24 [] (iW (N6 272 78 242 (.pointer (some p))) ?_);rintro _ _ ⟨rfl,rfl⟩;refine FD 6 [] (iW (N6 272 78 243 (.pointer (some p))) ?_);rintro _ _ ⟨rfl,rfl⟩;exact ao [] (a7 [] [.bool false] _ ⟨by simp[qg,h],rfl⟩)
theorem ale(S:Hp)(b:ae Nat)(q:Nat)(c:ByteArray)(a:Int)(o p:aR)(d:Dm S b o)(e:Dm S b p):Fl Sv 64 [.iface 154 (pt q),aY o].toArray [.ro S b,iI q c a (aY p)] λv L=>(v=.bool (decide (p=o)))/\L=[.ro S b,iI q c a (aY p)]:=by
 refine Fl.of 22 λg f=>ao [.d,.d] (vK [] (ib 272) [.ro S b,iI q c a (aY p)] (ao [] (vK [] (.bool U) [.ro S b,iI q c a (aY p)] (ao [] (c5 [0,1] (alc S b q c a o p d e) ?_)))));rintro _ _ ⟨rfl,rfl⟩;exact ao [] (a7 [] [.bool (decide (p=o))] _ ⟨F,F⟩)
abbrev NB(i y n:Nat):ag:=.agg #[.pointer (Z ⟨6,i,I⟩),pt y,.int .u64 n]
theorem adx (q t z:Nat):Fl Sv 107 [.iface 154 (pt q),.iface 156 (pt t),NB 156 z 150,ib 154].toArray [.ob t (.cells #[.pointer none] 154),.ob z (.cells #[pt t] 156)] λv L=>v=.bool true∧L=[.ob t (.cells #[pt q] 154),.ob z (.cells #[pt t] 156)]:=by
 refine Fl.of 62 λb a=>cd (λ_=>[.g]) λx=>?_;refine vK [] (ib 154) [.ob t (.cells #[.pointer none] 154),.ob z (.cells #[pt t] 156),.ob x (.cells #[.pointer (some ⟨6,156,none⟩),pt z,.int .u64 150] 199)] (ao [] ?_);refine vK [] (.bool true) [.ob t (.cells #[.pointer none] 154),.ob z (.cells #[pt t] 156),.ob x (.cells #[.pointer (some ⟨6,156,none⟩),pt z,.int .u64 150] 199)] (ao [2,2,2] ?_);refine vK [1] (NB 154 t 406) [.ob t (.cells #[.pointer none] 154),.ob z (.cells #[pt t] 156),.ob x (.cells #[.pointer (some ⟨6,156,none⟩),pt z,.int .u64 150] 199)] (ao [] ?_);refine Us [] (λy=>NB 154 y 150) (λy=>[.ob t (.cells #[.pointer none] 154),.ob z (.cells #[pt t] 156),.ob x (.cells #[.pointer (some ⟨6,156,none⟩),pt z,.int .u64 150] 199),.ob y (.cells #[pt q] 154)]) λy=>ao [] ?_;refine vK [3,0] (.tuple #[]) [.ob t (.cells #[pt q] 154),.ob z (.cells #[pt t] 156),.ob x (.cells #[.pointer (some ⟨6,156,none⟩),pt z,.int .u64 150] 199),.ob y (.cells #[pt q] 154)] (ao [] ?_);exact a7 [2,3] [.bool true] _ ⟨rfl,rfl⟩
theorem ady (q t:Nat):Fl Sv 61 [.iface 154 (pt q),.iface 156 (pt t)].toArray [.ob t (.cells #[.pointer none] 154),.ob 5 (.cells #[ib 78] 202)] λv L=>v=.bool true∧L=[.ob t (.cells #[pt q] 154),.ob 5 (.cells #[ib 78] 202)]:=by
 refine Fl.of 42 λb a=>ao [.d,.d] ?_;refine Us [] (λy=>NB 156 y 150) (λy=>[.ob t (.cells #[.pointer none] 154),.ob 5 (.cells #[ib 78] 202),.ob y (.cells #[pt t] 156)]) λz=>cd (λ_=>[3,3,3,3,3,3]) λx=>?_;refine vK [] (ib 156) [.ob t (.cells #[.pointer none] 154),.ob 5 (.cells #[ib 78] 202),.ob z (.cells #[pt t] 156),.ob x (.cells #[.pointer (some ⟨6,156,none⟩),pt z,.int .u64 150] 199)] (ao [] ?_);refine vK [] (.int .u8 22) [.ob t (.cells #[.pointer none] 154),.ob 5 (.cells #[ib 78] 202),.ob z (.cells #[pt t] 156),.ob x (.cells #[.pointer (some ⟨6,156,none⟩),pt z,.int .u64 150] 199)] (ao [.d,3,3,3] ?_);refine vK [2] (.bool false) [.ob t (.cells #[.pointer none] 154),.ob 5 (.cells #[ib 78] 202),.ob z (.cells #[pt t] 156),.ob x (.cells #[.pointer (some ⟨6,156,none⟩),pt z,.int .u64 150] 199)] (ao [] ?_);refine vK [] (ib 154) [.ob t (.cells #[.pointer none] 154),.ob 5 (.cells #[ib 78] 202),.ob z (.cells #[pt t] 156),.ob x (.cells #[.pointer (some ⟨6,156,none⟩),pt z,.int .u64 150] 199)] (ao [] ?_);refine vK [] (.int .u8 22) [.ob t (.cells #[.pointer none] 154),.ob 5 (.cells #[ib 78] 202),.ob z (.cells #[pt t] 156),.ob x (.cells #[.pointer (some ⟨6,156,none⟩),pt z,.int .u64 150] 199)] (ao [.d,1] ?_);refine vK [] (.bool true) [.ob t (.cells #[.pointer none] 154),.ob 5 (.cells #[ib 78] 202),.ob z (.cells #[pt t] 156),.ob x (.cells #[.pointer (some ⟨6,156,none⟩),pt z,.int .u64 150] 199)] (ao [3,3,3] ?_);refine c5 [0,2] (adx q t z) ?_;rintro _ _ ⟨rfl,rfl⟩;exact ao [] (a7 [2,3] [.bool true] _ ⟨rfl,rfl⟩)
theorem agO(A:Nat→Addr):Fl Sv 63 [].toArray [aP 0 (aY (A 0)),aP 1 (aY (A 1)),aP 2 (aY (A 2)),aP 3 (aY (A 3)),aP 4 (aY (A 4))] λv L=>∃z,v=sv (some z) 5 5∧L=[aP 0 (aY (A 0)),aP 1 (aY (A 1)),aP 2 (aY (A 2)),aP 3 (aY (A 3)),aP 4 (aY (A 4)),.ob z (.cells #[aY (A 0),aY (A 1),aY (A 2),aY (A 3),aY (A 4)] 78)]:=by
 refine Fl.of 7 λb a=>cd (λ_=>[0,1,2,3,4]) λz=>dH [sv (some z) 5 5] _ ⟨z,rfl,rfl⟩
theorem Sj(b:ByteArray)(a:Int):Fl Sv 40 [.nilIface,.string b,goInt a].toArray [] λv L=>v=goInt 0∧L=[]:=by
 refine Fl.of 60 λd c=>ao [.d] (dH [goInt 0] _ ⟨rfl,rfl⟩)
def c7(S:Hp)(a:ae Nat)(A:Nat->aR):ae En:=[.ro S a,aP 0 (aY (A 0)),aP 1 (aY (A 1)),aP 2 (aY (A 2)),aP 3 (aY (A 3)),aP 4 (aY (A 4)),.ob 5 (.cells #[ib 78] 202)]
structure xh(S:Hp)(ex:ae Nat)(A:Nat->aR):Prop where
 ok:∀i,i<5->Dm S ex (A i)
 inj:∀i j,i<5->j<5->A i=A j->i=j
theorem Sk (S:Hp) (ex:List Nat) (A:Nat→Addr) (hA:xh S ex A) (q j:Nat) (hj:j<5) (nm:ByteArray) (at_:Int):Fl Sv 40 [.iface 154 (pt q),.string nm,goInt at_].toArray (c7 S ex A++[iI q nm at_ (aY (A j))]) λv L=>v=goInt ((j+1:Nat):Int)∧L=c7 S ex A++[iI q nm at_ (aY (A j))]:=by
 refine Fl.of 60 λl k=>cd (λ_=>[.d]) λt=>?_;refine Up 35 (FH (n:=33) [0,1] [] (Dp [2] ⟨Kz [8,6] (ady q t) ?_,trivial⟩));rintro _ _ ⟨rfl,rfl⟩;refine KA ?_;refine FH (n:=3) [3,4,5,6,7,8,9,10,11,12,13,14,15,16,17,18,19,20,21,22,23,24,25,26,27,29,30,31,32] [8,Zf 154 158 (tm 17) (tm 19) ⟨q,0,none⟩,8,7,bB (a:=!(nm.toList==nm.toList)) (b:=false) aZ,8,7,oO at_ at_ rfl,8,8,7] (acR [(0,.iface 154 (pt q)),(6,goInt 0),(38,.bool false),(39,pt q),(44,aY (A j))] (Dp [28] ⟨Kz [7] (acd q nm at_ (aY (A j))) ?_,trivial⟩));rintro _ _ ⟨rfl,rfl⟩;refine KA (FH (n:=0) [33,34] [Zf 272 292 (tm 40) (tm 44) (A j)] (Om ?_));refine ao [] (c5 [1,2,3,4,5] (agO A) ?_);rintro _ _ ⟨z,rfl,rfl⟩;refine ao [.g,.x] ?_;refine j4 (ι:=Nat) (λi=>5-i) (λi=>[(0,.iface 154 (pt q)),(47,sv (some z) 5 5),(48,goInt (5:Nat)),(49,goInt i),(6,goInt 0)]) (λ_=>[.ro S ex,aP 0 (aY (A 0)),aP 1 (aY (A 1)),aP 2 (aY (A 2)),aP 3 (aY (A 3)),aP 4 (aY (A 4)),.ob 5 (.cells #[ib 78] 202),iI q nm at_ (aY (A j)),.ob t (.cells #[pt q] 154),.ob z (.cells #[aY (A 0),aY (A 1),aY (A 2),aY (A 3),aY (A 4)] 78)]) (λi=>i≤j) 0 (Nat.zero_le _) ?_;intro i m h;have g:[aY (A 0),aY (A 1),aY (A 2),aY (A 3),aY (A 4)][i*1]?=some (aY (A i)):=by
  have f:i=0∨i=1∨i=2∨i=3∨i=4:=by omega
  rcases f with rfl|rfl|rfl|rfl|rfl<;>rfl
 refine ao [fp i (5:Nat),ix 159 1 z 5 5 i i ⟨rfl,by omega⟩,rr 9 g] ?_;refine c5 [0,7] (ale S ex q nm at_ (A i) (A j) (hA.ok i ai) (hA.ok j hj)) ?_;rintro _ _ ⟨rfl,rfl⟩;by_cases d:i=j
 ·subst d
  have c:decide (A i=A i)=true:=by simp
  rw[c];exact ao [aS i] (a7 [8,9] [goInt ((i+1:Nat):Int)] _ ⟨rfl,rfl⟩)
 ·have c:decide (A j=A i)=false:=decide_eq_false λe=>d (hA.inj i j ai hj e.symm)
  rw[c];refine ao [aS i,.g,.x] ?_;exact cx (h (i+1) ai ai)
end
section
open Go.Conc (G)
theorem apt{a b c:Int}{d:List En}{R:Nat→List En→Prop}(f:Fl Sv 38 [goInt a,goInt b,goInt c].toArray d λv L=>∃s,v=.tuple #[pt s,.nilIface]∧R s L):Fl Sv 21 [goInt a,goInt b,goInt c].toArray d λv L=>∃s,v=.tuple #[pt s,goInt 0]∧R s L:=by
 refine Fl.of 27 λi h=>ao [] (m5 [] d f ?_);rintro _ g ⟨s,rfl,e⟩;exact ao [.d] (dH [pt s,goInt 0] _ ⟨s,rfl,e⟩)
theorem aps{a b c:Int}(p:Addr)(h:a<1∨a>8∨b<1∨b>20∨c<0∨c>1000000):Fl Sv 21 [goInt a,goInt b,goInt c].toArray [aP 0 (aY p)] λv L=>v=.tuple #[.pointer none,goInt 1]∧L=[aP 0 (aY p)]:=by
 refine Fl.of 27 λe d=>ao [] (c5 [0] (aob a b c (aY p) h) ?_);rintro _ _ ⟨rfl,rfl⟩;exact ao [.d,0,VV 272 292 (tm 22) (tm 23) p] (a7 [] [.pointer none,goInt 1] _ ⟨rfl,rfl⟩)
theorem apu{i:Int}{a:List En}{R:Int→List En→Prop}(c:Fl Sv 41 [pt s,goInt i].toArray a λv L=>∃r,v=.tuple #[goInt r,.nilIface]∧R r L):Fl Sv 24 [pt s,goInt i].toArray a λv L=>∃r,v=.tuple #[goInt r,goInt 0]∧R r L:=by
 refine Fl.of 18 λf e=>ao [] (m5 [] a c ?_);rintro _ d ⟨r,rfl,b⟩;refine ao [] (BP (Sj ⟨#[80,105,99,107]⟩ i) ?_);rintro _ _ ⟨rfl,rfl⟩;exact ao [] (dH [goInt r,goInt 0] _ ⟨r,rfl,b⟩)
theorem ZL{S:Hp}{a:List Nat}{A:Nat→Addr}(c:xh S a A)(e:j<5){i:Int}{b L1:List En}(d:Fl Sv 41 [pt s,goInt i].toArray b λv L=>∃q,v=.tuple #[goInt 0,.iface 154 (pt q)]∧L=(c7 S a A++[iI q ⟨#[80,105,99,107]⟩ i (aY (A j))])++L1):Fl Sv 24 [pt s,goInt i].toArray b λv L=>v=.tuple #[goInt 0,goInt ((j+1:Nat):Int)]∧L=c7 S a A++L1:=by
 refine Fl.of 18 λg f=>ao [] (m5 [] b d ?_);rintro _ _ ⟨q,rfl,rfl⟩;refine du ((c7 S a A++[iI q ⟨#[80,105,99,107]⟩ i (aY (A j))])++L1) (fw _ _ (ao [] (m5 [] _ (Sk S a A c q j e ⟨#[80,105,99,107]⟩ i) ?_)));rintro _ _ ⟨rfl,rfl⟩;exact ao [] (dP [7] (eF (dH [goInt 0,goInt ((j+1:Nat):Int)] _ ⟨rfl,rfl⟩)))
theorem apy{a:List En}{R:Bool→List En→Prop}(c:Fl Sv 42 [pt s].toArray a λv L=>∃r,v=.tuple #[.bool r,.nilIface]∧R r L):Fl Sv 25 [pt s].toArray a λv L=>∃r,v=.tuple #[.bool r,goInt 0]∧R r L:=by
 refine Fl.of 14 λf e=>ao [] (m5 [] a c ?_);rintro _ d ⟨r,rfl,b⟩;refine ao [] (BP (Sj ⟨#[83,119,101,101,112]⟩ 0) ?_);rintro _ _ ⟨rfl,rfl⟩;exact ao [] (dH [.bool r,goInt 0] _ ⟨r,rfl,b⟩)
theorem apx{S:Hp}{a:List Nat}{A:Nat→Addr}(c:xh S a A)(e:j<5){b L1:List En}(d:Fl Sv 42 [pt s].toArray b λv L=>∃q,v=.tuple #[.bool false,.iface 154 (pt q)]∧L=(c7 S a A++[iI q ⟨#[83,119,101,101,112]⟩ 0 (aY (A j))])++L1):Fl Sv 25 [pt s].toArray b λv L=>v=.tuple #[.bool false,goInt ((j+1:Nat):Int)]∧L=c7 S a A++L1:=by
 refine Fl.of 14 λg f=>ao [] (m5 [] b d ?_);rintro _ _ ⟨q,rfl,rfl⟩;refine du ((c7 S a A++[iI q ⟨#[83,119,101,101,112]⟩ 0 (aY (A j))])++L1) (fw _ _ (ao [] (m5 [] _ (Sk S a A c q j e ⟨#[83,119,101,101,112]⟩ 0) ?_)));rintro _ _ ⟨rfl,rfl⟩;exact ao [] (dP [7] (eF (dH [.bool false,goInt ((j+1:Nat):Int)] _ ⟨rfl,rfl⟩)))
theorem ZE  {g0:Option Nat} {kJ:Nat} {pr:List Stp} {L0:List En} {Q:Int→Value→List En→Prop} {R:Int→Int→List En→Prop} (hl:pr.length≤4398046511104)
  (hf:∀g d,(pr=[]∨(0<pr.length∧∃A,g=some A))→Fl Sv 39 [pt s,sv g pr.length d].toArray (eB g d pr::L0) λv L=>∃id c a,v=.tuple #[goInt id,c]∧Q id c a∧L=eB g d pr::a)
  (hn:∀id c a,Q id c a→Fl Sv 40 [c,.string sf,goInt 0].toArray a λv L=>∃k,v=goInt k∧R id k L):
  Fl Sv 23 [pt s,sv g0 pr.length kJ].toArray (eB g0 kJ pr::L0) λv L=>∃id k a,v=.tuple #[goInt id,goInt k]∧R id k a∧L=eB g0 kJ pr::a:=by
 rcases Nat.eq_zero_or_pos pr.length with l|l
 ·have G:pr=[]:=List.length_eq_zero_iff.1 l
  subst G;refine Fl.of 31 λx w=>?_;refine fw [eB g0 kJ []] L0 (ao [YtgahemdblfapeaaGreatDoor.a0 45 3 none 0 0 (g0.map λb=>⟨b,0,none⟩) kJ (Nat.le_refl _)] (jJ 50 3 (eF ?_)));refine du ([eB g0 kJ []]++(eB none 0 []::L0)) ?_;refine m5 [eB g0 kJ []] _ (hf none 0 (.inl rfl)) ?_;rintro _ _ ⟨id,c,a,rfl,p,rfl⟩;refine fw [eB g0 kJ [],eB none 0 []] a (ao [.g,fH (0:Nat) (0:Nat)] (dP [1] (eF ?_)));refine m5 [eB g0 kJ []] _ (hn id c a p) ?_;rintro _ o ⟨k,rfl,q⟩;exact ao [] (dH [goInt id,goInt k] _ ⟨id,k,o,rfl,q,rfl⟩)
 ·rcases hg:g0 with _|g
  ·exact Fl.of 31 λx w=>yR 0 none pr.length kJ l rfl
  subst hg;refine Fl.of 31 λx w=>?_;refine fw [eB (some g) kJ pr] L0 (ao [] (jJ 50 3 (iW (UW 32 45 3 1 0 g 0 pr.length kJ 0 (pr.flatMap Stp.cells) (pr.flatMap Stp.cells) l ai (tR Stp.len _) (DL Stp.one _) (λj u h=>by rw[Nat.zero_add];exact h)) ?_)));rintro _ _ ⟨e,f,rfl,rfl⟩;have z:(0:Nat)+pr.length=pr.length:=Nat.zero_add _;rw[z];refine ao [] (eF ?_);refine du ([eB (some g) kJ pr]++(eB (some e) f pr::L0)) ?_;refine m5 [eB (some g) kJ pr] _ (hf (some e) f (.inr ⟨l,e,rfl⟩)) ?_;rintro _ _ ⟨id,c,a,rfl,p,rfl⟩;refine fw [eB (some g) kJ pr,eB (some e) f pr] a (ao [.g,.x] ?_);refine j4 (ι:=Nat×List Value) (λi=>pr.length-i.1) (λi=>[(0,pt s),(6,sv (some e) pr.length f),(7,goInt id),(8,c),(19,goInt pr.length),(20,goInt i.1),(4,goInt 0),(5,goInt 0)]) (λi=>[eB (some g) kJ pr,.row 50 3 (some e) pr.length f i.2]) (λi=>i.1≤pr.length∧i.2.length=pr.length*3) (0,pr.flatMap Stp.cells) ⟨Nat.zero_le _,tR Stp.len _⟩ ?_;rintro⟨i,n⟩ ⟨E,m⟩ y;simp only at E m y;by_cases aE:i<pr.length
  ·have r:∀j(t:List Value),t.length=pr.length*3→j<3→∃u,t[i*3+j]?=some u:=λj t K J=>⟨_,List.getElem?_eq_getElem ai⟩
   obtain⟨u0,B⟩:=r 0 n m ai;obtain⟨M,C⟩:=r 1 (n.set (i*3) (goInt 6)) (by rw[List.length_set];exact m) ai;obtain⟨N,D⟩:=r 2 ((n.set (i*3) (goInt 6)).set (i*3+1) (goInt 0)) (by rw[List.length_set,List.length_set];exact m) ai;refine ao [fp i pr.length,iX 45 3 e f aE,rr 1 B,rr 1 C,rr 1 D,aS i,.g,.x] ?_;exact cx (y (i+1,((n.set (i*3) (goInt 6)).set (i*3+1) (goInt 0)).set (i*3+2) (.string ⟨#[]⟩)) (by simp only;omega) ⟨aE,by simp[m]⟩)
  ·have H:i=pr.length:=by omega
   subst H;refine ao [fH pr.length pr.length] (dP [1] (eF ?_));refine m5 [eB (some g) kJ pr] _ (hn id c a p) ?_;rintro _ o ⟨k,rfl,q⟩;exact ao [] (dH [goInt id,goInt k] _ ⟨id,k,o,rfl,q,rfl⟩)
end
structure cF where
 set:Bool
 c8:Int
 bP:Int
structure Wt where
 key:Nat
 gone:Bool
 val:ByteArray
structure Cm where
 me:Nat
 pr:List Stp
 at_:Nat
 out:Bool
 site:Option Nat
 b:Int
 wrote:List Wt
 phase:Nat
 keys:Nat
 bP:Int
structure Mo where
 clock:Int
 cq:Int
 sites:List Int
 bw:List (List bt)
 marks:List cF
 cf:List Cm
 events:List Ev
 at_:Nat
 w:Int
 cU:Bool
def cF.no:cF:=⟨Y,0,0⟩
def ff:ByteArray:=⟨#[]⟩
def Mo.init(b a:Nat)(d:Int):Mo:=⟨0,d,kh b (-1),kh a [],kh a .no,[],[],0,0,Y⟩
def Mo.new(a b d:Int):Option Mo:=if a<1\/a>8\/b<1\/b>20\/d<0\/d>1000000 then I else Z (.init a.toNat b.toNat d)
def lQ(a:Nat)(b:Bool)(p:Stp):Bool:=
 !(decide (p.kind<1)||decide (p.kind>6)||(decide (p.kind=1)==b))&&
 (if p.kind=2\/p.kind=3\/p.kind=4 then decide (0<=p.key)&&decide (p.key<a)else decide (p.key=0))&&
 decide (p.val.size<=16)&&(decide (p.kind=3)||decide (p.val.size=0))
def qT(p:Stp):Bool:=decide (p.kind≠5)&&decide (p.kind≠6)
def pB(a:Nat):Bool->List Stp->Bool
 |_,[]=>U
 |op,p::l=>lQ a op p&&pB a (qT p) l
def Mo.right(m:Mo)(l:List Stp):Bool:=pB m.bw.length Y l&&decide (l.length<=200)
def Cm.new(a:Nat)(l:List Stp):Cm:=⟨a,l,0,Y,I,0,[],0,0,0⟩
def Mo.c8(m:Mo)(l:List Stp):Mo×Int×Int:=if m.cU then(m,0,5)else if m.right l=Y then(m,0,2)else if m.cf.length=8 then(m,0,3)else({m with cf:=m.cf++[.new m.cf.length l]},m.cf.length,0)
def dh(b:Int):List bt->Nat
 |[]=>0
 |v::l=>if v.bP<=b then 0 else dh b l+1
def qZ(l:List bt)(w:Int):List bt:=match l[dh w l]? with
 |some v=>l.take (if v.gone then dh w l else dh w l+1)
 |none=>l
def Mo.fX(m:Mo):Mo×Bool×Int:=
 if m.cU then(m,Y,5)
 else if m.at_=0 then({m with at_:=1,w:=m.clock},Y,0)
 else if m.at_<=m.sites.length then({m with at_:=m.at_+1,w:=match m.sites[m.at_-1]? with
  |some h=>if 0<=h/\h<m.w then h else m.w
  |none=>m.w},Y,0)
 else if m.at_-1-m.sites.length+1=m.bw.length then({m with at_:=0,bw:=m.bw.modify (m.at_-1-m.sites.length) λl=>qZ l m.w},U,0)
 else({m with at_:=m.at_+1,bw:=m.bw.modify (m.at_-1-m.sites.length) λl=>qZ l m.w},Y,0)
def Mo.ba(m:Mo)(c:Cm)(o:Int)(v:ByteArray)(t:Int):Mo:={m with events:=m.events++[⟨c.me,c.at_,o,v,t⟩]}
def Cm.up(c:Cm):Cm:={c with at_:=c.at_+1}
def tP(a:Nat)(k:cF):cF:=if k.set/\k.c8=a then .no else k
def Mo.leave(m:Mo)(c:Cm)(s:Nat):Mo:={m with marks:=m.marks.map (tP c.me),sites:=m.sites.set s (-1)}
def Cm.leave(c:Cm):Cm:={c with site:=I,wrote:=[],phase:=0,keys:=0,bP:=0}
def Cm.step(c:Cm)(n:Nat):Cm:=if c.keys+1=n then{c with keys:=0,phase:=c.phase+1}else{c with keys:=c.keys+1}
def kT(w:Wt):List Wt->List Wt
 |[]=>[w]
 |x::l=>if w.key<x.key then w::x::l else if x.key=w.key then w::l else x::kT w l
def Cm.take(c:Cm)(i:Nat):Cm:={c with site:=Z i}
def Cm.tick(c:Cm)(t:Int):Cm:={c with bP:=t,phase:=2}
def Cm.skip(c:Cm)(b:Bool):Cm:={c.up with out:=b}
def Cm.qv(c:Cm)(b:Int):Cm:={c.up with b:=b}
def Cm.put(c:Cm)(w:Wt):Cm:={c.up with wrote:=kT w c.wrote}
def uu(k:Nat)(l:List Wt):Option Wt:=l.find? λw=>w.key==k
def tB(a:Bool)(v:ByteArray):Int×ByteArray:=if a then(3,ff)else(2,v)
def wI:List bt->Int->Bool
 |v::_,b=>decide (v.bP>b)
 |[],_=>Y
def rD:List Int->Nat->Option Nat
 |[],_=>I
 |v::l,i=>if v=-1 then Z i else rD l (i+1)
def Mo.get(m:Mo)(c:Cm)(k:Nat):Option (Int×ByteArray):=match uu k c.wrote with
 |some w=>Z (tB w.gone w.val)
 |none=>
  let a:=m.marks.getD k .no;let l:=m.bw.getD k []
  if a.set/\a.c8≠c.me/\a.bP≠0/\a.bP<=c.b then I
  else match l[dh c.b l]? with
   |some v=>Z (tB v.gone v.val)
   |none=>Z (tB U ff)
def Mo.eo(m:Mo)(c:Cm):Mo×Cm×Int:=match c.pr[c.at_]? with
 |none=>(m,c,-1)
 |some p=>
  if c.out then(m.ba c 7 ff 0,c.skip (qT p),1)
  else if p.kind=1 then match c.site with
   |some i=>({m with sites:=m.sites.set i m.clock}.ba c 1 ff m.clock,c.qv m.clock,1)
   |none=>match rD m.sites 0 with
    |some i=>({m with sites:=m.sites.set i (-2)},c.take i,1)
    |none=>(m.ba c 5 ff 0,c.skip U,1)
  else if p.kind=2 then match m.get c p.key.toNat with
   |some o=>(m.ba c o.1 o.2 0,c.up,1)
   |none=>(m,c,0)
  else if p.kind=3\/p.kind=4 then(m.ba c 1 ff 0,c.put ⟨p.key.toNat,decide (p.kind=4),p.val⟩,1)
  else match c.site with
   |none=>(m,c,1)
   |some s=>
    if p.kind=6\/c.wrote.length=0 then((m.leave c s).ba c 1 ff 0,c.up.leave,1)
    else if c.phase=0 then match c.wrote[c.keys]? with
     |none=>(m,c,1)
     |some w=>
      let a:=m.marks.getD w.key .no
      if(a.set&&decide (a.c8≠c.me))||wI (m.bw.getD w.key []) c.b then((m.leave c s).ba c 4 ff 0,c.up.leave,1)
      else({m with marks:=m.marks.set w.key ⟨U,c.me,0⟩},c.step c.wrote.length,1)
    else if c.phase=1 then
     if m.clock=m.cq then((m.leave c s).ba c 6 ff 0,c.up.leave,1)
     else({m with clock:=m.clock+1,marks:=c.wrote.foldl (λl w=>l.modify w.key λk=>{k with bP:=m.clock+1}) m.marks},c.tick (m.clock+1),1)
    else if c.phase=2 then match c.wrote[c.keys]? with
     |none=>(m,c,1)
     |some w=>({m with bw:=m.bw.modify w.key λl=>⟨c.bP,w.gone,w.val⟩::l,marks:=m.marks.set w.key .no},c.step c.wrote.length,1)
    else((m.leave c s).ba c 1 ff c.bP,c.up.leave,1)
def Mo.pick(m:Mo)(n:Int):Mo×Int×Int:=
 if m.cU then(m,0,5)
 else if n<0 then(m,0,4)
 else match m.cf[n.toNat]? with
  |none=>(m,0,4)
  |some c=>let r:=m.eo c;({r.1 with cf:=m.cf.set n.toNat r.2.1},r.2.2,0)
def Cm.own(c:Cm)(j:Nat):Prop:=(c.phase=0/\j<c.keys)\/c.phase=1\/(c.phase=2/\c.keys<=j)
def Cm.yi(marks:List cF)(c:Cm):Prop:=∀j w,c.wrote[j]?=Z w->c.own j->∃t,marks[w.key]?=Z ⟨U,c.me,t⟩
structure Cm.Ok(K S:Nat)(c:Cm):Prop where
 len:c.pr.length<=200
 at_:c.at_<=c.pr.length
 pr:pB K Y c.pr=U
 ng:(c.wrote.map (·.key)).Pairwise (·<·)
 key:∀w∈c.wrote,w.key<K
 site:∀s,c.site=Z s->s<S
 opn:c.out=Y->∀p,c.pr[c.at_]?=Z p->p.kind≠1->∃s,c.site=Z s
 cls:(c.out=U\/c.site=I)->c.wrote=[]
 out:c.out=U->c.site=I
 m6:∀p,c.pr[c.at_]?=Z p->p.kind=1->c.wrote=[]
 vY:(c.keys≠0\/c.phase≠0)->∃p,c.pr[c.at_]?=Z p/\p.kind=5
 keys:c.wrote≠[]->c.keys<c.wrote.length
 nB:c.wrote=[]->c.keys=0/\c.phase=0
 ph:c.phase<=3
 qU:c.phase=1\/c.phase=3->c.keys=0
 b:0<=c.b
 st:0<=c.bP
def Cm.inst(c:Cm):Nat:=if c.phase=2 then c.keys else if c.phase=3 then c.wrote.length else 0
structure Mo.Ok(m:Mo):Prop where
 k:1<=m.bw.length/\m.bw.length<=20
 s:1<=m.sites.length/\m.sites.length<=8
 ml:m.marks.length=m.bw.length
 si:∀v∈m.sites,-2<=v
 ck:0<=m.clock/\m.clock<=m.cq/\m.cq<=1000000
 cl:m.cf.length<=8
 me:∀i(c:Cm),m.cf[i]?=Z c->c.me=i/\c.Ok m.bw.length m.sites.length/\c.yi m.marks
 ev:m.events.length=(m.cf.map (·.at_)).sum
 ch:(m.bw.map List.length).sum<=(m.cf.map λc=>20*c.at_+c.inst).sum
 at_:m.at_<=m.sites.length+m.bw.length
theorem SA{K:Nat}:∀{l:List Stp}{o:Bool}{i:Nat}{p:Stp},pB K o l=U->l[i]?=Z p->∃d,lQ K d p=U/\(∀q,l[i+1]?=Z q->lQ K (qT p) q=U)
 |x::l,o,0,p,h,b=>by
  simp only[pB,ig]at h;simp only[tL,ij]at b;subst b;refine⟨o,h.1,λq a=>?_⟩;cases l with
  |nil=>simp at a
  |cons y l=>
   simp only[Kp,tL,ij]at a;subst a;simp only[pB,ig]at h;exact h.2.1
 |x::l,o,i+1,p,h,b=>by
  simp only[pB,ig]at h;obtain⟨d,e,f⟩:=SA (i:=i) h.2 (by simpa using b);exact⟨d,e,λq a=>f q (by simpa using a)⟩
structure ada(K:Nat)(p:Stp):Prop where
 kind:1<=p.kind/\p.kind<=6
 key:p.kind=2\/p.kind=3\/p.kind=4->0<=p.key/\p.key<K
theorem awo{K:Nat}{o:Bool}{p:Stp}(h:lQ K o p=U):ada K p:=by
 simp only[lQ,ig,Fu,Bool.or_eq_false_iff,decide_eq_false_iff_not]at h;refine⟨by omega,λa=>?_⟩;have:=h.1.1.2;rw[if_pos a]at this;simpa using this
theorem abM{K:Nat}{o:Bool}{p:Stp}(h:lQ K o p=U):o=!decide (p.kind=1):=by
 simp only[lQ,ig,Fu,Bool.or_eq_false_iff]at h;have:=h.1.1.1.2;cases o<;>cases hd:decide (p.kind=1)<;>simp_all
theorem Oi{m:Mo}{c:Cm}(h:c.Ok m.bw.length m.sites.length)(a:Mo×Cm×Int->Prop)
  (P:c.pr[c.at_]?=I->a (m,c,-1))
  (Q:∀p,c.pr[c.at_]?=Z p->c.out=U->a (m.ba c 7 ff 0,c.skip (qT p),1))
  (R:∀p i,c.pr[c.at_]?=Z p->c.out=Y->p.kind=1->c.site=Z i->i<m.sites.length->a ({m with sites:=m.sites.set i m.clock}.ba c 1 ff m.clock,c.qv m.clock,1))
  (T:∀p i,c.pr[c.at_]?=Z p->c.out=Y->p.kind=1->c.site=I->rD m.sites 0=Z i->a ({m with sites:=m.sites.set i (-2)},c.take i,1))
  (V:∀p,c.pr[c.at_]?=Z p->c.out=Y->p.kind=1->c.site=I->rD m.sites 0=I->a (m.ba c 5 ff 0,c.skip U,1))
  (W:∀p k o s,c.pr[c.at_]?=Z p->c.out=Y->p.kind=2->p.key=(k:Nat)->k<m.bw.length->c.site=Z s->s<m.sites.length->m.get c k=Z o->a (m.ba c o.1 o.2 0,c.up,1))
  (X:∀p k s,c.pr[c.at_]?=Z p->c.out=Y->p.kind=2->p.key=(k:Nat)->k<m.bw.length->c.site=Z s->s<m.sites.length->m.get c k=I->a (m,c,0))
  (h8:∀p k s,c.pr[c.at_]?=Z p->c.out=Y->(p.kind=3\/p.kind=4)->p.key=(k:Nat)->k<m.bw.length->c.site=Z s->s<m.sites.length->a (m.ba c 1 ff 0,c.put ⟨k,decide (p.kind=4),p.val⟩,1))
  (h9:∀p s,c.pr[c.at_]?=Z p->c.out=Y->(p.kind=6\/(p.kind=5/\c.wrote=[]))->c.site=Z s->s<m.sites.length->a ((m.leave c s).ba c 1 ff 0,c.up.leave,1))
  (jo:∀p s w,c.pr[c.at_]?=Z p->c.out=Y->p.kind=5->c.site=Z s->s<m.sites.length->c.phase=0->c.wrote[c.keys]?=Z w->w.key<m.bw.length->(((m.marks.getD w.key .no).set&&decide ((m.marks.getD w.key .no).c8≠c.me))||wI (m.bw.getD w.key []) c.b)=U->a ((m.leave c s).ba c 4 ff 0,c.up.leave,1))
  (M:∀p s w,c.pr[c.at_]?=Z p->c.out=Y->p.kind=5->c.site=Z s->s<m.sites.length->c.phase=0->c.wrote[c.keys]?=Z w->w.key<m.bw.length->(((m.marks.getD w.key .no).set&&decide ((m.marks.getD w.key .no).c8≠c.me))||wI (m.bw.getD w.key []) c.b)=Y->a ({m with marks:=m.marks.set w.key ⟨U,c.me,0⟩},c.step c.wrote.length,1))
  (N:∀p s,c.pr[c.at_]?=Z p->c.out=Y->p.kind=5->c.site=Z s->s<m.sites.length->c.phase=1->c.keys=0->c.wrote≠[]->m.clock=m.cq->a ((m.leave c s).ba c 6 ff 0,c.up.leave,1))
  (x:∀p s,c.pr[c.at_]?=Z p->c.out=Y->p.kind=5->c.site=Z s->s<m.sites.length->c.phase=1->c.keys=0->c.wrote≠[]->m.clock≠m.cq->a ({m with clock:=m.clock+1,marks:=c.wrote.foldl (λl w=>l.modify w.key λk=>{k with bP:=m.clock+1}) m.marks},c.tick (m.clock+1),1))
  (y:∀p s w,c.pr[c.at_]?=Z p->c.out=Y->p.kind=5->c.site=Z s->s<m.sites.length->c.phase=2->c.wrote[c.keys]?=Z w->w.key<m.bw.length->a ({m with bw:=m.bw.modify w.key λl=>⟨c.bP,w.gone,w.val⟩::l,marks:=m.marks.set w.key .no},c.step c.wrote.length,1))
  (z:∀p s,c.pr[c.at_]?=Z p->c.out=Y->p.kind=5->c.site=Z s->s<m.sites.length->c.phase=3->c.keys=0->c.wrote≠[]->a ((m.leave c s).ba c 1 ff c.bP,c.up.leave,1)):a (m.eo c):=by
 unfold Mo.eo;cases hp:c.pr[c.at_]? with
 |none=>exact P hp
 |some p=>
  obtain⟨o',hs,_⟩:=SA h.pr hp;have A:=awo hs;simp only
  cases ho:c.out with
  |true=>exact Q p hp ho
  |false=>
   simp only[kg,if_false];by_cases g:p.kind=1
   ·simp only[g,if_true]
    cases b:c.site with
    |some i=>exact R p i hp ho g b (h.site i b)
    |none=>
     simp only
     cases jM:rD m.sites 0 with
     |some i=>simp only;exact T p i hp ho g b jM
     |none=>exact V p hp ho g b jM
   ·obtain⟨s,b⟩:=h.opn ho p hp g
    have d:=h.site s b;simp only[g,if_false];by_cases q:p.kind=2
    ·have hk:=A.key (.inl q)
     have H:p.key=(p.key.toNat:Nat):=by omega
     have G:p.key.toNat<m.bw.length:=by omega
     simp only[q,if_true];cases hg:m.get c p.key.toNat with
     |some o=>exact W p _ o s hp ho q H G b d hg
     |none=>exact X p _ s hp ho q H G b d hg
    ·simp only[q,if_false]
     by_cases u:p.kind=3\/p.kind=4
     ·have hk:=A.key (.inr u)
      simp only[u,if_true];exact h8 p _ s hp ho u ai ai b d
     ·have eX:=A.kind
      simp only[u,if_false,b];by_cases C:p.kind=6\/c.wrote.length=0
      ·simp only[C,if_true]
       refine h9 p s hp ho ?_ b d;by_cases E:p.kind=6
       ·exact .inl E
       ·exact .inr ⟨by omega,De (C.resolve_left E)⟩
      ·simp only[C,if_false]
       have j:p.kind=5:=by omega
       have J:0<c.wrote.length:=by omega
       have r:c.wrote≠[]:=λe=>by rw[e]at J;simp at J
       have O:=h.keys r;obtain⟨w,f⟩:∃w,c.wrote[c.keys]?=Z w:=⟨_,dq O⟩;have B:w.key<m.bw.length:=h.key w (lR f);by_cases v:c.phase=0
       ·simp only[v,if_true,f]
        cases hc:(((m.marks.getD w.key .no).set&&decide ((m.marks.getD w.key .no).c8≠c.me))||wI (m.bw.getD w.key []) c.b)with
        |true=>simp only[if_true];exact jo p s w hp ho j b d v f B hc
        |false=>simp only[kg,if_false];exact M p s w hp ho j b d v f B hc
       ·simp only[v,if_false]
        by_cases n:c.phase=1
        ·simp only[n,if_true]
         by_cases t:m.clock=m.cq
         ·simp only[t,if_true];exact N p s hp ho j b d n (h.qU (.inl n)) r t
         ·simp only[t,if_false];exact x p s hp ho j b d n (h.qU (.inl n)) r t
        ·simp only[n,if_false]
         by_cases D:c.phase=2
         ·simp only[D,if_true,f];exact y p s w hp ho j b d D f B
         ·have:=h.ph
          have L:c.phase=3:=by omega
          simp only[D,if_false];exact z p s hp ho j b d L (h.qU (.inr L)) r
section
variable {K S:Nat}{c:Cm}{p:Stp}
theorem Cm.Ok.lN(h:c.Ok K S)(b:c.pr[c.at_]?=Z p){q:Stp}(d:c.pr[c.at_+1]?=Z q):(q.kind=1↔qT p=Y):=by
 obtain⟨_,_,a⟩:=SA h.pr b;have:=abM (a q d);rw[this];simp
theorem Zz(p:Stp)(h:p.kind=5\/p.kind=6):qT p=Y:=by
 rcases h with h|h<;>simp[qT,h]
theorem JP(p:Stp)(h:p.kind≠5/\p.kind≠6):qT p=U:=by simp[qT,h]
theorem Cm.Ok.lt(h:c.pr[c.at_]?=Z p):c.at_+1<=c.pr.length:=(dv.1 h).1
theorem Cm.Ok.no(h:c.Ok K S)(f:c.pr[c.at_]?=Z p)(e:p.kind≠5):c.keys=0/\c.phase=0:=by
 by_cases d:c.keys≠0\/c.phase≠0
 ·obtain⟨q,a,b⟩:=h.vY d
  rw[f]at a;cases a;exact absurd b e
 ·omega
theorem Cm.Ok.over(h:c.Ok K S)(a:c.pr[c.at_]?=Z p)(e:p.kind=5\/p.kind=6)(_:c.out=Y):c.up.leave.Ok K S where
 len:=h.len
 at_:=Cm.Ok.lt a
 pr:=h.pr
 ng:=by simp[Cm.leave]
 key:=by simp[Cm.leave]
 site:=by simp[Cm.leave]
 opn:=λ_ q f d=>absurd ((h.lN a f).2 (Zz p e)) d
 cls:=λ_=>rfl
 out:=λ_=>rfl
 m6:=λ_ _ _=>rfl
 vY:=by simp[Cm.leave]
 keys:=by simp[Cm.leave]
 nB:=by simp[Cm.leave]
 ph:=by simp[Cm.leave]
 qU:=by simp[Cm.leave]
 b:=h.b
 st:=by simp[Cm.leave]
theorem Cm.Ok.ads(h:c.Ok K S)(a:c.pr[c.at_]?=Z p)(j:p.kind=2)(f:c.out=Y):c.up.Ok K S where
 len:=h.len
 at_:=Cm.Ok.lt a
 pr:=h.pr
 ng:=h.ng
 key:=h.key
 site:=h.site
 opn:=λ_ q d i=>h.opn f p a ai
 cls:=h.cls
 out:=h.out
 m6:=λq d g=>absurd ((h.lN a d).1 g) (by rw[JP p ai];simp)
 vY:=λe=>by
  have:=h.no a ai;simp only[Cm.up]at e;omega
 keys:=h.keys
 nB:=h.nB
 ph:=h.ph
 qU:=h.qU
 b:=h.b
 st:=h.st
theorem acv(w:Wt)(l:List Wt):kT w l≠[]:=by
 cases l with
 |nil=>simp[kT]
 |cons x l=>simp only[kT];repeat' split<;>simp
theorem axC(w:Wt)(l:List Wt):0<(kT w l).length:=List.length_pos_iff.2 (acv w l)
theorem acu(w:Wt)(l:List Wt):∀k,k∈(kT w l).map (·.key)->k=w.key\/k∈l.map (·.key):=by
 induction l with
 |nil=>intro k a;simp[kT]at a;exact .inl a
 |cons x l b=>
  intro k a;simp only[kT]at a;split at a
  ·simpa using a
  ·split at a
   ·rename_i d
    simp only[ft,bQ]at a⊢;rcases a with a|a
    ·exact .inl a
    ·exact .inr (.inr a)
   ·simp only[ft,bQ]at a⊢
    rcases a with a|a
    ·exact .inr (.inl a)
    ·rcases b k a with h|h
     ·exact .inl h
     ·exact .inr (.inr h)
theorem acx(w:Wt):∀l:List Wt,(l.map (·.key)).Pairwise (·<·)->((kT w l).map (·.key)).Pairwise (·<·)
 |[],_=>by simp[kT]
 |x::l,h=>by
  simp only[ft,nQ]at h;obtain⟨b,d⟩:=h;simp only[kT];split
  ·rename_i aE
   simp only[ft,nQ,bQ];refine⟨λk a=>?_,b,d⟩;rcases a with rfl|a
   ·exact aE
   ·exact Nat.lt_trans aE (b k a)
  ·split
   ·rename_i e
    simp only[ft,nQ];exact⟨by rw[<-e];exact b,d⟩
   ·rename_i f e
    simp only[ft,nQ];refine⟨λk a=>?_,acx w l d⟩;rcases acu w l k a with rfl|a
    ·omega
    ·exact b k a
theorem Cm.Ok.wrote(h:c.Ok K S)(a:c.pr[c.at_]?=Z p)(o:p.kind=3\/p.kind=4)(f:c.out=Y)(w:Wt)(j:w.key<K):(c.put w).Ok K S where
 len:=h.len
 at_:=Cm.Ok.lt a
 pr:=h.pr
 ng:=acx w _ h.ng
 key:=λx k=>by
  rcases acu w c.wrote x.key (kV k)with e|e
  ·rw[e];exact j
  ·obtain⟨y,l,e⟩:=ox.1 e
   rw[<-e];exact h.key y l
 site:=h.site
 opn:=λ_ q g n=>h.opn f p a ai
 cls:=λd=>by
  obtain⟨s,i⟩:=h.opn f p a ai;simp[Cm.put,Cm.up,f,i]at d
 out:=h.out
 m6:=λq g m=>absurd ((h.lN a g).1 m) (by rw[JP p ai];simp)
 vY:=λd=>by
  have:=h.no a ai;simp only[Cm.put,Cm.up]at d;omega
 keys:=λ_=>by
  have:=h.no a ai;simp only[Cm.put,Cm.up,this.1];exact axC w _
 nB:=λe=>absurd e (acv w _)
 ph:=h.ph
 qU:=h.qU
 b:=h.b
 st:=h.st
theorem Cm.Ok.aaK(h:c.Ok K S)(d:c.pr[c.at_]?=Z p)(j:c.out=U\/(p.kind=1/\c.site=I))(b:Bool)(g:b=qT p):(c.skip b).Ok K S:=by
 have e:c.site=I:=j.elim h.out (·.2);have a:c.wrote=[]:=h.cls (.inr e);obtain⟨m,n⟩:=h.nB a;subst g;exact{
  len:=h.len
  at_:=Cm.Ok.lt d
  pr:=h.pr
  ng:=h.ng
  key:=h.key
  site:=h.site
  opn:=λl q k f=>absurd ((h.lN d k).2 l) f
  cls:=λ_=>a
  out:=λ_=>e
  m6:=λ_ _ _=>a
  vY:=λi=>by simp only[Cm.skip,Cm.up]at i;omega
  keys:=h.keys
  nB:=h.nB
  ph:=h.ph
  qU:=h.qU
  b:=h.b
  st:=h.st}
theorem Cm.Ok.begun(h:c.Ok K S)(d:c.pr[c.at_]?=Z p)(g:p.kind=1)(l:c.out=Y){s:Nat}(i:c.site=Z s)(b:Int)(e:0<=b):(c.qv b).Ok K S:=by
 have a:=h.m6 p d g;obtain⟨j,k⟩:=h.nB a;exact{
  len:=h.len
  at_:=Cm.Ok.lt d
  pr:=h.pr
  ng:=h.ng
  key:=h.key
  site:=h.site
  opn:=λ_ _ _ _=>⟨s,i⟩
  cls:=λ_=>a
  out:=h.out
  m6:=λ_ _ _=>a
  vY:=λf=>by simp only[Cm.qv,Cm.up]at f;omega
  keys:=h.keys
  nB:=h.nB
  ph:=h.ph
  qU:=h.qU
  b:=e
  st:=h.st}
theorem Cm.Ok.taken(h:c.Ok K S)(g:c.pr[c.at_]?=Z p)(e:p.kind=1)(f:c.out=Y)(s:Nat)(j:s<S):(c.take s).Ok K S:=by
 have d:=h.m6 p g e;exact{
  len:=h.len
  at_:=h.at_
  pr:=h.pr
  ng:=h.ng
  key:=h.key
  site:=λt i=>by simp only[Cm.take,ij]at i;omega
  opn:=λ_ _ _ _=>⟨s,F⟩
  cls:=λ_=>d
  out:=λa=>by rw[show(c.take s).out=c.out from F,f]at a;cases a
  m6:=λ_ _ _=>d
  vY:=h.vY
  keys:=h.keys
  nB:=h.nB
  ph:=h.ph
  qU:=h.qU
  b:=h.b
  st:=h.st}
theorem Cm.C6(c:Cm)(n:Nat):(c.step n).me=c.me/\(c.step n).pr=c.pr/\(c.step n).at_=c.at_/\(c.step n).out=c.out/\(c.step n).site=c.site/\(c.step n).b=c.b/\(c.step n).wrote=c.wrote/\(c.step n).bP=c.bP:=by
 unfold Cm.step;split<;>simp
theorem Cm.N3(c:Cm)(n:Nat):(c.keys+1=n/\(c.step n).keys=0/\(c.step n).phase=c.phase+1)\/(c.keys+1≠n/\(c.step n).keys=c.keys+1/\(c.step n).phase=c.phase):=by
 unfold Cm.step;split
 ·exact .inl ⟨‹_›,F,F⟩
 ·exact .inr ⟨‹_›,F,F⟩
theorem Cm.Ok.abH(h:c.Ok K S)(q:c.pr[c.at_]?=Z p)(o:p.kind=5)(u:c.out=Y){s:Nat}(r:c.site=Z s)(w:c.phase=0\/c.phase=2)(i:c.keys<c.wrote.length):(c.step c.wrote.length).Ok K S:=by
 obtain⟨t,d,g,j,f,m,a,n⟩:=c.C6 c.wrote.length;have k:c.wrote≠[]:=λe=>by rw[e]at i;simp at i
 have v:=c.N3 c.wrote.length;have l:(c.step c.wrote.length).keys<c.wrote.length:=by omega
 exact{
  len:=by rw[d];exact h.len
  at_:=by rw[d,g];exact h.at_
  pr:=by rw[d];exact h.pr
  ng:=by rw[a];exact h.ng
  key:=by rw[a];exact h.key
  site:=by rw[f];exact h.site
  opn:=λ_ _ _ _=>⟨s,by rw[f];exact r⟩
  cls:=by rw[j,f,a];exact h.cls
  out:=by rw[j,f];exact h.out
  m6:=by rw[d,g,a];exact h.m6
  vY:=λ_=>⟨p,by rw[d,g];exact q,o⟩
  keys:=λ_=>by rw[a];exact l
  nB:=λe=>by rw[a]at e;exact absurd e k
  ph:=by omega
  qU:=by omega
  b:=by rw[m];exact h.b
  st:=by rw[n];exact h.st}
theorem Cm.Ok.awN(h:c.Ok K S)(f:c.pr[c.at_]?=Z p)(d:p.kind=5)(t:Int)(g:0<=t)(a:c.wrote≠[]):(c.tick t).Ok K S where
 len:=h.len
 at_:=h.at_
 pr:=h.pr
 ng:=h.ng
 key:=h.key
 site:=h.site
 opn:=h.opn
 cls:=h.cls
 out:=h.out
 m6:=h.m6
 vY:=λ_=>⟨p,f,d⟩
 keys:=h.keys
 nB:=λe=>absurd e a
 ph:=by simp[Cm.tick]
 qU:=by simp[Cm.tick]
 b:=h.b
 st:=g
end
theorem Px:∀(l:List Int)(i j:Nat),rD l i=Z j->i<=j/\j<i+l.length
 |[],_,_,h=>by cases h
 |v::l,i,j,h=>by
  simp only[rD]at h;split at h
  ·cases h;simp
  ·have:=Px l (i+1) j h
   simp only[iH];omega
theorem Hs{α:Type}(f:α->Nat):∀(l:List α)(i:Nat)(a b:α),l[i]?=Z a->((l.set i b).map f).sum+f a=(l.map f).sum+f b
 |[],i,a,b,h=>by simp at h
 |x::l,0,a,b,h=>by
  simp only[tL,ij]at h;subst h;simp only[List.set_cons_zero,ft,xd];omega
 |x::l,i+1,a,b,h=>by
  have:=Hs f l i a b (by simpa using h);simp only[List.set_cons_succ,ft,xd];omega
theorem abN{α:Type}(f:α->Nat)(g:α->α):∀(l:List α)(i:Nat)(a:α),l[i]?=Z a->((l.modify i g).map f).sum+f a=(l.map f).sum+f (g a)
 |[],i,a,h=>by simp at h
 |x::l,0,a,h=>by
  simp only[tL,ij]at h;subst h;simp only[List.modify_zero_cons,ft,xd];omega
 |x::l,i+1,a,h=>by
  have:=abN f g l i a (by simpa using h);simp only[List.modify_succ_cons,ft,xd];omega
theorem abO{α:Type}(f:α->Nat)(g:α->α)(b:∀a,f (g a)<=f a):∀(l:List α)(i:Nat),((l.modify i g).map f).sum<=(l.map f).sum
 |[],i=>by simp
 |x::l,0=>by
  have:=b x;simp only[List.modify_zero_cons,ft,xd];omega
 |x::l,i+1=>by
  have:=abO f g b l i;simp only[List.modify_succ_cons,ft,xd];omega
theorem abz(K:Nat):∀(l:List Nat)(n:Nat),l.Pairwise (·<·)->(∀k∈l,n<=k/\k<K)->n<=K->n+l.length<=K
 |[],n,_,_,d=>by simpa using d
 |x::l,n,h,b,d=>by
  simp only[nQ]at h;have e:=b x (fu ..);have:=abz K l (x+1) h.2 (λk a=>⟨h.1 k a,(b k (eK _ a)).2⟩) ai;simp only[iH];omega
theorem Cm.Ok.Ud{K S:Nat}{c:Cm}(h:c.Ok K S):c.wrote.length<=K:=by
 have:=abz K (c.wrote.map (·.key)) 0 h.ng (λk a=>by
  obtain⟨w,b,e⟩:=ox.1 a;exact⟨je _,e▸h.key w b⟩) (je _)
 simpa using this
theorem Cm.Ok.inst{K S:Nat}{c:Cm}(h:c.Ok K S):c.inst<=K:=by
 have:=h.Ud;unfold Cm.inst;split
 ·by_cases a:c.wrote=[]
  ·have:=h.nB a;omega
  ·have:=h.keys a;omega
 ·split<;>omega
theorem Wa(T:Int):∀(a:List Wt)(l:List cF)(k:Nat),(a.foldl (λl w=>l.modify w.key λk=>{k with bP:=T}) l)[k]?=(l[k]?).map λd=>if k∈a.map (·.key)then{d with bP:=T}else d
 |[],l,k=>by simp
 |w::a,l,k=>by
  rw[List.foldl_cons,Wa T a,List.getElem?_modify];cases l[k]? with
  |none=>rfl
  |some d=>
   by_cases b:w.key=k
   ·simp only[b,ft,bQ,true_or,if_true]
    show Z _=Z _;split<;>rfl
   ·have f:¬k=w.key:=λe=>b e.symm
    simp only[ft,bQ,f,false_or,if_neg b];rfl
theorem Pv(T:Int):∀(a:List Wt)(l:List cF),(a.foldl (λl w=>l.modify w.key λk=>{k with bP:=T}) l).length=l.length
 |[],l=>rfl
 |w::a,l=>by rw[List.foldl_cons,Pv T a,List.length_modify]
theorem an7{c:Cm}{K S:Nat}(h:c.Ok K S){i j:Nat}{a b:Wt}(g:c.wrote[i]?=Z a)(k:c.wrote[j]?=Z b)(e:a.key=b.key):i=j:=by
 have m:(c.wrote.map (·.key)).Nodup:=h.ng.imp λh=>Nat.ne_of_lt h;have d:(c.wrote.map (·.key))[i]?=Z a.key:=by rw[fq,g];rfl
 have f:(c.wrote.map (·.key))[j]?=Z b.key:=by rw[fq,k];rfl
 have l:=(dv.1 d).1;exact(List.getElem?_inj l m).1 (by rw[d,f,e])
structure KR(m:Mo)(c:Cm)(m':Mo)(c':Cm):Prop where
 k:m'.bw.length=m.bw.length
 s:m'.sites.length=m.sites.length
 ml:m'.marks.length=m.marks.length
 si:∀v∈m'.sites,-2<=v
 ck:0<=m'.clock/\m'.clock<=m'.cq
 li:m'.cq=m.cq
 at_:m'.at_=m.at_
 st:m'.cU=m.cU
 me:c'.me=c.me
 ok:c'.Ok m.bw.length m.sites.length
 mo:c'.yi m'.marks
 G8:∀c2:Cm,c2.me≠c.me->c2.yi m.marks->c2.yi m'.marks
 ev:m'.events.length+c.at_=m.events.length+c'.at_
 ch:(m'.bw.map List.length).sum+20*c.at_+c.inst<=(m.bw.map List.length).sum+20*c'.at_+c'.inst
theorem S9{l:List Int}(h:∀v∈l,-2<=v)(i:Nat)(x:Int)(b:-2<=x):∀v∈l.set i x,-2<=v:=λv a=>by
 rcases List.mem_or_eq_of_mem_set a with a|rfl
 ·exact h v a
 ·exact b
theorem anB{marks:List cF}{b:Nat}{a:Cm}(g:a.me≠b)(h:a.yi marks):a.yi (marks.map (tP b)):=λj w f d=>by
 obtain⟨t,e⟩:=h j w f d;refine⟨t,?_⟩;rw[fq,e];simp[tP];omega
theorem GV{marks:List cF}{c:Cm}(h:c.wrote=[]):c.yi marks:=λj w a=>by rw[h]at a;simp at a
theorem YU{marks:List cF}{c:Cm}(h:c.keys=0/\c.phase=0):c.yi marks:=λj w b a=>by
 unfold Cm.own at a;omega
theorem KR.over{m:Mo}{c:Cm}{p:Stp}{s:Nat}(a:m.Ok)(h:c.Ok m.bw.length m.sites.length)(g:c.pr[c.at_]?=Z p)(e:p.kind=5\/p.kind=6)(f:c.out=Y)(o t:Int)(v:ByteArray):KR m c ((m.leave c s).ba c o v t) c.up.leave where
 k:=rfl
 s:=mZ
 ml:=by simp[Mo.ba,Mo.leave]
 si:=S9 a.si _ _ ai
 ck:=⟨a.ck.1,a.ck.2.1⟩
 li:=rfl
 at_:=rfl
 st:=rfl
 me:=rfl
 ok:=h.over g e f
 mo:=GV F
 G8:=λi b d=>anB b d
 ev:=by simp[Mo.ba,Mo.leave,Cm.leave,Cm.up];omega
 ch:=by
  have:=h.inst;have:=a.k.2;simp[Mo.ba,Mo.leave,Cm.leave,Cm.up];omega
theorem T4{m:Mo}{c:Cm}(f:m.Ok)(h:c.Ok m.bw.length m.sites.length)(L:c.yi m.marks):KR m c (m.eo c).1 (m.eo c).2.1:=by
 refine Oi h (λr=>KR m c r.1 r.2.1) ?_ ?_ ?_ ?_ ?_ ?_ ?_ ?_ ?_ ?_ ?_ ?_ ?_ ?_ ?_
 ·intro _
  exact⟨F,F,F,f.si,⟨f.ck.1,f.ck.2.1⟩,F,F,F,F,h,L,λ_ _ h=>h,F,df _⟩
 ·intro p g n
  have x:=h.cls (.inl n);have D:c.inst=0:=by have:=h.nB x;simp[Cm.inst,this]
  exact⟨F,F,F,f.si,⟨f.ck.1,f.ck.2.1⟩,F,F,F,F,h.aaK g (.inl n) _ F,GV x,λ_ _ h=>h,by simp[Mo.ba,Cm.skip,Cm.up];omega,by simp[Mo.ba,Cm.skip,Cm.up,D];omega⟩
 ·intro p i g n q y D
  have x:=h.m6 p g q;have nZ:c.inst=0:=by have:=h.nB x;simp[Cm.inst,this]
  exact⟨F,by simp[Mo.ba],F,S9 f.si _ _ (by have:=f.ck.1;omega),⟨f.ck.1,f.ck.2.1⟩,F,F,F,F,h.begun g q n y _ f.ck.1,GV x,λ_ _ h=>h,by simp[Mo.ba,Cm.qv,Cm.up];omega,by simp[Mo.ba,Cm.qv,Cm.up,nZ];omega⟩
 ·intro p i g n q y hf
  have x:=h.m6 p g q;exact⟨F,mZ,F,S9 f.si _ _ ai,⟨f.ck.1,f.ck.2.1⟩,F,F,F,F,h.taken g q n i (by have:=(Px _ _ _ hf).2;omega),GV x,λ_ _ h=>h,F,df _⟩
 ·intro p g n q y hf
  have x:=h.m6 p g q;have D:c.inst=0:=by have:=h.nB x;simp[Cm.inst,this]
  exact⟨F,F,F,f.si,⟨f.ck.1,f.ck.2.1⟩,F,F,F,F,h.aaK g (.inr ⟨q,y⟩) _ (by rw[JP p ai]),GV x,λ_ _ h=>h,by simp[Mo.ba,Cm.skip,Cm.up];omega,by simp[Mo.ba,Cm.skip,Cm.up,D];omega⟩
 ·intro p k o s g n q eX E y C hg
  have P:=h.no g ai;have D:c.inst=0:=by simp[Cm.inst,P]
  exact⟨F,F,F,f.si,⟨f.ck.1,f.ck.2.1⟩,F,F,F,F,h.ads g q n,YU P,λ_ _ h=>h,by simp[Mo.ba,Cm.up];omega,by simp[Mo.ba,Cm.up,D];omega⟩
 ·intro p k s g n q eX E y C hg
  exact⟨F,F,F,f.si,⟨f.ck.1,f.ck.2.1⟩,F,F,F,F,h,L,λ_ _ h=>h,F,df _⟩
 ·intro p k s g n q eX E y C
  have P:=h.no g ai;have D:c.inst=0:=by simp[Cm.inst,P]
  exact⟨F,F,F,f.si,⟨f.ck.1,f.ck.2.1⟩,F,F,F,F,h.wrote g q n _ E,YU P,λ_ _ h=>h,by simp[Mo.ba,Cm.put,Cm.up];omega,by simp[Mo.ba,Cm.put,Cm.up,D];omega⟩
 ·intro p s g n q y C
  exact .over f h g ai n _ _ _
 ·intro p s w g n q y C z x Q J
  exact .over f h g ai n _ _ _
 ·intro p s w g n q y C z x Q J
  have E:=(dv.1 x).1;have X:w.key<m.marks.length:=by rw[f.ml];exact Q
  obtain⟨N,f2,O,f4,f5,f6,R,f8⟩:=c.C6 c.wrote.length;have jv:=c.N3 c.wrote.length;refine⟨F,F,mZ,f.si,⟨f.ck.1,f.ck.2.1⟩,F,F,F,N,h.abH g q n y (.inl z) E,λj u v B=>?_,λA M G j u v B=>?_,by rw[O],by
   have V:c.inst=0:=by simp[Cm.inst,z]
   rw[O,V];simp only;omega⟩
  ·rw[R]at v
   rw[N];by_cases e:w.key=u.key
   ·exact⟨0,by rw[e,sJ (by rw[<-e];exact X)]⟩
   ·rw[kU e]
    have hj:j≠c.keys:=λej=>e (by rw[ej,x]at v;cases v;rfl);have oa:=(dv.1 v).1;refine L j u v (.inl ⟨z,?_⟩);simp only[Cm.own]at B;omega
  ·obtain⟨t,H⟩:=G j u v B
   by_cases e:w.key=u.key
   ·exfalso
    have:m.marks.getD w.key .no=⟨U,A.me,t⟩:=by rw[yK,e,H];rfl
    rw[this]at J;simp only[Bool.true_and,Bool.or_eq_false_iff,decide_eq_false_iff_not]at J;have:=J.1;omega
   ·exact⟨t,by rw[kU e];exact H⟩
 ·intro p s g n q y C z T M J
  exact .over f h g ai n _ _ _
 ·intro p s g n q y C z T M J
  have aF:∀A:Cm,A.yi m.marks->∀j u,A.wrote[j]?=Z u->A.own j->∃t,(c.wrote.foldl (λl w=>l.modify w.key λk=>{k with bP:=m.clock+1}) m.marks)[u.key]?=Z ⟨U,A.me,t⟩:=λA G j u v B=>by
   obtain⟨t,H⟩:=G j u v B;rw[Wa,H];simp only[iy];split
   ·exact⟨_,F⟩
   ·exact⟨_,F⟩
  refine⟨F,F,Pv _ _ _,f.si,⟨by have:=f.ck;simp only;omega,by have:=f.ck;simp only;omega⟩,F,F,F,F,h.awN g q _ (by have:=f.ck;omega) M,λj u v _=>aF c L j u v (.inr (.inl z)),λA _ G j u v n=>aF A G j u v n,F,by simp[Cm.inst,Cm.tick,z,T]⟩
 ·intro p s w g n q y C z x Q
  have E:=(dv.1 x).1;have X:w.key<m.marks.length:=by rw[f.ml];exact Q
  obtain⟨N,f2,O,f4,f5,f6,R,f8⟩:=c.C6 c.wrote.length;have jv:=c.N3 c.wrote.length;obtain⟨l,hl⟩:∃l,m.bw[w.key]?=Z l:=⟨_,dq Q⟩;refine⟨List.length_modify ..,F,mZ,f.si,⟨f.ck.1,f.ck.2.1⟩,F,F,F,N,h.abH g q n y (.inr z) E,λj u v B=>?_,λA M G j u v B=>?_,by rw[O],?_⟩
  ·rw[R]at v
   rw[N];have hj:c.keys<j:=by
    simp only[Cm.own]at B;omega
   have e:w.key≠u.key:=λe=>by have:=an7 h x v e;omega
   rw[kU e];exact L j u v (.inr (.inr ⟨z,by omega⟩))
  ·obtain⟨t,H⟩:=G j u v B
   by_cases e:w.key=u.key
   ·exfalso
    obtain⟨t',W⟩:=L _ w x (.inr (.inr ⟨z,df _⟩));rw[e,H]at W;simp only[ij,cF.mk.injEq,true_and]at W;omega
   ·exact⟨t,by rw[kU e];exact H⟩
  ·have h1:=abN List.length (λl=>⟨c.bP,w.gone,w.val⟩::l) m.bw w.key l hl
   have V:c.inst=c.keys:=by simp[Cm.inst,z]
   have e2:(c.step c.wrote.length).inst=c.keys+1:=by
    unfold Cm.inst;rw[R];rcases jv with⟨a,b,d⟩|⟨a,b,d⟩
    ·rw[d,z];simp[a]
    ·rw[d,z,b];simp
   simp only[iH]at h1;rw[O,V,e2];simp only
   omega
 ·intro p s g n q y C z T M
  exact .over f h g ai n _ _ _
theorem apg{m:Mo}(b:m.Ok)(n:Int):(m.pick n).1.Ok:=by
 unfold Mo.pick;split
 ·exact b
 ·split
  ·exact b
  ·split
   ·exact b
   ·rename_i c f
    obtain⟨e,j,d⟩:=b.me _ c f;have a:=T4 b j d;have s:=(dv.1 f).1;refine⟨by simpa only[a.k]using b.k,by simpa only[a.s]using b.s,by simp only[a.ml,a.k,b.ml],a.si,⟨a.ck.1,a.ck.2,by simp only[a.li];exact b.ck.2.2⟩,by simpa using b.cl,λi g d=>?_,?_,?_,by simp only[a.at_,a.s,a.k];exact b.at_⟩
    ·simp only at d
     rw[List.getElem?_set]at d;simp only[a.k,a.s];split at d
     ·rename_i h
      subst h;cases d;exact⟨a.me.trans e,a.ok,a.mo⟩
     ·rename_i r
      obtain⟨o,q,q3⟩:=b.me i g d;exact⟨o,q,a.G8 g ai q3⟩
    ·have:=Hs (·.at_) m.cf _ c (m.eo c).2.1 f
     have k:=a.ev;have l:=b.ev;simp only
     omega
    ·have:=Hs (λc:Cm=>20*c.at_+c.inst) m.cf _ c (m.eo c).2.1 f
     have k:=a.ch;have l:=b.ch;simp only at this⊢;omega
theorem awU(l:List bt)(w:Int):(qZ l w).length<=l.length:=by
 unfold qZ;split
 ·rw[Dh];omega
 ·exact df _
theorem awt{m:Mo}(a:m.Ok):m.fX.1.Ok:=by
 have e:=a.k;have f:=a.s;have d:=a.at_;unfold Mo.fX;split
 ·exact a
 ·split
  ·exact⟨a.k,a.s,a.ml,a.si,a.ck,a.cl,a.me,a.ev,a.ch,by simp only;omega⟩
  ·split
   ·exact⟨a.k,a.s,a.ml,a.si,a.ck,a.cl,a.me,a.ev,a.ch,by simp only;omega⟩
   ·have b:=λi=>sK (abO List.length (λl=>qZ l m.w) (λl=>awU l m.w) m.bw i) a.ch
    split
    ·exact⟨by simpa using a.k,a.s,by simpa using a.ml,a.si,a.ck,a.cl,by simpa using a.me,a.ev,b _,by simp⟩
    ·exact⟨by simpa using a.k,a.s,by simpa using a.ml,a.si,a.ck,a.cl,by simpa using a.me,a.ev,b _,by simp only[List.length_modify];omega⟩
theorem Cm.Sb{m:Mo}{l:List Stp}(a:m.right l=U):(Cm.new m.cf.length l).Ok m.bw.length m.sites.length:=by
 simp only[Mo.right,ig,decide_eq_true_eq]at a;exact{
  len:=a.2
  at_:=je _
  pr:=a.1
  ng:=List.Pairwise.nil
  key:=λw i=>by cases i
  site:=λs g=>by cases g
  opn:=λ_ p d f=>by
   cases l with
   |nil=>simp[Cm.new]at d
   |cons q l=>
    simp only[Cm.new,tL,ij]at d;subst d;have e:=a.1;simp only[pB,ig]at e;have:=abM e.1;simp at this;exact absurd this f
  cls:=λ_=>rfl
  out:=λ_=>rfl
  m6:=λ_ _ _=>rfl
  vY:=λh=>by simp[Cm.new]at h
  keys:=λh=>absurd F h
  nB:=λ_=>⟨F,F⟩
  ph:=je _
  qU:=λ_=>rfl
  b:=by simp[Cm.new]
  st:=by simp[Cm.new]}
theorem aeP{m:Mo}(a:m.Ok)(l:List Stp):(m.c8 l).1.Ok:=by
 unfold Mo.c8;split
 ·exact a
 ·split
  ·exact a
  ·split
   ·exact a
   ·rename_i g d h
    have e:m.right l=U:=by simpa using d
    have f:=a.cl;refine⟨a.k,a.s,a.ml,a.si,a.ck,by simp only[mL,iH,ow];omega,λi c b=>?_,by simp[a.ev,Cm.new],by simpa[Cm.new,Cm.inst]using a.ch,a.at_⟩;simp only at b;rw[List.getElem?_append]at b;split at b
    ·exact a.me i c b
    ·rename_i j
     have:i-m.cf.length=0:=by
      have:=(dv.1 b).1;simp at this;omega
     rw[this]at b;simp only[tL,ij]at b;subst b;exact⟨by simp only[Cm.new];omega,Cm.Sb e,GV F⟩
theorem aoc{a b c:Int}{m:Mo}(h:Mo.new a b c=Z m):m.Ok:=by
 unfold Mo.new at h;split at h
 ·cases h
 ·rename_i f
  cases h;refine⟨?_,?_,by simp[Mo.init],λv e=>?_,?_,by simp[Mo.init],λi c d=>by simp[Mo.init]at d,F,?_,je _⟩
  ·simp only[Mo.init,List.length_replicate];omega
  ·simp only[Mo.init,List.length_replicate];omega
  ·simp only[Mo.init,List.mem_replicate]at e;omega
  ·simp only[Mo.init];omega
  ·simp[Mo.init]
theorem TR{α:Type}(f:α->Nat)(n:Nat):∀l:List α,(∀a∈l,f a<=n)->(l.map f).sum<=n*l.length
 |[],_=>by simp
 |x::l,h=>by
  have d:=h x (fu ..);have e:=TR f n l λa b=>h a (eK _ b);simp only[ft,xd,iH,Nat.mul_add];omega
theorem Yv{α:Type}(f:α->Nat):∀(l:List α)(a:α),a∈l->f a<=(l.map f).sum
 |x::l,a,h=>by
  simp only[ft,xd];rcases bQ.1 h with rfl|h
  ·omega
  ·have:=Yv f l a h;omega
theorem Mo.Ok.Fe{m:Mo}(a:m.Ok):m.events.length<=1600/\∀l∈m.bw,l.length<=40000:=by
 have n:=a.cl;have b:∀c∈m.cf,c.at_<=200/\20*c.at_+c.inst<=4020:=λc b=>by
  obtain⟨i,j⟩:=List.getElem?_of_mem b;obtain⟨_,h,_⟩:=a.me i c j;have d:=h.len;have e:=h.at_;have f:=h.inst;have g:=a.k.2;omega
 have d:=TR (·.at_) 200 m.cf λc h=>(b c h).1;have e:=TR (λc:Cm=>20*c.at_+c.inst) 4020 m.cf λc h=>(b c h).2;have f:=a.ev;have g:=a.ch;refine⟨by omega,λl k=>?_⟩;have:=Yv List.length m.bw l k;omega
variable {c:Cm}{m:Mo}{l:ae Wt}
def oR(v:Int):eZ:=if v=-1 then⟨Y,Y,0⟩else if v=-2 then⟨U,Y,0⟩else⟨U,U,v⟩
theorem Pw:∀(l:ae Int)(i:Nat),tc (l.map oR) i=rD l i
 |[],_=>rfl
 |v::l,i=>by
  simp only[ft,tc,rD,Pw l (i+1)];by_cases h:v=-1
  ·simp[oR,h]
  ·rw[if_neg h]
   have:(oR v).busy=U:=by
    unfold oR;rw[if_neg h];split<;>rfl
   rw[if_pos this]
theorem We:∀(l:ae Int)(i j:Nat),rD l i=Z j->l[j-i]?=Z (-1)
 |[],_,_,h=>by cases h
 |v::l,i,j,h=>by
  simp only[rD]at h;split at h
  ·rename_i b
   cases h;simp[b]
  ·have a:=We l (i+1) j h
   have c:=(Px l (i+1) j h).1;rw[show j-i=(j-(i+1))+1 by omega];simpa using a
theorem as7(v:Int)(h:-2<=v):yx (oR v)=v:=by
 unfold oR yx;split
 ·simp;omega
 ·split
  ·simp;omega
  ·simp
theorem aaI:∀l:ae Int,(∀v∈l,-2<=v)->(l.map oR).map yx=l
 |[],_=>rfl
 |v::l,h=>by
  simp only[ft,as7 v (h v (fu ..)),aaI l λv a=>h v (eK _ a)]
theorem am4(v w:Int)(h:-2<=v):ye (oR v) w=if 0<=v/\v<w then v else w:=by
 unfold oR ye;split
 ·rename_i e;subst e;simp
 ·split
  ·rename_i e;subst e;simp
  ·have:0<=v:=by omega
   simp[this]
theorem as3:oR (-1)=⟨Y,Y,0⟩:=rfl
theorem as4(v:Int)(h:0<=v):oR v=⟨U,U,v⟩:=by
 unfold oR;rw[if_neg ai,if_neg ai]
theorem acf(e:ae bt)(b:Int):∀k i,upto e b k<=i->i<k->∀v,e[i]?=Z v->v.bP>b
 |0,_,_,h,_,_=>absurd h (Nat.not_lt_zero _)
 |k+1,i,a,c,v,d=>by
  simp only[upto]at a;split at a
  ·split at a
   ·rename_i u f g
    rcases Nat.lt_succ_iff_lt_or_eq.1 c with c|rfl
    ·exact acf e b k i a c v d
    ·rw[f]at d;cases d;exact g
   ·omega
  ·omega
theorem acg(a:ae bt)(b:Int):∀k j,k<=a.length->upto a b k=j+1->∃v,a[j]?=Z v/\v.bP<=b
 |0,j,_,h=>by simp[upto]at h
 |k+1,j,d,h=>by
  obtain⟨u,c⟩:∃u,a[k]?=Z u:=⟨_,dq ai⟩;simp only[upto,c]at h;split at h
  ·exact acg a b k j ai h
  ·rename_i e
   simp only[Nat.add_right_cancel_iff]at h;subst h;exact⟨u,c,by omega⟩
theorem ES(b:Int):∀l:ae bt,dh b l<=l.length
 |[]=>df _
 |v::l=>by
  have:=ES b l;simp only[dh];split<;>simp only[iH]<;>omega
theorem Zj(b:Int):∀(l:ae bt)(i:Nat)(v:bt),i<dh b l->l[i]?=Z v->v.bP>b
 |x::l,0,v,h,a=>by
  simp only[tL,ij]at a;subst a;simp only[dh]at h;split at h
  ·omega
  ·omega
 |x::l,i+1,v,h,a=>by
  simp only[dh]at h;split at h
  ·omega
  ·exact Zj b l i v ai (by simpa using a)
theorem Zi(b:Int):∀(l:ae bt)(v:bt),l[dh b l]?=Z v->v.bP<=b
 |x::l,v,h=>by
  simp only[dh]at h;split at h
  ·rename_i a
   simp only[tL,ij]at h;subst h;exact a
  ·exact Zi b l v (by simpa using h)
theorem ach(l:ae bt)(b:Int):upto l.reverse b l.length+dh b l=l.length:=by
 have k:=ES b l;have m:=Od l.reverse b l.length;have e:∀i,i<l.length->∃v,l.reverse[i]?=Z v/\l[l.length-1-i]?=Z v:=λi g=>⟨l[l.length-1-i],by rw[List.getElem?_reverse g,dq],dq _⟩;by_cases aE:upto l.reverse b l.length+dh b l<l.length
 ·exfalso
  obtain⟨v,a,c⟩:=e (l.length-1-dh b l) ai;have n:=acf l.reverse b l.length _ ai ai v a;rw[show l.length-1-(l.length-1-dh b l)=dh b l by omega]at c;have o:=Zi b l v c;omega
 ·by_cases p:l.length<upto l.reverse b l.length+dh b l
  ·exfalso
   obtain⟨j,h⟩:∃j,upto l.reverse b l.length=j+1:=⟨upto l.reverse b l.length-1,by omega⟩;obtain⟨v,a,c⟩:=acg l.reverse b l.length j aZ h;obtain⟨v',d,f⟩:=e j ai;rw[a]at d;cases d;have:=Zj b l _ v ai f;omega
  ·omega
theorem aq1(l:ae bt)(b:Int):wQ (!(sn l.reverse b).2) (sn l.reverse b).1=match l[dh b l]? with
  |some v=>tB v.gone v.val
  |none=>tB U ff:=by
 have h:=ach l b;unfold sn;rw[Hz];by_cases g:dh b l=l.length
 ·have c:upto l.reverse b l.length=0:=by omega
  rw[g,Dg (df _),c];cases l.reverse[0-1]?<;>simp[wQ,tB,ff]
 ·have f:=ES b l
  obtain⟨v,a⟩:∃v,l[dh b l]?=Z v:=⟨_,dq ai⟩;have d:l.reverse[upto l.reverse b l.length-1]?=Z v:=by
   rw[List.getElem?_reverse ai,show l.length-1-(upto l.reverse b l.length-1)=dh b l by omega,a]
  have e:upto l.reverse b l.length≠0:=by omega
  rw[d,a];cases hg:v.gone<;>simp[e,hg,wQ,tB,ff]
theorem amo(l:ae bt)(b:Int)(a:0<=b):decide (CH l.reverse>b)=wI l b:=by
 cases l with
 |nil=>simp[CH,wI];omega
 |cons v l=>simp[CH,wI]
theorem awX(l:ae bt)(w:Int):mJ l.reverse w=(qZ l w).reverse:=by
 have g:=ach l w;have e:=ES w l;unfold mJ qZ;rw[Hz];by_cases f:dh w l=l.length
 ·have b:upto l.reverse w l.length=0:=by omega
  rw[b,f,Dg (df _)]
 ·obtain⟨v,a⟩:∃v,l[dh w l]?=Z v:=⟨_,dq ai⟩
  obtain⟨k,d⟩:∃k,upto l.reverse w l.length=k+1:=⟨upto l.reverse w l.length-1,by omega⟩;have c:l.reverse[k]?=Z v:=by
   rw[List.getElem?_reverse ai,show l.length-1-k=dh w l by omega,a]
  rw[d,a];simp only[c];cases v.gone with
  |true=>
   simp only[if_true];rw[List.drop_reverse];congr 2;omega
  |false=>
   simp only[kg,if_false];rw[List.drop_reverse];congr 2;omega
section
variable {V:Type}
theorem Y3(k:Int):∀(l:bL V)(i:Nat),(uh k l i).map (·.2)=(l.find? λx=>decide (x.1=k)).map (·.2.1)
 |[],_=>rfl
 |x::l,i=>by
  simp only[uh,List.find?_cons];by_cases h:x.1=k
  ·simp[h]
  ·simp[h,Y3 k l (i+1)]
theorem RR(l:bL V)(k:Int):iC l k=(l.find? λx=>decide (x.1=k)).map (·.2.1):=Y3 k l 0
theorem Y0(k:Int):iC ([]:bL V) k=I:=rfl
theorem wC(x:Int×V×Nat)(l:bL V)(k:Int):iC (x::l) k=if x.1=k then Z x.2.1 else iC l k:=by
 rw[RR,RR,List.find?_cons];by_cases h:x.1=k<;>simp[h]
theorem MW{l:bL V}{k:Int}:iC l k=I↔k∉l.map (·.1):=by
 rw[RR];simp;constructor
 ·intro h a b d;exact h k a b d F
 ·intro h a b c d e;subst e;exact h b c d
theorem anF:∀{l:bL V},(l.map (·.1)).Nodup->∀x∈l,iC l x.1=Z x.2.1
 |y::l,h,x,a=>by
  simp only[ft,rb]at h;rw[wC];rcases bQ.1 a with rfl|a
  ·simp
  ·have:y.1≠x.1:=λe=>h.1 (by rw[e];exact kV a)
   rw[if_neg this];exact anF h.2 x a
theorem RU(k a:Int)(v:V)(c:Nat):∀l:bL V,iC (j7 l k v c) a=if k=a then Z v else iC l a
 |[]=>by simp only[j7,wC,Y0]
 |x::l=>by
  simp only[j7];by_cases h:x.1=k
  ·subst h
   rw[if_pos F,wC,wC];by_cases b:x.1=a<;>simp[b]
  ·rw[if_neg h,wC,wC,RU k a v c l]
   by_cases b:x.1=a
   ·have:¬k=a:=λe=>h (b.trans e.symm)
    simp[b,this]
   ·simp[b]
theorem MY(k:Int)(v:V)(a:Nat):∀l:bL V,(j7 l k v a).map (·.1)=if k∈l.map (·.1)then l.map (·.1)else l.map (·.1)++[k]
 |[]=>by simp[j7]
 |x::l=>by
  simp only[j7];by_cases h:x.1=k
  ·subst h;simp
  ·rw[if_neg h,ft,MY k v a l]
   have b:¬k=x.1:=λe=>h e.symm;simp only[ft,bQ,b,false_or];split<;>simp
theorem JE(k:Int)(v:V)(a:Nat):∀l:bL V,(j7 l k v a).map (·.2.2)=if k∈l.map (·.1)then l.map (·.2.2)else l.map (·.2.2)++[a]
 |[]=>by simp[j7]
 |x::l=>by
  simp only[j7];by_cases h:x.1=k
  ·subst h;simp
  ·rw[if_neg h,ft,JE k v a l]
   have b:¬k=x.1:=λe=>h e.symm;simp only[ft,bQ,b,false_or];split<;>simp
theorem mq.set{l:bL V}{d:Nat}(h:mq l d)(k:Int)(v:V):mq (j7 l k v d) (qb l k d):=by
 have c:∀b∈l.map (·.2.2),b<d:=λb g=>by
  obtain⟨x,i,rfl⟩:=ox.1 g;exact h.old x i
 by_cases f:k∈l.map (·.1)
 ·have m:qb l k d=d:=by
   unfold qb;cases hg:iC l k with
   |none=>exact absurd f (MW.1 hg)
   |some u=>simp
  rw[m];refine⟨by rw[MY,if_pos f];exact h.keys,by rw[JE,if_pos f];exact h.born,λx i=>?_⟩;have:x.2.2∈(j7 l k v d).map (·.2.2):=kV i;rw[JE,if_pos f]at this;exact c _ this
 ·have m:qb l k d=d+1:=by
   unfold qb;rw[MW.2 f];rfl
  rw[m];refine⟨?_,?_,λx i=>?_⟩
  ·rw[MY,if_neg f,yM]
   exact⟨h.keys,by simp,λa j b g e=>by
    rw[yL]at g;subst g e;exact f j⟩
  ·rw[JE,if_neg f,yM]
   exact⟨h.born,by simp,λa j b g e=>by
    rw[yL]at g;subst g e;exact Nat.lt_irrefl _ (c _ j)⟩
  ·have:x.2.2∈(j7 l k v d).map (·.2.2):=kV i
   rw[JE,if_neg f,Ad,yL]at this;rcases this with h|h
   ·exact Nat.lt_succ_of_lt (c _ h)
   ·omega
theorem YW(k:Int):∀l:bL V,(mV k l).Sublist l
 |[]=>.slnil
 |x::l=>by
  simp only[mV];split
  ·exact List.sublist_cons_self ..
  ·exact(YW k l).cons_cons x
theorem YZ(k a:Int):∀{l:bL V},(l.map (·.1)).Nodup->iC (mV k l) a=if k=a then I else iC l a
 |[],_=>by simp[mV,Y0]
 |x::l,h=>by
  simp only[ft,rb]at h;simp only[mV];by_cases c:x.1=k
  ·subst c
   rw[if_pos F,wC];by_cases b:x.1=a
   ·subst b;simp[MW.2 h.1]
   ·simp[b]
  ·rw[if_neg c,wC,wC,YZ k a h.2]
   by_cases b:x.1=a
   ·have:¬k=a:=λe=>c (b.trans e.symm)
    simp[b,this]
   ·simp[b]
end
theorem Y1(id k:Int):∀{l:bL Mk},(l.map (·.1)).Nodup->iC (vg id l) k=match iC l k with
  |some m=>if m.1=id then I else Z m
  |none=>I
 |[],_=>rfl
 |x::l,h=>by
  simp only[ft,rb]at h;have b:=Y1 id k (l:=l) h.2;unfold vg at b⊢;rw[List.filter_cons,wC];by_cases c:x.1=k
  ·subst c
   rw[if_pos F];by_cases a:x.2.1.1=id
   ·have d:iC l x.1=I:=MW.2 h.1
    rw[d]at b;simp[a,b]
   ·simp[a,wC]
  ·rw[if_neg c]
   by_cases a:x.2.1.1=id
   ·simp[a,b]
   ·simp[a,wC,c,b]
def ayW(marks:ae cF)(a:bL Mk):Prop:=∀(k:Nat)(t:cF),marks[k]?=Z t->iC a k=if t.set then Z (t.c8,t.bP)else I
theorem ayW.set{marks:ae cF}{b:bL Mk}(h:ayW marks b)(k d:Nat)(c t:Int):ayW (marks.set k ⟨U,c,t⟩) (j7 b k (c,t) d):=λj u a=>by
 rw[RU];by_cases e:k=j
 ·subst e
  have f:=(dv.1 a).1;rw[sJ (by simpa using f)]at a;cases a;simp
 ·have:¬(k:Int)=j:=by omega
  rw[kU e]at a;rw[if_neg this];exact h j u a
theorem ayW.del{marks:ae cF}{b:bL Mk}(h:ayW marks b)(d:(b.map (·.1)).Nodup)(k:Nat):ayW (marks.set k .no) (mV k b):=λj u a=>by
 rw[YZ _ _ d];by_cases e:k=j
 ·subst e
  have c:=(dv.1 a).1;rw[sJ (by simpa using c)]at a;cases a;simp[cF.no]
 ·have:¬(k:Int)=j:=by omega
  rw[kU e]at a;rw[if_neg this];exact h j u a
theorem ayW.leave{marks:ae cF}{c:bL Mk}(h:ayW marks c)(f:(c.map (·.1)).Nodup)(b:Nat):ayW (marks.map (tP b)) (vg b c):=λj u e=>by
 rw[Y1 _ _ f];rw[fq]at e;obtain⟨t,g,rfl⟩:=gV.1 e;rw[h j t g];unfold tP;by_cases a:t.set=U
 ·by_cases d:t.c8=b
  ·simp[a,d,cF.no]
  ·simp[a,d]
 ·simp[a]
theorem ayW.bP{ws:ae Wt}(b:Nat)(T:Int):∀(d:ae Wt)(marks:ae cF)(c:bL Mk)(a:Nat),ayW marks c->mq c a->(∀w∈d,∃t,marks[w.key]?=Z ⟨U,b,t⟩)->ayW (d.foldl (λl w=>l.modify w.key λk=>{k with bP:=T}) marks) (C5 b T (d.map λw=>(w.key:Int)) c a).1/\mq (C5 b T (d.map λw=>(w.key:Int)) c a).1 (C5 b T (d.map λw=>(w.key:Int)) c a).2
 |[],marks,c,a,h,g,_=>⟨h,g⟩
 |w::d,marks,c,a,h,g,i=>by
  obtain⟨t,m⟩:=i w (fu ..);have n:=(dv.1 m).1;have e:marks.modify w.key (λk=>{k with bP:=T})=marks.set w.key ⟨U,b,T⟩:=by
   apply List.ext_getElem?;intro j;rw[List.getElem?_modify,List.getElem?_set];by_cases f:w.key=j
   ·subst f
    rw[m,if_pos n];simp
   ·simp[f]
  have:=ayW.bP (ws:=ws) b T d (marks.set w.key ⟨U,b,T⟩) (j7 c w.key (b,T) a) (qb c w.key a) (h.set w.key a b T) (g.set _ _) λu p=>by
   by_cases f:w.key=u.key
   ·exact⟨T,by rw[<-f,sJ n]⟩
   ·obtain⟨q,o⟩:=i u (eK _ p)
    exact⟨q,by rw[kU f];exact o⟩
  simpa only[C5,ft,List.foldl_cons,e]using this
def iK(marks:ae cF):Nat->ae (Int×Int×Int)
 |0=>[]
 |i+1=>iK marks i++match marks[i]? with
  |some t=>if t.set then [((i:Int),t.c8,t.bP)]else []
  |none=>[]
theorem YT{marks:ae cF}{b:bL Mk}(h:ayW marks b):∀i,i<=marks.length->oN b i=iK marks i
 |0,_=>rfl
 |i+1,d=>by
  obtain⟨t,a⟩:∃t,marks[i]?=Z t:=⟨_,dq ai⟩;simp only[oN,iK,YT h i ai,a,h i t a];by_cases c:t.set=U<;>simp[c]
structure qu(l:ae Wt)(ws:bL Wr):Prop where
 get:∀k:Nat,iC ws k=(uu k l).map λw=>(w.gone,w.val)
 keys:(ws.map (·.1)).Perm (l.map λw=>(w.key:Int))
theorem axA(k:Nat):uu k []=I:=rfl
theorem C8(k:Nat)(w:Wt)(l:ae Wt):uu k (w::l)=if w.key=k then Z w else uu k l:=by
 unfold uu;rw[List.find?_cons];by_cases h:w.key=k
 ·simp[h]
 ·have:(w.key==k)=Y:=by simpa using h
  simp[h,this]
theorem qu.nil:qu [] ([]:bL Wr):=⟨λ_=>rfl,.refl _⟩
theorem acs(w:Wt)(k:Nat):∀l:ae Wt,(l.map (·.key)).Pairwise (·<·)->uu k (kT w l)=if w.key=k then Z w else uu k l
 |[],_=>by simp[kT,C8]
 |x::l,h=>by
  simp only[ft,nQ]at h;simp only[kT];split
  ·rw[C8]
  ·split
   ·rename_i e
    rw[C8,C8];by_cases a:w.key=k
    ·simp[a]
    ·have:¬x.key=k:=λb=>a (e▸b)
     simp[a,this]
   ·rename_i e
    rw[C8,C8,acs w k l h.2];by_cases a:x.key=k
    ·have:¬w.key=k:=λb=>e (a.trans b.symm)
     simp[a,this]
    ·simp[a]
theorem acw(w:Wt):∀l:ae Wt,(l.map (·.key)).Pairwise (·<·)->((kT w l).map λw=>(w.key:Int)).Perm (if w.key∈l.map (·.key)then l.map λw=>(w.key:Int)else(l.map λw=>(w.key:Int))++[(w.key:Int)])
 |[],_=>by simp[kT]
 |x::l,h=>by
  simp only[ft,nQ]at h;have d:=acw w l h.2;simp only[kT];split
  ·rename_i aE
   have c:¬w.key∈x.key::l.map (·.key):=λa=>by
    rcases bQ.1 a with e|a
    ·omega
    ·have:=h.1 _ a;omega
   simp only[ft];rw[if_neg c];exact(kW (l₁:=[(w.key:Int)]))
  ·split
   ·rename_i e
    simp only[ft];rw[if_pos (by rw[e];exact fu ..),e]
   ·rename_i e
    have b:¬w.key=x.key:=λh=>e h.symm;simp only[ft,bQ,b,false_or];refine(d.cons _).trans ?_;split
    ·exact .refl _
    ·exact .refl _
theorem qu.Yg{b:bL Wr}(h:qu l b)(k:Nat):(k:Int)∈b.map (·.1)↔k∈l.map (·.key):=by
 rw[h.keys.mem_iff];simp only[ox];constructor
 ·rintro⟨w,a,e⟩;exact⟨w,a,by omega⟩
 ·rintro⟨w,a,e⟩;exact⟨w,a,by omega⟩
theorem qu.put{c:bL Wr}(h:qu l c)(b:(l.map (·.key)).Pairwise (·<·))(w:Wt)(d:Nat):qu (kT w l) (j7 c w.key (w.gone,w.val) d)where
 get:=λk=>by
  rw[RU,acs w k l b];by_cases e:w.key=k
  ·subst e;simp
  ·have:¬(w.key:Int)=k:=by omega
   rw[if_neg this,if_neg e];exact h.get k
 keys:=by
  rw[MY];refine List.Perm.trans ?_ (acw w l b).symm;by_cases a:w.key∈l.map (·.key)
  ·rw[if_pos a,if_pos ((h.Yg _).2 a)];exact h.keys
  ·rw[if_neg a,if_neg (λf=>a ((h.Yg _).1 f))];exact h.keys.append_right _
theorem qu.jb{c:bL Wr}(h:qu l c)(d:(l.map (·.key)).Pairwise (·<·)):jb c=l.map λw=>(w.key:Int):=by
 unfold _root_.Go.Proofs.YtgahemdblfapeaaGreatDoor.jb;rw[abx h.keys];unfold sC;refine List.mergeSort_of_pairwise (List.Pairwise.imp (R:=λa b:Int=>a<b) (λh=>by simp only[decide_eq_true_eq];omega) ?_);have:(l.map λw=>(w.key:Int))=(l.map (·.key)).map λk:Nat=>(k:Int):=by simp
 rw[this,List.pairwise_map];exact d.imp λh=>by omega
theorem qu.at_{c:bL Wr}(h:qu l c)(d:(l.map (·.key)).Pairwise (·<·)){w:Wt}(f:l[j]?=Z w):iC c w.key=Z (w.gone,w.val):=by
 have i:(l.map (·.key)).Nodup:=d.imp λh=>Nat.ne_of_lt h;rw[h.get];have:∀(l:ae Wt),(l.map (·.key)).Nodup->w∈l->uu w.key l=Z w:=by
  intro l;induction l with
  |nil=>intro _ h;cases h
  |cons x l g=>
   intro b a;simp only[ft,rb]at b;rw[C8];rcases bQ.1 a with rfl|a
   ·simp
   ·have:¬x.key=w.key:=λe=>b.1 (by rw[e];exact kV a)
    rw[if_neg this];exact g b.2 a
 rw[this l i (lR f)];rfl
theorem ag8{h:bL Wr}{g:bL Mk}(j:qu c.wrote h)(i:ayW m.marks g){l:ae bt}(b:m.bw[k]?=Z l)(o:m.marks.length=m.bw.length):zj h g l.reverse k c.me c.b=m.get c k:=by
 have n:=(dv.1 b).1;obtain⟨t,f⟩:∃t,m.marks[k]?=Z t:=⟨_,dq ai⟩;unfold zj Mo.get;rw[j.get];cases hg:uu k c.wrote with
 |some w=>simp[wQ,tB,ff]
 |none=>
  simp only[Option.map_none];rw[i k t f,yK,f,yK,b];simp only[pM];have d:=aq1 l c.b;by_cases e:t.set=U
  ·simp only[e,if_true,true_and]
   by_cases a:t.c8≠(c.me:Int)/\t.bP≠0/\t.bP<=c.b
   ·rw[if_pos a,if_pos a]
   ·rw[if_neg a,if_neg a,d]
    cases l[dh c.b l]?<;>rfl
  ·simp only[e,kg,if_false,false_and]
   rw[d];cases l[dh c.b l]?<;>rfl
theorem aeI{f:bL Mk}(h:ayW m.marks f){l:ae bt}(d:m.bw[k]?=Z l)(j:m.marks.length=m.bw.length)(g:0<=c.b):clash f l.reverse k c.me c.b=(((m.marks.getD k .no).set&&decide ((m.marks.getD k .no).c8≠c.me))||wI (m.bw.getD k []) c.b):=by
 have i:=(dv.1 d).1;obtain⟨t,e⟩:∃t,m.marks[k]?=Z t:=⟨_,dq ai⟩;unfold clash;rw[h k t e,amo l c.b g,yK,e,yK,d];simp only[pM];by_cases a:t.set=U
 ·by_cases b:t.c8=c.me
  ·simp[a,b]
  ·simp[a,b]
 ·simp[a]
def cF.cells(k:cF):ae ag:=[.bool k.set,ah k.c8,ah k.bP]
theorem cF.len(k:cF):k.cells.length=3:=rfl
def Wt.cells(w:Wt):ae ag:=[ah w.key,.bool w.gone,.string w.val]
theorem Wt.len(w:Wt):w.cells.length=3:=rfl
def aaG:aj Nat->Int
 |some i=>i
 |none=>-1
structure bn where
 g:aj Nat
 n:Nat
 cap:Nat
 cur:af ag
def bn.v(c:bn):ag:=sv c.g c.n c.cap
def bn.en(c:bn):En:=match c.g with
 |some g=>.ob g (.cells c.cur 187)
 |none=>.row 187 3 I 0 0 []
structure bn.Is(c:bn)(l:ae bt):Prop where
 n:c.n=l.length
 cap:c.n<=c.cap
 cur:c.g.isSome=U->c.cur.toList.take (c.n*3)=l.flatMap bt.cells
 no:c.g=I->l=[]
structure RS where
 s:Nat
 sg:aj Nat
 sc:Nat
 cb:Nat
 mb:Nat
 lg:aj Nat
 lc:Nat
 cl:ae Nat
 eg:aj Nat
 ec:Nat
 ch:ae bn
def RS.en(r:RS)(m:Mo):En:=.ob r.s (.cells #[ah m.clock,ah m.cq,sv r.sg m.sites.length r.sc,sv (Z r.cb) r.ch.length r.ch.length,sv (Z r.mb) m.marks.length m.marks.length,sv r.lg r.cl.length r.lc,sv r.eg m.events.length r.ec,ah m.at_,ah m.w,.bool m.cU] 134)
def RS.sE(r:RS)(m:Mo):En:=.row 3 1 r.sg m.sites.length r.sc (m.sites.map ah)
def RS.cE(r:RS):En:=.row 186 1 (Z r.cb) r.ch.length r.ch.length (r.ch.map bn.v)
def RS.mE(r:RS)(m:Mo):En:=.row 190 3 (Z r.mb) m.marks.length m.marks.length (m.marks.flatMap cF.cells)
def RS.lE(r:RS):En:=.row 176 1 r.lg r.cl.length r.lc (r.cl.map pt)
def RS.eE(r:RS)(m:Mo):En:=.row 188 5 r.eg m.events.length r.ec (m.events.flatMap Ev.cells)
structure RC where
 c:Nat
 pg:aj Nat
 pc:Nat
 wg:aj Nat
 wc:Nat
def RC.en(q:RC)(c:Cm):En:=.ob q.c (.cells #[ah c.me,sv q.pg c.pr.length q.pc,ah c.at_,.bool c.out,ah (aaG c.site),ah c.b,sv q.wg c.wrote.length q.wc,ah c.phase,ah c.keys,ah c.bP] 179)
def RC.pE(q:RC)(c:Cm):En:=.row 81 3 q.pg c.pr.length q.pc (c.pr.flatMap Stp.cells)
def RC.wE(q:RC)(c:Cm):En:=.row 185 3 q.wg c.wrote.length q.wc (c.wrote.flatMap Wt.cells)
def RS.ev(r:RS)(g:aj Nat)(a:Nat):RS:={r with eg:=g,ec:=a}
theorem uj(r:RS)(m:Mo)(q:RC)(c:Cm)(o t:Int)(v:ByteArray)(h:m.events.length<1000000)(i:c.at_<1000000):Fl Sv 85 [pt r.s,pt q.c,ah o,.string v,ah t].toArray [r.en m,q.en c,r.eE m] λ_ L=>∃g b,L=[(r.ev g b).en (m.ba c o v t),q.en c.up,(r.ev g b).eE (m.ba c o v t)]:=by
 refine Fl.of 38 λf e=>?_;refine ao [] ?_;refine gX 19 [0,1,1] [17,18] [19,20,21] ?_;refine rk (λ_=>[]) λz=>BR (app1 132 2 3 m.events.length ai) ?_;rintro _ _ ⟨d,a,rfl,rfl⟩;refine gY (Fl.run [0] ?_);refine ao [1,aS c.at_,1] ?_;refine a7 [3] [] [.ob r.s (.cells #[ah m.clock,ah m.cq,sv r.sg m.sites.length r.sc,sv (Z r.cb) r.ch.length r.ch.length,sv (Z r.mb) m.marks.length m.marks.length,sv r.lg r.cl.length r.lc,sv (Z d) (m.events.length+1) a,ah m.at_,ah m.w,.bool m.cU] 134),q.en c.up,.row 188 5 (Z d) (m.events.length+1) a (m.events.flatMap Ev.cells++Ev.cells ⟨c.me,c.at_,o,v,t⟩)] ⟨Z d,a,?_⟩;simp[Mo.ba,RS.en,RS.eE,RS.ev]
theorem SQ(r:RS)(m:Mo)(q:RC)(c:Cm)(a:Bool)(v:ByteArray)(d:m.events.length<1000000)(e:c.at_<1000000):Fl Sv 119 [pt r.s,pt q.c,.bool a,.string v].toArray [r.en m,q.en c,r.eE m] λ_ L=>∃g b,L=[(r.ev g b).en (m.ba c (tB a v).1 (tB a v).2 0),q.en c.up,(r.ev g b).eE (m.ba c (tB a v).1 (tB a v).2 0)]:=by
 cases a with
 |true=>
  refine Fl.of 16 λh f=>ao [] (c5 [0,1,2] (uj r m q c 3 0 ⟨#[]⟩ d e) ?_);rintro _ _ ⟨g,b,rfl⟩;exact ao [] (a7 [] [] _ ⟨g,b,F⟩)
 |false=>
  refine Fl.of 16 λh f=>ao [] (c5 [0,1,2] (uj r m q c 2 0 v d e) ?_);rintro _ _ ⟨g,b,rfl⟩;exact ao [] (a7 [] [] _ ⟨g,b,F⟩)
theorem SM(q:RC)(c:Cm)(n:Nat)(e:c.keys<1000000)(f:c.phase<1000000):Fl Sv 120 [pt q.c,ah n].toArray [q.en c] λ_ L=>L=[q.en (c.step n)]:=by
 refine Fl.of 27 λd b=>?_;by_cases a:c.keys+1=n
 ·refine ao [0,aS c.keys,0,0,fB (c.keys+1:Nat) n,0,0,aS c.phase,0] ?_
  refine a7 [] [] [q.en {c with keys:=0,phase:=c.phase+1}] ?_;rw[Cm.step,if_pos a]
 ·refine ao [0,aS c.keys,0,0,bR (c.keys+1:Nat) n] ?_
  refine a7 [] [] [q.en {c with keys:=c.keys+1}] ?_;rw[Cm.step,if_neg a]
variable {q:RC}{r:RS}{C:bn}
theorem bn.Is.get{l:ae bt}(h:C.Is l)(d:C.g=Z g){v:bt}{u:ag}(e:j<3)(b:l[i]?=Z v)(f:v.cells[j]?=Z u):C.cur.toList[i*3+j]?=Z u:=by
 have c:=h.cur (by rw[d];rfl);have k:=(dv.1 b).1;have a:(l.flatMap bt.cells)[i*3+j]?=Z u:=by
  have:=dS bt.len l i j v e b;rw[this];exact f
 rw[<-c,BJ]at a;split at a
 ·exact a
 ·cases a
theorem aoe{b:Int}{l:ae bt}{v:bt}(h:l[i]?=Z v):dh b (l.drop i)=if v.bP<=b then 0 else dh b (l.drop (i+1))+1:=by
 obtain⟨a,e⟩:=dv.1 h;rw[Dc a,e];rfl
theorem aai(r:RS)(m:Mo)(C:bn)(l:List bt)(k:Nat)(b:Int)(e:C.Is l)(o:r.ch[k]?=some C)(D:l.length<1000000):Fl Sv 91 [pt r.s,goInt k,goInt b].toArray [r.en m,r.cE,C.en] λv L=>v=goInt (dh b l)∧L=[r.en m,r.cE,C.en]:=by
 have u:=(List.getElem?_eq_some_iff.1 o).1;have t:(r.ch.map bn.v)[k*1]?=some C.v:=by rw[Nat.mul_one,List.getElem?_map,o];rfl
 obtain⟨g,n,a,c⟩:=C;have w:n=l.length:=e.n;subst w;refine Fl.of 32 λA z=>ao [0,iX 129 1 r.cb r.ch.length u,rr 1 t,.g,.x] ?_;cases g with
 |none=>
  have s:=e.no rfl;subst s;exact ao [fH 0 (0:Nat)] (a7 [] [goInt 0] _ ⟨rfl,rfl⟩)
 |some g=>
  refine j4 (ι:=Nat) (λi=>l.length-i) (λi=>[(0,pt r.s),(2,goInt b),(7,sv (some g) l.length a),(8,goInt i),(6,goInt 0)]) (λ_=>[r.en m,r.cE,bn.en ⟨some g,l.length,a,c⟩]) (λi=>i≤l.length∧dh b l=i+dh b (l.drop i)) 0 ⟨Nat.zero_le _,by simp⟩ ?_;rintro i ⟨B,p⟩ x;by_cases aE:i<l.length
  ·obtain⟨v,q⟩:∃v,l[i]?=some v:=⟨_,List.getElem?_eq_getElem aE⟩
   have h:c.toList[i*3]?=some (goInt v.bP):=e.get rfl (j:=0) aX q rfl;have f:=aoe (b:=b) q;by_cases d:v.bP≤b
   ·rw[if_pos d]at f
    refine ao [fp i l.length,iX 186 3 g a aE,rr 2 h,bT d] ?_;exact a7 [] [goInt i] _ ⟨by rw[p,f];rfl,rfl⟩
   ·rw[if_neg d]at f
    refine ao [fp i l.length,iX 186 3 g a aE,rr 2 h,bF d,aS i,.g,.x] ?_;exact cx (x (i+1) ai ⟨aE,by omega⟩)
  ·have y:i=l.length:=by omega
   refine ao [fH i l.length] ?_;refine a7 [] [goInt l.length] _ ⟨?_,rfl⟩;rw[p,y,List.drop_length];rfl
def rz(a:Nat)(l:ae cF)(i:Nat):ae cF:=(l.take i).map (tP a)++l.drop i
theorem aeV(a:Nat)(l:ae cF)(i:Nat):(rz a l i).length=l.length:=by
 simp only[rz,mL,iV,Dh,List.length_drop];omega
theorem aeU{l:ae cF}(h:i<l.length):(rz a l i)[i]?=l[i]?:=by
 unfold rz;rw[Ab (by simp[Nat.le_of_lt h]),Fx];congr 1;simp[Nat.le_of_lt h]
theorem aeW{l:ae cF}{x:cF}(h:l[i]?=Z x):rz b l (i+1)=(rz b l i).set i (tP b x):=by
 have d:=(dv.1 h).1;apply List.ext_getElem?;intro j;unfold rz;rw[List.getElem?_set];by_cases e:i=j
 ·subst e
  have a:i<((l.take i).map (tP b)++l.drop i).length:=by simp;omega
  rw[if_pos F,if_pos a,Df (by simp;omega),fq,BJ,if_pos (Nat.lt_succ_self i),h];rfl
 ·rw[if_neg e]
  by_cases c:j<i
  ·rw[Df (by simp;omega),Df (by simp;omega),fq,fq,BJ,BJ,if_pos ai,if_pos c]
  ·rw[Ab (by simp;omega),Ab (by simp;omega),Fx,Fx]
   congr 1;simp only[iV,Dh];omega
theorem CY{l:ae α}{x:α}(h:l[i]?=Z x):l.set i x=l:=by
 apply List.ext_getElem?;intro j;rw[List.getElem?_set];by_cases e:i=j
 ·subst e
  rw[if_pos F,if_pos (dv.1 h).1,h]
 ·rw[if_neg e]
def RC.off(q:RC):RC:={q with wg:=I,wc:=0}
theorem JX (r:RS) (m:Mo) (q:RC) (c:Cm) (s:Nat) (hs:c.site=some s) (ia:s<m.sites.length) (hk:m.marks.length<1000000):Fl Sv 89 [pt r.s,pt q.c].toArray [r.en m,q.en c,r.mE m,r.sE m] λ_ L=>L=[r.en (m.leave c s),q.off.en c.leave,r.mE (m.leave c s),r.sE (m.leave c s)]:=by
 refine Fl.of 68 λz y=>ao [.g,.x] ?_;refine j4 (ι:=Nat) (λi=>m.marks.length-i) (λi=>[(0,pt r.s),(1,pt q.c),(4,goInt i)]) (λi=>[r.en m,q.en c,.row 190 3 (some r.mb) m.marks.length m.marks.length ((rz c.me m.marks i).flatMap cF.cells),r.sE m]) (λi=>i≤m.marks.length) 0 (Nat.zero_le _) ?_;intro i B t;by_cases aE:i<m.marks.length
 ·obtain⟨x,j⟩:∃x,m.marks[i]?=some x:=⟨_,List.getElem?_eq_getElem aE⟩
  have d:(rz c.me m.marks i)[i]?=some x:=(aeU aE).trans j;have b:((rz c.me m.marks i).flatMap cF.cells)[i*3]?=some (.bool x.set):=dS cF.len _ i 0 x aX d;have h:((rz c.me m.marks i).flatMap cF.cells)[i*3+1]?=some (goInt x.c8):=dS cF.len _ i 1 x aX d;have o:((rz c.me m.marks i).flatMap cF.cells)[i*3+2]?=some (goInt x.bP):=dS cF.len _ i 2 x aX d;have a:=t (i+1) ai aE;rw[aeW j]at a;cases lL:x.set with
  |false=>
   rw[lL]at b;have e:tP c.me x=x:=by simp[tP,lL]
   rw[e,CY d]at a;refine ao [0,fp i m.marks.length] ?_;refine dk 23 [0,iX 130 3 r.mb m.marks.length aE,rr 2 b] [] (Fl.nil (ao [aS i,.g,.x] ?_));exact cx a
  |true=>
   rw[lL]at b;by_cases f:x.c8=c.me
   ·have e:tP c.me x=.no:=by simp[tP,lL,f]
    rw[e,←DN cF.len .no rfl _ i (by rw[aeV];exact aE)]at a;refine ao [0,fp i m.marks.length] ?_;have l:(((rz c.me m.marks i).flatMap cF.cells).set (i*3) (.bool false))[i*3+1]?=some (goInt x.c8):=by
     rw[List.getElem?_set_ne ai];exact h
    have n:((((rz c.me m.marks i).flatMap cF.cells).set (i*3) (.bool false)).set (i*3+1) (goInt 0))[i*3+2]?=some (goInt x.bP):=by
     rw[List.getElem?_set_ne ai,List.getElem?_set_ne ai];exact o
    refine dk 23 [0,iX 130 3 r.mb m.marks.length aE,rr 2 b,0,iX 130 3 r.mb m.marks.length aE,rr 2 h,1,bT f] [] (Fl.nil (ao [0,iX 130 3 r.mb m.marks.length aE,rr 2 b,rr 2 l,rr 2 n,aS i,.g,.x] ?_));exact cx a
   ·have e:tP c.me x=x:=by simp[tP,f]
    rw[e,CY d]at a;refine ao [0,fp i m.marks.length] ?_;refine dk 23 [0,iX 130 3 r.mb m.marks.length aE,rr 2 b,0,iX 130 3 r.mb m.marks.length aE,rr 2 h,1,bF f] [] (Fl.nil (ao [aS i,.g,.x] ?_));exact cx a
 ·have u:i=m.marks.length:=by omega
  subst u;refine lF 3 r.sg m.sites.length r.sc ai λg A C=>?_;obtain⟨r,rfl⟩:∃w:RS,r={w with sg:=some g}:=⟨r,by cases r;simp_all⟩;obtain⟨c,rfl⟩:∃c0:Cm,c={c0 with site:=some s}:=⟨c,by cases c;simp_all⟩;obtain⟨v,p⟩:∃v,m.sites[s]?=some v:=⟨_,List.getElem?_eq_getElem ia⟩;have k:(m.sites.map goInt)[s*1]?=some (goInt v):=by rw[Nat.mul_one,List.getElem?_map,p];rfl
  refine ao [0,fH m.marks.length m.marks.length] ?_;refine gX 8 [0,1] [] [8,9] (Fl.run [iX 55 1 g r.sc ia,rr 3 k] (ao [1,1,1,1,1] ?_));refine a7 [] [] [RS.en {r with sg:=some g} m,q.off.en (Cm.leave {c with site:=some s}),.row 190 3 (some r.mb) m.marks.length m.marks.length ((rz c.me m.marks m.marks.length).flatMap cF.cells),.row 3 1 (some g) m.sites.length r.sc ((m.sites.map goInt).set (s*1) (goInt (-1)))] ?_;simp[RS.en,RS.mE,RS.sE,Mo.leave,rz,List.map_set]
def vo(w:Wt):Bool->ae Wt->ae Wt
 |true,[]=>[]
 |false,[]=>[w]
 |a,x::l=>(if a=Y/\w.key<=x.key then [w]else [])++((if x.key=w.key then []else [x])++vo w (a||decide (w.key<=x.key)) l)
theorem SX(w:Wt):∀l:ae Wt,(∀x∈l,x.key≠w.key)->vo w U l=l
 |[],_=>rfl
 |x::l,h=>by
  have a:=h x (fu ..);have b:=SX w l λy c=>h y (eK _ c);simp[vo,a,b]
theorem aav(w:Wt):∀l:ae Wt,(l.map (·.key)).Pairwise (·<·)->vo w Y l=kT w l
 |[],_=>rfl
 |x::l,h=>by
  simp only[ft,nQ]at h;have f:∀y∈l,x.key<y.key:=λy b=>h.1 _ (kV b);unfold kT;by_cases e:w.key<x.key
  ·have c:¬x.key=w.key:=by omega
   have d:w.key<=x.key:=by omega
   have a:=SX w l λy b=>by have:=f y b;omega
   simp[vo,e,c,d,a]
  ·by_cases c:x.key=w.key
   ·have d:w.key<=x.key:=by omega
    have a:=SX w l λy b=>by have:=f y b;omega
    have g:¬w.key<w.key:=Nat.lt_irrefl _;simp[vo,c,a]
   ·have d:¬w.key<=x.key:=by omega
    have a:=aav w l h.2;simp[vo,e,c,d,a]
theorem arT{w:Wt}{x:Wt}(a:Bool)(h:l[i]?=Z x):vo w a (l.drop i)=(if a=Y/\w.key<=x.key then [w]else [])++((if x.key=w.key then []else [x])++vo w (a||decide (w.key<=x.key)) (l.drop (i+1))):=by
 obtain⟨b,e⟩:=dv.1 h;rw[Dc b,e];cases a<;>rfl
def RC.wr(q:RC)(g:aj Nat)(a:Nat):RC:={q with wg:=g,wc:=a}
abbrev wbE(z:Nat)(w:Wt):En:=.ob z (.cells #[ah w.key,.bool w.gone,.string w.val] 185)
abbrev Hw(g:aj Nat)(a:Nat)(l:ae Wt):En:=.row 185 3 g l.length a (l.flatMap Wt.cells)
theorem aaw (q:RC) (c:Cm) (w:Wt) (hs:(c.wrote.map (·.key)).Pairwise (·<·)) (hl:c.wrote.length<100000):Fl Sv 88 [pt q.c,.agg #[goInt w.key,.bool w.gone,.string w.val]].toArray [q.en c,q.wE c] λ_ L=>∃g l,L=[(q.wr g l).en {c with wrote:=kT w c.wrote},(q.wr g l).wE {c with wrote:=kT w c.wrote}]:=by
 refine Fl.of 66 λN M=>cd (λ_=>[.g,.x]) λz=>jJ 185 3 ?_;refine j4 (ι:=Nat×Bool×Option Nat×Nat×List Wt) (λi=>c.wrote.length-i.1) (λi=>[(0,pt q.c),(3,pt z),(4,sv i.2.2.1 i.2.2.2.2.length i.2.2.2.1),(5,.bool i.2.1),(6,goInt i.1)]) (λi=>[q.en c,q.wE c,wbE z w,Hw i.2.2.1 i.2.2.2.1 i.2.2.2.2]) (λi=>i.1≤c.wrote.length∧i.2.2.2.2++vo w i.2.1 (c.wrote.drop i.1)=kT w c.wrote∧i.2.2.2.2.length≤2*i.1) (0,false,none,0,[]) ⟨Nat.zero_le _,by simp[aav w _ hs],Nat.le_refl _⟩ ?_;rintro⟨i,s,g,l,d⟩ ⟨J,e,B⟩ D;simp only at J e B D;by_cases aE:i<c.wrote.length
 ·obtain⟨x,y⟩:∃x,c.wrote[i]?=some x:=⟨_,List.getElem?_eq_getElem aE⟩
  rcases rV:q.wg with _|f
  ·exact yR 1 q.wg c.wrote.length q.wc ai rV
  obtain⟨q,rfl⟩:∃q0:RC,q={q0 with wg:=some f}:=⟨q,by cases q;simp_all⟩;have j:(c.wrote.flatMap Wt.cells)[i*3]?=some (goInt x.key):=dS Wt.len _ i 0 x aX y;have u:(c.wrote.flatMap Wt.cells)[i*3+1]?=some (.bool x.gone):=dS Wt.len _ i 1 x aX y;have v:(c.wrote.flatMap Wt.cells)[i*3+2]?=some (.string x.val):=dS Wt.len _ i 2 x aX y;rw[arT s y]at e;have a:∀A h b t,t++vo w A (c.wrote.drop (i+1))=kT w c.wrote→t.length≤2*(i+1)→Rs Sv _ _ _ _ _:=λA h b t G H=>D (i+1,A,h,b,t) (by simp only;omega) ⟨aE,G,H⟩;by_cases k:x.key=w.key
  ·have o:w.key≤x.key:=by omega
   cases s with
   |false=>
    have a:=λh b=>a true h b (d++[w]) (by simpa[k,o]using e) (by simp only[List.length_append,List.length_cons,List.length_nil];omega);simp only[List.length_append,List.length_cons,List.length_nil,List.flatMap_append,List.flatMap_cons,List.flatMap_nil,List.append_nil,Hw]at a;refine ao [0,fp i c.wrote.length] (dk 15 [0,iX 177 3 f q.wc aE,rr 1 j,2,zi x.key w.key] [] (Fl.nil ?_));refine cd (λ_=>[2,2,2]) λE=>iW (app1 177 3 4 d.length ai) ?_;rintro _ _ ⟨p,r,rfl,rfl⟩;refine ao [] (dP [4] (dk 11 [0,iX 177 3 f q.wc aE,rr 1 j,2,oO x.key w.key] [] (Fl.nil ?_)));refine ao [aS i,.g,.x] ?_;exact cx (a (some p) r)
   |true=>
    have a:=λh b=>a true h b (d) (by simpa[k,o]using e) ai;refine ao [0,fp i c.wrote.length] (dk 15 [] [] (Fl.nil ?_));refine ao [] (dk 11 [0,iX 177 3 f q.wc aE,rr 1 j,2,oO x.key w.key] [] (Fl.nil ?_));refine ao [aS i,.g,.x] ?_;exact cx (a g l)
  ·by_cases o:w.key≤x.key
   ·cases s with
    |false=>
     have a:=λh b=>a true h b (d++[w]++[x]) (by simpa[k,o]using e) (by simp only[List.length_append,List.length_cons,List.length_nil];omega);simp only[List.length_append,List.length_cons,List.length_nil,List.flatMap_append,List.flatMap_cons,List.flatMap_nil,List.append_nil,Hw]at a;refine ao [0,fp i c.wrote.length] (dk 15 [0,iX 177 3 f q.wc aE,rr 1 j,2,zi x.key w.key] [] (Fl.nil ?_));refine cd (λ_=>[2,2,2]) λE=>iW (app1 177 3 4 d.length ai) ?_;rintro _ _ ⟨p,r,rfl,rfl⟩;refine ao [] (dP [4] (dk 11 [0,iX 177 3 f q.wc aE,rr 1 j,2,CM x.key w.key] [] (Fl.nil ?_)));refine cd (λ_=>[0,iX 177 3 f q.wc aE,rr 1 j,rr 1 u,rr 1 v]) λC=>iW (app1 177 3 4 (d.length+1) ai) ?_;rintro _ _ ⟨m,n,rfl,rfl⟩;refine ao [aS i,.g,.x] (dP [4] ?_);exact cx (a (some m) n)
    |true=>
     have a:=λh b=>a true h b (d++[x]) (by simpa[k,o]using e) (by simp only[List.length_append,List.length_cons,List.length_nil];omega);simp only[List.length_append,List.length_cons,List.length_nil,List.flatMap_append,List.flatMap_cons,List.flatMap_nil,List.append_nil,Hw]at a;refine ao [0,fp i c.wrote.length] (dk 15 [] [] (Fl.nil ?_));refine ao [] (dk 11 [0,iX 177 3 f q.wc aE,rr 1 j,2,CM x.key w.key] [] (Fl.nil ?_));refine cd (λ_=>[0,iX 177 3 f q.wc aE,rr 1 j,rr 1 u,rr 1 v]) λC=>iW (app1 177 3 4 d.length ai) ?_;rintro _ _ ⟨m,n,rfl,rfl⟩;refine ao [aS i,.g,.x] (dP [4] ?_);exact cx (a (some m) n)
   ·cases s with
    |false=>
     have a:=λh b=>a false h b (d++[x]) (by simpa[k,o]using e) (by simp only[List.length_append,List.length_cons,List.length_nil];omega);simp only[List.length_append,List.length_cons,List.length_nil,List.flatMap_append,List.flatMap_cons,List.flatMap_nil,List.append_nil,Hw]at a;refine ao [0,fp i c.wrote.length] (dk 15 [0,iX 177 3 f q.wc aE,rr 1 j,2,AD x.key w.key] [] (Fl.nil ?_));refine ao [] (dk 11 [0,iX 177 3 f q.wc aE,rr 1 j,2,CM x.key w.key] [] (Fl.nil ?_));refine cd (λ_=>[0,iX 177 3 f q.wc aE,rr 1 j,rr 1 u,rr 1 v]) λC=>iW (app1 177 3 4 d.length ai) ?_;rintro _ _ ⟨m,n,rfl,rfl⟩;refine ao [aS i,.g,.x] (dP [4] ?_);exact cx (a (some m) n)
    |true=>
     have a:=λh b=>a true h b (d++[x]) (by simpa[k,o]using e) (by simp only[List.length_append,List.length_cons,List.length_nil];omega);simp only[List.length_append,List.length_cons,List.length_nil,List.flatMap_append,List.flatMap_cons,List.flatMap_nil,List.append_nil,Hw]at a;refine ao [0,fp i c.wrote.length] (dk 15 [] [] (Fl.nil ?_));refine ao [] (dk 11 [0,iX 177 3 f q.wc aE,rr 1 j,2,CM x.key w.key] [] (Fl.nil ?_));refine cd (λ_=>[0,iX 177 3 f q.wc aE,rr 1 j,rr 1 u,rr 1 v]) λC=>iW (app1 177 3 4 d.length ai) ?_;rintro _ _ ⟨m,n,rfl,rfl⟩;refine ao [aS i,.g,.x] (dP [4] ?_);exact cx (a (some m) n)
 ·have K:i=c.wrote.length:=by omega
  rw[K,List.drop_length]at e;cases s with
  |true=>
   have e:d=kT w c.wrote:=by simpa[vo]using e
   subst e;refine ao [0,fH i c.wrote.length,0] ?_;exact a7 [1,2] [] _ ⟨g,l,rfl⟩
  |false=>
   have e:d++[w]=kT w c.wrote:=by simpa[vo]using e
   refine cd (λ_=>[0,fH i c.wrote.length,2,2,2]) λE=>iW (app1 177 3 4 d.length ai) ?_;rintro _ _ ⟨p,r,rfl,rfl⟩;refine ao [0] ?_;refine a7 [1,2,4] [] [.ob q.c (.cells #[goInt c.me,sv q.pg c.pr.length q.pc,goInt c.at_,.bool c.out,goInt (aaG c.site),goInt c.b,sv (some p) (d.length+1) r,goInt c.phase,goInt c.keys,goInt c.bP] 179),.row 185 3 (some p) (d.length+1) r (d.flatMap Wt.cells++w.cells)] ⟨some p,r,?_⟩;rw[←e];simp[RC.en,RC.wE,RC.wr]
theorem RS.qV(h:r.sg=Z g):∃a:RS,r={a with sg:=Z g}:=⟨r,by cases r;simp_all⟩
theorem Ul{s:aj Nat}(h:c.site=s):∃c0:Cm,c={c0 with site:=s}:=⟨c,by cases c;simp_all⟩
theorem aqO (r:RS) (m:Mo) (q:RC) (c:Cm) (i:Nat) (hs:c.site=some i) (hi:i<m.sites.length) (h1:m.events.length<1000000) (h2:c.at_<1000000):Fl Sv 86 [pt r.s,pt q.c].toArray [r.en m,q.en c,r.eE m,r.sE m] λ_ L=>∃g a,L=[(r.ev g a).en ({m with sites:=m.sites.set i m.clock}.ba c 1 ff m.clock),q.en (c.qv m.clock),(r.ev g a).eE (m.ba c 1 ff m.clock),r.sE {m with sites:=m.sites.set i m.clock}]:=by
 obtain⟨c,rfl⟩:=Ul hs;obtain⟨v,j⟩:∃v,m.sites[i]?=some v:=⟨_,List.getElem?_eq_getElem hi⟩;have f:(m.sites.map goInt)[i*1]?=some (goInt v):=by rw[Nat.mul_one,List.getElem?_map,j];rfl
 refine Fl.of 70 λl k=>lF 3 r.sg m.sites.length r.sc ai λg h n=>?_;obtain⟨r,rfl⟩:=RS.qV h;refine ao [1,zi i 0,0,1] ?_;refine gX 12 [0,1,1] [] [12,13] (Fl.run [iX 55 1 g r.sc hi,rr 3 f] (ao [1] ?_));refine c5 [0,1,2] (uj {r with sg:=some g} m q {c with site:=some i,b:=m.clock} 1 m.clock ⟨#[]⟩ h1 h2) ?_;rintro _ _ ⟨e,d,rfl⟩;refine ao [] (a7 [] [] [(RS.ev {r with sg:=some g} e d).en (m.ba c 1 ff m.clock),q.en (Cm.qv {c with site:=some i} m.clock),(RS.ev {r with sg:=some g} e d).eE (m.ba c 1 ff m.clock),.row 3 1 (some g) m.sites.length r.sc ((m.sites.map goInt).set (i*1) (goInt m.clock))] ⟨e,d,?_⟩);simp[RS.en,RS.eE,RS.sE,RS.ev,Mo.ba,List.map_set]
theorem agS{l:ae Int}{v:Int}(h:l[i]?=Z v):rD (l.drop i) i=if v=-1 then Z i else rD (l.drop (i+1)) (i+1):=by
 obtain⟨a,e⟩:=dv.1 h;rw[Dc a,e];rfl
def JU(r:RS)(m:Mo)(q:RC)(c:Cm)(L:ae En):Prop:=match rD m.sites 0 with
 |some i=>L=[r.en {m with sites:=m.sites.set i (-2)},q.en (c.take i),r.eE m,r.sE {m with sites:=m.sites.set i (-2)}]
 |none=>∃g a,L=[(r.ev g a).en (m.ba c 5 ff 0),q.en (c.skip U),(r.ev g a).eE (m.ba c 5 ff 0),r.sE m]
theorem Z1 (r:RS) (m:Mo) (q:RC) (c:Cm) (hs:c.site=none) (h1:m.events.length<1000000) (h2:c.at_<1000000) (hl:m.sites.length<1000000):Fl Sv 86 [pt r.s,pt q.c].toArray [r.en m,q.en c,r.eE m,r.sE m] λ_ L=>JU r m q c L:=by
 obtain⟨c,rfl⟩:=Ul hs;refine Fl.of 70 λp o=>ao [1,AD (-1) 0,.g,.x] ?_;refine j4 (ι:=Nat) (λi=>m.sites.length-i) (λi=>[(0,pt r.s),(1,pt q.c),(4,goInt i)]) (λ_=>[r.en m,q.en {c with site:=none},r.eE m,r.sE m]) (λi=>i≤m.sites.length∧rD m.sites 0=rD (m.sites.drop i) i) 0 ⟨Nat.zero_le _,by simp⟩ ?_;rintro i ⟨s,b⟩ l;by_cases aE:i<m.sites.length
 ·obtain⟨v,j⟩:∃v,m.sites[i]?=some v:=⟨_,List.getElem?_eq_getElem aE⟩
  have h:(m.sites.map goInt)[i*1]?=some (goInt v):=by rw[Nat.mul_one,List.getElem?_map,j];rfl
  have a:=agS j;refine lF 3 r.sg m.sites.length r.sc ai λg k t=>?_;obtain⟨r,rfl⟩:=RS.qV k;by_cases d:v=-1
  ·rw[if_pos d]at a
   refine ao [0,fp i m.sites.length,0,iX 55 1 g r.sc aE,rr 3 h,bT d,0,iX 55 1 g r.sc aE,rr 3 h,1] ?_;refine a7 [] [] [RS.en {r with sg:=some g} m,q.en (Cm.take {c with site:=none} i),RS.eE {r with sg:=some g} m,.row 3 1 (some g) m.sites.length r.sc ((m.sites.map goInt).set (i*1) (goInt (-2)))] ?_;unfold JU;rw[b,a];simp[RS.en,RS.eE,RS.sE,List.map_set]
  ·rw[if_neg d]at a
   refine ao [0,fp i m.sites.length,0,iX 55 1 g r.sc aE,rr 3 h,bF d,aS i,.g,.x] ?_;exact cx (l (i+1) ai ⟨aE,b.trans a⟩)
 ·have n:i=m.sites.length:=by omega
  rw[n,List.drop_length]at b;refine ao [0,fH i m.sites.length,1] ?_;refine c5 [0,1,2] (uj r m q {c with site:=none,out:=true} 5 0 ⟨#[]⟩ h1 h2) ?_;rintro _ _ ⟨f,e,rfl⟩;refine ao [] (a7 [] [] [(RS.ev r f e).en (m.ba {c with site:=none} 5 ff 0),q.en (Cm.skip {c with site:=none} true),(RS.ev r f e).eE (m.ba {c with site:=none} 5 ff 0),r.sE m] ?_);unfold JU;rw[b];exact⟨f,e,rfl⟩
theorem Uo{X:Cx}{a:ae aK}{c:ae bV}{b:Env}(E:Env)(LL:ae En)(e:Rs P X (pT a) c E LL->Rs P X a c b L)(d:Rs P X (pT a) c E LL):Rs P X a c b L:=e d
theorem Kv(h:q.wg=Z g):∃q0:RC,q={q0 with wg:=Z g}:=⟨q,by cases q;simp_all⟩
theorem axz{x:Wt}(h:l[i]?=Z x):uu k (l.drop i)=if x.key=k then Z x else uu k (l.drop (i+1)):=by
 obtain⟨a,e⟩:=dv.1 h;rw[Dc a,e,C8]
def E8(r:RS)(m:Mo)(q:RC)(c:Cm)(C:bn)(k:Nat)(v:ag)(L:ae En):Prop:=match m.get c k with
 |none=>v=ah 0/\L=[r.en m,q.en c,r.eE m,q.wE c,r.mE m,r.cE,C.en]
 |some o=>v=ah 1/\∃g a,L=[(r.ev g a).en (m.ba c o.1 o.2 0),q.en c.up,(r.ev g a).eE (m.ba c o.1 o.2 0),q.wE c,r.mE m,r.cE,C.en]
theorem SK{o:Int×ByteArray}(h:m.get c k=Z o)(g:aj Nat)(a:Nat):E8 r m q c C k (ah 1) [(r.ev g a).en (m.ba c o.1 o.2 0),q.en c.up,(r.ev g a).eE (m.ba c o.1 o.2 0),q.wE c,r.mE m,r.cE,C.en]:=by
 unfold E8;rw[h];exact⟨F,g,a,F⟩
theorem aru(h:m.get c k=I):E8 r m q c C k (ah 0) [r.en m,q.en c,r.eE m,q.wE c,r.mE m,r.cE,C.en]:=by
 unfold E8;rw[h];exact⟨F,F⟩
theorem aaf (r:RS) (m:Mo) (q:RC) (c:Cm) (C:bn) (l:List bt) (k:Nat) (hC:C.Is l) (hk:r.ch[k]?=some C) (hm:m.bw[k]?=some l) (my:k<m.marks.length) (hl:l.length<1000000) (h1:m.events.length<1000000) (h2:c.at_<1000000) (hw:c.wrote.length<1000000):Fl Sv 87 [pt r.s,pt q.c,goInt k].toArray [r.en m,q.en c,r.eE m,q.wE c,r.mE m,r.cE,C.en] (E8 r m q c C k):=by
 have B:=(List.getElem?_eq_some_iff.1 hk).1;have A:(r.ch.map bn.v)[k*1]?=some C.v:=by rw[Nat.mul_one,List.getElem?_map,hk];rfl
 refine Fl.of 115 λcs X=>ao [.g,.x] ?_;refine j4 (ι:=Nat) (λi=>c.wrote.length-i) (λi=>[(0,pt r.s),(1,pt q.c),(2,goInt k),(7,goInt i),(6,goInt 0)]) (λ_=>[r.en m,q.en c,r.eE m,q.wE c,r.mE m,r.cE,C.en]) (λi=>i≤c.wrote.length∧uu k c.wrote=uu k (c.wrote.drop i)) 0 ⟨Nat.zero_le _,by simp⟩ ?_;rintro i ⟨hi,H⟩ V;by_cases aE:i<c.wrote.length
 ·obtain⟨x,M⟩:∃x,c.wrote[i]?=some x:=⟨_,List.getElem?_eq_getElem aE⟩
  rcases rV:q.wg with _|N
  ·exact yR 3 q.wg c.wrote.length q.wc ai rV
  obtain⟨q,rfl⟩:=Kv rV;have D:(c.wrote.flatMap Wt.cells)[i*3]?=some (goInt x.key):=dS Wt.len _ i 0 x aX M;have E:(c.wrote.flatMap Wt.cells)[i*3+1]?=some (.bool x.gone):=dS Wt.len _ i 1 x aX M;have G:(c.wrote.flatMap Wt.cells)[i*3+2]?=some (.string x.val):=dS Wt.len _ i 2 x aX M;have d:=axz (k:=k) M;by_cases O:x.key=k
  ·rw[if_pos O]at d
   refine cd (λ_=>[1,fp i c.wrote.length,1,iX 177 3 N q.wc aE,rr 3 D,rr 3 E,rr 3 G,7,7,7,7,fB x.key k,7,7]) λz=>?_;refine c5 [0,1,2] (SQ r m {q with wg:=some N} c x.gone x.val h1 h2) ?_;rintro _ _ ⟨u,s,rfl⟩;have f:m.get c k=some (tB x.gone x.val):=by
    unfold Mo.get;rw[H,d]
   exact ao [] (a7 [7] [goInt 1] _ (SK f u s))
  ·rw[if_neg O]at d
   refine cd (λ_=>[1,fp i c.wrote.length,1,iX 177 3 N q.wc aE,rr 3 D,rr 3 E,rr 3 G,7,7,7,7,bR x.key k,aS i,.g,.x]) λz=>dP [7] ?_;exact cx (V (i+1) ai ⟨aE,H.trans d⟩)
 ·have W:i=c.wrote.length:=by omega
  rw[W,List.drop_length,axA]at H;obtain⟨⟨ic,e,a⟩,K⟩:∃t,m.marks[k]?=some t:=⟨_,List.getElem?_eq_getElem my⟩;have D:(m.marks.flatMap cF.cells)[k*3]?=some (.bool ic):=dS cF.len _ k 0 ⟨ic,e,a⟩ aX K;have E:(m.marks.flatMap cF.cells)[k*3+1]?=some (goInt e):=dS cF.len _ k 1 ⟨ic,e,a⟩ aX K;have G:(m.marks.flatMap cF.cells)[k*3+2]?=some (goInt a):=dS cF.len _ k 2 ⟨ic,e,a⟩ aX K
  have f:m.get c k=if ic∧e≠c.me∧a≠0∧a≤c.b then none else match l[dh c.b l]? with
    |some v=>some (tB v.gone v.val)
    |none=>some (tB true ff):=by
   unfold Mo.get;rw[H,List.getD_eq_getElem?_getD,K,List.getD_eq_getElem?_getD,hm];rfl
  refine cd (λ_=>[1,fH i c.wrote.length,0,iX 130 3 r.mb m.marks.length my,rr 4 D,rr 4 E,rr 4 G,7,7,7]) λz=>?_;refine Uo [(0,pt r.s),(1,pt q.c),(2,goInt k),(6,goInt 0),(69,.bool (decide (ic=true∧e≠c.me∧a≠0∧a≤c.b)))] [r.en m,q.en c,r.eE m,q.wE c,r.mE m,r.cE,C.en,.ob z (.cells #[.bool ic,goInt e,goInt a] 190)] (λb=>?_) ?_
  ·cases ic with
   |false=>
    have d:decide ((false:Bool)=true∧e≠c.me∧a≠0∧a≤c.b)=false:=decide_eq_false λh=>by cases h.1
    rw[d]at b;exact dk 25 [7] [] (Fl.nil (cx b))
   |true=>
    by_cases j:e=c.me
    ·have d:decide ((true:Bool)=true∧e≠c.me∧a≠0∧a≤c.b)=false:=decide_eq_false λh=>h.2.1 j
     rw[d]at b;exact dk 25 [7,7,1,wG j] [] (Fl.nil (cx b))
    ·by_cases w:a=0
     ·have d:decide ((true:Bool)=true∧e≠c.me∧a≠0∧a≤c.b)=false:=decide_eq_false λh=>h.2.2.1 w
      rw[d]at b;exact dk 25 [7,7,1,se j,7,wG w] [] (Fl.nil (cx b))
     ·by_cases y:a≤c.b
      ·have d:decide ((true:Bool)=true∧e≠c.me∧a≠0∧a≤c.b)=true:=decide_eq_true ⟨rfl,j,w,y⟩
       rw[d]at b;exact dk 25 [7,7,1,se j,7,se w,7,1,bT y] [] (Fl.nil (cx b))
      ·have d:decide ((true:Bool)=true∧e≠c.me∧a≠0∧a≤c.b)=false:=decide_eq_false λh=>y h.2.2.2
       rw[d]at b;exact dk 25 [7,7,1,se j,7,se w,7,1,bF y] [] (Fl.nil (cx b))
  ·by_cases J:ic=true∧e≠c.me∧a≠0∧a≤c.b
   ·rw[decide_eq_true J]
    rw[if_pos J]at f;exact ao [] (a7 [7] [goInt 0] _ (aru f))
   ·rw[decide_eq_false J]
    rw[if_neg J]at f;refine ao [1] (c5 [0,5,6] (aai r m C l k c.b hC hk hl) ?_);rintro _ _ ⟨rfl,rfl⟩;have P:C.n=l.length:=hC.n;have T:=ES c.b l;by_cases Q:dh c.b l=l.length
    ·refine ao [0,iX 129 1 r.cb r.ch.length B,rr 5 A,fB (dh c.b l:Nat) (C.n:Nat)] ?_
     refine c5 [0,1,2] (SQ r m q c true ⟨#[]⟩ h1 h2) ?_;rintro _ _ ⟨u,s,rfl⟩;rw[Q,List.getElem?_eq_none (Nat.le_refl _)]at f;exact ao [] (a7 [7] [goInt 1] _ (SK f u s))
    ·obtain⟨v,L⟩:∃v,l[dh c.b l]?=some v:=⟨_,List.getElem?_eq_getElem ai⟩
     obtain⟨g,n,o,p⟩:=C;simp only at P;subst P;cases g with
     |none=>
      have:=hC.no rfl;subst this;simp at L
     |some g=>
      have R:p.toList[dh c.b l*3+1]?=some (.bool v.gone):=hC.get rfl aX L rfl;have S:p.toList[dh c.b l*3+2]?=some (.string v.val):=hC.get rfl aX L rfl;refine ao [0,iX 129 1 r.cb r.ch.length B,rr 5 A,bR (dh c.b l:Nat) l.length] ?_;refine dk 25 [0,iX 129 1 r.cb r.ch.length B,rr 5 A,ix 186 3 g l.length o (dh c.b l:Nat) (dh c.b l) ⟨rfl,by omega⟩,rr 6 R,0,iX 129 1 r.cb r.ch.length B,rr 5 A,ix 186 3 g l.length o (dh c.b l:Nat) (dh c.b l) ⟨rfl,by omega⟩,rr 6 S] [24] (tM [0,1,2] (SQ r m q c v.gone v.val h1 h2) ?_);rintro _ _ ⟨u,s,rfl⟩;rw[L]at f;exact gY (Fl.nil (ao [] (a7 [7] [goInt 1] _ (SK f u s))))
abbrev vk(r:RS)(m:Mo)(q:RC)(c:Cm):ae En:=[r.en m,q.en c,r.eE m,q.wE c,r.mE m,r.sE m]
def Nq(r:RS)(m:Mo)(q:RC)(c:Cm)(s:Nat)(o t:Int)(L:ae En):Prop:=∃g a,L=[(r.ev g a).en ((m.leave c s).ba c o ff t),q.off.en c.up.leave,(r.ev g a).eE ((m.leave c s).ba c o ff t),(r.ev g a).mE ((m.leave c s).ba c o ff t),(r.ev g a).sE ((m.leave c s).ba c o ff t),q.off.wE c.up.leave]
section
variable (r:RS)(m:Mo)(q:RC)(c:Cm)(s:Nat)(S:c.site=Z s)(R:s<m.sites.length)(X:m.marks.length<1000000)(W:m.events.length<1000000)(V:c.at_<1000000)
include S R X W V
theorem aqS (hw:c.wrote=[]):Fl Sv 90 [pt r.s,pt q.c].toArray (vk r m q c) λ_ L=>Nq r m q c s 1 0 L:=by
 have b:(c.wrote.length:Int)=0:=by rw[hw];rfl
 refine Fl.of 232 λe d=>ao [1,bT b] (c5 [0,1,4,5] (JX r m q c s S R X) ?_);rintro _ _ rfl;refine ao [] (c5 [0,1,2] (uj r (m.leave c s) q.off c.leave 1 0 ⟨#[]⟩ W V) ?_);rintro _ _ ⟨g,a,rfl⟩;exact ao [] (jJ 185 3 (a7 [3] [] _ ⟨g,a,rfl⟩))
theorem aqP (hw:c.wrote≠[]) (hp:c.phase=3):Fl Sv 90 [pt r.s,pt q.c].toArray (vk r m q c) λ_ L=>Nq r m q c s 1 c.bP L:=by
 have b:¬(c.wrote.length:Int)=0:=λh=>hw (List.length_eq_zero_iff.1 ai);refine Fl.of 232 λe d=>ao [1,bF b,1,bR c.phase 0,1,bR c.phase 1,1,bR c.phase 2,1] (c5 [0,1,4,5] (JX r m q c s S R X) ?_);rintro _ _ rfl;refine ao [] (c5 [0,1,2] (uj r (m.leave c s) q.off c.leave 1 c.bP ⟨#[]⟩ W V) ?_);rintro _ _ ⟨g,a,rfl⟩;exact ao [] (jJ 185 3 (a7 [3] [] _ ⟨g,a,rfl⟩))
theorem aqR (hw:c.wrote≠[]) (hp:c.phase=1) (hl:m.clock=m.cq):Fl Sv 90 [pt r.s,pt q.c].toArray (vk r m q c) λ_ L=>Nq r m q c s 6 0 L:=by
 have b:¬(c.wrote.length:Int)=0:=λh=>hw (List.length_eq_zero_iff.1 ai);refine Fl.of 232 λe d=>ao [1,bF b,1,bR c.phase 0,1,fB c.phase 1] (dk 9 [0,0,bT hl] [] (Fl.nil (ao [] (c5 [0,1,4,5] (JX r m q c s S R X) ?_))));rintro _ _ rfl;refine ao [] (c5 [0,1,2] (uj r (m.leave c s) q.off c.leave 6 0 ⟨#[]⟩ W V) ?_);rintro _ _ ⟨g,a,rfl⟩;exact ao [] (jJ 185 3 (a7 [3] [] _ ⟨g,a,rfl⟩))
end
def zW(T:Int)(a:ae Wt)(l:ae cF):ae cF:=a.foldl (λl w=>l.modify w.key λk=>{k with bP:=T}) l
theorem abB(T:Int)(a:ae Wt)(l:ae cF):(zW T a l).length=l.length:=Pv T a l
theorem avP(T:Int)(a:ae Wt)(w:Wt)(l:ae cF):zW T (a++[w]) l=(zW T a l).modify w.key λk=>{k with bP:=T}:=by simp[zW]
theorem GW{α:Type}(f:α->α):∀(l:ae α)(i:Nat)(x:α),l[i]?=Z x->l.modify i f=l.set i (f x)
 |[],i,x,h=>by simp at h
 |y::l,0,x,h=>by
  simp only[tL,ij]at h;subst h;simp
 |y::l,i+1,x,h=>by
  have:=GW f l i x (by simpa using h);simp[this]
theorem aqT (r:RS) (m:Mo) (q:RC) (c:Cm) (hw:c.wrote≠[]) (lq:c.wrote.length<1000000) (hp:c.phase=1) (hl:m.clock≠m.cq) (W7:0≤m.clock∧m.clock<1000000000) (Ej:∀w∈c.wrote,w.key<m.marks.length) (X:m.marks.length<1000000):Fl Sv 90 [pt r.s,pt q.c].toArray (vk r m q c) λ_ L=>L=vk r {m with clock:=m.clock+1,marks:=zW (m.clock+1) c.wrote m.marks} q (c.tick (m.clock+1)):=by
 have g:¬(c.wrote.length:Int)=0:=λh=>hw (List.length_eq_zero_iff.1 ai);rcases rV:q.wg with _|a
 ·exact Fl.of 232 λk j=>yR 3 q.wg c.wrote.length q.wc ai rV
 obtain⟨q,rfl⟩:=Kv rV;refine Fl.of 232 λk j=>ao [1,bF g,1,bR c.phase 0,1,fB c.phase 1] (dk 9 [0,0,bF hl] [] (Fl.nil (ao [0,aI (m.clock+1) (m.clock+1) ai,0,0,1,.g,.x] ?_)));refine j4 (ι:=Nat) (λi=>c.wrote.length-i) (λi=>[(0,pt r.s),(1,pt q.c),(4,goInt c.wrote.length),(8,goInt i)]) (λi=>[r.en {m with clock:=m.clock+1},RC.en {q with wg:=some a} {c with bP:=m.clock+1},r.eE m,RC.wE {q with wg:=some a} c,.row 190 3 (some r.mb) m.marks.length m.marks.length ((zW (m.clock+1) (c.wrote.take i) m.marks).flatMap cF.cells),r.sE m]) (λi=>i≤c.wrote.length) 0 (Nat.zero_le _) ?_;intro i t o;by_cases aE:i<c.wrote.length
 ·obtain⟨w,e⟩:∃w,c.wrote[i]?=some w:=⟨_,List.getElem?_eq_getElem aE⟩
  have f:=Ej w (List.mem_of_getElem? e);have l:(c.wrote.flatMap Wt.cells)[i*3]?=some (goInt w.key):=dS Wt.len _ i 0 w aX e;obtain⟨x,d⟩:∃x,(zW (m.clock+1) (c.wrote.take i) m.marks)[w.key]?=some x:=⟨_,List.getElem?_eq_getElem (by rw[abB];exact f)⟩;have n:((zW (m.clock+1) (c.wrote.take i) m.marks).flatMap cF.cells)[w.key*3+2]?=some (goInt x.bP):=dS cF.len _ w.key 2 x aX d;have b:=o (i+1) ai aE;rw[List.take_add_one,e,Option.toList_some,avP,GW _ _ _ _ d,←Pt cF.len (zW (m.clock+1) (c.wrote.take i) m.marks) w.key 2 x {x with bP:=m.clock+1} (goInt (m.clock+1)) aX d rfl]at b;refine ao [fp i c.wrote.length] ?_;refine gX 16 [0,1,iX 177 3 a q.wc aE,rr 3 l,1] [] [16,17,18] (Fl.run [iX 130 3 r.mb m.marks.length f,rr 4 n] (ao [aS i,.g,.x] ?_));exact cx b
 ·have p:i=c.wrote.length:=by omega
  subst p;refine ao [fH c.wrote.length c.wrote.length,1] ?_;refine a7 [] [] [r.en {m with clock:=m.clock+1},RC.en {q with wg:=some a} (c.tick (m.clock+1)),r.eE m,RC.wE {q with wg:=some a} c,.row 190 3 (some r.mb) m.marks.length m.marks.length ((zW (m.clock+1) (c.wrote.take c.wrote.length) m.marks).flatMap cF.cells),r.sE m] ?_;simp[vk,RS.en,RS.mE,RS.eE,RS.sE,RC.wE,Cm.tick,abB]
def Bx(t:cF)(l:ae bt)(c:Cm):Bool:=(t.set&&decide (t.c8≠c.me))||wI l c.b
def JY(r:RS)(m:Mo)(q:RC)(c:Cm)(C:bn)(s:Nat)(t:cF)(l:ae bt)(w:Wt)(L:ae En):Prop:=if Bx t l c then∃g a,L=[(r.ev g a).en ((m.leave c s).ba c 4 ff 0),q.off.en c.up.leave,(r.ev g a).eE ((m.leave c s).ba c 4 ff 0),(r.ev g a).mE ((m.leave c s).ba c 4 ff 0),(r.ev g a).sE ((m.leave c s).ba c 4 ff 0),r.cE,C.en,q.off.wE c.up.leave]
 else L=vk r {m with marks:=m.marks.set w.key ⟨U,c.me,0⟩} q (c.step c.wrote.length)++[r.cE,C.en]
theorem Z2 (r:RS) (m:Mo) (q:RC) (c:Cm) (C:bn) (l:List bt) (w:Wt) (t:cF) (s:Nat) (hs:c.site=some s) (ia:s<m.sites.length) (hk:m.marks.length<1000000) (h1:m.events.length<1000000) (h2:c.at_<1000000)
  (lq:c.wrote.length<1000000) (hp:c.phase=0) (hw:c.wrote[c.keys]?=some w) (hC:C.Is l) (bY:r.ch[w.key]?=some C) (ht:m.marks[w.key]?=some t):
  Fl Sv 90 [pt r.s,pt q.c].toArray (vk r m q c++[r.cE,C.en]) λ_ L=>JY r m q c C s t l w L:=by
 have X:=(List.getElem?_eq_some_iff.1 hw).1;have E:=(List.getElem?_eq_some_iff.1 ht).1;have N:=(List.getElem?_eq_some_iff.1 bY).1;have V:(r.ch.map bn.v)[w.key*1]?=some C.v:=by rw[Nat.mul_one,List.getElem?_map,bY];rfl
 have O:¬(c.wrote.length:Int)=0:=by omega
 rcases rV:q.wg with _|e
 ·exact Fl.of 232 λW P=>yR 3 q.wg c.wrote.length q.wc ai rV
 obtain⟨q,rfl⟩:=Kv rV;obtain⟨ic,f,d⟩:=t;have w0:(c.wrote.flatMap Wt.cells)[c.keys*3]?=some (goInt w.key):=dS Wt.len _ c.keys 0 w aX hw;have H:(m.marks.flatMap cF.cells)[w.key*3]?=some (.bool ic):=dS cF.len _ w.key 0 ⟨ic,f,d⟩ aX ht;have J:(m.marks.flatMap cF.cells)[w.key*3+1]?=some (goInt f):=dS cF.len _ w.key 1 ⟨ic,f,d⟩ aX ht;have K:(m.marks.flatMap cF.cells)[w.key*3+2]?=some (goInt d):=dS cF.len _ w.key 2 ⟨ic,f,d⟩ aX ht;have D:=hC.n;refine Fl.of 232 λW P=>ao [1,bF O,1,fB c.phase 0] (dk 12 [1,1,iX 177 3 e q.wc X,rr 3 w0] [] (Fl.nil ?_));refine cd (λ_=>[0,iX 130 3 r.mb m.marks.length E,rr 4 H,rr 4 J,rr 4 K,8,8,8,0,iX 129 1 r.cb r.ch.length N,rr 6 V]) λz=>?_;refine Uo [(0,pt r.s),(1,pt {q with wg:=some e}.c),(4,goInt c.wrote.length),(5,goInt w.key),(94,.bool (Bx ⟨ic,f,d⟩ l c))] [r.en m,RC.en {q with wg:=some e} c,r.eE m,RC.wE {q with wg:=some e} c,r.mE m,r.sE m,r.cE,C.en,.ob z (.cells #[.bool ic,goInt f,goInt d] 190)] (λa=>?_) ?_
 ·by_cases k:ic=true∧f≠c.me
  ·have p:Bx ⟨ic,f,d⟩ l c=true:=by simp[Bx,k.1,k.2]
   rw[p]at a;obtain⟨rfl,S⟩:=k;exact dk 27 [8,8,1,se S] [] (Fl.nil (cx a))
  ·have p:Bx ⟨ic,f,d⟩ l c=wI l c.b:=by
    unfold Bx;have:(ic&&decide (f≠c.me))=false:=by
     cases ic with
     |false=>rfl
     |true=>simpa usingλh=>k ⟨rfl,h⟩
    simp only[this,Bool.false_or]
   rw[p]at a;cases l with
   |nil=>
    have G:¬((C.n:Nat):Int)>0:=by rw[D];simp
    cases ic with
    |false=>exact dk 27 [8,bF G] [] (Fl.nil (cx a))
    |true=>
     have u:f=c.me:=Classical.byContradiction λh=>k ⟨rfl,h⟩;exact dk 27 [8,8,1,wG u,bF G] [] (Fl.nil (cx a))
   |cons v l=>
    obtain⟨g,n,b,B⟩:=C;simp only at D;have x:(n:Int)>0:=by rw[D];simp only[List.length_cons];omega
    have y:0<n:=by omega
    cases g with
    |none=>exact absurd (hC.no rfl) aZ
    |some g=>
     have A:B.toList[0*3]?=some (goInt v.bP):=hC.get rfl (i:=0) (j:=0) aX rfl rfl;have M:wI (v::l) c.b=decide (v.bP>c.b):=rfl;by_cases o:v.bP>c.b
     ·rw[M,decide_eq_true o]at a
      cases ic with
      |false=>exact dk 27 [8,bT x,iX 186 3 g b y,rr 7 A,1,bT o] [] (Fl.nil (cx a))
      |true=>
       have u:f=c.me:=Classical.byContradiction λh=>k ⟨rfl,h⟩;exact dk 27 [8,8,1,wG u,bT x,iX 186 3 g b y,rr 7 A,1,bT o] [] (Fl.nil (cx a))
     ·rw[M,decide_eq_false o]at a
      cases ic with
      |false=>exact dk 27 [8,bT x,iX 186 3 g b y,rr 7 A,1,bF o] [] (Fl.nil (cx a))
      |true=>
       have u:f=c.me:=Classical.byContradiction λh=>k ⟨rfl,h⟩;exact dk 27 [8,8,1,wG u,bT x,iX 186 3 g b y,rr 7 A,1,bF o] [] (Fl.nil (cx a))
 ·cases p:Bx ⟨ic,f,d⟩ l c with
  |true=>
   refine ao [] (c5 [0,1,4,5] (JX r m {q with wg:=some e} c s hs ia hk) ?_);rintro _ _ rfl;refine ao [] (c5 [0,1,2] (uj r (m.leave c s) (RC.off {q with wg:=some e}) c.leave 4 0 ⟨#[]⟩ h1 h2) ?_);rintro _ _ ⟨g,b,rfl⟩;refine ao [] (jJ 185 3 (a7 [3,8] [] [(r.ev g b).en ((m.leave c s).ba c 4 ff 0),(RC.off {q with wg:=some e}).en c.up.leave,(r.ev g b).eE ((m.leave c s).ba c 4 ff 0),(r.ev g b).mE ((m.leave c s).ba c 4 ff 0),(r.ev g b).sE ((m.leave c s).ba c 4 ff 0),r.cE,C.en,(RC.off {q with wg:=some e}).wE c.up.leave] ?_));unfold JY;rw[if_pos p];exact⟨g,b,rfl⟩
  |false=>
   have Q:((m.marks.flatMap cF.cells).set (w.key*3) (.bool true))[w.key*3+1]?=some (goInt f):=by
    rw[List.getElem?_set_ne ai];exact J
   have R:(((m.marks.flatMap cF.cells).set (w.key*3) (.bool true)).set (w.key*3+1) (goInt c.me))[w.key*3+2]?=some (goInt d):=by
    rw[List.getElem?_set_ne ai,List.getElem?_set_ne ai];exact K
   refine ao [] (gX 10 [0,1] [] [10,11] (Fl.run [iX 130 3 r.mb m.marks.length E,rr 4 H,rr 4 Q,rr 4 R] (ao [] ?_)));refine c5 [1] (SM {q with wg:=some e} c c.wrote.length ai ai) ?_;rintro _ _ rfl;refine ao [] (a7 [8] [] [r.en m,RC.en {q with wg:=some e} (c.step c.wrote.length),r.eE m,RC.wE {q with wg:=some e} c,.row 190 3 (some r.mb) m.marks.length m.marks.length ((((m.marks.flatMap cF.cells).set (w.key*3) (.bool true)).set (w.key*3+1) (goInt c.me)).set (w.key*3+2) (goInt 0)),r.sE m,r.cE,C.en] ?_);unfold JY;rw[if_neg (by rw[p];simp),DN cF.len ⟨true,c.me,0⟩ rfl m.marks w.key E];have T:=c.C6 c.wrote.length;simp[vk,RS.en,RS.mE,RS.eE,RS.sE,RC.wE,T.2.2.2.2.2.2.1]
theorem Uu{X:Cx}{c:ae aK}{o:ae bV}{f:Env}(i e a g n d:Nat)(l:ae ag)(h:∀b:af ag,b.toList.take (n*a)=l->n<=d->Rs P X c o f (L.set i (.ob g (.cells b e))))(q:L[i]?=gH (.row e a (gH g) n d l):=by kernel_rfl):Rs P X c o f L:=λr j H t p=>by
 have s:Row H e a (sv (gH g) n d) n l:=p.at q;rcases s.2 with⟨k,_⟩|⟨z,m,b,k,v,w,q3,A,y⟩
 ·cases k
 ·cases k
  refine h b y w r j H t (xi p q v (λx u=>.inl ?_) (df _) λx _ _=>rfl);cases u;rfl
def RS.bj(r:RS)(k:Nat)(C:bn):RS:={r with ch:=r.ch.set k C}
def arw(r:RS)(m:Mo)(q:RC)(c:Cm)(l:ae bt)(w:Wt)(L:ae En):Prop:=∃C:bn,C.Is (⟨c.bP,w.gone,w.val⟩::l)/\L=vk (r.bj w.key C) {m with marks:=m.marks.set w.key .no} q (c.step c.wrote.length)++[(r.bj w.key C).cE,C.en]
theorem aqQ (r:RS) (m:Mo) (q:RC) (c:Cm) (C:bn) (l:List bt) (w:Wt) (hk:m.marks.length<1000000) (hl:l.length<1000000)
  (lq:c.wrote.length<1000000) (hp:c.phase=2) (hw:c.wrote[c.keys]?=some w) (hC:C.Is l) (bY:r.ch[w.key]?=some C) (my:w.key<m.marks.length):
  Fl Sv 90 [pt r.s,pt q.c].toArray (vk r m q c++[r.cE,C.en]) λ_ L=>arw r m q c l w L:=by
 have T:=(List.getElem?_eq_some_iff.1 hw).1;have x:=(List.getElem?_eq_some_iff.1 bY).1;have y:(r.ch.map bn.v)[w.key*1]?=some C.v:=by rw[Nat.mul_one,List.getElem?_map,bY];rfl
 have Q:¬(c.wrote.length:Int)=0:=by omega
 rcases rV:q.wg with _|a
 ·exact Fl.of 232 λS R=>yR 3 q.wg c.wrote.length q.wc ai rV
 obtain⟨q,rfl⟩:=Kv rV;obtain⟨⟨ic,B,d⟩,H⟩:∃t,m.marks[w.key]?=some t:=⟨_,List.getElem?_eq_getElem my⟩;have V:(c.wrote.flatMap Wt.cells)[c.keys*3]?=some (goInt w.key):=dS Wt.len _ c.keys 0 w aX hw;have W:(c.wrote.flatMap Wt.cells)[c.keys*3+1]?=some (.bool w.gone):=dS Wt.len _ c.keys 1 w aX hw;have X:(c.wrote.flatMap Wt.cells)[c.keys*3+2]?=some (.string w.val):=dS Wt.len _ c.keys 2 w aX hw;have O:(m.marks.flatMap cF.cells)[w.key*3]?=some (.bool ic):=dS cF.len _ w.key 0 ⟨ic,B,d⟩ aX H;have K:((m.marks.flatMap cF.cells).set (w.key*3) (.bool false))[w.key*3+1]?=some (goInt B):=by
  rw[List.getElem?_set_ne ai];exact dS cF.len _ w.key 1 ⟨ic,B,d⟩ aX H
 have M:(((m.marks.flatMap cF.cells).set (w.key*3) (.bool false)).set (w.key*3+1) (goInt 0))[w.key*3+2]?=some (goInt d):=by
  rw[List.getElem?_set_ne ai,List.getElem?_set_ne ai];exact dS cF.len _ w.key 2 ⟨ic,B,d⟩ aX H
 have k:=hC.n;have N:=c.C6 c.wrote.length;refine Fl.of 232 λS R=>ao [1,bF Q,1,bR c.phase 0,1,bR c.phase 1,1,fB c.phase 2]
  (gX 11 [1,1,iX 177 3 a q.wc T,rr 3 V,rr 3 W,rr 3 X] [10] [11] (rk (λ_=>[]) λz=>Fl.run [8,8,8] (ao [] (jJ 187 3 ?_))))
 refine gX 12 [1,8,8] [10,11] [12] (rk (λ_=>[]) λz2=>BR (app1 186 9 10 0 ai) ?_);rintro _ _ ⟨o,s,rfl,rfl⟩;refine gY (Fl.run [] (ao [] ?_));refine lF 9 (some o) 1 s ai λ_ _ E=>?_;cases l with
 |nil=>
  obtain⟨g,n,e,f⟩:=C;simp only at k;subst k;refine gX 16 [0,8,0,8,iX 129 1 r.cb r.ch.length x,rr 6 y] [15] [16,17] (vN [a0 186 3 (some o) 1 s (g.map λb=>⟨b,0,none⟩) e E] (Fl.run [iX 129 1 r.cb r.ch.length x,rr 6 y] (ao [] ?_)));refine gX 7 [0,8] [] [7,8] (Fl.run [iX 130 3 r.mb m.marks.length my,rr 4 O,rr 4 K,rr 4 M] (ao [] ?_));refine c5 [1] (SM {q with wg:=some a} c c.wrote.length ai ai) ?_;rintro _ _ rfl;refine ao [] (dP [8,10] (Uu 8 187 3 o 1 s [goInt c.bP,.bool w.gone,.string w.val] (λp D i=>?_)));refine a7 [7] [] [r.en m,RC.en {q with wg:=some a} (c.step c.wrote.length),r.eE m,RC.wE {q with wg:=some a} c,.row 190 3 (some r.mb) m.marks.length m.marks.length ((((m.marks.flatMap cF.cells).set (w.key*3) (.bool false)).set (w.key*3+1) (goInt 0)).set (w.key*3+2) (goInt 0)),r.sE m,.row 186 1 (some r.cb) r.ch.length r.ch.length ((r.ch.map bn.v).set (w.key*1) (sv (some o) 1 s)),.ob o (.cells p 187)] ⟨⟨some o,1,s,p⟩,⟨rfl,i,λ_=>by simpa[bt.cells]using D,λh=>by cases h⟩,?_⟩;rw[DN cF.len ⟨false,0,0⟩ rfl m.marks w.key my];simp[vk,RS.en,RS.mE,RS.eE,RS.sE,RS.cE,RS.bj,bn.en,bn.v,RC.wE,N.2.2.2.2.2.2.1,List.map_set,cF.no]
 |cons v l=>
  obtain⟨g,n,e,f⟩:=C;simp only at k;cases g with
  |none=>exact absurd (hC.no rfl) aZ
  |some g=>
   have P:0<n:=by rw[k];simp
   have G:f.toList.take (n*3)=(v::l).flatMap bt.cells:=hC.cur rfl;refine gX 16 [0,8,0,8,iX 129 1 r.cb r.ch.length x,rr 6 y] [15] [16,17] (BR (FU 186 3 9 7 g 0 n e 1 f.toList ((v::l).flatMap bt.cells) P (by simp only[List.length_cons]at k hl;omega) (by rw[tR bt.len,k]) (DL bt.one _) (λj u h=>by
    rw[Nat.zero_add,←G,List.getElem?_take]at*;split at h
    ·exact h
    ·cases h)) ?_)
   rintro _ _ ⟨A,J,rfl,rfl⟩;refine gY (Fl.run [iX 129 1 r.cb r.ch.length x,rr 6 y] (ao [] ?_));refine gX 7 [0,8] [] [7,8] (Fl.run [iX 130 3 r.mb m.marks.length my,rr 4 O,rr 4 K,rr 4 M] (ao [] ?_));refine c5 [1] (SM {q with wg:=some a} c c.wrote.length ai ai) ?_;rintro _ _ rfl;refine ao [] (dP [8,10] (Uu 8 187 3 A (1+n) J ([goInt c.bP,.bool w.gone,.string w.val]++(v::l).flatMap bt.cells) (λp D i=>?_)));refine a7 [7] [] [r.en m,RC.en {q with wg:=some a} (c.step c.wrote.length),r.eE m,RC.wE {q with wg:=some a} c,.row 190 3 (some r.mb) m.marks.length m.marks.length ((((m.marks.flatMap cF.cells).set (w.key*3) (.bool false)).set (w.key*3+1) (goInt 0)).set (w.key*3+2) (goInt 0)),r.sE m,.row 186 1 (some r.cb) r.ch.length r.ch.length ((r.ch.map bn.v).set (w.key*1) (sv (some A) (1+n) J)),.ob A (.cells p 187)] ⟨⟨some A,(1+n),J,p⟩,⟨by simp only[List.length_cons]at k⊢;omega,i,λ_=>by simpa[bt.cells]using D,λh=>by cases h⟩,?_⟩;rw[DN cF.len ⟨false,0,0⟩ rfl m.marks w.key my];simp[vk,RS.en,RS.mE,RS.eE,RS.sE,RS.cE,RS.bj,bn.en,bn.v,RC.wE,N.2.2.2.2.2.2.1,List.map_set,cF.no]
def Vs(t:aJ)(x a b:ag):Sem Next:=qo (vF t x I (Z a) (Z b)) λv=>.pure (.value v)
theorem afa{t:Nat}{g:aj Nat}{k:Int}(d:k=i)(q:i<=a)(h:lM P t b=U)(w:au):(Vs t (sv g n a) (ah k) (ah k)).run P w=.ok (.value (sv g i i)) w:=by
 subst d;unfold lM at h;split at h
 ·rename_i e j
  split at h
  ·rename_i m c
   show((vF t (sv g n a) I (Z (ah i)) (Z (ah i)))>>=λv=>(ayU (lT v):Sem Next)).run P w=_;have l:=vB j w;have f:=Fb c w;have p:bx P (xa (ah i) a .slice3Acap) w=.ok i w:=by
    unfold xa;simp only[eJ,ah,asIntOf,pure,bx,eh];rw[if_pos (by constructor<;>omega)];simp[bx]
   have o:bx P (xa (ah i) i .slice3B) w=.ok i w:=by
    unfold xa;simp only[eJ,ah,asIntOf,pure,bx,eh];rw[if_pos (by constructor<;>omega)];simp[bx]
   unfold vF Instr.slice;simp only[eJ,l,eh,sv,Instr.sliceBounds,pure,bx,if_true,p,o,f,Nat.zero_mul,Nat.sub_zero];cases g with
   |none=>simp
   |some g=>
    simp only[iy];have:(⟨g,0,I⟩:aR).add 0=⟨g,0,I⟩:=by
     unfold Addr.add;simp
    rw[this];simp
  ·cases h
 ·cases h
abbrev O0(t b:Nat)(g:aj Nat)(n a:Nat)(k:Int)(i:Nat)(c:k=i/\i<=a)(h:lM P t b=U:=by kernel_rfl):Aw P:=.s (Vs t (sv g n a) (ah k) (ah k)) (.value (sv g i i)) (afa c.1 c.2 h)
theorem xj{b:Bool}(h:m.cU=b):∃a:Mo,m={a with cU:=b}:=⟨m,by cases m;simp_all⟩
def ou(l:ae bt)(w:Int):Nat:=match l[dh w l]? with
 |some v=>if v.gone then dh w l else dh w l+1
 |none=>l.length
theorem awV(l:ae bt)(w:Int):qZ l w=l.take (ou l w):=by
 cases h:l[dh w l]?<;>simp[qZ,ou,h]
theorem awW(l:ae bt)(w:Int):ou l w<=l.length:=by
 have:=ES w l;unfold ou;split
 ·rename_i v a
  have:=(dv.1 a).1;split<;>omega
 ·exact df _
def bn.cut(C:bn)(i:Nat):bn:=⟨C.g,i,i,C.cur⟩
theorem Uk(C:bn)(i:Nat):(C.cut i).en=C.en:=rfl
theorem bn.Is.cut{l:ae bt}(h:C.Is l)(b:i<=l.length):(C.cut i).Is (l.take i)where
 n:=by simp[bn.cut,Nat.min_eq_left b]
 cap:=df _
 cur:=λa=>by
  have c:=h.cur a;have f:=h.n;have e:(l.take i).flatMap bt.cells=(l.flatMap bt.cells).take (i*3):=by
   have d:l.flatMap bt.cells=(l.take i).flatMap bt.cells++(l.drop i).flatMap bt.cells:=by rw[<-xc,List.take_append_drop]
   have g:((l.take i).flatMap bt.cells).length=i*3:=by rw[tR bt.len,Dh,Nat.min_eq_left b]
   rw[d,List.take_append_of_le_length ai,List.take_of_length_le (l:=(l.take i).flatMap bt.cells) ai]
  rw[e,<-c,List.take_take,Nat.min_eq_left (by rw[f];omega)];rfl
 no:=λa=>by rw[h.no a];simp
theorem arP(r:RS)(m:Mo)(a:m.cU=true):Fl Sv 50 [pt r.s].toArray [r.en m] λv L=>v=.tuple #[.bool false,goInt 5]∧L=[r.en m]:=by
 obtain⟨m,rfl⟩:=xj a;exact Fl.of 119 λc b=>ao [0] (a7 [] [.bool false,goInt 5] _ ⟨rfl,rfl⟩)
theorem arN(r:RS)(m:Mo)(b:m.cU=false)(a:m.at_=0):Fl Sv 50 [pt r.s].toArray [r.en m] λv L=>v=.tuple #[.bool false,goInt 0]∧L=[r.en {m with at_:=1,w:=m.clock}]:=by
 obtain⟨m,rfl⟩:=xj b;simp only at a;refine Fl.of 119 λd c=>ao [0,0,0,0,aI ((m.at_:Int)+1) (1:Nat) ai,0,fB m.at_ 0,0,0] (a7 [] [.bool false,goInt 0] _ ⟨rfl,rfl⟩)
theorem arO (r:RS) (m:Mo) (h:Int) (hs:m.cU=false) (i:Nat) (ha:m.at_=i+1) (hh:m.sites[i]?=some h) (hS:m.sites.length<1000000):Fl Sv 50 [pt r.s].toArray [r.en m,r.sE m] λv L=>v=.tuple #[.bool false,goInt 0]∧L=[r.en {m with at_:=i+2,w:=if 0≤h∧h<m.w then h else m.w},r.sE m]:=by
 obtain⟨m,rfl⟩:=xj hs;simp only at ha hh hS;have d:=(List.getElem?_eq_some_iff.1 hh).1;have c:(m.sites.map goInt)[i*1]?=some (goInt h):=by rw[Nat.mul_one,List.getElem?_map,hh];rfl
 refine Fl.of 119 λj f=>lF 1 r.sg m.sites.length r.sc ai λg e _=>?_;obtain⟨r,rfl⟩:=RS.qV e;by_cases a:h≥0
 ·by_cases b:h<m.w
  ·rw[if_pos ⟨a,b⟩]
   exact ao [0,0,0,0,aI ((m.at_:Int)+1) (i+2:Nat) ai,0,bR m.at_ 0,Rz m.at_ m.sites.length,0,aI ((m.at_:Int)-1) (i:Nat) ai,iX 55 1 g r.sc d,rr 1 c,bT a,0,bT b,0] (a7 [] [.bool false,goInt 0] _ ⟨rfl,rfl⟩)
  ·rw[if_neg (λh=>b h.2)]
   exact ao [0,0,0,0,aI ((m.at_:Int)+1) (i+2:Nat) ai,0,bR m.at_ 0,Rz m.at_ m.sites.length,0,aI ((m.at_:Int)-1) (i:Nat) ai,iX 55 1 g r.sc d,rr 1 c,bT a,0,bF b] (a7 [] [.bool false,goInt 0] _ ⟨rfl,rfl⟩)
 ·rw[if_neg (λh=>a h.1)]
  exact ao [0,0,0,0,aI ((m.at_:Int)+1) (i+2:Nat) ai,0,bR m.at_ 0,Rz m.at_ m.sites.length,0,aI ((m.at_:Int)-1) (i:Nat) ai,iX 55 1 g r.sc d,rr 1 c,bF a] (a7 [] [.bool false,goInt 0] _ ⟨rfl,rfl⟩)
theorem aaq (r:RS) (m:Mo) (C:bn) (l:List bt) (hs:m.cU=false) (k:Nat) (ha:m.at_=m.sites.length+1+k) (hC:C.Is l) (hk:r.ch[k]?=some C) (hS:m.sites.length<1000000) (hK:r.ch.length<1000000) (hl:l.length<1000000):Fl Sv 50 [pt r.s].toArray [r.en m,r.cE,C.en] λv L=>v=.tuple #[.bool (decide (k+1=r.ch.length)),goInt 0]∧L=[(r.bj k (C.cut (ou l m.w))).en {m with at_:=if k+1=r.ch.length then 0 else m.at_+1},(r.bj k (C.cut (ou l m.w))).cE,C.en]:=by
 obtain⟨m,rfl⟩:=xj hs;simp only at ha hS;have f:=(List.getElem?_eq_some_iff.1 hk).1;have e:(r.ch.map bn.v)[k*1]?=some C.v:=by rw[Nat.mul_one,List.getElem?_map,hk];rfl
 have p:=hC.n;have o:=ES m.w l;have q:=hC.cap;refine Fl.of 119 λt s=>ao [0,0,0,0,aI ((m.at_:Int)+1) (m.at_+1:Nat) ai,0,bR m.at_ 0,leF m.at_ m.sites.length,aI ((m.at_:Int)-1) ((m.at_:Int)-1) ai,aI ((m.at_:Int)-1-m.sites.length) (k:Nat) ai,0,iX 129 1 r.cb r.ch.length f,rr 1 e,0]
  (c5 [0,1,2] (aai r {m with cU:=false,at_:=m.at_+1} C l k m.w hC hk hl) ?_)
 rintro _ _ ⟨rfl,rfl⟩;by_cases j:dh m.w l=l.length
 ·have d:ou l m.w=dh m.w l:=by
   unfold ou;rw[j,List.getElem?_eq_none (Nat.le_refl _)]
  refine ao [fH (dh m.w l:Nat) (C.n:Nat)] ?_;refine gX 9 [0,O0 186 3 C.g C.n C.cap (dh m.w l:Nat) (dh m.w l) ⟨rfl,by omega⟩] [] [9,10] (Fl.run [iX 129 1 r.cb r.ch.length f,rr 1 e] (ao [] ?_));by_cases b:k+1=r.ch.length
  ·refine ao [0,aI ((r.ch.length:Int)-1) (k:Nat) ai,fB k (k:Nat) rfl,0] ?_
   refine a7 [] [.bool true,goInt 0] [r.en {m with cU:=false,at_:=0},.row 186 1 (some r.cb) r.ch.length r.ch.length ((r.ch.map bn.v).set (k*1) (sv C.g (dh m.w l) (dh m.w l))),C.en] ⟨by rw[decide_eq_true b];rfl,?_⟩;rw[d,if_pos b];simp[RS.en,RS.cE,RS.bj,bn.cut,bn.v,List.map_set]
  ·refine ao [0,aI ((r.ch.length:Int)-1) ((r.ch.length:Int)-1) ai,bR k ((r.ch.length:Int)-1)] ?_
   refine a7 [] [.bool false,goInt 0] [r.en {m with cU:=false,at_:=m.at_+1},.row 186 1 (some r.cb) r.ch.length r.ch.length ((r.ch.map bn.v).set (k*1) (sv C.g (dh m.w l) (dh m.w l))),C.en] ⟨by rw[decide_eq_false b];rfl,?_⟩;rw[d,if_neg b];simp[RS.en,RS.cE,RS.bj,bn.cut,bn.v,List.map_set]
 ·obtain⟨v,i⟩:∃v,l[dh m.w l]?=some v:=⟨_,List.getElem?_eq_getElem ai⟩
  obtain⟨g,n,a,c⟩:=C;simp only at p q;cases g with
  |none=>exact absurd (hC.no rfl) (by rintro rfl;simp at i)
  |some g=>
   have h:c.toList[dh m.w l*3+1]?=some (.bool v.gone):=hC.get rfl aX i rfl;cases hg:v.gone with
   |true=>
    rw[hg]at h;have d:ou l m.w=dh m.w l:=by
     unfold ou;rw[i];simp[hg]
    refine ao [fp (dh m.w l:Nat) (n:Nat),ix 186 3 g n a (dh m.w l:Nat) (dh m.w l) ⟨rfl,by omega⟩,rr 2 h] ?_;refine gX 9 [0,O0 186 3 (some g) n a (dh m.w l:Nat) (dh m.w l) ⟨rfl,by omega⟩] [] [9,10] (Fl.run [iX 129 1 r.cb r.ch.length f,rr 1 e] (ao [] ?_));by_cases b:k+1=r.ch.length
    ·refine ao [0,aI ((r.ch.length:Int)-1) (k:Nat) ai,fB k (k:Nat) rfl,0] ?_
     refine a7 [] [.bool true,goInt 0] [r.en {m with cU:=false,at_:=0},.row 186 1 (some r.cb) r.ch.length r.ch.length ((r.ch.map bn.v).set (k*1) (sv (some g) (dh m.w l) (dh m.w l))),bn.en ⟨some g,n,a,c⟩] ⟨by rw[decide_eq_true b];rfl,?_⟩;rw[d,if_pos b];simp[RS.en,RS.cE,RS.bj,bn.cut,bn.v,List.map_set]
    ·refine ao [0,aI ((r.ch.length:Int)-1) ((r.ch.length:Int)-1) ai,bR k ((r.ch.length:Int)-1)] ?_
     refine a7 [] [.bool false,goInt 0] [r.en {m with cU:=false,at_:=m.at_+1},.row 186 1 (some r.cb) r.ch.length r.ch.length ((r.ch.map bn.v).set (k*1) (sv (some g) (dh m.w l) (dh m.w l))),bn.en ⟨some g,n,a,c⟩] ⟨by rw[decide_eq_false b];rfl,?_⟩;rw[d,if_neg b];simp[RS.en,RS.cE,RS.bj,bn.cut,bn.v,List.map_set]
   |false=>
    rw[hg]at h;have d:ou l m.w=dh m.w l+1:=by
     unfold ou;rw[i];simp[hg]
    refine ao [fp (dh m.w l:Nat) (n:Nat),ix 186 3 g n a (dh m.w l:Nat) (dh m.w l) ⟨rfl,by omega⟩,rr 2 h,aI (((dh m.w l:Nat):Int)+1) ((dh m.w l+1:Nat):Int) ai] ?_;refine gX 9 [0,O0 186 3 (some g) n a (dh m.w l+1:Nat) (dh m.w l+1) ⟨rfl,by omega⟩] [] [9,10] (Fl.run [iX 129 1 r.cb r.ch.length f,rr 1 e] (ao [] ?_));by_cases b:k+1=r.ch.length
    ·refine ao [0,aI ((r.ch.length:Int)-1) (k:Nat) ai,fB k (k:Nat) rfl,0] ?_
     refine a7 [] [.bool true,goInt 0] [r.en {m with cU:=false,at_:=0},.row 186 1 (some r.cb) r.ch.length r.ch.length ((r.ch.map bn.v).set (k*1) (sv (some g) (dh m.w l+1) (dh m.w l+1))),bn.en ⟨some g,n,a,c⟩] ⟨by rw[decide_eq_true b];rfl,?_⟩;rw[d,if_pos b];simp[RS.en,RS.cE,RS.bj,bn.cut,bn.v,List.map_set]
    ·refine ao [0,aI ((r.ch.length:Int)-1) ((r.ch.length:Int)-1) ai,bR k ((r.ch.length:Int)-1)] ?_
     refine a7 [] [.bool false,goInt 0] [r.en {m with cU:=false,at_:=m.at_+1},.row 186 1 (some r.cb) r.ch.length r.ch.length ((r.ch.map bn.v).set (k*1) (sv (some g) (dh m.w l+1) (dh m.w l+1))),bn.en ⟨some g,n,a,c⟩] ⟨by rw[decide_eq_false b];rfl,?_⟩;rw[d,if_neg b];simp[RS.en,RS.cE,RS.bj,bn.cut,bn.v,List.map_set]
theorem Un{r:RS}{g:Nat}(h:r.lg=Z g):∃a:RS,r={a with lg:=Z g}:=⟨r,by cases r;simp_all⟩
theorem acI{q:RC}{g:Nat}(h:q.pg=Z g):∃q0:RC,q={q0 with pg:=Z g}:=⟨q,by cases q;simp_all⟩
theorem acF{c:Cm}{b:Bool}(h:c.out=b):∃c0:Cm,c={c0 with out:=b}:=⟨c,by cases c;simp_all⟩
theorem arI(r:RS)(m:Mo)(i:Int)(a:m.cU=true):Fl Sv 49 [pt r.s,goInt i].toArray [r.en m] λv L=>v=.tuple #[goInt 0,goInt 5]∧L=[r.en m]:=by
 obtain⟨m,rfl⟩:=xj a;exact Fl.of 111 λd b=>ao [0] (a7 [] [goInt 0,goInt 5] _ ⟨rfl,rfl⟩)
theorem arF(r:RS)(m:Mo)(i:Int)(b:m.cU=false)(h:i<0∨i≥r.cl.length):Fl Sv 49 [pt r.s,goInt i].toArray [r.en m] λv L=>v=.tuple #[goInt 0,goInt 4]∧L=[r.en m]:=by
 obtain⟨m,rfl⟩:=xj b;refine Fl.of 111 λe d=>?_;by_cases a:i<0
 ·exact ao [0,bT a] (a7 [] [goInt 0,goInt 4] _ ⟨rfl,rfl⟩)
 ·exact ao [0,bF a,0,bT (h.resolve_left a)] (a7 [] [goInt 0,goInt 4] _ ⟨rfl,rfl⟩)
section
variable (r:RS)(m:Mo)(q:RC)(c:Cm)(i:Nat)(W:m.cU=Y)(X:r.cl[i]?=Z q.c)(V:r.cl.length<1000000)
include W X V
theorem arH(d:c.pr[c.at_]?=none)(f:c.at_≤c.pr.length):Fl Sv 49 [pt r.s,goInt i].toArray [r.lE,q.pE c,r.en m,q.en c] λv L=>v=.tuple #[goInt (-1),goInt 0]∧L=[r.lE,q.pE c,r.en m,q.en c]:=by
 obtain⟨m,rfl⟩:=xj W;have a:=(List.getElem?_eq_some_iff.1 X).1;have e:(r.cl.map pt)[i*1]?=some (pt q.c):=by rw[Nat.mul_one,List.getElem?_map,X];rfl
 have k:c.pr.length≤c.at_:=List.getElem?_eq_none_iff.1 d;exact Fl.of 111 λj h=>lF 0 r.lg r.cl.length r.lc ai λg b _=>by
  obtain⟨r,rfl⟩:=Un b;exact ao [2,fH i 0,2,AD i r.cl.length (by simp only at a;omega),2,iX 131 1 g r.lc a,rr 0 e] (dk 10 [3,3,fB c.at_ c.pr.length] [] (Fl.nil (ao [] (a7 [] [goInt (-1),goInt 0] _ ⟨rfl,rfl⟩))))
abbrev Hi(r:RS)(m:Mo)(q:RC)(c:Cm)(i:Nat)(a:ae En)(R:ag->ae En->Prop):Prop:=Fl Sv 49 [pt r.s,ah i].toArray ([r.lE,q.pE c,r.en m,q.en c]++a) R
abbrev SO(r:RS)(q:RC)(c:Cm)(Q:ag->ae En->Prop)(x:ag->ag)(v:ag)(L:ae En):Prop:=∃v' a,Q v' a/\v=.tuple #[x v',ah 0]/\L=r.lE::q.pE c::a
theorem sx {p:Stp} (cH:c.pr[c.at_]?=some p):
  (c.out=false→p.kind=5→∀j Q,Fl Sv 90 [pt r.s,pt q.c].toArray (r.en m::q.en c::j) Q→Hi r m q c i j (SO r q c Q λ_=>goInt 1))∧
  (c.out=false→p.kind=1→∀j Q,Fl Sv 86 [pt r.s,pt q.c].toArray (r.en m::q.en c::j) Q→Hi r m q c i j (SO r q c Q λ_=>goInt 1))∧
  (c.out=false→p.kind=2→∀j Q,Fl Sv 87 [pt r.s,pt q.c,goInt p.key].toArray (r.en m::q.en c::j) Q→Hi r m q c i j (SO r q c Q λv=>v))∧
  (c.out=false→∀(b:Bool)(k:Nat),(p.kind=3∧b=false∨p.kind=4∧b=true)→p.key=k→(c.wrote.map (·.key)).Pairwise (·<·)→c.wrote.length<100000→m.events.length<1000000→c.pr.length<1000000→Hi r m q c i [q.wE c,r.eE m] λv L=>v=.tuple #[goInt 1,goInt 0]∧∃g d t o,L=[r.lE,q.pE c,(r.ev g d).en (m.ba c 1 ff 0),(q.wr t o).en (c.put ⟨k,b,p.val⟩),(r.ev g d).eE (m.ba c 1 ff 0),(q.wr t o).wE (c.put ⟨k,b,p.val⟩)])∧
  (c.out=false→p.kind=6→∀s,c.site=some s→s<m.sites.length→m.marks.length<1000000→m.events.length<1000000→c.pr.length<1000000→Hi r m q c i [r.mE m,r.sE m,r.eE m,q.wE c] λv L=>v=.tuple #[goInt 1,goInt 0]∧∃E,Nq r m q c s 1 0 E∧L=r.lE::q.pE c::E)∧
  (c.out=true→m.events.length<1000000→c.pr.length<1000000→∀b,qT p=b→Hi r m q c i [r.eE m] λv L=>v=.tuple #[goInt 1,goInt 0]∧∃g d,L=[r.lE,q.pE c,(r.ev g d).en (m.ba c 7 ff 0),q.en (c.skip b),(r.ev g d).eE (m.ba c 7 ff 0)]):=by
 obtain⟨m,rfl⟩:=xj W;obtain⟨a,x,u⟩:=p;have H:=(List.getElem?_eq_some_iff.1 X).1;have M:(r.cl.map pt)[i*1]?=some (pt q.c):=by rw[Nat.mul_one,List.getElem?_map,X];rfl
 have aE:=(List.getElem?_eq_some_iff.1 cH).1;have R:(c.pr.flatMap Stp.cells)[c.at_*3]?=some (goInt a):=dS Stp.len _ c.at_ 0 _ aX cH;have S:(c.pr.flatMap Stp.cells)[c.at_*3+1]?=some (goInt x):=dS Stp.len _ c.at_ 1 _ aX cH;have T:(c.pr.flatMap Stp.cells)[c.at_*3+2]?=some (.string u):=dS Stp.len _ c.at_ 2 _ aX cH;refine⟨λw h j Q B=>?_,λw h j Q B=>?_,λw h j Q B=>?_,λw b k h D C J l n=>?_,λw h s N O P l n=>?_,λw l n b A=>?_⟩
 all_goals
  try simp only at h
  refine Fl.of 111 λcs L2=>fw [r.lE,q.pE c,r.en {m with cU:=false},q.en c] _ (lF 0 r.lg r.cl.length r.lc ai λf K _=>lF 1 q.pg c.pr.length q.pc ai λe xW _=>?_);obtain⟨r,rfl⟩:=Un K;obtain⟨q,rfl⟩:=acI xW;obtain⟨c,rfl⟩:=acF w;refine ao [2,fH i 0,2,AD i r.cl.length (by simp only at H;omega),2,iX 131 1 f r.lc H,rr 0 M] (dk 10 [3,3,bR c.at_ c.pr.length (by simp only at aE;omega)] [] (Fl.nil ?_));refine ao [] (gX 11 [3,3,iX 42 3 e q.pc aE,rr 1 R,rr 1 S,rr 1 T] [10] [11] (rk (λ_=>[]) λz=>Fl.run [4,4,4] ?_))
 iterate 3
  first
   |refine ao [3,4,fB a 1] (vL [0,1,4,2,3] (eF ?_))
   |refine ao [3,4,bR a 1,fB a 2,4] (vL [0,1,4,2,3] (eF ?_))
   |refine ao [3,4,bR a 1,bR a 2,bR a 3,bR a 4,bR a 6,fB a 5] (vL [0,1,4,2,3] (eF ?_))
  refine m5 [RS.lE {r with lg:=some f},RC.pE {q with pg:=some e} {c with out:=false},.ob z (.cells #[goInt a,goInt x,.string u] 81)] _ B ?_;rintro v y G;refine fw [RS.lE {r with lg:=some f},RC.pE {q with pg:=some e} {c with out:=false},.ob z (.cells #[goInt a,goInt x,.string u] 81)] y (ao [] (dP [2] (eF ?_)))
  first
   |exact dH [goInt 1,goInt 0] _ ⟨v,y,G,rfl,rfl⟩
   |exact dH [v,goInt 0] _ ⟨v,y,G,rfl,rfl⟩
 ·simp only at D
  subst D;refine eF ?_;rcases h with⟨h,rfl⟩|⟨h,rfl⟩;refine ao [3,4,bR a 1,bR a 2,fB a 3,4,4,bR a 4,4] (c5 [3,5] (aaw ({q with pg:=some e}:RC) ({c with out:=false}:Cm) ⟨k,false,u⟩ C J) ?_);rintro _ _ ⟨t,o,rfl⟩;refine ao [] (c5 [2,3,6] (uj {r with lg:=some f} {m with cU:=false} (RC.wr {q with pg:=some e} t o) (Cm.mk c.me c.pr c.at_ false c.site c.b (kT ⟨k,false,u⟩ c.wrote) c.phase c.keys c.bP) 1 0 ⟨#[]⟩ l (by simp only at aE n;show c.at_<1000000;omega)) ?_)
  rotate_left
  refine ao [3,4,bR a 1,bR a 2,bR a 3,fB a 4,4,4,fB a 4,4] (c5 [3,5] (aaw ({q with pg:=some e}:RC) ({c with out:=false}:Cm) ⟨k,true,u⟩ C J) ?_);rintro _ _ ⟨t,o,rfl⟩;refine ao [] (c5 [2,3,6] (uj {r with lg:=some f} {m with cU:=false} (RC.wr {q with pg:=some e} t o) (Cm.mk c.me c.pr c.at_ false c.site c.b (kT ⟨k,true,u⟩ c.wrote) c.phase c.keys c.bP) 1 0 ⟨#[]⟩ l (by simp only at aE n;show c.at_<1000000;omega)) ?_)
  all_goals
   rintro _ _ ⟨g,d,rfl⟩;exact ao [] (dP [4] (vL [0,1,2,3,5,4] (a7 [] [goInt 1,goInt 0] _ ⟨rfl,g,d,t,o,rfl⟩)))
 ·refine eF (ao [3,4,bR a 1,bR a 2,bR a 3,bR a 4,fB a 6] (c5 [2,3,5,6] (JX {r with lg:=some f} {m with cU:=false} {q with pg:=some e} {c with out:=false} s N O P) ?_))
  rintro _ _ rfl;refine ao [] (c5 [2,3,7] (uj {r with lg:=some f} (Mo.leave {m with cU:=false} {c with out:=false} s) (RC.off {q with pg:=some e}) (Cm.leave {c with out:=false}) 1 0 ⟨#[]⟩ l (by simp only at aE n;show c.at_<1000000;omega)) ?_);rintro _ _ ⟨g,d,rfl⟩;exact ao [] (jJ 185 3 (dP [4,8] (vL [0,1,2,3,6,4,5,7] (a7 [] [goInt 1,goInt 0] _ ⟨rfl,_,⟨g,d,rfl⟩,rfl⟩))))
 ·refine eF ?_
  rcases(by omega:a=5∨a=6∨(a≠5∧a≠6))with h|h|h;obtain rfl:b=false:=by rw[←A];simp[qT,h]
  refine ao [3,4,oO a 5,3] (c5 [2,3,5] (uj {r with lg:=some f} {m with cU:=false} {q with pg:=some e} {c with out:=false} 7 0 ⟨#[]⟩ l (by simp only at aE n⊢;omega)) ?_)
  rotate_left
  obtain rfl:b=false:=by rw[←A];simp[qT,h]
  refine ao [3,4,CM a 5,4,oO a 6,3] (c5 [2,3,5] (uj {r with lg:=some f} {m with cU:=false} {q with pg:=some e} {c with out:=false} 7 0 ⟨#[]⟩ l (by simp only at aE n⊢;omega)) ?_)
  rotate_left
  obtain rfl:b=true:=by rw[←A];simp[qT,h]
  refine ao [3,4,CM a 5,4,CM a 6,3] (c5 [2,3,5] (uj {r with lg:=some f} {m with cU:=false} {q with pg:=some e} {c with out:=true} 7 0 ⟨#[]⟩ l (by simp only at aE n⊢;omega)) ?_)
  all_goals
   rintro _ _ ⟨g,d,rfl⟩;exact ao [] (a7 [4] [goInt 1,goInt 0] _ ⟨rfl,g,d,rfl⟩)
end
theorem ab2(a:ByteArray):∀(n i:Nat)(r:ae UInt8),a.size-i=n->(ByteArray.toList.loop a i r).length=n+r.length
 |0,i,r,h=>by
  unfold ByteArray.toList.loop;rw[if_neg ai];simp
 |n+1,i,r,h=>by
  unfold ByteArray.toList.loop;rw[if_pos ai,ab2 a n (i+1) _ ai];simp only[iH];omega
theorem ab5(a:ByteArray):a.toList.length=a.size:=by
 have:=ab2 a a.size 0 [] ai;simpa[ByteArray.toList]using this
theorem Se(v:ByteArray):G3 v=!decide (v.size=0):=by
 have b:(⟨#[]⟩:ByteArray).toList=[]:=BK.1 (ab5 ⟨#[]⟩);unfold G3;rw[b];have:=ab5 v;cases hl:v.toList with
 |nil=>
  rw[hl]at this;simp only[ow]at this;rw[decide_eq_true this.symm];rfl
 |cons a l=>
  rw[hl]at this;simp only[iH]at this;rw[decide_eq_false ai];rfl
theorem akY{t c d:Nat}{i:Int}(p:i=j)(q:j<n)(h:lM P t a=U)(w:au):(GN t (.slice (Z ⟨b,c,I⟩) n d) (ah i)).run P w=.ok (.value (.pointer (Z ⟨b,c+j*a,I⟩))) w:=by
 subst p;unfold lM at h;split at h
 ·rename_i e l
  split at h
  ·rename_i o g
   have h:=BL h;have m:=vB l w;have k:bx P (sizeOf e) w=.ok a w:=by rw[Fb g w,h]
   show((Instr.indexAt t (.slice (Z ⟨b,c,I⟩) n d) (ah j))>>=λv=>(ayU (lT v):Sem Next)).run P w=_;unfold Instr.indexAt;simp only[eJ,ah,asIntOf,pure,bx,m,eh];rw[if_pos (by constructor<;>omega)];simp only[eJ,k,eh,bx,Int.toNat_natCast];unfold Addr.add;split
   ·rename_i f;rw[f];simp
   ·simp
  ·cases h
 ·cases h
abbrev ixo(t a b c n d:Nat)(i:Int)(j:Nat)(e:i=j/\j<n)(h:lM P t a=U:=by kernel_rfl):Aw P:=.s (GN t (.slice (Z ⟨b,c,I⟩) n d) (ah i)) (.value (.pointer (Z ⟨b,c+j*a,I⟩))) (akY e.1 e.2 h)
abbrev Jn(t a b d c:Nat)(e:j<n)(h:lM P t a=U:=by kernel_rfl):Aw P:=ixo t a b d n c j j ⟨F,e⟩ h
abbrev qh(b:Nat)(o:af ag)(t:aJ)(f:Nat×Nat):En:=.ob b (.cells o t f)
def CW(o:af ag)(a:Nat)(b:ae Stp):Prop:=∀i p,b[i]?=Z p->∀j u,p.cells[j]?=Z u->o.toList[a+i*3+j]?=Z u
def J0(K:Nat)(a:ae Stp)(v:ag):Prop:=v=.bool (pB K Y a&&decide ((a.length:Int)<=200))
theorem arK(b:Option Addr)(a K:Nat):Fl Sv 84 [.slice b 0 a,goInt K].toArray [] λv L=>J0 K [] v∧L=[]:=by
 exact Fl.of 93 λd c=>ao [.g,fH 0 (0:Nat),.d] (dH [.bool (decide (((0:Nat):Int)≤200))] _ ⟨rfl,rfl⟩)
theorem arL (b off:Nat) (oo:Array Value) (ty:TypeId) (fz:Nat×Nat) (cap K:Nat) (pr:List Stp) (hl:pr.length≤4398046511104) (jv:CW oo off pr):Fl Sv 84 [.slice (some ⟨b,off,none⟩) pr.length cap,goInt K].toArray [qh b oo ty fz] λv L=>J0 K pr v∧L=[qh b oo ty fz]:=by
 refine Fl.of 93 λJ H=>ao [.g,.x] ?_;refine j4 (ι:=Nat×Bool) (λi=>pr.length-i.1) (λi=>[(0,.slice (some ⟨b,off,none⟩) pr.length cap),(1,goInt K),(5,.bool i.2),(6,goInt i.1)]) (λ_=>[qh b oo ty fz]) (λi=>i.1≤pr.length∧pB K false pr=pB K i.2 (pr.drop i.1)) (0,false) ⟨Nat.zero_le _,rfl⟩ ?_;rintro⟨i,o⟩ ⟨E,g⟩ A;simp only at E g A;by_cases aE:i<pr.length
 ·obtain⟨p,q⟩:∃p,pr[i]?=some p:=⟨_,List.getElem?_eq_getElem aE⟩
  have B:pr.drop i=p::pr.drop (i+1):=by
   rw[List.drop_eq_getElem_cons aE];congr 1;exact Option.some.inj ((List.getElem?_eq_getElem aE).symm.trans q)
  rw[B,pB]at g;have t:oo.toList[off+i*3]?=some (goInt p.kind):=jv i p q 0 _ rfl;have u:oo.toList[off+i*3+1]?=some (goInt p.key):=jv i p q 1 _ rfl;have w:oo.toList[off+i*3+2]?=some (.string p.val):=jv i p q 2 _ rfl;have d:lQ K o p=false→J0 K pr (.bool false)∧[qh b oo ty fz]=[qh b oo ty fz]:=λh=>⟨by unfold J0;rw[g,h];rfl,rfl⟩;have l:lQ K o p=true→∀b,qT p=b→_:=λh b D=>A (i+1,b) (by simp only;omega) ⟨aE,by rw[g,h,D];rfl⟩;obtain⟨e,c,a⟩:=p;simp only at t u w;refine cd (λ_=>[fp i pr.length,Jn 42 3 b off cap aE,rr 0 t,rr 0 u,rr 0 w,1,1,1,.x]) λz=>?_;have n:G3 a=!decide (a.size=0):=Se a;by_cases C:e=3∨e=2∨e=4
  ·rcases C with rfl|rfl|rfl
   refine ao [1,.d,1,.d,.x] ?_
   rotate_left
   refine ao [1,.d,.x] ?_
   rotate_left
   refine ao [1,.d,1,.d,1,.d,.x] ?_
   rotate_left
   all_goals
    refine ao [1,.d,1,.d,1,.d,.x] ?_;cases o
    ·exact ao [.d] (a7 [1] [.bool false] _ (d (by simp[lQ])))
    refine ao [.d,1,.x] ?_;by_cases f:c<0
    ·exact ao [bT f] (a7 [1] [.bool false] _ (d (by simp[lQ,show¬0≤c by omega])))
    refine ao [bF f,1,.x] ?_;by_cases x:c≥(K:Int)
    ·exact ao [bT x] (a7 [1] [.bool false] _ (d (by simp[lQ,show¬c<(K:Int) by omega])))
    refine ao [bF x,1,.x] ?_;by_cases j:(a.size:Int)>16
    ·exact ao [bT j] (a7 [1] [.bool false] _ (d (by simp[lQ,show¬a.size≤16 by omega])))
    refine ao [bF j,1,.d,1,.x] ?_;have y:0≤c∧c<(K:Int)∧a.size≤16:=by omega
   ·exact ao [.d,1,.d,aS i,.g,.x] (dP [1] (cx (l (by simp[lQ,y]) _ rfl)))
   all_goals
    by_cases m:a.size=0
    ·exact ao [bB (n.trans (by simp[m]:_=false)),1,.d,1,.d,aS i,.g,.x] (dP [1] (cx (l (by simp[lQ,y,m]) _ rfl)))
    ·exact ao [bB (n.trans (by simp[m]:_=true))] (a7 [1] [.bool false] _ (d (by simp[lQ,m])))
  refine ao [1,bR e 2,1,bR e 3,1,bR e 4,1,.x] ?_;by_cases s:e<1
  ·exact ao [bT s] (a7 [1] [.bool false] _ (d (by simp[lQ,s])))
  refine ao [bF s,1,.x] ?_;by_cases r:e>6
  ·exact ao [bT r] (a7 [1] [.bool false] _ (d (by simp[lQ,r])))
  refine ao [bF r,1,.x] ?_;rcases(by omega:e=5∨e=6∨e=1)with rfl|rfl|rfl
  iterate 2
   cases o
   ·exact ao [.d,.d] (a7 [1] [.bool false] _ (d (by simp[lQ])))
   rotate_left
  cases o
  rotate_left
  ·exact ao [.d,.d] (a7 [1] [.bool false] _ (d (by simp[lQ])))
  all_goals
   refine ao [.d,.d,1,.x] ?_;by_cases f:c=0
   rotate_left
   ·exact ao [CM c 0 f] (a7 [1] [.bool false] _ (d (by simp[lQ,f])))
   refine ao [oO c 0 f,1,.x] ?_;by_cases j:(a.size:Int)>16
   ·exact ao [bT j] (a7 [1] [.bool false] _ (d (by simp[lQ,show¬a.size≤16 by omega])))
   refine ao [bF j,1,.d,1,.x] ?_;by_cases k:a.size=0
   rotate_left
   ·exact ao [bB (n.trans (by simp[k]:_=true))] (a7 [1] [.bool false] _ (d (by simp[lQ,k])))
   refine ao [bB (n.trans (by simp[k]:_=false)),1,.d,.x] ?_
  ·exact ao [aS i,.g,.x] (dP [1] (cx (l (by simp[lQ,f,k]) _ rfl)))
  all_goals exact ao [1,.d,aS i,.g,.x] (dP [1] (cx (l (by simp[lQ,f,k]) _ rfl)))
 ·have G:i=pr.length:=by omega
  subst G;rw[List.drop_length,pB]at g;exact ao [fH pr.length pr.length,.d] (a7 [] [.bool (decide ((pr.length:Int)≤200))] _ ⟨by unfold J0;rw[g];rfl,rfl⟩)
theorem CW.flat{o:af ag}{b:ae Stp}(h:CW o a b){u:ag}(g:(b.flatMap Stp.cells)[j]?=Z u):o.toList[a+j]?=Z u:=by
 have W:=(dv.1 g).1;rw[tR Stp.len]at W;obtain⟨p,f⟩:∃p,b[j/3]?=Z p:=⟨_,dq ai⟩;have c:(b.flatMap Stp.cells)[j/3*3+j%3]?=p.cells[j%3]?:=by
  have d:j%3<3:=Nat.mod_lt _ aX;obtain⟨v,i⟩:∃v,p.cells[j%3]?=Z v:=⟨_,dq (by rw[Stp.len];exact d)⟩;rw[i,<-i];exact dS Stp.len b (j/3) (j%3) p d f
 have e:j/3*3+j%3=j:=by omega
 rw[e,g]at c;have k:=h (j/3) p f (j%3) u c.symm;rwa[show a+j/3*3+j%3=a+j by omega]at k
def RS.more(r:RS)(c:Nat)(g:aj Nat)(a:Nat):RS:={r with lg:=g,lc:=a,cl:=r.cl++[c]}
section
variable (r:RS)(m:Mo)
theorem Z4(a:Value)(X:m.cU=true):Fl Sv 48 [pt r.s,a].toArray [r.en m] λv L=>v=.tuple #[goInt 0,goInt 5]∧L=[r.en m]:=by
 obtain⟨m,rfl⟩:=xj X;exact Fl.of 57 λc b=>ao [0] (a7 [] [goInt 0,goInt 5] _ ⟨rfl,rfl⟩)
variable (X:m.cU=Y)(W:r.cl.length<1000000)
include X W
def Z3(r:RS)(m:Mo)(b:ae Stp)(A:ae En)(v:ag)(L:ae En):Prop:=v=.tuple #[ah r.cl.length,ah 0]/\∃(q:RC)(g:aj Nat)(a:Nat),L=[(r.more q.c g a).en m,(r.more q.c g a).lE]++A++[q.en (Cm.new r.cl.length b),q.pE (Cm.new r.cl.length b),q.wE (Cm.new r.cl.length b)]
theorem aqU (ad:Option Addr) (cap:Nat):Fl Sv 48 [pt r.s,.slice ad 0 cap].toArray [r.en m,r.lE] λv L=>if r.cl.length=8 then v=.tuple #[goInt 0,goInt 3]∧L=[r.en m,r.lE]else Z3 r m [] [] v L:=by
 obtain⟨m,rfl⟩:=xj X;refine Fl.of 57 λf e=>ao [0,0] (BP (arK ad cap r.ch.length) ?_);rintro _ _ ⟨rfl,rfl⟩;have d:(pB r.ch.length false []&&decide (((([]:List Stp).length:Nat):Int)≤200))=true:=rfl;rw[d];by_cases c:r.cl.length=8
 ·refine ao [0,fB r.cl.length 8] (a7 [] [goInt 0,goInt 3] [r.en {m with cU:=false},r.lE] ?_)
  rw[if_pos c];exact⟨rfl,rfl⟩
 ·refine cd (λ_=>[0,bR r.cl.length 8,0,2,a0 42 3 none 0 0 ad cap (Nat.le_refl _),2,0]) λz=>?_
  refine iW (app1 131 1 3 r.cl.length ai) ?_;rintro _ _ ⟨b,a,rfl,rfl⟩;refine ao [0,2] (jJ 81 3 (jJ 185 3 ?_));refine a7 [3] [goInt r.cl.length,goInt 0] [.ob r.s (.cells #[goInt m.clock,goInt m.cq,sv r.sg m.sites.length r.sc,sv (some r.cb) r.ch.length r.ch.length,sv (some r.mb) m.marks.length m.marks.length,sv (some b) (r.cl.length+1) a,sv r.eg m.events.length r.ec,goInt m.at_,goInt m.w,.bool false] 134),.row 176 1 (some b) (r.cl.length+1) a (r.cl.map pt++[pt z]),RC.en ⟨z,none,0,none,0⟩ (Cm.new r.cl.length []),RC.pE ⟨z,none,0,none,0⟩ (Cm.new r.cl.length []),RC.wE ⟨z,none,0,none,0⟩ (Cm.new r.cl.length [])] ?_;rw[if_neg c];refine⟨rfl,⟨z,none,0,none,0⟩,some b,a,?_⟩;simp[RS.more,RS.en,RS.lE]
theorem aqV (b off:Nat) (oo:Array Value) (ty:TypeId) (fz:Nat×Nat) (cap:Nat) (pr:List Stp) (hp:0<pr.length) (tu:pr.length≤4398046511104) (jv:CW oo off pr):Fl Sv 48 [pt r.s,.slice (some ⟨b,off,none⟩) pr.length cap].toArray [r.en m,r.lE,qh b oo ty fz] λv L=>
  if(pB r.ch.length false pr&&decide ((pr.length:Int)≤200))=false then v=.tuple #[goInt 0,goInt 2]∧L=[r.en m,r.lE,qh b oo ty fz]
  else if r.cl.length=8 then v=.tuple #[goInt 0,goInt 3]∧L=[r.en m,r.lE,qh b oo ty fz]else Z3 r m pr [qh b oo ty fz] v L:=by
 obtain⟨m,rfl⟩:=xj X;refine Fl.of 57 λl k=>ao [0,0] (c5 [2] (arL b off oo ty fz cap r.ch.length pr tu jv) ?_);rintro _ _ ⟨rfl,rfl⟩;cases hr:(pB r.ch.length false pr&&decide ((pr.length:Int)≤200))with
 |false=>
  refine ao [] (a7 [] [goInt 0,goInt 2] [r.en {m with cU:=false},r.lE,qh b oo ty fz] ?_);rw[if_pos rfl];exact⟨rfl,rfl⟩
 |true=>
  have i:pr.length≤200:=by
   simp only[Bool.and_eq_true,decide_eq_true_eq]at hr;omega
  by_cases f:r.cl.length=8
  ·refine ao [0,fB r.cl.length 8] (a7 [] [goInt 0,goInt 3] [r.en {m with cU:=false},r.lE,qh b oo ty fz] ?_)
   rw[if_neg aZ,if_pos f];exact⟨rfl,rfl⟩
  ·refine cd (λ_=>[0,bR r.cl.length 8,0,3]) λz=>jJ 81 3 ?_
   refine iW (FU 42 3 4 2 b off pr.length cap 0 oo.toList (pr.flatMap Stp.cells) hp ai (tR Stp.len _) (DL Stp.one _) (λj u h=>jv.flat h)) ?_;rintro _ _ ⟨d,c,rfl,rfl⟩;have g:(0:Nat)+pr.length=pr.length:=Nat.zero_add _;rw[g];refine cd (λ_=>[3,0]) λn=>iW (app1 131 1 5 r.cl.length ai) ?_;rintro _ _ ⟨e,a,rfl,rfl⟩;refine ao [0,3] (jJ 185 3 ?_);refine a7 [5] [goInt r.cl.length,goInt 0] [.ob r.s (.cells #[goInt m.clock,goInt m.cq,sv r.sg m.sites.length r.sc,sv (some r.cb) r.ch.length r.ch.length,sv (some r.mb) m.marks.length m.marks.length,sv (some e) (r.cl.length+1) a,sv r.eg m.events.length r.ec,goInt m.at_,goInt m.w,.bool false] 134),.row 176 1 (some e) (r.cl.length+1) a (r.cl.map pt++[pt z]),qh b oo ty fz,RC.en ⟨z,some d,c,none,0⟩ (Cm.new r.cl.length pr),RC.pE ⟨z,some d,c,none,0⟩ (Cm.new r.cl.length pr),RC.wE ⟨z,some d,c,none,0⟩ (Cm.new r.cl.length pr)] ?_;rw[if_neg aZ,if_neg f];refine⟨rfl,⟨z,some d,c,none,0⟩,some e,a,?_⟩;simp[RS.more,RS.en,RS.lE]
end
theorem ary(a b d:Int)(h:a<1∨a>8∨b<1∨b>20∨d<0∨d>1000000):Fl Sv 47 [goInt a,goInt b,goInt d].toArray [] λv L=>v=.tuple #[.pointer none,goInt 1]∧L=[]:=by
 refine Fl.of 60 λl k=>?_;by_cases c:a<1
 ·exact ao [bT c] (dH [.pointer none,goInt 1] _ ⟨rfl,rfl⟩)
 by_cases e:a>8
 ·exact ao [bF c,bT e] (dH [.pointer none,goInt 1] _ ⟨rfl,rfl⟩)
 by_cases f:b<1
 ·exact ao [bF c,bF e,bT f] (dH [.pointer none,goInt 1] _ ⟨rfl,rfl⟩)
 by_cases g:b>20
 ·exact ao [bF c,bF e,bF f,bT g] (dH [.pointer none,goInt 1] _ ⟨rfl,rfl⟩)
 by_cases i:d<0
 ·exact ao [bF c,bF e,bF f,bF g,bT i] (dH [.pointer none,goInt 1] _ ⟨rfl,rfl⟩)
 have j:d>1000000:=by omega
 exact ao [bF c,bF e,bF f,bF g,bF i,bT j] (dH [.pointer none,goInt 1] _ ⟨rfl,rfl⟩)
def SL(s:Nat)(a:Int)(sg:aj Nat)(n b:Nat)(c k:ag):En:=.ob s (.cells #[ah 0,ah a,sv sg n b,c,k,sv I 0 0,sv I 0 0,ah 0,ah 0,.bool Y] 134)
def zO(s:Nat)(sg:aj Nat)(d b c a:Nat):RS:=⟨s,sg,d,b,c,I,0,[],I,0,kh a ⟨I,0,0,#[]⟩⟩
def arx(b a:Nat)(f:Int)(v:ag)(L:ae En):Prop:=∃s sg e c d,v=.tuple #[pt s,ah 0]/\L=[(zO s sg e c d a).en (Mo.init b a f),(zO s sg e c d a).sE (Mo.init b a f),(zO s sg e c d a).cE,(zO s sg e c d a).mE (Mo.init b a f),(zO s sg e c d a).lE,(zO s sg e c d a).eE (Mo.init b a f)]
theorem arz (sites keys:Nat) (cq:Int) (h:1≤sites∧sites≤8∧1≤keys∧keys≤20∧0≤cq∧cq≤1000000):Fl Sv 47 [goInt sites,goInt keys,goInt cq].toArray [] (arx sites keys cq):=by
 refine Fl.of 60 λo n=>cd (λ_=>[fH sites 1,Gi sites 8,fH keys 1,Gi keys 20,fH cq 0,Gi cq 1000000,.g,.x]) λs=>jJ 3 1 ?_;refine j4 (ι:=Nat×Option Nat×Nat) (λi=>sites-i.1) (λi=>[(0,goInt sites),(1,goInt keys),(8,pt s),(9,goInt i.1)]) (λi=>[SL s cq i.2.1 i.1 i.2.2 (sv none 0 0) (sv none 0 0),.row 3 1 i.2.1 i.1 i.2.2 (List.replicate i.1 (goInt (-1)))]) (λi=>i.1≤sites) (0,none,0) (Nat.zero_le _) ?_;rintro⟨i,sg,f⟩ l g;simp only at l g;by_cases aE:i<sites
 ·have a:∀c b,Rs Sv _ _ _ _ _:=λc b=>g (i+1,c,b) (by simp only;omega) aE
  simp only[List.replicate_succ']at a;refine cd (λ_=>[fp i sites,0]) λz=>iW (app1 55 1 2 i ai) ?_;rintro _ _ ⟨c,b,rfl,rfl⟩;refine ao [0,aS i,.g,.x] (dP [2] ?_);exact cx (a (some c) b)
 ·have m:i=sites:=by omega
  subst m;refine ao [fH i i,.x] (FD 7 [] (iW (EO 129 186 1 keys [.slice none 0 0] ai aX) ?_));rintro _ _ ⟨d,rfl,rfl⟩;refine ao [0,.x] (FD 5 [] (iW (EO 130 190 3 keys [.bool false,goInt 0,goInt 0] ai aX) ?_));rintro _ _ ⟨e,rfl,rfl⟩;refine ao [0] (jJ 176 1 (jJ 188 5 ?_));refine a7 [] [pt s,goInt 0] [SL s cq sg i f (sv (some d) keys keys) (sv (some e) keys keys),.row 3 1 sg i f (List.replicate i (goInt (-1))),.row 186 1 (some d) keys keys (List.replicate keys [.slice none 0 0]).flatten,.row 190 3 (some e) keys keys (List.replicate keys [.bool false,goInt 0,goInt 0]).flatten,.row 176 1 none 0 0 [],.row 188 5 none 0 0 []] ⟨s,sg,f,d,e,rfl,?_⟩;have j:(List.replicate keys [(.slice none 0 0:Value)]).flatten=List.replicate keys (.slice none 0 0):=by
   simp[List.flatten_replicate_singleton]
  have k:(List.replicate keys [(.bool false:Value),goInt 0,goInt 0]).flatten=(List.replicate keys cF.no).flatMap cF.cells:=by
   simp[List.flatMap_replicate,cF.cells,cF.no]
  rw[j,k];simp[zO,SL,RS.en,RS.sE,RS.cE,RS.mE,RS.lE,RS.eE,Mo.init,bn.v]
theorem arh(p q:gU)(a:Int)(n:Nat)(c:0<n)(w:au):(B4 .rem 3 p q (ah a) (ah n)).run Sv w=.ok (.value (ah (a.tmod n))) w:=by
 refine Lc (by rfl) ?_;have:¬(n:Int)=0:=by omega
 have b:n≠0:=by omega
 simp[binOp,Op.intDiv,ah,this,b,pure,bx]
abbrev aac(p q:gU)(a:Int)(n:Nat)(b:0<n):Aw Sv:=.s (B4 .rem 3 p q (ah a) (ah n)) (.value (ah (a.tmod n))) (arh p q a n b)
def EW(c:Int)(n:Nat):Nat:=(if c<0 then-(c+1)else c).toNat%n
theorem ab4(a:Int)(n:Nat)(h:0<=a):a.tmod n=((a.toNat%n:Nat):Int):=by
 obtain⟨k,rfl⟩:=Int.eq_ofNat_of_zero_le h;rw[Int.tmod_eq_emod_of_nonneg h];simp
theorem apd(c:Int)(n:Nat)(h:0<n):EW c n<n:=Nat.mod_lt _ h
theorem ZH(c:Int)(n:Nat)(a:0<n)(f:-9223372036854775808≤c∧c<9223372036854775808):Fl Sv 37 [goInt c,goInt n].toArray [] λv L=>v=goInt (EW c n)∧L=[]:=by
 by_cases h:c<0
 ·have e:IntKind.i64.wrap (0-(c+1))=-(c+1):=wrap64 ai
  refine Fl.of 13 λd b=>ao [bT h,aI (c+1) (c+1) ai,aac (tm 10) (tm 11) (IntKind.i64.wrap (0-(c+1))) n a] ?_;refine dH [goInt ((IntKind.i64.wrap (0-(c+1))).tmod n)] _ ⟨?_,rfl⟩;rw[e,ab4 _ _ ai];simp[EW,h,qg]
 ·refine Fl.of 13 λd b=>ao [bF h,aac (tm 10) (tm 11) c n a] ?_
  refine dH [goInt (c.tmod n)] _ ⟨?_,rfl⟩;rw[ab4 _ _ ai];simp[EW,h,qg]
theorem ahb(b:Option Addr)(a:Nat):Fl Sv 22 [.slice b 0 a].toArray [] λv L=>v=sv none 0 0∧L=[eB none 0 []]:=by
 exact Fl.of 31 λd c=>ao [.g,fH 0 (0:Nat)] (jJ 50 3 (dH [sv none 0 0] _ ⟨rfl,rfl⟩))
theorem ahc (b off:Nat) (oo:Array Value) (ty:TypeId) (fz:Nat×Nat) (cap:Nat) (pr:List Stp) (tu:pr.length≤4398046511104) (jv:CW oo off pr):Fl Sv 22 [.slice (some ⟨b,off,none⟩) pr.length cap].toArray [qh b oo ty fz] λv L=>∃g c,v=sv g pr.length c∧L=[qh b oo ty fz,eB g c pr]:=by
 refine Fl.of 31 λr q=>ao [.g,.x] (jJ 50 3 ?_);refine j4 (ι:=Nat×Option Nat×Nat) (λi=>pr.length-i.1) (λi=>[(0,.slice (some ⟨b,off,none⟩) pr.length cap),(3,sv i.2.1 i.1 i.2.2),(4,goInt i.1)]) (λi=>[qh b oo ty fz,.row 50 3 i.2.1 i.1 i.2.2 ((pr.take i.1).flatMap Stp.cells)]) (λi=>i.1≤pr.length) (0,none,0) (Nat.zero_le _) ?_;rintro⟨i,g,c⟩ m h;simp only at m h;by_cases aE:i<pr.length
 ·obtain⟨p,f⟩:∃p,pr[i]?=some p:=⟨_,List.getElem?_eq_getElem aE⟩
  have j:oo.toList[off+i*3]?=some (goInt p.kind):=jv i p f 0 _ rfl;have k:oo.toList[off+i*3+1]?=some (goInt p.key):=jv i p f 1 _ rfl;have l:oo.toList[off+i*3+2]?=some (.string p.val):=jv i p f 2 _ rfl;have a:∀e d,Rs Sv _ _ _ _ _:=λe d=>h (i+1,e,d) (by simp only;omega) aE;have n:(pr.take (i+1)).flatMap Stp.cells=(pr.take i).flatMap Stp.cells++p.cells:=by
   rw[List.take_add_one,f];simp
  simp only[n]at a;refine ao [fp i pr.length] ?_;refine gX 19 [Jn 42 3 b off cap aE,rr 0 j,Jn 42 3 b off cap aE,rr 0 k,Jn 42 3 b off cap aE,rr 0 l] [17,18] [19] (rk (λ_=>[]) λz=>BR (OL 32 45 1 2 i ai) ?_);rintro _ _ ⟨e,d,rfl,rfl⟩;refine gY (Fl.run [] (ao [aS i,.g,.x] (dP [2] ?_)));exact cx (a (some e) d)
 ·have o:i=pr.length:=by omega
  subst o;refine ao [fH pr.length pr.length] ?_;rw[List.take_length];exact dH [sv g pr.length c] _ ⟨g,c,rfl,rfl⟩
section
open Go.Conc (G)
def Ck(P:aA)(a:az)(L:ae En)(R:ag->ae En->Prop):Prop:=∀L2(w:au),Kn (L++L2) w.heap->∀d cs,∃v S b,Steps P (lone a (d::cs) w) (lone (d.finish v) cs S)/\S.os=w.os/\S.output=w.output/\R v b/\Kn (b++L2) S.heap
theorem Fl.ck{P:aA}{f:bA}{a:af ag}{L:ae En}{R:ag->ae En->Prop}(h:Fl P f a L R):Ck P (bG P f a .normal) L R:=λL2 w m b cs=>by
 obtain⟨e,S,j,⟨v,rfl,p,q,g,q3,r⟩,d,_,n⟩:=h L2 w.heap m w F (b::cs);have d:Steps P (lone (bG P f a .normal) (b::cs) w) (lone j (b::cs) S):=d;exact⟨v,S,g,d.trans (.one (step_leave_returned n)),p,q,q3,r⟩
section
variable {P:aA}{fn:bA}{W:af ag}{O:af bh}{i:Nat}{rest:ae Nat}{k:ae aK}{K:ae bV}{kind:dD}{cs:ae az}{o:bh}{s:Sem Next}{w S:au}{l:Nat}
theorem aak(a:O[i]?=Z o)(g:vH o (yielded O W)=U)(b:(match o.op with|.defer _=>Y|_=>U)=U)(f:cu (bJ ⟨fn,W,[],K,.run,kind,I⟩) o=s):aG P U (G ⟨fn,W,.inRegion O (i::rest)::k,K,.run,kind,Z l⟩ cs) w=ik P U ⟨fn,W,.inRegion O (i::rest)::k,K,.run,kind,Z l⟩ cs I s w:=by
 have e:bJ ⟨fn,W,.inRegion O (i::rest)::k,K,.run,kind,Z l⟩=bJ ⟨fn,W,[],K,.run,kind,I⟩:=funext λx=>by cases x<;>rfl
 simp only[G,aG,bE,a,iy,g,pM,if_true];unfold stepG.oper;simp only[Frame.oper?,a];rw[<-f,e];cases d:o.op<;>first|(rw[d]at b;exact absurd b aZ)|simp only
theorem SN{fr:az}{v:ag}{n:Next}(d:n=.value v\/(n=.skip/\v=aC))(a:fr.kind≠.early)(e:s.run P w=.ok n S):∃es,ik P U fr cs I s w=dO (fr.finish v) cs S es:=by
 have b:s.runT P w #[]=(.ok n S,s.events P w #[]):=by rw[jR,e]
 have f:(fr.kind==CallKind.early)=Y:=by simpa using a
 unfold ik;simp only[if_true,b];rcases d with rfl|⟨rfl,rfl⟩<;>exact⟨_,by simp[kF,f];rfl⟩
theorem arD{fr:az}{f:bA}{a:af ag}(g:∃O i r k,fr.todo=.inRegion O (i::r)::k\/∃l,fr.todo=.inRangeFunc l::k)(b:fr.kind≠.early)(e:s.run P w=.ok (.enter f a) S):∃es,ik P U fr cs I s w=dO (bG P f a .normal) (fr::cs) S es:=by
 have d:s.runT P w #[]=(.ok (.enter f a) S,s.events P w #[]):=by rw[jR,e]
 have j:(fr.kind==CallKind.early)=Y:=by simpa using b
 unfold ik;simp only[if_true,d];obtain⟨O,i,r,k,h|⟨l,h⟩⟩:=g<;>exact⟨_,by simp[kF,j,h];rfl⟩
theorem aal{fr:az}{l:Nat}{f:bA}{tm:af ag}{a b:bl}(d:fr.kind≠.early)(g:s.run P w=.ok (.round l f tm a b) S):∃es,ik P U fr cs I s w=dO (Frame.round l f tm a b .normal) (fr::cs) S es:=by
 have e:s.runT P w #[]=(.ok (.round l f tm a b) S,s.events P w #[]):=by rw[jR,g]
 have h:(fr.kind==CallKind.early)=Y:=by simpa using d
 unfold ik;simp only[if_true,e];exact⟨_,by simp[kF,h];rfl⟩
end
def G1:ae aK->Bool
 |.inRegion O (i::_)::_=>match O[i]? with
  |some o=>match o.op with
   |.defer _=>Y
   |_=>U
  |none=>U
 |_=>U
section
variable {P:aA}
def GR(N:Nat)(c:Cf P):aj (Cf P):=match G1 c.todo with
 |true=>match mS N c with
  |some M=>match M.ds with
   |[]=>Z M
   |_=>I
  |none=>I
 |false=>I
def yf(N:Nat):Nat->Cf P->Cf P
 |0,c=>c
 |n+1,c=>match N4 c.an with
  |true=>⟨c.todo,c.ds,c.env,c.L,c.z,[],c.ps⟩
  |false=>match GR N c with
   |none=>c
   |some M=>yf N n M
abbrev Hh(fn:bA)(kind:dD)(l:Nat)(c:Cf P)(W:af ag):az:=⟨fn,W,c.todo,c.ds,.run,kind,Z l⟩
section
variable {N:Nat}{L2:ae En}{c M:Cf P}{W:af ag}{w:au}{fn:bA}{kind:dD}{cs:ae az}{l:Nat}
def UL(P:aA)(N:Nat)(L2:ae En)(fn:bA)(kind:dD)(l:Nat)(cs:ae az)(b:az)(w:au)(M:Cf P):Prop:=∃a S,step P (lone b cs w)=.next (lone (Hh fn kind l M a) cs S)/\S.os=w.os/\S.output=w.output/\At N L2 M a S
theorem anj(R:kind≠.early)(h0:c.ds=[])(h:GR N c=Z M)(hg:M.rE)(f:At N L2 c W w):UL P N L2 fn kind l cs (Hh fn kind l c W) w M/\M.ds=[]:=by
 obtain⟨V,K,T,L,z,an,ps⟩:=c;cases h0;unfold GR at h;dsimp only at h;split at h
 ·rename_i Q
  split at h
  ·rename_i c1 a
   split at h
   ·rename_i A
    cases h;refine⟨?_,A⟩;have aF:=YG (fn:=fn) (cs:=cs) (L2:=L2) R a hg f;unfold mS at a;dsimp only at a;split at a
    ·rename_i O i rest k
     split at a
     ·cases a
     ·rename_i o j
      unfold G1 at Q;simp only[j]at Q;split at a
      ·cases a
      ·rename_i H
       have Bb:=yF f.env H;unfold fin at a;split at a
       ·rename_i jl J
        cases a;have p:step P (lone ⟨fn,W,.inRegion O (i::rest)::k,[],.run,kind,Z l⟩ cs w)=.next (lone (jd ⟨fn,W,.inRegion O (i::rest)::k,[],.run,kind,Z l⟩ aC) cs w):=by
         refine eY (es:=#[]) ?_;simp[G,aG,bE,j,Bb]
        have B:jd ⟨fn,W,.inRegion O (i::rest)::k,[],.run,kind,Z l⟩ aC=⟨fn,ic W o.dst aC,.inRegion O rest::k,[],.run,kind,Z l⟩:=by
         simp only[jd,j,vG];cases o.dst<;>rfl
        rw[B]at p;exact⟨_,w,p,F,F,oh f.env J,f.kn,f.z⟩
       ·cases a
      ·rename_i H
       split at a
       ·cases a
       ·rename_i hk
        have r:=hk;unfold qP at r;rw[ig]at r;have ln:∀cs b,o.op≠.select cs b:=λcs b e=>by
         rw[e]at r;exact absurd r.1 (by simp[G2])
        have C:cu (bJ ⟨fn,W,[],[],.run,kind,I⟩) o=cu (ot T) o:=execOp_congr o ln (JW (fr:=⟨fn,W,[],[],.run,kind,I⟩) f.env hk);obtain⟨n,S,xw,q1,g,q3,q4,q5,q6,q7,q8,q9⟩:=Su a hg f.kn f.z;have hh:=aak (P:=P) (cs:=cs) (w:=w) (rest:=rest) (k:=k) (l:=l) j (yF f.env H) Q C;have B:∀v,jd ⟨fn,W,.inRegion O (i::rest)::k,[],.run,kind,Z l⟩ v=⟨fn,ic W o.dst v,.inRegion O rest::k,[],.run,kind,Z l⟩:=λv=>by
         simp only[jd,j,vG];cases o.dst<;>rfl
        have go:∀v,(n=.value v\/(n=.skip/\v=aC))->fin N xw o.dst v (.inRegion O rest::k)=Z M->UL P N L2 fn kind l cs ⟨fn,W,.inRegion O (i::rest)::k,[],.run,kind,Z l⟩ w M:=λv hn u=>by
         obtain⟨es,he⟩:=SN (cs:=cs) (fr:=⟨fn,W,.inRegion O (i::rest)::k,[],.run,kind,Z l⟩) hn R q1;unfold fin at u;split at u
         ·rename_i Io J
          cases u;have p:=eY (hh.trans he);rw[B]at p;have tj:xw.ds=[]:=A;refine⟨_,S,?_,q3,q4,oh (by rw[q5];exact f.env) J,q7,q8⟩;rw[p,tj]
         ·cases u
        unfold wN at g;split at g
        ·exact go _ (.inl F) g
        ·exact go _ (.inr ⟨F,F⟩) g
        ·rename_i d
         unfold fin at g;split at g
         ·cases g
          cases A
         ·cases g
        ·cases g
    ·rename_i q x y k
     split at a
     ·rename_i E
      cases a;have D:=F' (fr:=⟨fn,W,.code (.cond q x y)::k,[],.run,kind,Z l⟩) f.env E;refine⟨W,w,eY (es:=#[]) ?_,F,F,f.env,f.kn,f.z⟩;simp[G,aG,bE,D]
     ·rename_i E
      cases a;have D:=F' (fr:=⟨fn,W,.code (.cond q x y)::k,[],.run,kind,Z l⟩) f.env E;refine⟨W,w,eY (es:=#[]) ?_,F,F,f.env,f.kn,f.z⟩;simp[G,aG,bE,D]
     ·cases a
    ·rename_i b k
     split at a
     ·cases a
      refine⟨W,w,eY (es:=#[]) ?_,F,F,f.env,f.kn,f.z⟩;simp[G,aG,bE]
     ·cases a
    ·rename_i b k
     split at a
     ·cases a
      refine⟨W,w,eY (es:=#[]) ?_,F,F,f.env,f.kn,f.z⟩;simp[G,aG,bE]
     ·cases a
    ·split at a
     ·rename_i t m
      cases a;refine⟨W,w,eY (es:=#[]) ?_,F,F,f.env,f.kn,f.z⟩;unfold ctl at m;split at m<;>first
       |(cases m;done)
       |(cases m;simp[G,aG,bE])
       |(simp[G,aG,bE,m])
     ·cases a
   ·cases h
  ·cases h
 ·cases h
theorem ank(h:GR N c=Z M):∀p∈c.ps,p∈M.ps:=by
 unfold GR at h
 repeat'(split at h)
 all_goals first|(cases h;done)|(cases h;exact YI ‹_›)
theorem ani:∀(n:Nat)(c:Cf P),∀p∈c.ps,p∈(yf N n c).ps:=by
 intro n;induction n with
 |zero=>intro c p a;exact a
 |succ n b=>
  intro c p a;unfold yf;split
  ·exact a
  ·split
   ·exact a
   ·exact b _ p (ank ‹_› p a)
theorem YF(g:kind≠.early):∀(n:Nat)(c:Cf P)(W:af ag)(w:au),c.ds=[]->(yf N n c).rE->At N L2 c W w->(yf N n c).ds=[]/\∃f S,Steps P (lone (Hh fn kind l c W) cs w) (lone (Hh fn kind l (yf N n c) f) cs S)/\S.os=w.os/\S.output=w.output/\At N L2 (yf N n c) f S:=by
 intro n;induction n with
 |zero=>intro c W w b d a;exact⟨b,W,w,.refl _ _,F,F,a⟩
 |succ n y=>
  intro c W w b d a;cases hx:N4 c.an with
  |true=>
   simp only[yf,hx];exact⟨b,W,w,.refl _ _,F,F,a.env,a.kn,a.z⟩
  |false=>
   cases hs:GR N c with
   |none=>
    simp only[yf,hx,hs];exact⟨b,W,w,.refl _ _,F,F,a⟩
   |some M=>
    simp only[yf,hx,hs]at d⊢;obtain⟨⟨z,B,j,m,q,r⟩,e⟩:=anj (fn:=fn) (cs:=cs) (L2:=L2) (l:=l) g b hs (λp x=>d p (ani n M p x)) a;obtain⟨h,A,C,e,t,u,v⟩:=y M z B e d r;exact⟨h,A,C,.head j e,t.trans m,u.trans q,v⟩
end
end
structure Xr where
 l:Nat
 fn:bA
 N:Nat
 fr:az
 cs:ae az
 L2:ae En
 jg:ag->Hp->Prop
abbrev rx(l:Nat)(fn N:Nat)(b:az)(cs:ae az)(L2:ae En)(R:ag->ae En->Prop):Xr:=⟨l,fn,N,b,cs,L2,λv H=>∃a,R v a/\Kn (a++L2) H⟩
def Rr(P:aA)(X:Xr)(V:ae aK)(T:Env)(L:ae En):Prop:=∀W(w:au),gI X.N T W->Kn (L++X.L2) w.heap->∃v S,Steps P (lone ⟨X.fn,W,V,[],.run,.normal,Z X.l⟩ (X.fr::X.cs) w) (lone (X.fr.finish v) X.cs S)/\S.os=w.os/\S.output=w.output/\X.jg v S.heap
abbrev zI(P:aA)(X:Xr)(V:ae aK)(T:Env)(L:ae En)(a:ae (Aw P))(z:Md:=.w):Cf P:=yf X.N 3000 ⟨V,[],T,L,z,a,[]⟩
section
variable {P:aA}{X:Xr}{V:ae aK}{T:Env}{L:ae En}
theorem Rr.steps{j g:az}{w f:au}{R:ag->Hp->Prop}{e:az}{cs:ae az}(h:Steps P (lone j (e::cs) w) (lone g (e::cs) f))(m:f.os=w.os)(n:f.output=w.output)
  (p:∃v S,Steps P (lone g (e::cs) f) (lone (e.finish v) cs S)/\S.os=f.os/\S.output=f.output/\R v S.heap):
  ∃v S,Steps P (lone j (e::cs) w) (lone (e.finish v) cs S)/\S.os=w.os/\S.output=w.output/\R v S.heap:=by
 obtain⟨v,S,a,b,c,d⟩:=p;exact⟨v,S,h.trans a,b.trans m,c.trans n,d⟩
theorem Rr.al(a:ae (Aw P))(m:Rr P X (zI P X V T L a).todo (zI P X V T L a).env (zI P X V T L a).L)(j:(zI P X V T L a).pr=(zI P X V T L a).rf:=by kernel_rfl):Rr P X V T L:=λW w n h=>by
 obtain⟨d,q,r,e,f,g,b⟩:=YF (fn:=X.fn) (cs:=X.fr::X.cs) (L2:=X.L2) (N:=X.N) (l:=X.l) (kind:=.normal) aZ 3000 ⟨V,[],T,L,.w,a,[]⟩ W w F (DV j) ⟨n,h,λx p=>by cases p⟩;refine Rr.steps e f g ?_;have:=m q r b.env b.kn;unfold Hh;rw[d];exact this
theorem Rr.new(a:Nat->ae (Aw P))(m:∀z,Rr P X (zI P X V T L (a z) (.n z)).todo (zI P X V T L (a z) (.n z)).env (zI P X V T L (a z) (.n z)).L)(j:∀z,(zI P X V T L (a z) (.n z)).pr=(zI P X V T L (a z) (.n z)).rf:=by intro z;kernel_rfl):Rr P X V T L:=λW w n h=>by
 obtain⟨d,q,r,e,f,g,b⟩:=YF (fn:=X.fn) (cs:=X.fr::X.cs) (L2:=X.L2) (N:=X.N) (l:=X.l) (kind:=.normal) aZ 3000 ⟨V,[],T,L,.n w.heap.size,a w.heap.size,[]⟩ W w F (DV (j _)) ⟨n,h,λx p=>by cases p;rfl⟩;refine Rr.steps e f g ?_;have:=m w.heap.size q r b.env b.kn;unfold Hh;rw[d];exact this
theorem Rr.perm{L':ae En}(h:L.Perm L')(b:Rr P X V T L'):Rr P X V T L:=λW w d a=>b W w d (a.perm (h.append_right _))
theorem Rr.da(a:ae En)(h:Rr P X V T a)(b:L=a:=by kernel_rfl):Rr P X V T L:=by subst b;exact h
theorem Zp{l fn N:Nat}{W:af ag}(m:gI N T W){s:Sem Next}(h:mG V T=Z s)(d:G1 V=U)(cs:ae az)(w:au):
  aG P U (G ⟨fn,W,V,[],.run,.normal,Z l⟩ cs) w=ik P U ⟨fn,W,V,[],.run,.normal,Z l⟩ cs I s w/\(∃O i r k,V=.inRegion O (i::r)::k)/\
  ∀v,jd ⟨fn,W,V,[],.run,.normal,Z l⟩ v=⟨fn,ic W (ky V) v,qQ V,[],.run,.normal,Z l⟩:=by
 unfold mG at h
 repeat'(split at h)
 all_goals first|(cases h;done)|skip
 rename_i O i rest p _ o g _ n _ j;cases h;have a:=j;unfold qP at a;rw[ig]at a;have f:cu (bJ ⟨fn,W,[],[],.run,.normal,I⟩) o=cu (ot T) o:=execOp_congr o (λcs b e=>by
  rw[e]at a;exact absurd a.1 (by simp[G2])) (JW (fr:=⟨fn,W,[],[],.run,.normal,I⟩) m j)
 unfold G1 at d;simp only[g]at d;refine⟨aak g (yF m n) d f,⟨_,_,_,_,rfl⟩,λv=>?_⟩;simp only[jd,ky,qQ,g,vG];cases o.dst<;>rfl
theorem Rr.op{s:Sem Next}{Q:ag->ae En->Prop}(t:nS P X.L2 L s Q)(h:∀v a,Q v a->Rr P X (qQ V) (pe T (ky V) v) a)(b:(mG V T,G1 V,fits X.N (ky V))=(Z s,U,U):=by kernel_rfl):Rr P X V T L:=λW w d n=>by
 simp only[fK]at b;obtain⟨b,u,p⟩:=b;obtain⟨r,_,x⟩:=Zp (P:=P) (l:=X.l) (fn:=X.fn) d b u (X.fr::X.cs) w;obtain⟨v,S,a,e,f,g,j,m⟩:=t w n;obtain⟨es,q⟩:=SN (P:=P) (cs:=X.fr::X.cs) (fr:=⟨X.fn,W,V,[],.run,.normal,Z X.l⟩) (.inl F) aZ e;refine Rr.steps (.one (eY (r.trans q))) f g ?_;rw[x];exact h v a j _ _ (oh d (zf p v)) m
theorem Rr.yield(p g:ae En)(i:Nat){l:Nat}{f:bA}{tm:af ag}{a b:bl}{R:ag->ae En->Prop}(J:Ck P (Frame.round l f tm a b .normal) p R)(hp:L.Perm (p++g))(h:∀v d,R v d->Rr P X (qQ V) (pe T (ky V) v) (d++g))(e:((mG V T).bind (λs=>(sE P s .r L [.k i] []).map λq=>(q.1,q.2.2.2.1.isEmpty,q.2.2.2.2)),G1 V,fits X.N (ky V))=(Z (.round l f tm a b,U,((mG V T).bind (λs=>(sE P s .r L [.k i] []).map λq=>q.2.2.2.2.map Pr.rf)).getD []),U,U):=by kernel_rfl):Rr P X V T L:=λW w y m=>by
 simp only[fK]at e;obtain⟨e,kN,G⟩:=e;obtain⟨s,r,E⟩:=m4.1 e;obtain⟨⟨n,z,C,D,ps⟩,j,t⟩:=gV.1 E;simp only[r,vG,j,iy,pM,fK]at t;obtain⟨rfl,_,u⟩:=t;obtain⟨Q,_,kv⟩:=Zp (P:=P) (l:=X.l) (fn:=X.fn) y r kN (X.fr::X.cs) w;obtain⟨B,A,_⟩:=zQ s .r z L C X.L2 [.k i] D [] ps _ w j (ym u) m (λx hx=>by cases hx);obtain⟨rfl,_⟩:=E' s L _ _ _ w B j A m.left (ym u);obtain⟨es,H⟩:=aal (P:=P) (cs:=X.fr::X.cs) (fr:=⟨X.fn,W,V,[],.run,.normal,Z X.l⟩) aZ A;obtain⟨v,S,d,q1,q2,q3,q4,q5⟩:=J (g++X.L2) B (m.perm (by rw[<-gw];exact hp.append_right _)) ⟨X.fn,W,V,[],.run,.normal,Z X.l⟩ (X.fr::X.cs);refine Rr.steps ((Steps.one (eY (Q.trans H))).trans q1) q2 q3 ?_;rw[kv];exact h v d q4 _ _ (oh y (zf G v)) (by rw[gw];exact q5)
end
end
section
open Go.Conc (G)
theorem MK{L c:ae En}{o':Obj}(d:Kn (L++c) w.heap)(f:L[i]?=Z (.ob b o)):Kn (L.set i (.ob b o')++c) (w.putObj b o').heap:=by
 have g:w.heap[b]?=Z o:=d.at f;exact xi d f (by show(w.heap.setIfInBounds b o')[b]?=Z o';rw[kC (aE g)]) (λx a=>.inl a) (by simp[World.putObj]) λx _ a=>by
  show(w.heap.setIfInBounds b o')[x]?=_;rw[ie (λe=>a e.symm)]
section
variable {P:aA}{X:Xr}{W:ae aK}{V:Env}{L:ae En}
def Yb:ae aK->Bool
 |.beginRound::_=>U
 |_=>Y
theorem Rr.begin(i:Nat)(r:Loop)(h:Rr P X (pT W) V (L.set i (.ob X.l (.loop {r with state:=.busy}))))(l:r.state=.ready)(b:(L[i]?,Yb W)=(gH (.ob X.l (.loop r)),U):=by kernel_rfl):Rr P X W V L:=λa w j d=>by
 simp only[fK]at b;obtain⟨b,c⟩:=b;obtain⟨k,rfl⟩:∃k,W=.beginRound::k:=by
  unfold Yb at c;split at c
  ·exact⟨_,F⟩
  ·cases c
 have h:Rr P X k V _:=h;have g:w.heap[X.l]?=Z (.loop r):=d.at b;have f:(do(Z X.l).elim (stuck "beginRound: no round") Instr.beginRound;pure Next.skip:Sem Next).run P w=.ok .skip (w.putObj X.l (.loop {r with state:=.busy})):=by
  rw[eJ];show((Instr.beginRound X.l).run P w).andThen _=_;rw[run_beginRound g l];rfl
 obtain⟨es,m⟩:=SN (P:=P) (cs:=X.fr::X.cs) (fr:=⟨X.fn,a,.beginRound::k,[],.run,.normal,Z X.l⟩) (v:=aC) (.inr ⟨F,F⟩) aZ f;have e:aG P U (G ⟨X.fn,a,.beginRound::k,[],.run,.normal,Z X.l⟩ (X.fr::X.cs)) w=_:=m;exact Rr.steps (.one (eY e)) F F (h a _ j (MK d b))
def Yc:ae aK->aj (aj bl)
 |[]=>Z I
 |.code .ret::_=>Z (Z .ret)
 |.code (.exit id)::k=>match exitTo id k with
  |none=>Z (Z (.exit id))
  |some _=>I
 |_=>I
theorem Rr.fin{l e:Nat}{m:az}{k:ae az}{j:ae En}{R:ag->ae En->Prop}(i:Nat)(r:Loop)(a:aj bl)(h:R (.bool a.isNone) (L.set i (.ob l (.loop {r with state:=if a.isNone then .ready else .done,pending:=a}))))(c:(L[i]?,Yc W)=(gH (.ob l (.loop r)),gH a):=by kernel_rfl):Rr P (rx l e N m k j R) W V L:=λg w p f=>by
 simp only[fK]at c;obtain⟨c,b⟩:=c;have n:w.heap[l]?=Z (.loop r):=f.at c;have d:(vE l a).runT P w #[]=(.ok (.bool a.isNone) (w.putObj l (.loop {r with state:=if a.isNone then .ready else .done,pending:=a})),(vE l a).events P w #[]):=by rw[jR,run_endRound a n]
 refine⟨.bool a.isNone,w.putObj l (.loop {r with state:=if a.isNone then .ready else .done,pending:=a}),.one (eY (es:=seen P e ((vE l a).events P w #[])) ?_),F,F,_,h,MK f c⟩;unfold Yc at b;split at b
 ·cases b
  simp only[G,aG,bE,d,rh,kF];simp
 ·cases b
  simp only[G,aG,bE,d,rh,kF];simp
 ·split at b
  ·rename_i o
   cases b;simp only[G,aG,bE,o,Option.elim_none,d,rh,kF];simp
  ·cases b
 ·cases b
theorem Ck.round{l:Nat}{tm:af ag}{g i:bl}{R:ag->ae En->Prop}(N:Nat)(V:Env)(p:gI N V tm)(h:∀m k j,Rr P (rx l f N m k j R) [.code g,.beginRound,.code i] V L):Ck P (Frame.round l f tm g i .normal) L R:=λj w o m k=>by
 obtain⟨v,q,a,b,c,n,d,e⟩:=h m k j tm w p o;exact⟨v,q,n,a,b,c,d,e⟩
end
section
variable {P:aA}{X:Cx}{W:ae aK}{T:ae bV}{V:Env}{L:ae En}
theorem aoM{d:az}{cs:ae az}{s:Sem Next}(h:eU P (G d [])=Z s):aG P U (G d cs) w=ik P U d cs I s w/\d.kind≠.early:=by
 obtain⟨g,c,f,i,rest,k,a,b,m,o,e,l,j,q,p⟩:=yk h;cases e;have n:bJ ⟨g,c,.inRegion f (i::rest)::k,a,.run,b,I⟩=bJ ⟨g,c,[],a,.run,b,I⟩:=funext λx=>by cases x<;>rfl
 refine⟨?_,l⟩;simp only[G,aG,bE,j,iy,q,pM,if_true];unfold stepG.oper;simp only[Frame.oper?,j,n,p]
theorem acM(p j:ae En)(i:Nat){l:Nat}{tm:af ag}{a b:bl}{R:ag->ae En->Prop}(N:Ck P (Frame.round l f tm a b .normal) p R)(O:L.Perm (p++j))(h:∀v d,R v d->Rs P X (qQ W) T (pe V (ky W) v) (d++j))(g:((mG W V).bind (λs=>(sE P s .r L [.k i] []).map λq=>(q.1,q.2.2.2.1.isEmpty,q.2.2.2.2)),fits X.N (ky W))=(gH (.round l f tm a b,U,((mG W V).bind (λs=>(sE P s .r L [.k i] []).map λq=>q.2.2.2.2.map Pr.rf)).getD []),U):=by kernel_rfl):Rs P X W T V L:=λr c H A m w e=>by
 subst e;simp only[fK]at g;obtain⟨g,K⟩:=g;obtain⟨s,t,J⟩:=m4.1 g;obtain⟨⟨n,z,C,E,ps⟩,k,u⟩:=gV.1 J;simp only[t,vG,k,iy,pM,fK]at u;obtain⟨rfl,_,y⟩:=u;obtain⟨D,S⟩:=JG (fn:=X.fn) (ds:=T) r A t;obtain⟨o,B,_⟩:=zQ s .r z L C X.L2 [.k i] E [] ps _ w k (ym y) m (λx Q=>by cases Q);obtain⟨rfl,_⟩:=E' s L _ _ _ w o k B m.left (ym y);obtain⟨th,G⟩:=aoM (cs:=X.cs) (w:=o) D;obtain⟨es,M⟩:=aal (P:=P) (cs:=X.cs) (fr:=⟨X.fn,c,W,T,.run,X.kind,I⟩) G B;obtain⟨v,w',d,q1,q2,q3,q4,q5⟩:=N (j++X.L2) o (m.perm (by rw[<-gw];exact O.append_right _)) ⟨X.fn,c,W,T,.run,X.kind,I⟩ X.cs;refine Rh.steps ((Steps.one (eY (th.trans M))).trans q1) q2 q3 ?_;rw[S];exact h v d q4 r _ _ (oh A (zf K v)) (by rw[gw];exact q5)
def fP(fn:bA)(tmps:af ag)(params:af Tmp)(assign body:bl)(z:Nat):Loop:={state:=.ready,pending:=I,fn,tmps,params,assign,body,defers:=z}
def rfT:ae aK->aj (gU×af Tmp×bl×bl)
 |.code (.rangeFunc q b a c)::_=>gH (q,b,a,c)
 |_=>I
theorem Ut(q:gU)(f:af Tmp)(c n:bl)(x r:ae En)(y:ag){g:bA}{args:Nat->af ag}(Q:aj bl->ae En->Prop)
  (hf:∀z m,gI X.N V m->Fl P g (args (z+1)) (.ob (z+1) (.loop (fP X.fn m f c n z))::x) λ_ O=>∃D j M,D≠LoopState.busy/\O=.ob (z+1) (.loop {fP X.fn m f c n z with state:=D,pending:=j})::M/\Q j M)
  (hp:L.Perm (x++r))(h:∀z j M,Q j M->Rs P X ((j.map Item.code).toList++pT W) (⟨.collected z,#[]⟩::T) V (.ob z (.deferred (gH []))::(M++r)))
  (s:(rfT W,It V q)=(gH (q,f,c,n),gH y):=by kernel_rfl)
  (hi:∀l w,(do let d<-Db y #[.func (.yield l) #[] #[]];invoke d.target d.args:Sem Next).run P w=.ok (.enter g (args l)) w:=by intro l w;kernel_rfl):Rs P X W T V L:=λR m H u hK w e=>by
 subst e;simp only[fK]at s;obtain⟨s,hq⟩:=s;obtain⟨k,rfl⟩:∃k,W=.code (.rangeFunc q f c n)::k:=by
  unfold rfT at s;split at s
  ·cases s;exact⟨_,F⟩
  ·cases s
 have h:∀z j M,Q j M->Rs P X ((j.map Item.code).toList++k) (⟨.collected z,#[]⟩::T) V (.ob z (.deferred (gH []))::(M++r)):=h;have jq:=F' (fr:=⟨X.fn,m,.code (.rangeFunc q f c n)::k,T,.run,X.kind,I⟩) u hq;let z:=w.heap.size;let p:au:=(w.alloc (.deferred (gH []))).alloc (.loop (fP X.fn m f c n z));let o:az:=⟨X.fn,m,.inRangeFunc (z+1)::k,⟨.collected z,#[]⟩::T,.run,X.kind,I⟩;have hT:(pI X.fn m f c n I).runT P w #[]=(.ok (z+1,[⟨.collected z,#[]⟩]) p,(pI X.fn m f c n I).events P w #[]):=by rw[jR,run_enterLoop_outer];rfl
 have aQ:(do let d<-resolve o.eval {callee:=.value q,args:=#[.const (.func (.yield (z+1)) #[] #[])],argTypes:=#[]} 0;invoke d.target d.args:Sem Next).run P p=.ok (.enter g (args (z+1))) p:=by
  have K:o.eval q=y:=by
   rw[<-jq];cases q<;>rfl
  have:resolve o.eval {callee:=.value q,args:=#[.const (.func (.yield (z+1)) #[] #[])],argTypes:=#[]} 0=Db y #[.func (.yield (z+1)) #[] #[]]:=by
   have N:∀v,o.eval (.const v)=v:=λ_=>rfl;unfold resolve;simp only[K,List.map_toArray,ft,List.map_nil,N]
  rw[this];exact hi (z+1) p
 obtain⟨es,th⟩:=arD (P:=P) (cs:=X.cs) (fr:=o) ⟨#[],0,[],k,.inr ⟨z+1,F⟩⟩ R aQ;have J:∃es,aG P U (G ⟨X.fn,m,.code (.rangeFunc q f c n)::k,T,.run,X.kind,I⟩ X.cs) w=dO (bG P g (args (z+1)) .normal) (o::X.cs) p es:=by
  refine⟨seen P X.fn ((pI X.fn m f c n I).events P w #[])++es,?_⟩;simp only[G,aG,bE,hT];have:ik P U ⟨X.fn,m,.inRangeFunc (z+1)::k,[⟨.collected z,#[]⟩]++T,.run,X.kind,I⟩ X.cs I (do let d<-resolve o.eval {callee:=.value q,args:=#[.const (.func (.yield (z+1)) #[] #[])],argTypes:=#[]} 0;invoke d.target d.args) p=dO (bG P g (args (z+1)) .normal) (o::X.cs) p es:=th;erw [this];rfl
 obtain⟨fM,J⟩:=J;have k1:Kn (L++[.ob z (.deferred (gH []))]++X.L2) (w.heap.push (.deferred (gH []))):=Kn.push hK _;have S:=Kn.push (L:=L++[.ob z (.deferred (gH []))]) (L2:=X.L2) k1 (.loop (fP X.fn m f c n z));rw[show(w.heap.push (Obj.deferred (gH []))).size=z+1 by simp[z]]at S;have k3:Kn ((.ob (z+1) (.loop (fP X.fn m f c n z))::x)++(.ob z (.deferred (gH []))::(r++X.L2))) p.heap:=by
  refine Kn.perm S ?_;have:(L++[En.ob z (.deferred (gH []))]++[En.ob (z+1) (.loop (fP X.fn m f c n z))]++X.L2).Perm ((x++r)++[En.ob z (.deferred (gH []))]++[En.ob (z+1) (.loop (fP X.fn m f c n z))]++X.L2):=((hp.append_right _).append_right _).append_right _;refine this.trans ?_;have e2:∀(a b:En)(A B C:ae En),((A++B)++[a]++[b]++C).Perm ((b::A)++(a::(B++C))):=λa b A B C=>by
   simp only[gw,List.cons_append,List.nil_append];refine(Fv A (pK (l₁:=B) (a:=a) (l₂:=b::C))).trans ?_;refine(Fv A (BG a (pK (l₁:=B) (a:=b) (l₂:=C)))).trans ?_;refine(pK (l₁:=A) (a:=a)).trans ?_;refine(BG a (pK (l₁:=A) (a:=b))).trans ?_;refine(BH b a _).trans (BG b ?_);exact(pK (l₁:=A) (a:=a)).symm
  exact e2 _ _ _ _ _
 obtain⟨v,t,O,q1,q2,q3,⟨D,j,M,GC,rfl,hQ⟩,q5⟩:=(hf z m u).ck (.ob z (.deferred (gH []))::(r++X.L2)) p k3 o X.cs;have hb:t.heap[z+1]?=gH (.loop {fP X.fn m f c n z with state:=D,pending:=j}):=q5.at (i:=0) F;let E:=t.putObj (z+1) (.loop {fP X.fn m f c n z with state:=.exhausted,pending:=j});have P2:(uv (z+1)).runT P t #[]=(.ok j E,(uv (z+1)).events P t #[]):=by rw[jR,run_endLoop hb GC]
 have Jb:aG P U (G (o.finish v) X.cs) t=dO ⟨X.fn,m,(j.map Item.code).toList++k,⟨.collected z,#[]⟩::T,.run,X.kind,I⟩ X.cs E (seen P X.fn ((uv (z+1)).events P t #[])):=by
  show aG P U (G ⟨X.fn,m,.endRangeFunc (z+1)::k,⟨.collected z,#[]⟩::T,.run,X.kind,I⟩ X.cs) t=_;simp only[G,aG,bE,P2,kF];simp
 have k5:=MK (o':=.loop {fP X.fn m f c n z with state:=.exhausted,pending:=j}) q5 (i:=0) F;have k6:Kn ((.ob z (.deferred (gH []))::(M++r))++X.L2) E.heap:=by
  have k7:Kn (M++(.ob z (.deferred (gH []))::(r++X.L2))) E.heap:=⟨λe u=>k5.sat e (eK _ u),(nQ.1 k5.nd).2⟩;refine k7.perm ?_;rw[List.cons_append,gw];exact pK
 refine Rh.steps ((Steps.one (eY J)).trans (q1.trans (.one (eY Jb)))) q2 q3 ?_;exact h z j M hQ R m _ u k6
theorem Kx{b:ae az}{m:ae En}{R:ag->ae En->Prop}{z:Nat}(j:ae ag)(g:ae En)(h:R (qg j) g)(r:L=.ob z (.deferred (gH []))::g:=by kernel_rfl)(d:(CE W,T,(P.funcs[f]?).bind λc=>zN V c.results.toList)=(U,[⟨.collected z,#[]⟩],gH j):=by kernel_rfl):Rs P (fx P f N b m R) W T V L:=λu a H t k w e=>by
 subst e;subst r;simp only[fK]at d;obtain⟨n,rfl,o⟩:=d;obtain⟨c,p,q⟩:=m4.1 o;have s:w.heap[z]?=gH (.deferred (gH [])):=k.at (i:=0) F;have s1:=Im (P:=P) (fn:=f) (tmps:=a) (ds:=[⟨.collected z,#[]⟩]) (kind:=.normal) n b w;have s2:=step_collected (P:=P) (fr:=⟨f,a,W,[⟨.collected z,#[]⟩],.returning,.normal,I⟩) (cs:=b) aZ F F (run_takeDeferred s);have l:=MK (o':=.deferred I) k (i:=0) F;refine Rh.steps ((Steps.one s1).trans (.one s2)) F F (.done ⟨F,qg j,λx v=>⟨F,F,F,c,p,?_⟩,g,h,?_⟩)
 ·rw[Nu t q]
 ·exact⟨λe d=>l.sat e (eK _ d),(nQ.1 l.nd).2⟩
end
end
abbrev u5(z:Nat)(g:aj Nat)(n c:Nat):En:=.ob z (.cells #[sv g n c] 136)
abbrev mK(g:aj Nat)(n c:Nat)(a:ae bt):En:=.row 216 3 g n c (a.flatMap bt.cells)
def Hu(x:aM)(A:ae En)(n:Nat)(a:ae bt)(v:ag)(L:ae En):Prop:=∃z g c,v=.func (.func 116) #[] #[pt z]/\L=A++[u5 z g n c,mK g n c a,(x.aL 0).en]
theorem axk(x)(a)(h:a<0\/(x.ch.length)<=a):Fl Sv 73 [pt x.s,ah a].toArray [(x.aL 0).en] (Hu x [] 0 []):=by
 refine Fl.of 33 λe d=>(ao [] (c5 [0] (yc x) ?_));rintro _ _ ⟨rfl,rfl⟩;by_cases f:a<0
 ·refine cd (λ_=>[AD a 0]) λz=>jJ 216 3 ?_
  refine du ([(x.aL 1).en]++[u5 z I 0 0,mK I 0 0 []]) (eP kW ?_);exact uA [.func (.func 116) #[] #[pt z]] [u5 z I 0 0,mK I 0 0 []] _ (vd F) λc b=>⟨z,I,0,F,by rw[b];rfl⟩
 ·refine cd (λ_=>[zi a 0,0,fH a x.ch.length]) λz=>jJ 216 3 ?_
  refine du ([(x.aL 1).en]++[u5 z I 0 0,mK I 0 0 []]) (eP kW ?_);exact uA [.func (.func 116) #[] #[pt z]] [u5 z I 0 0,mK I 0 0 []] _ (vd F) λc b=>⟨z,I,0,F,by rw[b];rfl⟩
theorem axl(x)(C:bI)(a:Nat)(h:x.ch[a]?=Z C.c)(f:C.vs.length<1000000):Fl Sv 73 [pt x.s,ah a].toArray [(x.aL 0).en,x.cE,C.hd,C.rw] (Hu x [x.cE,C.hd,C.rw] C.vs.length C.vs.reverse):=by
 have e:=(dv.1 h).1;have d:(x.ch.map pt)[a*1]?=Z (pt C.c):=by rw[ayT,fq,h];rfl
 refine Fl.of 33 λk j=>(ao [] (c5 [0] (yc x) ?_));rintro _ _ ⟨rfl,rfl⟩;refine cd (λ_=>[zi a 0,0,fp a x.ch.length,0,iX 96 1 x.cb x.uG e,rr 1 d]) λz=>?_;refine c5 [2,3] (adq C f) ?_;rintro _ _ ⟨g,c,rfl,rfl⟩;refine ao [4] ?_;refine du ([(x.aL 1).en]++[x.cE,C.hd,C.rw,u5 z g C.vs.length c,mK g C.vs.length c C.vs.reverse]) (eP kW ?_);exact uA [.func (.func 116) #[] #[pt z]] [x.cE,C.hd,C.rw,u5 z g C.vs.length c,mK g C.vs.length c C.vs.reverse] _ (vd F) λi b=>⟨z,g,c,F,by rw[b];rfl⟩
abbrev T9(v:bt):ag:=.agg #[ah v.bP,.bool v.gone,.string v.val]
def zH(r:Loop)(j:bl):Loop:={r with state:=.done,pending:=Z j}
def HS(P:aA)(l:Nat)(e p:Nat)(c:af ag)(a b:bl)(z:Nat)(h:ae bt)(J:Nat->ae En->Prop)(D:Nat->bl->ae En->Prop):Prop:=∀i v g,h[i]?=Z v->J i g->Ck P (Frame.round l e (c.setIfInBounds p (T9 v)) a b .normal) (.ob l (.loop (fP e c #[p] a b z))::g) λx f=>(x=.bool U/\∃d,f=.ob l (.loop (fP e c #[p] a b z))::d/\J (i+1) d)\/(x=.bool Y/\∃j d,f=.ob l (.loop (zH (fP e c #[p] a b z) j))::d/\D (i+1) j d)
def itR(l:Nat)(r:Loop)(n:Nat)(J:Nat->ae En->Prop)(D:Nat->bl->ae En->Prop)(L:ae En):Prop:=(∃a,L=.ob l (.loop r)::a/\J n a)\/(∃i j a,i<=n/\L=.ob l (.loop (zH r j))::a/\D i j a)
theorem alf(l h p)(f)(a e)(z)(d)(J)(D)(w:HS Sv l h p f a e z d J D)(b)(g)(c)(K:d.length<1000000)(n)(t:J 0 n):Fl Sv 116 [.func (.yield l) #[] #[],pt b].toArray (.ob l (.loop (fP h f #[p] a e z))::u5 b g d.length c::mK g d.length c d::n) λv L=>itR l (fP h f #[p] a e z) d.length J D L:=by
 refine Fl.of 16 λG E=>?_;refine fw [.ob l (.loop (fP h f #[p] a e z)),u5 b g d.length c,mK g d.length c d] _ ?_;refine ao [1,.g,.x] ?_;refine dP [1] (eF ?_);refine j4 (λi=>d.length-i.1) (λi=>[(0,.func (.yield l) #[] #[]),(5,sv g d.length c),(6,ah d.length),(7,ah i.1)]) (λi=>.ob l (.loop (fP h f #[p] a e z))::mK g d.length c d::i.2) (λi=>i.1<=d.length/\J i.1 i.2) (0,n) ⟨je _,t⟩ ?_;rintro⟨i,L⟩ ⟨H,q⟩ B;by_cases aE:i<d.length
 ·obtain⟨v,r⟩:∃v,d[i]?=Z v:=⟨_,dq aE⟩
  have o:=λj A=>dS bt.len _ i j v A r;refine lF 1 g d.length c ai λk x M=>?_;subst x;refine fw [.ob l (.loop (fP h f #[p] a e z)),mK (Z k) d.length c d] L ?_;refine cd (λ_=>[fp i d.length,iX 136 3 k c aE,rr 1 (o 0 aX),rr 1 (o 1 aX),rr 1 (o 2 aX),2,2,2,2,2,2]) λy=>?_;refine dP [2] ?_;refine eF ?_;refine du (.ob l (.loop (fP h f #[p] a e z))::mK (Z k) d.length c d::L) ?_;refine acM _ _ 0 (w i v L r q) (BG _ (kW (l₁:=[mK (Z k) d.length c d]))) ?_;rintro _ _ (⟨rfl,m,rfl,s⟩|⟨rfl,j,m,rfl,u⟩)
  ·refine ao [aS i,.g,.x] ?_
   refine du ((.ob l (.loop (fP h f #[p] a e z))::m)++[mK (Z k) d.length c d]) ?_;refine eP (BG _ (kW)) ?_;exact cx (B (i+1,m) ai ⟨aE,s⟩)
  ·refine ao [] ?_
   refine du ((.ob l (.loop (zH (fP h f #[p] a e z) j))::m)++[mK (Z k) d.length c d]) ?_;refine eP (kW) (BQ ?_);exact dH [] _ (.inr ⟨i+1,j,m,aE,F,u⟩)
 ·have C:i=d.length:=by omega
  subst C;refine fw [.ob l (.loop (fP h f #[p] a e z)),mK g d.length c d] L ?_;refine ao [fH d.length d.length] ?_;refine dP [1] (eF ?_);exact dH [] _ (.inl ⟨L,F,q⟩)
section
variable {P:aA}{X:Xr}{V:ae aK}{W:Env}{L:ae En}
theorem Rr.eT(A B:ae En)(h:Rr P ⟨X.l,X.fn,X.N,X.fr,X.cs,B++X.L2,X.jg⟩ V W A):Rr P X V W (A++B):=λa w c b=>h a w c (by rw[<-gw];exact b)
theorem Rr.ep{b B A:ae En}{l e:Nat}{f:az}{d:ae az}{c:ag->Hp->Prop}(h:Rr P ⟨l,e,N,f,d,b,c⟩ V W (A++B)):Rr P ⟨l,e,N,f,d,B++b,c⟩ V W A:=λa w i g=>h a w i (by rw[gw];exact g)
theorem Rr.drop(d:ae Nat)(h:Rr P X V W (left d L))(l:(outs d L).isSome=U:=by kernel_rfl):Rr P X V W L:=λc w m i=>by
 obtain⟨⟨a,b⟩,g⟩:=Ae.1 l;have k:left d L=b:=by unfold left;rw[g]
 rw[k]at h;have f:=i.perm ((wL g).append_right X.L2);rw[gw]at f;exact h c w m ⟨λe j=>f.sat e (HA _ j),(Di.1 f.nd).2.1⟩
end
def aB:Type:=Quot (λa b:ae En=>a.Perm b)
def aB.of(l:ae En):aB:=Quot.mk _ l
def aB.one(a:En):aB:=aB.of [a]
def aB.add:aB->aB->aB:=Quot.lift (λa=>Quot.lift (λb=>aB.of (a++b)) λb d h=>Quot.sound (Fv a h)) λa c h=>by
 funext b;induction b using Quot.ind with
 |mk b=>exact Quot.sound (List.Perm.append_right b h)
theorem aB.exact{a b:ae En}(h:aB.of a=aB.of b):a.Perm b:=by
 have:Equivalence (λa b:ae En=>a.Perm b):=⟨List.Perm.refl,List.Perm.symm,List.Perm.trans⟩;have:=Quotient.exact (s:=⟨_,this⟩) h;exact this
theorem eO(a b:ae En):aB.of (a++b)=(aB.of a).add (aB.of b):=rfl
theorem fT(a:En)(b:ae En):aB.of (a::b)=(aB.one a).add (aB.of b):=rfl
theorem fY(x:aB):x.add (aB.of [])=x:=by
 induction x using Quot.ind with
 |mk a=>exact Quot.sound aZ
theorem jC(x:aB):(aB.of []).add x=x:=by
 induction x using Quot.ind with
 |mk a=>exact Quot.sound aZ
instance:Std.Associative aB.add:=⟨λa b c=>by
 induction a using Quot.ind with
 |mk a=>induction b using Quot.ind with
  |mk b=>induction c using Quot.ind with
   |mk c=>exact Quot.sound aZ⟩
instance:Std.Commutative aB.add:=⟨λa b=>by
 induction a using Quot.ind with
 |mk a=>induction b using Quot.ind with
  |mk b=>exact Quot.sound kW⟩
theorem bZ{p:Prop}(h:p:=by apply aB.exact;simp only[eO,fT,fY,jC];try ac_rfl):p:=h
theorem gI.sub{W:Env}{a:af ag}(h:gI N W a)(b:Env)(c:b.map (λp=>lk W p.1)=b.map λp=>Z p.2):gI N b a:=⟨h.size,λt v d=>h.get t v (MR b t v c d)⟩
theorem gI.put{W:Env}{a:af ag}(h:gI N W a)(p:Nat)(v:ag)(b:p<N):gI N ((p,v)::W) (a.setIfInBounds p v):=oh (dst:=Z p) h (by
                                                                                                              have:Nat.ble (p+1) N=U:=Nat.ble_eq_true_of_le b;simp only[EY,this])
abbrev py(l d p:Nat)(c:af ag)(a b:bl)(z:Nat):En:=.ob l (.loop (fP d c #[p] a b z))
abbrev yB(b l:Nat):En:=.ob b (.cells #[.func (.yield l) #[] #[]] 164)
def UD(b:En)(c:En)(J:Nat->ae En->Prop)(i:Nat)(L:ae En):Prop:=∃a,L=b::c::a/\J i a
def Uj(l:Nat)(r:Loop)(c:En)(D:Nat->bl->ae En->Prop)(i:Nat)(j:bl)(L:ae En):Prop:=j=.ret/\∃b a,L=.ob l (.loop (zH r b))::c::a/\D i b a
def Nv:bl->aj (bl×bl)
 |.seq a b=>match Nv a with
  |some x=>Z x
  |none=>Nv b
 |.block _ a=>Nv a
 |.rangeFunc _ _ a b=>Z (a,b)
 |_=>I
noncomputable def Vo(f:Nat):bl×bl:=match(Sv.funcs[f]?).bind (·.body)with
 |some c=>(Nv c).getD (.skip,.skip)
 |none=>(.skip,.skip)
noncomputable abbrev lZ:bl×bl:=Vo 72
theorem arB (l fn p:Nat) (tmps:Array Value) (assign body:Code) (z:Nat) (vs:List bt) (J:Nat→List En→Prop) (D:Nat→Code→List En→Prop) (hR:HS Sv l fn p tmps assign body z vs J D) (l1 z1 b3:Nat) (tm:Array Value) (ht:gI 13 [(3,pt b3)] tm):HS Sv l1 72 8 tm lZ.1 lZ.2 z1 vs (UD (py l fn p tmps assign body z) (yB b3 l) J) (Uj l (fP fn tmps #[p] assign body z) (yB b3 l) D):=by
 rintro i v g f ⟨b,rfl,e⟩;refine Ck.round 13 _ (ht.put 8 (T9 v) aX) λk h a=>?_;refine Rr.eT [py l1 72 8 tm lZ.1 lZ.2 z1,py l fn p tmps assign body z,yB b3 l] b ?_;refine Rr.new (λ_=>[3,3,3]) λy=>?_;refine Rr.begin 0 (fP 72 tm #[8] lZ.1 lZ.2 z1) ?_ rfl;refine Rr.al [2,3,3,3] ?_;refine Rr.drop [3] (Rr.ep ?_);refine Rr.da (.ob l1 (.loop {fP 72 tm #[8] lZ.1 lZ.2 z1 with state:=.busy})::py l fn p tmps assign body z::yB b3 l::b) ?_;refine Rr.yield (py l fn p tmps assign body z::b) [.ob l1 (.loop {fP 72 tm #[8] lZ.1 lZ.2 z1 with state:=.busy}),yB b3 l] 1 (hR i v b f e) ?_ ?_
 ·exact(List.Perm.swap _ _ _).trans (List.Perm.cons _ (List.perm_append_comm (l₁:=[_,_])))
 rintro _ _ (⟨rfl,a,rfl,c⟩|⟨rfl,j,a,rfl,d⟩)
 ·refine Rr.al [] ?_
  refine Rr.da ((py l fn p tmps assign body z::a)++[.ob l1 (.loop {fP 72 tm #[8] lZ.1 lZ.2 z1 with state:=.busy}),yB b3 l]) ?_;refine Rr.perm (L':=.ob l1 (.loop {fP 72 tm #[8] lZ.1 lZ.2 z1 with state:=.busy})::py l fn p tmps assign body z::yB b3 l::a) ((List.Perm.cons _ (List.perm_append_comm (l₂:=[_,_]))).trans (List.Perm.swap _ _ _)) ?_;exact Rr.fin 0 {fP 72 tm #[8] lZ.1 lZ.2 z1 with state:=.busy} none (.inl ⟨rfl,_,rfl,a,rfl,c⟩)
 ·refine Rr.al [] ?_
  refine Rr.da ((.ob l (.loop (zH (fP fn tmps #[p] assign body z) j))::a)++[.ob l1 (.loop {fP 72 tm #[8] lZ.1 lZ.2 z1 with state:=.busy}),yB b3 l]) ?_;refine Rr.perm (L':=.ob l1 (.loop {fP 72 tm #[8] lZ.1 lZ.2 z1 with state:=.busy})::.ob l (.loop (zH (fP fn tmps #[p] assign body z) j))::yB b3 l::a) ((List.Perm.cons _ (List.perm_append_comm (l₂:=[_,_]))).trans (List.Perm.swap _ _ _)) ?_;exact Rr.fin 0 {fP 72 tm #[8] lZ.1 lZ.2 z1 with state:=.busy} (some .ret) (.inr ⟨rfl,.ret,_,rfl,rfl,j,a,rfl,d⟩)
abbrev iB(b:Nat)(i:Int):En:=.ob b (.cells #[ah i] 3)
abbrev CS(b s:Nat):En:=.ob b (.cells #[pt s] 39)
def aeD(l:Nat)(r:Loop)(n:Nat)(J:Nat->ae En->Prop)(D:Nat->bl->ae En->Prop)(B L:ae En):Prop:=(∃a,L=.ob l (.loop r)::(a++B)/\J n a)\/(∃i j a,i<=n/\L=.ob l (.loop (zH r j))::(a++B)/\D i j a)
theorem aeC (l fn p:Nat) (tmps:Array Value) (assign body:Code) (z:Nat) (vs:List bt) (J:Nat→List En→Prop) (D:Nat→Code→List En→Prop) (hR:HS Sv l fn p tmps assign body z vs J D) (x:aM) (key:Int) (A:List En) (hv:Fl Sv 73 [pt x.s,goInt key].toArray ((x.aL 0).en::A) (Hu x A vs.length vs)) (bs bk:Nat) (hl:vs.length<1000000) (L0:List En) (h0:J 0 L0):Fl Sv 72 [.func (.yield l) #[] #[],pt bs,pt bk].toArray (py l fn p tmps assign body z::CS bs x.s::iB bk key::(x.aL 0).en::(A++L0)) λ_ L=>aeD l (fP fn tmps #[p] assign body z) vs.length J D (A++[(x.aL 0).en]) L:=by
 refine Fl.of 13 λr q=>?_;refine fw [py l fn p tmps assign body z,CS bs x.s,iB bk key,(x.aL 0).en] (A++L0) ?_;refine cd (λ_=>[1,2]) λa=>eF ?_;refine du ([py l fn p tmps assign body z,CS bs x.s,iB bk key,(x.aL 0).en,yB a l]++(A++L0)) ?_;refine nu ((x.aL 0).en::A) ([py l fn p tmps assign body z,CS bs x.s,iB bk key,yB a l]++L0) hv bZ ?_;rintro _ _ ⟨e,g,c,rfl,rfl⟩;refine eP (L':=[CS bs x.s,iB bk key]++([py l fn p tmps assign body z,yB a l,u5 e g vs.length c,mK g vs.length c vs]++(L0++(A++[(x.aL 0).en])))) bZ ?_;refine BQ (BQ ?_);refine fw [py l fn p tmps assign body z,yB a l,u5 e g vs.length c,mK g vs.length c vs] (L0++(A++[(x.aL 0).en])) ?_;refine ao [] ?_;refine Ky [(7,.func (.func 116) #[] #[pt e]),(3,pt a)] (eF ?_);refine du (py l fn p tmps assign body z::yB a l::u5 e g vs.length c::mK g vs.length c vs::(L0++(A++[(x.aL 0).en]))) ?_;refine Ut (.tmp 7) #[8] lZ.1 lZ.2 (g:=116) (args:=λl=>#[.func (.yield l) #[] #[],pt e]) (u5 e g vs.length c::mK g vs.length c vs::(py l fn p tmps assign body z::yB a l::L0)) (A++[(x.aL 0).en]) (.func (.func 116) #[] #[pt e]) (λj M=>(j=none∧UD (py l fn p tmps assign body z) (yB a l) J vs.length M)∨∃i f,i≤vs.length∧j=some f∧Uj l (fP fn tmps #[p] assign body z) (yB a l) D i f M) ?_ ?_ ?_
 ·intro d tm o
  refine Fl.post (alf (d+1) 72 8 tm lZ.1 lZ.2 d vs _ _ (arB l fn p tmps assign body z vs J D hR (d+1) d a tm (o.sub [(3,pt a)] rfl)) e g c hl (py l fn p tmps assign body z::yB a l::L0) ⟨L0,rfl,h0⟩) ?_;rintro _ L (⟨b,rfl,h⟩|⟨i,f,b,m,rfl,k⟩)
  ·exact⟨_,⟨.ready,none,b,by simp,rfl,.inl ⟨rfl,h⟩⟩,List.Perm.refl _⟩
  ·exact⟨_,⟨.done,some f,b,by simp,rfl,.inr ⟨i,f,m,rfl,k⟩⟩,List.Perm.refl _⟩
 ·exact bZ
 ·rintro d j M (⟨rfl,b,rfl,h⟩|⟨i,f,m,rfl,rfl,n,b,rfl,k⟩)
  ·refine du ([.ob d (.deferred (some [])),py l fn p tmps assign body z,yB a l]++(b++(A++[(x.aL 0).en]))) ?_
   refine fw _ _ ?_;refine ao [] ?_;refine dP [2] ?_;refine eF ?_;exact Kx (z:=d) [] (py l fn p tmps assign body z::(b++(A++[(x.aL 0).en]))) (.inl ⟨b,rfl,h⟩)
  ·refine du ([.ob d (.deferred (some [])),.ob l (.loop (zH (fP fn tmps #[p] assign body z) n)),yB a l]++(b++(A++[(x.aL 0).en]))) ?_
   refine fw _ _ ?_;refine ao [] ?_;refine dP [2] ?_;refine eF ?_;exact Kx (z:=d) [] (.ob l (.loop (zH (fP fn tmps #[p] assign body z) n))::(b++(A++[(x.aL 0).en]))) (.inr ⟨i,n,b,m,rfl,k⟩)
theorem aeE(s:Nat)(a:Int):Fl Sv 45 [pt s,goInt a].toArray [] λv L=>∃c b,v=.func (.func 72) #[] #[pt c,pt b]∧L=[CS c s,iB b a]:=by
 refine Fl.of 6 λe d=>cd (λ_=>[]) λz=>?_;exact dH [.func (.func 72) #[] #[pt z,pt (z+1)]] _ ⟨z,z+1,rfl,rfl⟩
def jj(n:Int):Nat:=if 0<n/\n<2000 then n.toNat else 2000
theorem Vr(n:Int):0<jj n:=by
 unfold jj;split<;>omega
theorem ae9(n:Int):jj n<=2000:=by
 unfold jj;split<;>omega
theorem ae8{n:Int}(h:i<jj n):((((i+1:Nat):Int)=n\/((i+1:Nat):Int)=2000)↔i+1=jj n):=by
 unfold jj at h⊢;by_cases a:0<n/\n<2000
 ·rw[if_pos a]at h⊢;omega
 ·rw[if_neg a]at h⊢;omega
abbrev lB(b:Nat)(g:aj Nat)(i c:Nat):En:=.ob b (.cells #[sv g i c] 59)
abbrev vR(g:aj Nat)(i c:Nat)(a:ae bt):En:=.row 62 3 g i c (a.flatMap bt.cells)
def UC(n:Int)(a b:Nat)(d:ae bt)(i:Nat)(L:ae En):Prop:=i<jj n/\∃g c,L=[iB a n,lB b g i c,vR g i c (d.take i)]
def Ui(n:Int)(a b:Nat)(d:ae bt)(i:Nat)(j:bl)(L:ae En):Prop:=j=.exit 0/\i=jj n/\∃g c,L=[iB a n,lB b g i c,vR g i c (d.take i)]
noncomputable abbrev oG:bl×bl:=Vo 29
theorem arA (n:Int) (hn:-9223372036854775808≤n∧n<9223372036854775808) (vs:List bt) (l z b5 b7:Nat) (tm:Array Value) (ht:gI 27 [(5,pt b5),(7,pt b7)] tm):HS Sv l 29 12 tm oG.1 oG.2 z vs (UC n b5 b7 vs) (Ui n b5 b7 vs):=by
 rintro i v o m ⟨k,g,c,rfl⟩;have s:=ae9 n;have h:=ae8 k;have j:(vs.take (i+1)).flatMap bt.cells=(vs.take i).flatMap bt.cells++v.cells:=by
  rw[List.take_add_one,m];simp
 refine Ck.round 27 _ (ht.put 12 (T9 v) aX) λr q p=>?_;refine Rr.new (λ_=>[4,4,4]) λy=>?_;refine Rr.begin 0 (fP 29 tm #[12] oG.1 oG.2 z) ?_ rfl;refine Rr.new (λ_=>[2,4,4,4]) λt=>?_;refine Rr.op (app1 59 3 5 i ai) ?_;rintro _ _ ⟨b,a,rfl,rfl⟩;by_cases d:((i+1:Nat):Int)=n
 ·refine Rr.al [2,2,1,bT d] ?_
  refine Rr.drop [4,5] (Rr.da [.ob l (.loop {fP 29 tm #[12] oG.1 oG.2 z with state:=.busy}),iB b5 n,lB b7 (some b) (i+1) a,.row 62 3 (some b) (i+1) a ((vs.take i).flatMap bt.cells++v.cells)] ?_);refine Rr.fin 0 {fP 29 tm #[12] oG.1 oG.2 z with state:=.busy} (some (.exit 0)) (.inr ⟨rfl,.exit 0,_,rfl,rfl,h.1 (.inl d),some b,a,?_⟩);rw[←j]
 ·by_cases f:((i+1:Nat):Int)=2000
  ·refine Rr.al [2,2,1,bF d,2,bT f] ?_
   refine Rr.drop [4,5] (Rr.da [.ob l (.loop {fP 29 tm #[12] oG.1 oG.2 z with state:=.busy}),iB b5 n,lB b7 (some b) (i+1) a,.row 62 3 (some b) (i+1) a ((vs.take i).flatMap bt.cells++v.cells)] ?_);refine Rr.fin 0 {fP 29 tm #[12] oG.1 oG.2 z with state:=.busy} (some (.exit 0)) (.inr ⟨rfl,.exit 0,_,rfl,rfl,h.1 (.inr f),some b,a,?_⟩);rw[←j]
  ·refine Rr.al [2,2,1,bF d,2,bF f] ?_
   refine Rr.drop [4,5] (Rr.da [.ob l (.loop {fP 29 tm #[12] oG.1 oG.2 z with state:=.busy}),iB b5 n,lB b7 (some b) (i+1) a,.row 62 3 (some b) (i+1) a ((vs.take i).flatMap bt.cells++v.cells)] ?_);refine Rr.fin 0 {fP 29 tm #[12] oG.1 oG.2 z with state:=.busy} none (.inl ⟨rfl,_,rfl,?_,some b,a,?_⟩)
   ·have:¬i+1=jj n:=λe=>(h.2 e).elim d f
    omega
   ·rw[←j]
def ao5(x:aM)(A:ae En)(n:Int)(a:ae bt)(v:ag)(L:ae En):Prop:=∃g c,v=sv g (a.take (jj n)).length c/\L=vR g (a.take (jj n)).length c (a.take (jj n))::(A++[(x.aL 0).en])
theorem ZD (x:aM) (key n:Int) (hn:-9223372036854775808≤n∧n<9223372036854775808) (vs:List bt) (A:List En) (hv:Fl Sv 73 [pt x.s,goInt key].toArray ((x.aL 0).en::A) (Hu x A vs.length vs)) (hl:vs.length<1000000):Fl Sv 29 [pt x.s,goInt key,goInt n].toArray ((x.aL 0).en::A) (ao5 x A n vs):=by
 refine Fl.of 27 λt s=>?_;refine fw [] ((x.aL 0).en::A) ?_;refine cd (λ_=>[]) λa=>?_;refine BP (aeE x.s key) ?_;rintro _ _ ⟨f,e,rfl,rfl⟩;refine jJ 62 3 ?_;refine ao [] ?_;refine Ky [(11,.func (.func 72) #[] #[pt f,pt e]),(5,pt a),(7,pt (a+1))] (eF ?_);refine du (CS f x.s::iB e key::iB a n::lB (a+1) none 0 0::vR none 0 0 []::(x.aL 0).en::A) ?_;refine Ut (.tmp 11) #[12] oG.1 oG.2 (g:=72) (args:=λl=>#[.func (.yield l) #[] #[],pt f,pt e]) (CS f x.s::iB e key::(x.aL 0).en::(A++[iB a n,lB (a+1) none 0 0,vR none 0 0 []])) [] (.func (.func 72) #[] #[pt f,pt e]) (λj M=>(j=none∧∃b,M=b++(A++[(x.aL 0).en])∧UC n a (a+1) vs vs.length b)∨∃i h b,i≤vs.length∧j=some h∧M=b++(A++[(x.aL 0).en])∧Ui n a (a+1) vs i h b) ?_ ?_ ?_
 ·intro d tm q
  refine Fl.post (aeC (d+1) 29 12 tm oG.1 oG.2 d vs _ _ (arA n hn vs (d+1) d a (a+1) tm (q.sub [(5,pt a),(7,pt (a+1))] rfl)) x key A hv f e hl [iB a n,lB (a+1) none 0 0,vR none 0 0 []] ⟨Vr n,none,0,by rw[List.take_zero]⟩) ?_;rintro _ L (⟨b,rfl,o⟩|⟨i,h,b,m,rfl,p⟩)
  ·exact⟨_,⟨.ready,none,_,by simp,rfl,.inl ⟨rfl,b,rfl,o⟩⟩,List.Perm.refl _⟩
  ·exact⟨_,⟨.done,some h,_,by simp,rfl,.inr ⟨i,h,b,m,rfl,rfl,p⟩⟩,List.Perm.refl _⟩
 ·exact bZ
 ·rintro d j M (⟨rfl,_,rfl,aE,g,c,rfl⟩|⟨i,h,_,m,rfl,rfl,rfl,r,g,c,rfl⟩)
  ·rw[List.append_nil]
   refine du ([.ob d (.deferred (some [])),iB a n,lB (a+1) g vs.length c,vR g vs.length c (vs.take vs.length)]++(A++[(x.aL 0).en])) ?_;refine fw _ _ ?_;refine ao [2] ?_;refine dP [1,2] ?_;refine eF ?_;refine Kx (z:=d) [sv g vs.length c] (vR g vs.length c (vs.take vs.length)::(A++[(x.aL 0).en])) ⟨g,c,?_,?_⟩
   ·rw[List.take_of_length_le ai];rfl
   ·rw[List.take_of_length_le (Nat.le_of_lt aE),List.take_length]
  ·rw[List.append_nil]
   refine du ([.ob d (.deferred (some [])),iB a n,lB (a+1) g i c,vR g i c (vs.take i)]++(A++[(x.aL 0).en])) ?_;refine fw _ _ ?_;refine ao [2] ?_;refine dP [1,2] ?_;refine eF ?_;have k:(vs.take (jj n)).length=i:=by rw[List.length_take];omega
   refine Kx (z:=d) [sv g i c] (vR g i c (vs.take i)::(A++[(x.aL 0).en])) ⟨g,c,?_,?_⟩
   ·rw[k];rfl
   ·rw[k,r]
structure xm{α:Type}(f:α->ae ag)(w:Nat)(l:ae α)(j:Nat)(xs:ae ag):Prop where
 le:j<=l.length
 len:xs.length=l.length*w
 at_:∀k e,j<=k->l[k]?=Z e->∀q u,q<w->(f e)[q]?=Z u->xs[k*w+q]?=Z u
theorem xm.start{f:α->ae ag}{w:Nat}(b:∀a,(f a).length=w)(l:ae α):xm f w l 0 (l.flatMap f):=⟨je _,tR b l,λk e _ c q u d g=>by rw[dS b l k q e d c];exact g⟩
theorem xm.set{f:α->ae ag}{w:Nat}{l:ae α}{a:ae ag}(h:xm f w l j a)(d:j<l.length){b:ae ag}(p:b.length=a.length)(m:∀i,(j+1)*w<=i->b[i]?=a[i]?):xm f w l (j+1) b:=⟨d,p.trans h.len,λk e g c q u n o=>by
                                                                                                                                                                               rw[m _ (by
                                                                                                                                                                                have:(j+1)*w<=k*w:=Nat.mul_le_mul_right w g;omega)]
                                                                                                                                                                               exact h.at_ k e ai c q u n o⟩
theorem nN{c:ae ag}{v:ag}(h:a≠b):(c.set a v)[b]?=c[b]?:=kU h
abbrev iT(z s r:Nat):En:=.ob z (.cells #[pt s,pt r] 123)
theorem amp (x:aM) (r:RS) (m:Mo) (he:x.ev=m.events) (hl:m.events.length<1000000):Fl Sv 51 [.agg #[pt x.s,pt r.s]].toArray [(x.aL 0).en,x.eE,r.en m,r.eE m] λv L=>v=.bool true∧L=[(x.aL 0).en,x.eE,r.en m,r.eE m]:=by
 obtain⟨d,f,t,h,s,p,o,n,reg,c,l⟩:=r;have hn:x.ev.length=m.events.length:=by rw[he]
 refine Fl.of 79 λcs L2=>?_;refine cd (λ_=>[.g,.x]) λz=>?_;refine du [(x.aL 0).en,x.eE,RS.en ⟨d,f,t,h,s,p,o,n,reg,c,l⟩ m,RS.eE ⟨d,f,t,h,s,p,o,n,reg,c,l⟩ m,iT z x.s d] (eP (L':=[iT z x.s d,(x.aL 0).en,x.eE,RS.en ⟨d,f,t,h,s,p,o,n,reg,c,l⟩ m,RS.eE ⟨d,f,t,h,s,p,o,n,reg,c,l⟩ m]) bZ ?_);refine j4 (ι:=Nat) (λi=>2-i) (λi=>[(1,pt z),(3,goInt i)]) (λ_=>[iT z x.s d,(x.aL 0).en,x.eE,RS.en ⟨d,f,t,h,s,p,o,n,reg,c,l⟩ m,RS.eE ⟨d,f,t,h,s,p,o,n,reg,c,l⟩ m]) (λi=>i≤2) 0 (Nat.zero_le _) ?_;intro i hi R;by_cases Xo:i<2
 ·refine ao [fp i 2,0] (c5 [1,2] (agy x ai) ?_)
  rintro _ _ ⟨g,w,rfl,rfl⟩;refine ao [0,3,oO x.ev.length m.events.length,.g,.x] ?_;refine j4 (ι:=Nat×List Value) (λj=>x.ev.length-j.1) (λj=>[(1,pt z),(3,goInt i),(4,sv g x.ev.length w),(5,goInt j.1)]) (λj=>[iT z x.s d,x.eE,.row 34 5 g x.ev.length w j.2,RS.en ⟨d,f,t,h,s,p,o,n,reg,c,l⟩ m,RS.eE ⟨d,f,t,h,s,p,o,n,reg,c,l⟩ m,(x.aL 0).en]) (λj=>xm Ev.cells 5 x.ev j.1 j.2) (0,x.ev.flatMap Ev.cells) (xm.start Ev.len _) ?_;rintro⟨j,B⟩ D J;simp only at D J;by_cases aE:j<x.ev.length
  ·obtain⟨e,H⟩:∃e,x.ev[j]?=some e:=⟨_,List.getElem?_eq_getElem aE⟩
   have A:∀q u,q<5→e.cells[q]?=some u→B[j*5+q]?=some u:=λq u E Q=>D.at_ j e (Nat.le_refl _) H q u E Q;have C:∀q,q<5→(m.events.flatMap Ev.cells)[j*5+q]?=e.cells[q]?:=λq E=>dS Ev.len m.events j q e E (by rw[←he];exact H);refine lF 2 g x.ev.length w ai λG O ku=>?_;subst O;refine lF 4 reg m.events.length c ai λM X K=>?_;subst X;refine cd (λ_=>[fp j x.ev.length,iX 25 5 G w aE,rr 2 (A 0 _ aX rfl),rr 2 (A 1 _ aX rfl),rr 2 (A 2 _ aX rfl),rr 2 (A 3 _ aX rfl),rr 2 (A 4 _ aX rfl),6,6,6,6,6,
    0,3,ix 132 5 M m.events.length c j j ⟨rfl,by omega⟩,rr 4 (C 0 aX),rr 4 (C 1 aX),rr 4 (C 2 aX),rr 4 (C 3 aX),rr 4 (C 4 aX),7,7,7,7,7,.x]) λy=>?_
   have S:(B.set (j*5+0) (goInt 99))[j*5+1]?=_:=(nN ai).trans (A 1 _ aX rfl);have T:((B.set (j*5+0) (goInt 99)).set (j*5+1) (goInt 0))[j*5+2]?=_:=(nN ai).trans ((nN ai).trans (A 2 _ aX rfl));have V:(((B.set (j*5+0) (goInt 99)).set (j*5+1) (goInt 0)).set (j*5+2) (goInt 0))[j*5+3]?=_:=(nN ai).trans ((nN ai).trans ((nN ai).trans (A 3 _ aX rfl)));have W:((((B.set (j*5+0) (goInt 99)).set (j*5+1) (goInt 0)).set (j*5+2) (goInt 0)).set (j*5+3) (.string ⟨#[]⟩))[j*5+4]?=_:=(nN ai).trans ((nN ai).trans ((nN ai).trans ((nN ai).trans (A 4 _ aX rfl))));refine ao [6,7,oO e.c8 e.c8 rfl,6,7,oO e.step e.step rfl,6,7,oO e.out e.out rfl,6,7,bB (a:=(e.val.toList !=e.val.toList)) (b:=false) aZ,6,7,oO e.bP e.bP rfl,iX 25 5 G w aE,rr 2 (A 0 _ aX rfl),rr 2 S,rr 2 T,rr 2 V,rr 2 W,aS j,.g,.x] ?_;refine dP [6,7] ?_;refine cx (J (j+1,((((B.set (j*5+0) (goInt 99)).set (j*5+1) (goInt 0)).set (j*5+2) (goInt 0)).set (j*5+3) (.string ⟨#[]⟩)).set (j*5+4) (goInt 0)) (by simp only;omega) (D.set aE aZ λk hk=>?_));rw[nN ai,nN ai,nN ai,nN ai,nN ai]
  ·have P:j=x.ev.length:=Nat.le_antisymm D.le ai
   subst P;refine ao [fH x.ev.length x.ev.length,aS i,.g,.x] ?_;refine dP [2] ?_;refine du [iT z x.s d,x.eE,RS.en ⟨d,f,t,h,s,p,o,n,reg,c,l⟩ m,RS.eE ⟨d,f,t,h,s,p,o,n,reg,c,l⟩ m,(x.aL 0).en] (eP (L':=[iT z x.s d,(x.aL 0).en,x.eE,RS.en ⟨d,f,t,h,s,p,o,n,reg,c,l⟩ m,RS.eE ⟨d,f,t,h,s,p,o,n,reg,c,l⟩ m]) bZ ?_);exact cx (R (i+1) ai ai)
 ·have N:i=2:=by omega
  subst N;refine ao [fH (2:Nat) 2] ?_;exact a7 [0] [.bool true] _ ⟨rfl,rfl⟩
def Jo(i:Int):ae ag:=[ah i]
theorem ak8(l:ae Int):l.flatMap Jo=l.map ah:=by
 induction l with
 |nil=>rfl
 |cons a l b=>simp[Jo,b]
theorem amt (x:aM) (r:RS) (m:Mo) (he:x.si.map yx=m.sites) (W7:x.ck=m.clock) (hl:m.sites.length<1000000):Fl Sv 53 [.agg #[pt x.s,pt r.s]].toArray [(x.aL 0).en,x.sE,r.en m,r.sE m] λv L=>v=.bool true∧L=[(x.aL 0).en,x.sE,r.en m,r.sE m]:=by
 obtain⟨b,d,c,h,q,p,o,n,reg,a,l⟩:=r;have S:x.si.length=m.sites.length:=by rw[←he,List.length_map]
 refine Fl.of 55 λP N=>?_;refine cd (λ_=>[.g,.x]) λz=>?_;refine du [(x.aL 0).en,x.sE,RS.en ⟨b,d,c,h,q,p,o,n,reg,a,l⟩ m,RS.sE ⟨b,d,c,h,q,p,o,n,reg,a,l⟩ m,iT z x.s b] (eP (L':=[iT z x.s b,(x.aL 0).en,x.sE,RS.en ⟨b,d,c,h,q,p,o,n,reg,a,l⟩ m,RS.sE ⟨b,d,c,h,q,p,o,n,reg,a,l⟩ m]) bZ ?_);refine j4 (ι:=Nat) (λi=>2-i) (λi=>[(1,pt z),(3,goInt i)]) (λ_=>[iT z x.s b,(x.aL 0).en,x.sE,RS.en ⟨b,d,c,h,q,p,o,n,reg,a,l⟩ m,RS.sE ⟨b,d,c,h,q,p,o,n,reg,a,l⟩ m]) (λi=>i≤2) 0 (Nat.zero_le _) ?_;intro i Q K;by_cases O:i<2
 ·refine ao [fp i 2,0] (c5 [1,2] (as9 x ai) ?_)
  rintro _ _ ⟨g,s,rfl,rfl⟩;rw[he,←ak8];refine ao [0,3,oO x.si.length m.sites.length,.g,.x] ?_;refine j4 (ι:=Nat×List Value) (λj=>x.si.length-j.1) (λj=>[(1,pt z),(3,goInt i),(4,sv g x.si.length s),(5,goInt j.1)]) (λj=>[iT z x.s b,x.sE,.row 3 1 g x.si.length s j.2,RS.en ⟨b,d,c,h,q,p,o,n,reg,a,l⟩ m,RS.sE ⟨b,d,c,h,q,p,o,n,reg,a,l⟩ m,(x.aL 0).en]) (λj=>xm Jo 1 m.sites j.1 j.2) (0,m.sites.flatMap Jo) (xm.start (f:=Jo) (λ_=>rfl) _) ?_;rintro⟨j,B⟩ t A;simp only at t A;by_cases aE:j<x.si.length
  ·obtain⟨e,y⟩:∃e,m.sites[j]?=some e:=⟨_,List.getElem?_eq_getElem ai⟩
   have w:B[j*1]?=some (goInt e):=t.at_ j e (Nat.le_refl _) y 0 _ aX rfl;have J:(m.sites.map goInt)[j*1]?=some (goInt e):=by rw[Nat.mul_one,List.getElem?_map,y];rfl
   refine lF 2 g x.si.length s ai λu G T=>?_;subst G;refine lF 4 d m.sites.length c ai λD M C=>?_;subst M;refine ao [fp j x.si.length] ?_;refine dk 13 [iX 55 1 u s aE,rr 2 w,0,3,ix 55 1 D m.sites.length c j j ⟨rfl,by omega⟩,rr 4 J,oO e e rfl] [] (Fl.nil ?_);refine ao [iX 55 1 u s aE,rr 2 w,aS j,.g,.x] ?_;refine cx (A (j+1,B.set (j*1) (goInt 99)) (by simp only;omega) (t.set ai aZ λk R=>nN ai))
  ·have H:j=x.si.length:=Nat.le_antisymm (by have:=t.le;omega) ai
   subst H;refine ao [fH x.si.length x.si.length,aS i,.g,.x] ?_;refine dP [2] ?_;refine du [iT z x.s b,x.sE,RS.en ⟨b,d,c,h,q,p,o,n,reg,a,l⟩ m,RS.sE ⟨b,d,c,h,q,p,o,n,reg,a,l⟩ m,(x.aL 0).en] (eP (L':=[iT z x.s b,(x.aL 0).en,x.sE,RS.en ⟨b,d,c,h,q,p,o,n,reg,a,l⟩ m,RS.sE ⟨b,d,c,h,q,p,o,n,reg,a,l⟩ m]) bZ ?_);exact cx (K (i+1) ai ai)
 ·have E:i=2:=by omega
  subst E;refine ao [fH (2:Nat) 2,0] (c5 [1] (aeT x) ?_);rintro _ _ ⟨rfl,rfl⟩;refine ao [0,3,fB x.ck m.clock W7] ?_;exact a7 [0] [.bool true] _ ⟨rfl,rfl⟩
end
end Go.Proofs.YtgahemdblfapeaaGreatDoor
