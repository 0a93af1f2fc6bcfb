/- Helper lemmas, part 3: what the steps of the program do in the model; each holds under its own hypotheses. -/
import Derived.Test.YtgahemdblfapeaaGreatDoorA02
set_option maxRecDepth 100000
set_option maxHeartbeats 4000000
set_option linter.all false
namespace Go.Proofs.YtgahemdblfapeaaGreatDoor
open Go.Conc
open _root_.Array renaming append_assoc→Da,ext_getElem?→yI,getElem?_eq_getElem→wZ,getElem?_eq_none_iff→Aa,getElem?_eq_some_iff→gG,getElem?_map→yJ,getElem?_push→Ft,getElem?_setIfInBounds→tJ,getElem?_setIfInBounds_ne→ie,getElem?_setIfInBounds_self_of_lt→kC
open _root_.Bool renaming and_eq_true→ig,false→Y,true→U
open Go renaming Addr→aR,CallKind→dD,Code→bl,Deferred→bV,Event→cX,Frame→az,Func→dF,FuncId→bA,Goroutine→aH,Item→aK,Machine→fg,Oper→bh,Operand→gU,Program→aA,Trace→dJ,TypeId→aJ,Value→ag,World→au,commResult→qp,deafBehind→gW,doReturn→rh,eqGuard→kX,execOp→cu,goInt→ah,runN→di,runNT→iz,stepG→aG,undef→aC,unwind→lU
open Go.Conc renaming Deaf→dU,Deaf_other→mX,again_running→Ag,getElem?_append_cases→kY,heap_setChan_ne→mM,heap_setChan_self→oE,lt_size_of_getElem?→HB,mem_ofEvents→jY,offersAt_of_not_blocked→sM,runNT_then→kG,runT_crowd_go→vJ,served→jz,touchAt_of→sN,touch_of→nR,woken→eM
open Go.Frame renaming enter→bG,eval→bJ,finish→jd
open Go.GStep renaming after→kF
open Go.Instr renaming fieldAt→sH
open Go.MemAct renaming ofEvent→gy,touch?→lS
open Go.MemOp renaming ofEvents→db
open Go.Proofs.Tryz renaming prog→ak
open Go.Region renaming schedule→sL,wanted→vH
open Go.Sem renaming runT_eq→jR,runT_fst→xe
open Go.World renaming cell?→fR,frozen?→pN,shape?→fD
open _root_.List renaming eq_nil_of_length_eq_zero→De,length_cons→iH,length_map→iV,map_cons→ft,mem_cons→bQ,mem_cons_of_mem→eK,mem_cons_self→fu,mem_map→ox,mem_map_of_mem→kV,mem_toArray→jA,nodup_append→yM,nodup_cons→rb,not_mem_nil→gk,replicate→kh
open _root_.Nat renaming le_of_ble_eq_true→yP,le_refl→df,le_succ→pL,le_trans→sK,lt_of_lt_of_le→ayS
open _root_.Option renaming map_eq_some_iff→gV,map_some→iy,none→I,some→Z
open _root_.Option.some renaming inj→dQ,injEq→ij
section
variable {b:Bool}{d:Tmp}{a:aR}{e:cX}{T:dJ}{s:dM}
noncomputable def jV:bl:=.seq (reg qH) .ret
noncomputable def ZU:bl:=.seq (.cond (tm 11) .skip (.refuse "")) (.seq (reg qD) E6)
noncomputable def ZV:bl:=.seq (reg qD) E6
def sF(S n:Nat):ag:=.agg #[ptr S 0,ah (n+1),.bool Y]
abbrev qm(S D n:Nat)(W:Bool):ae (Nat×ag):=[(0,ptr S 0),(7,ah (n+1)),(8,.bool W),(9,ay D),(10,sF S n),(11,.bool (decide (n<9)))]
abbrev SD(S D n N:Nat)(W:Bool):ae (Nat×ag):=(1,ay N)::qm S D n W
abbrev JQ(S D n N M:Nat)(W:Bool):ae (Nat×ag):=(2,ptr M 0)::SD S D n N W
section
variable (g:Nat->ag)(l:ae ag)(S D n N M:Nat)(W:Bool)(X:ae az)(t:af ag)
theorem apQ:aN LL 5 (G (aV 55 (q3 g l (ptr S 0) (ay D) (.agg #[ptr S 0,ah ((0:Nat):Int),.bool W])) qC [0,1,2,3,4,5] [.code j8] [] .normal) X)=G (aV 55 (bO 13 (ov g (qm S D 0 W)) l) qC [5] [.code j8] [] .normal) X:=av
theorem apR:aN LL 5 (G (aV 55 (q3 g l (ptr S 0) (ay D) (.agg #[ptr S 0,ah ((1:Nat):Int),.bool W])) qC [0,1,2,3,4,5] [.code j8] [] .normal) X)=G (aV 55 (bO 13 (ov g (qm S D 1 W)) l) qC [5] [.code j8] [] .normal) X:=av
theorem apT:aN LL 5 (G (aV 55 (q3 g l (ptr S 0) (ay D) (.agg #[ptr S 0,ah ((2:Nat):Int),.bool W])) qC [0,1,2,3,4,5] [.code j8] [] .normal) X)=G (aV 55 (bO 13 (ov g (qm S D 2 W)) l) qC [5] [.code j8] [] .normal) X:=av
theorem apU:aN LL 5 (G (aV 55 (q3 g l (ptr S 0) (ay D) (.agg #[ptr S 0,ah ((3:Nat):Int),.bool W])) qC [0,1,2,3,4,5] [.code j8] [] .normal) X)=G (aV 55 (bO 13 (ov g (qm S D 3 W)) l) qC [5] [.code j8] [] .normal) X:=av
theorem apV:aN LL 5 (G (aV 55 (q3 g l (ptr S 0) (ay D) (.agg #[ptr S 0,ah ((4:Nat):Int),.bool W])) qC [0,1,2,3,4,5] [.code j8] [] .normal) X)=G (aV 55 (bO 13 (ov g (qm S D 4 W)) l) qC [5] [.code j8] [] .normal) X:=av
theorem apW:aN LL 5 (G (aV 55 (q3 g l (ptr S 0) (ay D) (.agg #[ptr S 0,ah ((5:Nat):Int),.bool W])) qC [0,1,2,3,4,5] [.code j8] [] .normal) X)=G (aV 55 (bO 13 (ov g (qm S D 5 W)) l) qC [5] [.code j8] [] .normal) X:=av
theorem apX:aN LL 5 (G (aV 55 (q3 g l (ptr S 0) (ay D) (.agg #[ptr S 0,ah ((6:Nat):Int),.bool W])) qC [0,1,2,3,4,5] [.code j8] [] .normal) X)=G (aV 55 (bO 13 (ov g (qm S D 6 W)) l) qC [5] [.code j8] [] .normal) X:=av
theorem apY:aN LL 5 (G (aV 55 (q3 g l (ptr S 0) (ay D) (.agg #[ptr S 0,ah ((7:Nat):Int),.bool W])) qC [0,1,2,3,4,5] [.code j8] [] .normal) X)=G (aV 55 (bO 13 (ov g (qm S D 7 W)) l) qC [5] [.code j8] [] .normal) X:=av
theorem apZ:aN LL 5 (G (aV 55 (q3 g l (ptr S 0) (ay D) (.agg #[ptr S 0,ah ((8:Nat):Int),.bool W])) qC [0,1,2,3,4,5] [.code j8] [] .normal) X)=G (aV 55 (bO 13 (ov g (qm S D 8 W)) l) qC [5] [.code j8] [] .normal) X:=av
theorem ap0:aN LL 5 (G (aV 55 (q3 g l (ptr S 0) (ay D) (.agg #[ptr S 0,ah ((9:Nat):Int),.bool W])) qC [0,1,2,3,4,5] [.code j8] [] .normal) X)=G (aV 55 (bO 13 (ov g (qm S D 9 W)) l) qC [5] [.code j8] [] .normal) X:=av
theorem q_c(h:n<=9):aN LL 5 (G (aV 55 (q3 g l (ptr S 0) (ay D) (.agg #[ptr S 0,ah n,.bool W])) qC [0,1,2,3,4,5] [.code j8] [] .normal) X)=G (aV 55 (bO 13 (ov g (qm S D n W)) l) qC [5] [.code j8] [] .normal) X:=by
 have:n=0\/n=1\/n=2\/n=3\/n=4\/n=5\/n=6\/n=7\/n=8\/n=9:=by omega
 rcases this with rfl|rfl|rfl|rfl|rfl|rfl|rfl|rfl|rfl|rfl
 ·exact apQ g l S D W X
 ·exact apR g l S D W X
 ·exact apT g l S D W X
 ·exact apU g l S D W X
 ·exact apV g l S D W X
 ·exact apW g l S D W X
 ·exact apX g l S D W X
 ·exact apY g l S D W X
 ·exact apZ g l S D W X
 ·exact ap0 g l S D W X
theorem ap2:fQ LL (cu (bJ ⟨55,bO 13 (ov g (qm S D n W)) l,[],[],.run,.normal,I⟩) (dR (.send (tm 9) (tm 10))))=Z (.comm #[{chan:=ay D,send:=Z (sF S n),zero:=.tuple #[]}] U .send):=av
theorem ap1:aN LL 2 (G (aV 55 t qC [] [.code j8] [] .normal) X)=G ⟨55,t,[.code (.cond (tm 8) (.refuse "") .skip),.code ZU],[],.run,.normal,I⟩ X:=av
theorem aqe:(bO 13 (ov g (qm S D n W)) l).getD 8 aC=.bool W:=av
theorem aqf:(bO 13 (ov g (qm S D n W)) l).getD 11 aC=.bool (decide (n<9)):=av
theorem apS:aN LL 1 (G ⟨55,t,[.code ZU],[],.run,.normal,I⟩ X)=G ⟨55,t,[.code (.cond (tm 11) .skip (.refuse "")),.code ZV],[],.run,.normal,I⟩ X:=av
theorem aql:oe LL N (G ⟨55,bO 13 (ov g (qm S D n W)) l,[.code ZV],[],.run,.normal,I⟩ X)=Z (G (aV 55 (bO 13 (ov g (SD S D n N W)) l) qD [1] [.code E6] [] .normal) X,.chan 4 #[] Y 0 0 Y):=av
theorem aqm:oe LL M (G (aV 55 (bO 13 (ov g (SD S D n N W)) l) qD [1] [.code E6] [] .normal) X)=Z (G (aV 55 (bO 13 (ov g (JQ S D n N M W)) l) qD [] [.code E6] [] .normal) X,.cells gA 142):=av
theorem ap3:aN LL 2 (G (aV 55 t qD [] [.code E6] [] .normal) X)=G ⟨55,t,[.code (.region 1 qE U),.code jV],[],.run,.normal,I⟩ X:=av
end
section
variable {R:ag->au->Prop}{X:ae az}
theorem am0(e:X≠[]){d:cz}(r:d.n<=9){g:Nat->ag}{l:ae ag}{h:au}{x y:Nat}(hD:h.heap[d.D]?=Z (.chan 2 #[cV d] Y x y Y))
  (hg:Good LL R ⟨aV 55 (q3 g l (ptr d.S 0) (ay d.D) (cV d)) qC [0,1,2,3,4,5] [.code j8] [] .normal,X,h.setChan d.D 2 #[] Y x (y+1) Y⟩):
  d.st=Y/\d.n<9/\∃n f,(∃p q,f=((h.setChan d.D 2 #[] Y x (y+1) Y).setChan d.D 2 #[sF d.S d.n] Y p q Y))/\
   eV LL ⟨aV 55 (q3 g l (ptr d.S 0) (ay d.D) (cV d)) qC [0,1,2,3,4,5] [.code j8] [] .normal,X,h.setChan d.D 2 #[] Y x (y+1) Y⟩ ⟨⟨55,bO 13 (ov g (JQ d.S d.D d.n f.heap.size (f.heap.size+1) d.st)) l,[.code (.region 1 qE U),.code jV],[],.run,.normal,I⟩,X,bM (bM f (.chan 4 #[] Y 0 0 Y)) (.cells gA 142)⟩ n/\
   Good LL R ⟨⟨55,bO 13 (ov g (JQ d.S d.D d.n f.heap.size (f.heap.size+1) d.st)) l,[.code (.region 1 qE U),.code jV],[],.run,.normal,I⟩,X,bM (bM f (.chan 4 #[] Y 0 0 Y)) (.cells gA 142)⟩:=by
 have hk:CallKind.normal=.normal\/CallKind.normal=.deferred:=.inl F;obtain⟨n1,z,O⟩:=hg.quiet 5 (q_c g l d.S d.D d.n d.st X r) e;have oc:(h.setChan d.D 2 #[] Y x (y+1) Y).heap[d.D]?=Z (.chan 2 #[] Y x (y+1) Y):=oE _ hD _ _ _ _ _ _;obtain⟨c,o,m,J,a,b,gi,K,j,L⟩:=vm hk e av (ap2 g l d.S d.D d.n d.st) O;cases K;have j:(h.setChan d.D 2 #[] Y x (y+1) Y).heap[d.D]?=Z (.chan o m J a b gi):=j;rw[oc]at j;cases j;obtain⟨_,i,k⟩:=L F;have i:eV LL _ ⟨aV 55 (bO 13 (ov g (qm d.S d.D d.n d.st)) l) qC [] [.code j8] [] .normal,X,(h.setChan d.D 2 #[] Y x (y+1) Y).setChan d.D 2 #[sF d.S d.n] Y (x+1) (y+1) Y⟩ 1:=i;have k:Good LL R ⟨aV 55 (bO 13 (ov g (qm d.S d.D d.n d.st)) l) qC [] [.code j8] [] .normal,X,(h.setChan d.D 2 #[] Y x (y+1) Y).setChan d.D 2 #[sF d.S d.n] Y (x+1) (y+1) Y⟩:=k;generalize uZ:(h.setChan d.D 2 #[] Y x (y+1) Y).setChan d.D 2 #[sF d.S d.n] Y (x+1) (y+1) Y=f at i k;obtain⟨n3,A,v⟩:=k.quiet 2 (ap1 X _) e;obtain⟨H,s⟩:=Ww (bb:=d.st) v e (aqe g l d.S d.D d.n d.st);have P:=v.mF s e;obtain⟨n5,B,w⟩:=P.quiet 1 (apS X _) e;obtain⟨aE,u⟩:=DT (bb:=decide (d.n<9)) w e (aqf g l d.S d.D d.n d.st);have Q:=w.mF u e;obtain⟨n7,C,T⟩:=DU Q (aql g l d.S d.D d.n _ d.st X) e;have h2:=aqm g l d.S d.D d.n f.heap.size (f.heap.size+1) d.st X;obtain⟨n8,E,V⟩:=DU T (by rw[size_push];exact h2) e;obtain⟨n9,G,g9⟩:=V.quiet 2 (ap3 X _) e;exact⟨H,of_decide_eq_true aE,_,f,⟨_,_,uZ.symm⟩,(((((((z.trans i).trans A).trans s).trans B).trans u).trans C).trans E).trans G,g9⟩
end
def arr(i j:Nat)(a b c:Obj):Nat->Obj:=λm=>if m=i then a else if m=j then b else c
def jO(w:au)(u:Nat->Obj):au:=bM (bM (bM w (u 0)) (u 1)) (u 2)
inductive Ord:ae Nat->Nat->Nat->Nat->Prop
 |aos:Ord [0,1,2,3,4] 0 1 2
 |aot:Ord [0,1,3,2,4] 0 1 2
 |aou:Ord [0,3,1,2,4] 0 2 1
 |aov:Ord [1,0,2,3,4] 1 0 2
 |aow:Ord [1,0,3,2,4] 1 0 2
 |aox:Ord [1,3,0,2,4] 2 0 1
 |aoy:Ord [3,0,1,2,4] 1 2 0
 |aoA:Ord [3,1,0,2,4] 2 1 0
theorem Ord.perm{o:ae Nat}{i j k:Nat}(h:Ord o i j k):i<3/\j<3/\k<3/\i≠j/\i≠k/\j≠k:=by
 cases h<;>omega
theorem aoW(t:Nat):∃i j k,Ord (sL U vi t) i j k:=by
 have h:=NH vi t;rw[aoX]at h;simp only[bQ,gk,or_false]at h;rcases h with h|h|h|h|h|h|h|h<;>rw[h]
 ·exact⟨_,_,_,.aos⟩
 ·exact⟨_,_,_,.aot⟩
 ·exact⟨_,_,_,.aou⟩
 ·exact⟨_,_,_,.aov⟩
 ·exact⟨_,_,_,.aow⟩
 ·exact⟨_,_,_,.aox⟩
 ·exact⟨_,_,_,.aoy⟩
 ·exact⟨_,_,_,.aoA⟩
abbrev qR(g:Nat->ag)(l:ae ag)(m:ae (Nat×ag))(Q O L P:ag):af ag:=bO 13 (ov g ((3,Q)::(4,O)::(5,L)::(6,P)::m)) l
abbrev ly(S D n N M:Nat)(X:Bool):=JQ S D n N M X
section
variable (g:Nat->ag)(l:ae ag)(S D n N M:Nat)(X:Bool)(V:ae az)(W T b:Nat)(Q O L P:ag)
theorem apK:bO 13 (ov g (ly S D n N M X)) l=qR g l (ly S D n N M X) (g 3) (g 4) (g 5) (g 6):=av
theorem lo0(r:ae Nat):oe LL W (G (aV 55 (qR g l (ly S D n N M X) Q O L P) qE (0::r) [.code jV] [] .normal) V)=Z (G (aV 55 (qR g l (ly S D n N M X) Q (ay W) L P) qE r [.code jV] [] .normal) V,.chan 1 #[] Y 0 0 Y):=av
theorem lo1(r:ae Nat):oe LL W (G (aV 55 (qR g l (ly S D n N M X) Q O L P) qE (1::r) [.code jV] [] .normal) V)=Z (G (aV 55 (qR g l (ly S D n N M X) Q O (ay W) P) qE r [.code jV] [] .normal) V,.chan 3 #[] Y 0 0 Y):=av
theorem lo2(u v:aj Nat)(r:ae Nat):aN LL 1 (G (aV 55 (qR g l (ly S D n N M X) Q (.chan u) (.chan v) P) qE (2::r) [.code jV] [] .normal) V)=G (aV 55 (qR g l (ly S D n N M X) Q (.chan u) (.chan v) (.agg #[.chan u,.chan v])) qE r [.code jV] [] .normal) V:=av
theorem lo3(r:ae Nat):oe LL W (G (aV 55 (qR g l (ly S D n N M X) Q O L P) qE (3::r) [.code jV] [] .normal) V)=Z (G (aV 55 (qR g l (ly S D n N M X) (ay W) O L P) qE r [.code jV] [] .normal) V,.chan 4 #[] Y 0 0 Y):=av
theorem lo4(r:ae Nat):aN LL 1 (G (aV 55 (qR g l (ly S D n N M X) Q O L P) qE (4::r) [.code jV] [] .normal) V)=G (aV 55 (qR g l (ly S D n N M X) Q O L P) qE r [.code jV] [] .normal) V:=av
end
def qS(a b c:Obj)(p:Nat->ag)(s:(ag×ag×ag×ag)×au)(i:Nat):(ag×ag×ag×ag)×au:=match i with
 |0=>((s.1.1,ay s.2.heap.size,s.1.2.2),bM s.2 a)
 |1=>((s.1.1,s.1.2.1,ay s.2.heap.size,s.1.2.2.2),bM s.2 b)
 |2=>((s.1.1,s.1.2.1,s.1.2.2.1,.agg #[s.1.2.1,s.1.2.2.1]),s.2)
 |3=>((p s.2.heap.size,s.1.2),bM s.2 c)
 |_=>s
def EA:ag->Bool
 |.chan _=>U
 |_=>Y
theorem M9{v:ag}(h:EA v=U):∃u,v=.chan u:=by
 cases v<;>first|exact⟨_,rfl⟩|cases h
def xA:ae Nat->Bool->Bool->Bool
 |[],_,_=>U
 |i::o,a,b=>match i with
  |0=>xA o U b
  |1=>xA o a U
  |2=>(a&&b)&&xA o a b
  |3=>xA o a b
  |4=>xA o a b
  |_=>Y
theorem Ord.chk{o:ae Nat}{i j k:Nat}(h:Ord o i j k)(a b:Bool):xA o a b=U:=by cases h<;>rfl
theorem Ord.fold{o:ae Nat}{i j k:Nat}(h:Ord o i j k)(a b c:Obj)(p:Nat->ag)(x:ag×ag×ag×ag)(w:au):o.foldl (qS a b c p) (x,w)=((p (w.heap.size+k),ay (w.heap.size+i),ay (w.heap.size+j),.agg #[ay (w.heap.size+i),ay (w.heap.size+j)]),jO w (arr i j a b c)):=by
 cases h<;>simp[qS,size_push,jO,arr]
section
variable {R:ag->au->Prop}{V:ae az}{g:Nat->ag}{l:ae ag}{S D n N M:Nat}{X:Bool}{Q O L P:ag}{w:au}
abbrev cW:Obj:=.chan 1 #[] Y 0 0 Y
abbrev cT:Obj:=.chan 3 #[] Y 0 0 Y
abbrev cB:Obj:=.chan 4 #[] Y 0 0 Y
abbrev c0:Obj:=.chan 0 #[] Y 0 0 Y
theorem YC(d:V≠[]):∀(o:ae Nat)(s:(ag×ag×ag×ag)×au),xA o (EA s.1.2.1) (EA s.1.2.2.1)=U->Good LL R ⟨aV 55 (qR g l (ly S D n N M X) s.1.1 s.1.2.1 s.1.2.2.1 s.1.2.2.2) qE o [.code jV] [] .normal,V,s.2⟩->∃m,∀f,f=o.foldl (qS cW cT cB ay) s->eV LL ⟨aV 55 (qR g l (ly S D n N M X) s.1.1 s.1.2.1 s.1.2.2.1 s.1.2.2.2) qE o [.code jV] [] .normal,V,s.2⟩ ⟨aV 55 (qR g l (ly S D n N M X) f.1.1 f.1.2.1 f.1.2.2.1 f.1.2.2.2) qE [] [.code jV] [] .normal,V,f.2⟩ m/\Good LL R ⟨aV 55 (qR g l (ly S D n N M X) f.1.1 f.1.2.1 f.1.2.2.1 f.1.2.2.2) qE [] [.code jV] [] .normal,V,f.2⟩
 |[],s,_,c=>⟨0,λf e=>by subst e;exact⟨eV.refl,c⟩⟩
 |i::o,s,a,c=>by
  have step:xA o (EA (qS cW cT cB ay s i).1.2.1) (EA (qS cW cT cB ay s i).1.2.2.1)=U/\∃m,eV LL ⟨aV 55 (qR g l (ly S D n N M X) s.1.1 s.1.2.1 s.1.2.2.1 s.1.2.2.2) qE (i::o) [.code jV] [] .normal,V,s.2⟩ ⟨aV 55 (qR g l (ly S D n N M X) (qS cW cT cB ay s i).1.1 (qS cW cT cB ay s i).1.2.1 (qS cW cT cB ay s i).1.2.2.1 (qS cW cT cB ay s i).1.2.2.2) qE o [.code jV] [] .normal,V,(qS cW cT cB ay s i).2⟩ m/\Good LL R ⟨aV 55 (qR g l (ly S D n N M X) (qS cW cT cB ay s i).1.1 (qS cW cT cB ay s i).1.2.1 (qS cW cT cB ay s i).1.2.2.1 (qS cW cT cB ay s i).1.2.2.2) qE o [.code jV] [] .normal,V,(qS cW cT cB ay s i).2⟩:=by
   match i,a with
   |0,a=>exact⟨a,DU c (lo0 ..) d⟩
   |1,a=>exact⟨a,DU c (lo1 ..) d⟩
   |2,a=>
    obtain⟨⟨Q,O,L,P⟩,w⟩:=s;simp only[xA,ig]at a;obtain⟨u,rfl⟩:=M9 a.1.1;obtain⟨v,rfl⟩:=M9 a.1.2;exact⟨a.2,c.quiet 1 (lo2 ..) d⟩
   |3,a=>exact⟨a,DU c (lo3 ..) d⟩
   |4,a=>exact⟨a,c.quiet 1 (lo4 ..) d⟩
  obtain⟨a,p,j,k⟩:=step;obtain⟨m,h⟩:=YC d o _ a k;exact⟨p+m,λf e=>⟨j.trans (h f e).1,(h f e).2⟩⟩
theorem amV{o:ae Nat}{i j k:Nat}(h:Ord o i j k)(a:V≠[])(c:Good LL R ⟨aV 55 (qR g l (ly S D n N M X) Q O L P) qE o [.code jV] [] .normal,V,w⟩):∃m,eV LL ⟨aV 55 (qR g l (ly S D n N M X) Q O L P) qE o [.code jV] [] .normal,V,w⟩ ⟨aV 55 (qR g l (ly S D n N M X) (ay (w.heap.size+k)) (ay (w.heap.size+i)) (ay (w.heap.size+j)) (.agg #[ay (w.heap.size+i),ay (w.heap.size+j)])) qE [] [.code jV] [] .normal,V,jO w (arr i j cW cT cB)⟩ m/\Good LL R ⟨aV 55 (qR g l (ly S D n N M X) (ay (w.heap.size+k)) (ay (w.heap.size+i)) (ay (w.heap.size+j)) (.agg #[ay (w.heap.size+i),ay (w.heap.size+j)])) qE [] [.code jV] [] .normal,V,jO w (arr i j cW cT cB)⟩:=by
 obtain⟨m,d⟩:=YC a o ((Q,O,L,P),w) (h.chk _ _) c;exact⟨m,d _ (h.fold cW cT cB ay _ w).symm⟩
end
theorem asn(t):sL U qE t=sL U vi t:=av
theorem Wb:LL.follows .mixedOrders=U:=av
theorem amS{t}{cs}{w}(a):kj LL ⟨⟨55,t,[.code (.region 1 qE U),.code jV],[],.run,.normal,I⟩,cs,w⟩ ⟨aV 55 t qE (sL U vi ((Question.order 55 1).cut (a 0 (.order 55 1)))) [.code jV] [] .normal,cs,w⟩ 1 1 a:=λτ d c=>by
 have h:=F8 (main:=U) Wb (fn:=55) (tmps:=t) (k:=[.code jV]) (defers:=[]) (kind:=.normal) (cs:=cs) (id:=1) (ops:=qE) (re w τ d);have e:(re w τ d).tape (re w τ d).drawn (.order 55 1)=a 0 (.order 55 1):=c 0 ai _;rw[e,asn]at h;simp only[il.on,di];rw[show lone ⟨55,t,[.code (.region 1 qE U),.code jV],[],.run,.normal,I⟩ cs (re w τ d)=lone ⟨55,t,[.code (.region 1 qE U),.code jV],[],.run,.normal,I⟩ cs (re w τ d)from F,eY h];rfl
section
variable (g:Nat->ag)(l:ae ag)(S D n N M W T b:Nat)(X:Bool)(cs:ae az)(V:ag)
abbrev apJ:af ag:=qR g l (ly S D n N M X) (ay b) (ay W) (ay T) (.agg #[ay W,ay T])
theorem q_h:aN LL 4 (G (aV 55 (apJ g l S D n N M W T b X) qE [] [.code jV] [] .normal) cs)=G (aV 55 (bO 13 (ov g ((3,ay b)::(4,ay W)::(5,ay T)::(6,.agg #[ay W,ay T])::(8,.agg #[ay D,ay T])::ly S D n N M X)) l) qH [1,2] [.code .ret] [] .normal) cs:=av
abbrev Bt:af ag:=bO 13 (ov g ((3,ay b)::(4,ay W)::(5,ay T)::(6,.agg #[ay W,ay T])::(8,.agg #[ay D,ay T])::ly S D n N M X)) l
theorem aqj:fQ LL (cu (bJ ⟨55,Bt g l S D n N M W T b X,[],[],.run,.normal,I⟩) (dR (.send (tm 4) (tm 8))))=Z (.comm #[{chan:=ay W,send:=Z (.agg #[ay D,ay T]),zero:=.tuple #[]}] U .send):=av
theorem aqu:vU LL 142 gA (G (aV 55 (Bt g l S D n N M W T b X) qH [2] [.code .ret] [] .normal) cs)=Z (G (aV 55 (Bt g l S D n N M W T b X) qH [] [.code .ret] [] .normal) cs,#[ay W,ay T],[.ev ⟨.cell (be M 0),U,Y⟩,.ev ⟨.cell (be M 1),U,Y⟩]):=av
theorem aqo:aN LL 2 (G (aV 55 (Bt g l S D n N M W T b X) qH [] [.code .ret] [] .normal) cs)=G ⟨55,Bt g l S D n N M W T b X,[.code .ret],[],.returning,.normal,I⟩ cs:=av
theorem aqn:pS LL 142 (results EE (Bt g l S D n N M W T b X)) #[ay W,ay T]=Z (.agg #[ay W,ay T],#[ay W,ay T],[.ev ⟨.cell (be M 0),Y,Y⟩,.ev ⟨.cell (be M 1),Y,Y⟩]):=av
end
theorem Nk(w:au)(u:Nat->Obj)(b:Nat):(jO w u).heap[b]?=if b=w.heap.size+2 then Z (u 2)else if b=w.heap.size+1 then Z (u 1)else if b=w.heap.size then Z (u 0)else w.heap[b]?:=by
 unfold jO;rw[lJ,lJ,lJ];simp only[size_push]
theorem ZN(w:au)(u:Nat->Obj):(jO w u).heap.size=w.heap.size+3:=by
 unfold jO;simp only[size_push]
theorem FV{i j k:Nat}(h:i<3/\j<3/\k<3/\i≠j/\i≠k/\j≠k)(w:au)(a b c:Obj):(jO w (arr i j a b c)).heap[w.heap.size+i]?=Z a/\(jO w (arr i j a b c)).heap[w.heap.size+j]?=Z b/\(jO w (arr i j a b c)).heap[w.heap.size+k]?=Z c/\∀x,x<w.heap.size->(jO w (arr i j a b c)).heap[x]?=w.heap[x]?:=by
 have d:i=0\/i=1\/i=2:=by omega
 have e:j=0\/j=1\/j=2:=by omega
 have f:k=0\/k=1\/k=2:=by omega
 refine⟨?_,?_,?_,λx m=>?_⟩
 ·rw[Nk]
  rcases d with rfl|rfl|rfl<;>simp[arr]
 ·rw[Nk]
  rcases e with rfl|rfl|rfl<;>rcases d with rfl|rfl|rfl<;>first|(exfalso;omega)|simp[arr]
 ·rw[Nk]
  rcases f with rfl|rfl|rfl<;>rcases d with rfl|rfl|rfl<;>rcases e with rfl|rfl|rfl<;>first|(exfalso;omega)|simp[arr]
 ·rw[Nk,if_neg ai,if_neg ai,if_neg ai]
section
variable {L:aA}{R:ag->au->Prop}{Q:az}{T:ae az}{w:au}
theorem ana{t:aJ}{b:Nat}{c a:af ag}{l:ae iR}{f:az}{e:ae az}(h:vU L t c (G Q T)=Z (G f e,a,l))(q:Ap b l)(p:w.heap[b]?=Z (.cells c t)):∃k,eV L ⟨Q,T,w⟩ ⟨f,e,gZ w b a t⟩ k:=by
 obtain⟨m,i,j⟩:=MU (L:=L) 400 Q T w;obtain⟨_,o⟩:=U5 (main:=U) h q;refine⟨m+1,i.trans λτ d=>?_⟩;have:=o (re w τ d) p;rw[<-j]at this;simp only[il.on,di];rw[eY this];rfl
theorem ane{f:bA}{F:dF}{t:af ag}{td:ae aK}{v:ag}{a:az}{l:ae az}{w:au}(e:L.funcs[f]?=Z F)(h:∀τ d,(results F t).run L (re w τ d)=.ok v (re w τ d)):eV L ⟨⟨f,t,td,[],.returning,.normal,I⟩,a::l,w⟩ ⟨a.finish v,l,w⟩ 1:=λτ d=>by
 have c:(results F t).runT L (re w τ d) #[]=(.ok v (re w τ d),(results F t).events L (re w τ d) #[]):=by rw[jR,h]
 have b:∃es,aG L U (G ⟨f,t,td,[],.returning,.normal,I⟩ (a::l)) (re w τ d)=dO (a.finish v) l (re w τ d) es:=by
  simp only[G,aG,lU,e,c,rh];exact⟨_,rfl⟩
 obtain⟨es,b⟩:=b;simp only[il.on,di];rw[eY b]
end
theorem al5:LL.funcs[55]?=Z EE:=av
section
variable {R:ag->au->Prop}{g:Nat->ag}{l:ae ag}{S D n N M:Nat}{V:Bool}{P O K J:ag}{w:au}{X:az}{W:ae az}
theorem am1{o:ae Nat}{i j k:Nat}(h:Ord o i j k)(H:w.heap[M]?=Z (.cells gA 142))(hg:Good LL R ⟨aV 55 (qR g l (ly S D n N M V) P O K J) qE o [.code jV] [] .normal,X::W,w⟩):∃m p q,eV LL ⟨aV 55 (qR g l (ly S D n N M V) P O K J) qE o [.code jV] [] .normal,X::W,w⟩ ⟨X.finish (.agg #[ay (w.heap.size+i),ay (w.heap.size+j)]),W,gZ ((jO w (arr i j cW cT cB)).setChan (w.heap.size+i) 1 #[.agg #[ay D,ay (w.heap.size+j)]] Y p q Y) M #[ay (w.heap.size+i),ay (w.heap.size+j)] 142⟩ m:=by
 have e:X::W≠[]:=by simp
 have hk:CallKind.normal=.normal\/CallKind.normal=.deferred:=.inl F;obtain⟨n1,L1,g1⟩:=amV h e hg;obtain⟨G,_,_,y⟩:=FV h.perm w cW cT cB;obtain⟨n2,L2,g2⟩:=g1.quiet 4 (q_h g l S D n N M (w.heap.size+i) (w.heap.size+j) (w.heap.size+k) V (X::W)) e;obtain⟨c,A,z,cl,a,b,gi,e1,r,e3⟩:=vm hk e av (aqj g l S D n N M (w.heap.size+i) (w.heap.size+j) (w.heap.size+k) V) g2;cases e1;have r:(jO w (arr i j cW cT cB)).heap[w.heap.size+i]?=Z (.chan A z cl a b gi):=r;rw[G]at r;cases r;obtain⟨_,f,B⟩:=e3 F;have f:eV LL _ ⟨aV 55 (Bt g l S D n N M (w.heap.size+i) (w.heap.size+j) (w.heap.size+k) V) qH [2] [.code .ret] [] .normal,X::W,(jO w (arr i j cW cT cB)).setChan (w.heap.size+i) 1 #[.agg #[ay D,ay (w.heap.size+j)]] Y 1 0 Y⟩ 1:=f;have B:Good LL R ⟨aV 55 (Bt g l S D n N M (w.heap.size+i) (w.heap.size+j) (w.heap.size+k) V) qH [2] [.code .ret] [] .normal,X::W,(jO w (arr i j cW cT cB)).setChan (w.heap.size+i) 1 #[.agg #[ay D,ay (w.heap.size+j)]] Y 1 0 Y⟩:=B;have IF:=cZ H;have x:((jO w (arr i j cW cT cB)).setChan (w.heap.size+i) 1 #[.agg #[ay D,ay (w.heap.size+j)]] Y 1 0 Y).heap[M]?=Z (.cells gA 142):=by
  rw[heap_setChan _ (cZ G),if_neg ai,y M IF];exact H
 obtain⟨n4,u⟩:=ana (b:=M) (aqu g l S D n N M (w.heap.size+i) (w.heap.size+j) (w.heap.size+k) V (X::W)) ⟨F,F,trivial⟩ x;have g4:=B.mF u e;obtain⟨n5,C,g5⟩:=g4.quiet 2 (aqo g l S D n N M (w.heap.size+i) (w.heap.size+j) (w.heap.size+k) V (X::W)) e;generalize GK:(jO w (arr i j cW cT cB)).setChan (w.heap.size+i) 1 #[.agg #[ay D,ay (w.heap.size+j)]] Y 1 0 Y=s at f x u C;have E:(gZ s M #[ay (w.heap.size+i),ay (w.heap.size+j)] 142).heap[M]?=Z (.cells #[ay (w.heap.size+i),ay (w.heap.size+j)] 142):=by
  have:=cZ x;simp[gZ,this]
 have L6:=ane (L:=LL) (w:=gZ s M #[ay (w.heap.size+i),ay (w.heap.size+j)] 142) (a:=X) (l:=W) (td:=[.code .ret]) al5 (t:=Bt g l S D n N M (w.heap.size+i) (w.heap.size+j) (w.heap.size+k) V) (v:=.agg #[ay (w.heap.size+i),ay (w.heap.size+j)]) λτ d=>by
  have hb:=OP (b:=M) (aqn g l S D n N M (w.heap.size+i) (w.heap.size+j) (w.heap.size+k) V) ⟨F,F,trivial⟩ (re (gZ s M #[ay (w.heap.size+i),ay (w.heap.size+j)] 142) τ d) #[] E;rw[H7 (show(re (gZ s M #[ay (w.heap.size+i),ay (w.heap.size+j)] 142) τ d).heap[M]?=_ from E)]at hb;rw[<-xe _ _ _ #[],hb]
 have j5:=((((L1.trans L2).trans f).trans u).trans C).trans L6;rw[<-GK]at j5;exact⟨_,1,0,j5⟩
end
theorem BY(w:au){b a:Nat}(c:af ag)(t:aJ)(h:a≠b):(gZ w b c t).heap[a]?=w.heap[a]?:=by
 show(w.heap.setIfInBounds b _)[a]?=_;rw[ie (λe=>h e.symm)]
theorem eC.blk{w:au}{v:ag}{d:aj (aJ×Nat)}(h:eC w a v d){b:Nat}(c:af ag)(t:aJ)(f:a.block≠b):eC (gZ w b c t) a v d:=by
 have e:=BY w c t f;refine⟨?_,?_,?_⟩
 ·have:=h.cell;unfold fR at this⊢;rw[e];exact this
 ·have:=h.free;unfold pN at this⊢;rw[e];exact this
 ·have:=h.shape;unfold fD at this⊢;rw[e];exact this
theorem wK.blk{k:dp}{w:au}(h:wK k w){b:Nat}(c:af ag)(t:aJ)(a:k.wb≠b)(d:k.sb≠b)(e:k.S≠b):wK k (gZ w b c t):=⟨h.work.blk c t a,h.told.blk c t a,h.store.blk c t d,h.done.blk c t e⟩
structure Fence(St:Nat->Loc->Prop)(Shun:Loc->Prop)(ax:Nat->aj YS)(N0:Nat):Prop where
 S0:∀i y,ax i=Z y->∃k B0,y=wY k B0/\k.wb<N0/\k.sb<N0/\k.S<N0/\k.W<N0/\k.D<N0
 st:∀g l,St g l->∃a,l=.cell a/\a.block<N0
 mI:∀l,Shun l->∃a,l=.cell a/\a.block<N0
theorem Fence.chan{St:Nat->Loc->Prop}{Shun:Loc->Prop}{ax:Nat->aj YS}{N0:Nat}(F:Fence St Shun ax N0){i:Nat}{y:YS}{c:Nat}(f:ax i=Z y)(e:y.s.has c):c<N0:=by
 obtain⟨k,a,rfl,_,_,_,b,d⟩:=F.S0 i y f;rcases(zZ k a).1 e with rfl|rfl
 ·exact b
 ·exact d
theorem Fence.push{St:Nat->Loc->Prop}{Shun:Loc->Prop}{ax:Nat->aj YS}{N0:Nat}(F:Fence St Shun ax N0){i:Nat}{y:YS}(b:ax i=Z y)(w:au)(o:Obj)(a:y.K w):y.K (bM w o):=by
 obtain⟨k,c,rfl,_⟩:=F.S0 i y b;exact wK.push a o
theorem Fence.blk{St:Nat->Loc->Prop}{Shun:Loc->Prop}{ax:Nat->aj YS}{N0:Nat}(F:Fence St Shun ax N0){i:Nat}{y:YS}(d:ax i=Z y){b:Nat}(l:N0<=b)(c:af ag)(t:aJ)(w:au)(a:y.K w):y.K (gZ w b c t):=by
 obtain⟨k,e,rfl,f,g,j,_⟩:=F.S0 i y d;exact wK.blk a c t ai ai ai
theorem Fence.write{St:Nat->Loc->Prop}{Shun:Loc->Prop}{ax:Nat->aj YS}{N0:Nat}(F:Fence St Shun ax N0){b i:Nat}(d:N0<=b):(∀g,¬St g (.cell (be b i)))/\¬Shun (.cell (be b i)):=⟨λg h=>by obtain⟨a,e,c⟩:=F.st g _ h;cases e;simp only at c;omega,λh=>by obtain⟨a,e,c⟩:=F.mI _ h;cases e;simp only at c;omega⟩
section
variable {St At:Nat->Loc->Prop}{Shun:Loc->Prop}{ax:Nat->aj YS}{h B n N0:Nat}{T:dJ}{m:fg}{X:au}{z:iq}{S N M:Nat}{V R Q P:ag}{W:ae az}
theorem aab(F:Fence St Shun ax N0):∀(o:ae Nat)(s:(ag×ag×ag×ag)×au),4∉o->xA o (EA s.1.2.1) (EA s.1.2.2.1)=U->N0<=s.2.heap.size->dw ak St At Shun ax h B n s.2 m T 0 (·=sR z S N M s.1.1 s.1.2.1 s.1.2.2.1 s.1.2.2.2 (o++[4]) W)->∀f,f=o.foldl (qS c0 c0 (.cells gA 142) (ptr · 0)) s->dw ak St At Shun ax h B n f.2 m T 0 (·=sR z S N M f.1.1 f.1.2.1 f.1.2.2.1 f.1.2.2.2 [4] W)
 |[],s,_,_,_,H,f,b=>by subst b;exact H
 |i::o,s,k,a,l,H,f,b=>by
  have j:=λi y a w r p=>F.push (i:=i) (y:=y) a w r p;have kc:∀i y c,ax i=Z y->y.s.has c->c<s.2.heap.size:=λi y c a q=>ayS (F.chan a q) l;have g:∀(o:Obj),N0<=(bM s.2 o).heap.size:=λo=>by rw[size_push];omega
  have e:4∉o:=λh=>k (eK _ h);have d:=aab F o (qS c0 c0 (.cells gA 142) (ptr · 0) s i) e
  match i,a,b,d with
  |0,a,b,d=>exact d a (g _) (H.new (so0 ..) rfl j kc) f b
  |1,a,b,d=>exact d a (g _) (H.new (NT ..) rfl j kc) f b
  |2,a,b,d=>
   obtain⟨⟨V,R,Q,P⟩,w⟩:=s;simp only[xA,ig]at a;obtain⟨u,rfl⟩:=M9 a.1.1;obtain⟨v,rfl⟩:=M9 a.1.2;exact d a.2 l (H.quiet 1 (NU ..)) f b
  |3,a,b,d=>exact d a (g _) (H.new (NV ..) rfl j kc) f b
  |4,_,_,_=>exact absurd (fu ..) k
theorem aq4{o:ae Nat}{i j k:Nat}(b:Ord o i j k)(F:Fence St Shun ax N0)(p:N0<=X.heap.size)(t:X.heap.size+3<=B)(H:dw ak St At Shun ax h B n X m T 0 (·=sR z S N M V R Q P o W)):dw ak St At Shun ax h B n (gZ (jO X (arr i j c0 c0 (.cells gA 142))) (X.heap.size+k) #[ay (X.heap.size+i),ay (X.heap.size+j)] 142) m T 0 (·=sR z S N M (ptr (X.heap.size+k) 0) (ay (X.heap.size+i)) (ay (X.heap.size+j)) (.agg #[ay (X.heap.size+i),ay (X.heap.size+j)]) [] W):=by
 have q:=(FV b.perm X c0 c0 (.cells gA 142)).2.2.1;have u:=b.perm;have s:∀e∈dc [iR.ev ⟨.cell (be (X.heap.size+k) 0),U,Y⟩,.ev ⟨.cell (be (X.heap.size+k) 1),U,Y⟩],∃a,e.loc=.cell a/\e.sync=Y/\(e.write=U->∀g,¬St g (.cell a))/\¬Shun (.cell a):=λe d=>by
  simp only[dc,bQ,gk,or_false]at d;rcases d with rfl|rfl
  ·exact⟨_,rfl,rfl,λ_=>(F.write ai).1,(F.write ai).2⟩
  ·exact⟨_,rfl,rfl,λ_=>(F.write ai).1,(F.write ai).2⟩
 have e:o=o.dropLast++[4]:=by cases b<;>rfl
 rw[e]at H;have f:=aab F o.dropLast ((V,R,Q,P),X) (by cases b<;>simp) (by cases b<;>rfl) p H _ (Eq.trans (b.fold c0 c0 (.cells gA 142) (ptr · 0) _ X).symm (by cases b<;>rfl));exact f.blk (avB ..) ⟨rfl,rfl,trivial⟩ q (λi y c w l=>F.blk c ai _ _ w l) (λi y x c r=>by have:=F.chan c r;omega) s ai
end
section
variable {P:aA}{R At:Nat->Loc->Prop}{X:Loc->Prop}{O:Nat->aj YS}{h d B n:Nat}{T:dJ}{m:fg}{L:au}{g:aH}{Q:aH->Prop}
theorem dw.awe(H:dw P R At X O h B n L m T d (·=g))(o:g.status=.running)(l:∀w,AtRel L w->∃c a,aG P (h==0) g w=.go c (w.at a) #[]/\Q c):dw P R At X O h B n L m T d Q:=by
 refine H.split λx e J w j G q p u C D=>?_;subst e;have:=C.told (sl:=j) u o (Q:=λr k E=>r=d/\Q k/\AtRel w E) λa=>by
  obtain⟨c,f,s,t⟩:=l _ (atRel_trans _ _ _ D ⟨a,F⟩);exact⟨c,(w.at a).at f,#[],s,⟨λ_ _ _ _ _=>rfl,λi y e A=>(C.yd.wf i y e).2.2.1 _ _ A,λe v=>by simp at v⟩,F,t,⟨f,F⟩⟩
 rw[p]at this;exact this
end
theorem Core.V3{c}{R At}{X}{O}{E}{D}{B n}{w W}(C:Core c R At X O E D I B n w W):Fence R X O W.heap.size:=by
 have G:=C.rel.size;refine⟨λi y x=>?_,λg l f=>?_,λl f=>?_⟩
 ·obtain⟨k,A,s,p,K,_,_,r,rfl⟩:=C.Bn x
  have l:=C.fo.k k A;obtain⟨s',t,H,J⟩:=l.pF;have q:=C.fo.s _ t;obtain⟨_,_,u⟩:=q.lone;obtain⟨_,_,v⟩:=l.work;have j:=cZ u;have h2:=cZ v;have o:=vt q.sh.2;exact⟨k,r,F,cZ l.ra,cZ l.tC,by omega,by omega,by omega⟩
 ·obtain⟨j,a,rfl,_⟩:=C.qW g l f
  exact⟨a,F,by have:=(C.rel.mT a j).1;omega⟩
 ·obtain⟨s,p,e⟩:=(C.mI l).1 f
  have o:=vt (C.fo.s s p).sh.2;rcases e with rfl|rfl<;>exact⟨_,rfl,o⟩
section
variable (z:iq)(S N M W T b:Nat)(V:ae az)
theorem ar9:oe ak N (aN ak 1 (G (NF z S) V))=Z (s1 z S N V,.cells #[ptr S 0] 39):=av
theorem ar7:oe ak M (s1 z S N V)=Z (s2 z S N M V,.cells gA 142):=av
theorem ayA(o):(⟨⟨55,sT z [ptr S 0,ptr N 0,ptr M 0] 2,.inRegion vi o::Rc,[],.run,.normal,I⟩,V,.running,I,I⟩)=sR z S N M (z.t 2) (z.t 3) (z.t 4) (z.t 5) o V:=av
theorem ase:vU ak 39 #[ptr S 0] (sR z S N M (ptr b 0) (ay W) (ay T) (.agg #[ay W,ay T]) [] V)=Z (s3 z S N M W T b V,#[ptr S 0],[.ev ⟨.cell (be N 0),Y,Y⟩]):=av
end
def qj(W:au)(S i j k:Nat):au:=gZ (jO (bM (bM W (.cells #[ptr S 0] 39)) (.cells gA 142)) (arr i j c0 c0 (.cells gA 142))) (W.heap.size+2+k) #[ay (W.heap.size+2+i),ay (W.heap.size+2+j)] 142
theorem avU{s}(b:Base s)(hj:s.dG=I){S}{z}(K:s.fr=NF z S){a}{l}(e4:s.cs=a::l){u}(pV:s.B<=u)(rJ:s.W.heap.size+5<=u):∃i j k o,Ord (sL U vi ((Question.order 55 1).cut (s.W.tape o (.order 55 1)))) i j k/\∃m T,(∃N,iz ak N s.m s.T=(.next m,T))/\dw ak s.St s.At s.Shun s.ax s.h u s.gs.size (qj s.W S i j k) m T 0 (·=G (bG ak 93 #[ptr S 11,ah 1] .normal) (CQ z S s.W.heap.size (s.W.heap.size+1) (s.W.heap.size+2+i) (s.W.heap.size+2+j) (s.W.heap.size+2+k)::a::l)):=by
 have C:=b.core;rw[hj]at C;have F:=C.V3;obtain⟨β,hm,Q1,iu,C0,_⟩:=b.first (by rw[K,e4];exact JR _ _ _ _ _ (.inl rfl) _ (.inr (.inr (.inr rfl))));have C1:=C0.mono pV;rw[K,e4]at iu;generalize q:s.W.heap.size=N at*;have J:=dw.begin (sl:=s.sl) C1.BB iu;rw[Q1]at J;have H1:=J.new (ar9 z S N _) q (λi y f w ob p=>F.push f w _ p) λi y c f A=>F.chan f A;have H2:=H1.new (ar7 z S N _ _) (by rw[size_push,q]) (λi y f w ob p=>F.push f w _ p) λi y c f A=>by have:=F.chan f A;omega
 have H3:=H2.quiet _ (asb z S N _ _);have H4:=H3.awe (Q:=λg=>∃o,g=sR z S N (N+1) (z.t 2) (z.t 3) (z.t 4) (z.t 5) (sL U vi ((Question.order 55 1).cut (s.W.tape o (.order 55 1)))) (a::l)) rfl λw⟨dd,hw⟩=>by
  refine⟨_,_,F8 av w,w.drawn,?_⟩;subst hw;rfl
 obtain⟨n1,mr,t,jP,T1,q1,d1,a1,r1,r2,r3,r4,e,⟨o,e5⟩,⟨d2,v⟩⟩:=H4;subst e e5;obtain⟨i,j,k,D⟩:=aoW _;refine⟨i,j,k,o,D,_,_,⟨1+n1,kG hm r1⟩,?_⟩;have D0:=dw.begin (sl:=jP) r4 r3;rw[r2]at D0;have jN:t.heap.size=N+2:=by
  have:t.heap=(bM (bM s.W (.cells #[ptr S 0] 39)) (.cells gA 142)).heap:=by rw[v];rfl
  rw[this,size_push,size_push,q]
 have E:=aq4 D F ai ai D0;rw[jN]at E;have hp:=D.perm;have r:(gZ (jO t (arr i j c0 c0 (.cells gA 142))) (N+2+k) #[ay (N+2+i),ay (N+2+j)] 142).heap[N]?=Z (.cells #[ptr S 0] 39):=by
  rw[BY _ _ _ ai,(FV hp _ _ _ _).2.2.2 N ai];have:t.heap=(bM (bM s.W (.cells #[ptr S 0] 39)) (.cells gA 142)).heap:=by rw[v];rfl
  rw[this,lJ,size_push,if_neg ai,lJ,if_pos q.symm]
 have H:=E.blk (b:=N) (ase z S N _ _ _ _ _) ⟨rfl,trivial⟩ r (λi' y f w p=>F.blk f (df _) _ _ w p) (λi' y x f hx=>by have:=F.chan f hx;omega) (λe he=>by
  simp only[dc,bQ,gk,or_false]at he;subst he;exact⟨_,rfl,rfl,(λh=>by cases h),(F.write (df _)).2⟩) ai
 rw[H7 r]at H;have D3:=H.quiet 3 (asa z S N _ _ _ _ _);obtain⟨n2,iZ,w2,jx,T2,q2,d3,a2,k1,k2,k3,k4,k5,k6,k7⟩:=D3;refine⟨n2,iZ,w2,jx,T2,q2,d3,a2,k1,k2,k3,k4,k5,k6,?_⟩;subst v;subst q;obtain⟨d5,rfl⟩:=k7;exact⟨d5,rfl⟩
theorem eC.of_heap{w w'}{a}{v}{c}(h:eC w a v c)(e:w'.heap[a.block]?=w.heap[a.block]?):eC w' a v c:=by
 refine⟨?_,?_,?_⟩
 ·have:=h.cell;unfold fR at this⊢;rw[e];exact this
 ·have:=h.free;unfold pN at this⊢;rw[e];exact this
 ·have:=h.shape;unfold fD at this⊢;rw[e];exact this
structure acA(W W0:au)(S i j k:Nat):Prop where
 size:W0.heap.size=W.heap.size+5
 old:∀x,x<W.heap.size->W0.heap[x]?=W.heap[x]?
 sb:W0.heap[W.heap.size]?=Z (.cells #[ptr S 0] 39)
 m:W0.heap[W.heap.size+1]?=Z (.cells gA 142)
 cw:W0.heap[W.heap.size+2+i]?=Z c0
 ct:W0.heap[W.heap.size+2+j]?=Z c0
 wb:W0.heap[W.heap.size+2+k]?=Z (.cells #[ay (W.heap.size+2+i),ay (W.heap.size+2+j)] 142)
theorem Ll{i j k}(h:i<3/\j<3/\k<3/\i≠j/\i≠k/\j≠k)(W)(S):acA W (qj W S i j k) S i j k:=by
 have g:(bM (bM W (.cells #[ptr S 0] 39)) (.cells gA 142)).heap.size=W.heap.size+2:=by rw[size_push,size_push]
 obtain⟨d,e,f,c⟩:=FV h ..;rw[g]at d e f c;unfold qj;refine⟨?_,λx o=>?_,?_,?_,?_,?_,?_⟩
 ·simp[gZ,ZN,size_push]
 ·rw[BY _ _ _ ai,c x ai,l7 _ _ (by rw[size_push];omega),l7 _ _ o]
 ·rw[BY _ _ _ ai,c _ ai,l7 _ _ (by rw[size_push];omega),lJ,if_pos F]
 ·rw[BY _ _ _ ai,c _ ai,lJ,size_push,if_pos F]
 ·rw[BY _ _ _ ai];exact d
 ·rw[BY _ _ _ ai];exact e
 ·have:=cZ f
  show((jO .. ).heap.setIfInBounds .. )[_]?=_;rw[kC this]
theorem Core.Py{q}{R At}{X}{Q}{E}{r}{B n}{w W}(C:Core q R At X Q E r I B n w W)(s:∀g l,R g l->¬X l){c}(t:c∈r):Gate R Q (λx=>x=⟨c.S,11,I⟩\/x=⟨c.S,12,I⟩):=by
 have u:∀b,(b=⟨c.S,11,I⟩\/b=⟨c.S,12,I⟩)->X (.cell b):=λb d=>(C.mI _).2 ⟨c,t,d.imp (λe=>by rw[e]) λe=>by rw[e]⟩;refine⟨λb d g A=>s g _ A (u b d),λb d i y D w v p=>?_⟩;obtain⟨k,_,_,_,_,_,_,G,rfl⟩:=C.Bn D;have f:∀x o,(o=0\/o=1\/o=10)->b≠be x o:=λx o H e=>by
  grind
 have j:b.spot=I:=by rcases d with rfl|rfl<;>rfl
 exact(⟨sB p.work (f _ _ (.inl rfl)) j,sB p.told (f _ _ (.inr (.inl rfl))) j,sB p.store (f _ _ (.inl rfl)) j,sB p.done (f _ _ (.inr (.inr rfl))) j⟩)
section
variable {R At:Nat->Loc->Prop}{X:Loc->Prop}{Q:Nat->aj YS}{h B n:Nat}{T:dJ}{m:fg}{W0:au}{z:iq}{S N M W P b V:Nat}{a:az}{l:ae az}
theorem avS(i:Gate R Q (λx=>x=⟨S,11,I⟩\/x=⟨S,12,I⟩))(g:S<B)(aE:V<9)(c:eC W0 (be S 11) (jI V) (Z (109,14)))
  (H:dw ak R At X Q h B n W0 m T 0 (·=G (bG ak 93 #[ptr S 11,ah 1] .normal) (CQ z S N M W P b::a::l))):
  dw ak R At X Q h B n (W0.setCell (be S 11) (jI (V+1))) m T 0 (·=s5 z S N M W P b (a::l) [1]):=by
 have d:ji ak R At X Q h B n ⟨S,11,I⟩ W0 m T 0 (jI V) (G (bG ak 93 #[ptr S 11,ah 1] .normal) (CQ z S N M W P b::a::l)):=by
  show dw ak R At X Q h B n (W0.setCell (be S 11) (jI V)) m T 0 (·=_);rw[wR c.cell];exact H
 have e:=adm aE i (.inl F) (.inr F) g c d;have f:=e;exact f.quiet _ (asd z S N M W _ b _)
end
theorem agC:Tryz.prog.funcs[55]?=Z Tryz.f55:=av
section
variable (z:iq)(S N M W T b:Nat)(X:ae az)
theorem asc:vU ak 142 #[ay W,ay T] (s5 z S N M W T b X [])=Z (s6 z S N M W T b X,#[ay W,ay T],[.ev ⟨.cell (be b 0),Y,Y⟩,.ev ⟨.cell (be b 1),Y,Y⟩]):=av
theorem asf:vU ak 142 gA (s6 z S N M W T b X)=Z (s7 z S N M W T b X,#[ay W,ay T],[.ev ⟨.cell (be M 0),U,Y⟩,.ev ⟨.cell (be M 1),U,Y⟩]):=av
theorem asg:pS ak 142 (results Tryz.f55 (NC z S N M W T b (.tuple #[]) (Pu N b) (.agg #[ay W,ay T]))) #[ay W,ay T]=Z (.agg #[ay W,ay T],#[ay W,ay T],[.ev ⟨.cell (be M 0),Y,Y⟩,.ev ⟨.cell (be M 1),Y,Y⟩]):=av
theorem ar8{c}{a}{l}{w}(e:w.heap[M]?=Z (.cells #[ay W,ay T] 142)):aG ak c (s8 z S N M W T b (a::l)) w=.go (G (a.finish (.agg #[ay W,ay T])) l) w (seen ak 55 #[⟨.cell (be M 0),Y,Y⟩,⟨.cell (be M 1),Y,Y⟩]):=by
 have d:=OP (asg z S N M W T b) ⟨F,F,trivial⟩ w #[] e;rw[H7 e]at d;simp only[dc]at d;simp only[G,s8,aG,lU,agC,d,rh];simp[kF]
end
theorem Qh{w:au}{v x:ag}(h:w.cell? a=Z x){b:Nat}(g:b≠a.block):(w.setCell a v).heap[b]?=w.heap[b]?:=by
 obtain⟨c,t,f,d,e,_⟩:=kK h;rw[heap_setCell d e,if_neg g]
theorem acU{k:dp}{w:au}(h:wK k w)(d:k.sb≠k.wb)(e:k.S≠k.wb):wK k (gZ w k.wb #[ay k.W,ay k.T] 142):=by
 obtain⟨c,t,f,b,_⟩:=kK h.work.cell;have g:=cZ b;have a:(gZ w k.wb #[ay k.W,ay k.T] 142).heap[k.wb]?=Z (.cells #[ay k.W,ay k.T] 142):=by
  show(w.heap.setIfInBounds _ _)[_]?=_;rw[kC g]
 exact⟨vW a (by unfold fR;rw[a];rfl),vW a (by unfold fR;rw[a];rfl),h.store.blk _ _ d,h.done.blk _ _ e⟩
theorem avV(b:Base s)(h0:s.h=0)(hj:s.dG=I){f:cz}(cY:f∈s.ss)(aF:f.st=Y)(aE:f.n<9){z:iq}{a:az}{l:ae az}{i j k:Nat}(hp:i<3/\j<3/\k<3/\i≠j/\i≠k/\j≠k){m:fg}{r:Nat}(pV:s.B<=r)(rJ:s.W.heap.size+5<=r)
  (H:dw ak s.St s.At s.Shun s.ax s.h r s.gs.size (qj s.W f.S i j k) m T 0 (·=G (bG ak 93 #[ptr f.S 11,ah 1] .normal) (CQ z f.S s.W.heap.size (s.W.heap.size+1) (s.W.heap.size+2+i) (s.W.heap.size+2+j) (s.W.heap.size+2+k)::a::l))):
  ∃n gs W' sl T' q,iz ak n m T=(.next (crowd gs W' sl),T')/\gs.size=s.gs.size+1/\gs[0]?=Z (G (a.finish (.agg #[ay (s.W.heap.size+2+i),ay (s.W.heap.size+2+j)])) l)/\
   fe ak (tA s.St s.gs.size (tH ⟨s.gs.size,f.S,s.W.heap.size+2+i,s.W.heap.size+2+j,f.D,s.W.heap.size+2+k,s.W.heap.size⟩)) (tA s.At s.gs.size (Oe ⟨s.gs.size,f.S,s.W.heap.size+2+i,s.W.heap.size+2+j,f.D,s.W.heap.size+2+k,s.W.heap.size⟩)) s.Shun (nP s.ax s.gs.size (Z (wY ⟨s.gs.size,f.S,s.W.heap.size+2+i,s.W.heap.size+2+j,f.D,s.W.heap.size+2+k,s.W.heap.size⟩ r))) 0 r T' gs W' q/\
   AtRel (gZ ((qj s.W f.S i j k).setCell (be f.S 11) (jI (f.n+1))) (s.W.heap.size+1) #[ay (s.W.heap.size+2+i),ay (s.W.heap.size+2+j)] 142) W':=by
 have C:=b.core;rw[hj]at C;have L:=C.fo;have F:=C.V3;have M:=L.s f cY;have D:=Ll hp s.W f.S;have Ch:=vt M.sh.2;obtain⟨i3,j3,k3,pf,κ,Gu⟩:=hp;have tT:eC s.W (be f.S 11) (jI f.n) (Z (109,14)):=by
  have:=M.cnt;rw[aF]at this;exact M.at C.rel this
 have R:eC (qj s.W f.S i j k) (be f.S 11) (jI f.n) (Z (109,14)):=tT.of_heap (D.old _ Ch);have H1:=avS (C.Py b.hold.past.apart cY) ai aE R H;generalize WT:qj s.W f.S i j k=S at*;generalize hN:s.W.heap.size=N at*;have Q:∀x,x≠f.S->(S.setCell (be f.S 11) (jI (f.n+1))).heap[x]?=S.heap[x]?:=λx hx=>Qh R.cell hx;generalize ε:S.setCell (be f.S 11) (jI (f.n+1))=Wc at*;have γ:=D.size;have O':=D.old;have VZ:=D.sb;have em:=D.m;have VL:=D.cw;have β:=D.ct;have Pd:=D.wb;rw[hN]at γ O' VZ em VL β Pd;obtain⟨n1,mr,A,jP,T1,q1,d1,a1,r1,r2,r3,r4,e,e5,⟨d2,cH⟩⟩:=H1;subst e e5;rw[h0]at r3 r4;have P:A.heap=Wc.heap:=by rw[cH];rfl
 have C1:=r4.wX;generalize u:(⟨s.gs.size,f.S,N+2+i,N+2+j,f.D,N+2+k,N⟩:dp)=o;obtain⟨dj,X⟩:=M.real;rw[aF]at X;have xF:f.D<N:=by rw[<-hN];exact cZ X
 have Cb:f.D≠f.S:=λe=>by
  obtain⟨d,_,J⟩:=M.cells C.rel;rw[<-e,X]at J;cases J
 have D4:A.heap[f.D]?=Z (.chan 0 #[] Y dj dj Y):=by
  rw[P,Q _ Cb,O' _ xF];exact X
 have O:wK o A:=by
  subst u;have hb:A.heap[N+2+k]?=Z (.cells #[ay (N+2+i),ay (N+2+j)] 142):=by rw[P,Q _ ai];exact Pd
  have hs:A.heap[N]?=Z (.cells #[ptr f.S 0] 39):=by rw[P,Q _ ai];exact VZ
  have ζ:eC S (be f.S 10) (ay f.D) (Z (109,14)):=(M.at C.rel M.done).of_heap (O' _ Ch);refine⟨vW hb (by unfold fR;rw[hb];rfl),vW hb (by unfold fR;rw[hb];rfl),vW hs (by unfold fR;rw[hs];rfl),?_⟩;have J:eC (S.setCell (be f.S 11) (jI (f.n+1))) (be f.S 10) (ay f.D) (Z (109,14)):=sB ζ aZ rfl;rw[ε]at J;exact J.of_heap (by rw[P])
 have Gl:o.W≠o.D:=by subst u;simp only;omega
 have j6:Of o r:=by subst u;exact⟨by simp only;omega,by simp only;omega,by simp only;omega,by simp only;omega,by simp only;omega,by simp only;omega⟩
 have NS:FM s.Shun s.ax mr.size r A (wY o r):=by
  refine⟨acj o r Gl,λc R=>?_,λB y' fW W=>?_,⟨λc R=>?_,df _⟩,O,λl hl=>?_⟩
  ·rcases(zZ o r).1 R with rfl|rfl
   ·subst u
    exact⟨0,by rw[P,Q _ (by simp only;omega)];exact VL⟩
   ·subst u
    exact⟨dj,D4⟩
  ·obtain⟨k',bX,_,_,_,_,_,B0,rfl⟩:=C.Bn W
   have l':=L.k k' bX;obtain⟨p,q,h1⟩:=l'.work;have hw:=cZ h1;obtain⟨sa,sb,LQ⟩:=M.lone;have bH:=C.rel.size;have dI:=λV=>F.chan (c:=o.W) W V;refine⟨λV=>?_,λV=>?_⟩
   ·have J:=dI V
    subst u;simp only at J;omega
   ·rcases(zZ o r).1 V with e|e
    ·have e:k'.W=o.W:=e
     subst u;simp only at e;omega
    ·have e:k'.W=o.D:=e
     subst u;exact L.rv h1 LQ ai e
  ·rcases(zZ o r).1 R with rfl|rfl
   ·exact j6.W
   ·exact j6.D
  ·rcases hl with rfl|rfl|rfl|rfl
   ·exact⟨rfl,C.qc ai ai⟩
   ·exact⟨rfl,C.qc ai ai⟩
   ·exact⟨rfl,C.qc ai ai⟩
   ·exact⟨rfl,C.qc ai ai⟩
 obtain⟨nh,rU⟩:=atb o j6;obtain⟨n2,T2,iZ,d3,jx,q2,u1,u2,u3,C2⟩:=C1.hire (sl:=jP) (Ac:=Oe o) r3 rfl (λd=>by subst u;exact asi z f.S N (N+1) (N+2+i) (N+2+j) (N+2+k) (a::l) s.gs.size f.D _ _) aZ NS (gG.1 r3).1 rU;rw[r2]at C2 u2;have ι:o.W=N+2+i:=by subst u;rfl
 have θ:o.T=N+2+j:=by subst u;rfl
 have wj:o.wb=N+2+k:=by subst u;rfl
 have Co:o.sb=N:=by subst u;rfl
 have ν:o.S=f.S:=by subst u;rfl
 have μ:o.D=f.D:=by subst u;rfl
 have P':∀{B:Nat}{y:YS},nP s.ax s.gs.size (Z (wY o r)) B=Z y->(y=wY o r)\/s.ax B=Z y:=λ{B y}t=>by
  by_cases e:B=s.gs.size
  ·rw[e,qk]at t;exact .inl (dQ t).symm
  ·rw[j9 e]at t;exact .inr t
 have bY:∀(bb:Nat),N<=bb->bb≠N+2+i->∀B y x,nP s.ax s.gs.size (Z (wY o r)) B=Z y->y.s.has x->x≠bb:=λbb h1 J B y x t hx=>by
  rcases P' t with rfl|t
  ·rcases(zZ o r).1 hx with rfl|rfl
   ·omega
   ·omega
  ·have:=F.chan t hx;omega
 have X1:(A.at d3).heap[N+2+k]?=Z (.cells #[ay (N+2+i),ay (N+2+j)] 142):=by
  show A.heap[_]?=_;rw[P,Q _ ai];exact Pd
 have LW:(A.at d3).heap[N+1]?=Z (.cells gA 142):=by
  show A.heap[_]?=_;rw[P,Q _ ai];exact em
 have E0:=dw.begin (sl:=jx) C2.BB u3;rw[u2]at E0;have E1:=E0.blk (b:=N+2+k) (asc z f.S N (N+1) (N+2+i) (N+2+j) (N+2+k) (a::l)) ⟨rfl,rfl,trivial⟩ X1 (λB y t w O=>by
  rcases P' t with rfl|t
  ·have:=acU (k:=o) (w:=w) O ai ai
   rw[ι,θ,wj]at this;exact this
  ·exact F.blk t ai _ _ w O) (bY _ ai ai) (λe v=>by
  simp only[dc,bQ,gk,or_false]at v;rcases v with rfl|rfl
  ·exact⟨_,rfl,rfl,(λh=>by cases h),C.qc ai ai⟩
  ·exact⟨_,rfl,rfl,(λh=>by cases h),C.qc ai ai⟩) ai
 rw[H7 X1]at E1;have XV:∀E g,¬tA s.St s.gs.size (wY o r).St g (.cell (be (N+1) E)):=λE g K=>by
  unfold tA at K;split at K
  ·have K:tH o (.cell (be (N+1) E)):=K
   rcases K with e|e|e|e
   ·simp only[Loc.cell.injEq,Addr.mk.injEq]at e;omega
   ·simp only[Loc.cell.injEq,Addr.mk.injEq]at e;omega
   ·simp only[Loc.cell.injEq,Addr.mk.injEq]at e;omega
   ·simp only[Loc.cell.injEq,Addr.mk.injEq]at e;omega
  ·exact(F.write (i:=E) ai).1 g K
 have E2:=E1.blk (b:=N+1) (asf z f.S N (N+1) (N+2+i) (N+2+j) (N+2+k) (a::l)) ⟨rfl,rfl,trivial⟩ LW (λB y t w O=>by
  rcases P' t with rfl|t
  ·exact wK.blk (k:=o) O _ _ ai ai ai
  ·exact F.blk t ai _ _ w O) (bY _ ai ai) (λe v=>by
  simp only[dc,bQ,gk,or_false]at v;rcases v with rfl|rfl
  ·exact⟨_,rfl,rfl,λ_=>XV 0,C.qc ai ai⟩
  ·exact⟨_,rfl,rfl,λ_=>XV 1,C.qc ai ai⟩) ai
 have E3:=E2.quiet 2 (ash z f.S N (N+1) (N+2+i) (N+2+j) (N+2+k) (a::l));have PW:(gZ (A.at d3) (N+1) #[ay (N+2+i),ay (N+2+j)] 142).heap[N+1]?=Z (.cells #[ay (N+2+i),ay (N+2+j)] 142):=by
  have:=cZ LW;show((A.at d3).heap.setIfInBounds _ _)[_]?=_;rw[kC this]
 have XQ:∀e∈seen ak 55 #[⟨.cell (be (N+1) 0),Y,Y⟩,⟨.cell (be (N+1) 1),Y,Y⟩],∃E,(E=0\/E=1)/\e=⟨.cell (be (N+1) E),Y,Y⟩:=λe v=>by
  have v:=mem_seen v;simp only[jA,bQ,gk,or_false]at v;rcases v with rfl|rfl
  ·exact⟨0,.inl rfl,rfl⟩
  ·exact⟨1,.inr rfl,rfl⟩
 have E4:=E3.act (g':=G (a.finish (.agg #[ay (N+2+i),ay (N+2+j)])) l) (d':=0) rfl (λw hw=>by
  have δ:w.heap[N+1]?=Z (.cells #[ay (N+2+i),ay (N+2+j)] 142):=by rw[FW hw];exact PW
  refine⟨w,ar8 z f.S N (N+1) (N+2+i) (N+2+j) (N+2+k) δ,hw,λ_ _ _ _ _=>rfl,λ_ _ _ h=>h,λe v=>?_⟩;obtain⟨E,η,rfl⟩:=XQ e v;refine⟨λy W=>?_,show N+1<r by omega⟩;simp only[gy,lS,ij]at W;subst W;exact⟨λ_ _=>rfl,λK=>absurd K (C.qc ai ai)⟩) (deafBehind_still (λe v=>by
  obtain⟨E,η,rfl⟩:=XQ e v;exact⟨by simp,by simp⟩) _)
 obtain⟨n3,Gh,w3,Fg,T3,q3,d4,a3,v1,v2,v3,v4,v5,v6,⟨d5,v7⟩⟩:=E4;subst v5 v6;refine⟨n1+n2+n3,Gh,w3,Fg,T3,q3,kG (kG r1 u1) v1,v2,v3,v4.wX,d5,?_⟩;rw[v7,cH];rfl
section
variable {fx:Obj->Prop}{X V:Loc->Prop}{w W:au}
theorem Fc(w)(b)(c)(t):(gZ w b c t).heap.size=w.heap.size:=by simp[gZ]
theorem tU(w){b}(h:b<w.heap.size)(c)(t)(x):(gZ w b c t).heap[x]?=if x=b then Z (.cells c t)else w.heap[x]?:=by
 by_cases e:x=b
 ·subst e
  rw[if_pos F];show(w.heap.setIfInBounds .. )[_]?=_;rw[kC h]
 ·rw[if_neg e,BY _ _ _ e]
theorem Rel.aq3(h:Rel fx X w W){b d s r}{a}{i tm}(g:w.heap[b]?=Z (.chan d a i s r tm)){c}(j:c.size≠0)(t):Rel fx X w (gZ W b c t):=by
 have k:b<W.heap.size:=by rw[<-h.size];exact cZ g
 refine⟨by rw[Fc];exact h.size,h.tape,h.drawn,h.os,h.output,λx o f=>?_,h.mT,h.pd⟩;rw[tU _ k];by_cases e:x=b
 ·subst e
  rw[g]at f;cases f;exact⟨_,if_pos F,.kR _ _ _ _ _ _ _ ⟨j,F⟩⟩
 ·rw[if_neg e]
  exact h.obj x o f
theorem Rel.Nt(h:Rel fx X w W){a}{x}(g:w.cell? a=I)(u:W.cell? a=Z x)(v):Rel fx X w (W.setCell a v):=by
 obtain⟨C,t,f,l,k,y,d⟩:=kK u;have n:=heap_setCell l k v;refine⟨by rw[size_setCell];exact h.size,h.tape,h.drawn,h.os,h.output,λb o j=>?_,h.mT,h.pd⟩;obtain⟨O,m,r⟩:=h.obj b o j;rw[n];by_cases e:b=a.block
 ·subst e
  rw[if_pos F];rw[l]at m;cases m;refine⟨_,F,?_⟩;cases r with
  |same _ z=>
   rw[DC j,k]at g;rw[d]at g;cases g
  |cut c _ _ q s aE=>
   rw[DC j,k]at g;have A:c.size<=a.off:=by simpa using g
   refine .cut _ _ _ q (λi p=>?_) (by simpa using aE);rw[ie ai];exact s i p
  |kR _ _ _ _ _ _ _ d=>exact .kR _ _ _ _ _ _ _ ⟨by simpa using d.1,d.2⟩
  |view _ _ d=>exact d.elim
 ·simp_all
theorem Rel.aef(h:Rel (bN ak) X w W){b}{c c'}{t}(k:w.heap[b]?=Z (.cells c t))(l:W.heap[b]?=Z (.cells c t))(q:c'.size=c.size):Rel (bN ak) X (gZ w b c' t) (gZ W b c' t):=by
 have i:=cZ k;have p:=cZ l;refine⟨by rw[Fc,Fc];exact h.size,h.tape,h.drawn,h.os,h.output,λx o d=>?_,λa m=>?_,λr n=>?_⟩
 ·rw[tU _ i]at d
  rw[tU _ p];by_cases e:x=b
  ·rw[if_pos e]at d⊢
   cases d;exact⟨_,F,.same _ trivial⟩
  ·rw[if_neg e]at d⊢
   exact h.obj x o d
 ·obtain⟨j,f⟩:=h.mT a m
  refine⟨by rw[Fc];exact j,?_⟩;unfold fR at f⊢;rw[tU _ i];by_cases e:a.block=b
  ·simp_all
  ·simp_all
 ·obtain⟨j,f⟩:=h.pd r n
  refine⟨by rw[Fc];exact j,λo g=>?_⟩;rw[tU _ i]at g;split at g
  ·rename_i e
   have:=f _ (by rw[e];exact k);cases this
  ·exact f o g
theorem Rel.jO(h:Rel fx X w W){u UU}(e:∀m,∃c a f s r tm,u m=.chan c a f s r tm)(d:∀m b,OF X b (UU m)):Rel fx X (jO w u) (jO W UU):=by
 obtain⟨_,_,_,_,_,_,g⟩:=e 0;obtain⟨_,_,_,_,_,_,i⟩:=e 1;obtain⟨_,_,_,_,_,_,j⟩:=e 2;unfold YtgahemdblfapeaaGreatDoor.jO;rw[g,i,j];exact((h.Ha (d 0 _) (λ_ h=>h) λ_ h=>.inl h).Ha (d 1 _) (λ_ h=>h) λ_ h=>.inl h).Ha (d 2 _) (λ_ h=>h) λ_ h=>.inl h
theorem Rel.eT(h:Rel fx X w W)(n:∀l,X l->V l)(d:∀l,V l->X l\/∃a,l=.cell a/\a.block<w.heap.size/\w.cell? a=I):Rel fx V w W:=by
 refine⟨h.size,h.tape,h.drawn,h.os,h.output,λb o k=>?_,λa j=>?_,λr m=>?_⟩
 ·obtain⟨O,f,g⟩:=h.obj b o k
  exact⟨O,f,g.bU λc=>(d _ c).resolve_right λ⟨a,e,_⟩=>by cases e⟩
 ·rcases d _ j with c|⟨i,e,f,g⟩
  ·exact h.mT a c
  ·simp_all
 ·rcases d _ m with c|⟨i,e,_⟩
  ·exact h.pd r c
  ·cases e
end
def cz.more(s:cz):cz:={s with n:=s.n+1}
def mW(S:Nat)(s:cz):cz:=if s.S=S then s.more else s
theorem wD(S:Nat)(s:cz):(mW S s).S=s.S:=by unfold mW;split<;>rfl
theorem GX(S:Nat)(s:cz):(mW S s).D=s.D:=by unfold mW;split<;>rfl
theorem JD(S:Nat)(s:cz):(mW S s).st=s.st:=by unfold mW;split<;>rfl
structure Started(w W w' W':au)(so:cz)(kk:dp):Prop where
 hand:∃a b,w'.heap[dx]?=Z (.chan 6 #[.chan I] Y a b Y)
 tok:∃a b,w'.heap[so.D]?=Z (.chan 2 #[cV so.more] Y a b Y)
 chan:∀(b cap:Nat)(buf:af ag)(cl:Bool)(s r:Nat)(tm:Bool),b≠dx->b≠so.D->w.heap[b]?=Z (.chan cap buf cl s r tm)->∃s' r',w'.heap[b]?=Z (.chan cap buf cl s' r' tm)
 back:∀(b cap:Nat)(buf:af ag)(cl:Bool)(s r:Nat)(tm:Bool),b≠dx->b≠so.D->w'.heap[b]?=Z (.chan cap buf cl s r tm)->(∃s' r',w.heap[b]?=Z (.chan cap buf cl s' r' tm))\/(cl=Y/\tm=Y/\((b=kk.W/\cap=1)\/(b=kk.T/\cap=3)\/(cap=4/\buf=#[])))
 work:∃a b,w'.heap[kk.W]?=Z (.chan 1 #[qY kk] Y a b Y)
 told:∃a b,w'.heap[kk.T]?=Z (.chan 3 #[] Y a b Y)
 wb:∃a b,w'.heap[kk.wb]?=Z (.chan 4 #[] Y a b Y)
 sb:∃a b,w'.heap[kk.sb]?=Z (.chan 4 #[] Y a b Y)
 cells:∀(b:Nat)c t f,w.heap[b]?=Z (.cells c t f)->w'.heap[b]?=Z (.cells c t f)
 yD:∃j,W'.heap[kk.T]?=Z (.chan 0 #[] Y j j Y)
 ra:W'.heap[kk.wb]?=Z (.cells #[ay kk.W,ay kk.T] 142)
 tC:W'.heap[kk.sb]?=Z (.cells #[ptr so.S 0] 39)
 B2:∀(b:Nat)cl j,W.heap[b]?=Z (.chan 0 #[] cl j j Y)->W'.heap[b]?=Z (.chan 0 #[] cl j j Y)
 qw:∀(b:Nat)c t f,b≠so.S->W.heap[b]?=Z (.cells c t f)->W'.heap[b]?=Z (.cells c t f)
 cnt:∀i v,W.cell? (be so.S i)=Z v->W'.cell? (be so.S i)=Z (if i=11 then jI (so.n+1)else v)
 sh:∀x,W.shape? so.S=Z x->W'.shape? so.S=Z x
 kS:kk.S=so.S
 kD:kk.D=so.D
 new:∀b:Nat,(∃o,w.heap[b]?=Z o)->b≠kk.W/\b≠kk.T
 grow:w.heap.size<=w'.heap.size
 axo:∀(b:Nat)(u:aJ),w.heap[b]?=Z (.view ⟨0,0,Z 0⟩ u)->w'.heap[b]?=Z (.view ⟨0,0,Z 0⟩ u)
 other:∀b:Nat,b<W.heap.size->b≠so.S->W'.heap[b]?=W.heap[b]?
section
variable {X R:Loc->Prop}{T:ae dp}{V:ae cz}{w W w' W':au}{so:cz}{kk:dp}
theorem Started.dead(E:Started w W w' W' so kk)(L:fL X U T V w W)(n:Rel (bN ak) X w W)(g:so∈V):mN w W w' W':=by
 have d:=(L.s so g).sh.1;have s:=n.size;obtain⟨p,q,k⟩:=L.gate;obtain⟨v,r,j,l,_⟩:=L.hand;refine⟨E.axo,λb o=>?_,E.grow,λb j=>?_⟩
 rotate_left
 ·by_cases e:b=so.S
  ·obtain⟨_,i⟩:=(L.s so g).sh
   rw[e,i];exact E.sh _ i
  ·unfold fD
   rw[E.other b ai e]
 have a:∀o,w.heap[b]?=Z o->(∀c t f,o≠.cells c t f)->W'.heap[b]?=W.heap[b]?:=λo h m=>by
  refine E.other b (by have:=cZ h;omega) λe=>?_;unfold fD at d;rw[<-e,h]at d;cases o with
  |cells c t f=>exact m c t f F
  |_=>cases d
 rcases o with⟨u,h⟩|rfl|rfl
 ·exact a _ h λ_ _ _ e=>by cases e
 ·exact a _ k λ_ _ _ e=>by cases e
 ·exact a _ l λ_ _ _ e=>by cases e
theorem fL.start(L:fL X U T V w W)(G:so∈V)(aF:so.st=Y)(aE:so.n<9)(E:Started w W w' W' so kk)(N:∀l,X l->R l)(p:R (.cell (be kk.wb 0))/\R (.cell (be kk.wb 1))/\R (.cell (be kk.sb 0)))(hg:∀k∈T,k.g≠kk.g):fL R U (kk::T) (V.map (mW so.S)) w' W':=by
 obtain⟨hv,xR,xS,m9,_⟩:=L.hand;obtain⟨sa,sb,hD⟩:=(L.s so G).lone;have J:∀{b d s r:Nat}{u:af ag}{K tm:Bool},d≠6->d≠2->w.heap[b]?=Z (.chan d u K s r tm)->∃A r',w'.heap[b]?=Z (.chan d u K A r' tm):=λ{b d s r u K tm}h6 g o=>E.chan b _ _ _ _ _ _ (L.rv o m9 h6) (L.rv o hD g) o;have H:∀A,A∈V.map (mW so.S)->∃s∈V,A=mW so.S s:=λA h=>by obtain⟨s,n,g⟩:=ox.1 h;exact⟨s,n,g.symm⟩
 have rS:∀s∈V,s.S=so.S->s=so:=λs m e=>L.ua s m so G e;have LY:∀s∈V,s.S≠so.S->mW so.S s=s:=λs _ h=>by unfold mW;rw[if_neg h]
 refine⟨λA cv=>?_,λk bX=>?_,λb d u K x y tm o=>?_,?_,?_,?_,?_,?_,?_,?_,?_,?_,by rw[Ze (wD so.S)];exact L.Bm⟩
 ·obtain⟨s,m,rfl⟩:=H A cv
  have l:=L.s s m;by_cases e:s.S=so.S
  ·obtain rfl:=rS s m e
   have em:mW s.S s=s.more:=by unfold mW;rw[if_pos F]
   rw[em];obtain⟨k,p⟩:=l.real;refine⟨E.tok,⟨k,E.B2 _ _ _ p⟩,⟨zT (E.cells _) l.sh.1,E.sh _ l.sh.2⟩,?_,?_,?_,?_,λi n g=>N _ (l.bU i n g),aE⟩
   ·have:=E.cnt 10 _ l.done
    rw[if_neg ai]at this;exact this
   ·have:=E.cnt 11 _ l.cnt
    rw[if_pos F]at this;show W'.cell? (be s.S 11)=Z (jI (if s.st then 0 else s.n+1));rw[aF];exact this
   ·have:=E.cnt 12 _ l.qi
    rw[if_neg ai]at this;exact this
   ·have:=E.cnt 13 _ l.stop
    rw[if_neg ai]at this;exact this
  ·rw[LY s m e]
   have Cb:s.D≠so.D:=λh=>e (by rw[L.x9 s m so G h]);obtain⟨a,b,hl⟩:=l.lone;obtain⟨k,p⟩:=l.real;exact⟨E.chan _ _ _ _ _ _ _ (L.rv hl m9 ai) Cb hl,⟨k,E.B2 _ _ _ p⟩,⟨zT (E.cells _) l.sh.1,zT (λc t f=>E.qw _ c t f e) l.sh.2⟩,uJ (λc t f=>E.qw _ c t f e) l.done,uJ (λc t f=>E.qw _ c t f e) l.cnt,uJ (λc t f=>E.qw _ c t f e) l.qi,uJ (λc t f=>E.qw _ c t f e) l.stop,λi n g=>N _ (l.bU i n g),l.le⟩
 ·rcases bQ.1 bX with rfl|bX
  ·obtain⟨n,g,h3⟩:=p
   exact⟨⟨mW so.S so,kV G,by rw[wD,E.kS],by rw[GX,E.kD]⟩,E.work,E.told,E.yD,E.wb,E.ra,E.sb,by rw[E.kS];exact E.tC,n,g,h3⟩
  ·have l:=L.k k bX
   obtain⟨s,m,Q,S⟩:=l.pF;obtain⟨_,_,O⟩:=l.work;obtain⟨_,_,P⟩:=l.told;obtain⟨_,_,q3⟩:=l.wb;obtain⟨_,_,q4⟩:=l.sb;obtain⟨j,q5⟩:=l.yD;have rT:=(L.s so G).sh.2;refine⟨⟨mW so.S s,kV m,by rw[wD,Q],by rw[GX,S]⟩,J ai ai O,J ai ai P,⟨j,E.B2 _ _ _ q5⟩,J ai ai q3,E.qw _ _ _ _ (λe=>?_) l.ra,J ai ai q4,E.qw _ _ _ _ (λe=>?_) l.tC,N _ l.bU.1,N _ l.bU.2.1,N _ l.bU.2.2⟩
   ·unfold fD at rT
    rw[<-e,l.ra]at rT;cases rT
   ·unfold fD at rT
    rw[<-e,l.tC]at rT;cases rT
 ·by_cases Q:b=dx
  ·subst Q
   obtain⟨_,_,h⟩:=E.hand;rw[h]at o;cases o;exact⟨rfl,rfl,.hand rfl,λe=>by cases e⟩
  ·by_cases S:b=so.D
   ·subst S
    obtain⟨_,_,h⟩:=E.tok;rw[h]at o;cases o;exact⟨rfl,rfl,.done (mW so.S so) (kV G) (GX so.S so).symm,λe=>by cases e⟩
   ·rcases E.back b d u K x y tm Q S o with⟨_,_,h⟩|⟨rfl,rfl,⟨rfl,rfl⟩|⟨rfl,rfl⟩|⟨rfl,rfl⟩⟩
    ·obtain⟨n,g,h3,h4⟩:=L.chans _ _ _ _ _ _ _ h
     refine⟨n,g,?_,h4⟩;cases h3 with
     |work k p e=>exact .work k (eK _ p) e
     |done s m e=>exact .done (mW so.S s) (kV m) (by rw[GX];exact e)
     |told k p e=>exact .told k (eK _ p) e
     |box=>exact .box
     |gate e=>exact .gate e
     |hand e=>exact .hand e
    ·exact⟨F,F,.work kk (fu ..) F,λe=>by cases e⟩
    ·exact⟨F,F,.told kk (fu ..) F,λe=>by cases e⟩
    ·exact⟨F,F,.box,λ_=>rfl⟩
 ·obtain⟨a,b,h⟩:=L.gate
  rw[RA λs _=>JD so.S s];exact J ai ai h
 ·obtain⟨a,b,h⟩:=E.hand
  exact⟨.chan I,a,b,h,.inl F⟩
 ·have v:∀k∈T,k.W≠kk.W:=λk p=>by
   obtain⟨_,_,q⟩:=(L.k k p).work;exact(E.new k.W ⟨_,q⟩).1
  intro k M C B e;rcases bQ.1 M with rfl|D
  ·rcases bQ.1 B with rfl|z
   ·rfl
   ·exact absurd e.symm (v C z)
  ·rcases bQ.1 B with rfl|z
   ·exact absurd e (v k D)
   ·exact L.CC k D C z e
 ·have v:∀k∈T,k.T≠kk.T:=λk p=>by
   obtain⟨_,_,q⟩:=(L.k k p).told;exact(E.new k.T ⟨_,q⟩).2
  intro k M C B e;rcases bQ.1 M with rfl|D
  ·rcases bQ.1 B with rfl|z
   ·rfl
   ·exact absurd e.symm (v C z)
  ·rcases bQ.1 B with rfl|z
   ·exact absurd e (v k D)
   ·exact L.CB k D C z e
 ·intro k M C B e
  rcases bQ.1 M with rfl|D
  ·rcases bQ.1 B with rfl|z
   ·rfl
   ·exact absurd e.symm (hg C z)
  ·rcases bQ.1 B with rfl|z
   ·exact absurd e (hg k D)
   ·exact L.zE k D C z e
 ·intro s1 n s2 g e
  obtain⟨t1,O,rfl⟩:=H s1 n;obtain⟨t2,P,rfl⟩:=H s2 g;rw[GX,GX]at e;rw[L.x9 t1 O t2 P e]
 ·intro s1 n s2 g e
  obtain⟨t1,O,rfl⟩:=H s1 n;obtain⟨t2,P,rfl⟩:=H s2 g;rw[wD,wD]at e;rw[L.ua t1 O t2 P e]
 ·intro A cv
  obtain⟨s,m,rfl⟩:=H A cv;have hc:=L.count s m;rw[wD,List.filter_cons];by_cases e:s.S=so.S
  ·obtain rfl:=rS s m e
   have o:(kk.S==s.S)=U:=by simp[E.kS]
   rw[if_pos o];unfold mW;rw[if_pos rfl];show _+1=s.n+1;rw[hc]
  ·have o:(kk.S==s.S)=Y:=by
    rw[E.kS];simpa usingλh=>e h.symm
   rw[if_neg (by rw[o];simp),LY s m e];exact hc
 ·exact rb.2 ⟨λh=>hg kk h F,L.nodup⟩
end
def BD(a:au)(D i j p q:Nat):au:=gZ ((jO (bM (bM a (.chan 4 #[] Y 0 0 Y)) (.cells gA 142)) (arr i j cW cT cB)).setChan (a.heap.size+2+i) 1 #[.agg #[ay D,ay (a.heap.size+2+j)]] Y p q Y) (a.heap.size+1) #[ay (a.heap.size+2+i),ay (a.heap.size+2+j)] 142
def vC(W:au)(S n i j k:Nat):au:=gZ ((qj W S i j k).setCell (be S 11) (jI (n+1))) (W.heap.size+1) #[ay (W.heap.size+2+i),ay (W.heap.size+2+j)] 142
structure ac6(w2 w':au)(D i j k:Nat):Prop where
 size:w'.heap.size=w2.heap.size+5
 old:∀x,x<w2.heap.size->w'.heap[x]?=w2.heap[x]?
 sb:w'.heap[w2.heap.size]?=Z (.chan 4 #[] Y 0 0 Y)
 m:w'.heap[w2.heap.size+1]?=Z (.cells #[ay (w2.heap.size+2+i),ay (w2.heap.size+2+j)] 142)
 cw:∃p q,w'.heap[w2.heap.size+2+i]?=Z (.chan 1 #[.agg #[ay D,ay (w2.heap.size+2+j)]] Y p q Y)
 ct:w'.heap[w2.heap.size+2+j]?=Z (.chan 3 #[] Y 0 0 Y)
 wb:w'.heap[w2.heap.size+2+k]?=Z (.chan 4 #[] Y 0 0 Y)
theorem YA{i j k}(h:i<3/\j<3/\k<3/\i≠j/\i≠k/\j≠k)(a)(D p q):ac6 a (BD a D i j p q) D i j k:=by
 have l:(bM (bM a (.chan 4 #[] Y 0 0 Y)) (.cells gA 142)).heap.size=a.heap.size+2:=by rw[size_push,size_push]
 obtain⟨e,f,g,d⟩:=FV h ..;rw[l]at e f g d;have c:=cZ e;unfold BD;have m:(jO (bM (bM a (.chan 4 #[] Y 0 0 Y)) (.cells gA 142)) (arr i j cW cT cB)).heap.size=a.heap.size+5:=by rw[ZN,l]
 generalize (jO (bM (bM a (.chan 4 #[] Y 0 0 Y)) (.cells gA 142)) (arr i j cW cT cB))=o at e f g d c m;have b:a.heap.size+1<(o.setChan (a.heap.size+2+i) 1 #[.agg #[ay D,ay (a.heap.size+2+j)]] Y p q Y).heap.size:=by rw[size_setChan];omega
 refine⟨by rw[Fc,size_setChan];exact m,λx n=>?_,?_,?_,?_,?_,?_⟩
 ·rw[tU _ b,if_neg ai,heap_setChan _ c,if_neg ai,d x ai,l7 _ _ (by rw[size_push];omega),l7 _ _ n]
 ·rw[tU _ b,if_neg ai,heap_setChan _ c,if_neg ai,d _ ai,l7 _ _ (by rw[size_push];omega),lJ,if_pos F]
 ·rw[tU _ b,if_pos F]
 ·exact⟨p,q,by rw[tU _ b,if_neg ai,heap_setChan _ c,if_pos F]⟩
 ·rw[tU _ b,if_neg ai,heap_setChan _ c,if_neg ai];exact f
 ·rw[tU _ b,if_neg ai,heap_setChan _ c,if_neg ai];exact g
theorem awR(X:cz)(h:X.st=Y):sF X.S X.n=cV X.more:=by
 show Value.agg #[ptr X.S 0,ah ((X.n)+1),.bool Y]=.agg #[ptr X.S 0,ah ((X.n+1:Nat)),.bool X.st];have e:((X.n+1:Nat))=(X.n:Int)+1:=by omega
 rw[h,e]
section
variable {V:Loc->Prop}{R:ae dp}{S:ae cz}{w Q T W:au}{X:cz}
def pA(g:Nat)(X:cz)(N i j k:Nat):dp:=⟨g,X.S,N+2+i,N+2+j,X.D,N+2+k,N⟩
def R8(V:Loc->Prop)(N k:Nat)(l:Loc):Prop:=V l\/l=.cell (be (N+2+k) 0)\/l=.cell (be (N+2+k) 1)\/l=.cell (be N 0)
theorem avW(L:fL V U R S w W)(hr:Rel (bN ak) V w W)(cY:X∈S)(aF:X.st=Y){i j k}(C:i<3/\j<3/\k<3/\i≠j/\i≠k/\j≠k){a b x y p q p' q'}
  (m9:∃v c d,w.heap[dx]?=Z (.chan 6 #[v] Y c d Y))(hA:Alike (w.setChan dx 6 #[.chan I] Y a b Y) T)(N:T.heap[X.D]?=Z (.chan 2 #[cV X] Y x y Y)):
  Rel (bN ak) (R8 V W.heap.size k) (BD ((T.setChan X.D 2 #[] Y x (y+1) Y).setChan X.D 2 #[sF X.S X.n] Y p q Y) X.D i j p' q') (vC W X.S X.n i j k):=by
 obtain⟨v,c,d,hh⟩:=m9;have r1:=(hr.sd hh).alike hA;have r2:=r1.sd (cap':=2) (buf':=#[]) (cl':=Y) (s':=x) (r':=y+1) (tm':=Y) N;have gv:(T.setChan X.D 2 #[] Y x (y+1) Y).heap[X.D]?=Z (.chan 2 #[] Y x (y+1) Y):=oE _ N _ _ _ _ _ _;have G:=r2.sd (cap':=2) (buf':=#[sF X.S X.n]) (cl':=Y) (s':=p) (r':=q) (tm':=Y) gv;generalize (T.setChan X.D 2 #[] Y x (y+1) Y).setChan X.D 2 #[sF X.S X.n] Y p q Y=e at G;have t:=G.size;have E:=L.s _ cY;have Ch:=vt E.sh.2;have r4:Rel (bN ak) V (bM e (.chan 4 #[] Y 0 0 Y)) (bM W (.cells #[ptr X.S 0] 39)):=G.Ha ⟨by simp,F⟩ (λ_ h=>h) λ_ h=>.inl h;have r5:Rel (bN ak) V (bM (bM e (.chan 4 #[] Y 0 0 Y)) (.cells gA 142)) (bM (bM W (.cells #[ptr X.S 0] 39)) (.cells gA 142)):=(r4.push (o:=.cells gA 142) trivial).1;have r6:=r5.jO (u:=arr i j cW cT cB) (UU:=arr i j c0 c0 (.cells gA 142)) (λm=>by
  unfold arr;split
  ·simp
  ·grind) λm f=>by
  unfold arr;split
  ·trivial
  ·split
   ·trivial
   ·exact⟨by simp[gA],F⟩
 have hs:(bM (bM e (.chan 4 #[] Y 0 0 Y)) (.cells gA 142)).heap.size=e.heap.size+2:=by rw[size_push,size_push]
 obtain⟨B,h2,K,M⟩:=FV C _ _ _ _;rw[hs]at B h2 K M;have P:=r6.aq3 K (c:=#[ay (W.heap.size+2+i),ay (W.heap.size+2+j)]) aZ 142;have eW:gZ (jO (bM (bM W (.cells #[ptr X.S 0] 39)) (.cells gA 142)) (arr i j c0 c0 (.cells gA 142))) (e.heap.size+2+k) #[ay (W.heap.size+2+i),ay (W.heap.size+2+j)] 142=qj W X.S i j k:=by rw[t];rfl
 rw[eW]at P;have r8:=P.sd (cap':=1) (buf':=#[.agg #[ay X.D,ay (e.heap.size+2+j)]]) (cl':=Y) (s':=p') (r':=q') (tm':=Y) B;have D:=Ll C W X.S;have tT:(qj W X.S i j k).cell? (be X.S 11)=Z (jI X.n):=by
  have A:=E.cnt;rw[aF]at A;unfold fR at A⊢;rw[D.old _ Ch];exact A
 have Mx:(((jO (bM (bM e (.chan 4 #[] Y 0 0 Y)) (.cells gA 142)) (arr i j cW cT cB)).setChan (e.heap.size+2+i) 1 #[.agg #[ay X.D,ay (e.heap.size+2+j)]] Y p' q' Y)).cell? (be X.S 11)=I:=by
  have z:=E.bU 11 ai ai;exact(r8.mT _ z).2
 have r9:=r8.Nt Mx tT (jI (X.n+1));have LW:((jO (bM (bM e (.chan 4 #[] Y 0 0 Y)) (.cells gA 142)) (arr i j cW cT cB)).setChan (e.heap.size+2+i) 1 #[.agg #[ay X.D,ay (e.heap.size+2+j)]] Y p' q' Y).heap[e.heap.size+1]?=Z (.cells gA 142):=by
  rw[heap_setChan _ (cZ B),if_neg ai,M _ ai,lJ,size_push,if_pos F]
 have PW:((qj W X.S i j k).setCell (be X.S 11) (jI (X.n+1))).heap[e.heap.size+1]?=Z (.cells gA 142):=by
  rw[Qh tT (show e.heap.size+1≠X.S by omega),t];exact D.m
 have J:=r9.aef (c':=#[ay (e.heap.size+2+i),ay (e.heap.size+2+j)]) LW PW F;have e1:gZ ((qj W X.S i j k).setCell (be X.S 11) (jI (X.n+1))) (e.heap.size+1) #[ay (e.heap.size+2+i),ay (e.heap.size+2+j)] 142=vC W X.S X.n i j k:=by rw[t];rfl
 rw[e1]at J;have H:=YA C e X.D p' q';refine Rel.eT J (λl h=>.inl h) λl h=>h.imp id λh=>?_;have β:∀(f O)n g s r,(BD e X.D i j p' q').heap[f]?=Z (.chan n g Y s r Y)->f<(BD e X.D i j p' q').heap.size/\(BD e X.D i j p' q').cell? (be f O)=I:=λf O n g s r h=>⟨cZ h,by unfold fR;rw[h]⟩;have l1:=H.wb;have l2:=H.sb;rw[t]at l1 l2;rcases h with rfl|rfl|rfl
 ·grind
 ·grind
 ·grind
end
section
variable {T:Loc->Prop}{R:ae dp}{S:ae cz}{w V W:au}{X:cz}
theorem avX(L:fL T U R S w W)(hr:Rel (bN ak) T w W)(cY:X∈S)(aF:X.st=Y){i j k g}(hp:i<3/\j<3/\k<3/\i≠j/\i≠k/\j≠k){a b x y p q p' q'}
  (m9:∃v c d,w.heap[dx]?=Z (.chan 6 #[v] Y c d Y))(E:Alike (w.setChan dx 6 #[.chan I] Y a b Y) V)(hD:V.heap[X.D]?=Z (.chan 2 #[cV X] Y x y Y)):
  Started w W (BD ((V.setChan X.D 2 #[] Y x (y+1) Y).setChan X.D 2 #[sF X.S X.n] Y p q Y) X.D i j p' q') (vC W X.S X.n i j k) X (pA g X W.heap.size i j k):=by
 obtain⟨v,c,d,J⟩:=m9;obtain⟨sa,sb,N⟩:=(L.s _ cY).lone;have Qr:=cZ J;have xF:=cZ hD;have δ:=L.rv N J ai;have Ex:V.heap.size=w.heap.size:=by rw[E.size,size_setChan]
 have bH:=hr.size;have B:∀z:Nat,((V.setChan X.D 2 #[] Y x (y+1) Y).setChan X.D 2 #[sF X.S X.n] Y p q Y).heap[z]?=if z=X.D then Z (.chan 2 #[sF X.S X.n] Y p q Y)else V.heap[z]?:=λz=>by
  rw[heap_setChan _ (by rw[size_setChan];exact xF),heap_setChan _ xF];split<;>rfl
 have zD:((V.setChan X.D 2 #[] Y x (y+1) Y).setChan X.D 2 #[sF X.S X.n] Y p q Y).heap.size=W.heap.size:=by rw[size_setChan,size_setChan,Ex,bH]
 generalize (V.setChan X.D 2 #[] Y x (y+1) Y).setChan X.D 2 #[sF X.S X.n] Y p q Y=w2 at B zD;have C:=YA hp w2 X.D p' q';have DA:=Ll hp W X.S;have Yq:=C.old;have Rp:=C.sb;have Yp:=C.m;have Q:=C.cw;have P:=C.ct;have Rt:=C.wb;have Rq:=C.size;rw[zD]at Yq Rp Yp Q P Rt Rq;have ls:=L.s _ cY;have M:=vt ls.sh.2;have tT:(qj W X.S i j k).cell? (be X.S 11)=Z (jI X.n):=by
  have h0:=ls.cnt;rw[aF]at h0;unfold fR at h0⊢;rw[DA.old _ M];exact h0
 have O:W.heap.size+1<((qj W X.S i j k).setCell (be X.S 11) (jI (X.n+1))).heap.size:=by rw[size_setCell,DA.size];omega
 obtain⟨i3,j3,k3,pf,ε,Gu⟩:=id hp;have G:∀z,z≠W.heap.size+1->z≠X.S->(vC W X.S X.n i j k).heap[z]?=(qj W X.S i j k).heap[z]?:=λz m n=>by
  unfold vC;rw[tU _ O,if_neg m,Qh tT n]
 have D:∀z,z<W.heap.size->(BD w2 X.D i j p' q').heap[z]?=if z=X.D then Z (.chan 2 #[sF X.S X.n] Y p q Y)else V.heap[z]?:=λz hz=>by rw[Yq z hz,B]
 have H:∀z:Nat,z≠dx->(w.setChan dx 6 #[.chan I] Y a b Y).heap[z]?=w.heap[z]?:=λz h=>by rw[heap_setChan _ Qr,if_neg h]
 refine⟨?_,?_,λz γ β cl s r tm m n l=>?_,λz γ β cl s r tm m n l=>?_,?_,?_,?_,?_,λz cc t f h=>?_,?_,?_,?_,λz cl j' h=>?_,λz cc t f m n=>?_,λK vv h=>?_,λxx h=>?_,F,F,λz⟨o,h⟩=>?_,by rw[Rq];omega,λz u h=>?_,λz m n=>?_⟩
 ·have h:(w.setChan dx 6 #[.chan I] Y a b Y).heap[dx]?=Z (.chan 6 #[.chan I] Y a b Y):=by rw[heap_setChan _ Qr,if_pos F]
  obtain⟨s',r',h'⟩:=E.m7 h;exact⟨s',r',by rw[D _ ai,if_neg (λe=>δ e.symm)];exact h'⟩
 ·exact⟨p,q,by rw[D _ ai,if_pos F,awR _ aF]⟩
 ·have A:=cZ l
  obtain⟨s',r',h'⟩:=E.m7 (by rw[H z m];exact l);exact⟨s',r',by rw[D _ ai,if_neg n];exact h'⟩
 ·have A:=cZ l
  rw[Rq]at A;by_cases aE:z<W.heap.size
  ·rw[D _ aE,if_neg n]at l
   obtain⟨s0,r0,h4⟩:=E.chan l;rw[H z m]at h4;exact .inl ⟨_,_,h4⟩
  ·refine .inr ?_
   have:z=W.heap.size\/z=W.heap.size+1\/z=W.heap.size+2+i\/z=W.heap.size+2+j\/z=W.heap.size+2+k:=by omega
   rcases this with rfl|rfl|rfl|rfl|rfl
   ·rw[Rp]at l;cases l;exact⟨rfl,rfl,.inr (.inr ⟨rfl,rfl⟩)⟩
   ·rw[Yp]at l;cases l
   ·obtain⟨_,_,h5⟩:=Q
    rw[h5]at l;cases l;exact⟨rfl,rfl,.inl ⟨rfl,rfl⟩⟩
   ·rw[P]at l;cases l;exact⟨rfl,rfl,.inr (.inl ⟨rfl,rfl⟩)⟩
   ·rw[Rt]at l;cases l;exact⟨rfl,rfl,.inr (.inr ⟨rfl,rfl⟩)⟩
 ·exact Q
 ·exact⟨_,_,P⟩
 ·exact⟨_,_,Rt⟩
 ·exact⟨_,_,Rp⟩
 ·have A:=cZ h
  have m:z≠dx:=λe=>by rw[e,J]at h;cases h
  have n:z≠X.D:=λe=>by rw[e,N]at h;cases h
  rw[D _ ai,if_neg n];have l:(w.setChan dx 6 #[.chan I] Y a b Y).heap[z]?=Z (.cells cc t f):=by rw[H z m];exact h
  rcases E.obj z with e|⟨_,_,_,_,_,_,_,_,f1,_⟩
  ·rw[e];exact l
  ·rw[l]at f1;cases f1
 ·exact⟨0,by rw[G _ (by simp only[pA];omega) (by simp only[pA];omega)];exact DA.ct⟩
 ·rw[G _ (by simp only[pA];omega) (by simp only[pA];omega)];exact DA.wb
 ·rw[G _ (by simp only[pA];omega) (by simp only[pA];omega)];exact DA.sb
 ·have A:=cZ h
  have m:z≠X.S:=λe=>by
   obtain⟨dd,_,n⟩:=ls.cells hr;rw[e,n]at h;cases h
  rw[G _ ai m,DA.old _ A];exact h
 ·have A:=cZ n
  rw[G _ ai m,DA.old _ A];exact n
 ·have Et:(qj W X.S i j k).cell? (be X.S K)=Z vv:=by
   unfold fR at h⊢;rw[DA.old _ M];exact h
  have e1:(vC W X.S X.n i j k).cell? (be X.S K)=((qj W X.S i j k).setCell (be X.S 11) (jI (X.n+1))).cell? (be X.S K):=by
   unfold vC fR;rw[tU _ O,if_neg (by simp only;omega)]
  rw[e1,za tT];by_cases e:K=11
  ·subst e;rw[if_pos F,if_pos F]
  ·rw[if_neg e,if_neg (λh=>e (by simpa using h))]
   exact Et
 ·have e1:(vC W X.S X.n i j k).shape? X.S=((qj W X.S i j k).setCell (be X.S 11) (jI (X.n+1))).shape? X.S:=by
   unfold vC fD;rw[tU _ O,if_neg ai]
  rw[e1,yw tT];unfold fD at h⊢;rw[DA.old _ M];exact h
 ·have A:=cZ h
  simp only[pA];omega
 ·have A:=cZ h
  have m:z≠dx:=λe=>by rw[e,J]at h;cases h
  have n:z≠X.D:=λe=>by rw[e,N]at h;cases h
  rw[D _ ai,if_neg n];rcases E.obj z with e|⟨_,_,_,_,_,_,_,_,f,_⟩
  ·rw[e,H z m];exact h
  ·rw[H z m,h]at f;cases f
 ·rw[G z ai n,DA.old z m]
end
theorem aga(a):bG LL 55 a .normal=⟨55,pad 13 a,[.code (EE.body.getD .skip)],[],.run,.normal,I⟩:=av
noncomputable def U8:bl:=((Tryz.prog.funcs[55]?).bind (·.body)).getD .skip
theorem agj(a):bG ak 55 a .normal=⟨55,pad 13 a,[.code U8],[],.run,.normal,I⟩:=av
def JL(a:af ag):iq:=⟨λi=>(pad 13 a).getD (i+1) aC,(pad 13 a).toList.drop 13⟩
theorem af9(a):bG LL 55 a .normal=Hc (JL a) ((pad 13 a).getD 0 aC):=by
 rw[aga];show _=(⟨55,bO 13 (cN (λi=>(pad 13 a).getD (i+1) aC) _) ((pad 13 a).toList.drop 13),[.code (EE.body.getD .skip)],[],.run,.normal,I⟩:az);rw[<-Hk _ _ (Bq .. )]
theorem agi(a){S}(h:(pad 13 a).getD 0 aC=ptr S 0):bG ak 55 a .normal=NF (JL a) S:=by
 rw[agj];show _=(⟨55,bO 13 (cN (λi=>(pad 13 a).getD (i+1) aC) (ptr S 0)) ((pad 13 a).toList.drop 13),[.code U8],[],.run,.normal,I⟩:az);rw[<-h,<-Hk _ _ (Bq .. )]
theorem avT{q}{S At}{p}{V}{R}{D}{B x n}{w W Q G}(C:Core q S At p V R D I B n w W){a}(r:a∈D)(T:a.st=Y)(aE:a.n<9){i j k}(hp:i<3/\j<3/\k<3/\i≠j/\i≠k/\j≠k)(h0:0<n)(hB:W.heap.size+5<=x)
  (px:Rel (bN ak) (R8 q W.heap.size k) Q G)(E:Started w W Q G a (pA n a W.heap.size i j k))(bH:G.heap.size=W.heap.size+5):
  Core (R8 q W.heap.size k) (tA S n (tH (pA n a W.heap.size i j k))) (tA At n (Oe (pA n a W.heap.size i j k))) p (nP V n (Z (wY (pA n a W.heap.size i j k) x))) (pA n a W.heap.size i j k::R) (D.map (mW a.S)) I x (n+1) Q G:=by
 have L:=C.fo;generalize v:pA n a W.heap.size i j k=M at*;have X:M.g=n:=by subst v;rfl
 have O:M.S=a.S:=by subst v;rfl
 have o:∀m∈R,m.g≠n:=λm b=>by have:=(C.g0 _ b).2;omega
 have P:∀z,z∈D.map (mW a.S)->∃s∈D,z=mW a.S s:=λz h=>by grind
 have rS:=λs f e=>L.ua s f _ r e;have j6:Of M x:=by
  have H:=vt (L.s _ r).sh.2;obtain⟨_,_,J⟩:=(L.s _ r).lone;have h3:=cZ J;have h4:=C.rel.size;subst v;exact⟨by simp only[pA];omega,by simp only[pA];omega,by omega,by simp only[pA];omega,by simp only[pA];omega,by simp only[pA];omega⟩
 refine⟨px,L.start r T aE E (λl h=>.inl h) (by subst v;exact⟨.inr (.inl F),.inr (.inr (.inl F)),.inr (.inr (.inr F))⟩) (λm b=>by simp_all),by omega,λg l c=>?_,λl=>?_,λm b l c=>?_,λg l c=>?_,λm b l c=>?_,λm b z A t u=>?_,λm b z A t u=>?_,λii y K=>?_,λm b=>?_,λj' Cn=>by cases Cn⟩
 ·unfold tA at c
  split at c
  ·have N:=(L.s _ r).bU 10 ai ai
   rcases c with rfl|rfl|rfl|rfl
   ·subst v;exact⟨.inr (.inl rfl),_,rfl,yP rfl⟩
   ·subst v;exact⟨.inr (.inr (.inl rfl)),_,rfl,yP rfl⟩
   ·subst v;exact⟨.inr (.inr (.inr rfl)),_,rfl,yP rfl⟩
   ·rw[O];exact⟨.inl N,_,rfl,yP rfl⟩
  ·obtain⟨H,J⟩:=C.qW g l c
   exact⟨.inl H,J⟩
 ·rw[C.mI]
  constructor
  ·rintro⟨s,f,h⟩
   exact⟨mW a.S s,kV f,by rw[wD];exact h⟩
  ·rintro⟨z,A,h⟩
   obtain⟨s,f,rfl⟩:=P _ A;rw[wD]at h;exact⟨s,f,h⟩
 ·unfold tA
  rcases bQ.1 b with rfl|d
  ·simp_all
  ·rw[if_neg (o _ d)];exact C.y8 _ d l c
 ·unfold tA at c
  split at c
  ·refine(C.mI l).2 ⟨a,r,?_⟩
   rw[<-O];exact c
  ·exact C.Av g l c
 ·unfold tA
  rcases bQ.1 b with rfl|d
  ·simp_all
  ·rw[if_neg (o _ d)];exact C.cK _ d l c
 ·obtain⟨s,f,rfl⟩:=P _ A
  rw[wD]at t;rw[JD]at u;rcases bQ.1 b with rfl|d
  ·exact⟨x,by rw[X];exact qk,j6⟩
  ·rw[j9 (o _ d)]
   exact C.yr _ d s f t u
 ·obtain⟨s,f,rfl⟩:=P _ A
  rw[wD]at t;rw[JD]at u;rcases bQ.1 b with rfl|d
  ·simp_all
  ·rw[j9 (o _ d)]
   exact C.gone _ d s f t u
 ·by_cases e:ii=n
  ·subst e
   rw[qk]at K;cases K;exact .inl ⟨M,fu ..,mW a.S a,kV r,by rw[wD,O],by rw[JD];exact T,X,x,rfl⟩
  ·rw[j9 e]at K
   obtain⟨m,b,s,f,t,u,e3,B0,rfl⟩:=C.Bn K;exact .inl ⟨m,eK _ b,mW a.S s,kV f,by rw[wD];exact t,by rw[JD];exact u,e3,B0,rfl⟩
 ·rcases bQ.1 b with rfl|d
  ·omega
  ·obtain⟨H,J⟩:=C.g0 _ d
   exact⟨H,by omega⟩
theorem sW.h0{s}(k:sW s)(a:s.dG=I):s.h=0:=by
 cases k with
 |main _ b _=>exact b
 |work j e=>rw[a]at e;cases e
 |back j e=>rw[a]at e;cases e
theorem anr{R}{s}(i:Inv s)(hg:Good LL R s.bW)(hf:sQ s){o a}{r l}{e}(hc:ko s.E o r a l\/s.E o r a l)(e1:s.fr'=bG LL 55 e .normal)(e2:s.cs'=o::r)(e3:s.fr=bG ak 55 e .normal)(e4:s.cs=a::l):∃X k n b,Inv X/\Real s X/\0<k/\kj LL s.bW X.bW k n b:=by
 have b:=i.base;have C:=b.core;have L:=C.fo;have eI:=i.below hc;have J:o::r≠[]:=by simp
 rw[af9]at e1;have pX:s.bW=⟨Hc (JL e) ((pad 13 e).getD 0 aC),o::r,s.w⟩:=by unfold dM.bW;rw[e1,e2]
 rw[pX]at hg⊢;obtain⟨AP,f,u,hp,n1,g,w1,ha,hb,x,y,_,_,M,N,L1,g1⟩:=amZ L C.rel eI J hg;rw[hp]at L1 g1⊢;have A:=Option.isNone_iff_eq_none.1 AP;have h0:=i.ni.h0 A;rw[A]at C L;have P:=(L.s _ u).le;obtain⟨E,aE,n2,j,⟨p2,q2,uZ⟩,L2,g2⟩:=am0 J P N g1;have m9:∃v c d,s.w.heap[dx]?=Z (.chan 6 #[v] Y c d Y):=by
  obtain⟨v,c,d,h,_⟩:=L.hand;exact⟨v,c,d,h⟩
 have zD:j.heap.size=s.W.heap.size:=by
  rw[uZ,size_setChan,size_setChan,M.size,size_setChan];exact C.rel.size
 rw[agi _ hp]at e3;have pV:s.B<=max s.B (s.W.heap.size+5):=Nat.le_max_left _ _;have W:s.W.heap.size+5<=max s.B (s.W.heap.size+5):=Nat.le_max_right _ _;obtain⟨B,D,S,d0,ho,m,T,⟨N0,tf⟩,H⟩:=avU b A e3 e4 pV W;have z:=ho.perm;have G:=amS (t:=bO 13 (ov g (JQ f.S f.D f.n j.heap.size (j.heap.size+1) f.st)) (JL e).l) (cs:=o::r) (w:=bM (bM j (.chan 4 #[] Y 0 0 Y)) (.cells gA 142)) λi q=>s.W.tape (d0+i) q;have gD:=g2.vz G J;rw[apK]at G gD;have Q:(bM (bM j (.chan 4 #[] Y 0 0 Y)) (.cells gA 142)).heap.size=j.heap.size+2:=by rw[size_push,size_push]
 have hM:(bM (bM j (.chan 4 #[] Y 0 0 Y)) (.cells gA 142)).heap[j.heap.size+1]?=Z (.cells gA 142):=by rw[lJ,size_push,if_pos F]
 obtain⟨n3,V,q3,L3⟩:=am1 ho hM gD;rw[Q]at L3;obtain⟨n4,gs,W',sl,T',q,r1,r2,r3,r4,⟨K,r5⟩⟩:=avV b h0 A u E aE z pV W H;have px:=avW (p':=V) (q':=q3) (p:=p2) (q:=q2) L C.rel u E z m9 M N;have hE:=avX (g:=s.gs.size) (p':=V) (q':=q3) (p:=p2) (q:=q2) L C.rel u E z m9 M N;rw[<-uZ]at px hE;have bH:(vC s.W f.S f.n B D S).heap.size=s.W.heap.size+5:=by
  unfold vC;rw[Fc,size_setCell,(Ll z _ _).size]
 have O:0<s.gs.size:=by
  have:=(gG.1 b.top).1;omega
 have zo:=avT C u E aE z O W px hE bH;rw[<-r2]at zo;have uN:=zo.re K;have Z0:W'=(vC s.W f.S f.n B D S).at K:=r5;rw[<-Z0]at uN;obtain⟨s1,xK,⟨N2,uQ⟩,f1,f2,f3,f4,f5,f6,_,_,⟨τ,d,f7⟩,_,dW,eW⟩:=settle r4 r3 uN _ _;have cv:s1.bW=⟨o.finish (.agg #[ay (j.heap.size+2+B),ay (j.heap.size+2+D)]),r,re (re (BD j f.D B D V q3) (vC s.W f.S f.n B D S).tape K) τ d⟩:=by unfold dM.bW;rw[f1,f2,f7,zD]
 obtain⟨kk,nn,aa,hk,hL⟩:∃k n b,0<k/\kj LL ⟨Hc (JL e) (ptr f.S 0),o::r,s.w⟩ s1.bW k n b:=by
  rw[cv];exact⟨(n1+n2)+1+n3,(0+1)+0,_,by omega,(((L1.trans L2).vz (a:=λ_ _=>0)).trans G).trans (L3.vz (a:=λ_ _=>0))⟩
 exact⟨s1,kk,nn,aa,⟨xK,i.ni.OI hf (f5.trans h0.symm) (f6.trans A.symm) hc _ f1 f2 f3 f4⟩,⟨⟨N0+n4+N2,kG (kG tf r1) uQ⟩,by
  have AF:=hE.dead L C.rel u;rw[eW,f7,Z0];exact(((AF.at _).at _).re _ _).re _ _⟩,hk,hL⟩
def cz.off(s:cz):cz:={s with st:=U}
def gB(S:Nat)(s:cz):cz:=if s.S=S then s.off else s
theorem zK(S:Nat)(s:cz):(gB S s).S=s.S:=by unfold gB;split<;>rfl
theorem G7(S:Nat)(s:cz):(gB S s).D=s.D:=by unfold gB;split<;>rfl
theorem aoD(S:Nat)(s:cz):(gB S s).n=s.n:=by unfold gB;split<;>rfl
theorem aoE{S:Nat}{s:cz}(h:(gB S s).st=Y):s.S≠S/\s.st=Y:=by
 unfold gB at h;split at h
 ·cases h
 ·exact⟨‹_›,h⟩
theorem Yx{so:cz}:∀{X:ae cz},(X.map (·.S)).Nodup->so∈X->so.st=Y->bK X=yA (bK (X.map (gB so.S)))
 |[],_,h,_=>by cases h
 |s::X,a,h,c=>by
  simp only[ft,rb]at a;rcases bQ.1 h with rfl|h
  ·have b:gB so.S so=so.off:=by unfold gB;rw[if_pos rfl]
   have d:X.map (gB so.S)=X:=by
    have:X.map (gB so.S)=X.map id:=List.map_congr_left λs f=>by
     unfold gB;rw[if_neg λe=>a.1 (ox.2 ⟨s,f,e⟩)];rfl
    rw[this,List.map_id]
   rw[ft,b,d];simp[bK,c,cz.off]
  ·have b:gB so.S s=s:=by
    unfold gB;rw[if_neg λe=>a.1 (ox.2 ⟨so,h,e.symm⟩)]
   rw[ft,b];simp only[bK];rw[Yx a.2 h c];split<;>rfl
theorem amD{X:ae cz}{so:cz}(b:∀s∈X,s.S=so.S->s=so)(a:so.st=U):bK (X.map (gB so.S))=bK X:=RA λs c=>by
                                                                                          unfold gB;split
                                                                                          ·rename_i e
                                                                                           rw[b s c e,a];rfl
                                                                                          ·rfl
structure OD(w W w' W':au)(so:cz):Prop where
 tok:∃a b,w'.heap[so.D]?=Z (.chan 2 #[cV so.off] Y a b Y)
 chan:∀(b cap:Nat)(buf:af ag)(cl:Bool)(s r:Nat)(tm:Bool),b≠bq->b≠so.D->w.heap[b]?=Z (.chan cap buf cl s r tm)->∃s' r',w'.heap[b]?=Z (.chan cap buf cl s' r' tm)
 back:∀(b cap:Nat)(buf:af ag)(cl:Bool)(s r:Nat)(tm:Bool),b≠bq->b≠so.D->w'.heap[b]?=Z (.chan cap buf cl s r tm)->∃s' r',w.heap[b]?=Z (.chan cap buf cl s' r' tm)
 cells:∀(b:Nat)c t f,w.heap[b]?=Z (.cells c t f)->w'.heap[b]?=Z (.cells c t f)
 SJ:∃k,W'.heap[so.D]?=Z (.chan 0 #[] U k k Y)
 B2:∀(b:Nat)cl j,b≠so.D->W.heap[b]?=Z (.chan 0 #[] cl j j Y)->W'.heap[b]?=Z (.chan 0 #[] cl j j Y)
 qw:∀(b:Nat)c t f,b≠so.S->W.heap[b]?=Z (.cells c t f)->W'.heap[b]?=Z (.cells c t f)
 cnt:∀i v,W.cell? (be so.S i)=Z v->W'.cell? (be so.S i)=Z (if i=11 then jI 0 else if i=12 then .int .u32 0 else if i=13 then .bool U else v)
 sh:∀x,W.shape? so.S=Z x->W'.shape? so.S=Z x
section
variable {V:Loc->Prop}{T:Bool}{R:ae dp}{X:ae cz}{w W w' W':au}{so:cz}
theorem fL.stop(L:fL V T R X w W)(A:so∈X)(E:OD w W w' W' so)(S:∃a b,w'.heap[bq]?=Z (.chan 5 (if T then#[bK (X.map (gB so.S))]else#[]) Y a b Y)):fL V T R (X.map (gB so.S)) w' W':=by
 obtain⟨sa,sb,P⟩:=(L.s so A).lone;obtain⟨_,_,N⟩:=L.gate;have z:∀{b d s r:Nat}{i:af ag}{B tm:Bool},d≠5->d≠2->w.heap[b]?=Z (.chan d i B s r tm)->∃o r',w'.heap[b]?=Z (.chan d i B o r' tm):=λ{b d s r i B tm}h5 m n=>E.chan b _ _ _ _ _ _ (L.rv n N h5) (L.rv n P m) n;have q:∀o,o∈X.map (gB so.S)->∃s∈X,o=gB so.S s:=λo h=>by obtain⟨s,p,m⟩:=ox.1 h;exact⟨s,p,m.symm⟩
 have rS:∀s∈X,s.S=so.S->s=so:=λs g e=>L.ua s g so A e;have LY:∀s∈X,s.S≠so.S->gB so.S s=s:=λs _ h=>by unfold gB;rw[if_neg h]
 refine⟨λo H=>?_,λk bX=>?_,λb d i B x y tm n=>?_,?_,?_,L.CC,L.CB,L.zE,?_,?_,?_,L.nodup,by rw[Ze (zK so.S)];exact L.Bm⟩
 ·obtain⟨s,g,rfl⟩:=q o H
  have l:=L.s s g;by_cases e:s.S=so.S
  ·obtain rfl:=rS s g e
   have em:gB s.S s=s.off:=by unfold gB;rw[if_pos F]
   rw[em];refine⟨E.tok,E.SJ,⟨zT (E.cells _) l.sh.1,E.sh _ l.sh.2⟩,?_,?_,?_,?_,l.bU,l.le⟩
   ·exact E.cnt 10 _ l.done
   ·exact E.cnt 11 _ l.cnt
   ·exact E.cnt 12 _ l.qi
   ·exact E.cnt 13 _ l.stop
  ·rw[LY s g e]
   have M:s.D≠so.D:=λh=>e (by rw[L.x9 s g so A h]);obtain⟨a,b,Q⟩:=l.lone;obtain⟨k,C⟩:=l.real;exact⟨E.chan _ _ _ _ _ _ _ (L.rv Q N ai) M Q,⟨k,E.B2 _ _ _ M C⟩,⟨zT (E.cells _) l.sh.1,zT (λc t f=>E.qw _ c t f e) l.sh.2⟩,uJ (λc t f=>E.qw _ c t f e) l.done,uJ (λc t f=>E.qw _ c t f e) l.cnt,uJ (λc t f=>E.qw _ c t f e) l.qi,uJ (λc t f=>E.qw _ c t f e) l.stop,l.bU,l.le⟩
 ·have l:=L.k k bX
  obtain⟨s,g,e1,G⟩:=l.pF;obtain⟨_,_,D⟩:=l.work;obtain⟨_,_,u⟩:=l.told;obtain⟨_,_,q3⟩:=l.wb;obtain⟨_,_,q4⟩:=l.sb;obtain⟨j,q5⟩:=l.yD;have rT:=(L.s so A).sh.2;refine⟨⟨gB so.S s,kV g,by rw[zK,e1],by rw[G7,G]⟩,z ai ai D,z ai ai u,⟨j,E.B2 _ _ _ (L.rv u P ai) q5⟩,z ai ai q3,E.qw _ _ _ _ (λe=>?_) l.ra,z ai ai q4,E.qw _ _ _ _ (λe=>?_) l.tC,l.bU⟩
  ·unfold fD at rT
   rw[<-e,l.ra]at rT;cases rT
  ·unfold fD at rT
   rw[<-e,l.tC]at rT;cases rT
 ·by_cases G:b=so.D
  ·subst G
   obtain⟨_,_,h⟩:=E.tok;rw[h]at n;cases n;exact⟨F,F,.done (gB so.S so) (kV A) (G7 so.S so).symm,λe=>by cases e⟩
  ·by_cases O:b=bq
   ·subst O
    obtain⟨_,_,h⟩:=S;rw[h]at n;cases n;exact⟨F,F,.gate F,λe=>by cases e⟩
   obtain⟨_,_,h⟩:=E.back b d i B x y tm O G n;obtain⟨p,m,h3,h4⟩:=L.chans _ _ _ _ _ _ _ h;refine⟨p,m,?_,h4⟩;cases h3 with
   |work k C e=>exact .work k C e
   |done s g e=>exact .done (gB so.S s) (kV g) (by rw[G7];exact e)
   |told k C e=>exact .told k C e
   |box=>exact .box
   |gate e=>exact .gate e
   |hand e=>exact .hand e
 ·exact S
 ·obtain⟨v,a,b,h,hv⟩:=L.hand
  obtain⟨a',b',h'⟩:=z ai ai h;exact⟨v,a',b',h',hv.imp id λ⟨s,g,e⟩=>⟨gB so.S s,kV g,by rw[G7];exact e⟩⟩
 ·intro s1 p s2 m e
  obtain⟨J,D,rfl⟩:=q s1 p;obtain⟨K,u,rfl⟩:=q s2 m;rw[G7,G7]at e;rw[L.x9 J D K u e]
 ·intro s1 p s2 m e
  obtain⟨J,D,rfl⟩:=q s1 p;obtain⟨K,u,rfl⟩:=q s2 m;rw[zK,zK]at e;rw[L.ua J D K u e]
 ·intro o H
  obtain⟨s,g,rfl⟩:=q o H;rw[zK,aoD];exact L.count s g
theorem Core.stop{D At:Nat->Loc->Prop}{g:Loc->Prop}{t r:Nat->aj YS}{B n:Nat}(C:Core V D At g t R X I B n w W)(M:so∈X)(E:OD w W w' W' so)(qK:∃a b,w'.heap[bq]?=Z (.chan 5 #[bK (X.map (gB so.S))] Y a b Y))(px:Rel (bN ak) V w' W')(Q:W'.heap.size<=B)(u:∀k∈R,k.S=so.S->r k.g=I)(z:∀x,(∀k∈R,k.S=so.S->k.g≠x)->r x=t x)(G:∀x,r x=I\/r x=t x):Core V D At g r R (X.map (gB so.S)) I B n w' W':=by
 have L:=C.fo;have A:∀f,f∈X.map (gB so.S)->∃s∈X,f=gB so.S s:=λf h=>by obtain⟨s,u,z⟩:=ox.1 h;exact⟨s,u,z.symm⟩
 refine⟨px,L.stop M E qK,Q,C.qW,λl=>?_,C.y8,C.Av,C.cK,λk m f o c q=>?_,λk m f o c q=>?_,λi y v=>?_,C.g0,λj hj=>by cases hj⟩
 ·rw[C.mI]
  constructor
  ·rintro⟨s,d,h⟩
   exact⟨gB so.S s,kV d,by rw[zK];exact h⟩
  ·rintro⟨f,o,h⟩
   obtain⟨s,d,rfl⟩:=A f o;rw[zK]at h;exact⟨s,d,h⟩
 ·obtain⟨s,d,rfl⟩:=A f o
  rw[zK]at c;obtain⟨p,N⟩:=aoE q;rw[z k.g λk' K O P=>p (by rw[c,<-L.zE k' K k m P,O])];exact C.yr k m s d c N
 ·obtain⟨s,d,rfl⟩:=A f o
  rw[zK]at c;by_cases p:s.S=so.S
  ·exact u k m (c.symm.trans p)
  ·have:gB so.S s=s:=by unfold gB;rw[if_neg p]
   rw[this]at q;rcases G k.g with h|h
   ·exact h
   ·rw[h];exact C.gone k m s d c q
 ·have S:t i=Z y:=by
   rcases G i with h|h
   ·rw[h]at v;cases v
   ·rw[<-h];exact v
  obtain⟨k,m,s,d,c,q,p,H,rfl⟩:=C.Bn S;have J:s.S≠so.S:=λe=>by
   have:=u k m (c.symm.trans e);rw[p,v]at this;cases this
  have o:gB so.S s=s:=by unfold gB;rw[if_neg J]
  exact .inl ⟨k,m,gB so.S s,kV d,by rw[zK];exact c,by rw[o];exact q,p,H,F⟩
end
abbrev lD(g:Nat->ag)(l:ae ag)(d:ae aK)(V:ae bV)(X:dD):az:=⟨30,bO 25 g l,d,V,.run,X,I⟩
noncomputable def zJ:af bh:=#[aO 12 (.recv 100 (kc gL) Y),dR (.send (kc gL) (tm 12)),aO 11 (.fieldAddr 109 (tm 0) 11),aO 9 (.move (tm 0)),aO 10 (.nilCheck (tm 9))]++yl (tm 10) 22 23 21
noncomputable def b30:af bh:=#[aO 12 (.field 50 (tm 23) 2),aO 13 (.unOp .not 4 (tm 12))]
noncomputable def t30:af bh:=#[aO 24 (.recv 100 (kc gL) Y),aO 24 (.typeAssert (tm 24) 20 3 Y),dR (.send (kc gL) (tm 24)),aO 24 (.field 50 (tm 23) 1),aO 23 (.build 50 [(0,tm 10),(1,tm 24),(2,kc (.bool U))].toArray),dR (.send (tm 22) (tm 23)),aO 14 (.move (tm 0)),aO 15 (.nilCheck (tm 14)),aO 16 (.fieldAddr 109 (tm 15) 11),aO 17 (.move (tm 0)),aO 18 (.nilCheck (tm 17)),aO 19 (.fieldAddr 109 (tm 18) 9),aO 20 (.move (tm 22))]
noncomputable def Lw:af bh:=#[dR (.send (tm 22) (tm 23))]
noncomputable def xC:af bh:=#[aO 21 (.move (tm 0)),aO 22 (.nilCheck (tm 21)),aO 23 (.fieldAddr 109 (tm 22) 10),aO 24 (.assign (kc (.tuple #[])))]
noncomputable def aes:bl:=.seq (.cond (tm 13) (reg t30) (reg Lw)) (reg xC)
noncomputable def K3:bl:=.seq (reg b30) aes
noncomputable def F0:bl:=.seq (.cond (tm 21) .skip (.refuse "")) K3
abbrev tO(u v:Bool)(S D n:Nat)(d b:Bool)(l:ae (Nat×ag)):ae (Nat×ag):=(12,.bool u)::(13,.bool v)::(11,ptr S 13)::(9,ptr S 0)::(10,ptr S 0)::(22,ay D)::(23,cV ⟨S,D,n,d⟩)::(21,.bool b)::l
def yp(s:cz):ae (Nat×ag):=if s.st then [(9,ptr s.S 0),(10,ptr s.S 0),(11,ptr s.S 13),(12,.bool U),(13,.bool Y),(21,ptr s.S 0),(22,ptr s.S 0),(23,ptr s.S 11),(24,.tuple #[])]
 else [(9,ptr s.S 0),(10,ptr s.S 0),(11,ptr s.S 13),(12,.bool Y),(13,.bool U),(14,ptr s.S 0),(15,ptr s.S 0),(16,ptr s.S 13),(17,ptr s.S 0),(18,ptr s.S 0),(19,ptr s.S 10),(20,ay s.D),(21,ptr s.S 0),(22,ptr s.S 0),(23,ptr s.S 11),(24,.tuple #[])]
section
variable (g:Nat->ag)(l:ae ag)(k:ae aK)(V:ae bV)(X:dD)(P:X=.normal\/X=.deferred)(T:ae az)(O:aR)(S n D:Nat)(u x y z p:ag)
include P
theorem alY:aN LL 2 (G (lD g l (.code Bu::k) V X) T)=G (aV 30 (bO 25 g l) zJ [0,1,2,3,4,5,6,7,8,9,10,11,12,13,14,15] (.code F0::k) V X) T:=by
 rcases P with rfl|rfl<;>kernel_rfl
theorem alW:fQ LL (cu (bJ ⟨30,bO 25 g l,[],V,.run,X,I⟩) (aO 12 (.recv 100 (kc gL) Y)))=Z (.comm #[{chan:=gL,send:=I,zero:=.agg #[]}] U (.recv Y)):=by
 rcases P with rfl|rfl<;>kernel_rfl
theorem alX:fQ LL (cu (bJ ⟨30,bO 25 (ov g [(12,u)]) l,[],V,.run,X,I⟩) (dR (.send (kc gL) (tm 12))))=Z (.comm #[{chan:=gL,send:=Z u,zero:=.tuple #[]}] U .send):=by
 rcases P with rfl|rfl<;>kernel_rfl
theorem al2:aN LL 3 (G (aV 30 (bO 25 (ov (cN g (.pointer (Z O))) [(12,u)]) l) zJ [2,3,4,5,6,7,8,9,10,11,12,13,14,15] (.code F0::k) V X) T)=G (aV 30 (bO 25 (ov (cN g (.pointer (Z O))) [(12,u),(11,.pointer (Z (O.add 13))),(9,.pointer (Z O)),(10,.pointer (Z O))]) l) zJ [5,6,7,8,9,10,11,12,13,14,15] (.code F0::k) V X) T:=by
 rcases P with rfl|rfl<;>kernel_rfl
theorem alZ(t:af ag):aN LL 2 (G (aV 30 t zJ [] (.code F0::k) V X) T)=G ⟨30,t,.code (.cond (tm 21) .skip (.refuse ""))::.code K3::k,V,.run,X,I⟩ T:=by
 rcases P with rfl|rfl<;>kernel_rfl
theorem alO(b:Bool):aN LL 10 (G ⟨30,bO 25 (ov (cN g (ptr S 0)) [(12,u),(11,ptr S 13),(9,ptr S 0),(10,ptr S 0),(22,ay D),(23,cV ⟨S,D,n,Y⟩),(21,.bool b)]) l,.code K3::k,V,.run,X,I⟩ T)=G (aV 30 (bO 25 (ov (cN g (ptr S 0)) (tO Y U S D n Y b [])) l) t30 [0,1,2,3,4,5,6,7,8,9,10,11,12] (.code (reg xC)::k) V X) T:=by
 rcases P with rfl|rfl<;>kernel_rfl
theorem alP(b:Bool):fQ LL (cu (bJ ⟨30,bO 25 (ov (cN g (ptr S 0)) (tO Y U S D n Y b [])) l,[],V,.run,X,I⟩) (aO 24 (.recv 100 (kc gL) Y)))=Z (.comm #[{chan:=gL,send:=I,zero:=.agg #[]}] U (.recv Y)):=by
 rcases P with rfl|rfl<;>kernel_rfl
theorem alQ(b:Bool):aN LL 1 (G (aV 30 ((bO 25 (ov (cN g (ptr S 0)) (tO Y U S D n Y b [])) l).setIfInBounds 24 (yA u)) t30 [1,2,3,4,5,6,7,8,9,10,11,12] (.code (reg xC)::k) V X) T)=G (aV 30 (bO 25 (ov (cN g (ptr S 0)) (tO Y U S D n Y b [(24,u)])) l) t30 [2,3,4,5,6,7,8,9,10,11,12] (.code (reg xC)::k) V X) T:=by
 rcases P with rfl|rfl<;>kernel_rfl
theorem alR(b:Bool):fQ LL (cu (bJ ⟨30,bO 25 (ov (cN g (ptr S 0)) (tO Y U S D n Y b [(24,u)])) l,[],V,.run,X,I⟩) (dR (.send (kc gL) (tm 24))))=Z (.comm #[{chan:=gL,send:=Z u,zero:=.tuple #[]}] U .send):=by
 rcases P with rfl|rfl<;>kernel_rfl
theorem alS(b:Bool):aN LL 2 (G (aV 30 (bO 25 (ov (cN g (ptr S 0)) (tO Y U S D n Y b [(24,u)])) l) t30 [3,4,5,6,7,8,9,10,11,12] (.code (reg xC)::k) V X) T)=G (aV 30 (bO 25 (ov (cN g (ptr S 0)) (tO Y U S D n U b [(24,ah n)])) l) t30 [5,6,7,8,9,10,11,12] (.code (reg xC)::k) V X) T:=by
 rcases P with rfl|rfl<;>kernel_rfl
theorem alV(b:Bool):fQ LL (cu (bJ ⟨30,bO 25 (ov (cN g (ptr S 0)) (tO Y U S D n U b [(24,ah n)])) l,[],V,.run,X,I⟩) (dR (.send (tm 22) (tm 23))))=Z (.comm #[{chan:=ay D,send:=Z (cV ⟨S,D,n,U⟩),zero:=.tuple #[]}] U .send):=by
 rcases P with rfl|rfl<;>kernel_rfl
theorem alU(b:Bool):aN LL 14 (G (aV 30 (bO 25 (ov (cN g (ptr S 0)) (tO Y U S D n U b [(24,ah n)])) l) t30 [6,7,8,9,10,11,12] (.code (reg xC)::k) V X) T)=G (lD (ov (cN g (ptr S 0)) (yp ⟨S,D,n,Y⟩)) l k V X) T:=by
 rcases P with rfl|rfl<;>kernel_rfl
theorem al0(b:Bool):aN LL 8 (G ⟨30,bO 25 (ov (cN g (ptr S 0)) [(12,u),(11,ptr S 13),(9,ptr S 0),(10,ptr S 0),(22,ay D),(23,cV ⟨S,D,n,U⟩),(21,.bool b)]) l,.code K3::k,V,.run,X,I⟩ T)=G (aV 30 (bO 25 (ov (cN g (ptr S 0)) (tO U Y S D n U b [])) l) Lw [0] (.code (reg xC)::k) V X) T:=by
 rcases P with rfl|rfl<;>kernel_rfl
theorem al3(b:Bool):fQ LL (cu (bJ ⟨30,bO 25 (ov (cN g (ptr S 0)) (tO U Y S D n U b [])) l,[],V,.run,X,I⟩) (dR (.send (tm 22) (tm 23))))=Z (.comm #[{chan:=ay D,send:=Z (cV ⟨S,D,n,U⟩),zero:=.tuple #[]}] U .send):=by
 rcases P with rfl|rfl<;>kernel_rfl
theorem al1(b:Bool):aN LL 7 (G (aV 30 (bO 25 (ov (cN g (ptr S 0)) (tO U Y S D n U b [])) l) Lw [] (.code (reg xC)::k) V X) T)=G (lD (ov (cN g (ptr S 0)) (yp ⟨S,D,n,U⟩)) l k V X) T:=by
 rcases P with rfl|rfl<;>kernel_rfl
end
section
variable (g:Nat->ag)(l:ae ag)(u x y z a b c:ag)
theorem asE:(bO 25 g l).setIfInBounds 12 u=bO 25 (ov g [(12,u)]) l:=av
theorem asF:(((bO 25 (ov g [(12,u),(11,a),(9,b),(10,c)]) l).setIfInBounds 22 x).setIfInBounds 23 y).setIfInBounds 21 z=bO 25 (ov g [(12,u),(11,a),(9,b),(10,c),(22,x),(23,y),(21,z)]) l:=av
theorem ag2:(bO 25 (ov g [(12,u),(11,a),(9,b),(10,c)]) l).getD 10 aC=c:=av
theorem ag3:(bO 25 (ov g [(12,u),(11,a),(9,b),(10,c),(22,x),(23,y),(21,z)]) l).getD 21 aC=z:=av
theorem Tb:25<=(bO 25 g l).size:=by simp[bO]
end
theorem aoz(m:Nat)(h:m<11):zJ[5+m]?=(yl (tm 10) 22 23 21)[m]?:=by
 have e:zJ[5+m]?=(#[aO 12 (.recv 100 (kc gL) Y),dR (.send (kc gL) (tm 12)),aO 11 (.fieldAddr 109 (tm 0) 11),aO 9 (.move (tm 0)),aO 10 (.nilCheck (tm 9))]++yl (tm 10) 22 23 21)[5+m]?:=rfl;rw[e,Array.getElem?_append_right aZ];simp
section
variable {R:ag->au->Prop}{M:Loc->Prop}{N:Bool}{K:ae dp}{Q:ae cz}{w W:au}{T:ae az}
theorem Alike.two{w h f:au}(j:Alike w h){D G H a b:Nat}{E:af ag}{d o v0:ag}(B:w.heap[bq]?=Z (.chan 5 #[v0] Y G H Y))(v:w.heap[D]?=Z (.chan 2 E Y a b Y))(hz:f.heap.size=h.heap.size)(J:f.tape=h.tape)(L:f.drawn=h.drawn)(h3:f.os=h.os)(h4:f.output=h.output)(m:∃r s c3 t,∀b:Nat,f.heap[b]?=if b=D then Z (.chan 2 #[d] Y r s Y)else if b=bq then Z (.chan 5 #[o] Y c3 t Y)else h.heap[b]?):Alike ((w.setChan D 2 #[d] Y 0 0 Y).setChan bq 5 #[o] Y 0 0 Y) f:=by
 obtain⟨r,s,c3,t,m⟩:=m;have C:D≠bq:=λe=>by rw[e,B]at v;cases v
 have A:∀b:Nat,((w.setChan D 2 #[d] Y 0 0 Y).setChan bq 5 #[o] Y 0 0 Y).heap[b]?=if b=bq then Z (.chan 5 #[o] Y 0 0 Y)else if b=D then Z (.chan 2 #[d] Y 0 0 Y)else w.heap[b]?:=λb=>by
  rw[heap_setChan _ (by rw[size_setChan];exact cZ B),heap_setChan _ (cZ v)]
 refine⟨by rw[hz,j.size,size_setChan,size_setChan],J.trans j.tape,L.trans j.drawn,h3.trans j.os,h4.trans j.output,λb=>?_⟩;by_cases i:b=D
 ·exact .inr ⟨2,#[d],Y,0,0,r,s,Y,by rw[A,if_neg (by rw[i];exact C),if_pos i],by rw[m,if_pos i]⟩
 ·by_cases q:b=bq
  ·exact .inr ⟨5,#[o],Y,0,0,c3,t,Y,by rw[A,if_pos q],by rw[m,if_neg i,if_pos q]⟩
  ·rw[m,if_neg i,if_neg q,A,if_neg q,if_neg i]
   exact j.obj b
theorem am2(L:fL M N K Q w W)(hr:Rel (bN ak) M w W)(eI:Below ak LL T)(r:T≠[]){g:Nat->ag}{l:ae ag}{k:ae aK}{V:ae bV}{X:dD}{p:ag}(i:X=.normal\/X=.deferred)(fN:∀d∈V,lV ak d)
  (hg:Good LL R ⟨lD (cN g p) l (.code Bu::k) V X,T,w⟩):
  N=U/\∃C∈Q,p=ptr C.S 0/\∃n w',0<n/\Alike ((w.setChan C.D 2 #[cV C.off] Y 0 0 Y).setChan bq 5 #[bK (Q.map (gB C.S))] Y 0 0 Y) w'/\eV LL ⟨lD (cN g p) l (.code Bu::k) V X,T,w⟩ ⟨lD (ov (cN g (ptr C.S 0)) (yp C)) l k V X,T,w'⟩ n:=by
 have hh:∀τ e,iY ak (re w τ e):=λτ e=>hr.tk;obtain⟨ga,gb,f⟩:=L.gate;obtain⟨n1,L1,g1⟩:=hg.quiet 2 (alY _ l k V X i T) r;have x0:zJ[0]?=Z (aO 12 (.recv 100 (kc gL) Y)):=by kernel_rfl
 have x1:zJ[1]?=Z (dR (.send (kc gL) (tm 12))):=by kernel_rfl
 obtain⟨c,o,j,G,a,b,H,t,E,e3⟩:=zP i r x0 (alW (cN g p) l V X i) g1;cases t;have E:w.heap[bq]?=Z (.chan o j G a b H):=E;rw[f]at E;cases E;obtain⟨h0,L2,g2⟩:=e3 F;cases N with
 |false=>simp at h0
 |true=>
 refine⟨F,?_⟩;have f:w.heap[bq]?=Z (.chan 5 #[bK Q] Y ga gb Y):=f;have L2:eV LL _ ⟨aV 30 ((bO 25 (cN g p) l).setIfInBounds 12 (bK Q)) zJ [1,2,3,4,5,6,7,8,9,10,11,12,13,14,15] (.code F0::k) V X,T,w.setChan bq 5 #[] Y ga (gb+1) Y⟩ 1:=L2;have g2:Good LL R ⟨aV 30 ((bO 25 (cN g p) l).setIfInBounds 12 (bK Q)) zJ [1,2,3,4,5,6,7,8,9,10,11,12,13,14,15] (.code F0::k) V X,T,w.setChan bq 5 #[] Y ga (gb+1) Y⟩:=g2;rw[asE]at L2 g2;have gv:(w.setChan bq 5 #[] Y ga (gb+1) Y).heap[bq]?=Z (.chan 5 #[] Y ga (gb+1) Y):=oE _ f _ _ _ _ _ _;obtain⟨c,o,j,G,a,b,H,t,E,e3⟩:=vm i r x1 (alX (cN g p) l V X i (bK Q)) g2;cases t;have E:(w.setChan bq 5 #[] Y ga (gb+1) Y).heap[bq]?=Z (.chan o j G a b H):=E;rw[gv]at E;cases E;obtain⟨_,L3,g3⟩:=e3 F;have A3:Alike w ((w.setChan bq 5 #[] Y ga (gb+1) Y).setChan bq 5 ((#[]:af ag).push (bK Q)) Y (ga+1) (gb+1) Y):=Alike.eo f _ _ _ _ _;generalize ((w.setChan bq 5 #[] Y ga (gb+1) Y).setChan bq 5 ((#[]:af ag).push (bK Q)) Y (ga+1) (gb+1) Y)=w3 at L3 g3 A3;have LA:=L.alike A3;have rA:=hr.alike A3;have ι:∀τ e,iY ak (re w3 τ e):=λτ e=>rA.tk;have e0:cu (bJ ⟨30,bO 25 (ov (cN g p) [(12,bK Q)]) l,[],V,.run,X,I⟩) (aO 11 (.fieldAddr 109 (tm 0) 11))=(do pure (.value (<-sH 109 p 11))):=rfl;rcases Ly w3 p 11 13 (.inr (.inl ⟨F,F⟩))with⟨v,⟨O,Em,_⟩,_⟩|de
 case inr=>exact(qI i eI fN ι av e0 de g3).elim
 subst Em;obtain⟨n4,L4,g4⟩:=g3.quiet 3 (al2 g l k V X i T O (bK Q)) r;obtain⟨C,cY,bb,n5,J,x,y,rN,Ca,A5,L5,g5⟩:=RF (i0:=5) (sl:=10) (a:=22) (b:=23) (c:=21) (rest:=[]) LA rA eI r i fN aoz (ayS ai (Tb _ l)) (ayS ai (Tb _ l)) (ayS ai (Tb _ l)) ai ai ai ai ai ai g4;rw[asF]at L5 g5;rw[ag2]at rN;obtain⟨n6,L6,g6⟩:=g5.quiet 2 (alZ k V X i T _) r;obtain⟨D9,L7⟩:=DT (bb:=bb) g6 r (ag3 (cN g (.pointer (Z O))) l (bK Q) (ay C.D) (cV C) (.bool bb) (.pointer (Z (O.add 13))) (.pointer (Z O)) (.pointer (Z O)));have g7:=g6.mF L7 r;subst D9;have I4:=rN F;cases I4;refine⟨C,cY,F,?_⟩;obtain⟨sa,sb,B9⟩:=(L.s C cY).lone;have A6:Alike w J:=A3.trans A5;have wq:(J.setChan C.D 2 #[] Y x (y+1) Y).heap[C.D]?=Z (.chan 2 #[] Y x (y+1) Y):=oE _ Ca _ _ _ _ _ _;obtain⟨S,D,m,st⟩:=C;cases st with
 |false=>
  obtain⟨n8,L8,g8⟩:=g7.quiet 10 (alO g l k V X i T S m D (bK Q) U) r;have y0:t30[0]?=Z (aO 24 (.recv 100 (kc gL) Y)):=by kernel_rfl
  have y2:t30[2]?=Z (dR (.send (kc gL) (tm 24))):=by kernel_rfl
  have x2:t30[5]?=Z (dR (.send (tm 22) (tm 23))):=by kernel_rfl
  have DX:D≠bq:=λe=>by rw[e,f]at B9;cases B9
  have I':∃A B,(J.setChan D 2 #[] Y x (y+1) Y).heap[bq]?=Z (.chan 5 #[bK Q] Y A B Y):=by
   obtain⟨A,B,h⟩:=A6.m7 f;exact⟨A,B,by rw[mM _ _ _ _ _ _ _ DX];exact h⟩
  obtain⟨A,B,I'⟩:=I';obtain⟨ch,o,j,G,a',b',H,f4,q,f6⟩:=zP i r y0 (alP g l V X i S m D U) g8;cases f4;have q:(J.setChan D 2 #[] Y x (y+1) Y).heap[bq]?=Z (.chan o j G a' b' H):=q;rw[I']at q;cases q;obtain⟨_,KD,LN⟩:=f6 F;have QA:=Yx L.Bm cY F;generalize μ:bK (Q.map (gB S))=lv at*;have KD:eV LL _ ⟨aV 30 ((bO 25 (ov (cN g (ptr S 0)) (tO Y U S D m Y U [])) l).setIfInBounds 24 (bK Q)) t30 [1,2,3,4,5,6,7,8,9,10,11,12] (.code (reg xC)::k) V X,T,(J.setChan D 2 #[] Y x (y+1) Y).setChan bq 5 #[] Y A (B+1) Y⟩ 1:=KD;have LN:Good LL R ⟨aV 30 ((bO 25 (ov (cN g (ptr S 0)) (tO Y U S D m Y U [])) l).setIfInBounds 24 (bK Q)) t30 [1,2,3,4,5,6,7,8,9,10,11,12] (.code (reg xC)::k) V X,T,(J.setChan D 2 #[] Y x (y+1) Y).setChan bq 5 #[] Y A (B+1) Y⟩:=LN;rw[QA]at KD LN;obtain⟨ν,β,ε⟩:=LN.quiet 1 (alQ g l k V X i T S m D lv U) r;have MF:((J.setChan D 2 #[] Y x (y+1) Y).setChan bq 5 #[] Y A (B+1) Y).heap[bq]?=Z (.chan 5 #[] Y A (B+1) Y):=oE _ I' _ _ _ _ _ _;obtain⟨ch,o,j,G,a',b',H,f4,q,f6⟩:=vm i r y2 (alR g l V X i S m D lv U) ε;cases f4;have q:((J.setChan D 2 #[] Y x (y+1) Y).setChan bq 5 #[] Y A (B+1) Y).heap[bq]?=Z (.chan o j G a' b' H):=q;rw[MF]at q;cases q;obtain⟨_,γ,ζ⟩:=f6 F;obtain⟨ξ,δ,η⟩:=ζ.quiet 2 (alS g l k V X i T S m D lv U) r;generalize GL:((J.setChan D 2 #[] Y x (y+1) Y).setChan bq 5 #[] Y A (B+1) Y).setChan bq 5 ((#[]:af ag).push lv) Y (A+1) (B+1) Y=w8 at*;have Xy:∀b:Nat,w8.heap[b]?=if b=bq then Z (.chan 5 #[lv] Y (A+1) (B+1) Y)else(J.setChan D 2 #[] Y x (y+1) Y).heap[b]?:=λb=>by
   rw[<-GL,heap_setChan _ (cZ MF),heap_setChan _ (cZ I')];split<;>rfl
  have XO:w8.heap[D]?=Z (.chan 2 #[] Y x (y+1) Y):=by rw[Xy,if_neg DX];exact wq
  obtain⟨ch,o,j,G,a',b',H,f4,q,f6⟩:=vm i r x2 (alV g l V X i S m D U) η;cases f4;have q:w8.heap[D]?=Z (.chan o j G a' b' H):=q;rw[XO]at q;cases q;obtain⟨_,L9,g9⟩:=f6 F;obtain⟨κ,nT,_⟩:=g9.quiet 14 (alU g l k V X i T S m D U) r;have j5:=((((((((((((L1.trans L2).trans L3).trans L4).trans L5).trans L6).trans L7).trans L8).trans KD).trans β).trans γ).trans δ).trans L9).trans nT;refine⟨_,_,by omega,?_,j5⟩;refine A6.two f B9 (by rw[size_setChan,<-GL,size_setChan,size_setChan,size_setChan]) (by rw[<-GL];rfl) (by rw[<-GL];rfl) (by rw[<-GL];rfl) (by rw[<-GL];rfl) ⟨x+1,y+1,A+1,B+1,λb=>?_⟩;rw[heap_setChan _ (cZ XO),Xy];by_cases t:b=D
  ·rw[if_pos t,if_pos t];rfl
  ·rw[if_neg t,if_neg t,mM _ _ _ _ _ _ _ λe=>t e.symm]
 |true=>
  obtain⟨n8,L8,g8⟩:=g7.quiet 8 (al0 g l k V X i T S m D (bK Q) U) r;have x2:Lw[0]?=Z (dR (.send (tm 22) (tm 23))):=by kernel_rfl
  obtain⟨ch,o,j,G,a',b',H,f4,q,f6⟩:=vm i r x2 (al3 g l V X i S m D U) g8;cases f4;have q:(J.setChan D 2 #[] Y x (y+1) Y).heap[D]?=Z (.chan o j G a' b' H):=q;rw[wq]at q;cases q;obtain⟨_,L9,g9⟩:=f6 F;obtain⟨κ,nT,_⟩:=g9.quiet 7 (al1 g l k V X i T S m D U) r;have j5:=((((((((L1.trans L2).trans L3).trans L4).trans L5).trans L6).trans L7).trans L8).trans L9).trans nT;refine⟨_,_,by omega,?_,j5⟩;have QA:bK (Q.map (gB S))=bK Q:=amD (so:=⟨S,D,m,U⟩) (λs hs e=>L.ua s hs _ cY e) F;have DX:D≠bq:=λe=>by rw[e,f]at B9;cases B9
  obtain⟨A,B,θ⟩:=A6.m7 f;show Alike ((w.setChan D 2 #[cV (⟨S,D,m,U⟩:cz).off] Y 0 0 Y).setChan bq 5 #[bK (Q.map (gB S))] Y 0 0 Y) _;rw[QA];refine A6.two f B9 (by rw[size_setChan,size_setChan]) F F F F ⟨x+1,y+1,A,B,λb=>?_⟩;rw[heap_setChan _ (cZ wq)];by_cases t:b=D
  ·rw[if_pos t,if_pos t];rfl
  ·rw[if_neg t,if_neg t,mM _ _ _ _ _ _ _ λe=>t e.symm]
   by_cases E:b=bq
   ·rw[if_pos E,E];exact θ
   ·rw[if_neg E]
end
section
open Go.ConcN (sumTo upd sumTo_upd upd_ne upd_same)
section
variable {P:aA}{St At:Nat->Loc->Prop}{Shun:Loc->Prop}{W Lo:Nat->Prop}{ax:Nat->aj YS}{X:Nat->Prop}{B:Nat}{Kn:dJ->Nat->Prop}{T:dJ}{gs:af aH}{w:au}{q:Nat->Nat}
theorem Yd.Nl(C:Yd P St At Shun W Lo ax X B Kn T gs w q){i k:Nat}{f:aH}{a:af MemOp}{b:af aH}(aE:i<gs.size)(r:b.size=gs.size)(o:∀x,x≠i->¬X x->b[x]?=gs[x]?)(v:b[i]?=Z f)(m:∀A∈a,A.g=i)(p:¬X i->Ot P (T++a) i k f (ax i))(n:eu St Shun At W Lo B (Kn (T++a)) (T++a)):Yd P St At Shun W Lo ax X B Kn (T++a) b w (upd q i k):=by
 refine⟨λx y g c=>?_,C.chans,C.wf,C.inj,λj u=>?_,λi t=>by rw[r];exact C.lt i t,C.mem,C.nomem,C.lo,n,C.keep,C.places,λj l u=>C.fresh j l ai⟩
 ·by_cases e:x=i
  ·subst e
   rw[v]at c;obtain rfl:=dQ c;rw[upd_same];exact p g
  ·rw[o x e g]at c
   rw[upd_ne q k e];have h:=C.idle x y g c;cases es:ax x with
   |none=>rw[es]at h;exact⟨h.1,by rw[mX T (λz=>e z.symm) a m];exact h.2⟩
   |some s=>rw[es]at h;exact h
 ·rw[mX T (g':=i) ai a m]
  exact C.above j ai
def KM(X:Nat->Prop)(w:au)(i:Nat)(gs a:af aH):Prop:=a.size=gs.size/\∀x b,x≠i->gs[x]?=Z b->a[x]?=Z b\/(X x/\a[x]?=Z (b.again w))
theorem KM.plain{i:Nat}{a:af aH}(h:KM X w i gs a):∀x,x≠i->¬X x->a[x]?=gs[x]?:=λx f c=>by
 cases e:gs[x]? with
 |none=>rw[Aa]at e⊢;rw[h.1];exact e
 |some b=>exact(h.2 x b f e).resolve_right λz=>c z.1
theorem Y'(h:Event.mute e=U)(a:aR):gy e≠.mark (.release a):=by
 obtain⟨b,f,c⟩:=e;cases b with
 |mark m=>cases m<;>first|(simp[Event.mute]at h;done)|(intro z;cases z)
 |_=>simp[Event.mute]at h
theorem Pa{St:Loc->Prop}{B:Nat}(h:EvC St B e)(a:aR):gy e≠.mark (.release a):=by
 obtain⟨b,rfl,_⟩:=h;intro z;cases z
theorem Yd.aep(ID:∀t u i,Kn t i->Kn (t++u) i)(C:Yd P St At Shun W Lo ax X B Kn T gs w q){i:Nat}{g:aH}{sl:aj (Nat×Nat)}(L:gs[i]?=Z g)(Q:¬X i)(K:g.status=.running)
  (zy:∀x v c,X x->gs[x]?=Z v->offersAt v c U=[]):
  ∃(bD:af aH)(G:af MemOp)(n:Nat),runT P (crowd gs w sl) i=(.next (crowd bD w sl),G)/\KM X w i gs bD/\n<q i/\(∀f∈G,(f.g=i/\∀b,f.act.touch?=Z b->b.write=Y)/\(∀a,f.act≠.mark (.release a))/\(ax i=I->f.act.touch?=I))/\Yd P St At Shun W Lo ax X B Kn (T++G) bD w (upd q i n):=by
 have aE:i<gs.size:=(gG.1 L).1;have N:∀(H l:aH),KM X w i gs ((gs.map (eM P g H w)).setIfInBounds i l):=by
  intro H l;refine⟨by simp,λx v J e=>?_⟩;rw[ie (λe=>J e.symm),yJ,e];by_cases D:X x
  ·unfold eM
   split
   ·exact .inr ⟨D,F⟩
   ·exact .inl F
  ·have:=woken_of_again (P:=P) (x:=g) (x':=H) (C.fixed D e)
   exact .inl (by simp[this])
 have jw:∀(H l:aH),((gs.map (eM P g H w)).setIfInBounds i l)[i]?=Z l:=λH l=>kC (by simpa using aE);have O:=C.idle i g Q L;cases e:ax i with
 |none=>
  rw[e]at O;obtain⟨wo,R⟩:=O;have gu:(i==0)=Y:=by simp;omega
  cases V:q i with
  |zero=>rw[V]at R;rw[R.1]at K;cases K
  |succ k=>
   rw[V]at R;rcases R with⟨hf,_⟩|⟨_,l,es,M,xZ,QS⟩
   ·rw[hf]at K;cases K
   have m:∀f∈db i g.frame.fn g.frame.place es,f.g=i:=λf j=>by obtain⟨e,_,rfl⟩:=jY j;rfl
   refine⟨_,_,k,vJ (sl:=sl) L (by rw[gu];exact xZ w),N _ _,Nat.lt_succ_self k,λf j=>⟨⟨m f j,λb A=>by obtain⟨e,o,rfl⟩:=jY j;rw[touch_mute (M e o)]at A;cases A⟩,λa ha=>by obtain⟨e,o,rfl⟩:=jY j;exact Y' (M e o) a ha,λ_=>by obtain⟨e,o,rfl⟩:=jY j;exact touch_mute (M e o)⟩,?_⟩;refine C.Nl aE aZ (N _ _).plain (jw _ _) m (λ_=>by rw[e];exact⟨wo,by rw[Deaf_own];exact QS⟩) ?_;exact C.past.appMute (ID T _) m (λf j=>by obtain⟨e,o,rfl⟩:=jY j;exact touch_mute (M e o)) (λhM=>((C.nomem i hM).elim (λz=>absurd e z) (λz=>absurd z Q))) (λf j=>by obtain⟨e,o,rfl⟩:=jY j;exact low_mute (M e o) B)
 |some y=>
  rw[e]at O;obtain⟨hM,_,Jl⟩:=C.mem i y e;have S:=C.keep i y e;have Iv:∀es:af cX,(∀e∈es,EvC y.St y.B e)->(∀f∈db i g.frame.fn g.frame.place es,f.g=i)/\(∀f∈db i g.frame.fn g.frame.place es,(f.g=i/\∀b,f.act.touch?=Z b->b.write=Y)/\(∀a,f.act≠.mark (.release a))/\(Z y=I->f.act.touch?=I))/\eu St Shun At W Lo B (Kn (T++db i g.frame.fn g.frame.place es)) (T++db i g.frame.fn g.frame.place es):=λes r=>by
   obtain⟨m,hr,hl,hd⟩:=evC_ops (i:=i) (fn:=g.frame.fn) (pos:=g.frame.place) r;exact⟨m,λf j=>⟨⟨m f j,λb A=>(hr f j b A).1⟩,λa ha=>by obtain⟨e,o,rfl⟩:=jY j;exact Pa (r e o) a ha,λz=>by cases z⟩,C.past.appRead (ID T _) (hM.resolve_left Q) (C.lo i y Q e) m (λf j b A=>⟨(hr f j b A).1,C.places i y _ e (hr f j b A).2⟩) (hd T) λf j=>MemAct.low_mono Jl (hl f j)⟩
  obtain⟨k,w₀,V,hg⟩:∃k w₀,q i=k+1/\Goes P (i==0) (RK y.K) (DS y.St y.B) (λg _=>∃s,AtIn P (i==0) y.K y.St y.B y.s g s) k g w₀:=by
   rcases O with h|⟨_,_,s,rfl,_⟩
   ·exact h
   ·cases K
  have zp:(∃s,AtIn P (i==0) y.K y.St y.B y.s g s)\/∃E l es,k=E+1/\aG P (i==0) g w=.go l w es/\(∀e∈es,EvC y.St y.B e)/\Goes P (i==0) (RK y.K) (DS y.St y.B) (λg _=>∃s,AtIn P (i==0) y.K y.St y.B y.s g s) E l w:=by
   cases k with
   |zero=>exact .inl (hg w S)
   |succ E=>
    rcases hg with Jc|⟨_,gR⟩
    ·exact .inl (Jc w S)
    ·have D:=gR w S
     cases p:aG P (i==0) g w with
     |go l w' es=>
      rw[p,goes_go]at D;obtain⟨⟨rfl,r⟩,rK⟩:=D;exact .inr ⟨E,l,es,F,F,r,rK⟩
     |_=>rw[p]at D;exact D.elim
  rcases zp with⟨s,cH⟩|⟨E,l,es,rfl,p,r,rK⟩
  ·obtain⟨_,_,_,_,_,es,r,xZ⟩:=id cH
   obtain⟨m,zu,hp⟩:=Iv es r;have hw:∀cc∈y.s.cases,NoWays w (gs.setIfInBounds i ph) cc:=by
    intro cc hY;obtain⟨c,z,rfl⟩:=(C.wf i y e).1.recvs cc hY;have jv:=Seat.has_of_mem hY;obtain⟨kk,hc⟩:=C.chans i y c e jv;refine ways_recv_none hc (partners_nil λx v hy=>?_);rcases getElem?_stand gs i x v hy with⟨_,rfl⟩|⟨J,rX⟩
    ·exact offersAt_ph _ _
    ·by_cases hS:X x
     ·exact zy x v c hS rX
     ·exact C.noSend hS rX _
   refine⟨_,_,0,crowd_waits (sl:=sl) L (xZ w S) hw,⟨by simp,λx v J ex=>.inl (by rw[ie (λz=>J z.symm)];exact ex)⟩,by omega,zu,?_⟩;exact C.Nl aE aZ (λx J _=>ie (λz=>J z.symm)) (kC aE) m (λ_=>by rw[e];exact .inr ⟨rfl,g,s,rfl,cH⟩) hp
  ·obtain⟨m,zu,hp⟩:=Iv es r
   refine⟨_,_,E+1,vJ (sl:=sl) L p,N _ _,by omega,zu,?_⟩;exact C.Nl aE aZ (N _ _).plain (jw _ _) m (λ_=>by rw[e];exact .inl ⟨E,w,rfl,rK⟩) hp
end
structure Dr(P:aA)(St At:Nat->Loc->Prop)(Shun:Loc->Prop)(ax:Nat->aj YS)(bz cw:Nat->Prop)(d B:Nat)(T:dJ)(gs:af aH)(w:au)(q:Nat->Nat):Prop where
 yd:Yd P St At Shun (λg=>(ax g≠I/\g≠0)\/(g=0/\d=0)) (λg=>g≠0/\(ax g≠I\/cw g)) ax (λg=>g=0\/bz g) B (λt=>Knows t 0) T gs w q
 deaf:dU T 0=d
 wrote:∀i a,touchAt T i=Z a->a.write=U->St 0 a.loc->Knows T 0 i
 run:∀x gx,x≠0->bz x->gs[x]?=Z gx->gx.status=.running
def An:Nat->ae cX->Prop
 |_,[]=>True
 |d,e::l=>((gy e).touch?≠I->0<d)/\An (gW d #[e]) l
theorem aoC(i:Nat)(b:bA)(a:String)(e:cX)(l:ae cX):db i b a (e::l).toArray=db i b a #[e]++db i b a l.toArray:=by
 rw[ofEvents_eq,ofEvents_eq,ofEvents_eq];simp
theorem Y9{i:Nat}{fn:bA}{pos:String}:∀(l:ae cX)(T:dJ),An (dU T i) l->∀k x,T.size<=k->(T++db i fn pos l.toArray)[k]?=Z x->x.act.touch?≠I->¬(T++db i fn pos l.toArray).heard k:=by
 intro l;induction l with
 |nil=>
  intro T _ k x s a;exfalso;have:(T++db i fn pos ([]:ae cX).toArray).size=T.size:=by simp[ofEvents_eq]
  have h:=(gG.1 a).1;omega
 |cons e l u=>
  intro T t k x s a m;obtain⟨n,b⟩:=t;have p:(T++db i fn pos #[e]).size=T.size+1:=by simp[ofEvents_eq]
  have f:(T++db i fn pos #[e])[T.size]?=Z {g:=i,fn:=fn,pos:=pos,act:=.ofEvent e}:=by simp[ofEvents_eq]
  have r:=Deaf_own T i fn pos #[e];rw[<-r]at b;rw[aoC,<-Da]at a⊢;by_cases o:k=T.size
  ·subst o
   rw[getElem?_append_old ai,f]at a;obtain rfl:=dQ a;rw[heard_old ai];rintro⟨g,j,c⟩;rw[g?_of f]at j;obtain rfl:=dQ j;rw[deaf_old (df _)]at c;have p:0<T.deaf i T.size:=n m;have v:T.deaf i T.size=0:=c;omega
  ·exact u _ b k x ai a m
section
variable {P:aA}{St At:Nat->Loc->Prop}{Shun:Loc->Prop}{ax:Nat->aj YS}{bz cw:Nat->Prop}{d B:Nat}{T:dJ}{gs:af aH}{w:au}{q:Nat->Nat}
theorem Dr.own(C:Dr P St At Shun ax bz cw d B T gs w q){a a':aH}{n:au}{es:af cX}(n':Nat)(ha:gs[0]?=Z a)(J:DZ St ax Shun B w n es):Dr P St At Shun ax bz cw (gW d es) B (T++db 0 a.frame.fn a.frame.place es) ((gs.map (eM P a a' n)).setIfInBounds 0 a') n (upd q 0 n')/\((gs.map (eM P a a' n)).setIfInBounds 0 a')[0]?=Z a'/\((gs.map (eM P a a' n)).setIfInBounds 0 a').size=gs.size/\∀x,x≠0->((gs.map (eM P a a' n)).setIfInBounds 0 a')[x]?=gs[x]?:=by
 have aE:0<gs.size:=(gG.1 ha).1;have K:∀r∈db 0 a.frame.fn a.frame.place es,r.g=0:=λr A=>by obtain⟨e,_,rfl⟩:=jY A;rfl
 have R:∀r∈db 0 a.frame.fn a.frame.place es,∀b,r.act.touch?=Z b->As St Shun b:=λr A b p=>by obtain⟨e,h,rfl⟩:=jY A;exact(J.AA e h).1 b p
 have hl:∀r∈db 0 a.frame.fn a.frame.place es,r.act.low B:=λr A=>by obtain⟨e,h,rfl⟩:=jY A;exact(J.AA e h).2
 have O:∀i y c,ax i=Z y->y.s.has c->∃k,n.heap[c]?=Z (.chan 0 #[] Y k k Y):=λi y c e H=>by
  obtain⟨k,L⟩:=C.yd.chans i y c e H;exact⟨k,by rw[J.chan i y c e H];exact L⟩
 have xU:∀i y,ax i=Z y->y.K n:=λi y e=>J.keep i y e (C.yd.keep i y e);have M:∀x,x≠0->((gs.map (eM P a a' n)).setIfInBounds 0 a')[x]?=gs[x]?:=λx m=>by
  rw[ie (λe=>m e.symm),yJ];cases e:gs[x]? with
  |none=>rfl
  |some y=>
   by_cases p:bz x
   ·rw[iy,woken_run (C.run x y m p e)]
   ·have:=woken_of_again (P:=P) (x:=a) (x':=a') (C.yd.Iw xU (λi y c e H=>by obtain⟨k,L⟩:=O i y c e H;exact⟨_,_,_,_,_,L⟩) (λz=>z.elim m p) e)
    simp[this]
 have jw:((gs.map (eM P a a' n)).setIfInBounds 0 a')[0]?=Z a':=kC (by simpa using aE);have G:((gs.map (eM P a a' n)).setIfInBounds 0 a').size=gs.size:=by simp
 have xN:dU (T++db 0 a.frame.fn a.frame.place es) 0=gW d es:=by rw[Deaf_own,C.deaf]
 have rW:∀i a',touchAt (T++db 0 a.frame.fn a.frame.place es) i=Z a'->a'.write=U->St 0 a'.loc->Knows (T++db 0 a.frame.fn a.frame.place es) 0 i:=λi b p v D=>by
  obtain⟨x,m,Q⟩:=nR p;rcases kY m with⟨_,dV⟩|⟨_,fA⟩
  ·exact(C.wrote i b (by rw[sN dV];exact Q) v D).app _
  ·rw[(R x fA b Q).1 0 D]at v;cases v
 refine⟨⟨⟨λx y m V=>?_,O,C.yd.wf,C.yd.inj,λj E=>?_,λi f=>by rw[G];exact C.yd.lt i f,λi y e=>⟨by by_cases f:i=0;exact .inl (.inl f);exact .inr (.inl ⟨by rw[e];simp,f⟩),(C.yd.mem i y e).2⟩,λi f=>f.imp (·.1) (λh=>.inl h.1),λi y f e=>⟨λz=>f (.inl z),.inl (by rw[e];simp)⟩,?_,xU,C.yd.places,λj l E=>C.yd.fresh j l (by rw[G]at E;exact E)⟩,xN,rW,λx gx m p h=>C.run x gx m p (by rw[<-M x m];exact h)⟩,jw,G,M⟩
 ·have N:x≠0:=λz=>m (.inl z)
  rw[M x N]at V;rw[upd_ne q n' N];have f:=C.yd.idle x y m V;cases nD:ax x with
  |none=>rw[nD]at f;exact⟨f.1,by rw[mX T (λz=>N z.symm) _ K];exact f.2⟩
  |some s=>rw[nD]at f;exact f
 ·rw[G]at E
  rw[mX T (g':=0) ai _ K];exact C.yd.above j E
 ·have u:=BO (C.yd.past.fewer (Mem':=λg=>ax g≠Option.none/\g≠0) λg o=>.inl o) K R (λhm=>absurd F hm.2) hl
  refine⟨u.clean,u.known,λi t S v g o D=>?_,λg o=>?_,u.seen,u.apart,u.plain⟩
  ·rcases o with o|⟨rfl,_⟩
   ·exact u.wrote i t S v g o D
   ·exact rW i t S v D
  ·rcases o with o|⟨rfl,nF⟩
   ·exact u.hears g o
   ·rw[xN];exact nF
def EvL(At:Nat->Loc->Prop)(Shun:Loc->Prop)(B i:Nat)(e:cX):Prop:=(∀b,(gy e).touch?=Z b->b.kind=.atomic/\Shun b.loc/\At i b.loc)/\(gy e).low B
theorem Dr.leave(C:Dr P St At Shun ax bz cw d B T gs w q){i:Nat}{a a':aH}{w':au}{es:af cX}(N:Nat){y9:Nat->Prop}(J:i≠0)(n:bz i)(V:ax i=I)(ha:gs[i]?=Z a)
  (bY:∀i y c,ax i=Z y->y.s.has c->w'.heap[c]?=w.heap[c]?)(r:∀i y,ax i=Z y->y.K w->y.K w')(jq:∀e∈es,EvL At Shun B i e)(Cp:An (dU T i) es.toList)
  (tS:∀x,x≠i->(y9 x↔bz x))(aQ:y9 i->a'.status=.running)(bU:¬y9 i->QuitsD P N (gW (dU T i) es) a'):
  Dr P St At Shun ax y9 cw d B (T++db i a.frame.fn a.frame.place es) ((gs.map (eM P a a' w')).setIfInBounds i a') w' (upd q i N)/\((gs.map (eM P a a' w')).setIfInBounds i a')[i]?=Z a'/\((gs.map (eM P a a' w')).setIfInBounds i a').size=gs.size/\(∀x,x≠i->x≠0->((gs.map (eM P a a' w')).setIfInBounds i a')[x]?=gs[x]?)/\∀H,gs[0]?=Z H->((gs.map (eM P a a' w')).setIfInBounds i a')[0]?=Z (eM P a a' w' H):=by
 have aE:i<gs.size:=(gG.1 ha).1;generalize t:db i a.frame.fn a.frame.place es=u;have A:∀m∈u,m.g=i:=λm p=>by subst t;obtain⟨e,_,rfl⟩:=jY p;rfl
 have R:∀m∈u,∀b,m.act.touch?=Z b->b.kind=.atomic/\Shun b.loc/\At i b.loc:=λm p b n=>by subst t;obtain⟨e,h,rfl⟩:=jY p;exact(jq e h).1 b n
 have hl:∀m∈u,m.act.low B:=λm p=>by subst t;obtain⟨e,h,rfl⟩:=jY p;exact(jq e h).2
 have tr:∀k x,T.size<=k->(T++u)[k]?=Z x->x.act.touch?≠I->¬(T++u).heard k:=λk x h1 h2 h3=>by
  subst t;have:=Y9 (fn:=a.frame.fn) (pos:=a.frame.place) es.toList T Cp k x h1;simp only[Array.toArray_toList]at this;exact this h2 h3
 have Gq:dU (T++u) i=gW (dU T i) es:=by rw[<-t,Deaf_own]
 have O:∀i y c,ax i=Z y->y.s.has c->∃k,w'.heap[c]?=Z (.chan 0 #[] Y k k Y):=λi y c e E=>by
  obtain⟨k,r⟩:=C.yd.chans i y c e E;exact⟨k,by rw[bY i y c e E];exact r⟩
 have xU:∀i y,ax i=Z y->y.K w':=λi y e=>r i y e (C.yd.keep i y e);have L:∀x,x≠i->x≠0->((gs.map (eM P a a' w')).setIfInBounds i a')[x]?=gs[x]?:=λx f o=>by
  rw[ie (λe=>f e.symm),yJ];cases e:gs[x]? with
  |none=>rfl
  |some y=>
   by_cases n:bz x
   ·rw[iy,woken_run (C.run x y o n e)]
   ·have:=woken_of_again (P:=P) (x:=a) (x':=a') (C.yd.Iw xU (λi y c e E=>by obtain⟨k,r⟩:=O i y c e E;exact⟨_,_,_,_,_,r⟩) (λz=>z.elim o n) e)
    simp[this]
 have M:((gs.map (eM P a a' w')).setIfInBounds i a')[i]?=Z a':=kC (by simpa using aE);have v:((gs.map (eM P a a' w')).setIfInBounds i a').size=gs.size:=by simp
 have K:¬((ax i≠I/\i≠0)\/(i=0/\d=0)):=λh=>h.elim (λz=>z.1 V) λz=>J z.1;refine⟨⟨⟨λx y f G=>?_,O,C.yd.wf,C.yd.inj,λj g=>?_,λi hi=>by rw[v];exact C.yd.lt i hi,λj y e=>⟨by by_cases D:j=0;exact .inl (.inl D);exact .inr (.inl ⟨by rw[e];simp,D⟩),(C.yd.mem j y e).2⟩,λj g=>g.imp (·.1) (λh=>.inl h.1),λj y g e=>⟨λz=>g (.inl z),.inl (by rw[e];simp)⟩,?_,xU,C.yd.places,λj l g=>C.yd.fresh j l (by rw[v]at g;exact g)⟩,?_,λk b n hw hS=>?_,λx gx f S h=>?_⟩,M,v,L,λH D=>?_⟩
 ·have o:x≠0:=λz=>f (.inl z)
  by_cases e:x=i
  ·subst e
   rw[M]at G;obtain rfl:=dQ G;rw[upd_same,V];exact⟨Nat.pos_of_ne_zero o,by rw[Gq];exact bU λz=>f (.inr z)⟩
  ·rw[L x e o]at G
   rw[upd_ne q N e];have h:=C.yd.idle x y (λz=>z.elim o λz=>f (.inr ((tS x e).2 z))) G;cases nD:ax x with
   |none=>rw[nD]at h;exact⟨h.1,by rw[mX T (λz=>e z.symm) _ A];exact h.2⟩
   |some s=>rw[nD]at h;exact h
 ·rw[v]at g
  rw[mX T (g':=i) ai _ A];exact C.yd.above j g
 ·exact C.yd.past.adv (λ_=>Knows.app u) A R tr K hl
 ·rw[mX T J _ A];exact C.deaf
 ·obtain⟨x,f,Q⟩:=nR n
  rcases kY f with⟨_,dV⟩|⟨_,fA⟩
  ·exact(C.wrote k b (by rw[sN dV];exact Q) hw hS).app _
  ·exact absurd (R x fA b Q).2.1 (C.yd.past.apart 0 _ hS)
 ·by_cases e:x=i
  ·subst e
   rw[M]at h;obtain rfl:=dQ h;exact aQ S
  ·rw[L x e f]at h
   exact C.run x gx f ((tS x e).1 S) h
 ·rw[ie J,yJ,D];rfl
end
end
section
open Go.ConcN (sumTo upd sumTo_upd upd_ne upd_same)
structure KL(w:au)(i:Nat)(gs bD:af aH):Prop where
 size:bD.size=gs.size
 same:∀x,x≠i->x≠0->bD[x]?=gs[x]?
 zero:∀g0,gs[0]?=Z g0->bD[0]?=Z g0\/bD[0]?=Z (g0.again w)
section
variable {P:aA}{R At:Nat->Loc->Prop}{X:Loc->Prop}{W:Nat->aj YS}{V S:Nat->Prop}{d B:Nat}{T:dJ}{gs:af aH}{w:au}{q:Nat->Nat}
theorem aco(P:aA)(a b:aH)(w:au)(g:aH):eM P a b w g=g\/eM P a b w g=g.again w:=by
 unfold eM;split
 ·exact .inr F
 ·exact .inl F
theorem Dr.mem(C:Dr P R At X W V S d B T gs w q){i:Nat}{y:YS}(a:i≠0)(b:W i=Z y):dU T i=0:=C.yd.past.hears i (.inl ⟨by rw[b];simp,a⟩)
theorem Dr.at(C:Dr P R At X W V S d B T gs w q)(a:Nat):Dr P R At X W V S d B T gs (w.at a) q:=⟨C.yd.at a,C.deaf,C.wrote,C.run⟩
theorem Dr.aeq(C:Dr P R At X W V S d B T gs w q){i:Nat}{g:aH}{sl:aj (Nat×Nat)}(hi:gs[i]?=Z g)(G:i≠0)(D:¬V i)(N:g.status=.running)(M:∀y,gs[0]?=Z y->∀c,offersAt y c U=[]):∃(p:af aH)(f:af MemOp)(n:Nat),runT P (crowd gs w sl) i=(.next (crowd p w sl),f)/\KL w i gs p/\n<q i/\(∀x,x≠i->dU (T++f) x=dU T x)/\(∀m∈f,m.g=i/\(∀a,m.act≠.mark (.release a))/\(W i=I->m.act.touch?=I))/\Dr P R At X W V S d B (T++f) p w (upd q i n):=by
 obtain⟨p,f,n,h1,r,h3,A,h5⟩:=C.yd.aep (sl:=sl) (λt u i=>Knows.app u) hi (λz=>z.elim G D) N λx l c j E=>by
  rcases j with rfl|j
  ·exact M l E c
  ·by_cases o:x=0
   ·subst o;exact M l E c
   ·exact sM (by rw[C.run x l o j E];simp) _ _
 have K:∀x,x≠i->dU (T++f) x=dU T x:=λx j=>mX T (λz=>j z.symm) f λm v=>(A m v).1.1;have L:∀x,x≠i->x≠0->p[x]?=gs[x]?:=λx j o=>by
  by_cases s:V x
  ·cases e:gs[x]? with
   |none=>rw[Aa]at e⊢;rw[r.1];exact e
   |some l=>
    rcases r.2 x l j e with h|⟨_,h⟩
    ·exact h
    ·rw[h,Ag w (.inl (C.run x l o s e))]
  ·exact r.plain x j λz=>z.elim o s
 refine⟨p,f,n,h1,⟨r.1,L,λy o=>(r.2 0 y (λz=>G z.symm) o).imp id λz=>z.2⟩,h3,K,λm v=>⟨(A m v).1.1,(A m v).2⟩,h5,(K 0 (λz=>G z.symm)).trans C.deaf,λk b D H hS=>?_,λx l j s h=>?_⟩
 ·obtain⟨x,j,J⟩:=nR D
  rcases kY j with⟨_,O⟩|⟨_,Q⟩
  ·exact(C.wrote k b (by rw[sN O];exact J) H hS).app _
  ·rw[(A x Q).1.2 b J]at H;cases H
 ·have qN:x≠i:=λz=>D (z▸s)
  rw[L x qN j]at h;exact C.run x l j s h
theorem Dr.walk(C:Dr P R At X W V S d B T gs w q){i:Nat}{g c:aH}{es:af cX}{y:YS}{sl:aj (Nat×Nat)}(n:Nat)(L:gs[i]?=Z g)(s:i≠0)(f:V i)(t:W i=Z y)(u:aG P Y g w=.go c w es)(J:∀e∈es,EvC y.St y.B e)(O:c.status=.running):∃(p:af aH)(l:af MemOp),runT P (crowd gs w sl) i=(.next (crowd p w sl),l)/\KL w i gs p/\p[i]?=Z c/\(∀x,dU (T++l) x=dU T x)/\(∀j∈l,j.g=i/\∀a,j.act≠.mark (.release a))/\Dr P R At X W V S d B (T++l) p w (upd q i n):=by
 have aE:i<gs.size:=(gG.1 L).1;have h0:(i==0)=Y:=by simp[s]
 obtain⟨r,v,hl,K⟩:=evC_ops (i:=i) (fn:=g.frame.fn) (pos:=g.frame.place) J;have M:∀x,dU (T++db i g.frame.fn g.frame.place es) x=dU T x:=λx=>by
  by_cases e:x=i
  ·subst e;exact K T
  ·exact mX T (λz=>e z.symm) _ r
 have E:∀x,x≠i->x≠0->((gs.map (eM P g c w)).setIfInBounds i c)[x]?=gs[x]?:=λx m N=>by
  rw[ie (λe=>m e.symm),yJ];cases e:gs[x]? with
  |none=>rfl
  |some y=>
   by_cases f:V x
   ·rw[iy,woken_run (C.run x y N f e)]
   ·have:=woken_of_again (P:=P) (x:=g) (x':=c) (C.yd.fixed (λz=>z.elim N f) e)
    simp[this]
 have G:((gs.map (eM P g c w)).setIfInBounds i c)[i]?=Z c:=kC (by simpa using aE);have hM:(W i≠I/\i≠0)\/(i=0/\d=0):=.inl ⟨by rw[t];simp,s⟩;refine⟨_,_,vJ (sl:=sl) L (by rw[h0];exact u),⟨by simp,E,λg0 e=>?_⟩,G,M,λj o=>⟨r j o,λa ha=>by obtain⟨e,he,rfl⟩:=jY o;exact Pa (J e he) a ha⟩,?_,(M 0).trans C.deaf,λk b f D hS=>?_,λx gx m v8 h=>?_⟩
 ·rw[ie s,yJ,e,iy]
  exact(aco P g c w g0).imp (congrArg Z) (congrArg Z)
 ·refine C.yd.Nl aE aZ (λx m A=>E x m λz=>A (.inl z)) G r (λA=>absurd (.inr f) A) ?_
  exact C.yd.past.appRead (λ_=>Knows.app _) hM ⟨s,.inl (by rw[t];simp)⟩ r (λj o b f=>⟨(v j o b f).1,C.yd.places i y _ t (v j o b f).2⟩) (K T) λj o=>MemAct.low_mono (C.yd.mem i y t).2.2 (hl j o)
 ·obtain⟨x,m,H⟩:=nR f
  rcases kY m with⟨_,Q⟩|⟨_,fA⟩
  ·exact(C.wrote k b (by rw[sN Q];exact H) D hS).app _
  ·rw[(v x fA b H).1]at D;cases D
 ·by_cases e:x=i
  ·subst e
   rw[G]at h;obtain rfl:=dQ h;exact O
  ·rw[E x e m]at h
   exact C.run x gx m v8 h
theorem Dr.serve(C:Dr P R At X W V S d B T gs w q){i D G k:Nat}{z:ag}{g r:aH}{y:YS}{s:Seat}{sl:aj (Nat×Nat)}(n:Nat)(hi:gs[i]?=Z g)(N:i≠0)(Q:V i)(H:W i=Z y)(cH:AtIn P Y y.K y.St y.B s g r)
  (Ji:s.Wf)(hk:s.cases[G]?=Z (rcase D z))(ja:∀c,s.has c->c≠D->y.s.has c)(hD:w.heap[D]?=Z (.chan 0 #[] U k k Y))(uO:D<B)(γ:S i)(zy:∀g0,gs[0]?=Z g0->∀c,offersAt g0 c U=[]):
  ∃(L:af aH)(A:af MemOp),runT P (crowd gs w sl) i=(.next (crowd L w sl),A)/\KL w i gs L/\L[i]?=Z (jz r (qp s.cases s.shape G z Y))/\(∀x,dU (T++A) x=dU T x)/\(∀o∈A,o.g=i/\∀a,o.act≠.mark (.release a))/\Dr P R At X (λx=>if x=i then I else W x) V S d B (T++A) L w (upd q i n):=by
 have aE:i<gs.size:=(gG.1 hi).1;have O:(i==0)=Y:=by simp[N]
 obtain⟨_,_,_,_,_,es,fS,xZ⟩:=cH;have rL:=C.yd.keep i y H;obtain⟨cI,hr,hl,hd⟩:=evC_ops (i:=i) (fn:=g.frame.fn) (pos:=g.frame.place) fS;have zz:∀x t c,(gs.setIfInBounds i ph)[x]?=Z t->offersAt t c U=[]:=λx t c f=>by
  rcases getElem?_stand gs i x t f with⟨_,rfl⟩|⟨v,J⟩
  ·exact offersAt_ph _ _
  ·by_cases mU:x=0
   ·subst mU;exact zy t J c
   ·by_cases v8:V x
    ·exact sM (by rw[C.run x t mU v8 J];simp) _ _
    ·exact C.yd.noSend (λz=>z.elim mU v8) J c
 have ho:∀(K:Nat)(M:CommCase),K≠G->s.cases[K]?=Z M->NoWays w (gs.setIfInBounds i ph) M:=by
  intro K M hm nE;obtain⟨c₂,z₂,rfl⟩:=Ji.recvs M (Array.mem_of_getElem? nE);have aD:c₂≠D:=λec=>hm (Ji.apart K G D z₂ z (ec▸nE) hk);obtain⟨k₂,δ⟩:=C.yd.chans i y c₂ H (ja c₂ ⟨K,z₂,nE⟩ aD);exact ways_recv_none (w₁:=w) δ (partners_nil λx t f=>zz x t _ f)
 have aQ:=crowd_sel_recv_closed (P:=P) (sl:=sl) hi (by rw[O];exact xZ w rL) hk ho hD (partners_nil λx t f=>zz x t _ f);rw[finishComm_served]at aQ;have j5:∀o∈db i g.frame.fn g.frame.place es++#[{g:=i,fn:=r.frame.fn,pos:=r.frame.place,act:=.recvClosed D}],o.g=i:=by
  intro o m;rcases Array.mem_append.1 m with z|z
  ·exact cI o z
  ·simp only[jA,bQ,gk,or_false]at z;subst z;rfl
 have tY:∀o∈(#[{g:=i,fn:=r.frame.fn,pos:=r.frame.place,act:=.recvClosed D}]:af MemOp),∀dd,deafStep i dd o=dd:=by
  intro o m dd;simp only[jA,bQ,gk,or_false]at m;subst m;rfl
 have kN:∀x,dU (T++(db i g.frame.fn g.frame.place es++#[{g:=i,fn:=r.frame.fn,pos:=r.frame.place,act:=.recvClosed D}])) x=dU T x:=λx=>by
  by_cases e:x=i
  ·subst e
   rw[<-Da,Deaf_quiet tY];exact hd T
  ·exact mX T (λz=>e z.symm) _ j5
 have hM:(W i≠I/\i≠0)\/(i=0/\d=0):=.inl ⟨by rw[H];simp,N⟩;have rS:∀x,x≠i->(gs.setIfInBounds i (jz r (qp s.cases s.shape G z Y)))[x]?=gs[x]?:=λx f=>ie (λz=>f z.symm);have jw:(gs.setIfInBounds i (jz r (qp s.cases s.shape G z Y)))[i]?=Z (jz r (qp s.cases s.shape G z Y)):=kC aE;have E:∀x p,(if x=i then I else W x)=Z p->x≠i/\W x=Z p:=λx p e=>by
  by_cases f:x=i
  ·rw[if_pos f]at e;cases e
  ·rw[if_neg f]at e;exact⟨f,e⟩
 have p1:eu R X At (λg=>(W g≠I/\g≠0)\/(g=0/\d=0)) (λg=>g≠0/\(W g≠I\/S g)) B (Knows (T++db i g.frame.fn g.frame.place es) 0) (T++db i g.frame.fn g.frame.place es):=C.yd.past.appRead (λ_=>Knows.app _) hM ⟨N,.inl (by rw[H];simp)⟩ cI (λo m b Q=>⟨(hr o m b Q).1,C.yd.places i y _ H (hr o m b Q).2⟩) (hd T) λo m=>MemAct.low_mono (C.yd.mem i y H).2.2 (hl o m);have p2:=p1.appMute (u:=#[{g:=i,fn:=r.frame.fn,pos:=r.frame.place,act:=.recvClosed D}]) (vO:=Knows (T++db i g.frame.fn g.frame.place es++#[{g:=i,fn:=r.frame.fn,pos:=r.frame.place,act:=.recvClosed D}]) 0) (g:=i) (λ_=>Knows.app _)
  (λo m=>by simp only[jA,bQ,gk,or_false]at m;subst m;rfl) (λo m=>by simp only[jA,bQ,gk,or_false]at m;subst m;rfl) (λ_=>Deaf_quiet tY)
  (λo m=>by simp only[jA,bQ,gk,or_false]at m;subst m;exact uO)
 rw[Da]at p2;refine⟨_,_,aQ,⟨by simp,λx f _=>rS x f,λg0 e=>.inl (by rw[rS 0 λz=>N z.symm];exact e)⟩,jw,kN,λo m=>⟨j5 o m,λa ha=>?_⟩,⟨λx t f fV=>?_,λx p c e hc=>C.yd.chans x p c (E x p e).2 hc,λx p e=>C.yd.wf x p (E x p e).2,
  λx x' y1 y2 e1 e2=>C.yd.inj x x' y1 y2 (E _ _ e1).2 (E _ _ e2).2,λj hj=>?_,λx f=>?_,λx p e=>?_,λx f=>?_,λx p f e=>⟨λz=>f (.inl z),.inl (by rw[e];simp)⟩,?_,λx p e=>C.yd.keep x p (E x p e).2,λx p l e=>C.yd.places x p l (E x p e).2,λj l hj=>?_⟩,(kN 0).trans C.deaf,λj b β hw hS=>?_,λx t f v8 h=>?_⟩
 ·rcases Array.mem_append.1 m with z|z
  ·obtain⟨e,he,rfl⟩:=jY z;exact Pa (fS e he) a ha
  ·simp only[jA,bQ,gk,or_false]at z;subst z;cases ha
 ·have v:x≠i:=λz=>f (.inr (z▸Q))
  rw[rS x v]at fV;rw[upd_ne q n v,if_neg v];have h:=C.yd.idle x t f fV;cases nD:W x with
  |none=>rw[nD]at h;exact⟨h.1,by rw[kN];exact h.2⟩
  |some s=>rw[nD]at h;exact h
 ·rw[kN];exact C.yd.above j (by simpa using hj)
 ·have v:x≠i:=λz=>f (if_pos z)
  rw[if_neg v]at f;simpa using C.yd.lt x f
 ·obtain⟨v,e'⟩:=E x p e
  exact⟨by by_cases O:x=0;exact .inl (.inl O);exact .inr (.inl ⟨by rw[e];simp,O⟩),(C.yd.mem x p e').2⟩
 ·rcases f with h|h
  ·exact .inl h.1
  ·exact .inr (.inl h.1)
 ·refine(p2.fewer λx f=>f.imp (λh=>⟨λz=>h.1 ?_,h.2⟩) id).loosen λx f=>⟨f.1,?_⟩
  ·by_cases v:x=i
   ·exact .inr (v▸γ)
   ·rw[if_neg v];exact f.2
  ·by_cases v:x=i
   ·exact if_pos v
   ·rw[if_neg v];exact z
 ·exact C.yd.fresh j l (by simpa using hj)
 ·obtain⟨x,f,dz⟩:=nR β
  rcases kY f with⟨_,J⟩|⟨_,fA⟩
  ·exact(C.wrote j b (by rw[sN J];exact dz) hw hS).app _
  ·rcases Array.mem_append.1 fA with h|h
   ·rw[(hr x h b dz).1]at hw;cases hw
   ·simp only[jA,bQ,gk,or_false]at h;subst h;cases dz
 ·by_cases e:x=i
  ·subst e
   rw[jw]at h;obtain rfl:=dQ h;rfl
  ·rw[rS x e]at h
   exact C.run x t f v8 h
end
end
section
open Go.ConcN (sumTo upd sumTo_upd upd_ne upd_same)
def dA(S:Nat):aR:=⟨S,11,I⟩
def dB(S:Nat):aR:=⟨S,12,I⟩
def cK(c t:Nat):ag:=.int .u64 ((c)*4294967296+t)
abbrev jH(n:Nat):ag:=.int .u32 n
structure eN(w:au)(a:aR)(v:ag):Prop where
 cell:w.cell? a=Z v
 free:w.frozen? a=Y
 shape:w.shape? a.block=Z (109,14)
def rp(S:Nat)(X:au)(a b:ag)(w:au):Prop:=AtRel ((X.setCell (dA S) a).setCell (dB S) b) w
section
variable {S:Nat}{X w:au}{a b T R W V:ag}
theorem asH{w:au}{x y}{B C}(z:w.cell? x=Z B)(A:w.cell? y=Z C)(d:x.block=y.block)(s:x.off≠y.off)(u v):(w.setCell x u).setCell y v=(w.setCell y v).setCell x u:=by
 obtain⟨c,t,f,g,k,G,_⟩:=kK z;obtain⟨D,H,E,l,j,r,_⟩:=kK A;rw[d]at g;rw[g]at l;cases l;rw[<-d]at g;have m:=heap_setCell g k u x.block;have o:=heap_setCell (d▸g) j v y.block;rw[if_pos F]at m o;have q:=d▸m;have h:=d▸o;refine Hx (yI λn=>?_) F F F F;rw[heap_setCell q j,heap_setCell h k,heap_setCell g k,heap_setCell (d▸g) j];by_cases e:n=x.block
 ·rw[if_pos (e.trans d),if_pos e]
  congr 2;apply yI;intro i;simp only[tJ];by_cases p:y.off=i
  ·subst p;simp[s]
  ·simp[p]
 ·simp_all
theorem eN.set{a}{v x}(h:eN w a v):eN (w.setCell a x) a x:=by
 obtain⟨c,d,c3⟩:=S2 h.cell h.free;exact⟨c,d,c3.trans h.shape⟩
theorem FC{a y}{v l x}(h:eN w a v)(g:eN w y l)(i:a.block=y.block)(m:a.off≠y.off):eN (w.setCell y x) a v:=by
 refine⟨?_,?_,?_⟩
 ·rw[za g.cell,if_neg]
  ·exact h.cell
  ·grind
 ·obtain⟨c,t,f,j,k,_⟩:=kK g.cell
  have e:=heap_setCell j k x a.block;rw[if_pos i]at e;have d:=h.free;unfold pN at d⊢;rw[e];rw[i,j]at d;exact d
 ·rw[yw g.cell];exact h.shape
theorem eN.at{a}{v}(h:eN w a v)(d):eN (w.at d) a v:=⟨h.cell,h.free,h.shape⟩
theorem N9(c:eN X (dA S) W)(e:eN X (dB S) V)(h:rp S X a b w):eN w (dA S) a:=by
 obtain⟨d,rfl⟩:=h;exact(FC (c.set) (FC e c F (by simp[dA,dB])) F (by simp[dA,dB])).at d
theorem T5(c:eN X (dA S) W)(e:eN X (dB S) V)(h:rp S X a b w):eN w (dB S) b:=by
 obtain⟨d,rfl⟩:=h;exact(eN.set (FC e c F (by simp[dA,dB]))).at d
theorem BC(c:eN X (dA S) W)(e:eN X (dB S) V)(h:rp S X a b w):rp S X T b (w.setCell (dA S) T):=by
 obtain⟨d,rfl⟩:=h;refine⟨d,?_⟩;show(((X.setCell (dA S) a).setCell (dB S) b).setCell (dA S) T).at d=_;rw[asH (FC e c F (by simp[dA,dB])).cell (c.set).cell F (by simp[dA,dB]),NI c.cell]
theorem ab9(c:eN X (dA S) W)(e:eN X (dB S) V)(h:rp S X a b w):rp S X a R (w.setCell (dB S) R):=by
 obtain⟨d,rfl⟩:=h;refine⟨d,?_⟩;show(((X.setCell (dA S) a).setCell (dB S) b).setCell (dB S) R).at d=_;rw[NI (FC e c F (by simp[dA,dB])).cell]
theorem aw1(h:rp S X a b w)(d):rp S X a b (w.at d):=by obtain⟨e,rfl⟩:=h;exact⟨d,F⟩
theorem ab8(c:eN X (dA S) W)(d:eN X (dB S) V):rp S X W V X:=⟨X.drawn,by rw[wR c.cell,wR d.cell];rfl⟩
theorem aw2(j:eN X (dA S) W)(l:eN X (dB S) V)(h:rp S X a b w){c f s r:Nat}{e}{g tm}(k:X.heap[c]?=Z (.chan f e g s r tm)):w.heap[c]?=Z (.chan f e g s r tm):=by
 obtain⟨d,rfl⟩:=h;have i:(X.setCell (dA S) a).heap[c]?=Z (.chan f e g s r tm):=by rw[zb j.cell k];exact k
 show((X.setCell (dA S) a).setCell (dB S) b).heap[c]?=_;rw[zb (FC l j F (by simp[dA,dB])).cell i];exact i
end
end
section
open Go.ConcN (sumTo upd sumTo_upd upd_ne upd_same)
def kI(P:aA)(b:Bool)(K:au->Prop)(E:cX->Prop)(a:Nat->aH->Prop):Nat->Nat->aH->Prop
 |0,d,g=>a d g
 |n+1,d,g=>a d g\/(g.status=.running/\∃f es,(∀e∈es,E e)/\(∀w,K w->aG P b g w=.go f w es)/\kI P b K E a n (gW d es) f)
theorem kI.run{P:aA}{K:au->Prop}{E:cX->Prop}{a:Nat->aH->Prop}(e:∀d g,a d g->g.status=.running):∀{n d:Nat}{g:aH},kI P b K E a n d g->g.status=.running
 |0,_,_,h=>e _ _ h
 |_+1,_,_,h=>h.elim (e _ _) (·.1)
theorem kI.cases{P:aA}{K:au->Prop}{E:cX->Prop}{a:Nat->aH->Prop}:∀{n d:Nat}{g:aH},kI P b K E a n d g->a d g\/∃k f es,n=k+1/\(∀e∈es,E e)/\(∀w,K w->aG P b g w=.go f w es)/\kI P b K E a k (gW d es) f
 |0,_,_,h=>.inl h
 |n+1,_,_,h=>h.imp id λ⟨_,f,es,i,j,l⟩=>⟨n,f,es,F,i,j,l⟩
def nA(P:aA)(f:Bool)(K:au->Prop)(E:cX->Prop)(F:cX)(a:Nat->aH->Prop):Nat->Bool->Nat->aH->Prop
 |0,b,d,g=>b=U/\a d g
 |n+1,b,d,g=>(b=U/\a d g)\/(g.status=.running/\∃i es h,(((∀e∈es,E e)/\h=b)\/(es=#[F]/\d=0/\h=U))/\(∀w,K w->aG P f g w=.go i w es)/\nA P f K E F a n h (gW d es) i)
theorem nA.run{P:aA}{e:Bool}{K:au->Prop}{E:cX->Prop}{F:cX}{a:Nat->aH->Prop}(f:∀d g,a d g->g.status=.running):∀{n d:Nat}{b:Bool}{g:aH},nA P e K E F a n b d g->g.status=.running
 |0,_,_,_,h=>f _ _ h.2
 |_+1,_,_,_,h=>h.elim (λh=>f _ _ h.2) (·.1)
theorem nA.cases{P:aA}{f:Bool}{K:au->Prop}{E:cX->Prop}{F:cX}{a:Nat->aH->Prop}:∀{n d:Nat}{b:Bool}{g:aH},nA P f K E F a n b d g->(b=U/\a d g)\/∃k j es i,n=k+1/\(((∀e∈es,E e)/\i=b)\/(es=#[F]/\d=0/\i=U))/\(∀w,K w->aG P f g w=.go j w es)/\nA P f K E F a k i (gW d es) j
 |0,_,_,_,h=>.inl h
 |n+1,_,_,_,h=>h.imp id λ⟨_,j,es,i,l,m,o⟩=>⟨n,j,es,i,rfl,l,m,o⟩
def KW(S:Nat)(w:au):Prop:=(∃v,eN w (dA S) v)/\∃v,eN w (dB S) v
def rm(a:Nat)(e:cX):Prop:=Event.mute e=U
def uo(S:Nat):cX:=⟨.mark (.releaseMerge (dA S)),Y,U⟩
def FR(S:Nat):cX:=⟨.mark (.acquire (dA S)),Y,U⟩
def EvS(S:Nat)(e:cX):Prop:=rm S e\/∃a,e=⟨.cell (dA S),a,U⟩\/e=⟨.cell (dB S),a,U⟩
def HU(P:aA)(S:Nat)(a:aR)(v v':ag)(d:Nat)(g:aH)(Next:Nat->aH->Prop):Prop:=∃b es,(∀w,eN w a v->aG P Y g w=.go b (w.setCell a v') es)/\(∀e∈es,EvS S e)/\An d es.toList/\Next (gW d es) b
def yW(P:aA)(E:cX->Prop)(a:aR)(v v':ag)(d:Nat)(g:aH)(Next:Nat->aH->Prop):Prop:=∃b es,(∀w,eN w a v->aG P U g w=.go b (w.setCell a v') es)/\(∀e∈es,E e)/\Next (gW d es) b
section
variable (P:aA)(S:Nat)
def WL(a:Nat->aH->Prop)(d:Nat)(g:aH):Prop:=∃n,kI P Y (KW S) (rm S) a n d g
def UK(d:Nat)(g:aH):Prop:=∃n,QuitsD P n d g
def Dw(d:Nat)(g:aH):Prop:=d=1/\g.status=.running/\mayWake P g=U/\HU P S (dB S) (jH 0) (jH 1) d g λb a=>(a.status !=.blocked&&a.status !=.waiting)=U/\UK P b a
def Dv(d:Nat)(g:aH):Prop:=d=1/\g.status=.running/\HU P S (dA S) (cK 0 1) (cK 0 0) d g (WL P S (Dw P S))
def Du(d:Nat)(g:aH):Prop:=d=1/\g.status=.running/\HU P S (dA S) (cK 0 1) (cK 0 1) d g (WL P S (Dv P S))
def BT(d:Nat)(g:aH):Prop:=d=1/\g.status=.running/\∀c t,c<9->t<=1->HU P S (dA S) (cK (c+1) t) (cK c t) d g λa b=>(c=0/\t=1->WL P S (Du P S) a b)/\(¬(c=0/\t=1)->UK P a b)
variable (E:cX->Prop)(gf:aH)
def WM(a:Nat->aH->Prop)(d:Nat)(g:aH):Prop:=∃n,kI P U (KW S) E a n d g
def Ov(d:Nat)(g:aH):Prop:=d=0/\g.status=.running/\g=gf
def WZ(d:Nat)(g:aH):Prop:=∃n,nA P U (KW S) E (FR S) (Ov gf) n Y d g
def HP(d:Nat)(g:aH):Prop:=d=1/\g.status=.running/\yW P E (dA S) (cK 0 0) (cK 0 0) d g (WZ P S E gf)
def xp(d:Nat)(g:aH):Prop:=d=1/\g.status=.running/\g.offers=I/\(∀w,eN w (dB S) (jH 0)->aG P U g w=.go {g with status:=.blocked} w #[])/\yW P E (dB S) (jH 1) (jH 0) d g (WM P S E (HP P S E gf))
def Ds(a:Nat->aH->Prop)(c0 d:Nat)(g:aH):Prop:=d=1/\g.status=.running/\yW P E (dA S) (cK c0 0) (cK c0 1) d g (WM P S E (xp P S E gf))/\∀c,c<c0->yW P E (dA S) (cK c 0) (cK c 0) d g (WM P S E a)
def xo:Nat->Nat->aH->Prop
 |0,d,g=>d=1/\g.status=.running/\yW P E (dA S) (cK 0 0) (cK 0 0) d g (WZ P S E gf)
 |f+1,d,g=>d=1/\g.status=.running/\yW P E (dA S) (cK 0 0) (cK 0 0) d g (WZ P S E gf)/\∀c,c<=f->yW P E (dA S) (cK (c+1) 0) (cK (c+1) 0) d g (WM P S E (Ds P S E gf (xo f) (c+1)))
end
section
variable {P:aA}{S:Nat}{E:cX->Prop}{gf:aH}
theorem ZG{d:Nat}{g:aH}(h:BT P S d g):g.status=.running:=h.2.1
theorem Sx{d:Nat}{g:aH}(h:Du P S d g):g.status=.running:=h.2.1
theorem Sy{d:Nat}{g:aH}(h:Dv P S d g):g.status=.running:=h.2.1
theorem Sz{d:Nat}{g:aH}(h:Dw P S d g):g.status=.running:=h.2.1
theorem R3{d:Nat}{g:aH}(h:Ov gf d g):g.status=.running:=h.2.1
theorem RZ{d:Nat}{g:aH}(h:HP P S E gf d g):g.status=.running:=h.2.1
theorem EP{d:Nat}{g:aH}(h:xp P S E gf d g):g.status=.running:=h.2.1
theorem GY{a:Nat->aH->Prop}{c0 d:Nat}{g:aH}(h:Ds P S E gf a c0 d g):g.status=.running:=h.2.1
theorem RY{f d:Nat}{g:aH}(h:xo P S E gf f d g):g.status=.running:=by cases f<;>exact h.2.1
theorem anJ{f d:Nat}{g:aH}(h:xo P S E gf f d g):yW P E (dA S) (cK 0 0) (cK 0 0) d g (WZ P S E gf):=by
 cases f with
 |zero=>exact h.2.2
 |succ f=>exact h.2.2.1
end
inductive uy(P:aA)(S:Nat)(E:cX->Prop)(gf:aH)(d:Nat):Nat->aH->Prop
 |tI {n:Nat} {g:aH} (h:kI P U (KW S) E (xp P S E gf) n d g):uy P S E gf d (n+1) g
 |parked {g:aH} (h:xp P S E gf d g):uy P S E gf d 0 {g with status:=.blocked}
inductive gK(P:aA)(S:Nat)(E:cX->Prop)(gf:aH)(AK:Prop)(cQ:Nat->Nat->Prop)(c d q0:Nat)(g0:aH):aj Nat->Nat->Nat->Nat->Prop
 |a (f:Nat) (hc:c<=f) (h:kI P U (KW S) E (xo P S E gf f) q0 d g0):gK P S E gf AK cQ c d q0 g0 I 0 0 11
 |yz (f c0:Nat) (hc:c<c0) (h0:c0<=f+1) (h:kI P U (KW S) E (Ds P S E gf (xo P S E gf f) c0) q0 d g0):gK P S E gf AK cQ c d q0 g0 I 0 0 12
 |b (f:Nat) (hc:0<c) (h0:c<=f+1) (h:kI P U (KW S) E (Ds P S E gf (xo P S E gf f) c) q0 d g0):gK P S E gf AK cQ c d q0 g0 I 0 0 10
 |c (hc:0<c) (h:uy P S E gf d q0 g0):gK P S E gf AK cQ c d q0 g0 I 1 0 9
 |cB (j:Nat) (hc:c=0) (hj:cQ j 2) (h:uy P S E gf d q0 g0):gK P S E gf AK cQ c d q0 g0 (Z j) 1 0 8
 |cC (j:Nat) (hc:c=0) (hj:cQ j 1) (h:uy P S E gf d q0 g0):gK P S E gf AK cQ c d q0 g0 (Z j) 1 0 7
 |cD (j:Nat) (hc:c=0) (hj:cQ j 0) (h:uy P S E gf d q0 g0):gK P S E gf AK cQ c d q0 g0 (Z j) 0 0 6
 |cR (hc:c=0) (h:kI P U (KW S) E (xp P S E gf) q0 d g0):gK P S E gf AK cQ c d q0 g0 I 0 1 5
 |d (hc:c=0) (h:kI P U (KW S) E (HP P S E gf) q0 d g0):gK P S E gf AK cQ c d q0 g0 I 0 0 4
 |z (b:Bool) (hb:b=U->AK) (hc:c=0) (h:nA P U (KW S) E (FR S) (Ov gf) q0 b d g0):gK P S E gf AK cQ c d q0 g0 I 0 0 3
section
variable {P:aA}{S:Nat}{E:cX->Prop}{gf:aH}{AK kB:Prop}{cQ CK:Nat->Nat->Prop}{c d q0:Nat}{g0:aH}{X:aj Nat}{t W V:Nat}
theorem UO{g:aH}(f:g.status=.running)(e:g.offers=I)(w:au):({g with status:=.blocked}:aH).again w=g:=by
 obtain⟨a,b,s,h,o⟩:=g;cases f;cases e;rfl
theorem uy.again(h:uy P S E gf d q0 g0)(w:au):∃a,a<=q0+1/\uy P S E gf d a (g0.again w):=by
 cases h with
 |tI h=>exact⟨_,pL _,by rw[Ag w (.inl (h.run λ_ _=>EP))];exact .tI h⟩
 |parked h=>exact⟨1,by omega,by rw[UO h.2.1 h.2.2.1];exact .tI (n:=0) h⟩
theorem uy.noSend(h:uy P S E gf d q0 g0)(b:Nat):offersAt g0 b U=[]:=by
 cases h with
 |tI h=>exact sM (by rw[h.run λ_ _=>EP];simp) _ _
 |@parked g h=>
  have:g.offers=I:=h.2.2.1;simp[offersAt,this]
theorem gK.noSend(h:gK P S E gf AK cQ c d q0 g0 X t W V)(b:Nat):offersAt g0 b U=[]:=by
 cases h with
 |a f e h=>exact sM (by rw[h.run λ_ _=>RY];simp) _ _
 |yz f c0 e i h=>exact sM (by rw[h.run λ_ _=>GY];simp) _ _
 |b f e i h=>exact sM (by rw[h.run λ_ _=>GY];simp) _ _
 |c e h=>exact h.noSend b
 |cB j e g h=>exact h.noSend b
 |cC j e g h=>exact h.noSend b
 |cD j e g h=>exact h.noSend b
 |cR e h=>exact sM (by rw[h.run λ_ _=>EP];simp) _ _
 |d e h=>exact sM (by rw[h.run λ_ _=>RZ];simp) _ _
 |z b k e h=>exact sM (by rw[h.run λ_ _=>R3];simp) _ _
theorem gK.EH(h:gK P S E gf AK cQ c d q0 g0 X t W V)(l:∀j n,X=Z j->cQ j n->CK j n)(m:c=0->AK->kB):gK P S E gf kB CK c d q0 g0 X t W V:=by
 cases h with
 |a f g h=>exact .a f g h
 |yz f c0 g k h=>exact .yz f c0 g k h
 |b f g k h=>exact .b f g k h
 |c g h=>exact .c g h
 |cB j g i h=>exact .cB j g (l _ _ F i) h
 |cC j g i h=>exact .cC j g (l _ _ F i) h
 |cD j g i h=>exact .cD j g (l _ _ F i) h
 |cR g h=>exact .cR g h
 |d g h=>exact .d g h
 |z b o g h=>exact .z b (λe=>m g (o e)) g h
theorem gK.again(h:gK P S E gf AK cQ c d q0 g0 X t W V)(w:au):∃g,g<=q0+1/\gK P S E gf AK cQ c d g (g0.again w) X t W V:=by
 cases h with
 |a f e h=>exact⟨_,pL _,by rw[Ag w (.inl (h.run λ_ _=>RY))];exact .a f e h⟩
 |yz f c0 e m h=>exact⟨_,pL _,by rw[Ag w (.inl (h.run λ_ _=>GY))];exact .yz f c0 e m h⟩
 |b f e m h=>exact⟨_,pL _,by rw[Ag w (.inl (h.run λ_ _=>GY))];exact .b f e m h⟩
 |c e h=>obtain⟨g,i,k⟩:=h.again w;exact⟨g,i,.c e k⟩
 |cB j e l h=>obtain⟨g,i,k⟩:=h.again w;exact⟨g,i,.cB j e l k⟩
 |cC j e l h=>obtain⟨g,i,k⟩:=h.again w;exact⟨g,i,.cC j e l k⟩
 |cD j e l h=>obtain⟨g,i,k⟩:=h.again w;exact⟨g,i,.cD j e l k⟩
 |cR e h=>exact⟨_,pL _,by rw[Ag w (.inl (h.run λ_ _=>EP))];exact .cR e h⟩
 |d e h=>exact⟨_,pL _,by rw[Ag w (.inl (h.run λ_ _=>RZ))];exact .d e h⟩
 |z b n e h=>exact⟨_,pL _,by rw[Ag w (.inl (h.run λ_ _=>R3))];exact .z b n e h⟩
theorem gK.sm0(h:gK P S E gf AK cQ c d q0 g0 X t W V)(a:0<c):W=0/\X=I:=by
 cases h<;>first|exact⟨rfl,rfl⟩|omega
theorem uy.status(h:uy P S E gf d q0 g0):g0.status=.running\/g0.status=.blocked:=by
 cases h with
 |tI h=>exact .inl (h.run λ_ _=>EP)
 |parked h=>exact .inr F
theorem gK.status(h:gK P S E gf AK cQ c d q0 g0 X t W V):g0.status=.running\/(g0.status=.blocked/\(0<c\/∃j n,X=Z j/\cQ j n)):=by
 cases h with
 |a f g h=>exact .inl (h.run λ_ _=>RY)
 |yz f c0 g k h=>exact .inl (h.run λ_ _=>GY)
 |b f g k h=>exact .inl (h.run λ_ _=>GY)
 |c g h=>exact h.status.imp id λe=>⟨e,.inl g⟩
 |cB j g i h=>exact h.status.imp id λe=>⟨e,.inr ⟨_,_,F,i⟩⟩
 |cC j g i h=>exact h.status.imp id λe=>⟨e,.inr ⟨_,_,F,i⟩⟩
 |cD j g i h=>exact h.status.imp id λe=>⟨e,.inr ⟨_,_,F,i⟩⟩
 |cR g h=>exact .inl (h.run λ_ _=>EP)
 |d g h=>exact .inl (h.run λ_ _=>RZ)
 |z b l g h=>exact .inl (h.run λ_ _=>R3)
theorem gK.last(h:gK P S E gf AK cQ 1 d q0 g0 X 1 W V){j:Nat}(a:CK j 2):gK P S E gf kB CK 0 d q0 g0 (Z j) 1 0 8:=by
 cases h with
 |c b h=>exact .cB j F a h
 |cB j b a h=>omega
 |cC j b a h=>omega
end
end
abbrev fI:aj (aJ×Nat):=Z (109,14)
section
variable {P:aA}{X:Bool}{S:Nat}{E:cX->Prop}{W:Nat->aH->Prop}{d:Nat}{g V:aH}
theorem yG:∀(n:Nat)(g:aH),(∃m,kI P X (KW S) E W m d (aN P n g))->∃m,kI P X (KW S) E W m d g:=by
 intro n;induction n with
 |zero=>intro g h;exact h
 |succ n e=>
  intro g h;unfold aN at h;cases hq:om P g with
  |none=>rw[hq]at h;exact h
  |some V=>
   rw[hq]at h;obtain⟨m,c⟩:=e V h;obtain⟨a,b⟩:=CO (main:=X) hq;exact⟨m+1,.inr ⟨a,V,#[],by simp,λw _=>b w,c⟩⟩
theorem axw{l:ae iR}{es:af cX}(b:∀v,stage P fI v g=Z (V,v,l))(c:eH (dA S) l)(f:wW P g l=es)(h:∀e∈es,E e)(n:∃m,kI P X (KW S) E W m (gW d es) V):∃m,kI P X (KW S) E W m d g:=by
 subst f;refine yG 400 g ?_;obtain⟨m,j⟩:=n;have k:=(wB (main:=X) (b aC) c).1;refine⟨m+1,.inr ⟨k,V,wW P g l,h,λw i=>?_,j⟩⟩;obtain⟨⟨v,a⟩,_⟩:=i;rw[(wB (main:=X) (b v) c).2 w a.cell a.free a.shape,wR a.cell];rfl
theorem ZW:∀(n:Nat)(g:aH),(∃m,QuitsD P m d (aN P n g))->∃m,QuitsD P m d g:=by
 intro n;induction n with
 |zero=>intro g h;exact h
 |succ n e=>
  intro g h;unfold aN at h;cases hq:om P g with
  |none=>rw[hq]at h;exact h
  |some V=>
   rw[hq]at h;obtain⟨m,c⟩:=e V h;obtain⟨a,b⟩:=CO (main:=Y) hq;exact⟨m+1,.inr ⟨a,V,#[],by simp,λw=>b w,c⟩⟩
theorem SE{es:af cX}(c:g.status=.running)(h:∀w,aG P Y g w=.go V w es)(a:∀e∈es,Event.mute e=U)(f:∃m,QuitsD P m (gW d es) V):∃m,QuitsD P m d g:=by
 obtain⟨m,b⟩:=f;exact⟨m+1,.inr ⟨c,V,es,a,h,b⟩⟩
end
noncomputable def kz(v:ag)(g:aH):aH:=((nK ak fI v g).map (λr=>r.1)).getD default
theorem Sl{v v':ag}{g:aH}{l:ae iR}(h:(nK ak fI v g).map (λr=>r.2)=Z (v',l)):nK ak fI v g=Z (kz v g,v',l):=by
 unfold kz;cases hs:nK ak fI v g with
 |none=>rw[hs]at h;cases h
 |some r=>rw[hs]at h;obtain⟨a,b,c⟩:=r;cases h;rfl
noncomputable def sg(g:aH):aH:=kz aC (aN ak 400 g)
theorem qV{g:aH}{l:ae iR}{v:ag}(h:(stage ak fI v g).map (λr=>r.2)=Z (v,l))(a:kz v (aN ak 400 g)=sg g):stage ak fI v g=Z (sg g,v,l):=by
 rw[<-a];exact Sl h
theorem NZ{S:Nat}{v v':ag}{d:Nat}{g:aH}{l:ae iR}{es:af cX}{Next:Nat->aH->Prop}(m:a.block=S)(i:(nK ak fI v g).map (λr=>r.2)=Z (v',l))(k:eH a l)(f:seen ak g.frame.fn (dc l).toArray=es)(h:∀e∈es,EvS S e)(c:An d es.toList)(j:Next (gW d es) (kz v g)):HU ak S a v v' d g Next:=by
 have:=wB (main:=Y) (Sl i) k;refine⟨kz v g,es,λw b=>?_,h,c,j⟩;rw[this.2 w b.cell b.free b.shape,f]
theorem Fi{E:cX->Prop}{v v':ag}{d:Nat}{g:aH}{l:ae iR}{Next:Nat->aH->Prop}(f:(nK ak fI v g).map (λr=>r.2)=Z (v',l))(i:eH a l)(c:∀e∈dc l,E e)(h:Next (gW d (seen ak g.frame.fn (dc l).toArray)) (kz v g)):yW ak E a v v' d g Next:=by
 have:=wB (main:=U) (Sl f) i;exact⟨kz v g,_,λw b=>this.2 w b.cell b.free b.shape,λe hE=>c e (by simpa using mem_seen hE),h⟩
def HY(tm:af ag)(T:ae aK):az:=⟨94,tm,T,[],.returning,.deferred,I⟩
noncomputable def O3(S:Nat)(tm:af ag)(T:ae aK):aH:=G (bG ak 95 #[ptr S 11] .deferred) [HY tm T,wrap]
def arU(S:Nat):af ag:=⟨[ptr S 11,.int .u64 18446744069414584320,aC,aC,.int .u64 0,ptr S 11,ptr S 11,ptr S 11,.int .u64 18446744069414584320,aC]⟩
def s93(S:Nat):af ag:=⟨[ptr S 11,ah (-1),aC,aC,.bool Y,aC,aC,aC,aC,ah (-1),.bool U,ptr S 11,ptr S 11,aC,aC,.bool Y,aC,aC,aC,aC,aC,aC,aC,aC,aC,aC,aC,aC,aC,aC,aC,aC,aC,aC,aC,aC,aC,
 ptr S 11,ptr S 11,ptr S 11,ah (-1),.int .u64 18446744073709551615,.int .u64 18446744069414584320]++kh 74 aC⟩
def s95(S:Nat):af ag:=⟨[ptr S 11,aC,ptr S 11,aC]⟩
noncomputable def t124:ae aK:=match Tryz.f124.body with
 |some (.seq _ (.seq (.region _ a _) c))=>[.inRegion a [4,5],.code c]
 |_=>[]
noncomputable def t93:ae aK:=match Tryz.f93.body with
 |some (.seq _ (.seq _ (.seq _ (.seq (.region _ a _) c))))=>[.inRegion a [6,7],.code c]
 |_=>[]
noncomputable def t95:ae aK:=match Tryz.f95.body with
 |some (.region _ a _)=>[.inRegion a [1]]
 |_=>[]
noncomputable def Dy(S:Nat)(tm:af ag)(T:ae aK):aH:=G ⟨124,arU S,t124,[],.run,.normal,I⟩ [⟨93,s93 S,t93,[Il],.run,.normal,I⟩,⟨95,s95 S,t95,[],.run,.deferred,I⟩,HY tm T,wrap]
section
variable (S:Nat)(tm:af ag)(T:ae aK)(v:ag)
theorem adk:aN ak 400 (sg (sg (sg (sg (O3 S tm T)))))=Dy S tm T:=av
end
theorem adI(tm:af ag)(td:ae aK)(w:au):aG ak Y (G (HY tm td) [wrap]) w=.go (G wrap []) w #[]:=av
noncomputable def ao3:aH:={G wrap []with status:=.finished}
theorem axD(w:au):aG ak Y (G wrap []) w=.go ao3 w #[]:=av
theorem aqw(tm:af ag)(td:ae aK):∃m,QuitsD ak m 0 (G (HY tm td) [wrap]):=SE F (adI tm td) aZ (SE F axD aZ ⟨0,F,F⟩)
theorem UN{g:aH}{tm:af ag}{td:ae aK}(b:aN ak 400 g=G ⟨93,(aN ak 400 g).frame.tmps,(aN ak 400 g).frame.todo,[Il],.returning,.normal,I⟩ (aN ak 400 g).callers)(c:aN ak 400 (O7 (aN ak 400 g))=G (HY tm td) [wrap]):∃m,QuitsD ak m 1 g:=by
 refine ZW 400 g ?_;have hE:seen ak 93 #[⟨.mark (.extern 76),Y,U⟩,⟨.mark .enable,Y,U⟩]=#[⟨.mark .enable,Y,U⟩]:=by kernel_rfl
 have d:∀w,aG ak Y (aN ak 400 g) w=.go (O7 (aN ak 400 g)) w #[⟨.mark .enable,Y,U⟩]:=λw=>by
  rw[b,<-hE];exact Vy Y 93 _ _ [] .normal _ w
 refine SE (by rw[b];rfl) d (λe a=>?_) ?_
 ·simp only[jA,bQ,gk,or_false]at a
  subst a;rfl
 ·exact ZW 400 _ (by rw[c];exact aqw tm td)
def OH(S:Nat):ae iR:=[.ev ⟨.mark (.extern 150),Y,U⟩,.ev ⟨.cell (dA S),Y,U⟩,.ev ⟨.cell (dA S),U,U⟩]
def KT(S:Nat):af cX:=#[⟨.cell (dA S),Y,U⟩,⟨.cell (dA S),U,U⟩]
theorem adh{S:Nat}:∀e∈KT S,EvS S e:=by
 intro e a;simp only[KT,jA,bQ,gk,or_false]at a;rcases a with rfl|rfl
 ·exact .inr ⟨_,.inl rfl⟩
 ·exact .inr ⟨_,.inl rfl⟩
theorem adi{S:Nat}:An 1 (KT S).toList:=⟨λ_=>Nat.one_pos,λ_=>Nat.one_pos,trivial⟩
section
variable (S:Nat)(tm:af ag)(td:ae aK)
theorem adl:seen ak (Dy S tm td).frame.fn (dc (OH S)).toArray=KT S:=av
theorem adj(c t:Nat)(d:c<9)(e:t<=1):(nK ak fI (cK (c+1) t) (Dy S tm td)).map (λr=>r.2)=Z (cK c t,OH S)/\(¬(c=0/\t=1)->∃m,QuitsD ak m 1 (kz (cK (c+1) t) (Dy S tm td))):=by
 have a:c=0\/c=1\/c=2\/c=3\/c=4\/c=5\/c=6\/c=7\/c=8:=by omega
 have b:t=0\/t=1:=by omega
 rcases a with rfl|rfl|rfl|rfl|rfl|rfl|rfl|rfl|rfl<;>rcases b with rfl|rfl<;>exact⟨by kernel_rfl,λh=>by first|exact absurd ⟨rfl,rfl⟩ h|exact UN (tm:=tm) (td:=td) av av⟩
end
section
variable {P:aA}{X:Bool}{S:Nat}{E:cX->Prop}{F:cX}{W:Nat->aH->Prop}{d:Nat}{b:Bool}{g V:aH}
theorem Kk:∀(n)(g),(∃m,nA P X (KW S) E F W m b d (aN P n g))->∃m,nA P X (KW S) E F W m b d g:=by
 intro n;induction n with
 |zero=>intro g h;exact h
 |succ n f=>
  intro g h;unfold aN at h;cases hq:om P g with
  |none=>rw[hq]at h;exact h
  |some V=>
   rw[hq]at h;obtain⟨m,e⟩:=f _ h;obtain⟨a,c⟩:=CO hq;exact⟨m+1,.inr ⟨a,V,#[],b,.inl ⟨by simp,rfl⟩,λw _=>c w,e⟩⟩
theorem axy{es}(f:g.status=.running)(h:∀w,aG P X g w=.go V w es)(a:∀e∈es,E e)(i:∃m,nA P X (KW S) E F W m b (gW d es) V):∃m,nA P X (KW S) E F W m b d g:=by
 obtain⟨m,c⟩:=i;exact⟨m+1,.inr ⟨f,V,es,b,.inl ⟨a,rfl⟩,λw _=>h w,c⟩⟩
theorem Fo{l}{es}{d'}(c:∀v,stage P fI v g=Z (V,v,l))(f:eH (dA S) l)(h:wW P g l=es)(j:∀e∈es,E e)(i:gW d es=d')(p:∃m,nA P X (KW S) E F W m b d' V):∃m,nA P X (KW S) E F W m b d g:=by
 subst h i;refine Kk 400 g ?_;obtain⟨m,n⟩:=p;have o:=(wB (main:=X) (c aC) f).1;refine⟨m+1,.inr ⟨o,V,wW P g l,b,.inl ⟨j,rfl⟩,λw k=>?_,n⟩⟩;obtain⟨⟨v,a⟩,_⟩:=k;rw[(wB (c v) f).2 w a.cell a.free a.shape,wR a.cell];rfl
theorem Uc{l}(c:∀v,stage P fI v g=Z (V,v,l))(e:eH (dA S) l)(f:wW P g l=#[F])(h:gW 0 #[F]=0)(n:∃m,nA P X (KW S) E F W m U 0 V):∃m,nA P X (KW S) E F W m b 0 g:=by
 refine Kk 400 g ?_;obtain⟨m,j⟩:=n;have k:=(wB (main:=X) (c aC) e).1;refine⟨m+1,.inr ⟨k,V,#[F],U,.inr ⟨rfl,rfl,rfl⟩,λw i=>?_,by rw[h];exact j⟩⟩;obtain⟨⟨v,a⟩,_⟩:=i;rw[(wB (c v) e).2 w a.cell a.free a.shape,wR a.cell,<-f];rfl
end
section
variable (S:Nat)(tm:af ag)(X:ae aK)
noncomputable def Jv:aH:=aN ak 400 (kz (cK 1 1) (Dy S tm X))
noncomputable def Jw:aH:=aN ak 400 (kz (cK 0 1) (Jv S tm X))
noncomputable def CG:aH:=aN ak 400 (kz (cK 0 1) (Jw S tm X))
def Ru:ae iR:=[.ev ⟨.mark (.extern 117),Y,U⟩,.ev ⟨.cell (dA S),Y,U⟩]
def Rv:ae iR:=[.ev ⟨.mark (.extern 151),Y,U⟩,.ev ⟨.cell (dA S),U,U⟩]
def Rw:ae iR:=[.ev ⟨.mark (.extern 127),Y,U⟩,.ev ⟨.mark .disable,Y,U⟩,.ev ⟨.cell (dB S),Y,U⟩,.ev ⟨.cell (dB S),U,U⟩,.ev ⟨.mark .enable,Y,U⟩]
theorem amd:(nK ak fI (cK 0 1) (Jv S tm X)).map (λr=>r.2)=Z (cK 0 1,Ru S):=av
theorem ame:seen ak (Jv S tm X).frame.fn (dc (Ru S)).toArray=#[⟨.cell (dA S),Y,U⟩]:=av
theorem amf:(nK ak fI (cK 0 1) (Jw S tm X)).map (λr=>r.2)=Z (cK 0 0,Rv S):=av
theorem amg:seen ak (Jw S tm X).frame.fn (dc (Rv S)).toArray=#[⟨.cell (dA S),U,U⟩]:=av
theorem ami:(nK ak fI (jH 0) (CG S tm X)).map (λr=>r.2)=Z (jH 1,Rw S):=av
theorem amk:seen ak (CG S tm X).frame.fn (dc (Rw S)).toArray=semEvents (dB S):=av
theorem aml:mayWake ak (CG S tm X)=U:=av
theorem amh:((kz (jH 0) (CG S tm X)).status !=.blocked&&(kz (jH 0) (CG S tm X)).status !=.waiting)=U:=av
theorem amj:∃m,QuitsD ak m 1 (kz (jH 0) (CG S tm X)):=UN (tm:=tm) (td:=X) av av
theorem Rx:(Jv S tm X).status=.running/\(Jw S tm X).status=.running/\(CG S tm X).status=.running/\(Dy S tm X).status=.running:=⟨by kernel_rfl,by kernel_rfl,by kernel_rfl,F⟩
theorem ao9:Dw ak S 1 (CG S tm X):=by
 refine⟨F,(Rx S tm X).2.2.1,aml S tm X,NZ F (ami S tm X) (by simp[Rw,eH]) (amk S tm X) (λe a=>?_) ?_ ⟨amh S tm X,?_⟩⟩
 ·simp only[semEvents,jA,bQ,gk,or_false]at a
  rcases a with rfl|rfl|rfl|rfl
  ·exact .inl rfl
  ·exact .inr ⟨_,.inr rfl⟩
  ·exact .inr ⟨_,.inr rfl⟩
  ·exact .inl rfl
 ·exact⟨λh=>absurd rfl h,λ_=>Nat.zero_lt_succ _,λ_=>Nat.zero_lt_succ _,λh=>absurd rfl h,trivial⟩
 ·exact amj S tm X
theorem ao8:Dv ak S 1 (Jw S tm X):=by
 refine⟨F,(Rx S tm X).2.1,NZ F (amf S tm X) (by simp[Rv,eH]) (amg S tm X) (λe a=>?_) ⟨λ_=>Nat.one_pos,trivial⟩ ?_⟩
 ·simp only[jA,bQ,gk,or_false]at a
  subst a;exact .inr ⟨_,.inl F⟩
 ·exact yG 400 _ ⟨0,ao9 S tm X⟩
theorem ao7:Du ak S 1 (Jv S tm X):=by
 refine⟨F,(Rx S tm X).1,NZ F (amd S tm X) (by simp[Ru,eH]) (ame S tm X) (λe a=>?_) ⟨λ_=>Nat.one_pos,trivial⟩ ?_⟩
 ·simp only[jA,bQ,gk,or_false]at a
  subst a;exact .inr ⟨_,.inl F⟩
 ·exact yG 400 _ ⟨0,ao8 S tm X⟩
theorem ao6:BT ak S 1 (Dy S tm X):=by
 refine⟨F,F,λc t d e=>?_⟩;obtain⟨a,b⟩:=adj S tm X c t d e;refine NZ F a (by simp[OH,eH]) (adl S tm X) adh adi ⟨λh=>?_,λh=>b h⟩;obtain⟨rfl,rfl⟩:=h;exact yG 400 _ ⟨0,ao7 S tm X⟩
theorem afK:∃m,nA ak Y (KW S) (rm S) (uo S) (BT ak S) m Y 0 (O3 S tm X):=by
 refine Fo (es:=#[]) (d':=0) (λv=>qV (l:=[.shape S,.shape S]) av av) (by simp[eH,dA]) av aZ F ?_;refine Uc (λv=>qV (l:=[.ev ⟨.mark (.extern 112),Y,U⟩,.ev ⟨.mark (.releaseMerge (dA S)),Y,U⟩]) av av) (by simp[eH]) av F ?_;refine Fo (es:=#[⟨.mark .disable,Y,U⟩]) (d':=1) (λv=>qV (l:=[.ev ⟨.mark (.extern 74),Y,U⟩,.ev ⟨.mark .disable,Y,U⟩]) av av) (by simp[eH]) av (λe a=>?_) F ?_
 ·simp only[jA,bQ,gk,or_false]at a
  subst a;exact(F:Event.mute ⟨.mark .disable,Y,U⟩=U)
 refine Fo (es:=#[]) (d':=1) (λv=>qV (l:=[.ev ⟨.mark (.extern 82),Y,U⟩]) av av) (by simp[eH]) av aZ F ?_;refine Kk 400 _ ?_;rw[adk];exact⟨0,F,ao6 S tm X⟩
end
section
variable (k:dp)(W:ag)(j:Fin 9->ag)
theorem afJ(tm:af ag)(X:ae aK)(w:au):aG ak Y (G ⟨94,tm,X,[doneD k],.returning,.deferred,I⟩ [wrap]) w=.go (O3 k.S tm X) w #[]:=av
theorem asL:aN ak 400 (yE k W j (rH 1 Y .nilFunc))=G ⟨94,(aN ak 400 (yE k W j (rH 1 Y .nilFunc))).frame.tmps,(aN ak 400 (yE k W j (rH 1 Y .nilFunc))).frame.todo,[doneD k],.returning,.deferred,I⟩ [wrap]:=av
theorem asM:∃m,nA ak Y (KW k.S) (rm k.S) (uo k.S) (BT ak k.S) m Y 0 (yE k W j (rH 1 Y .nilFunc)):=by
 refine Kk 400 _ ?_;rw[asL];exact axy F (afJ k _ _) aZ (afK k.S _ _)
theorem anf{y:YS}{n B0:Nat}{g:aH}(f:k.W≠k.D)(o:y.s=Seat.one k.W .nilFunc U (λ_=>True))(l:y.K=wK k)(b:y.St=tH k)(i:y.B=B0)(t:g.status=.running)(q:Goes ak Y (RK (wK k)) (DS (tH k) B0) (λg _=>∃a,AtIn ak Y (wK k) (tH k) B0 (oS k) g a) n g default):∃(s:Seat)(d:Nat)(z:ag),s.Wf/\s.cases[d]?=Z (rcase k.D z)/\(∀c,s.has c->c≠k.D->y.s.has c)/\Goes ak Y (RK y.K) (DS y.St y.B) (λg _=>∃a,AtIn ak Y y.K y.St y.B s g a) n g default/\∀a,s.home a->∃m,nA ak Y (KW k.S) (rm k.S) (uo k.S) (BT ak k.S) m Y 0 (jz a (qp s.cases s.shape d z Y)):=by
 refine⟨oS k,1,.agg #[],(acj k B0 f).1,F,λc p h=>?_,by rw[l,b,i];exact q,λa r=>?_⟩
 ·rw[o]
  have:=(zZ k B0).1 p;rcases this with rfl|rfl
  ·exact Seat.one_has.2 rfl
  ·exact absurd rfl h
 ·obtain⟨W,j,rfl⟩:=r
  have:=asM k W j;unfold yE at this;have e:qp (oS k).cases (oS k).shape (1:Nat) (.agg #[]) Y=rH 1 Y .nilFunc:=ahr k;rw[e];exact this
end
noncomputable def HW:bl:=match Tryz.f46.body with
 |some (.seq _ (.block _ (.loop (.block _ x))))=>x
 |_=>.skip
noncomputable def KC:bl:=match Tryz.f46.body with
 |some (.seq _ (.block _ (.loop x)))=>x
 |_=>.skip
noncomputable def t46:ae aK:=match HW with
 |.seq (.region _ a _) c=>[.inRegion a [3,4],.code c,.inBlock 1,.inLoop KC,.inBlock 0]
 |_=>[]
noncomputable def aww:ae aK:=match HW with
 |.seq _ (.seq _ (.seq _ (.seq _ (.seq (.region _ a _) c))))=>[.inRegion a [6],.code c,.inBlock 1,.inLoop KC,.inBlock 0]
 |_=>[]
noncomputable def awx:ae aK:=match HW with
 |.seq _ (.seq _ (.seq _ (.seq _ (.seq _ (.cond _ (.seq _ (.seq _ (.seq _ (.seq (.region _ a _) c)))) _)))))=>[.inRegion a [4],.code c,.inBlock 1,.inLoop KC,.inBlock 0]
 |_=>[]
noncomputable def Sn:af bh:=match HW with
 |.seq _ (.seq _ (.seq _ (.seq _ (.seq _ (.cond _ (.seq _ (.seq _ (.seq _ (.seq (.region _ a _) _)))) _)))))=>a
 |_=>#[]
noncomputable def alF:ae aK:=match HW with
 |.seq _ (.seq _ (.seq _ (.seq _ (.seq _ (.cond _ (.seq _ (.seq _ (.seq _ (.seq _ c)))) _)))))=>[.code c,.inBlock 1,.inLoop KC,.inBlock 0]
 |_=>[]
noncomputable def t75:ae aK:=match Tryz.f75.body with
 |some (.seq _ (.seq (.region _ a _) c))=>[.inRegion a [3,4],.code c]
 |_=>[]
noncomputable def t79:ae aK:=match Tryz.f79.body with
 |some (.seq _ (.seq (.region _ a _) c))=>[.inRegion a [5,6],.code c]
 |_=>[]
def s75(S:Nat):af ag:=⟨[ptr S 11,aC,.int .u64 0,ptr S 11,ptr S 11,ptr S 11,aC]⟩
def s79(S n:Nat):af ag:=⟨[ptr S 11,cK n 0,cK n 1,aC,aC,aC,.bool Y,ptr S 11,ptr S 11,ptr S 11,cK n 0,cK n 1,aC]⟩
noncomputable def BE(S:Nat)(J:Nat->ag)(c:az)(X:ae az):aH:=G ⟨75,s75 S,t75,[],.run,.normal,I⟩ (⟨46,bO 84 (ov J [(0,ptr S 11),(8,ptr S 11),(9,ptr S 11),(10,ptr S 11)]) [],t46,[],.run,.normal,I⟩::c::X)
def OU(S n:Nat)(J:Nat->ag)(l:ae (Nat×ag)):Nat->ag:=ov J ([(0,ptr S 11),(2,cK n 0),(3,.int .i32 n),(4,.int .u32 0),(8,ptr S 11),(9,ptr S 11),(10,ptr S 11),(11,cK n 0),(12,cK n 0),(13,.int .u64 n),(14,.int .i32 n),(15,cK n 0),(16,.int .u64 0),(17,.int .u32 0),(18,.int .i32 n),(19,.bool Y),
 (42,ptr S 11),(43,ptr S 11),(44,ptr S 11),(45,cK n 0),(46,cK n 0),(47,cK n 1)]++l)
noncomputable def Dz(S n:Nat)(J:Nat->ag)(c:az)(X:ae az):aH:=G ⟨79,s79 S n,t79,[],.run,.normal,I⟩ (⟨46,bO 84 (OU S n J []) [],aww,[],.run,.normal,I⟩::c::X)
def asx(S n:Nat)(J:Nat->ag):Nat->ag:=OU S n J [(5,.bool Y),(48,.bool U),(49,.bool U),(50,.int .u32 0),(51,.bool U),(52,.bool U),(53,ptr S 11),(54,ptr S 11),(55,ptr S 12),(56,ptr S 12),(57,aC),(58,cK n 0),(59,.int .u64 0),(60,.bool Y),(61,.bool Y),(62,aC),(63,.bool Y),
 (68,ptr S 11),(69,ptr S 11),(70,ptr S 12),(71,.bool Y)]
noncomputable def CX(S:Nat)(J:Nat->ag)(c:az)(X:ae az):aH:=G ⟨46,bO 84 (ov J [(0,ptr S 11),(70,ptr S 12),(71,.bool Y)]) [],awx,[],.run,.normal,I⟩ (c::X)
def ya(S:Nat):ae iR:=[.ev ⟨.mark (.extern 117),Y,U⟩,.ev ⟨.cell (dA S),Y,U⟩]
def IX(S:Nat):ae iR:=[.ev ⟨.mark (.extern 118),Y,U⟩,.shape S,.frozen (dA S),.ev ⟨.cell (dA S),Y,U⟩,.ev ⟨.cell (dA S),U,U⟩]
def JC(S:Nat):ae iR:=[.ev ⟨.mark (.extern 118),Y,U⟩,.shape S,.frozen (dA S),.ev ⟨.cell (dA S),Y,U⟩]
def J3(S:Nat):ae iR:=[.ev ⟨.mark (.extern 83),Y,U⟩,.ev ⟨.mark .disable,Y,U⟩,.ev ⟨.cell (dB S),Y,U⟩,.ev ⟨.cell (dB S),U,U⟩,.ev ⟨.mark .enable,Y,U⟩]
section
variable (S:Nat)(J:Nat->ag)(X:ae az)(c:az)
theorem axs(v:ag):(stage ak fI v (G (bG ak 46 #[ptr S 11] .normal) (c::X))).map (λr=>r.2)=Z (v,[.ev ⟨.mark (.extern 74),Y,U⟩,.ev ⟨.mark .disable,Y,U⟩]):=av
theorem axt(v:ag):kz v (aN ak 400 (G (bG ak 46 #[ptr S 11] .normal) (c::X)))=sg (G (bG ak 46 #[ptr S 11] .normal) (c::X)):=av
theorem axr:aN ak 400 (sg (G (bG ak 46 #[ptr S 11] .normal) (c::X)))=BE S (λ_=>aC) c X:=av
theorem Yt:(nK ak fI (cK 0 0) (BE S J c X)).map (λr=>r.2)=Z (cK 0 0,ya S):=av
theorem Ry:gW 1 (seen ak (BE S J c X).frame.fn (dc (ya S)).toArray)=1:=av
noncomputable def vZ:aH:=kz (cK 0 0) (BE S J c X)
theorem afW(v:ag):(stage ak fI v (vZ S J X c)).map (λr=>r.2)=Z (v,[.ev ⟨.mark (.extern 76),Y,U⟩,.ev ⟨.mark .enable,Y,U⟩]):=av
theorem afX(v:ag):kz v (aN ak 400 (vZ S J X c))=sg (vZ S J X c):=av
theorem afY(v:ag):(stage ak fI v (sg (vZ S J X c))).map (λr=>r.2)=Z (v,[.shape S,.shape S]):=av
theorem afZ(v:ag):kz v (aN ak 400 (sg (vZ S J X c)))=sg (sg (vZ S J X c)):=av
theorem af0(v:ag):(stage ak fI v (sg (sg (vZ S J X c)))).map (λr=>r.2)=Z (v,[.ev ⟨.mark (.extern 77),Y,U⟩,.ev ⟨.mark (.acquire (dA S)),Y,U⟩]):=av
theorem af1(v:ag):kz v (aN ak 400 (sg (sg (vZ S J X c))))=sg (sg (sg (vZ S J X c))):=av
theorem afV(f:bA)(b:af ag)(i:Nat)(d:af bh)(l:ae Nat)(h:ae aK)(e:ae bV)(a:dD)(g:aj Nat):∃n,aN ak n (sg (sg (sg (vZ S J X ⟨f,b,.inRegion d (i::l)::h,e,.run,a,g⟩))))=G (jd ⟨f,b,.inRegion d (i::l)::h,e,.run,a,g⟩ (.tuple #[])) X:=⟨20,by kernel_rfl⟩
theorem asy:(nK ak fI (jH 1) (CX S J c X)).map (λr=>r.2)=Z (jH 0,J3 S):=av
theorem asA:gW 1 (seen ak (CX S J c X).frame.fn (dc (J3 S)).toArray)=1:=av
noncomputable def HZ:aH:=aN ak 400 (kz (jH 1) (CX S J c X))
theorem ad0:(HZ S J X c).status=.running:=av
theorem adZ:(nK ak fI (cK 0 0) (HZ S J X c)).map (λr=>r.2)=Z (cK 0 0,ya S):=av
theorem ad1:gW 1 (seen ak (HZ S J X c).frame.fn (dc (ya S)).toArray)=1:=av
noncomputable def vS:aH:=kz (cK 0 0) (HZ S J X c)
theorem adT(v:ag):(stage ak fI v (vS S J X c)).map (λr=>r.2)=Z (v,[.ev ⟨.mark (.extern 76),Y,U⟩,.ev ⟨.mark .enable,Y,U⟩]):=av
theorem adU(v:ag):kz v (aN ak 400 (vS S J X c))=sg (vS S J X c):=av
theorem adV(v:ag):(stage ak fI v (sg (vS S J X c))).map (λr=>r.2)=Z (v,[.shape S,.shape S]):=av
theorem adW(v:ag):kz v (aN ak 400 (sg (vS S J X c)))=sg (sg (vS S J X c)):=av
theorem adX(v:ag):(stage ak fI v (sg (sg (vS S J X c)))).map (λr=>r.2)=Z (v,[.ev ⟨.mark (.extern 77),Y,U⟩,.ev ⟨.mark (.acquire (dA S)),Y,U⟩]):=av
theorem adY(v:ag):kz v (aN ak 400 (sg (sg (vS S J X c))))=sg (sg (sg (vS S J X c))):=av
theorem adS(f:bA)(b:af ag)(i:Nat)(d:af bh)(l:ae Nat)(h:ae aK)(e:ae bV)(a:dD)(g:aj Nat):∃n,aN ak n (sg (sg (sg (vS S J X ⟨f,b,.inRegion d (i::l)::h,e,.run,a,g⟩))))=G (jd ⟨f,b,.inRegion d (i::l)::h,e,.run,a,g⟩ (.tuple #[])) X:=⟨10,by kernel_rfl⟩
theorem asz(w:au)(b:w.cell? (dB S)=Z (jH 0))(d:w.frozen? (dB S)=Y)(e:w.shape? S=fI):aG ak U (CX S J c X) w=.go {CX S J c X with status:=.blocked} w #[]:=by
 have a:CX S J c X=G (Frame.at ⟨46,#[],[],[],.run,.normal,I⟩ ⟨bO 84 (ov J [(0,ptr S 11),(70,ptr S 12),(71,.bool Y)]) [],[]⟩ (.inRegion Sn (4::[])::alF)) (c::X):=by kernel_rfl
 rw[a];exact stepG_semacquire_wait (P:=ak) (main:=U) (o:=Sn.getD 4 default) (fn:=Tryz.f83) av av (show(Sn.getD 4 default).op=.call {callee:=.value (.func 83),args:=#[tm 70,tm 71],argTypes:=#[173,4]} by kernel_rfl) av av av av av (ad:=dB S) av b
end
section
variable (S:Nat)(J:Nat->ag)(X:ae az)(c:az)
def nine(n:Nat):Prop:=n=1\/n=2\/n=3\/n=4\/n=5\/n=6\/n=7\/n=8\/n=9
theorem ldN{n}(a:nine n):(nK ak fI (cK n 0) (BE S J c X)).map (λr=>r.2)=Z (cK n 0,ya S)/\aN ak 400 (kz (cK n 0) (BE S J c X))=Dz S n J c X:=by
 rcases a with rfl|rfl|rfl|rfl|rfl|rfl|rfl|rfl|rfl<;>exact⟨by kernel_rfl,by kernel_rfl⟩
noncomputable def AN(n:Nat):aH:=kz (cK n 0) (Dz S n J c X)
theorem ajB{n}(b:nine n):(nK ak fI (cK n 0) (Dz S n J c X)).map (λr=>r.2)=Z (cK n 1,IX S)/\
  (∀v,(stage ak fI v (AN S J X c n)).map (λr=>r.2)=Z (v,[.shape S,.shape S]))/\(∀v,kz v (aN ak 400 (AN S J X c n))=sg (AN S J X c n))/\
  (∀v,(stage ak fI v (sg (AN S J X c n))).map (λr=>r.2)=Z (v,[.ev ⟨.mark (.extern 81),Y,U⟩,.ev ⟨.mark (.write (dB S)),Y,U⟩]))/\(∀v,kz v (aN ak 400 (sg (AN S J X c n)))=sg (sg (AN S J X c n)))/\
  aN ak 400 (sg (sg (AN S J X c n)))=CX S (asx S n J) c X/\
  (∀l,(l=IX S\/l=JC S)->gW 1 (seen ak (Dz S n J c X).frame.fn (dc l).toArray)=1)/\gW 1 (wW ak (AN S J X c n) [.shape S,.shape S])=1/\
  gW 1 (wW ak (sg (AN S J X c n)) [.ev ⟨.mark (.extern 81),Y,U⟩,.ev ⟨.mark (.write (dB S)),Y,U⟩])=1:=by
 rcases b with rfl|rfl|rfl|rfl|rfl|rfl|rfl|rfl|rfl<;>exact⟨by kernel_rfl,λv=>by kernel_rfl,λv=>by kernel_rfl,λv=>by kernel_rfl,λv=>by kernel_rfl,by kernel_rfl,λl a=>by rcases a with rfl|rfl<;>kernel_rfl,by kernel_rfl,by kernel_rfl⟩
theorem Y4{n}(a:nine n){m}(b:m<n):(nK ak fI (cK m 0) (Dz S n J c X)).map (λr=>r.2)=Z (cK m 0,JC S)/\aN ak 400 (kz (cK m 0) (Dz S n J c X))=BE S (OU S n J [(48,.bool Y)]) c X:=by
 have h:m=0\/nine m:=by unfold nine at a⊢;omega
 rcases a with rfl|rfl|rfl|rfl|rfl|rfl|rfl|rfl|rfl<;>rcases h with rfl|rfl|rfl|rfl|rfl|rfl|rfl|rfl|rfl|rfl<;>first|omega|exact⟨by kernel_rfl,by kernel_rfl⟩
end
section
open Go.ConcN (sumTo upd sumTo_upd upd_ne upd_same)
abbrev Fq(S:Nat)(b:aR):Prop:=b=dA S\/b=dB S
def im(S:Nat)(Shun:Loc->Prop)(B:Nat)(e:cX):Prop:=lC (Fq S) Shun B e/\e.loc≠.mark (.release (dA S))
def FN(S n0:Nat)(T:dJ):Prop:=∀k x,n0<=k->T[k]?=Z x->x.act≠.mark (.release (dA S))
def Rl(S n0:Nat)(Shun:Loc->Prop)(T:dJ)(j:Nat):Prop:=∃r x,n0<=r/\T[r]?=Z x/\x.act=.mark (.releaseMerge (dA S))/\x.g=j/\T.heard r/\∀i y a,r<i->T[i]?=Z y->y.g=j->y.act.touch?=Z a->Shun a.loc/\a.kind=.atomic/\¬T.heard i
def ri(cw:Nat->Prop)(Shun:Loc->Prop)(T:dJ):Prop:=∀i x a,T[i]?=Z x->cw x.g->x.act.touch?=Z a->Knows T 0 i\/(Shun a.loc/\a.kind=.atomic/\¬T.heard i)
section
variable {S n0:Nat}{Shun:Loc->Prop}{T u:dJ}{j:Nat}{cw:Nat->Prop}
theorem FN.app(h:FN S n0 T)(e:∀g∈u,g.act≠.mark (.release (dA S))):FN S n0 (T++u):=λk x c f=>by
 rcases kY f with⟨_,a⟩|⟨_,b⟩
 ·exact h k x c a
 ·exact e x b
theorem Rl.app(h:Rl S n0 Shun T j)(s:∀i x a,T.size<=i->(T++u)[i]?=Z x->x.g=j->x.act.touch?=Z a->Shun a.loc/\a.kind=.atomic/\¬(T++u).heard i):Rl S n0 Shun (T++u) j:=by
 obtain⟨r,x,k,b,l,m,n,o⟩:=h;have aE:=HB b;refine⟨r,x,k,by rw[getElem?_append_old aE];exact b,l,m,(heard_old aE).2 n,λi y a p f e c=>?_⟩;rcases kY f with⟨g,C⟩|⟨A,_⟩
 ·obtain⟨v,z,q3⟩:=o i y a p C e c
  exact⟨v,z,by rw[heard_old g];exact q3⟩
 ·exact s i y a A f e c
theorem ri.app(h:ri cw Shun T)(k:∀i x a,T.size<=i->(T++u)[i]?=Z x->cw x.g->x.act.touch?=Z a->Shun a.loc/\a.kind=.atomic/\¬(T++u).heard i):ri cw Shun (T++u):=λi x a e c b=>by
 rcases kY e with⟨aE,f⟩|⟨n,_⟩
 ·rcases h i x a f c b with g|⟨l,m,q3⟩
  ·exact .inl (g.app u)
  ·exact .inr ⟨l,m,by rw[heard_old aE];exact q3⟩
 ·exact .inr (k i x a n e c b)
theorem Si{T u:dJ}{i j:Nat}{x:MemOp}(b:∀e∈u,e.g=j)(f:T.size<=i)(c:(T++u)[i]?=Z x):x.g=j:=by
 rcases kY c with⟨aE,_⟩|⟨_,a⟩
 ·omega
 ·exact b x a
theorem Rl.new(c:bA)(b:String)(k:n0<=T.size)(h:dU T j=0):Rl S n0 Shun (T++db j c b #[uo S]) j:=by
 have e:db j c b #[uo S]=#[{g:=j,fn:=c,pos:=b,act:=.mark (.releaseMerge (dA S))}]:=by simp[ofEvents_eq,uo,gy]
 rw[e];have f:(T++#[({g:=j,fn:=c,pos:=b,act:=.mark (.releaseMerge (dA S))}:MemOp)])[T.size]?=Z {g:=j,fn:=c,pos:=b,act:=.mark (.releaseMerge (dA S))}:=by simp
 refine⟨T.size,_,k,f,F,F,⟨j,g?_of f,by rw[deaf_old (df _)];exact h⟩,λi y a m l _ _=>?_⟩;have:=HB l;simp at this;omega
theorem acB(c:bA)(b:String)(L:dU T 0=0)(J:FN S n0 T)(hr:∀j,cw j->Rl S n0 Shun T j)(hz:¬cw 0):ri cw Shun (T++db 0 c b #[FR S]):=by
 have e:db 0 c b #[FR S]=#[{g:=0,fn:=c,pos:=b,act:=.mark (.acquire (dA S))}]:=by simp[ofEvents_eq,FR,gy]
 rw[e];have n:(T++#[({g:=0,fn:=c,pos:=b,act:=.mark (.acquire (dA S))}:MemOp)])[T.size]?=Z {g:=0,fn:=c,pos:=b,act:=.mark (.acquire (dA S))}:=by simp
 have Q:(T++#[({g:=0,fn:=c,pos:=b,act:=.mark (.acquire (dA S))}:MemOp)]).heard T.size:=⟨0,g?_of n,by rw[deaf_old (df _)];exact L⟩;intro i y a E A l;rcases kY E with⟨aE,H⟩|⟨_,s⟩
 ·obtain⟨r,x,h1,f,v,M,N,O⟩:=hr y.g A
  have o:=HB f;by_cases m:r<i
  ·obtain⟨q1,q2,q3⟩:=O i y a m H rfl l
   exact .inr ⟨q1,q2,by rw[heard_old aE];exact q3⟩
  ·by_cases h:i=r
   ·subst h
    rw[H]at f;cases f;rw[v]at l;cases l
   ·left
    have p:(T++#[({g:=0,fn:=c,pos:=b,act:=.mark (.acquire (dA S))}:MemOp)])[r]?=Z x:=by rw[getElem?_append_old o];exact f
    have R:Notices (T++#[({g:=0,fn:=c,pos:=b,act:=.mark (.acquire (dA S))}:MemOp)]) r T.size:=by
     refine .marked o (.inr (by rw[act?_of p,v])) (act?_of n) λk ey K C=>?_;have G:(T++#[({g:=0,fn:=c,pos:=b,act:=.mark (.acquire (dA S))}:MemOp)])[k]?=T[k]?:=getElem?_append_old K;cases hT:T[k]? with
     |none=>rw[Aa]at hT;omega
     |some z=>
      rw[hT]at G;rw[act?_of G]at C;exact J k z ai hT (dQ C)
    have hp:ProgramOrder (T++#[({g:=0,fn:=c,pos:=b,act:=.mark (.acquire (dA S))}:MemOp)]) i r:=by
     refine⟨by omega,y.g,g?_of E,?_⟩;rw[g?_of p,M]
    exact⟨T.size,_,n,F,.inr ((Relation.TransGen.single (.inl hp)).tail (.inr ⟨R,(heard_old o).2 N,Q⟩))⟩
 ·simp only[jA,bQ,gk,or_false]at s
  subst s;exact absurd A hz
end
def ac5(P:aA)(S D:Nat)(e:aj YS)(n:Nat)(g:aH):Prop:=∃(y:YS)(s:Seat)(b:Nat)(z:ag),e=Z y/\g.status=.running/\s.Wf/\s.cases[b]?=Z (rcase D z)/\(∀c,s.has c->c≠D->y.s.has c)/\Goes P Y (RK y.K) (DS y.St y.B) (λg _=>∃a,AtIn P Y y.K y.St y.B s g a) n g default/\∀a,s.home a->∃m,nA P Y (KW S) (rm S) (uo S) (BT P S) m Y 0 (jz a (qp s.cases s.shape b z Y))
def HN(P:aA)(S D:Nat)(ax:Nat->aj YS)(gs:af aH)(q:Nat->Nat)(j:Nat):Prop:=∃g,gs[j]?=Z g/\ac5 P S D (ax j) (q j) g
def yT(P:aA)(S:Nat)(Stop:Nat->aH->Prop)(ax:Nat->aj YS)(T:dJ)(gs:af aH)(q:Nat->Nat)(j:Nat):Prop:=∃g,gs[j]?=Z g/\ax j=I/\kI P Y (KW S) (rm S) Stop (q j) (dU T j) g
def KE(P:aA)(S n0:Nat)(Shun:Loc->Prop)(ax:Nat->aj YS)(T:dJ)(gs:af aH)(q:Nat->Nat)(j:Nat):Prop:=∃g b,gs[j]?=Z g/\ax j=I/\(b=U->Rl S n0 Shun T j)/\nA P Y (KW S) (rm S) (uo S) (BT P S) (q j) b (dU T j) g
def pR(P:aA)(S:Nat)(ax:Nat->aj YS)(T:dJ)(gs:af aH)(q:Nat->Nat)(j:Nat):Nat->Prop
 |0=>yT P S (Dw P S) ax T gs q j
 |1=>yT P S (Dv P S) ax T gs q j
 |2=>yT P S (Du P S) ax T gs q j
 |_=>False
structure Aq(ax:Nat->aj YS)(T:dJ)(gs:af aH)(q:Nat->Nat)(Inb':Nat->aj YS)(T':dJ)(bD:af aH)(q':Nat->Nat)(j:Nat):Prop where
 g:bD[j]?=gs[j]?
 q:q' j=q j
 d:dU T' j=dU T j
 i:Inb' j=ax j
section
variable {P:aA}{S D:Nat}{Stop:Nat->aH->Prop}{ax Inb':Nat->aj YS}{T T':dJ}{gs bD:af aH}{q q':Nat->Nat}{j:Nat}
theorem HN.same(h:HN P S D ax gs q j)(s:Aq ax T gs q Inb' T' bD q' j):HN P S D Inb' bD q' j:=by
 unfold HN;rw[s.g,s.q,s.i];exact h
theorem yT.same(h:yT P S Stop ax T gs q j)(s:Aq ax T gs q Inb' T' bD q' j):yT P S Stop Inb' T' bD q' j:=by
 unfold yT;rw[s.g,s.q,s.i,s.d];exact h
theorem KE.same{n0:Nat}{Shun:Loc->Prop}(h:KE P S n0 Shun ax T gs q j)(s:Aq ax T gs q Inb' T' bD q' j)(k:Rl S n0 Shun T j->Rl S n0 Shun T' j):KE P S n0 Shun Inb' T' bD q' j:=by
 obtain⟨g,b,a,c,f,i⟩:=h;exact⟨g,b,by rw[s.g];exact a,by rw[s.i];exact c,λe=>k (f e),by rw[s.q,s.d];exact i⟩
theorem pR.same{n:Nat}(h:pR P S ax T gs q j n)(s:Aq ax T gs q Inb' T' bD q' j):pR P S Inb' T' bD q' j n:=by
 match n,h with
 |0,h=>exact yT.same (Stop:=Dw P S) h s
 |1,h=>exact yT.same (Stop:=Dv P S) h s
 |2,h=>exact yT.same (Stop:=Du P S) h s
end
section
variable (P:aA)(St At:Nat->Loc->Prop)(Shun:Loc->Prop)(S D V B:Nat)(gf:aH)(eQ:Nat->aj YS)(w0:au)(cw:Nat->Prop)(n0:Nat)
structure kH(cM cL:ae Nat)(lb:aj Nat)(t sm dX d:Nat)(ax:Nat->aj YS)(T:dJ)(gs:af aH)(w:au)(q:Nat->Nat):Prop where
 dr:Dr P St At Shun ax (λx=>x∈cM\/x∈cL\/lb=Z x) cw d B T gs w q
 wS:∀j∈cM,HN P S D ax gs q j
 BU:∀j∈cL,KE P S n0 Shun ax T gs q j
 zl:∃g0,gs[0]?=Z g0/\gK P S (im S Shun B) gf (ri cw Shun T) (pR P S ax T gs q) (cM.length+cL.length) d (q 0) g0 lb t sm dX
 nd:(cM++cL).Nodup
 nl:∀j,lb=Z j->j∉cM/\j∉cL
 nz:∀j,(j∈cM\/j∈cL\/lb=Z j)->j≠0/\At j (.cell (dA S))/\At j (.cell (dB S))
 le:cM.length+cL.length<=9
 Ey:∀x,eQ x=if x∈cM then I else ax x
 two:rp S w0 (cK (cM.length+cL.length) t) (jH sm) w
 gate:Gate St ax (Fq S)
 nr:FN S n0 T
 ER:n0<=T.size
 zd:∀j,(j∈cM\/j∈cL\/lb=Z j)->cw j
 ze:∀j,cw j->j≠0/\(j∉cM->ax j=I)
 rl:∀j,cw j->j∉cM->j∉cL->Rl S n0 Shun T j
def mf(cM cL:ae Nat)(dX:Nat):Nat:=40*(cM.length+cL.length)+dX+cM.length
def pz(n:Nat)(q:Nat->Nat):Nat:=2*sumTo n (upd q 0 0)+q 0
def xg(R M:Nat)(T:dJ)(gs:af aH)(w:au)(sl:aj (Nat×Nat))(i:Nat):Prop:=∃bD h a b e f l g c k Inb' q',runT P (crowd gs w sl) i=(.next (crowd bD h sl),a)/\bD.size=gs.size/\kH P St At Shun S D B gf eQ w0 cw n0 b e f l g c k Inb' (T++a) bD h q'/\(mf b e c<R\/(mf b e c=R/\pz bD.size q'<M))
end
section
variable {P:aA}{St At:Nat->Loc->Prop}{Shun:Loc->Prop}{S D V B:Nat}{gf:aH}{eQ:Nat->aj YS}{w0:au}{cw:Nat->Prop}{n0:Nat}
variable {cM cL:ae Nat}{lb:aj Nat}{t sm dX d:Nat}{ax:Nat->aj YS}{T:dJ}{gs:af aH}{w:au}{q:Nat->Nat}{X W:ag}{sl:aj (Nat×Nat)}
theorem Dr.q0{a:Nat->Prop}(C:Dr P St At Shun ax a cw d B T gs w q)(m:Nat):Dr P St At Shun ax a cw d B T gs w (upd q 0 m):=⟨⟨λx g b c=>by rw[upd_ne q m (λz=>b (.inl z))];exact C.yd.idle x g b c,C.yd.chans,C.yd.wf,C.yd.inj,C.yd.above,C.yd.lt,C.yd.mem,C.yd.nomem,C.yd.lo,C.yd.past,C.yd.keep,C.yd.places,C.yd.fresh⟩,C.deaf,C.wrote,C.run⟩
theorem Dr.bz{a y9:Nat->Prop}(C:Dr P St At Shun ax a cw d B T gs w q)(h:∀x,a x↔y9 x):Dr P St At Shun ax y9 cw d B T gs w q:=by
 have:a=y9:=funext λx=>propext (h x);rw[<-this];exact C
theorem Y8(n m:Nat):pz n (upd q 0 m)=2*sumTo n (upd q 0 0)+m:=by
 unfold pz;have:upd (upd q 0 m) 0 0=upd q 0 0:=by funext x;by_cases e:x=0<;>simp[upd,e]
 rw[this,upd_same]
theorem R5{n i m f:Nat}(c:i≠0)(aE:i<n)(k:m<q i)(h:f<=q 0+1):pz n (upd (upd q i m) 0 f)<pz n q:=by
 rw[Y8];have e:upd (upd q i m) 0 0=upd (upd q 0 0) i m:=by
  funext x;by_cases a:x=0
  ·subst a;rw[upd_same,upd_ne _ _ (λz=>c z.symm),upd_same]
  ·by_cases b:x=i
   ·subst b;rw[upd_ne _ _ a,upd_same,upd_same]
   ·rw[upd_ne _ _ a,upd_ne _ _ b,upd_ne _ _ b,upd_ne _ _ a]
 have g:sumTo n (upd (upd q 0 0) i m)+upd q 0 0 i=sumTo n (upd q 0 0)+m:=sumTo_upd (upd q 0 0) m id aE;rw[upd_ne q 0 c]at g;rw[e];unfold pz;omega
theorem kH.at(H:kH P St At Shun S D B gf eQ w0 cw n0 cM cL lb t sm dX d ax T gs w q)(a:Nat):kH P St At Shun S D B gf eQ w0 cw n0 cM cL lb t sm dX d ax T gs (w.at a) q:=⟨H.dr.at a,H.wS,H.BU,H.zl,H.nd,H.nl,H.nz,H.le,H.Ey,aw1 H.two a,H.gate,H.nr,H.ER,H.zd,H.ze,H.rl⟩
theorem kH.kw(H:kH P St At Shun S D B gf eQ w0 cw n0 cM cL lb t sm dX d ax T gs w q)(a:eN w0 (dA S) X)(b:eN w0 (dB S) W):KW S w:=⟨⟨_,N9 a b H.two⟩,⟨_,T5 a b H.two⟩⟩
theorem kH.own(H:kH P St At Shun S D B gf eQ w0 cw n0 cM cL lb t sm dX d ax T gs w q){g o:aH}{l:au}{es:af cX}{t' sm' iD n':Nat}(G:gs[0]?=Z g)
  (gR:aG P U g w=.go o l es)(hE:∀e∈es,im S Shun B e)(hw:l=w\/∃a v v',Fq S a/\eN w a v/\l=w.setCell a v')
  (nf:rp S w0 (cK (cM.length+cL.length) t') (jH sm') l)
  (Qo:∀O,(∀j n,pR P S ax T gs q j n->O j n)->gK P S (im S Shun B) gf (ri cw Shun (T++db 0 g.frame.fn g.frame.place es)) O (cM.length+cL.length) (gW d es) n' o lb t' sm' iD)
  (Qv:iD<dX\/(iD=dX/\n'<q 0)):xg P St At Shun S D B gf eQ w0 cw n0 (mf cM cL dX) (pz gs.size q) T gs w sl 0:=by
 have hd:DZ St ax Shun B w l es:=by
  rcases hw with rfl|⟨a,v,v',f,hc,rfl⟩
  ·exact⟨λ_ _ _ _ _=>rfl,λ_ _ _ h=>h,λe p=>Pb H.gate (hE e p).1⟩
  ·exact⟨λi y c r s=>by obtain⟨k,L⟩:=H.dr.yd.chans i y c r s;exact zb hc.cell L,λi y r L=>H.gate.keep a f i y r _ _ L,λe p=>Pb H.gate (hE e p).1⟩
 obtain⟨C,h0,M,ja⟩:=H.dr.own (a':=o) n' G hd;have N:∀E∈db 0 g.frame.fn g.frame.place es,E.g=0:=λE J=>by obtain⟨e,_,rfl⟩:=jY J;rfl
 have s:∀j,j≠0->Aq ax T gs q ax (T++db 0 g.frame.fn g.frame.place es) ((gs.map (eM P g o l)).setIfInBounds 0 o) (upd q 0 n') j:=λj b=>⟨ja j b,upd_ne q n' b,mX T (λz=>b z.symm) _ N,F⟩;have QI:∀E∈db 0 g.frame.fn g.frame.place es,E.act≠.mark (.release (dA S)):=λE J f=>by
  obtain⟨e,p,rfl⟩:=jY J;obtain⟨A,wr,sy⟩:=e;have K:=(hE _ p).2;have f:gy ⟨A,wr,sy⟩=.mark (.release (dA S)):=f;cases A with
  |mark m=>simp only[gy,MemAct.mark.injEq]at f;subst f;exact K F
  |obj c=>cases wr<;>cases sy<;>cases f
  |_=>cases f
 have R:∀j,j≠0->Rl S n0 Shun T j->Rl S n0 Shun (T++db 0 g.frame.fn g.frame.place es) j:=λj b h=>h.app λi x a r hx G _=>absurd (G.symm.trans (Si N r hx)) b;refine⟨_,l,_,cM,cL,lb,t',sm',iD,_,ax,upd q 0 n',vJ (sl:=sl) G gR,M,⟨C,λj b=>(H.wS j b).same (s j (H.nz j (.inl b)).1),λj b=>(H.BU j b).same (s j (H.nz j (.inr (.inl b))).1) (R j (H.nz j (.inr (.inl b))).1),⟨o,h0,?_⟩,H.nd,H.nl,H.nz,H.le,H.Ey,nf,H.gate,H.nr.app QI,by simp;exact sK H.ER (Nat.le_add_right _ _),H.zd,H.ze,λj Q K h3=>R j (H.ze j Q).1 (H.rl j Q K h3)⟩,?_⟩
 ·rw[upd_same]
  refine(Qo (λj n=>j≠0->pR P S ax _ _ (upd q 0 n') j n) λj n h b=>pR.same h (s j b)).EH (λj n tW h=>h (H.nz j (.inr (.inr tW))).1) λ_=>id
 ·rw[M,Y8]
  rcases Qv with h|⟨rfl,h⟩
  ·left;unfold mf;omega
  ·right;refine⟨rfl,?_⟩;unfold pz;omega
theorem kH.step0(H:kH P St At Shun S D B gf eQ w0 cw n0 cM cL lb t sm dX d ax T gs w q)(O:eN w0 (dA S) X)(Q:eN w0 (dB S) W)(IH:S<B){g:aH}(R:gs[0]?=Z g)(aQ:g.status=.running):(d=0/\g=gf/\cM=[]/\cL=[]/\lb=I/\t=0/\sm=0/\ri cw Shun T)\/xg P St At Shun S D B gf eQ w0 cw n0 (mf cM cL dX) (pz gs.size q) T gs w sl 0:=by
 obtain⟨g0,iu,hG⟩:=H.zl;rw[R]at iu;obtain rfl:=dQ iu;have hK:=H.kw O Q;have cA:=N9 O Q H.two;have cB:=T5 O Q H.two;generalize J:cM.length+cL.length=c at hG;have nf:=H.two;rw[J]at nf cA
 have o:∀{Stop:Nat->aH->Prop}{n:Nat},kI P U (KW S) (im S Shun B) Stop n d g->q 0=n\/q 0=n+1->¬Stop d g->
   (∀k C p(kB:Prop)m,kI P U (KW S) (im S Shun B) Stop k C p->k<n->(∀j n,pR P S ax T gs q j n->m j n)->∃G,G+n=k+q 0/\gK P S (im S Shun B) gf kB m c C G p lb t sm dX)->
   xg P St At Shun S D B gf eQ w0 cw n0 (mf cM cL dX) (pz gs.size q) T gs w sl 0:=by
  intro Stop n h hq ju s;rcases h.cases with h|⟨k,p,es,e1,e2,e3,e4⟩
  ·exact absurd h ju
  ·obtain⟨G,pv,_⟩:=s k _ p True (λ_ _=>True) e4 ai (λ_ _ _=>trivial)
   refine H.own (sl:=sl) (t':=t) (sm':=sm) (iD:=dX) (n':=G) R (e3 w hK) e2 (.inl rfl) (by rw[J];exact nf) (λm E=>?_) (.inr ⟨rfl,by omega⟩);obtain⟨n2,uY,hG⟩:=s k _ p _ m e4 ai E;have:n2=G:=by omega
   subst this;rw[J];exact hG
 have A:∀{a:aR}{v v':ag}{Next:Nat->aH->Prop}{N y M:Nat},Fq S a->eN w a v->yW P (im S Shun B) a v v' d g Next->rp S w0 (cK c N) (jH y) (w.setCell a v')->M<dX->
   (∀C p(kB:Prop)m,Next C p->(∀j n,pR P S ax T gs q j n->m j n)->∃G,gK P S (im S Shun B) gf kB m c C G p lb N y M)->
   xg P St At Shun S D B gf eQ w0 cw n0 (mf cM cL dX) (pz gs.size q) T gs w sl 0:=by
  intro a v v' Next N y M ha Eb ⟨p,es,e1,e2,e3⟩ ht hr s;obtain⟨G,rK⟩:=s _ p (ri cw Shun (T++db 0 g.frame.fn g.frame.place es)) (pR P S ax T gs q) e3 λ_ _ h=>h;exact H.own (sl:=sl) (n':=G) R (e1 w Eb) e2 (.inr ⟨a,v,v',ha,Eb,F⟩) (by rw[J];exact ht) (λm E=>by rw[J];exact rK.EH (λj n _ h=>E j n h) λ_=>id) (.inl hr)
 cases hG with
 |a f AI h=>
  by_cases l:xo P S (im S Shun B) gf f d g
  ·right
   cases c with
   |zero=>exact A (.inl F) cA (anJ l) (BC O Q nf) (by omega:3<11) λC p _ m⟨n,K⟩_=>⟨n,.z Y aZ F K⟩
   |succ c=>
    cases f with
    |zero=>omega
    |succ f=>exact A (.inl F) cA (l.2.2.2 c ai) (BC O Q nf) (by omega:10<11) λC p _ m⟨n,K⟩_=>⟨n,.b f ai ai K⟩
  ·exact .inr (o h (.inl F) l λk C p _ m s rQ _=>⟨k,by omega,.a f AI s⟩)
 |yz f c0 l6 h0 h=>
  by_cases l:Ds P S (im S Shun B) gf (xo P S (im S Shun B) gf f) c0 d g
  ·exact .inr (A (.inl F) cA (l.2.2.2 c l6) (BC O Q nf) (by omega:11<12) λC p _ m⟨n,K⟩_=>⟨n,.a f ai K⟩)
  ·exact .inr (o h (.inl F) l λk C p _ m s rQ _=>⟨k,by omega,.yz f c0 l6 h0 s⟩)
 |b f r h0 h=>
  by_cases l:Ds P S (im S Shun B) gf (xo P S (im S Shun B) gf f) c d g
  ·exact .inr (A (.inl F) cA l.2.2.1 (BC O Q nf) (by omega:9<10) λC p _ m⟨n,K⟩_=>⟨n+1,.c r (.tI K)⟩)
  ·exact .inr (o h (.inl F) l λk C p _ m s rQ _=>⟨k,by omega,.b f r h0 s⟩)
 |c r h=>
  generalize Cu:q 0=q0 at h;cases h with
  |@tI n _ h=>
   by_cases l:xp P S (im S Shun B) gf d g
   ·exact .inr (H.own (sl:=sl) (t':=1) (sm':=0) (iD:=9) (n':=0) R (l.2.2.2.1 w cB) aZ (.inl F) H.two (λm E=>by rw[J];exact .c r (.parked l)) (.inr ⟨F,by omega⟩))
   ·exact .inr (o h (.inr Cu) l λk C p _ m s rQ _=>⟨k+1,by omega,.c r (.tI s)⟩)
  |parked h=>cases aQ
 |cB j r L h=>
  generalize Cu:q 0=q0 at h;cases h with
  |@tI n _ h=>
   by_cases l:xp P S (im S Shun B) gf d g
   ·exact .inr (H.own (sl:=sl) (t':=1) (sm':=0) (iD:=8) (n':=0) R (l.2.2.2.1 w cB) aZ (.inl F) H.two (λm E=>by rw[J];exact .cB j r (E _ _ L) (.parked l)) (.inr ⟨F,by omega⟩))
   ·exact .inr (o h (.inr Cu) l λk C p _ m s rQ E=>⟨k+1,by omega,.cB j r (E _ _ L) (.tI s)⟩)
  |parked h=>cases aQ
 |cC j r L h=>
  generalize Cu:q 0=q0 at h;cases h with
  |@tI n _ h=>
   by_cases l:xp P S (im S Shun B) gf d g
   ·exact .inr (H.own (sl:=sl) (t':=1) (sm':=0) (iD:=7) (n':=0) R (l.2.2.2.1 w cB) aZ (.inl F) H.two (λm E=>by rw[J];exact .cC j r (E _ _ L) (.parked l)) (.inr ⟨F,by omega⟩))
   ·exact .inr (o h (.inr Cu) l λk C p _ m s rQ E=>⟨k+1,by omega,.cC j r (E _ _ L) (.tI s)⟩)
  |parked h=>cases aQ
 |cD j r L h=>
  generalize Cu:q 0=q0 at h;cases h with
  |@tI n _ h=>
   by_cases l:xp P S (im S Shun B) gf d g
   ·exact .inr (H.own (sl:=sl) (t':=0) (sm':=0) (iD:=6) (n':=0) R (l.2.2.2.1 w cB) aZ (.inl F) H.two (λm E=>by rw[J];exact .cD j r (E _ _ L) (.parked l)) (.inr ⟨F,by omega⟩))
   ·exact .inr (o h (.inr Cu) l λk C p _ m s rQ E=>⟨k+1,by omega,.cD j r (E _ _ L) (.tI s)⟩)
  |parked h=>cases aQ
 |cR r h=>
  by_cases l:xp P S (im S Shun B) gf d g
  ·exact .inr (A (.inr F) cB l.2.2.2.2 (ab9 O Q nf) (by omega:4<5) λC p _ m⟨n,K⟩_=>⟨n,.d r K⟩)
  ·exact .inr (o h (.inl F) l λk C p _ m s rQ _=>⟨k,by omega,.cR r s⟩)
 |d r h=>
  by_cases l:HP P S (im S Shun B) gf d g
  ·subst r
   exact .inr (A (.inl F) cA l.2.2 (BC O Q nf) (by omega:3<4) λC p _ m⟨n,K⟩_=>⟨n,.z Y aZ F K⟩)
  ·exact .inr (o h (.inl F) l λk C p _ m s rQ _=>⟨k,by omega,.d r s⟩)
 |z b hb r h=>
  have rR:cM=[]:=De ai;have WU:cL=[]:=De ai;have Xb:¬cw 0:=λh=>(H.ze 0 h).1 F;rcases h.cases with⟨rfl,l⟩|⟨k,p,es,b',e1,e2,e3,e4⟩
  ·exact .inl ⟨l.1,l.2.2,rR,WU,rfl,rfl,rfl,hb rfl⟩
  ·right
   have cI:∀op∈db 0 g.frame.fn g.frame.place es,op.g=0:=λop aT=>by obtain⟨e,_,rfl⟩:=jY aT;rfl
   rcases e2 with⟨e2,rfl⟩|⟨rfl,nF,rfl⟩
   ·exact H.own (sl:=sl) (t':=0) (sm':=0) (iD:=3) (n':=k) R (e3 w hK) e2 (.inl rfl) H.two (λm E=>by rw[J];exact .z b' (λe=>(hb e).app λi x a hi hx Mg _=>absurd (Si cI hi hx▸Mg) Xb) r e4) (.inr ⟨rfl,by omega⟩)
   ·refine H.own (sl:=sl) (t':=0) (sm':=0) (iD:=3) (n':=k) R (e3 w hK) (λe he=>?_) (.inl rfl) H.two (λm E=>by rw[J];exact .z U (λ_=>acB _ _ (H.dr.deaf.trans nF) H.nr (λj L=>H.rl j L (by rw[rR];simp) (by rw[WU];simp)) Xb) r e4) (.inr ⟨rfl,by omega⟩)
    simp only[jA,bQ,gk,or_false]at he;subst he;exact⟨IH,by simp[FR]⟩
end
end
section
open Go.ConcN (sumTo upd sumTo_upd upd_ne upd_same)
theorem ahm{P:aA}{K:au->Prop}{M:Loc->Prop}{B:Nat}{a:aH->Prop}{g:aH}{n:Nat}{w i:au}(h:Goes P b (RK K) (DS M B) (λg _=>a g) n g w):Goes P b (RK K) (DS M B) (λg _=>a g) n g i:=by
 cases n with
 |zero=>exactλe c=>h e c
 |succ n=>
  rcases h with h|⟨f,h⟩
  ·exact .inl λe c=>h e c
  ·exact .inr ⟨f,λe c=>h e c⟩
def UF(P:aA)(S n d:Nat)(g:aH):Nat->Prop
 |0=>kI P Y (KW S) (rm S) (Dw P S) n d g
 |1=>kI P Y (KW S) (rm S) (Dv P S) n d g
 |2=>kI P Y (KW S) (rm S) (Du P S) n d g
 |_=>False
section
variable {P:aA}{M At:Nat->Loc->Prop}{X:Loc->Prop}{S D kD B:Nat}{G:aH}{eQ:Nat->aj YS}{E:au}{O:Nat->Prop}{N:Nat}
variable {W V:ae Nat}{J:aj Nat}{t sm L d:Nat}{Q:Nat->aj YS}{T:dJ}{R:af aH}{w:au}{q:Nat->Nat}{va vb:ag}{sl:aj (Nat×Nat)}
theorem V0{i:Nat}(k:X (.cell (dA S)))(l:X (.cell (dB S)))(f:At i (.cell (dA S)))(g:At i (.cell (dB S)))(c:S<B)(j:EvS S e\/e=uo S):EvL At X B i e:=by
 rcases j with(h|⟨m,rfl|rfl⟩)|rfl
 ·exact⟨λb a=>(by rw[touch_mute h]at a;cases a),low_mute h B⟩
 ·refine⟨λb a=>?_,c⟩
  simp only[gy,lS,ij]at a;subst a;exact⟨rfl,k,f⟩
 ·refine⟨λb a=>?_,c⟩
  simp only[gy,lS,ij]at a;subst a;exact⟨rfl,l,g⟩
 ·exact⟨λb a=>(by simp[uo,gy,lS]at a),c⟩
theorem agw(b:EvS S e\/e=uo S)(a:aR):gy e≠.mark (.release a):=by
 rcases b with(h|⟨c,rfl|rfl⟩)|rfl
 ·exact Y' h a
 ·intro z;cases z
 ·intro z;cases z
 ·intro z;cases z
theorem ab6(h:rm S e):(gy e).touch?=I:=touch_mute h
theorem R6{d:Nat}:∀{l:ae cX},(∀e∈l,rm S e)->An d l
 |[],_=>trivial
 |e::_,h=>⟨λa=>absurd (ab6 (h e aZ)) a,R6 λx b=>h x (by simp[b])⟩
theorem kH.od(H:kH P M At X S D B G eQ E O N W V J t sm L d Q T R w q)(hS:S<B)(nI:X (.cell (dA S)))(oK:X (.cell (dB S))){i:Nat}{g l:aH}{o:au}{es:af cX}{jL:ae Nat}{lb':aj Nat}{t' sm' iD n':Nat}
  (hg:R[i]?=Z g)(hb:i∈V\/J=Z i)(hI:Q i=I)(gR:aG P Y g w=.go l o es)(jq:∀e∈es,EvS S e\/e=uo S)(Cp:An (dU T i) es.toList)(hw:o=w\/∃a v v',Fq S a/\eN w a v/\o=w.setCell a v')
  (tS:∀x,x≠i->((x∈jL\/lb'=Z x)↔(x∈V\/J=Z x)))(WW:∀x,x≠i->(x∈jL↔x∈V))(nc:jL.Nodup)(gP:∀x∈jL,x∈V)(I2:∀x,lb'=Z x->x∉W/\x∉jL)
  (aQ:l.status=.running\/¬(i∈jL\/lb'=Z i))(bU:¬(i∈jL\/lb'=Z i)->QuitsD P n' (gW (dU T i) es) l)(fW:i∈jL->∃b,(b=U->Rl S N X (T++db i g.frame.fn g.frame.place es) i)/\nA P Y (KW S) (rm S) (uo S) (BT P S) n' b (gW (dU T i) es) l)(β:i∉jL->Rl S N X T i)
  (γ:jL.length<=V.length)(nf:rp S E (cK (W.length+jL.length) t') (jH sm') o)
  (Qo:∀cQ g0(kB:Prop),R[0]?=Z g0->(ri O X T->kB)->(∀j n,j≠i->pR P S Q T R q j n->cQ j n)->(∀n,UF P S n' (gW (dU T i) es) l n->cQ i n)->gK P S (im S X B) G (ri O X T) (pR P S Q T R q) (W.length+V.length) d (q 0) g0 J t sm L->∃A,gK P S (im S X B) G kB cQ (W.length+jL.length) d A (eM P g l o g0) lb' t' sm' iD/\(mf W jL iD<mf W V L\/(mf W jL iD=mf W V L/\n'<q i/\A<=q 0+1))):
  xg P M At X S D B G eQ E O N (mf W V L) (pz R.size q) T R w sl i:=by
 have aE:i<R.size:=(gG.1 hg).1;obtain⟨s,Ma,Mb⟩:=H.nz i (.inr hb);have Xt:i∉W:=λhz=>by
  rcases hb with h|h
  ·exact(yM.1 H.nd).2.2 i hz i h rfl
  ·exact(H.nl i h).1 hz
 have h0:(i==0)=Y:=by simp[s]
 have bY:∀x y c,Q x=Z y->y.s.has c->o.heap[c]?=w.heap[c]?:=by
  rcases hw with rfl|⟨a,v,v',p,hc,rfl⟩
  ·exactλ_ _ _ _ _=>rfl
  ·exactλx y c m hs=>by obtain⟨k,r⟩:=H.dr.yd.chans x y c m hs;exact zb hc.cell r
 have r:∀x y,Q x=Z y->y.K w->y.K o:=by
  rcases hw with rfl|⟨a,v,v',p,hc,rfl⟩
  ·exactλ_ _ _ h=>h
  ·exactλx y m r=>H.gate.keep a p x y m _ _ r
 have P8:∀x,x≠i->((x∈W\/x∈jL\/lb'=Z x)↔(x∈W\/x∈V\/J=Z x)):=λx m=>by rw[tS x m]
 have WY:(i∈W\/i∈jL\/lb'=Z i)↔(i∈jL\/lb'=Z i):=⟨λh=>h.resolve_left Xt,.inr⟩;obtain⟨C,jw,bH,ja,K⟩:=H.dr.leave (a':=l) (w':=o) (y9:=λx=>x∈W\/x∈jL\/lb'=Z x) n' s (.inr hb) hI hg bY r (λe he=>V0 nI oK Ma Mb hS (jq e he)) Cp P8 (λh=>aQ.resolve_right λz=>z (WY.1 h)) (λh=>bU λz=>h (WY.2 z));have cI:∀op∈db i g.frame.fn g.frame.place es,op.g=i:=λop aT=>by obtain⟨e,_,rfl⟩:=jY aT;rfl
 have Gq:dU (T++db i g.frame.fn g.frame.place es) i=gW (dU T i) es:=Deaf_own T i _ _ es;have hq:∀k x a,T.size<=k->(T++db i g.frame.fn g.frame.place es)[k]?=Z x->x.act.touch?=Z a->X a.loc/\a.kind=.atomic/\¬(T++db i g.frame.fn g.frame.place es).heard k:=λk x a r m p=>by
  rcases kY m with⟨Qx,_⟩|⟨_,fA⟩
  ·omega
  ·obtain⟨e,he,rfl⟩:=jY fA
   obtain⟨A,q2,_⟩:=(V0 nI oK Ma Mb hS (jq e he)).1 a p;refine⟨q2,A,?_⟩;have:=Y9 (i:=i) (fn:=g.frame.fn) (pos:=g.frame.place) es.toList T Cp k;simp only[Array.toArray_toList]at this;exact this _ r m (by rw[p];simp)
 have lj:∀j,Rl S N X T j->Rl S N X (T++db i g.frame.fn g.frame.place es) j:=λj h=>h.app λk x a r m _ p=>hq k x a r m p;have xJ:ri O X T->ri O X (T++db i g.frame.fn g.frame.place es):=λh=>h.app λk x a r m _ p=>hq k x a r m p;obtain⟨g0,iu,hG⟩:=H.zl;obtain⟨A,PQ,Qv⟩:=Qo (λj n=>j≠0->pR P S Q (T++db i g.frame.fn g.frame.place es) ((R.map (eM P g l o)).setIfInBounds i l) (upd (upd q i n') 0 0) j n) g0 _ iu xJ
  (λj n f h u=>pR.same h ⟨ja j f u,by rw[upd_ne _ _ u,upd_ne _ _ f],mX T (λz=>f z.symm) _ cI,F⟩)
  (λn h _=>by
    match n,h with
    |0,h=>exact⟨l,jw,hI,by rw[upd_ne _ _ s,upd_same,Gq];exact h⟩
    |1,h=>exact⟨l,jw,hI,by rw[upd_ne _ _ s,upd_same,Gq];exact h⟩
    |2,h=>exact⟨l,jw,hI,by rw[upd_ne _ _ s,upd_same,Gq];exact h⟩) hG
 have rS:∀j,j≠i->j≠0->Aq Q T R q Q (T++db i g.frame.fn g.frame.place es) ((R.map (eM P g l o)).setIfInBounds i l) (upd (upd q i n') 0 A) j:=λj f u=>⟨ja j f u,by rw[upd_ne _ _ u,upd_ne _ _ f],mX T (λz=>f z.symm) _ cI,F⟩;refine⟨_,o,_,W,jL,lb',t',sm',iD,d,Q,upd (upd q i n') 0 A,vJ (sl:=sl) hg (by rw[h0];exact gR),bH,⟨C.q0 A,λj f=>(H.wS j f).same (rS j (λz=>Xt (z▸f)) (H.nz j (.inl f)).1),λj f=>?_,⟨_,K g0 iu,?_⟩,?_,I2,λj f=>?_,?_,H.Ey,nf,H.gate,H.nr.app λop aT=>?_,by simp;exact sK H.ER (Nat.le_add_right _ _),λj f=>?_,H.ze,λj h1 h2 h3=>?_⟩,?_⟩
 ·by_cases e:j=i
  ·subst e
   obtain⟨b,xK,kr⟩:=fW f;exact⟨l,b,jw,hI,xK,by rw[upd_ne _ _ s,upd_same,Gq];exact kr⟩
  ·have Cn:=(WW j e).1 f
   exact(H.BU j Cn).same (rS j e (H.nz j (.inr (.inl Cn))).1) (lj j)
 ·rw[upd_same]
  refine PQ.EH (λj n tW h=>?_) λ_=>id;have u:j≠0:=by
   by_cases e:j=i
   ·subst e;exact s
   ·exact(H.nz j (.inr ((tS j e).1 (.inr tW)))).1
  refine(h u).same ⟨F,by rw[upd_ne _ _ u,upd_ne _ _ u],F,F⟩
 ·have hN:=H.nd
  rw[yM]at hN⊢;exact⟨hN.1,nc,λa p b fZ=>hN.2.2 a p b (gP b fZ)⟩
 ·by_cases e:j=i
  ·subst e;exact⟨s,Ma,Mb⟩
  ·exact H.nz j ((P8 j e).1 f)
 ·have:=H.le;omega
 ·obtain⟨e,he,rfl⟩:=jY aT
  exact agw (jq e he) _
 ·by_cases e:j=i
  ·subst e;exact H.zd j (.inr hb)
  ·exact H.zd j ((P8 j e).1 f)
 ·by_cases e:j=i
  ·subst e;exact lj j (β h3)
  ·exact lj j (H.rl j h1 h2 λh=>h3 ((WW j e).2 h))
 ·rcases Qv with h|⟨h1,h2,h3⟩
  ·exact .inl h
  ·exact .inr ⟨h1,by rw[bH];exact R5 s aE h2 h3⟩
end
end
section
open Go.ConcN (sumTo upd sumTo_upd upd_ne upd_same)
section
variable {P:aA}{J At:Nat->Loc->Prop}{X:Loc->Prop}{S D kD B:Nat}{Q:aH}{C:Nat->aj YS}{L:au}{G:Nat->Prop}{A:Nat}
variable {R W:ae Nat}{N:aj Nat}{t K V d:Nat}{ax:Nat->aj YS}{T:dJ}{O:af aH}{w:au}{q:Nat->Nat}{va vb:ag}{M:aj (Nat×Nat)}
theorem gK.woken{E:cX->Prop}{f:Prop}{i:Nat->Nat->Prop}{c q0:Nat}{b:aH}(h:gK P S E Q f i c d q0 b N t K V)(a g:aH)(w:au):∃j,j<=q0+1/\gK P S E Q f i c d j (eM P a g w b) N t K V:=by
 rcases aco P a g w b with e|e
 ·rw[e];exact⟨q0,pL _,h⟩
 ·rw[e];exact h.again w
theorem gK.t1{E:cX->Prop}{a:Prop}{b:Nat->Nat->Prop}{c q0:Nat}{e:aH}(h:gK P S E Q a b c d q0 e N t K V):t<=1:=by cases h<;>omega
theorem kH.add(H:kH P J At X S D B Q C L G A R W N t K V d ax T O w q)(hA:eN L (dA S) va)(hB:eN L (dB S) vb)(hS:S<B)(nI:X (.cell (dA S)))(oK:X (.cell (dB S))){i:Nat}(o:i∈W):xg P J At X S D B Q C L G A (mf R W V) (pz O.size q) T O w M i:=by
 obtain⟨g,fb,hg,hI,lj,hW⟩:=H.BU i o;have hK:=H.kw hA hB;have y:=N9 hA hB H.two;have nf:=H.two;have QH:∀x,N=Z x->x≠i:=λx l e=>(H.nl x l).2 (e▸o);have AT:=(yM.1 H.nd).2.1;rcases hW.cases with⟨rfl,hs⟩|⟨k,g',es,b',f1,p,f3,f4⟩
 ·obtain⟨tj,aQ,cH⟩:=hs
  obtain⟨c,s⟩:∃c,R.length+W.length=c+1:=⟨R.length+W.length-1,by have:=List.length_pos_of_mem o;omega⟩;have γ:=H.le;obtain⟨g0,iu,Cc⟩:=H.zl;have ht:=Cc.t1;obtain⟨GA,tW⟩:=Cc.sm0 ai;subst GA tW;obtain⟨g',es,e1,e2,e3,e4,e5⟩:=cH c t ai ht;have β:(W.erase i).length+1=W.length:=by rw[List.length_erase_of_mem o];have:=List.length_pos_of_mem o;omega
  have hY:R.length+(W.erase i).length=c:=by omega
  have hZ:∀x,x≠i->(x∈W.erase i↔x∈W):=λx l=>List.mem_erase_of_ne l;have nH:i∉W.erase i:=λh=>(AT.mem_erase_iff.1 h).1 F;rw[s]at y nf;by_cases oJ:c=0/\t=1
  ·obtain⟨rfl,rfl⟩:=oJ
   obtain⟨v,pv⟩:=e4 ⟨F,F⟩;refine H.od (sl:=M) hS nI oK (jL:=W.erase i) (lb':=Z i) (t':=1) (sm':=0) (iD:=8) (n':=v) hg (.inl o) hI (e1 w y) (λe m=>.inl (e2 e m)) (by rw[tj]at e3⊢;exact e3) (.inr ⟨_,_,_,.inl F,y,F⟩)
    (λx l=>⟨λh=>.inl (h.elim (λh=>(hZ x l).1 h) λh=>absurd (dQ h).symm l),λh=>.inl ((hZ x l).2 (h.resolve_right aZ))⟩) (λx l=>hZ x l) (AT.erase i) (λx h=>List.mem_of_mem_erase h)
    (λx l=>by obtain rfl:=dQ l;exact⟨λh=>(yM.1 H.nd).2.2 _ h _ o F,nH⟩) (.inl (pv.run λ_ _=>Sx)) (λh=>absurd (.inr F) h) (λh=>absurd h nH) (λ_=>lj F) ai (by rw[hY];exact BC hA hB nf) λE g0 u _ xJ hl fW hG=>?_
   rw[s]at hG;have PQ:=hG.last (kB:=u) (CK:=E) (j:=i) (fW 2 pv);obtain⟨q1,_,xG⟩:=PQ.woken g g' (w.setCell (dA S) (cK 0 1));exact⟨q1,by rw[hY];exact xG,.inl (by unfold mf;omega)⟩
  ·obtain⟨v,pv⟩:=e5 oJ
   obtain⟨r,hr⟩:∃r,r<=V+2/\∀(u:Prop)(CK:Nat->Nat->Prop),gK P S (im S X B) Q u CK c d (q 0) g0 I t 0 r:=by
    rw[s]at Cc;cases Cc with
    |a f s h=>exact⟨11,by omega,λ_ _=>.a f ai h⟩
    |yz f c0 s h0 h=>exact⟨12,by omega,λ_ _=>.yz f c0 ai h0 h⟩
    |b f s h0 h=>exact⟨12,by omega,λ_ _=>.yz f _ ai h0 h⟩
    |c s h=>exact⟨9,by omega,λ_ _=>.c ai h⟩
    |d s h=>omega
    |z b hb s h=>omega
   refine H.od (sl:=M) hS nI oK (jL:=W.erase i) (lb':=I) (t':=t) (sm':=0) (iD:=r) (n':=v) hg (.inl o) hI (e1 w y) (λe m=>.inl (e2 e m)) (by rw[tj]at e3⊢;exact e3) (.inr ⟨_,_,_,.inl F,y,F⟩)
    (λx l=>by simp[hZ x l]) (λx l=>hZ x l) (AT.erase i) (λx h=>List.mem_of_mem_erase h)
    (λx l=>by cases l) (.inr (by simp[nH])) (λ_=>pv) (λh=>absurd h nH) (λ_=>lj F) ai (by rw[hY];exact BC hA hB nf) λE g1 u h1 xJ hl fW _=>?_
   rw[iu]at h1;obtain rfl:=dQ h1;obtain⟨q1,_,xG⟩:=(hr.2 u E).woken g g' (w.setCell (dA S) (cK c t));exact⟨q1,by rw[hY];exact xG,.inl (by unfold mf;have:=hr.1;omega)⟩
 ·have jq:∀e∈es,EvS S e\/e=uo S:=λe m=>by
   rcases p with⟨p,_⟩|⟨rfl,_,_⟩
   ·exact .inl (.inl (p e m))
   ·simp only[jA,bQ,gk,or_false]at m
    exact .inr m
  have Cp:An (dU T i) es.toList:=by
   rcases p with⟨p,_⟩|⟨rfl,_,_⟩
   ·exact R6 λe m=>p e (by simpa using m)
   ·exact⟨λh=>absurd F h,trivial⟩
  refine H.od (sl:=M) hS nI oK (jL:=W) (lb':=N) (t':=t) (sm':=K) (iD:=V) (n':=k) hg (.inl o) hI (f3 w hK) jq Cp (.inl F) (λx _=>Iff.rfl) (λx _=>Iff.rfl) AT (λx h=>h) (λx l=>H.nl x l) (.inl (f4.run λ_ _=>ZG)) (λh=>absurd (.inl o) h) (λ_=>⟨b',λe=>?_,f4⟩) (λh=>absurd o h) (df _) nf λE g0 u _ xJ hl fW hG=>?_
  ·rcases p with⟨p,rfl⟩|⟨rfl,nF,_⟩
   ·refine(lj e).app λi' x a qJ l _ ha=>?_
    rcases kY l with⟨aE,_⟩|⟨_,fA⟩
    ·omega
    ·obtain⟨e,m,rfl⟩:=jY fA
     have ha:(gy e).touch?=Z a:=ha;rw[ab6 (p e m)]at ha;cases ha
   ·exact Rl.new _ _ H.ER nF
  ·obtain⟨q1,tY,xG⟩:=(hG.EH (CK:=E) (kB:=u) (λj n hj h=>hl j n (QH j hj) h) λ_=>xJ).woken g g' w
   exact⟨q1,xG,.inr ⟨rfl,by omega,tY⟩⟩
theorem kH.amn(H:kH P J At X S D B Q C L G A R W N t K V d ax T O w q)(hA:eN L (dA S) va)(hB:eN L (dB S) vb)(hS:S<B)(nI:X (.cell (dA S)))(oK:X (.cell (dB S))){i:Nat}(hi:N=Z i):xg P J At X S D B Q C L G A (mf R W V) (pz O.size q) T O w M i:=by
 have hK:=H.kw hA hB;have cA:=N9 hA hB H.two;have cB:=T5 hA hB H.two;have nf:=H.two;have AT:=(yM.1 H.nd).2.1;have nH:=(H.nl i hi).2;have lj:=H.rl i (H.zd i (.inr (.inr hi))) (H.nl i hi).1 nH;obtain⟨g0,iu,Cc⟩:=H.zl
 have f:∀{a:Nat->aH->Prop}{g:aH}{t' b iD:Nat},O[i]?=Z g->ax i=I->kI P Y (KW S) (rm S) a (q i) (dU T i) g->¬a (dU T i) g->(∀d g,a d g->g.status=.running)->t'=t->b=K->iD=V->
   (∀(kB:Prop)l m d' o,(∀j n,j≠i->pR P S ax T O q j n->l j n)->(∀n,UF P S m d' o n->l i n)->kI P Y (KW S) (rm S) a m d' o->gK P S (im S X B) Q kB l (R.length+W.length) d (q 0) g0 N t' b iD)->
   xg P J At X S D B Q C L G A (mf R W V) (pz O.size q) T O w M i:=by
  intro a g t' b iD u s hW v aQ et nD er hk;subst et nD er;rcases hW.cases with h|⟨k,o,es,f1,f2,f3,f4⟩
  ·exact absurd h v
  ·refine H.od (sl:=M) hS nI oK (jL:=W) (lb':=N) (t':=t') (sm':=b) (iD:=iD) (n':=k) u (.inr hi) s (f3 w hK) (λe y=>.inl (.inl (f2 e y))) (R6 λe y=>f2 e (by simpa using y)) (.inl rfl) (λx _=>Iff.rfl) (λx _=>Iff.rfl) AT (λx h=>h) (λx E=>H.nl x E) (.inl (f4.run aQ)) (λh=>absurd (.inr hi) h) (λh=>absurd h nH) (λ_=>lj) (df _) nf λl g1 kB r xJ hl p _=>?_
   rw[iu]at r;obtain rfl:=dQ r;obtain⟨q1,tY,xG⟩:=(hk kB l k _ o hl p f4).woken g o w;exact⟨q1,xG,.inr ⟨F,by omega,tY⟩⟩
 generalize hc:R.length+W.length=c at Cc f cA nf;generalize Cu:q 0=q0 at Cc f;subst hi;cases Cc with
 |cB _ l6 hj h=>
  obtain⟨g,u,s,hW⟩:=hj;by_cases v:Du P S (dU T i) g
  ·obtain⟨tj,aQ,o,es,e1,e2,e3,m,pv⟩:=v
   subst l6;refine H.od (sl:=M) hS nI oK (jL:=W) (lb':=Z i) (t':=1) (sm':=0) (iD:=7) (n':=m) u (.inr F) s (e1 w cA) (λe y=>.inl (e2 e y)) (by rw[tj]at e3⊢;exact e3) (.inr ⟨_,_,_,.inl F,cA,F⟩) (λx _=>Iff.rfl) (λx _=>Iff.rfl) AT (λx h=>h) (λx E=>H.nl x E) (.inl (pv.run λ_ _=>Sy)) (λh=>absurd (.inr F) h) (λh=>absurd h nH) (λ_=>lj) (df _) (by rw[hc];exact BC hA hB nf) λl g1 kB r xJ hl p _=>?_;rw[iu]at r;obtain rfl:=dQ r;obtain⟨q1,tY,xG⟩:=(gK.cC (AK:=kB) (cQ:=l) i F (p 1 pv) h).woken g o (w.setCell (dA S) (cK 0 1));exact⟨q1,by rw[hc];exact xG,.inl (by unfold mf;omega)⟩
  ·exact f u s hW v (λ_ _=>Sx) F F F λ_ l m d' o _ p hw=>.cB i l6 (p 2 hw) h
 |cC _ l6 hj h=>
  obtain⟨g,u,s,hW⟩:=hj;by_cases v:Dv P S (dU T i) g
  ·obtain⟨tj,aQ,o,es,e1,e2,e3,m,pv⟩:=v
   subst l6;refine H.od (sl:=M) hS nI oK (jL:=W) (lb':=Z i) (t':=0) (sm':=0) (iD:=6) (n':=m) u (.inr F) s (e1 w cA) (λe y=>.inl (e2 e y)) (by rw[tj]at e3⊢;exact e3) (.inr ⟨_,_,_,.inl F,cA,F⟩) (λx _=>Iff.rfl) (λx _=>Iff.rfl) AT (λx h=>h) (λx E=>H.nl x E) (.inl (pv.run λ_ _=>Sz)) (λh=>absurd (.inr F) h) (λh=>absurd h nH) (λ_=>lj) (df _) (by rw[hc];exact BC hA hB nf) λl g1 kB r xJ hl p _=>?_;rw[iu]at r;obtain rfl:=dQ r;obtain⟨q1,tY,xG⟩:=(gK.cD (AK:=kB) (cQ:=l) i F (p 0 pv) h).woken g o (w.setCell (dA S) (cK 0 0));exact⟨q1,by rw[hc];exact xG,.inl (by unfold mf;omega)⟩
  ·exact f u s hW v (λ_ _=>Sy) F F F λ_ l m d' o _ p hw=>.cC i l6 (p 1 hw) h
 |cD _ l6 hj h=>
  obtain⟨g,u,s,hW⟩:=hj;by_cases v:Dw P S (dU T i) g
  ·obtain⟨tj,aQ,AR,o,es,e1,e2,e3,QG,m,pv⟩:=v
   subst l6;refine H.od (sl:=M) hS nI oK (jL:=W) (lb':=I) (t':=0) (sm':=1) (iD:=5) (n':=m) u (.inr F) s (e1 w cB) (λe y=>.inl (e2 e y)) (by rw[tj]at e3⊢;exact e3) (.inr ⟨_,_,_,.inr F,cB,F⟩) (λx E=>⟨λh=>.inl (h.resolve_right aZ),λh=>.inl (h.resolve_right λz=>E (dQ z).symm)⟩) (λx _=>Iff.rfl) AT (λx h=>h) (λx E=>by cases E) (.inr (by simp[nH])) (λ_=>pv) (λh=>absurd h nH) (λ_=>lj) (df _) (by rw[hc];exact ab9 hA hB nf) λl g1 kB r xJ hl p _=>?_;rw[iu]at r;obtain rfl:=dQ r;have jF:Go.Conc.woken P g o (w.setCell (dB S) (jH 1)) g0=g0.again (w.setCell (dB S) (jH 1)):=by
    unfold Go.Conc.woken;rw[if_pos];rw[AR,Bool.true_and];exact QG
   rw[jF,hc];cases h with
   |tI h=>exact⟨_,by rw[Ag _ (.inl (h.run λ_ _=>EP))];exact .cR F h,.inl (by unfold mf;omega)⟩
   |parked h=>exact⟨0,by rw[UO h.2.1 h.2.2.1];exact .cR F h,.inl (by unfold mf;omega)⟩
  ·exact f u s hW v (λ_ _=>Sz) F F F λ_ l m d' o _ p hw=>.cD i l6 (p 0 hw) h
end
end
section
open Go.ConcN (sumTo upd sumTo_upd upd_ne upd_same)
section
variable {P:aA}{St At:Nat->Loc->Prop}{X:Loc->Prop}{S D kD B:Nat}{gf:aH}{eQ:Nat->aj YS}{O:au}{cw:Nat->Prop}{n0:Nat}
variable {V Q:ae Nat}{L:aj Nat}{t sm J d:Nat}{K:Nat->aj YS}{T:dJ}{W:af aH}{w:au}{q:Nat->Nat}{va vb:ag}{sl:aj (Nat×Nat)}
theorem gK.G8{E:cX->Prop}{f:Prop}{j:Nat->Nat->Prop}{c q0 i:Nat}{a:aH}{W g:af aH}{w:au}(h:gK P S E gf f j c d q0 a L t sm J)(o:KL w i W g)(n:W[0]?=Z a):∃b k,b<=q0+1/\g[0]?=Z k/\gK P S E gf f j c d b k L t sm J:=by
 rcases o.zero a n with e|e
 ·exact⟨q0,a,pL _,e,h⟩
 ·obtain⟨b,l,m⟩:=h.again w
  exact⟨b,_,l,e,m⟩
theorem kH.noSend(H:kH P St At X S D B gf eQ O cw n0 V Q L t sm J d K T W w q):∀a,W[0]?=Z a->∀c,offersAt a c U=[]:=λa h c=>by
 obtain⟨f,b,e⟩:=H.zl;rw[h]at b;obtain rfl:=dQ b;exact e.noSend c
theorem kH.by(H:kH P St At X S D B gf eQ O cw n0 V Q L t sm J d K T W w q){i:Nat}{g:aH}(s:W[i]?=Z g)(gu:i≠0)(C:¬(i∈V\/i∈Q\/L=Z i))(aQ:g.status=.running):xg P St At X S D B gf eQ O cw n0 (mf V Q J) (pz W.size q) T W w sl i:=by
 have aE:i<W.size:=(gG.1 s).1;obtain⟨R,c,n,p,l,A,h4,h6,h5⟩:=H.dr.aeq (sl:=sl) s gu C aQ H.noSend;have N:∀k x a,T.size<=k->(T++c)[k]?=Z x->cw x.g->x.act.touch?=Z a->False:=λk x a u o r m=>by
  rcases kY o with⟨Qx,_⟩|⟨_,fA⟩
  ·omega
  ·obtain⟨v,_,y⟩:=h6 x fA
   rw[v]at r;rw[y ((H.ze i r).2 λz=>C (.inl z))]at m;cases m
 have lj:∀j,cw j->Rl S n0 X T j->Rl S n0 X (T++c) j:=λj b h=>h.app λk x a u o s m=>(N k x a u o (s▸b) m).elim;have xJ:ri cw X T->ri cw X (T++c):=λh=>h.app λk x a u o r m=>(N k x a u o r m).elim;obtain⟨g0,iu,hG⟩:=H.zl;obtain⟨M,g1,v,e2,y⟩:=hG.G8 l iu;have E:∀j,j≠0->j≠i->Aq K T W q K (T++c) R (upd (upd q i n) 0 M) j:=λj b G=>⟨l.same j G b,by rw[upd_ne _ _ b,upd_ne _ _ G],h4 j G,F⟩;have f:∀j,(j∈V\/j∈Q\/L=Z j)->j≠0/\j≠i:=λj b=>⟨(H.nz j b).1,λe=>C (e▸b)⟩;refine⟨R,w,c,V,Q,L,t,sm,J,d,K,upd (upd q i n) 0 M,p,l.size,⟨h5.q0 M,λj b=>(H.wS j b).same (E j (f j (.inl b)).1 (f j (.inl b)).2),λj b=>(H.BU j b).same (E j (f j (.inr (.inl b))).1 (f j (.inr (.inl b))).2) (lj j (H.zd j (.inr (.inl b)))),⟨g1,e2,?_⟩,H.nd,H.nl,H.nz,H.le,H.Ey,H.two,H.gate,H.nr.app λop aT=>(h6 op aT).2.1 _,by simp;exact sK H.ER (Nat.le_add_right _ _),H.zd,H.ze,λj p l A=>lj j p (H.rl j p l A)⟩,.inr ⟨F,?_⟩⟩
 ·rw[upd_same]
  exact y.EH (λj n tW h=>pR.same h (E j (f j (.inr (.inr tW))).1 (f j (.inr (.inr tW))).2)) λ_=>xJ
 ·rw[l.size];exact R5 gu aE A v
theorem kH.sit(H:kH P St At X S D B gf eQ O cw n0 V Q L t sm J d K T W w q)(hA:eN O (dA S) va)(hB:eN O (dB S) vb)(hD:O.heap[D]?=Z (.chan 0 #[] U kD kD Y))(uO:D<B){i:Nat}(l:i∈V):xg P St At X S D B gf eQ O cw n0 (mf V Q J) (pz W.size q) T W w sl i:=by
 obtain⟨g,hg,y,s,kk,z,hI,aQ,Ji,hk,ja,p,XW⟩:=H.wS i l;obtain⟨R,Ma,Mb⟩:=H.nz i (.inl l);have aE:i<W.size:=(gG.1 hg).1;have rL:=H.dr.yd.keep i y hI;have D4:=aw2 hA hB H.two hD;obtain⟨g0,iu,hG⟩:=H.zl;have β:=(yM.1 H.nd).1;have My:i∉Q:=λh=>(yM.1 H.nd).2.2 i l i h F;have l6:¬V.length+Q.length=0:=by have:=List.length_pos_of_mem l;omega
 have XI:∀f:dJ,(∀C∈f,C.g=i/\∀a,C.act≠.mark (.release a))->∀j,j≠i->Rl S n0 X T j->Rl S n0 X (T++f) j:=λf M j c h=>h.app λk x a hk A hg _=>absurd (hg.symm.trans (Si (λC aT=>(M C aT).1) hk A)) c;have zp:(∃g₂,AtIn P Y y.K y.St y.B s g g₂)\/∃u E es,q i=u+1/\aG P Y g w=.go E w es/\(∀e∈es,EvC y.St y.B e)/\Goes P Y (RK y.K) (DS y.St y.B) (λg _=>∃g₂,AtIn P Y y.K y.St y.B s g g₂) u E w:=by
  generalize q i=k at p;cases k with
  |zero=>exact .inl (p w rL)
  |succ u=>
   rcases p with Jc|⟨_,gR⟩
   ·exact .inl (Jc w rL)
   ·have r:=gR w rL
    cases p:aG P Y g w with
    |go E w' es=>
     rw[p,goes_go]at r;obtain⟨⟨rfl,fS⟩,rK⟩:=r;exact .inr ⟨u,E,es,F,F,fS,rK⟩
    |_=>rw[p]at r;exact r.elim
 rcases zp with⟨g₂,cH⟩|⟨u,E,es,hq,gR,fS,rK⟩
 ·obtain⟨m,hm⟩:=XW g₂ cH.2.2.2.2.1
  have nF:=H.dr.mem R hI;obtain⟨bD,f,G,o,v,h4,M,h5⟩:=H.dr.serve (sl:=sl) m hg R (.inl l) hI cH Ji hk ja D4 uO (H.zd i (.inl l)) H.noSend;have lj:=XI f M;obtain⟨N,g1,e1,e2,e3⟩:=hG.G8 o iu;have r:∀j,j≠0->j≠i->Aq K T W q (λx=>if x=i then I else K x) (T++f) bD (upd (upd q i m) 0 N) j:=λj c pn=>⟨o.same j pn c,by rw[upd_ne _ _ c,upd_ne _ _ pn],h4 j,if_neg pn⟩;have hZ:∀x,x≠i->(x∈V.erase i↔x∈V):=λx A=>List.mem_erase_of_ne A;have nH:i∉V.erase i:=λh=>(β.mem_erase_iff.1 h).1 F;have wo:=List.length_pos_of_mem l;have γ:(V.erase i).length+1=V.length:=by rw[List.length_erase_of_mem l];omega
  have hY:(V.erase i).length+(i::Q).length=V.length+Q.length:=by rw[iH];omega
  have tS:∀x,(x∈V\/x∈Q\/L=Z x)↔(x∈V.erase i\/x∈i::Q\/L=Z x):=λx=>by
   by_cases e:x=i
   ·subst e;simp[l]
   ·rw[hZ x e,bQ];simp[e]
  refine⟨bD,w,f,V.erase i,i::Q,L,t,sm,J,d,_,upd (upd q i m) 0 N,G,o.size,⟨(h5.bz tS).q0 N,λj c=>?_,λj c=>?_,⟨g1,e2,?_⟩,?_,λj c=>?_,λj c=>H.nz j ((tS j).2 c),by rw[hY];exact H.le,λx=>?_,by rw[hY];exact H.two,?_,H.nr.app λC aT=>(M C aT).2 _,by simp;exact sK H.ER (Nat.le_add_right _ _),λj c=>H.zd j ((tS j).2 c),λj c=>⟨(H.ze j c).1,λoa=>?_⟩,λj G o v=>?_⟩,.inl ?_⟩
  ·have e:j≠i:=λe=>nH (e▸c)
   exact(H.wS j ((hZ j e).1 c)).same (r j (H.nz j (.inl ((hZ j e).1 c))).1 e)
  ·rcases bQ.1 c with rfl|c
   ·exact⟨_,Y,v,if_pos rfl,by simp,by rw[upd_ne _ _ R,upd_same,h4,nF];exact hm⟩
   ·have e:j≠i:=λe=>My (e▸c)
    exact(H.BU j c).same (r j (H.nz j (.inr (.inl c))).1 e) (lj j e)
  ·rw[upd_same,hY]
   exact e3.EH (λj n tW h=>pR.same h (r j (H.nz j (.inr (.inr tW))).1 λe=>(H.nl j tW).1 (e▸l))) λh0=>absurd h0 l6
  ·have hN:=H.nd
   rw[yM]at hN⊢;refine⟨hN.1.erase i,rb.2 ⟨My,hN.2.1⟩,λa ha b hb e=>?_⟩;subst e;rcases bQ.1 hb with rfl|hb
   ·exact nH ha
   ·exact hN.2.2 a (List.mem_of_mem_erase ha) a hb rfl
  ·obtain⟨n1,n2⟩:=H.nl j c
   exact⟨λh=>n1 (List.mem_of_mem_erase h),λh=>(bQ.1 h).elim (λe=>n1 (e▸l)) n2⟩
  ·rw[H.Ey x]
   by_cases e:x=i
   ·subst e;rw[if_pos l,if_neg nH,if_pos rfl]
   ·simp only[hZ x e,if_neg e]
  ·refine⟨H.gate.out,λb hb x y' A=>?_⟩
   by_cases e:x=i
   ·rw[if_pos e]at A;cases A
   ·rw[if_neg e]at A;exact H.gate.keep b hb x y' A
  ·by_cases e:j=i
   ·exact if_pos e
   ·rw[if_neg e];exact(H.ze j c).2 λh=>oa ((hZ j e).2 h)
  ·have e:j≠i:=λe=>v (by rw[e];simp)
   exact lj j e (H.rl j G (λh=>o ((hZ j e).2 h)) λh=>v (eK _ h))
  ·unfold mf;rw[hY];omega
 ·have qM:E.status=.running:=(Sits.status (s:=s) rL (.inl ⟨u,w,F,rK⟩)).elim (·.1) λz=>absurd z.2 (Nat.succ_ne_zero _)
  obtain⟨bD,f,G,o,v,h4,M,h5⟩:=H.dr.walk (sl:=sl) u hg R (.inl l) hI gR fS qM;have lj:=XI f M;obtain⟨N,g1,e1,e2,e3⟩:=hG.G8 o iu;have r:∀j,j≠0->j≠i->Aq K T W q K (T++f) bD (upd (upd q i u) 0 N) j:=λj c pn=>⟨o.same j pn c,by rw[upd_ne _ _ c,upd_ne _ _ pn],h4 j,F⟩;refine⟨bD,w,f,V,Q,L,t,sm,J,d,K,upd (upd q i u) 0 N,G,o.size,⟨h5.q0 N,λj c=>?_,λj c=>(H.BU j c).same (r j (H.nz j (.inr (.inl c))).1 λe=>My (e▸c)) (lj j λe=>My (e▸c)),⟨g1,e2,?_⟩,H.nd,H.nl,H.nz,H.le,H.Ey,H.two,H.gate,H.nr.app λC aT=>(M C aT).2 _,by simp;exact sK H.ER (Nat.le_add_right _ _),H.zd,H.ze,λj G o v=>lj j (λe=>o (e▸l)) (H.rl j G o v)⟩,.inr ⟨F,?_⟩⟩
  ·by_cases e:j=i
   ·subst e
    exact⟨E,v,y,s,kk,z,hI,qM,Ji,hk,ja,by rw[upd_ne _ _ R,upd_same];exact ahm rK,XW⟩
   ·exact(H.wS j c).same (r j (H.nz j (.inl c)).1 e)
  ·rw[upd_same]
   exact e3.EH (λj n tW h=>pR.same h (r j (H.nz j (.inr (.inr tW))).1 λe=>(H.nl j tW).1 (e▸l))) λh0=>absurd h0 l6
  ·rw[o.size];exact R5 R aE ai e1
theorem kH.awake(H:kH P St At X S D B gf eQ O cw n0 V Q L t sm J d K T W w q):∀g∈W,awake g:=by
 intro g j;obtain⟨i,k,rfl⟩:=Array.mem_iff_getElem.1 j;have b:=wZ k;by_cases e:i=0
 ·subst e
  obtain⟨l,c,h⟩:=H.zl;rw[b]at c;obtain rfl:=dQ c;exact awake_of (h.status.elim .inl λx=>.inr (.inl x.1))
 ·by_cases f:i∈V\/i∈Q\/L=Z i
  ·exact awake_of (.inl (H.dr.run i _ e f b))
  ·have a:=H.dr.yd.idle i _ (λz=>z.elim e f) b
   cases es:K i with
   |none=>rw[es]at a;exact awake_of (a.2.status.elim .inl λx=>.inr (.inr x))
   |some s=>rw[es]at a;exact awake_of ((Sits.status (H.dr.yd.keep i s es) a).elim (λx=>.inl x.1) λx=>.inr (.inl x.1))
theorem kH.avF(H:kH P St At X S D B gf eQ O cw n0 V Q L t sm J d K T W w q):∃(i:Nat)(g:aH),W[i]?=Z g/\g.status=.running:=by
 obtain⟨e,f,k⟩:=H.zl;rcases k.status with h|⟨_,h|⟨j,n,o,h⟩⟩
 ·exact⟨0,e,f,h⟩
 ·cases hs:V with
  |cons i l=>
   obtain⟨g,a,_,_,_,_,_,c,_⟩:=H.wS i (by rw[hs];simp);exact⟨i,g,a,c⟩
  |nil=>
   cases ha:Q with
   |nil=>rw[hs,ha]at h;simp at h
   |cons i l=>
    obtain⟨g,m,a,_,_,b⟩:=H.BU i (by rw[ha];simp);exact⟨i,g,a,b.run λ_ _=>ZG⟩
 · match n,h with
   |0,⟨g,a,_,b⟩=>exact⟨j,g,a,b.run λ_ _=>Sz⟩
   |1,⟨g,a,_,b⟩=>exact⟨j,g,a,b.run λ_ _=>Sy⟩
   |2,⟨g,a,_,b⟩=>exact⟨j,g,a,b.run λ_ _=>Sx⟩
def Kr(P:aA)(St At:Nat->Loc->Prop)(X:Loc->Prop)(S B:Nat)(gf:aH)(eQ:Nat->aj YS)(O:au)(n:Nat)(m:fg)(T:dJ):Prop:=∃N a b e c f,iz P N m T=(.next (crowd a b e),c)/\a.size=n/\a[0]?=Z gf/\YH P St At X eQ 0 0 B c a b f/\rp S O (cK 0 0) (jH 0) b
theorem drain(p:eN O (dA S) va)(r:eN O (dB S) vb)(hD:O.heap[D]?=Z (.chan 0 #[] U kD kD Y))(uO:D<B)(A:S<B)(nI:X (.cell (dA S)))(oK:X (.cell (dB S))):∀(R M:Nat)(V Q:ae Nat)(L:aj Nat)(t sm J d:Nat)(K:Nat->aj YS)(T:dJ)(W:af aH)(w:au)(q:Nat->Nat)(sl:aj (Nat×Nat)),mf V Q J=R->pz W.size q=M->kH P St At X S D B gf eQ O cw n0 V Q L t sm J d K T W w q->Kr P St At X S B gf eQ O W.size (crowd W w sl) T:=by
 intro R;induction R using Nat.strongRecOn with
 |_ R β=>
 intro M;induction M using Nat.strongRecOn with
 |_ M G=>
 intro V Q L t sm J d K T W w q sl hR hM H;obtain⟨i,g,dd,j,E,zq,aF⟩:=crowd_pick (P:=P) (w:=w) (sl:=sl) H.awake H.avF;have f:=H.at dd;have next:xg P St At X S D B gf eQ O cw n0 (mf V Q J) (pz W.size q) T W (w.at dd) j i->Kr P St At X S B gf eQ O W.size (crowd W w sl) T:=by
  rintro⟨n,w',γ,Hl,jL,l,t',m,iD,d',b,q',e1,e2,e3,e4⟩;have h:Kr P St At X S B gf eQ O n.size (crowd n w' j) (T++γ):=by
   rw[hR,hM]at e4;rcases e4 with h|⟨s,o⟩
   ·exact β _ h _ Hl jL l t' m iD d' b _ n w' q' j rfl rfl e3
   ·exact G _ o Hl jL l t' m iD d' b _ n w' q' j s rfl e3
  obtain⟨N,iZ,w2,jx,T2,q2,k1,k2,k3⟩:=h;refine⟨N+1,iZ,w2,jx,T2,q2,?_,k2.trans e2,k3⟩;simp only[iz,aF,e1];exact k1
 by_cases h0:i=0
 ·subst h0
  rcases f.step0 (sl:=j) p r A E zq with⟨rfl,rfl,rfl,rfl,rfl,rfl,rfl,v⟩|h
  ·have hI:eQ=K:=funext λx=>by rw[H.Ey x];simp
   refine⟨0,W,w,sl,T,q,F,F,E,?_,H.two⟩;have C:=H.dr;rw[hI];refine⟨⟨λx g c hg=>C.yd.idle x g (λz=>z.elim c aZ) hg,C.yd.chans,C.yd.wf,C.yd.inj,C.yd.above,C.yd.lt,λx y e=>⟨(C.yd.mem x y e).1.imp (λz=>z.resolve_right aZ) id,(C.yd.mem x y e).2⟩,λx c=>(C.yd.nomem x c).imp id λz=>z.resolve_right aZ,λx y c e=>⟨c,by rw[e];simp⟩,⟨C.yd.past.clean,λk a ha hm=>?_,C.yd.past.wrote,C.yd.past.hears,C.yd.past.seen,C.yd.past.apart,C.yd.past.plain⟩,C.yd.keep,C.yd.places,C.yd.fresh⟩,C.deaf,C.wrote⟩;rcases C.yd.past.known k a ha hm with h|⟨s,g',o,h3,h4⟩|h
   ·exact .inl h
   ·rcases h3.2 with u|u
    ·exact .inr (.inl ⟨s,g',o,⟨h3.1,u⟩,h4⟩)
    ·obtain⟨x,c,dz⟩:=nR ha
     have Q8:x.g=g':=by have:=g?_of c;rw[o]at this;exact(dQ this).symm
     exact(v k x a c (Q8▸u) dz).imp id .inr
   ·exact .inr (.inr h)
  ·exact next h
 ·by_cases hb:i∈V\/i∈Q\/L=Z i
  ·rcases hb with h|h|h
   ·exact next (f.sit p r hD uO h)
   ·exact next (f.add p r A nI oK h)
   ·exact next (f.amn p r A nI oK h)
  ·exact next (f.by E h0 hb zq)
end
end
theorem Ub{S:Nat}{P:aA}{E:cX->Prop}{a:Nat->aH->Prop}{d d':Nat}{g f:aH}{l:ae iR}(h:∀v,stage P fI v g=Z (f,v,l))(k:eH (dA S) l)(j:∀e∈dc l,E e)(i:gW d (wW P g l)=d')(o:∃m,kI P b (KW S) E a m d' f):∃m,kI P b (KW S) E a m d g:=axw h k F (λe hE=>j e (by simpa using mem_seen hE)) (by rw[i];exact o)
abbrev K5(f:bA)(b:af ag)(i:Nat)(d:af bh)(l:ae Nat)(h:ae aK)(e:ae bV)(a:dD)(g:aj Nat):az:=⟨f,b,.inRegion d (i::l)::h,e,.run,a,g⟩
abbrev Gg(f:bA)(b:af ag)(i:Nat)(d:af bh)(l:ae Nat)(h:ae aK)(e:ae bV)(a:dD)(g:aj Nat)(cs:ae az):aH:=G (jd (K5 f b i d l h e a g) (.tuple #[])) cs
section
variable {Shun:Loc->Prop}{S B:Nat}(X:S<B){c:az}{cs:ae az}{W:aH}(V:W.status=.running)(hE:∀J,(∃n,aN ak n (sg (sg (sg (vZ S J cs c))))=W)/\∃n,aN ak n (sg (sg (sg (vS S J cs c))))=W)
include X
theorem B7:(∀e∈dc (ya S),im S Shun B e)/\(∀e∈dc (IX S),im S Shun B e)/\(∀e∈dc (JC S),im S Shun B e)/\(∀e∈dc (J3 S),im S Shun B e)/\∀e∈([⟨.mark (.extern 81),Y,U⟩,⟨.mark (.write (dB S)),Y,U⟩]:ae cX),im S Shun B e:=by
 refine⟨?_,?_,?_,?_,?_⟩<;>simp[ya,IX,JC,J3,dc,im,lC,dA,dB,X,Fq]
omit X in
include V hE in
theorem RO(J:Nat->ag):WZ ak S (im S Shun B) W 1 (vZ S J cs c)/\WZ ak S (im S Shun B) W 1 (vS S J cs c):=by
 constructor;refine Fo (d':=0) (es:=#[⟨.mark .enable,Y,U⟩]) (λv=>qV (afW S J cs c v) (afX S J cs c v)) (by simp[eH]) av (by simp[im,lC]) rfl ?_;refine Fo (d':=0) (es:=#[]) (λv=>qV (afY S J cs c v) (afZ S J cs c v)) (by simp[eH,dA]) av aZ rfl ?_;refine Uc (λv=>qV (af0 S J cs c v) (af1 S J cs c v)) (by simp[eH]) av rfl ?_;obtain⟨n,hn⟩:=(hE J).1
 rotate_left
 refine Fo (d':=0) (es:=#[⟨.mark .enable,Y,U⟩]) (λv=>qV (adT S J cs c v) (adU S J cs c v)) (by simp[eH]) av (by simp[im,lC]) rfl ?_;refine Fo (d':=0) (es:=#[]) (λv=>qV (adV S J cs c v) (adW S J cs c v)) (by simp[eH,dA]) av aZ rfl ?_;refine Uc (λv=>qV (adX S J cs c v) (adY S J cs c v)) (by simp[eH]) av rfl ?_;obtain⟨n,hn⟩:=(hE J).2
 all_goals
  refine Kk n _ ?_;rw[hn];exact⟨0,rfl,rfl,V,rfl⟩
include V hE
theorem mD(J:Nat->ag):HP ak S (im S Shun B) W 1 (HZ S J cs c):=⟨F,ad0 S J cs c,Fi (adZ S J cs c) (by simp[ya,eH]) (B7 X).1 (by rw[ad1];exact(RO V hE J).2)⟩
theorem mC(J:Nat->ag):xp ak S (im S Shun B) W 1 (CX S J c cs):=by
 refine⟨F,F,F,λw a=>asz S J cs c w a.cell a.free a.shape,Fi (asy S J cs c) (by simp[J3,eH]) (B7 X).2.2.2.1 ?_⟩;rw[asA];exact yG 400 _ ⟨0,mD X V hE J⟩
theorem mB{n:Nat}(hn:nine n)(J:Nat->ag){b:Nat->aH->Prop}(a:∀J,b 1 (BE S J c cs)):Ds ak S (im S Shun B) W b n 1 (Dz S n J c cs):=by
 obtain⟨i,j,o,k,f,l,d,g,h⟩:=ajB S J cs c hn;refine⟨F,F,Fi i (by simp[IX,eH,dA]) (B7 X).2.1 ?_,λm e=>Fi (Y4 S J cs c hn e).1 (by simp[JC,eH,dA]) (B7 X).2.2.1 ?_⟩
 ·rw[d _ (.inl F)]
  refine Ub (λv=>qV (j v) (o v)) (by simp[eH,dA]) (by simp[dc]) g ?_;refine Ub (λv=>qV (k v) (f v)) (by simp[eH]) (by simpa[dc]using(B7 X).2.2.2.2) h ?_;refine yG 400 _ ?_;erw [l];exact⟨0,mC X V hE _⟩
 ·rw[d _ (.inr F)]
  refine yG 400 _ ?_;rw[(Y4 S J cs c hn e).2];exact⟨0,a _⟩
theorem mA:∀(f:Nat),f<=9->∀J,xo ak S (im S Shun B) W f 1 (BE S J c cs):=by
 intro f;induction f with
 |zero=>exactλ_ J=>⟨F,F,Fi (Yt S J cs c) (by simp[ya,eH]) (B7 X).1 (by rw[Ry];exact(RO V hE J).1)⟩
 |succ f b=>
  intro d J;refine⟨F,F,Fi (Yt S J cs c) (by simp[ya,eH]) (B7 X).1 (by rw[Ry];exact(RO V hE J).1),λk e=>?_⟩;have hn:nine (k+1):=by unfold nine;omega
  have a:=ldN S J cs c hn;exact Fi a.1 (by simp[ya,eH]) (B7 X).1 (by rw[Ry];exact yG 400 _ (by rw[a.2];exact⟨0,mB X V hE hn J (b ai)⟩))
end
theorem ack{Shun:Loc->Prop}{S B:Nat}(X:S<B){fn:bA}{tmps:af ag}{i:Nat}{ops:af bh}{l:ae Nat}{td:ae aK}{ds:ae bV}{kind:dD}{ro:aj Nat}{cs:ae az}:∃n,kI ak U (KW S) (im S Shun B) (xo ak S (im S Shun B) (Gg fn tmps i ops l td ds kind ro cs) 9) n 0 (G (bG ak 46 #[ptr S 11] .normal) (K5 fn tmps i ops l td ds kind ro::cs)):=by
 refine Ub (d':=1) (λv=>qV (axs S cs _ v) (axt S cs _ v)) (by simp[eH]) (by simp[dc,im,lC]) av ?_;refine yG 400 _ ?_;rw[axr];exact⟨0,mA X F (λJ=>⟨afV S J cs fn tmps i ops l td ds kind ro,adS S J cs fn tmps i ops l td ds kind ro⟩) 9 (df _) _⟩
section
open Go.ConcN (sumTo upd sumTo_upd upd_ne upd_same)
structure ac9(D:Nat)(y y':YS):Prop where
 K:y'.K=y.K
 St:y'.St=y.St
 B:y'.B=y.B
 own:y'.own=y.own
 wf:y'.s.Wf
 has:y'.s.has y'.own
 sub:∀c,y'.s.has c->y.s.has c/\c≠D
 at_:∃(kk:Nat)(z:ag),y.s.cases[kk]?=Z (rcase D z)
theorem aho{P:aA}{K:au->Prop}{St:Loc->Prop}{B:Nat}{s:Seat}{c a:aH}(h:AtIn P Y K St B s c a)(b:af CommCase)(d:CommShape):Goes P Y (RK K) (DS St B) (λg _=>∃a,AtIn P Y K St B s g a) 0 {parked a b d with status:=.running} default:=λ_ _=>⟨a,h.tries _ _⟩
section
variable {P:aA}{St At:Nat->Loc->Prop}{V:Loc->Prop}{R Inb':Nat->aj YS}{B D k:Nat}{T:dJ}{X:af aH}{w:au}{q:Nat->Nat}{ls:ae Nat}{cw:Nat->Prop}
theorem ahn{K:au->Prop}{St:Loc->Prop}{B:Nat}{a:aH->Prop}{g:aH}{n:Nat}{w f:au}(h:Goes P b (RK K) (DS St B) (λg _=>a g) n g w):Goes P b (RK K) (DS St B) (λg _=>a g) n g f:=by
 cases n with
 |zero=>exactλd c=>h d c
 |succ n=>
  rcases h with h|⟨e,h⟩
  ·exact .inl λd c=>h d c
  ·exact .inr ⟨e,λd c=>h d c⟩
theorem fe.close(C:fe P St At V R 0 B T X w q){a a':aH}(ha:X[0]?=Z a)(AR:mayWake P a=U)(gq:a'.status=.running)(hD:w.heap[D]?=Z (.chan 0 #[] Y k k Y))(uO:D<B)(ε:∀g,¬St g (.obj D))(δ:¬V (.obj D))
  (h1:∀x,x∉ls->Inb' x=R x/\∀y,R x=Z y->¬y.s.has D)(h2:∀j∈ls,j≠0/\∃y d,R j=Z y/\Inb' j=Z d/\ac9 D y d):
  Dr P St At V Inb' (λx=>x∈ls) cw 0 B (T++db 0 a.frame.fn a.frame.place (closeEvents D)) ((X.map (eM P a a' (w.setChan D 0 #[] U k k Y))).setIfInBounds 0 a') (w.setChan D 0 #[] U k k Y) (λx=>if x∈ls then q x-1 else q x)/\
   ((X.map (eM P a a' (w.setChan D 0 #[] U k k Y))).setIfInBounds 0 a')[0]?=Z a'/\((X.map (eM P a a' (w.setChan D 0 #[] U k k Y))).setIfInBounds 0 a').size=X.size/\
   ∀j∈ls,∀y,R j=Z y->∃g,((X.map (eM P a a' (w.setChan D 0 #[] U k k Y))).setIfInBounds 0 a')[j]?=Z g/\g.status=.running/\Goes P Y (RK y.K) (DS y.St y.B) (λg _=>∃g₂,AtIn P Y y.K y.St y.B y.s g g₂) (q j-1) g default:=by
 have aE:0<X.size:=(gG.1 ha).1;generalize hW:w.setChan D 0 #[] U k k Y=W;have γ:W.heap[D]?=Z (.chan 0 #[] U k k Y):=by rw[<-hW];exact oE w hD _ _ _ _ _ _
 have jq:∀e∈closeEvents D,BN St V B e:=by
  intro e he;simp only[closeEvents,jA,bQ,gk,or_false]at he;rcases he with rfl|rfl
  ·refine⟨λx m=>?_,by simp,by simp,uO⟩
   simp only[gy,lS,ij]at m;subst m;exact⟨λg G=>absurd G (ε g),λG=>absurd G δ⟩
  ·exact⟨λx m=>by simp[gy,lS]at m,by simp,by simp,uO⟩
 obtain⟨N,hs,v,kN⟩:=Iu (i:=0) (fn:=a.frame.fn) (pos:=a.frame.place) jq;have jF:∀y,eM P a a' W y=y.again W:=by intro y;simp[eM,AR,gq]
 have WN:∀i y,R i=Z y->y.K W:=λi y e=>by rw[<-hW];exact(C.wf i y e).2.2.2 _ _ _ _ _ _ _ _ ⟨_,hD,F⟩ (C.keep i y e)
 have XG:∀i y c,R i=Z y->y.s.has c->c≠D->∃K,W.heap[c]?=Z (.chan 0 #[] Y K K Y):=λi y c e o L=>by
  obtain⟨K,bX⟩:=C.chans i y c e o;exact⟨K,by rw[<-hW,mM _ _ _ _ _ _ _ (λE=>L E.symm)];exact bX⟩
 have p:∀x d,Inb' x=Z d->∃y,R x=Z y/\d.K=y.K/\d.St=y.St/\d.B=y.B/\d.own=y.own/\d.s.Wf/\d.s.has d.own/\∀c,d.s.has c->y.s.has c/\c≠D:=λx d e=>by
  by_cases m:x∈ls
  ·obtain⟨_,y,y2,f,r,S⟩:=h2 x m
   rw[e]at r;cases r;exact⟨y,f,S.K,S.St,S.B,S.own,S.wf,S.has,S.sub⟩
  ·obtain⟨f,hn⟩:=h1 x m
   rw[e]at f;exact⟨d,f.symm,F,F,F,F,(C.wf x d f.symm).1,(C.wf x d f.symm).2.1,λc o=>⟨o,λE=>hn d f.symm (E▸o)⟩⟩
 have L:∀x,Inb' x≠I->R x≠I:=λx m=>by
  cases e:Inb' x with
  |none=>exact absurd e m
  |some d=>obtain⟨y,f,_⟩:=p x d e;rw[f];simp
 have jw:((X.map (eM P a a' W)).setIfInBounds 0 a')[0]?=Z a':=kC (by simpa using aE);have M:((X.map (eM P a a' W)).setIfInBounds 0 a').size=X.size:=by simp
 have ja:∀x,x≠0->x∉ls->((X.map (eM P a a' W)).setIfInBounds 0 a')[x]?=X[x]?:=λx m v=>by
  rw[ie (λe=>m e.symm),yJ];cases e:X[x]? with
  |none=>rfl
  |some Q=>
   rw[iy,jF];have n:=C.idle x Q m e;cases es:R x with
   |none=>rw[es]at n;rw[again_of_running n.2.status]
   |some y=>
    rw[es]at n;rw[Sits.again (WN x y es) n (C.wf x y es).1 λc o=>by obtain⟨K,bX⟩:=XG x y c es o (λE=>(h1 x v).2 y es (E▸o));exact⟨_,_,_,_,_,bX⟩]
 have H:∀j∈ls,∀y,R j=Z y->∃g,((X.map (eM P a a' W)).setIfInBounds 0 a')[j]?=Z g/\g.status=.running/\Goes P Y (RK y.K) (DS y.St y.B) (λg _=>∃g₂,AtIn P Y y.K y.St y.B y.s g g₂) (q j-1) g default:=λj u y hy=>by
  obtain⟨tn,y1,y2,f,r,S⟩:=h2 j u;rw[hy]at f;cases f;have Xv:=C.lt j (by rw[hy];simp);obtain⟨t,wi⟩:∃t,X[j]?=Z t:=⟨X[j]'Xv,wZ Xv⟩
  have n:=C.idle j t tn wi;rw[hy]at n;have n:Sits P (j==0) y.K y.St y.B y.s (q j) t:=n;have β:(j==0)=Y:=by simp[tn]
  have lL:((X.map (eM P a a' W)).setIfInBounds 0 a')[j]?=Z (t.again W):=by
   rw[ie (λe=>tn e.symm),yJ,wi,iy,jF]
  rw[β]at n;rcases n with⟨kk,w₀,hq,hG⟩|⟨hq,g₀,g₂,rfl,cH⟩
  ·have hr:t.status=.running:=(Sits.status (C.keep j y hy) (.inl ⟨kk,w₀,hq,hG⟩)).elim (·.1) λz=>by omega
   refine⟨t,by rw[lL,Ag W (.inl hr)],hr,?_⟩;rw[hq];exact ahn hG
  ·obtain⟨kk,z,hk⟩:=S.at_
   refine⟨_,by rw[lL,again_some_closed hk γ],F,?_⟩;rw[hq];exact aho cH _ _
 refine⟨⟨⟨λx Q m fV=>?_,λi d c e o=>?_,λi d e=>?_,λi i' y1 y2 f r hh=>?_,λj u=>?_,λi J=>by rw[M];exact C.lt i (L i J),λi d e=>?_,λi J=>J.imp (·.1) (λh=>.inl h.1),λi d J e=>⟨λz=>J (.inl z),.inl (by rw[e];simp)⟩,?_,λi d e=>?_,λi d l e v=>?_,λj l u=>C.fresh j l (by rw[M]at u;exact u)⟩,?_,λi b hb hw G=>?_,λx Q m hb h=>?_⟩,jw,M,H⟩
 ·have mU:x≠0:=λz=>m (.inl z)
  have Ew:x∉ls:=λz=>m (.inr z);rw[ja x mU Ew]at fV;rw[(h1 x Ew).1,if_neg Ew];have n:=C.idle x Q mU fV;cases es:R x with
  |none=>rw[es]at n;exact⟨n.1,by rw[mX T (λz=>mU z.symm) _ N];exact n.2⟩
  |some s=>rw[es]at n;exact n
 ·obtain⟨y,f,_,_,_,_,_,_,cv⟩:=p i d e
  obtain⟨gM,Ea⟩:=cv c o;exact XG i y c f gM Ea
 ·obtain⟨y,f,O,f2,f3,f4,f5,f6,_⟩:=p i d e
  have a8:=(C.wf i y f).2.2;refine⟨f5,f6,?_⟩;unfold YS.HL;rw[O];exact a8
 ·obtain⟨z1,g1,_,_,_,f4,_,_,_⟩:=p i y1 f
  obtain⟨z2,g2,_,_,_,_,_,_,s2⟩:=p i' y2 r;rw[f4]at hh;exact C.inj i i' z1 z2 g1 g2 (s2 _ hh).1
 ·rw[M]at u
  rw[mX T (g':=0) ai _ N];exact C.above j u
 ·obtain⟨y,f,O,f2,f3,f4,f5,f6,s2⟩:=p i d e
  obtain⟨m1,m2,m3⟩:=C.mem i y f;exact⟨by by_cases h0:i=0;exact .inl (.inl h0);exact .inr (.inl ⟨by rw[e];simp,h0⟩),λc o=>m2 c (s2 c o).1,by rw[f3];exact m3⟩
 ·refine((BO C.past N hs (λ_=>kN T) v).fewer λg A=>A.imp (λh=>L g h.1) (·.1)).loosen λg A=>⟨A.1,.inl ?_⟩
  by_cases m:g∈ls
  ·obtain⟨_,y,y2,_,r,_⟩:=h2 g m
   rw[r];simp
  ·rw[(h1 g m).1];exact A.2
 ·obtain⟨y,f,O,_⟩:=p i d e
  rw[O];exact WN i y f
 ·obtain⟨y,f,_,f2,_⟩:=p i d e
  rw[f2]at v;exact C.places i y l f v
 ·rw[kN T];exact C.past.hears 0 (.inr F)
 ·exact(BO C.past N hs (λ_=>kN T) v).wrote i b hb hw 0 (.inr F) G
 ·obtain⟨_,y,d,f,_,_⟩:=h2 x hb
  obtain⟨g,A,hr,_⟩:=H x hb y f;rw[A]at h;cases h;exact hr
end
end
section
open Go.ConcN (sumTo upd sumTo_upd upd_ne upd_same)
noncomputable def SG:af bh:=match oQ with
 |.seq (.seq _ (.cond _ (.seq _ (.region _ a _)) _)) _=>a
 |_=>#[]
noncomputable def Bw:af bh:=match oQ with
 |.seq _ (.region _ a _)=>a
 |_=>#[]
noncomputable def Vd:bl:=match oQ with
 |.seq _ c=>c
 |_=>.skip
def Bi(s:cz):ae (Nat×ag):=if s.st then [(9,ptr s.S 0),(10,ptr s.S 0),(11,ptr s.S 13),(12,.bool U),(13,.bool Y),(21,ptr s.S 0),(22,ptr s.S 0),(23,ptr s.S 11)]
 else [(9,ptr s.S 0),(10,ptr s.S 0),(11,ptr s.S 13),(12,.bool Y),(13,.bool U),(14,ptr s.S 0),(15,ptr s.S 0),(16,ptr s.S 13),(17,ptr s.S 0),(18,ptr s.S 0),(19,ptr s.S 10),(20,ay s.D),(21,ptr s.S 0),(22,ptr s.S 0),(23,ptr s.S 11)]
def x30(S D:Nat):ae (Nat×ag):=[(9,ptr S 0),(10,ptr S 0),(11,ptr S 13),(12,.bool Y),(13,.bool U),(14,ptr S 0),(15,ptr S 0),(16,ptr S 13),(17,ptr S 0),(18,ptr S 0),(19,ptr S 10),(20,ay D)]
noncomputable abbrev uD(g:Nat->ag)(l:ae ag)(S D:Nat)(a:ae Nat)(k:ae aK)(T:ae bV)(X:dD):az:=⟨30,bO 25 (ov (cN g (ptr S 0)) (x30 S D)) l,.inRegion SG a::.code Vd::k,T,.run,X,I⟩
section
variable (g:Nat->ag)(l:ae ag)(k:ae aK)(T:ae bV)(X:dD)(V:X=.normal\/X=.deferred)(R:ae az)(S n D:Nat)
include V
theorem ZY:(om ak (G (lD (cN g (ptr S 0)) l (.code oQ::k) T X) R)).isSome=U:=by
 rcases V with rfl|rfl<;>kernel_rfl
theorem ZZ(b:Bool):(stage ak fI (.bool b) (aN ak 1 (G (lD (cN g (ptr S 0)) l (.code oQ::k) T X) R))).map (λr=>r.2)=Z (.bool b,[.ev ⟨.cell (be S 13),Y,Y⟩]):=by
 rcases V with rfl|rfl<;>kernel_rfl
theorem aqC:(stage ak fI (.bool Y) (gT ak fI (.bool Y) (aN ak 1 (G (lD (cN g (ptr S 0)) l (.code oQ::k) T X) R)))).map (λr=>r.2)=Z (.bool U,[.ev ⟨.cell (be S 13),U,Y⟩]):=by
 rcases V with rfl|rfl<;>kernel_rfl
theorem aqz:(stage ak fI (ay D) (gT ak fI (.bool Y) (gT ak fI (.bool Y) (aN ak 1 (G (lD (cN g (ptr S 0)) l (.code oQ::k) T X) R))))).map (λr=>r.2)=Z (ay D,[.ev ⟨.cell (be S 10),Y,Y⟩]):=by
 rcases V with rfl|rfl<;>kernel_rfl
theorem aqy:gW 0 (wW ak (gT ak fI (.bool Y) (aN ak 1 (G (lD (cN g (ptr S 0)) l (.code oQ::k) T X) R))) [.ev ⟨.cell (be S 13),U,Y⟩])=0:=by
 rcases V with rfl|rfl<;>kernel_rfl
theorem aqx:gT ak fI (ay D) (gT ak fI (.bool Y) (gT ak fI (.bool Y) (aN ak 1 (G (lD (cN g (ptr S 0)) l (.code oQ::k) T X) R))))=G (uD g l S D [4] k T X) R:=by
 rcases V with rfl|rfl<;>kernel_rfl
theorem aqF:mayWake ak (G (uD g l S D [4] k T X) R)=U:=by
 rcases V with rfl|rfl<;>kernel_rfl
theorem aqB{w:au}{m r:Nat}(d:w.heap[D]?=Z (.chan 0 #[] Y m r Y)):aG ak U (G (uD g l S D [4] k T X) R) w=.go (G (uD g l S D [] k T X) R) (w.setChan D 0 #[] U m r Y) (closeEvents D):=by
 have c:X≠.early:=by rcases V with rfl|rfl<;>simp
 exact stepG_close (P:=ak) (main:=U) (b:=⟨30,#[],[],[],.run,X,I⟩) (a:=⟨bO 25 (ov (cN g (ptr S 0)) (x30 S D)) l,T⟩) (kk:=.code Vd::k) (cs:=R) (ops:=SG) (i:=4) (rest:=[]) (o:=SG.getD 4 default) (x:=tm 20) (ats:=#[100]) av av c av av d av
theorem aqD:aN ak 6 (G (uD g l S D [] k T X) R)=G (bG ak 46 #[ptr S 11] .normal) (K5 30 (bO 25 (ov (cN g (ptr S 0)) (Bi ⟨S,D,n,Y⟩)) l) 3 Bw [] k T X I::R):=by
 rcases V with rfl|rfl<;>kernel_rfl
theorem aqE:aN ak 9 (gT ak fI (.bool U) (aN ak 1 (G (lD (cN g (ptr S 0)) l (.code oQ::k) T X) R)))=G (bG ak 46 #[ptr S 11] .normal) (K5 30 (bO 25 (ov (cN g (ptr S 0)) (Bi ⟨S,D,n,U⟩)) l) 3 Bw [] k T X I::R):=by
 rcases V with rfl|rfl<;>kernel_rfl
theorem aqA(a:Bool):aN ak 1 (Gg 30 (bO 25 (ov (cN g (ptr S 0)) (Bi ⟨S,D,n,a⟩)) l) 3 Bw [] k T X I R)=G (lD (ov (cN g (ptr S 0)) (yp ⟨S,D,n,a⟩)) l k T X) R:=by
 cases a<;>rcases V with rfl|rfl<;>kernel_rfl
end
theorem eC.cat{w:au}{v:ag}(h:eC w a v fI):eN w a v:=⟨h.cell,h.free,h.shape⟩
theorem TQ(n:Nat):jI n=cK n 0:=by simp[jI,cK]
def nW(O:ae dp)(S:Nat):ae Nat:=(O.filter λk=>k.S==S).map (·.g)
theorem F5{O:ae dp}{S x:Nat}:x∈nW O S↔∃k∈O,k.S=S/\k.g=x:=by
 unfold nW;rw[ox];constructor
 ·rintro⟨k,V,e⟩
  obtain⟨a,b⟩:=List.mem_filter.1 V;exact⟨k,a,by simpa using b,e⟩
 ·rintro⟨k,a,b,e⟩
  exact⟨k,List.mem_filter.2 ⟨a,by simpa using b⟩,e⟩
theorem Zn{α β:Type}(f:α->β):∀{l:ae α},l.Nodup->(∀a∈l,∀b∈l,f a=f b->a=b)->(l.map f).Nodup
 |[],_,_=>List.nodup_nil
 |a::l,h,d=>by
  rw[rb]at h;rw[ft,rb];refine⟨λi=>?_,Zn f h.2 λx j y m=>d x (by simp[j]) y (by simp[m])⟩;obtain⟨b,c,e⟩:=ox.1 i;exact h.1 (d a aZ b (by simp[c]) e.symm▸c)
def oneOf(y:YS):YS:={y with s:=Seat.one y.own .nilFunc U (λ_=>True)}
section
variable {N:Loc->Prop}{H At:Nat->Loc->Prop}{M:Loc->Prop}{J:Nat->aj YS}{O:ae dp}{K:ae cz}{B n:Nat}{w W:au}{Q:cz}
theorem ae1(L:fL N U O K w W)(a:Q∈K):(nW O Q.S).length=Q.n:=by
 unfold nW;rw[iV];exact L.count Q a
theorem ae2(L:fL N U O K w W):(nW O Q.S).Nodup:=Zn _ (L.nodup.filter _) λa c b d e=>L.zE a (List.mem_filter.1 c).1 b (List.mem_filter.1 d).1 e
theorem Vp(C:Core N H At M J O K I B n w W)(c:Q∈K)(o:Q.st=Y){j:Nat}(r:j∈nW O Q.S):∃k∈O,k.S=Q.S/\k.g=j/\k.D=Q.D/\k.W≠k.D/\∃a,J j=Z (wY k a):=by
 obtain⟨k,V,b,f⟩:=F5.1 r;obtain⟨a,q,_⟩:=C.yr k V Q c b.symm o;have l:=C.fo.k k V;obtain⟨m,d,p,h⟩:=l.pF;have s:=C.fo.ua m d Q c (p.trans b);subst s;obtain⟨_,_,i⟩:=l.work;obtain⟨_,_,t⟩:=(C.fo.s m d).lone;refine⟨k,V,b,f,h.symm,λe=>?_,a,f▸q⟩;rw[e,<-h,t]at i;cases i
theorem ae3(C:Core N H At M J O K I B n w W)(a:Q∈K){x:Nat}{y:YS}(q:x∉nW O Q.S)(r:J x=Z y):¬y.s.has Q.D:=λo=>by
 obtain⟨k,V,s,p,i,v,j,f,rfl⟩:=C.Bn r;have l:=C.fo.k k V;obtain⟨e,b,c,m⟩:=l.pF;have u:=C.fo.ua e b s p (c.trans i.symm);subst u;rcases(zZ k f).1 o with h|h
 ·obtain⟨_,_,d⟩:=l.work
  obtain⟨_,_,t⟩:=(C.fo.s Q a).lone;rw[<-h,t]at d;cases d
 ·have:=C.fo.x9 Q a e b (h.trans m.symm)
  subst this;exact q (F5.2 ⟨k,V,c.symm,j⟩)
end
end
section
open Go.ConcN (sumTo upd sumTo_upd upd_ne upd_same)
section
variable {M:Loc->Prop}{Q At:Nat->Loc->Prop}{R:Loc->Prop}{O:Nat->aj YS}{J:ae dp}{K:ae cz}{B n:Nat}{w W:au}{so:cz}
theorem Core.ag1(C:Core M Q At R O J K I B n w W):Gate Q O (·=be so.S 13):=by
 refine⟨λb j g m=>?_,λb j i y p w v c=>?_⟩
 ·obtain⟨_,a,e,h⟩:=C.qW g _ m
  subst j;cases e;simp only at h;omega
 ·obtain⟨k,_,_,_,_,_,_,q,rfl⟩:=C.Bn p
  have c:wK k w:=c;have d:∀x o,(o=0\/o=1\/o=10)->b≠be x o:=λx o r e=>by
   subst j;cases e;omega
  have f:b.spot=I:=by subst j;rfl
  exact(⟨sB c.work (d _ _ (.inl F)) f,sB c.told (d _ _ (.inr (.inl F))) f,sB c.store (d _ _ (.inl F)) f,sB c.done (d _ _ (.inr (.inr F))) f⟩:wK k (w.setCell b v))
def KP(W:au)(so:cz)(a:au):Prop:=(so.st=U/\a=W)\/(so.st=Y/\∃k,W.heap[so.D]?=Z (.chan 0 #[] Y k k Y)/\a=(W.setCell (be so.S 13) (.bool U)).setChan so.D 0 #[] U k k Y)
theorem Zl(S:Nat)(T:dJ):FN S T.size T:=λk x b a=>absurd (HB a) ai
theorem YH.dr0{P:aA}{c:af aH}{q:Nat->Nat}{d:Nat}{b:Nat->Prop}(C:YH P Q At R O 0 d B T c W q)(i:∀x,¬b x)(f:Nat->Prop):Dr P Q At R O b f d B T c W q:=⟨⟨λx g a j=>C.yd.idle x g (λz=>a (.inl z)) j,C.yd.chans,C.yd.wf,C.yd.inj,C.yd.above,C.yd.lt,λx y e=>⟨(C.yd.mem x y e).1.imp .inl id,(C.yd.mem x y e).2⟩,λx a=>(C.yd.nomem x a).imp id .inl,λx y a e=>⟨λz=>a (.inl z),.inl (by rw[e];simp)⟩,C.yd.past.loosen λg h=>⟨h.1,.inl h.2⟩,C.yd.keep,C.yd.places,C.yd.fresh⟩,C.deaf,C.wrote,λx _ _ a=>absurd a (i x)⟩
end
structure KQ(s:dM)(so:cz)(fr:az):Prop where ex:∃N bD w' jG T' q' eQ W0,iz ak N s.m s.T=(.next (crowd bD w' jG),T')/\bD.size=s.gs.size/\bD[0]?=Z (G fr s.cs)/\fe ak s.St s.At s.Shun eQ 0 s.B T' bD w' q'/\KP s.W so W0/\rp so.S W0 (cK 0 0) (jH 0) w'/\(∀k∈s.ws,k.S=so.S->eQ k.g=I)/\(∀x,(∀k∈s.ws,k.S=so.S->k.g≠x)->eQ x=s.ax x)/\∀x,eQ x=I\/eQ x=s.ax x
section
variable {s:dM}{so:cz}{g:Nat->ag}{l:ae ag}{k:ae aK}{V:ae bV}{X:dD}
theorem abJ(j:X=.normal\/X=.deferred){m:fg}(hm:∃N,iz ak N s.m s.T=(.next m,T)){a:Nat->aj YS}{c W0:au}{dd:Nat}(d:c=W0.at dd)(E:KP s.W so W0)
  (H:Kr ak s.St s.At s.Shun so.S s.B (Gg 30 (bO 25 (ov (cN g (ptr so.S 0)) (Bi so)) l) 3 Bw [] k V X I s.cs) a c s.gs.size m T)
  (L:∀k∈s.ws,k.S=so.S->a k.g=I)(P:∀x,(∀k∈s.ws,k.S=so.S->k.g≠x)->a x=s.ax x)(S:∀x,a x=I\/a x=s.ax x):KQ s so (lD (ov (cN g (ptr so.S 0)) (yp so)) l k V X):=by
 obtain⟨N,bD,w',jG,T',q',p,q,r,t,u⟩:=H;obtain⟨f,tf⟩:=hm;subst d;have b:aN ak 1 (Gg 30 (bO 25 (ov (cN g (ptr so.S 0)) (Bi so)) l) 3 Bw [] k V X I s.cs)=G (lD (ov (cN g (ptr so.S 0)) (yp so)) l k V X) s.cs:=aqA g l k V X j s.cs so.S so.n so.D so.st;have e:=(dw.begin (sl:=jG) t r).quiet 1 b;obtain⟨h,iZ,w2,jx,i,q2,d2,a2,v,y,z,A,rfl,C,D⟩:=e;subst C;exact⟨⟨f+N+h,iZ,w2,jx,i,q2,a,W0,kG (kG tf p) v,y.trans q,z,A.wX,E,by
  obtain⟨d5,rfl⟩:=u;obtain⟨o,rfl⟩:=D;exact⟨o,F⟩,L,P,S⟩⟩
theorem awl(b:Base s)(h0:s.h=0)(hj:s.dG=I)(m:so∈s.ss)(j:so.st=U)(o:X=.normal\/X=.deferred)(z:s.fr=lD (cN g (ptr so.S 0)) l (.code oQ::k) V X):KQ s so (lD (ov (cN g (ptr so.S 0)) (yp so)) l k V X):=by
 have C:=b.core;rw[hj]at C;have L:=C.fo;have f:=L.s so m;have v:so.S<s.B:=by
  have h1:=vt f.sh.2;have h2:=C.low;omega
 have cH:eC s.W (be so.S 13) (.bool so.st) fI:=f.at C.rel f.stop;obtain⟨m0,T0,hm,H,_⟩:=b.begin (by rw[z];exact ZY g l k V X o s.cs so.S);rw[z]at H;have y:=H.read (C.qc ai ai) v cH (BA (ZZ g l k V X o s.cs so.S so.st));rw[j]at y;obtain⟨N,D,w,sl,p,q,d,a,f1,f2,A,r,f5,f6,c,f7⟩:=y;subst f5 f6 f7;rw[h0]at A r;have T:=f.at C.rel f.cnt;rw[j]at T;have E:eN (s.W.at c) (dA so.S) (cK 0 0):=by rw[<-TQ];exact T.cat.at c
 have G:eN (s.W.at c) (dB so.S) (jH 0):=(f.at C.rel f.qi).cat.at c;obtain⟨P,t⟩:=f.real;rw[j]at t;have uO:so.D<s.B:=by have:=cZ t;have:=C.low;omega
 have th:=r.wX.past.apart;have nI:s.Shun (.cell (dA so.S)):=(C.mI _).2 ⟨so,m,.inl F⟩;have oK:s.Shun (.cell (dB so.S)):=(C.mI _).2 ⟨so,m,.inr F⟩;obtain⟨n,hn⟩:=yG 9 _ (by rw[aqE g l k V X o s.cs so.S so.n so.D];exact ack (Shun:=s.Shun) (S:=so.S) (B:=s.B) (fn:=30) (tmps:=bO 25 (ov (cN g (ptr so.S 0)) (Bi ⟨so.S,so.D,so.n,U⟩)) l) (i:=3) (ops:=Bw) (l:=[]) (td:=k) (ds:=V) (kind:=X) (ro:=I) (cs:=s.cs) v);have u:(s.W.at c).heap[so.D]?=Z (.chan 0 #[] U P P Y):=t;have AJ:kH ak s.St s.At s.Shun so.S so.D s.B (Gg 30 (bO 25 (ov (cN g (ptr so.S 0)) (Bi ⟨so.S,so.D,so.n,U⟩)) l) 3 Bw [] k V X I s.cs) s.ax (s.W.at c) (λ_=>False) p.size [] [] I 0 0 11 0 s.ax p D (s.W.at c) (upd q 0 n):=by
  refine⟨(r.dr0 aZ _).q0 n,by simp,by simp,⟨_,A,?_⟩,by simp,by simp,by simp,by simp,by simp,ab8 E G,C.Py th m,Zl _ _,df _,by simp,λ_ h=>h.elim,λ_ h=>h.elim⟩;rw[upd_same];exact .a 9 aZ hn
 have x:=drain E G u uO v nI oK _ _ [] [] I 0 0 11 0 s.ax p D (s.W.at c) (upd q 0 n) sl F F AJ;rw[f2]at x;obtain⟨N0,tf⟩:=hm;have I3:∀k∈s.ws,k.S=so.S->s.ax k.g=I:=λk hk e=>C.gone k hk so m e.symm j;have e5:so=⟨so.S,so.D,so.n,U⟩:=by cases so;cases j;rfl
 rw[<-e5]at x;exact abJ (W0:=s.W) (dd:=c) o ⟨N0+N,kG tf f1⟩ F (.inl ⟨j,F⟩) x I3 (λ_ _=>rfl) λ_=>.inr F
theorem awh(b:Base s)(h0:s.h=0)(hj:s.dG=I)(cY:so∈s.ss)(aF:so.st=Y)(D:X=.normal\/X=.deferred)(e3:s.fr=lD (cN g (ptr so.S 0)) l (.code oQ::k) V X):KQ s so (lD (ov (cN g (ptr so.S 0)) (yp so)) l k V X):=by
 have C:=b.core;rw[hj]at C;have L:=C.fo;have t:=L.s so cY;have E:so.S<s.B:=by
  have h1:=vt t.sh.2;have h2:=C.low;omega
 have cH:eC s.W (be so.S 13) (.bool Y) fI:=by rw[<-aF];exact t.at C.rel t.stop
 obtain⟨m0,T0,⟨N0,tf⟩,H,_⟩:=b.begin (by rw[e3];exact ZY g l k V X D s.cs so.S);rw[e3]at H;have H1:=H.read (C.qc ai ai) E cH (BA (ZZ g l k V X D s.cs so.S Y));have γ:ji ak s.St s.At s.Shun s.ax s.h s.B s.gs.size (be so.S 13) s.W m0 T0 0 (.bool Y) (gT ak fI (.bool Y) (aN ak 1 (G (lD (cN g (ptr so.S 0)) l (.code oQ::k) V X) s.cs))):=by
  show dw ak s.St s.At s.Shun s.ax s.h s.B s.gs.size (s.W.setCell (be so.S 13) (.bool Y)) m0 T0 0 (·=_);rw[wR cH.cell];exact H1
 have H2:dw ak s.St s.At s.Shun s.ax s.h s.B s.gs.size (s.W.setCell (be so.S 13) (.bool U)) m0 T0 0 (·=gT ak fI (.bool Y) (gT ak fI (.bool Y) (aN ak 1 (G (lD (cN g (ptr so.S 0)) l (.code oQ::k) V X) s.cs)))):=ji.stage γ cH (C.ag1 (so:=so)) F (v':=.bool U) (aqC g l k V X D s.cs so.S) (by simp[eH]) (by simp only[dc,bQ,gk,or_false];rintro e rfl;exact⟨F,.inr (C.qc ai ai),E⟩) (aqy g l k V X D s.cs so.S);have ζ:eC (s.W.setCell (be so.S 13) (.bool U)) (be so.S 10) (ay so.D) fI:=sB (t.at C.rel t.done) (by simp[be]) F;have H3:=H2.read (C.qc ai ai) E ζ (BA (aqz g l k V X D s.cs so.S so.D));rw[aqx g l k V X D s.cs so.S so.D]at H3;obtain⟨N,gs,w,sl,T2,q,d,a,f1,f2,f3,f4,f5,f6,dd,f7⟩:=H3;subst f5 f6 f7;rw[h0]at f3 f4;obtain⟨N1,m1,T1,mr,d1,jP,q1,p1,p2,p3,p4,p5,_⟩:=f4.wX.ready _ T2 gs _ q sl F _ f3 F;obtain⟨A,hD⟩:=t.real;rw[aF]at hD;have ε:s.W.cell? (be so.S 13)=Z (.bool Y):=cH.cell;have LR:(((s.W.setCell (be so.S 13) (.bool U)).at dd).at d1).heap[so.D]?=Z (.chan 0 #[] Y A A Y):=by
  show(s.W.setCell (be so.S 13) (.bool U)).heap[so.D]?=_;rw[zb ε hD];exact hD
 have uO:so.D<s.B:=by have:=cZ hD;have:=C.low;omega
 have gR:=aqB g l k V X D s.cs so.S so.D LR;have aQ:=vJ (P:=ak) (sl:=jP) p4 gR;have th:=p5.past.apart;have dI:=p5.close (cw:=λx=>x∈nW s.ws so.S) (Inb':=λx=>if x∈nW s.ws so.S then(s.ax x).map oneOf else s.ax x) (ls:=nW s.ws so.S) p4 (aqF g l k V X D s.cs so.S so.D) (a':=G (uD g l so.S so.D [] k V X) s.cs) F LR uO (λg E=>by obtain⟨_,a,e,_⟩:=C.qW g _ E;cases e) (λE=>by obtain⟨_,_,e⟩:=(C.mI _).1 E;rcases e with e|e<;>cases e)
  (λx m=>⟨if_neg m,λy hy=>ae3 C cY m hy⟩) (λj o=>by
    obtain⟨f,p,e1,u,e3,e4,T,e5⟩:=Vp C cY aF o;refine⟨by rw[<-u];exact(C.g0 f p).1,wY f T,oneOf (wY f T),e5,by simp only[if_pos o,e5,iy],F,F,F,F,Seat.one_wf _ _ _ _,Seat.one_has.2 F,λc hc=>?_,1,.agg #[],by rw[<-e3];rfl⟩;have hc:=Seat.one_has.1 hc;have hc:c=f.W:=hc;subst hc;exact⟨(zZ f T).2 (.inl F),by rw[<-e3];exact e4⟩)
 generalize Bc:(((s.W.setCell (be so.S 13) (.bool U)).at dd).at d1).setChan so.D 0 #[] U A A Y=w0 at dI aQ;generalize ι:(mr.map (eM ak (G (uD g l so.S so.D [4] k V X) s.cs) (G (uD g l so.S so.D [] k V X) s.cs) w0)).setIfInBounds 0 (G (uD g l so.S so.D [] k V X) s.cs)=iZ at dI aQ;obtain⟨AJ,iu,bH,θ⟩:=dI;have IL:∀{i:Nat}{v:ag},i≠13->eC s.W (be so.S i) v fI->eN w0 (be so.S i) v:=λ{i v}hi h=>by
  have h1:=sB (x:=.bool U) h (a:=be so.S 13) (by intro e;cases e;exact hi F) F;have h2:=F2 (c:=so.D) (cap:=0) (s:=A) (r:=A) (buf:=#[]) (cl:=U) (tm:=Y) ((h1.at ⟨dd,F⟩).at ⟨d1,F⟩) ⟨_,LR,F⟩;rw[Bc]at h2;exact h2.cat
 have hn:=ae1 L cY;have tT:=t.at C.rel t.cnt;rw[aF]at tT;have hA:eN w0 (dA so.S) (cK so.n 0):=by rw[<-TQ];exact IL (i:=11) ai tT
 have hB:eN w0 (dB so.S) (jH 0):=IL (i:=12) ai (t.at C.rel t.qi);have B9:w0.heap[so.D]?=Z (.chan 0 #[] U A A Y):=by rw[<-Bc];exact oE _ LR _ _ _ _ _ _
 have nI:s.Shun (.cell (dA so.S)):=(C.mI _).2 ⟨so,cY,.inl F⟩;have oK:s.Shun (.cell (dB so.S)):=(C.mI _).2 ⟨so,cY,.inr F⟩;obtain⟨n,MH⟩:=yG 6 _ (by rw[aqD g l k V X D s.cs so.S so.n so.D];exact ack (Shun:=s.Shun) (S:=so.S) (B:=s.B) (fn:=30) (tmps:=bO 25 (ov (cN g (ptr so.S 0)) (Bi ⟨so.S,so.D,so.n,Y⟩)) l) (i:=3) (ops:=Bw) (l:=[]) (td:=k) (ds:=V) (kind:=X) (ro:=I) (cs:=s.cs) E);have δ:kH ak s.St s.At s.Shun so.S so.D s.B (Gg 30 (bO 25 (ov (cN g (ptr so.S 0)) (Bi ⟨so.S,so.D,so.n,Y⟩)) l) 3 Bw [] k V X I s.cs) (λx=>if x∈nW s.ws so.S then I else s.ax x) w0 (λx=>x∈nW s.ws so.S) (T1++db 0 (G (uD g l so.S so.D [4] k V X) s.cs).frame.fn (G (uD g l so.S so.D [4] k V X) s.cs).frame.place (closeEvents so.D)).size (nW s.ws so.S) [] I 0 0 11 0 (λx=>if x∈nW s.ws so.S then(s.ax x).map oneOf else s.ax x) (T1++db 0 (G (uD g l so.S so.D [4] k V X) s.cs).frame.fn (G (uD g l so.S so.D [4] k V X) s.cs).frame.place (closeEvents so.D)) iZ w0 (upd (λx=>if x∈nW s.ws so.S then q1 x-1 else q1 x) 0 n):=by
  refine⟨(AJ.bz (y9:=λx=>x∈nW s.ws so.S\/x∈([]:ae Nat)\/I=Z x) λx=>by simp).q0 n,λj o=>?_,by simp,⟨_,iu,?_⟩,by simpa using ae2 L,by simp,λj o=>?_,?_,λx=>?_,?_,?_,Zl _ _,df _,by simp,λj o=>⟨?_,λh=>absurd o h⟩,λj h1 h2=>absurd h1 h2⟩
  ·obtain⟨f,p,e1,u,e3,e4,T,e5⟩:=Vp C cY aF o
   obtain⟨gj,q2,q3,q4⟩:=θ j o _ e5;have tn:j≠0:=by rw[<-u];exact(C.g0 f p).1
   obtain⟨s',kk,z,r1,r2,r3,r4,r5⟩:=anf (y:=oneOf (wY f T)) (g:=gj) (n:=q1 j-1) (B0:=T) f e4 F F F F q3 q4;refine⟨gj,q2,oneOf (wY f T),s',kk,z,by simp only[if_pos o,e5,iy],q3,r1,by rw[<-e3];exact r2,λc hc aD=>r3 c hc (by rw[e3];exact aD),?_,by rw[<-e1];exact r5⟩;rw[upd_ne _ _ tn,if_pos o];exact r4
  ·rw[upd_same]
   exact .a 9 (by rw[hn];simpa using t.le) MH
  ·have o:j∈nW s.ws so.S:=by simpa using o
   obtain⟨f,p,e1,u⟩:=F5.1 o;refine⟨by rw[<-u];exact(C.g0 f p).1,?_,?_⟩
   ·rw[<-u,<-e1];exact C.y8 f p _ (.inl F)
   ·rw[<-u,<-e1];exact C.y8 f p _ (.inr F)
  ·rw[hn];simpa using t.le
  ·by_cases m:x∈nW s.ws so.S
   ·rw[if_pos m,if_pos m]
   ·rw[if_neg m,if_neg m,if_neg m]
  ·have β:(nW s.ws so.S).length+([]:ae Nat).length=so.n:=by simp[hn]
   rw[β];exact ab8 hA hB
  ·have G0:=C.Py th cY
   refine⟨G0.out,λb hb i y hi=>?_⟩;by_cases m:i∈nW s.ws so.S
   ·simp only[if_pos m]at hi
    obtain⟨y0,h1,rfl⟩:=gV.1 hi;exact G0.keep b hb i y0 h1
   ·simp only[if_neg m]at hi
    exact G0.keep b hb i y hi
  ·obtain⟨f,p,e1,u⟩:=F5.1 o
   rw[<-u];exact(C.g0 f p).1
 have kv:=drain hA hB B9 uO E nI oK _ _ _ [] I 0 0 11 0 _ _ iZ w0 _ jP F F δ;rw[bH,p3,f2]at kv;have e5:so=⟨so.S,so.D,so.n,Y⟩:=by cases so;cases aF;rfl
 rw[<-e5]at kv;have η:w0=((s.W.setCell (be so.S 13) (.bool U)).setChan so.D 0 #[] U A A Y).at d1:=Bc.symm
 exact abJ (dd:=d1) D ⟨N0+N+N1+1,runNT_succ_of (kG (kG tf f1) p1) (by rw[p2,aQ])⟩ η (.inr ⟨aF,A,hD,F⟩) kv (λf p e=>if_pos (F5.2 ⟨f,p,e,F⟩)) (λx m=>if_neg λhm=>by obtain⟨f,p,e1,u⟩:=F5.1 hm;exact m f p e1 u) λx=>by
                                                                                                            by_cases m:x∈nW s.ws so.S
                                                                                                            ·exact .inl (if_pos m)
                                                                                                            ·exact .inr (if_neg m)
end
end
section
variable {Hid:Loc->Prop}{X:Bool}{T:ae dp}{V:ae cz}{w W W0:au}{so:cz}
structure acY(Hid:Loc->Prop)(w W W0:au)(so:cz):Prop where
 SJ:∃k,W0.heap[so.D]?=Z (.chan 0 #[] U k k Y)
 B2:∀(b:Nat)cl j,b≠so.D->W.heap[b]?=Z (.chan 0 #[] cl j j Y)->W0.heap[b]?=Z (.chan 0 #[] cl j j Y)
 qw:∀(b:Nat)c t f,b≠so.S->W.heap[b]?=Z (.cells c t f)->W0.heap[b]?=Z (.cells c t f)
 cnt:∀i v,W.cell? (be so.S i)=Z v->W0.cell? (be so.S i)=Z (if i=13 then .bool U else v)
 sh:W0.shape? so.S=W.shape? so.S
 size:W0.heap.size=W.heap.size
 shp:∀b:Nat,W0.shape? b=W.shape? b
 other:∀b:Nat,b≠so.S->b≠so.D->W0.heap[b]?=W.heap[b]?
 rel:∀w',(∀a,w'.cell? a=w.cell? a)->(∃cap buf cl s r tm,w'.heap[so.D]?=Z (.chan cap buf cl s r tm))->Rel (bN ak) Hid w' W->Rel (bN ak) Hid w' W0
theorem half(L:fL Hid X T V w W)(K:Rel (bN ak) Hid w W)(D:so∈V)(h:KP W so W0):acY Hid w W W0 so:=by
 have p:=L.s so D;rcases h with⟨n,rfl⟩|⟨n,k,m,rfl⟩
 ·obtain⟨k,u⟩:=p.real
  rw[n]at u;refine⟨⟨k,u⟩,λ_ _ _ _ h=>h,λ_ _ _ _ _ h=>h,λi v o=>?_,rfl,rfl,λ_=>rfl,λ_ _ _=>rfl,λ_ _ _ h=>h⟩;by_cases e:i=13
  ·subst e
   have:=p.stop;rw[n]at this;rw[this]at o⊢;cases o;rfl
  ·rw[if_neg e];exact o
 ·have d:=p.stop
  rw[n]at d;have y:(W.setCell (be so.S 13) (.bool U)).heap[so.D]?=Z (.chan 0 #[] Y k k Y):=by rw[zb d m];exact m
  obtain⟨c,t,f,g,x,R,o⟩:=kK d;have s:so.D≠so.S:=λe=>by rw[e]at m;have g:W.heap[so.S]?=_:=g;rw[m]at g;cases g
  have rP:∀a:aR,a.block≠so.D->((W.setCell (be so.S 13) (.bool U)).setChan so.D 0 #[] U k k Y).cell? a=(W.setCell (be so.S 13) (.bool U)).cell? a:=λa J=>by
   unfold fR;rw[mM _ _ _ _ _ _ _ λe=>J e.symm]
  refine⟨⟨k,oE _ y _ _ _ _ _ _⟩,λb G j r l=>?_,λb P t' Q r l=>?_,λi v A=>?_,?_,?_,λb=>by rw[S5 y,yw d],λb O M=>?_,λw' z q N=>?_⟩
  ·rw[mM _ _ _ _ _ _ _ λe=>r e.symm,zb d l];exact l
  ·have B:so.D≠b:=λe=>by rw[<-e,m]at l;cases l
   rw[mM _ _ _ _ _ _ _ B,heap_setCell g x,if_neg r];exact l
  ·rw[rP _ λe=>s e.symm,za d]
   by_cases e:i=13
   ·subst e;rw[if_pos F,if_pos F]
   ·rw[if_neg (λh=>e (by cases h;rfl)),if_neg e];exact A
  ·have:((W.setCell (be so.S 13) (.bool U)).setChan so.D 0 #[] U k k Y).shape? so.S=(W.setCell (be so.S 13) (.bool U)).shape? so.S:=by
    unfold fD;rw[mM _ _ _ _ _ _ _ s]
   rw[this,yw d]
  ·rw[size_setChan,size_setCell]
  ·rw[mM _ _ _ _ _ _ _ λe=>M e.symm,heap_setCell g x,if_neg O]
  ·obtain⟨E,C,G,s',S,tm,q⟩:=q
   have H:=K.mT _ (p.bU 13 ai ai);exact(N.Nt (by rw[z];exact H.2) d (.bool U)).SI q
theorem cU(L:fL Hid X T V w W)(O:Rel (bN ak) Hid w W)(cY:so∈V)(h:KP W so W0){y:au}{M:ag}(z:Alike ((w.setChan so.D 2 #[cV so.off] Y 0 0 Y).setChan bq 5 #[M] Y 0 0 Y) y):OD w W y ((W0.setCell (dA so.S) (cK 0 0)).setCell (dB so.S) (jH 0)) so/\Rel (bN ak) Hid y ((W0.setCell (dA so.S) (cK 0 0)).setCell (dB so.S) (jH 0))/\((W0.setCell (dA so.S) (cK 0 0)).setCell (dB so.S) (jH 0)).heap.size=W.heap.size/\(∃a b,y.heap[bq]?=Z (.chan 5 #[M] Y a b Y))/\mN w W y ((W0.setCell (dA so.S) (cK 0 0)).setCell (dB so.S) (jH 0)):=by
 have J:=L.s so cY;have H:=half L O cY h;obtain⟨sa,sb,A⟩:=J.lone;have hl:=cZ A;have p:=H.cnt 11 _ J.cnt;have W4:=H.cnt 12 _ J.qi;rw[if_neg ai]at p W4;have p:W0.cell? (dA so.S)=_:=p;have D:(W0.setCell (dA so.S) (cK 0 0)).cell? (dB so.S)=Z (.int .u32 0):=by
  rw[za p,if_neg (by simp[dA,dB])];exact W4
 obtain⟨ga,gb,d⟩:=L.gate;have P:so.D≠bq:=λe=>by rw[e,d]at A;cases A
 have Xk:(w.setChan so.D 2 #[cV so.off] Y 0 0 Y).heap[bq]?=Z (.chan 5 (if X then#[bK V]else#[]) Y ga gb Y):=by rw[mM _ _ _ _ _ _ _ P];exact d
 have C:∀b:Nat,((w.setChan so.D 2 #[cV so.off] Y 0 0 Y).setChan bq 5 #[M] Y 0 0 Y).heap[b]?=if b=bq then Z (.chan 5 #[M] Y 0 0 Y)else if b=so.D then Z (.chan 2 #[cV so.off] Y 0 0 Y)else w.heap[b]?:=λb=>by
  rw[heap_setChan _ (cZ Xk),heap_setChan w hl]
 have bY:∃a b,y.heap[so.D]?=Z (.chan 2 #[cV so.off] Y a b Y):=z.m7 (by rw[C,if_neg P,if_pos F]);have AF:mN w W y ((W0.setCell (dA so.S) (cK 0 0)).setCell (dB so.S) (jH 0)):=by
  have fG:=J.sh.1;obtain⟨c1,t1,N,g1,s1,_,_⟩:=kK p;obtain⟨c2,t2,f2,g2,s2,_,_⟩:=kK D;obtain⟨v,ha,l,g,_⟩:=L.hand;refine⟨λb u h=>?_,λb o=>?_,by rw[z.size,size_setChan,size_setChan];exact df _,λb _=>by rw[yw D,yw p];exact H.shp b⟩
  ·have h2:((w.setChan so.D 2 #[cV so.off] Y 0 0 Y).setChan bq 5 #[M] Y 0 0 Y).heap[b]?=Z (.view ⟨0,0,Z 0⟩ u):=by
    rw[C,if_neg (λe=>by rw[e,d]at h;cases h),if_neg (λe=>by rw[e,A]at h;cases h)];exact h
   exact(z.dead W).v b u h2
  ·have E:∀o,w.heap[b]?=Z o->b≠so.D->(∀c t f,o≠.cells c t f)->((W0.setCell (dA so.S) (cK 0 0)).setCell (dB so.S) (jH 0)).heap[b]?=W.heap[b]?:=λo h P5 hn=>by
    have Q:b≠so.S:=λe=>by
     unfold fD at fG;rw[<-e,h]at fG;cases o with
     |cells c t f=>exact hn c t f F
     |_=>cases fG
    have n1:b≠(dB so.S).block:=Q;have n2:b≠(dA so.S).block:=Q;rw[heap_setCell g2 s2,if_neg n1,heap_setCell g1 s1,if_neg n2,H.other b Q P5]
   rcases o with⟨u,h⟩|rfl|rfl
   ·exact E _ h (λe=>by rw[e,A]at h;cases h) λ_ _ _ e=>by cases e
   ·exact E _ d (λe=>P e.symm) λ_ _ _ e=>by cases e
   ·exact E _ g (λe=>by rw[e,A]at g;cases g) λ_ _ _ e=>by cases e
 have R:∀a,y.cell? a=w.cell? a:=λa=>by
  rw[z.cell];unfold fR;rw[C];by_cases e5:a.block=bq
  ·rw[if_pos e5,e5,d]
  ·rw[if_neg e5]
   by_cases e:a.block=so.D
   ·rw[if_pos e,e,A]
   ·rw[if_neg e]
 have r1:Rel (bN ak) Hid y W:=((O.sd A).sd Xk).alike z;have r2:=H.rel y R (by obtain⟨a,b,h⟩:=bY;exact⟨_,_,_,_,_,_,h⟩) r1;have DW:=O.mT _ (J.bU 11 ai ai);have PE:=O.mT _ (J.bU 12 ai ai);have r3:=(r2.Nt (a:=dA so.S) (by rw[R];exact DW.2) p (cK 0 0)).Nt (a:=dB so.S) (by rw[R];exact PE.2) D (jH 0);have W6:∀{b n s r:Nat}{m:af ag}{B tm:Bool},W0.heap[b]?=Z (.chan n m B s r tm)->((W0.setCell (dA so.S) (cK 0 0)).setCell (dB so.S) (jH 0)).heap[b]?=Z (.chan n m B s r tm):=λ{b n s r m B tm}l=>by
  have K:(W0.setCell (dA so.S) (cK 0 0)).heap[b]?=Z (.chan n m B s r tm):=by rw[zb p l];exact l
  rw[zb D K];exact K
 refine⟨⟨bY,λb n m B s r tm G l g=>?_,λb n m B s r tm G l g=>?_,λb c t f g=>?_,?_,λb B j l g=>W6 (H.B2 b B j l g),λb c t f l g=>?_,λi v hv=>?_,λx hx=>?_⟩,r3,by rw[size_setCell,size_setCell,H.size],z.m7 (by rw[C,if_pos F]),AF⟩
 ·exact z.m7 (by rw[C,if_neg G,if_neg l];exact g)
 ·obtain⟨s',r',K⟩:=z.chan g
  rw[C,if_neg G,if_neg l]at K;exact⟨s',r',K⟩
 ·have l:b≠so.D:=λe=>by rw[e,A]at g;cases g
  have G:b≠bq:=λe=>by rw[e,d]at g;cases g
  rcases z.obj b with e|⟨_,_,_,_,_,_,_,_,N,_⟩
  ·rw[e,C,if_neg G,if_neg l];exact g
  ·rw[C,if_neg G,if_neg l,g]at N;cases N
 ·obtain⟨k,hk⟩:=H.SJ
  exact⟨k,W6 hk⟩
 ·have h0:=H.qw b c t f l g
  obtain⟨c1,t1,N,g1,s1,_,_⟩:=kK p;obtain⟨c2,t2,f2,g2,s2,_,_⟩:=kK D;have n1:b≠(dB so.S).block:=l;have n2:b≠(dA so.S).block:=l;rw[heap_setCell g2 s2,if_neg n1,heap_setCell g1 s1,if_neg n2];exact h0
 ·have h0:=H.cnt i v hv
  rw[za D,za p];by_cases S:i=12
  ·subst S
   have q:be so.S 12=dB so.S:=rfl;rw[if_pos q,if_neg ai,if_pos rfl];rfl
  ·rw[if_neg (λh=>S (by cases h;rfl))]
   by_cases e2:i=11
   ·subst e2
    have q:be so.S 11=dA so.S:=rfl;rw[if_pos q,if_pos rfl,TQ]
   ·rw[if_neg (λh=>e2 (by cases h;rfl)),h0,if_neg e2,if_neg S]
 ·rw[yw D,yw p,H.sh];exact hx
end
theorem anl{R:ag->au->Prop}(i:Inv s)(E:Good LL R s.bW)(r:ko s.E s.fr' s.cs' s.fr s.cs){t:af ag}{c:ae bV}{a:dD}(bH:25<=t.size)
  (o:s.fr'=⟨30,t,[.code Bu],c,.run,a,I⟩)(e:s.fr=⟨30,t,[.code oQ],c,.run,a,I⟩):
  ∃f k n b,Inv f/\Real s f/\0<k/\kj LL s.bW f.bW k n b:=by
 have b:=i.base;have C:=b.core;have L:=C.fo;have aD:=ko.ne r;have eI:Below ak LL s.cs':=r.belows i.xD;obtain⟨tt,_,_,u,_⟩:=r.fr;rw[e]at u;have y:a=.normal\/a=.deferred:=u.kind.imp id λh=>h.1;have fN:∀d∈c,lV ak d:=u.defers;generalize uU:(λi=>t.getD (i+1) aC)=g;generalize tp:t.toList.drop 25=j;generalize hp:t.getD 0 aC=p;have ht:t=bO 25 (cN g p) j:=by rw[<-uU,<-tp,<-hp];exact Hk t 25 bH
 generalize eX:([]:ae aK)=k at o e;rw[ht]at o e;have pX:s.bW=⟨lD (cN g p) j (.code Bu::k) c a,s.cs',s.w⟩:=by unfold dM.bW;rw[o]
 rw[pX]at E⊢;obtain⟨M,so,m,O,n,w',hn,hA,hL⟩:=am2 L C.rel eI aD y fN E;rw[O]at e;have l:s.dG=I:=Option.isNone_iff_eq_none.1 M;have A:=i.ni.h0 l;rw[l]at C L;have kv:KQ s so (lD (ov (cN g (ptr so.S 0)) (yp so)) j k c a):=by
  cases aF:so.st with
  |true=>exact awl b A l m aF y e
  |false=>exact awh b A l m aF y e
 obtain⟨N,bD,W',jG,T',q',eQ,W0,f1,f2,f3,f4,f5,⟨z,f6⟩,f7,f8,f9⟩:=kv.ex;obtain⟨hE,px,hz,qK,K⟩:=cU L C.rel m f5 hA;have zo:=C.stop m hE qK px (by rw[hz];exact C.low) f7 f8 f9;have B:=zo.re z;rw[<-f2]at B;have D:W'=((W0.setCell (dA so.S) (cK 0 0)).setCell (dB so.S) (jH 0)).at z:=f6;rw[<-D]at B;obtain⟨f,hb,⟨P,uQ⟩,G,H,z3,z4,z5,z6,_,_,⟨τ,d2,J⟩,_,dW,eW⟩:=settle (sl:=jG) f4 f3 B (lD (ov (cN g (ptr so.S 0)) (yp so)) j k c a) s.cs';have S:sW f:=by
  refine i.ni.tF (by rw[o]) (z5.trans A.symm) (z6.trans l.symm) ?_;rw[G,H,z3,z4];refine r.eo ?_ (by rw[e]) (by rw[e]);subst eX;exact⟨_,F,.nil,u,.inl F⟩
 have cv:f.bW=⟨lD (ov (cN g (ptr so.S 0)) (yp so)) j k c a,s.cs',re (re w' ((W0.setCell (dA so.S) (cK 0 0)).setCell (dB so.S) (jH 0)).tape z) τ d2⟩:=by unfold dM.bW;rw[G,H,J]
 obtain⟨q,x,v,cy,Q⟩:∃q x v,0<q/\kj LL ⟨lD (cN g p) j (.code Bu::k) c a,s.cs',s.w⟩ f.bW q x v:=by
  rw[cv];exact⟨n,0,λ_ _=>0,hn,hL.vz⟩
 exact⟨f,q,x,v,⟨hb,S⟩,⟨⟨N+P,kG f1 uQ⟩,by rw[eW,J,D];exact(((K.at _).at _).re _ _).re _ _⟩,cy,Q⟩
theorem Nd{P:aA}{fn:bA}{t:af ag}{W:af bh}{i:Nat}{is:ae Nat}{k:ae aK}{ds:ae bV}{X:dD}{cs:ae az}(b:X=.normal\/X=.deferred){o:bh}(c:W[i]?=Z o)(a:o.guard=I):eU P (G (aV fn t W (i::is) k ds X) cs)=Z (cu (bJ ⟨fn,t,[],ds,.run,X,I⟩) o):=by
 have d:vH o (yielded W t)=U:=by simp[vH,a]
 rcases b with rfl|rfl<;>simp[eU,G,aV,c,d]
theorem Np{P:aA}{fn:bA}{t:af ag}{W:af bh}{i:Nat}{is:ae Nat}{k:ae aK}{ds:ae bV}{X:dD}{cs:ae az}{o:bh}(b:W[i]?=Z o)(a:o.dst=Z d)(v:ag):mg P (G (aV fn t W (i::is) k ds X) cs) (.value v)=Z (G (aV fn (t.setIfInBounds d v) W is k ds X) cs):=by
 simp[mg,BV,G,aV,jd,b,a]
section
variable {R:ag->au->Prop}{fn:bA}{t:af ag}{W:af bh}{i:Nat}{is:ae Nat}{k:ae aK}{ds:ae bV}{X:dD}{cs:ae az}{w:au}
theorem SS(g:X=.normal\/X=.deferred)(f:cs≠[]){o:bh}(b:W[i]?=Z o)(c:o.guard=I)(j:o.dst=Z d){v:ag}{a:Obj}(p:vf LL w.heap.size (cu (bJ ⟨fn,t,[],ds,.run,X,I⟩) o)=Z (.value v,a))(l:Good LL R ⟨aV fn t W (i::is) k ds X,cs,w⟩):eV LL ⟨aV fn t W (i::is) k ds X,cs,w⟩ ⟨aV fn (t.setIfInBounds d v) W is k ds X,cs,bM w a⟩ 1/\Good LL R ⟨aV fn (t.setIfInBounds d v) W is k ds X,cs,bM w a⟩:=by
 have L:=CJ (L:=LL) (w:=w) (w1:=bM w a) (Nd (fn:=fn) (t:=t) (is:=is) (k:=k) (ds:=ds) (cs:=cs) g b c) (Np b j v) λτ e=>by
  rw[<-xe _ _ _ #[],R9 p (re w τ e) #[] F];rfl
 exact⟨L,l.mF L f⟩
theorem aao(f:X=.normal\/X=.deferred)(c:cs≠[]){o:bh}(a:W[i]?=Z o)(b:o.guard=I)(g:o.dst=Z d){v:ag}(l:fQ LL (cu (bJ ⟨fn,t,[],ds,.run,X,I⟩) o)=Z (.value v))(j:Good LL R ⟨aV fn t W (i::is) k ds X,cs,w⟩):eV LL ⟨aV fn t W (i::is) k ds X,cs,w⟩ ⟨aV fn (t.setIfInBounds d v) W is k ds X,cs,w⟩ 1/\Good LL R ⟨aV fn (t.setIfInBounds d v) W is k ds X,cs,w⟩:=by
 have L:=CJ (L:=LL) (w:=w) (w1:=w) (Nd (fn:=fn) (t:=t) (is:=is) (k:=k) (ds:=ds) (cs:=cs) f a b) (Np a g v) λτ e=>by
  rw[<-xe _ _ _ #[],Bs l (re w τ e) #[]]
 exact⟨L,j.mF L c⟩
end
section
variable {O At:Nat->Loc->Prop}{V:Loc->Prop}{Q:Nat->aj YS}{h B n:Nat}{T:dJ}{m:fg}{S:au}
variable {fn:bA}{t:af ag}{W:af bh}{i:Nat}{is:ae Nat}{k:ae aK}{ds:ae bV}{X:dD}{cs:ae az}
theorem On(l:X=.normal\/X=.deferred){o:bh}(g:W[i]?=Z o)(j:o.guard=I)(s:o.dst=Z d){v:ag}{a:Obj}(z:vf ak S.heap.size (cu (bJ ⟨fn,t,[],ds,.run,X,I⟩) o)=Z (.value v,a))
  (x:∀i y,Q i=Z y->∀w o,y.K w->y.K (bM w o))(p:∀i y c,Q i=Z y->y.s.has c->c<S.heap.size)
  (H:dw ak O At V Q h B n S m T 0 (·=G (aV fn t W (i::is) k ds X) cs)):dw ak O At V Q h B n (bM S a) m T 0 (·=G (aV fn (t.setIfInBounds d v) W is k ds X) cs):=by
 refine H.act F (es:=#[]) (λw f=>⟨bM w a,?_,UY f a,λi y c b r=>?_,λi y b q=>x i y b w a q,λe u=>by simp at u⟩) F
 ·have A:w.heap.size=S.heap.size:=by rw[FW f]
  have:=(zL (main:=h==0) (Nd (P:=ak) (fn:=fn) (t:=t) (is:=is) (k:=k) (ds:=ds) (cs:=cs) l g j) (Np g s v) (R9 z w #[] A)).2;rw[this,seen_none]
 ·have aE:=p i y c b r
  show(w.heap.push a)[c]?=w.heap[c]?;rw[Ft,if_neg (by rw[FW f];omega)]
theorem Uz(f:X=.normal\/X=.deferred){o:bh}(a:W[i]?=Z o)(b:o.guard=I)(j:o.dst=Z d){v:ag}(q:fQ ak (cu (bJ ⟨fn,t,[],ds,.run,X,I⟩) o)=Z (.value v))(H:dw ak O At V Q h B n S m T 0 (·=G (aV fn t W (i::is) k ds X) cs)):dw ak O At V Q h B n S m T 0 (·=G (aV fn (t.setIfInBounds d v) W is k ds X) cs):=by
 refine H.act F (es:=#[]) (λw r=>⟨w,?_,r,λi y c p s=>rfl,λi y p g=>g,λe l=>by simp at l⟩) F;have:=(zL (main:=h==0) (Nd (P:=ak) (fn:=fn) (t:=t) (is:=is) (k:=k) (ds:=ds) (cs:=cs) f a b) (Np a j v) (Bs q w #[])).2;rw[this,seen_none]
end
theorem Base.afN(b:Base s){c:Nat}(x:s.B<=c){g':aH}{dd:Nat}(o:aG ak (s.h==0) (G s.fr s.cs) s.W=.go g' (s.W.at dd) #[]):∃m T,(∃N,iz ak N s.m s.T=(.next m,T))/\dw ak s.St s.At s.Shun s.ax s.h c s.gs.size s.W m T 0 (·=g'):=by
 have C:=(b.hold.mono x).BB;have z:DZ s.St s.ax s.Shun c s.W (s.W.at dd) #[]:=⟨λ_ _ _ _ _=>rfl,λi y e D=>(C.yd.wf i y e).2.2.1 _ _ D,λe A=>by simp at A⟩;obtain⟨f,u,v⟩:=C.own (a':=g') b.top z;have j:=vJ (P:=ak) (sl:=s.sl) b.top o;have p:db s.h (G s.fr s.cs).frame.fn (G s.fr s.cs).frame.place #[]=#[]:=by rfl
 rw[p]at j f;have E:gW 0 #[]=0:=rfl;rw[E]at f;have h:=dw.begin (sl:=s.sl) f u;rw[v]at h;obtain⟨N,r,w,g,l,q,d,a,H,J,K,L,M,r6,r7⟩:=h;refine⟨_,_,⟨1,?_⟩,N,r,w,g,l,q,d,a,H,J,K,L,M,r6,atRel_trans _ _ _ ⟨dd,F⟩ r7⟩;simp only[iz,b.eo,j]
theorem OZ(d:BinOp)(h:d=.lss\/d=.gtr)(x:ag)(c:Int)(a b:gU):(∃v,x=ah v/\∀w,(do kX d 3 a b x (.int .i64 c);binOp d 3 x (.int .i64 c)).run LL w=.ok (.bool (if d=.lss then decide (v<c)else decide (c<v))) w)\/∀w,∃y,(do kX d 3 a b x (.int .i64 c);binOp d 3 x (.int .i64 c)).run LL w=.halt y w:=by
 have e:∀w,(do kX d 3 a b x (.int .i64 c);binOp d 3 x (.int .i64 c)).run LL w=(binOp d 3 x (.int .i64 c)).run LL w:=λw=>by
  rcases h with rfl|rfl<;>rfl
 cases x with
 |int k v=>
  cases k with
  |i64=>
   refine .inl ⟨v,F,λw=>?_⟩;rw[e];rcases h with rfl|rfl
   ·rfl
   ·rfl
  |_=>
   refine .inr λw=>?_;rw[e];rcases h with rfl|rfl<;>exact⟨_,rfl⟩
 |pointer o=>
  refine .inr λw=>?_;rw[e];cases o<;>rcases h with rfl|rfl<;>exact⟨_,rfl⟩
 |_=>
  refine .inr λw=>?_;rw[e];rcases h with rfl|rfl<;>exact⟨_,rfl⟩
end
end Go.Proofs.YtgahemdblfapeaaGreatDoor
