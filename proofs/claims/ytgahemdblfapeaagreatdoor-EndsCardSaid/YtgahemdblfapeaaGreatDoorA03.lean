/- Helper lemmas, part 3: what the steps of the program do in the model; each holds under its own hypotheses. -/
import Derived.Test.YtgahemdblfapeaaGreatDoorA02
set_option maxRecDepth 100000
set_option maxHeartbeats 4000000
set_option linter.all false
namespace Go.Proofs.YtgahemdblfapeaaGreatDoor
open Go.Conc
open _root_.Array renaming append_assoc→Ee,ext_getElem?→zB,getElem?_eq_getElem→xY,getElem?_eq_none_iff→Ef,getElem?_eq_some_iff→iy,getElem?_map→A4,getElem?_push→Gn,getElem?_setIfInBounds→uF,getElem?_setIfInBounds_ne→iK,getElem?_setIfInBounds_self_of_lt→kJ,replicate→qa
open _root_.Bool renaming and_eq_true→gT,false→Y,true→U
open Go renaming Addr→aU,CallKind→dQ,Code→bH,Deferred→cz,Event→dR,Frame→aA,Func→dK,FuncId→cH,Goroutine→aH,Item→aJ,Machine→fT,Oper→bq,Operand→iP,Program→aD,Trace→ed,TypeId→aK,Value→ag,World→ax,commResult→rh,deafBehind→ia,doReturn→rW,eqGuard→lF,execOp→cN,goInt→ai,runN→dG,runNT→iz,stepG→aE,undef→aB,unwind→lT
open Go.Conc renaming Deaf→eh,Deaf_other→ni,again_running→Bb,getElem?_append_cases→lG,heap_setChan_ne→mT,heap_setChan_self→oQ,lt_size_of_getElem?→IM,mem_ofEvents→jX,offersAt_of_not_blocked→tq,runNT_then→kK,runT_crowd_go→wQ,served→jx,touchAt_of→tu,touch_of→om,woken→eP
open Go.Frame renaming enter→bO,eval→bR,finish→jw
open Go.GStep renaming after→mx
open Go.Instr renaming fieldAt→tn
open Go.MemAct renaming ofEvent→gI,touch?→lS
open Go.MemOp renaming ofEvents→dk
open Go.Proofs.Tryz renaming prog→ak
open Go.Region renaming schedule→tp,wanted→wO
open Go.Sem renaming runT_eq→jN,runT_fst→ya
open Go.World renaming cell?→fU,frozen?→qj,shape?→fF
open _root_.List renaming all_eq_true→Ei,eq_nil_of_length_eq_zero→zC,filter_cons→Ej,length_cons→jY,length_map→jM,length_pos_of_mem→IG,map_cons→fw,mem_cons→bM,mem_cons_of_mem→eK,mem_cons_self→eX,mem_map→og,mem_map_of_mem→jg,mem_toArray→ko,nodup_append→zE,nodup_cons→oO,not_mem_nil→gV,replicate→kq
open _root_.Nat renaming le_of_ble_eq_true→zH,le_refl→dt,le_succ→wM,le_trans→rU,lt_of_lt_of_le→pA
open _root_.Option renaming map_eq_some_iff→fX,map_some→jE,none→I,some→Z
open _root_.Option.some renaming inj→ee,injEq→gB
section
variable {b:Bool}{d:Tmp}{P:aD}{a:aU}{e:dR}{s:eC}
def arr(i j:Nat)(a b c:Obj):Nat->Obj:=λm=>if m=i then a else if m=j then b else c
def jI(w:ax)(u:Nat->Obj):ax:=bW (bW (bW w (u 0)) (u 1)) (u 2)
inductive Ord:ae Nat->Nat->Nat->Nat->Prop
 |aqO:Ord [0,1,2,3,4] 0 1 2
 |aqP:Ord [0,1,3,2,4] 0 1 2
 |aqQ:Ord [0,3,1,2,4] 0 2 1
 |aqR:Ord [1,0,2,3,4] 1 0 2
 |aqS:Ord [1,0,3,2,4] 1 0 2
 |aqT:Ord [1,3,0,2,4] 2 0 1
 |aqU:Ord [3,0,1,2,4] 1 2 0
 |aqW:Ord [3,1,0,2,4] 2 1 0
theorem Ord.perm{o:ae Nat}{i j k:Nat}(h:Ord o i j k):i<3/\j<3/\k<3/\i≠j/\i≠k/\j≠k:=by
 cases h<;>omega
theorem arl(t:Nat):∃i j k,Ord (tp U vZ t) i j k:=by
 have h:=Ps vZ t;rw[arn]at h;simp only[bM,gV,or_false]at h;rcases h with h|h|h|h|h|h|h|h<;>rw[h]
 ·exact⟨_,_,_,.aqO⟩
 ·exact⟨_,_,_,.aqP⟩
 ·exact⟨_,_,_,.aqQ⟩
 ·exact⟨_,_,_,.aqR⟩
 ·exact⟨_,_,_,.aqS⟩
 ·exact⟨_,_,_,.aqT⟩
 ·exact⟨_,_,_,.aqU⟩
 ·exact⟨_,_,_,.aqW⟩
abbrev qR(g:Nat->ag)(l:ae ag)(m:ae (Nat×ag))(Q O L P:ag):af ag:=bI 13 (ov g ((3,Q)::(4,O)::(5,L)::(6,P)::m)) l
abbrev lz(S D n N M:Nat)(X:Bool):=Lh S D n N M X
section
variable (g:Nat->ag)(l:ae ag)(S D n N M:Nat)(X:Bool)(V:ae aA)(W T b:Nat)(Q O L P:ag)
theorem asn:bI 13 (ov g (lz S D n N M X)) l=qR g l (lz S D n N M X) (g 3) (g 4) (g 5) (g 6):=al
theorem lo0(r:ae Nat):oI LL W (G (aX 55 (qR g l (lz S D n N M X) Q O L P) qE (0::r) [.code jT] [] .normal) V)=Z (G (aX 55 (qR g l (lz S D n N M X) Q (ay W) L P) qE r [.code jT] [] .normal) V,.chan 1 #[] Y 0 0 Y):=al
theorem lo1(r:ae Nat):oI LL W (G (aX 55 (qR g l (lz S D n N M X) Q O L P) qE (1::r) [.code jT] [] .normal) V)=Z (G (aX 55 (qR g l (lz S D n N M X) Q O (ay W) P) qE r [.code jT] [] .normal) V,.chan 3 #[] Y 0 0 Y):=al
theorem lo2(u v:aj Nat)(r:ae Nat):aN LL 1 (G (aX 55 (qR g l (lz S D n N M X) Q (.chan u) (.chan v) P) qE (2::r) [.code jT] [] .normal) V)=G (aX 55 (qR g l (lz S D n N M X) Q (.chan u) (.chan v) (.agg #[.chan u,.chan v])) qE r [.code jT] [] .normal) V:=al
theorem lo3(r:ae Nat):oI LL W (G (aX 55 (qR g l (lz S D n N M X) Q O L P) qE (3::r) [.code jT] [] .normal) V)=Z (G (aX 55 (qR g l (lz S D n N M X) (ay W) O L P) qE r [.code jT] [] .normal) V,.chan 4 #[] Y 0 0 Y):=al
theorem lo4(r:ae Nat):aN LL 1 (G (aX 55 (qR g l (lz S D n N M X) Q O L P) qE (4::r) [.code jT] [] .normal) V)=G (aX 55 (qR g l (lz S D n N M X) Q O L P) qE r [.code jT] [] .normal) V:=al
end
def rL(a b c:Obj)(p:Nat->ag)(s:(ag×ag×ag×ag)×ax)(i:Nat):(ag×ag×ag×ag)×ax:=match i with
 |0=>((s.1.1,ay s.2.heap.size,s.1.2.2),bW s.2 a)
 |1=>((s.1.1,s.1.2.1,ay s.2.heap.size,s.1.2.2.2),bW s.2 b)
 |2=>((s.1.1,s.1.2.1,s.1.2.2.1,.agg #[s.1.2.1,s.1.2.2.1]),s.2)
 |3=>((p s.2.heap.size,s.1.2),bW s.2 c)
 |_=>s
def FE:ag->Bool
 |.chan _=>U
 |_=>Y
theorem OP{v:ag}(h:FE v=U):∃u,v=.chan u:=by
 cases v<;>first|exact⟨_,rfl⟩|cases h
def yy:ae Nat->Bool->Bool->Bool
 |[],_,_=>U
 |i::o,a,b=>match i with
  |0=>yy o U b
  |1=>yy o a U
  |2=>(a&&b)&&yy o a b
  |3=>yy o a b
  |4=>yy o a b
  |_=>Y
theorem Ord.chk{o:ae Nat}{i j k:Nat}(h:Ord o i j k)(a b:Bool):yy o a b=U:=by cases h<;>rfl
theorem Ord.fold{o:ae Nat}{i j k:Nat}(h:Ord o i j k)(a b c:Obj)(p:Nat->ag)(x:ag×ag×ag×ag)(w:ax):o.foldl (rL a b c p) (x,w)=((p (w.heap.size+k),ay (w.heap.size+i),ay (w.heap.size+j),.agg #[ay (w.heap.size+i),ay (w.heap.size+j)]),jI w (arr i j a b c)):=by
 cases h<;>simp[rL,size_push,jI,arr]
section
variable {R:ag->ax->Prop}{V:ae aA}{g:Nat->ag}{l:ae ag}{S D n N M:Nat}{X:Bool}{Q O L P:ag}{w:ax}
abbrev cW:Obj:=.chan 1 #[] Y 0 0 Y
abbrev cT:Obj:=.chan 3 #[] Y 0 0 Y
abbrev cB:Obj:=.chan 4 #[] Y 0 0 Y
abbrev c0:Obj:=.chan 0 #[] Y 0 0 Y
theorem aaS(d:V≠[]):∀(o:ae Nat)(s:(ag×ag×ag×ag)×ax),yy o (FE s.1.2.1) (FE s.1.2.2.1)=U->Good LL R ⟨aX 55 (qR g l (lz S D n N M X) s.1.1 s.1.2.1 s.1.2.2.1 s.1.2.2.2) qE o [.code jT] [] .normal,V,s.2⟩->∃m,∀f,f=o.foldl (rL cW cT cB ay) s->fA LL ⟨aX 55 (qR g l (lz S D n N M X) s.1.1 s.1.2.1 s.1.2.2.1 s.1.2.2.2) qE o [.code jT] [] .normal,V,s.2⟩ ⟨aX 55 (qR g l (lz S D n N M X) f.1.1 f.1.2.1 f.1.2.2.1 f.1.2.2.2) qE [] [.code jT] [] .normal,V,f.2⟩ m/\Good LL R ⟨aX 55 (qR g l (lz S D n N M X) f.1.1 f.1.2.1 f.1.2.2.1 f.1.2.2.2) qE [] [.code jT] [] .normal,V,f.2⟩
 |[],s,_,c=>⟨0,λf e=>by subst e;exact⟨fA.refl,c⟩⟩
 |i::o,s,a,c=>by
  have step:yy o (FE (rL cW cT cB ay s i).1.2.1) (FE (rL cW cT cB ay s i).1.2.2.1)=U/\∃m,fA LL ⟨aX 55 (qR g l (lz S D n N M X) s.1.1 s.1.2.1 s.1.2.2.1 s.1.2.2.2) qE (i::o) [.code jT] [] .normal,V,s.2⟩ ⟨aX 55 (qR g l (lz S D n N M X) (rL cW cT cB ay s i).1.1 (rL cW cT cB ay s i).1.2.1 (rL cW cT cB ay s i).1.2.2.1 (rL cW cT cB ay s i).1.2.2.2) qE o [.code jT] [] .normal,V,(rL cW cT cB ay s i).2⟩ m/\Good LL R ⟨aX 55 (qR g l (lz S D n N M X) (rL cW cT cB ay s i).1.1 (rL cW cT cB ay s i).1.2.1 (rL cW cT cB ay s i).1.2.2.1 (rL cW cT cB ay s i).1.2.2.2) qE o [.code jT] [] .normal,V,(rL cW cT cB ay s i).2⟩:=by
   match i,a with
   |0,a=>exact⟨a,EO c (lo0 ..) d⟩
   |1,a=>exact⟨a,EO c (lo1 ..) d⟩
   |2,a=>
    obtain⟨⟨Q,O,L,P⟩,w⟩:=s;simp only[yy,gT]at a;obtain⟨u,rfl⟩:=OP a.1.1;obtain⟨v,rfl⟩:=OP a.1.2;exact⟨a.2,c.quiet 1 (lo2 ..) d⟩
   |3,a=>exact⟨a,EO c (lo3 ..) d⟩
   |4,a=>exact⟨a,c.quiet 1 (lo4 ..) d⟩
  obtain⟨a,p,j,k⟩:=step;obtain⟨m,h⟩:=aaS d o _ a k;exact⟨p+m,λf e=>⟨j.trans (h f e).1,(h f e).2⟩⟩
theorem apn{o:ae Nat}{i j k:Nat}(h:Ord o i j k)(a:V≠[])(c:Good LL R ⟨aX 55 (qR g l (lz S D n N M X) Q O L P) qE o [.code jT] [] .normal,V,w⟩):∃m,fA LL ⟨aX 55 (qR g l (lz S D n N M X) Q O L P) qE o [.code jT] [] .normal,V,w⟩ ⟨aX 55 (qR g l (lz S D n N M X) (ay (w.heap.size+k)) (ay (w.heap.size+i)) (ay (w.heap.size+j)) (.agg #[ay (w.heap.size+i),ay (w.heap.size+j)])) qE [] [.code jT] [] .normal,V,jI w (arr i j cW cT cB)⟩ m/\Good LL R ⟨aX 55 (qR g l (lz S D n N M X) (ay (w.heap.size+k)) (ay (w.heap.size+i)) (ay (w.heap.size+j)) (.agg #[ay (w.heap.size+i),ay (w.heap.size+j)])) qE [] [.code jT] [] .normal,V,jI w (arr i j cW cT cB)⟩:=by
 obtain⟨m,d⟩:=aaS a o ((Q,O,L,P),w) (h.chk _ _) c;exact⟨m,d _ (h.fold cW cT cB ay _ w).symm⟩
end
theorem auH(t):tp U qE t=tp U vZ t:=al
theorem Yt:LL.follows .mixedOrders=U:=al
theorem apk{t}{cs}{w}(a):ku LL ⟨⟨55,t,[.code (.region 1 qE U),.code jT],[],.run,.normal,I⟩,cs,w⟩ ⟨aX 55 t qE (tp U vZ ((Question.order 55 1).cut (a 0 (.order 55 1)))) [.code jT] [] .normal,cs,w⟩ 1 1 a:=λτ d c=>by
 have h:=G5 (main:=U) Yt (fn:=55) (tmps:=t) (k:=[.code jT]) (defers:=[]) (kind:=.normal) (cs:=cs) (id:=1) (ops:=qE) (re w τ d);have e:(re w τ d).tape (re w τ d).drawn (.order 55 1)=a 0 (.order 55 1):=c 0 ah _;rw[e,auH]at h;simp only[ik.on,dG];rw[show lone ⟨55,t,[.code (.region 1 qE U),.code jT],[],.run,.normal,I⟩ cs (re w τ d)=lone ⟨55,t,[.code (.region 1 qE U),.code jT],[],.run,.normal,I⟩ cs (re w τ d)from F,fe h];rfl
section
variable (g:Nat->ag)(l:ae ag)(S D n N M W T b:Nat)(X:Bool)(cs:ae aA)(V:ag)
abbrev asm:af ag:=qR g l (lz S D n N M X) (ay b) (ay W) (ay T) (.agg #[ay W,ay T])
theorem q_h:aN LL 4 (G (aX 55 (asm g l S D n N M W T b X) qE [] [.code jT] [] .normal) cs)=G (aX 55 (bI 13 (ov g ((3,ay b)::(4,ay W)::(5,ay T)::(6,.agg #[ay W,ay T])::(8,.agg #[ay D,ay T])::lz S D n N M X)) l) qH [1,2] [.code .ret] [] .normal) cs:=al
abbrev Ci:af ag:=bI 13 (ov g ((3,ay b)::(4,ay W)::(5,ay T)::(6,.agg #[ay W,ay T])::(8,.agg #[ay D,ay T])::lz S D n N M X)) l
theorem asW:fR LL (cN (bR ⟨55,Ci g l S D n N M W T b X,[],[],.run,.normal,I⟩) (ep (.send (tm 4) (tm 8))))=Z (.comm #[{chan:=ay W,send:=Z (.agg #[ay D,ay T]),zero:=.tuple #[]}] U .send):=al
theorem as7:xd LL 142 gF (G (aX 55 (Ci g l S D n N M W T b X) qH [2] [.code .ret] [] .normal) cs)=Z (G (aX 55 (Ci g l S D n N M W T b X) qH [] [.code .ret] [] .normal) cs,#[ay W,ay T],[.ev ⟨.cell (bn M 0),U,Y⟩,.ev ⟨.cell (bn M 1),U,Y⟩]):=al
theorem as1:aN LL 2 (G (aX 55 (Ci g l S D n N M W T b X) qH [] [.code .ret] [] .normal) cs)=G ⟨55,Ci g l S D n N M W T b X,[.code .ret],[],.returning,.normal,I⟩ cs:=al
theorem as0:qu LL 142 (results FI (Ci g l S D n N M W T b X)) #[ay W,ay T]=Z (.agg #[ay W,ay T],#[ay W,ay T],[.ev ⟨.cell (bn M 0),Y,Y⟩,.ev ⟨.cell (bn M 1),Y,Y⟩]):=al
end
theorem O5(w:ax)(u:Nat->Obj)(b:Nat):(jI w u).heap[b]?=if b=w.heap.size+2 then Z (u 2)else if b=w.heap.size+1 then Z (u 1)else if b=w.heap.size then Z (u 0)else w.heap[b]?:=by
 unfold jI;rw[lM,lM,lM];simp only[size_push]
theorem ace(w:ax)(u:Nat->Obj):(jI w u).heap.size=w.heap.size+3:=by
 unfold jI;simp only[size_push]
theorem GP{i j k:Nat}(h:i<3/\j<3/\k<3/\i≠j/\i≠k/\j≠k)(w:ax)(a b c:Obj):(jI w (arr i j a b c)).heap[w.heap.size+i]?=Z a/\(jI w (arr i j a b c)).heap[w.heap.size+j]?=Z b/\(jI w (arr i j a b c)).heap[w.heap.size+k]?=Z c/\∀x,x<w.heap.size->(jI w (arr i j a b c)).heap[x]?=w.heap[x]?:=by
 have d:i=0\/i=1\/i=2:=by omega
 have e:j=0\/j=1\/j=2:=by omega
 have f:k=0\/k=1\/k=2:=by omega
 refine⟨?_,?_,?_,λx m=>?_⟩
 ·rw[O5]
  rcases d with rfl|rfl|rfl<;>simp[arr]
 ·rw[O5]
  rcases e with rfl|rfl|rfl<;>rcases d with rfl|rfl|rfl<;>first|(exfalso;omega)|simp[arr]
 ·rw[O5]
  rcases f with rfl|rfl|rfl<;>rcases d with rfl|rfl|rfl<;>rcases e with rfl|rfl|rfl<;>first|(exfalso;omega)|simp[arr]
 ·rw[O5,if_neg ah,if_neg ah,if_neg ah]
section
variable {L:aD}{R:ag->ax->Prop}{Q:aA}{T:ae aA}{w:ax}
theorem apC{t:aK}{b:Nat}{c a:af ag}{l:ae iR}{f:aA}{e:ae aA}(h:xd L t c (G Q T)=Z (G f e,a,l))(q:Bl b l)(p:w.heap[b]?=Z (.cells c t)):∃k,fA L ⟨Q,T,w⟩ ⟨f,e,ic w b a t⟩ k:=by
 obtain⟨m,i,j⟩:=Ow (L:=L) 400 Q T w;obtain⟨_,o⟩:=Xe (main:=U) h q;refine⟨m+1,i.trans λτ d=>?_⟩;have:=o (re w τ d) p;rw[<-j]at this;simp only[ik.on,dG];rw[fe this];rfl
theorem apF{f:cH}{F:dK}{t:af ag}{td:ae aJ}{v:ag}{a:aA}{l:ae aA}{w:ax}(e:L.funcs[f]?=Z F)(h:∀τ d,(results F t).run L (re w τ d)=.ok v (re w τ d)):fA L ⟨⟨f,t,td,[],.returning,.normal,I⟩,a::l,w⟩ ⟨a.finish v,l,w⟩ 1:=λτ d=>by
 have c:(results F t).runT L (re w τ d) #[]=(.ok v (re w τ d),(results F t).events L (re w τ d) #[]):=by rw[jN,h]
 have b:∃es,aE L U (G ⟨f,t,td,[],.returning,.normal,I⟩ (a::l)) (re w τ d)=dZ (a.finish v) l (re w τ d) es:=by
  simp only[G,aE,lT,e,c,rW];exact⟨_,rfl⟩
 obtain⟨es,b⟩:=b;simp only[ik.on,dG];rw[fe b]
end
theorem aoB:LL.funcs[55]?=Z FI:=al
section
variable {R:ag->ax->Prop}{g:Nat->ag}{l:ae ag}{S D n N M:Nat}{V:Bool}{P O K J:ag}{w:ax}{X:aA}{W:ae aA}
theorem apu{o:ae Nat}{i j k:Nat}(h:Ord o i j k)(G:w.heap[M]?=Z (.cells gF 142))(hg:Good LL R ⟨aX 55 (qR g l (lz S D n N M V) P O K J) qE o [.code jT] [] .normal,X::W,w⟩):∃m p q,fA LL ⟨aX 55 (qR g l (lz S D n N M V) P O K J) qE o [.code jT] [] .normal,X::W,w⟩ ⟨X.finish (.agg #[ay (w.heap.size+i),ay (w.heap.size+j)]),W,ic ((jI w (arr i j cW cT cB)).setChan (w.heap.size+i) 1 #[.agg #[ay D,ay (w.heap.size+j)]] Y p q Y) M #[ay (w.heap.size+i),ay (w.heap.size+j)] 142⟩ m:=by
 have e:X::W≠[]:=by simp
 have hk:CallKind.normal=.normal\/CallKind.normal=.deferred:=.inl F;obtain⟨n1,L1,g1⟩:=apn h e hg;obtain⟨aW,_,_,y⟩:=GP h.perm w cW cT cB;obtain⟨n2,L2,g2⟩:=g1.quiet 4 (q_h g l S D n N M (w.heap.size+i) (w.heap.size+j) (w.heap.size+k) V (X::W)) e;obtain⟨c,A,z,cl,a,b,iJ,e1,r,e3⟩:=wa hk e al (asW g l S D n N M (w.heap.size+i) (w.heap.size+j) (w.heap.size+k) V) g2;cases e1;have r:(jI w (arr i j cW cT cB)).heap[w.heap.size+i]?=Z (.chan A z cl a b iJ):=r;rw[aW]at r;cases r;obtain⟨_,f,B⟩:=e3 F;have f:fA LL _ ⟨aX 55 (Ci g l S D n N M (w.heap.size+i) (w.heap.size+j) (w.heap.size+k) V) qH [2] [.code .ret] [] .normal,X::W,(jI w (arr i j cW cT cB)).setChan (w.heap.size+i) 1 #[.agg #[ay D,ay (w.heap.size+j)]] Y 1 0 Y⟩ 1:=f;have B:Good LL R ⟨aX 55 (Ci g l S D n N M (w.heap.size+i) (w.heap.size+j) (w.heap.size+k) V) qH [2] [.code .ret] [] .normal,X::W,(jI w (arr i j cW cT cB)).setChan (w.heap.size+i) 1 #[.agg #[ay D,ay (w.heap.size+j)]] Y 1 0 Y⟩:=B;have JO:=dD G;have x:((jI w (arr i j cW cT cB)).setChan (w.heap.size+i) 1 #[.agg #[ay D,ay (w.heap.size+j)]] Y 1 0 Y).heap[M]?=Z (.cells gF 142):=by
  rw[heap_setChan _ (dD aW),if_neg ah,y M JO];exact G
 obtain⟨n4,u⟩:=apC (b:=M) (as7 g l S D n N M (w.heap.size+i) (w.heap.size+j) (w.heap.size+k) V (X::W)) ⟨F,F,trivial⟩ x;have g4:=B.mL u e;obtain⟨n5,C,g5⟩:=g4.quiet 2 (as1 g l S D n N M (w.heap.size+i) (w.heap.size+j) (w.heap.size+k) V (X::W)) e;generalize nf:(jI w (arr i j cW cT cB)).setChan (w.heap.size+i) 1 #[.agg #[ay D,ay (w.heap.size+j)]] Y 1 0 Y=s at f x u C;have E:(ic s M #[ay (w.heap.size+i),ay (w.heap.size+j)] 142).heap[M]?=Z (.cells #[ay (w.heap.size+i),ay (w.heap.size+j)] 142):=by
  have:=dD x;simp[ic,this]
 have L6:=apF (L:=LL) (w:=ic s M #[ay (w.heap.size+i),ay (w.heap.size+j)] 142) (a:=X) (l:=W) (td:=[.code .ret]) aoB (t:=Ci g l S D n N M (w.heap.size+i) (w.heap.size+j) (w.heap.size+k) V) (v:=.agg #[ay (w.heap.size+i),ay (w.heap.size+j)]) λτ d=>by
  have H:=QC (b:=M) (as0 g l S D n N M (w.heap.size+i) (w.heap.size+j) (w.heap.size+k) V) ⟨F,F,trivial⟩ (re (ic s M #[ay (w.heap.size+i),ay (w.heap.size+j)] 142) τ d) #[] E;rw[Ji (show(re (ic s M #[ay (w.heap.size+i),ay (w.heap.size+j)] 142) τ d).heap[M]?=_ from E)]at H;rw[<-ya _ _ _ #[],H]
 have j7:=((((L1.trans L2).trans f).trans u).trans C).trans L6;rw[<-nf]at j7;exact⟨_,1,0,j7⟩
end
theorem CW(w:ax){b a:Nat}(c:af ag)(t:aK)(h:a≠b):(ic w b c t).heap[a]?=w.heap[a]?:=by
 show(w.heap.setIfInBounds b _)[a]?=_;rw[iK (λe=>h e.symm)]
theorem eQ.blk{w:ax}{v:ag}{d:aj (aK×Nat)}(h:eQ w a v d){b:Nat}(c:af ag)(t:aK)(f:a.block≠b):eQ (ic w b c t) a v d:=by
 have e:=CW w c t f;refine⟨?_,?_,?_⟩
 ·have:=h.cell;unfold fU at this⊢;rw[e];exact this
 ·have:=h.free;unfold qj at this⊢;rw[e];exact this
 ·have:=h.shape;unfold fF at this⊢;rw[e];exact this
theorem wK.blk{k:dU}{w:ax}(h:wK k w){b:Nat}(c:af ag)(t:aK)(a:k.wb≠b)(d:k.sb≠b)(e:k.S≠b):wK k (ic w b c t):=⟨h.work.blk c t a,h.told.blk c t a,h.store.blk c t d,h.done.blk c t e⟩
structure Fence(St:Nat->Loc->Prop)(Shun:Loc->Prop)(ao:Nat->aj YS)(N0:Nat):Prop where
 U8:∀i y,ao i=Z y->∃k B0,y=wY k B0/\k.wb<N0/\k.sb<N0/\k.S<N0/\k.W<N0/\k.D<N0
 st:∀g l,St g l->∃a,l=.cell a/\a.block<N0
 mO:∀l,Shun l->∃a,l=.cell a/\a.block<N0
theorem Fence.chan{St:Nat->Loc->Prop}{Shun:Loc->Prop}{ao:Nat->aj YS}{N0:Nat}(F:Fence St Shun ao N0){i:Nat}{y:YS}{c:Nat}(f:ao i=Z y)(e:y.s.has c):c<N0:=by
 obtain⟨k,a,rfl,_,_,_,b,d⟩:=F.U8 i y f;rcases(A0 k a).1 e with rfl|rfl
 ·exact b
 ·exact d
theorem Fence.push{St:Nat->Loc->Prop}{Shun:Loc->Prop}{ao:Nat->aj YS}{N0:Nat}(F:Fence St Shun ao N0){i:Nat}{y:YS}(b:ao i=Z y)(w:ax)(o:Obj)(a:y.K w):y.K (bW w o):=by
 obtain⟨k,c,rfl,_⟩:=F.U8 i y b;exact wK.push a o
theorem Fence.blk{St:Nat->Loc->Prop}{Shun:Loc->Prop}{ao:Nat->aj YS}{N0:Nat}(F:Fence St Shun ao N0){i:Nat}{y:YS}(d:ao i=Z y){b:Nat}(l:N0<=b)(c:af ag)(t:aK)(w:ax)(a:y.K w):y.K (ic w b c t):=by
 obtain⟨k,e,rfl,f,g,j,_⟩:=F.U8 i y d;exact wK.blk a c t ah ah ah
theorem Fence.write{St:Nat->Loc->Prop}{Shun:Loc->Prop}{ao:Nat->aj YS}{N0:Nat}(F:Fence St Shun ao N0){b i:Nat}(d:N0<=b):(∀g,¬St g (.cell (bn b i)))/\¬Shun (.cell (bn b i)):=⟨λg h=>by obtain⟨a,e,c⟩:=F.st g _ h;cases e;simp only at c;omega,λh=>by obtain⟨a,e,c⟩:=F.mO _ h;cases e;simp only at c;omega⟩
section
variable {St At:Nat->Loc->Prop}{Shun:Loc->Prop}{ao:Nat->aj YS}{h B n N0:Nat}{T:ed}{m:fT}{X:ax}{z:jj}{S N M:Nat}{V R Q P:ag}{W:ae aA}
theorem acE(F:Fence St Shun ao N0):∀(o:ae Nat)(s:(ag×ag×ag×ag)×ax),4∉o->yy o (FE s.1.2.1) (FE s.1.2.2.1)=U->N0<=s.2.heap.size->dI ak St At Shun ao h B n s.2 m T 0 (·=sR z S N M s.1.1 s.1.2.1 s.1.2.2.1 s.1.2.2.2 (o++[4]) W)->∀f,f=o.foldl (rL c0 c0 (.cells gF 142) (ptr · 0)) s->dI ak St At Shun ao h B n f.2 m T 0 (·=sR z S N M f.1.1 f.1.2.1 f.1.2.2.1 f.1.2.2.2 [4] W)
 |[],s,_,_,_,H,f,b=>by subst b;exact H
 |i::o,s,k,a,l,H,f,b=>by
  have j:=λi y a w r p=>F.push (i:=i) (y:=y) a w r p;have kc:∀i y c,ao i=Z y->y.s.has c->c<s.2.heap.size:=λi y c a q=>pA (F.chan a q) l;have g:∀(o:Obj),N0<=(bW s.2 o).heap.size:=λo=>by rw[size_push];omega
  have e:4∉o:=λh=>k (eK _ h);have d:=acE F o (rL c0 c0 (.cells gF 142) (ptr · 0) s i) e
  match i,a,b,d with
  |0,a,b,d=>exact d a (g _) (H.new (so0 ..) rfl j kc) f b
  |1,a,b,d=>exact d a (g _) (H.new (PH ..) rfl j kc) f b
  |2,a,b,d=>
   obtain⟨⟨V,R,Q,P⟩,w⟩:=s;simp only[yy,gT]at a;obtain⟨u,rfl⟩:=OP a.1.1;obtain⟨v,rfl⟩:=OP a.1.2;exact d a.2 l (H.quiet 1 (PI ..)) f b
  |3,a,b,d=>exact d a (g _) (H.new (PL ..) rfl j kc) f b
  |4,_,_,_=>exact absurd (eX ..) k
theorem atF{o:ae Nat}{i j k:Nat}(b:Ord o i j k)(F:Fence St Shun ao N0)(q:N0<=X.heap.size)(t:X.heap.size+3<=B)(H:dI ak St At Shun ao h B n X m T 0 (·=sR z S N M V R Q P o W)):dI ak St At Shun ao h B n (ic (jI X (arr i j c0 c0 (.cells gF 142))) (X.heap.size+k) #[ay (X.heap.size+i),ay (X.heap.size+j)] 142) m T 0 (·=sR z S N M (ptr (X.heap.size+k) 0) (ay (X.heap.size+i)) (ay (X.heap.size+j)) (.agg #[ay (X.heap.size+i),ay (X.heap.size+j)]) [] W):=by
 have r:=(GP b.perm X c0 c0 (.cells gF 142)).2.2.1;have u:=b.perm;have l:∀e∈dm [iR.ev ⟨.cell (bn (X.heap.size+k) 0),U,Y⟩,.ev ⟨.cell (bn (X.heap.size+k) 1),U,Y⟩],∃a,e.loc=.cell a/\e.sync=Y/\(e.write=U->∀g,¬St g (.cell a))/\¬Shun (.cell a):=λe d=>by
  simp only[dm,bM,gV,or_false]at d;rcases d with rfl|rfl
  ·exact⟨_,rfl,rfl,λ_=>(F.write ah).1,(F.write ah).2⟩
  ·exact⟨_,rfl,rfl,λ_=>(F.write ah).1,(F.write ah).2⟩
 have e:o=o.dropLast++[4]:=by cases b<;>rfl
 rw[e]at H;have f:=acE F o.dropLast ((V,R,Q,P),X) (by cases b<;>simp) (by cases b<;>rfl) q H _ (Eq.trans (b.fold c0 c0 (.cells gF 142) (ptr · 0) _ X).symm (by cases b<;>rfl));exact f.blk (axT ..) ⟨rfl,rfl,trivial⟩ r (λi y c w p=>F.blk c ah _ _ w p) (λi y x c s=>by have:=F.chan c s;omega) l ah
end
section
variable {P:aD}{R At:Nat->Loc->Prop}{X:Loc->Prop}{O:Nat->aj YS}{h d B n:Nat}{T:ed}{m:fT}{L:ax}{g:aH}{Q:aH->Prop}
theorem dI.ayl(H:dI P R At X O h B n L m T d (·=g))(o:g.status=.running)(l:∀w,AtRel L w->∃c a,aE P (h==0) g w=.go c (w.at a) #[]/\Q c):dI P R At X O h B n L m T d Q:=by
 refine H.split λx e J w j G q p u C D=>?_;subst e;have:=C.told (sl:=j) u o (Q:=λr k E=>r=d/\Q k/\AtRel w E) λa=>by
  obtain⟨c,f,s,t⟩:=l _ (atRel_trans _ _ _ D ⟨a,F⟩);exact⟨c,(w.at a).at f,#[],s,⟨λ_ _ _ _ _=>rfl,λi y e A=>(C.yd.wf i y e).2.2.1 _ _ A,λe v=>by simp at v⟩,F,t,⟨f,F⟩⟩
 rw[p]at this;exact this
end
theorem Core.Yi{Hid}{R At}{X}{O}{D}{A}{B n}{w W}(C:Core Hid R At X O D A I B n w W):Fence R X O W.heap.size:=by
 have E:=C.rel.size;refine⟨λi y v=>?_,λg l c=>?_,λl c=>?_⟩
 ·obtain⟨k,x,s,o,J,_,_,q,rfl⟩:=C.B8 v
  have l:=C.ft.k k x;obtain⟨s',r,G,H⟩:=l.p9;have p:=C.ft.s _ r;obtain⟨_,_,t⟩:=p.lone;obtain⟨_,_,u⟩:=l.work;have f:=dD t;have K:=dD u;have j:=wq p.sh.2;exact⟨k,q,F,dD l.rR,dD l.uo,by omega,by omega,by omega⟩
 ·obtain⟨f,a,rfl,_⟩:=C.rN g l c
  exact⟨a,F,by have:=(C.rel.m9 a f).1;omega⟩
 ·obtain⟨s,o,e⟩:=(C.mO l).1 c
  have j:=wq (C.ft.s s o).sh.2;rcases e with rfl|rfl<;>exact⟨_,rfl,j⟩
section
variable (z:jj)(S N M W T b:Nat)(V:ae aA)
theorem aut:oI ak N (aN ak 1 (G (Pn z S) V))=Z (s1 z S N V,.cells #[ptr S 0] 39):=al
theorem aur:oI ak M (s1 z S N V)=Z (s2 z S N M V,.cells gF 142):=al
theorem aBf(o):(⟨⟨55,sT z [ptr S 0,ptr N 0,ptr M 0] 2,.inRegion vZ o::Tv,[],.run,.normal,I⟩,V,.running,I,I⟩)=sR z S N M (z.t 2) (z.t 3) (z.t 4) (z.t 5) o V:=al
theorem auz:xd ak 39 #[ptr S 0] (sR z S N M (ptr b 0) (ay W) (ay T) (.agg #[ay W,ay T]) [] V)=Z (s3 z S N M W T b V,#[ptr S 0],[.ev ⟨.cell (bn N 0),Y,Y⟩]):=al
end
def qY(W:ax)(S i j k:Nat):ax:=ic (jI (bW (bW W (.cells #[ptr S 0] 39)) (.cells gF 142)) (arr i j c0 c0 (.cells gF 142))) (W.heap.size+2+k) #[ay (W.heap.size+2+i),ay (W.heap.size+2+j)] 142
theorem ayc{s}(b:Base s)(hj:s.dN=I){S}{z}(J:s.fr=Pn z S){a}{l}(K:s.cs=a::l){t}(qG:s.B<=t)(sI:s.W.heap.size+5<=t):∃i j k o,Ord (tp U vZ ((Question.order 55 1).cut (s.W.tape o (.order 55 1)))) i j k/\∃m T,(∃N,iz ak N s.m s.T=(.next m,T))/\dI ak s.St s.At s.Shun s.ao s.h t s.gs.size (qY s.W S i j k) m T 0 (·=G (bO ak 93 #[ptr S 11,ai 1] .normal) (D7 z S s.W.heap.size (s.W.heap.size+1) (s.W.heap.size+2+i) (s.W.heap.size+2+j) (s.W.heap.size+2+k)::a::l)):=by
 have C:=b.core;rw[hj]at C;have F:=C.Yi;obtain⟨β,hm,Tg,iG,C0,_⟩:=b.first (by rw[J,K];exact Li _ _ _ _ _ (.inl rfl) _ (.inr (.inr (.inr rfl))));have C1:=C0.mono qG;rw[J,K]at iG;generalize q:s.W.heap.size=N at*;have H:=dI.begin (sl:=s.sl) C1.Cs iG;rw[Tg]at H;have H1:=H.new (aut z S N _) q (λi y f w ob p=>F.push f w _ p) λi y c f v=>F.chan f v;have H2:=H1.new (aur z S N _ _) (by rw[size_push,q]) (λi y f w ob p=>F.push f w _ p) λi y c f v=>by have:=F.chan f v;omega
 have H3:=H2.quiet _ (auv z S N _ _);have H4:=H3.ayl (Q:=λg=>∃o,g=sR z S N (N+1) (z.t 2) (z.t 3) (z.t 4) (z.t 5) (tp U vZ ((Question.order 55 1).cut (s.W.tape o (.order 55 1)))) (a::l)) rfl λw⟨dd,hw⟩=>by
  refine⟨_,_,G5 al w,w.drawn,?_⟩;subst hw;rfl
 obtain⟨n1,m6,r,jV,T1,q1,d1,a1,r1,r2,r3,r4,e,⟨o,e5⟩,⟨d2,u⟩⟩:=H4;subst e e5;obtain⟨i,j,k,A⟩:=arl _;refine⟨i,j,k,o,A,_,_,⟨1+n1,kK hm r1⟩,?_⟩;have D0:=dI.begin (sl:=jV) r4 r3;rw[r2]at D0;have ju:r.heap.size=N+2:=by
  have:r.heap=(bW (bW s.W (.cells #[ptr S 0] 39)) (.cells gF 142)).heap:=by rw[u];rfl
  rw[this,size_push,size_push,q]
 have D:=atF A F ah ah D0;rw[ju]at D;have hp:=A.perm;have qJ:(ic (jI r (arr i j c0 c0 (.cells gF 142))) (N+2+k) #[ay (N+2+i),ay (N+2+j)] 142).heap[N]?=Z (.cells #[ptr S 0] 39):=by
  rw[CW _ _ _ ah,(GP hp _ _ _ _).2.2.2 N ah];have:r.heap=(bW (bW s.W (.cells #[ptr S 0] 39)) (.cells gF 142)).heap:=by rw[u];rfl
  rw[this,lM,size_push,if_neg ah,lM,if_pos q.symm]
 have E:=D.blk (b:=N) (auz z S N _ _ _ _ _) ⟨rfl,trivial⟩ qJ (λi' y f w p=>F.blk f (dt _) _ _ w p) (λi' y x f hx=>by have:=F.chan f hx;omega) (λe he=>by
  simp only[dm,bM,gV,or_false]at he;subst he;exact⟨_,rfl,rfl,(λh=>by cases h),(F.write (dt _)).2⟩) ah
 rw[Ji qJ]at E;have D3:=E.quiet 3 (auu z S N _ _ _ _ _);obtain⟨n2,jz,w2,jv,T2,q2,d3,a2,k1,k2,k3,k4,k5,k6,k7⟩:=D3;refine⟨n2,jz,w2,jv,T2,q2,d3,a2,k1,k2,k3,k4,k5,k6,?_⟩;subst u;subst q;obtain⟨d5,rfl⟩:=k7;exact⟨d5,rfl⟩
theorem eQ.of_heap{w w'}{a}{v}{c}(h:eQ w a v c)(e:w'.heap[a.block]?=w.heap[a.block]?):eQ w' a v c:=by
 refine⟨?_,?_,?_⟩
 ·have:=h.cell;unfold fU at this⊢;rw[e];exact this
 ·have:=h.free;unfold qj at this⊢;rw[e];exact this
 ·have:=h.shape;unfold fF at this⊢;rw[e];exact this
structure ae3(W W0:ax)(S i j k:Nat):Prop where
 size:W0.heap.size=W.heap.size+5
 old:∀x,x<W.heap.size->W0.heap[x]?=W.heap[x]?
 sb:W0.heap[W.heap.size]?=Z (.cells #[ptr S 0] 39)
 m:W0.heap[W.heap.size+1]?=Z (.cells gF 142)
 cw:W0.heap[W.heap.size+2+i]?=Z c0
 ct:W0.heap[W.heap.size+2+j]?=Z c0
 wb:W0.heap[W.heap.size+2+k]?=Z (.cells #[ay (W.heap.size+2+i),ay (W.heap.size+2+j)] 142)
theorem M7{i j k}(h:i<3/\j<3/\k<3/\i≠j/\i≠k/\j≠k)(W)(S):ae3 W (qY W S i j k) S i j k:=by
 have g:(bW (bW W (.cells #[ptr S 0] 39)) (.cells gF 142)).heap.size=W.heap.size+2:=by rw[size_push,size_push]
 obtain⟨d,e,f,c⟩:=GP h ..;rw[g]at d e f c;unfold qY;refine⟨?_,λx o=>?_,?_,?_,?_,?_,?_⟩
 ·simp[ic,ace,size_push]
 ·rw[CW _ _ _ ah,c x ah,l8 _ _ (by rw[size_push];omega),l8 _ _ o]
 ·rw[CW _ _ _ ah,c _ ah,l8 _ _ (by rw[size_push];omega),lM,if_pos F]
 ·rw[CW _ _ _ ah,c _ ah,lM,size_push,if_pos F]
 ·rw[CW _ _ _ ah];exact d
 ·rw[CW _ _ _ ah];exact e
 ·have:=dD f
  show((jI .. ).heap.setIfInBounds .. )[_]?=_;rw[kJ this]
theorem Core.Rp{Hid}{V At}{X}{R}{D}{q}{B n}{w W}(C:Core Hid V At X R D q I B n w W)(r:∀g l,V g l->¬X l){c}(s:c∈q):Gate V R (λx=>x=⟨c.S,11,I⟩\/x=⟨c.S,12,I⟩):=by
 have t:∀b,(b=⟨c.S,11,I⟩\/b=⟨c.S,12,I⟩)->X (.cell b):=λb d=>(C.mO _).2 ⟨c,s,d.imp (λe=>by rw[e]) λe=>by rw[e]⟩;refine⟨λb d g u=>r g _ u (t b d),λb d i y A w v j=>?_⟩;obtain⟨k,_,_,_,_,_,_,E,rfl⟩:=C.B8 A;have f:∀x o,(o=0\/o=1\/o=10)->b≠bn x o:=λx o G e=>by
  grind
 have p:b.spot=I:=by rcases d with rfl|rfl<;>rfl
 exact(⟨tf j.work (f _ _ (.inl rfl)) p,tf j.told (f _ _ (.inr (.inl rfl))) p,tf j.store (f _ _ (.inl rfl)) p,tf j.done (f _ _ (.inr (.inr rfl))) p⟩)
section
variable {V At:Nat->Loc->Prop}{X:Loc->Prop}{R:Nat->aj YS}{h B n:Nat}{T:ed}{m:fT}{W0:ax}{z:jj}{S N M W Q b cnt:Nat}{a:aA}{l:ae aA}
theorem aya(i:Gate V R (λx=>x=⟨S,11,I⟩\/x=⟨S,12,I⟩))(g:S<B)(aC:cnt<9)(c:eQ W0 (bn S 11) (jD cnt) (Z (109,14)))
  (H:dI ak V At X R h B n W0 m T 0 (·=G (bO ak 93 #[ptr S 11,ai 1] .normal) (D7 z S N M W Q b::a::l))):
  dI ak V At X R h B n (W0.setCell (bn S 11) (jD (cnt+1))) m T 0 (·=s5 z S N M W Q b (a::l) [1]):=by
 have d:jm ak V At X R h B n ⟨S,11,I⟩ W0 m T 0 (jD cnt) (G (bO ak 93 #[ptr S 11,ai 1] .normal) (D7 z S N M W Q b::a::l)):=by
  show dI ak V At X R h B n (W0.setCell (bn S 11) (jD cnt)) m T 0 (·=_);rw[xQ c.cell];exact H
 have e:=afJ aC i (.inl F) (.inr F) g c d;have f:=e;exact f.quiet _ (auy z S N M W _ b _)
end
theorem ai4:Tryz.prog.funcs[55]?=Z Tryz.f55:=al
section
variable (z:jj)(S N M W T b:Nat)(X:ae aA)
theorem auw:xd ak 142 #[ay W,ay T] (s5 z S N M W T b X [])=Z (s6 z S N M W T b X,#[ay W,ay T],[.ev ⟨.cell (bn b 0),Y,Y⟩,.ev ⟨.cell (bn b 1),Y,Y⟩]):=al
theorem auA:xd ak 142 gF (s6 z S N M W T b X)=Z (s7 z S N M W T b X,#[ay W,ay T],[.ev ⟨.cell (bn M 0),U,Y⟩,.ev ⟨.cell (bn M 1),U,Y⟩]):=al
theorem auB:qu ak 142 (results Tryz.f55 (Pm z S N M W T b (.tuple #[]) (Ri N b) (.agg #[ay W,ay T]))) #[ay W,ay T]=Z (.agg #[ay W,ay T],#[ay W,ay T],[.ev ⟨.cell (bn M 0),Y,Y⟩,.ev ⟨.cell (bn M 1),Y,Y⟩]):=al
theorem aus{c}{a}{l}{w}(e:w.heap[M]?=Z (.cells #[ay W,ay T] 142)):aE ak c (s8 z S N M W T b (a::l)) w=.go (G (a.finish (.agg #[ay W,ay T])) l) w (seen ak 55 #[⟨.cell (bn M 0),Y,Y⟩,⟨.cell (bn M 1),Y,Y⟩]):=by
 have d:=QC (auB z S N M W T b) ⟨F,F,trivial⟩ w #[] e;rw[Ji e]at d;simp only[dm]at d;simp only[G,s8,aE,lT,ai4,d,rW];simp[mx]
end
theorem Sf{w:ax}{v x:ag}(h:w.cell? a=Z x){b:Nat}(g:b≠a.block):(w.setCell a v).heap[b]?=w.heap[b]?:=by
 obtain⟨c,t,f,d,e,_⟩:=kQ h;rw[heap_setCell d e,if_neg g]
theorem afi{k:dU}{w:ax}(h:wK k w)(d:k.sb≠k.wb)(e:k.S≠k.wb):wK k (ic w k.wb #[ay k.W,ay k.T] 142):=by
 obtain⟨c,t,f,b,_⟩:=kQ h.work.cell;have g:=dD b;have a:(ic w k.wb #[ay k.W,ay k.T] 142).heap[k.wb]?=Z (.cells #[ay k.W,ay k.T] 142):=by
  show(w.heap.setIfInBounds _ _)[_]?=_;rw[kJ g]
 exact⟨xe a (by unfold fU;rw[a];rfl),xe a (by unfold fU;rw[a];rfl),h.store.blk _ _ d,h.done.blk _ _ e⟩
theorem ayd(b:Base s)(h0:s.h=0)(hj:s.dN=I){f:dg}(cX:f∈s.ss)(aF:f.st=Y)(aC:f.n<9){z:jj}{a:aA}{l:ae aA}{i j k:Nat}(hp:i<3/\j<3/\k<3/\i≠j/\i≠k/\j≠k){m:fT}{T:ed}{r:Nat}(qG:s.B<=r)(sI:s.W.heap.size+5<=r)
  (H:dI ak s.St s.At s.Shun s.ao s.h r s.gs.size (qY s.W f.S i j k) m T 0 (·=G (bO ak 93 #[ptr f.S 11,ai 1] .normal) (D7 z f.S s.W.heap.size (s.W.heap.size+1) (s.W.heap.size+2+i) (s.W.heap.size+2+j) (s.W.heap.size+2+k)::a::l))):
  ∃n gs W' sl T' q,iz ak n m T=(.next (crowd gs W' sl),T')/\gs.size=s.gs.size+1/\gs[0]?=Z (G (a.finish (.agg #[ay (s.W.heap.size+2+i),ay (s.W.heap.size+2+j)])) l)/\
   fg ak (um s.St s.gs.size (uC ⟨s.gs.size,f.S,s.W.heap.size+2+i,s.W.heap.size+2+j,f.D,s.W.heap.size+2+k,s.W.heap.size⟩)) (um s.At s.gs.size (P5 ⟨s.gs.size,f.S,s.W.heap.size+2+i,s.W.heap.size+2+j,f.D,s.W.heap.size+2+k,s.W.heap.size⟩)) s.Shun (od s.ao s.gs.size (Z (wY ⟨s.gs.size,f.S,s.W.heap.size+2+i,s.W.heap.size+2+j,f.D,s.W.heap.size+2+k,s.W.heap.size⟩ r))) 0 r T' gs W' q/\
   AtRel (ic ((qY s.W f.S i j k).setCell (bn f.S 11) (jD (f.n+1))) (s.W.heap.size+1) #[ay (s.W.heap.size+2+i),ay (s.W.heap.size+2+j)] 142) W':=by
 have C:=b.core;rw[hj]at C;have L:=C.ft;have F:=C.Yi;have M:=L.s f cX;have D:=M7 hp s.W f.S;have De:=wq M.sh.2;obtain⟨i3,j3,k3,oV,ι,Dj⟩:=hp;have uQ:eQ s.W (bn f.S 11) (jD f.n) (Z (109,14)):=by
  have:=M.cnt;rw[aF]at this;exact M.at C.rel this
 have R:eQ (qY s.W f.S i j k) (bn f.S 11) (jD f.n) (Z (109,14)):=uQ.of_heap (D.old _ De);have H1:=aya (C.Rp b.hold.past.apart cX) ah aC R H;generalize Y4:qY s.W f.S i j k=S at*;generalize hN:s.W.heap.size=N at*;have Q:∀x,x≠f.S->(S.setCell (bn f.S 11) (jD (f.n+1))).heap[x]?=S.heap[x]?:=λx hx=>Sf R.cell hx;generalize ε:S.setCell (bn f.S 11) (jD (f.n+1))=Wc at*;have γ:=D.size;have QZ:=D.old;have Ye:=D.sb;have em:=D.m;have XZ:=D.cw;have β:=D.ct;have Q3:=D.wb;rw[hN]at γ QZ Ye em XZ β Q3;obtain⟨n1,m6,A,jV,T1,q1,d1,a1,r1,r2,r3,r4,e,e5,⟨d2,dM⟩⟩:=H1;subst e e5;rw[h0]at r3 r4;have P:A.heap=Wc.heap:=by rw[dM];rfl
 have C1:=r4.xX;generalize u:(⟨s.gs.size,f.S,N+2+i,N+2+j,f.D,N+2+k,N⟩:dU)=o;obtain⟨dj,Hj⟩:=M.real;rw[aF]at Hj;have yG:f.D<N:=by rw[<-hN];exact dD Hj
 have Db:f.D≠f.S:=λe=>by
  obtain⟨d,_,J⟩:=M.cells C.rel;rw[<-e,Hj]at J;cases J
 have EU:A.heap[f.D]?=Z (.chan 0 #[] Y dj dj Y):=by
  rw[P,Q _ Db,QZ _ yG];exact Hj
 have O:wK o A:=by
  subst u;have hb:A.heap[N+2+k]?=Z (.cells #[ay (N+2+i),ay (N+2+j)] 142):=by rw[P,Q _ ah];exact Q3
  have hs:A.heap[N]?=Z (.cells #[ptr f.S 0] 39):=by rw[P,Q _ ah];exact Ye
  have NO:eQ S (bn f.S 10) (ay f.D) (Z (109,14)):=(M.at C.rel M.done).of_heap (QZ _ De);refine⟨xe hb (by unfold fU;rw[hb];rfl),xe hb (by unfold fU;rw[hb];rfl),xe hs (by unfold fU;rw[hs];rfl),?_⟩;have J:eQ (S.setCell (bn f.S 11) (jD (f.n+1))) (bn f.S 10) (ay f.D) (Z (109,14)):=tf NO ba rfl;rw[ε]at J;exact J.of_heap (by rw[P])
 have Hk:o.W≠o.D:=by subst u;simp only;omega
 have j8:P6 o r:=by subst u;exact⟨by simp only;omega,by simp only;omega,by simp only;omega,by simp only;omega,by simp only;omega,by simp only;omega⟩
 have NS:GF s.Shun s.ao m6.size r A (wY o r):=by
  refine⟨aeK o r Hk,λc R=>?_,λB y' gu X=>?_,⟨λc R=>?_,dt _⟩,O,λl hl=>?_⟩
  ·rcases(A0 o r).1 R with rfl|rfl
   ·subst u
    exact⟨0,by rw[P,Q _ (by simp only;omega)];exact XZ⟩
   ·subst u
    exact⟨dj,EU⟩
  ·obtain⟨k',cI,_,_,_,_,_,B0,rfl⟩:=C.B8 X
   have l':=L.k k' cI;obtain⟨p,q,h1⟩:=l'.work;have hw:=dD h1;obtain⟨sa,sb,Ny⟩:=M.lone;have bJ:=C.rel.size;have bx:=λW=>F.chan (c:=o.W) X W;refine⟨λW=>?_,λW=>?_⟩
   ·have J:=bx W
    subst u;simp only at J;omega
   ·rcases(A0 o r).1 W with e|e
    ·have e:k'.W=o.W:=e
     subst u;simp only at e;omega
    ·have e:k'.W=o.D:=e
     subst u;exact L.tN h1 Ny ah e
  ·rcases(A0 o r).1 R with rfl|rfl
   ·exact j8.W
   ·exact j8.D
  ·rcases hl with rfl|rfl|rfl|rfl
   ·exact⟨rfl,C.qQ ah ah⟩
   ·exact⟨rfl,C.qQ ah ah⟩
   ·exact⟨rfl,C.qQ ah ah⟩
   ·exact⟨rfl,C.qQ ah ah⟩
 obtain⟨nh,sQ⟩:=avw o j8;obtain⟨n2,T2,jz,d3,jv,q2,u1,u2,u3,C2⟩:=C1.hire (sl:=jV) (Ac:=P5 o) r3 rfl (λd=>by subst u;exact auD z f.S N (N+1) (N+2+i) (N+2+j) (N+2+k) (a::l) s.gs.size f.D _ _) ba NS (iy.1 r3).1 sQ;rw[r2]at C2 u2;have θ:o.W=N+2+i:=by subst u;rfl
 have η:o.T=N+2+j:=by subst u;rfl
 have Hz:o.wb=N+2+k:=by subst u;rfl
 have yT:o.sb=N:=by subst u;rfl
 have μ:o.S=f.S:=by subst u;rfl
 have κ:o.D=f.D:=by subst u;rfl
 have R8:∀{B:Nat}{y:YS},od s.ao s.gs.size (Z (wY o r)) B=Z y->(y=wY o r)\/s.ao B=Z y:=λ{B y}t=>by
  by_cases e:B=s.gs.size
  ·rw[e,rS]at t;exact .inl (ee t).symm
  ·rw[kl e]at t;exact .inr t
 have cP:∀(bb:Nat),N<=bb->bb≠N+2+i->∀B y x,od s.ao s.gs.size (Z (wY o r)) B=Z y->y.s.has x->x≠bb:=λbb h1 J B y x t hx=>by
  rcases R8 t with rfl|t
  ·rcases(A0 o r).1 hx with rfl|rfl
   ·omega
   ·omega
  ·have:=F.chan t hx;omega
 have V:(A.at d3).heap[N+2+k]?=Z (.cells #[ay (N+2+i),ay (N+2+j)] 142):=by
  show A.heap[_]?=_;rw[P,Q _ ah];exact Q3
 have NA:(A.at d3).heap[N+1]?=Z (.cells gF 142):=by
  show A.heap[_]?=_;rw[P,Q _ ah];exact em
 have E0:=dI.begin (sl:=jv) C2.Cs u3;rw[u2]at E0;have E1:=E0.blk (b:=N+2+k) (auw z f.S N (N+1) (N+2+i) (N+2+j) (N+2+k) (a::l)) ⟨rfl,rfl,trivial⟩ V (λB y t w O=>by
  rcases R8 t with rfl|t
  ·have:=afi (k:=o) (w:=w) O ah ah
   rw[θ,η,Hz]at this;exact this
  ·exact F.blk t ah _ _ w O) (cP _ ah ah) (λe v=>by
  simp only[dm,bM,gV,or_false]at v;rcases v with rfl|rfl
  ·exact⟨_,rfl,rfl,(λh=>by cases h),C.qQ ah ah⟩
  ·exact⟨_,rfl,rfl,(λh=>by cases h),C.qQ ah ah⟩) ah
 rw[Ji V]at E1;have Z9:∀E g,¬um s.St s.gs.size (wY o r).St g (.cell (bn (N+1) E)):=λE g K=>by
  unfold um at K;split at K
  ·have K:uC o (.cell (bn (N+1) E)):=K
   rcases K with e|e|e|e
   ·simp only[Loc.cell.injEq,Addr.mk.injEq]at e;omega
   ·simp only[Loc.cell.injEq,Addr.mk.injEq]at e;omega
   ·simp only[Loc.cell.injEq,Addr.mk.injEq]at e;omega
   ·simp only[Loc.cell.injEq,Addr.mk.injEq]at e;omega
  ·exact(F.write (i:=E) ah).1 g K
 have E2:=E1.blk (b:=N+1) (auA z f.S N (N+1) (N+2+i) (N+2+j) (N+2+k) (a::l)) ⟨rfl,rfl,trivial⟩ NA (λB y t w O=>by
  rcases R8 t with rfl|t
  ·exact wK.blk (k:=o) O _ _ ah ah ah
  ·exact F.blk t ah _ _ w O) (cP _ ah ah) (λe v=>by
  simp only[dm,bM,gV,or_false]at v;rcases v with rfl|rfl
  ·exact⟨_,rfl,rfl,λ_=>Z9 0,C.qQ ah ah⟩
  ·exact⟨_,rfl,rfl,λ_=>Z9 1,C.qQ ah ah⟩) ah
 have E3:=E2.quiet 2 (auC z f.S N (N+1) (N+2+i) (N+2+j) (N+2+k) (a::l));have RJ:(ic (A.at d3) (N+1) #[ay (N+2+i),ay (N+2+j)] 142).heap[N+1]?=Z (.cells #[ay (N+2+i),ay (N+2+j)] 142):=by
  have:=dD NA;show((A.at d3).heap.setIfInBounds _ _)[_]?=_;rw[kJ this]
 have Z3:∀e∈seen ak 55 #[⟨.cell (bn (N+1) 0),Y,Y⟩,⟨.cell (bn (N+1) 1),Y,Y⟩],∃E,(E=0\/E=1)/\e=⟨.cell (bn (N+1) E),Y,Y⟩:=λe v=>by
  have v:=mem_seen v;simp only[ko,bM,gV,or_false]at v;rcases v with rfl|rfl
  ·exact⟨0,.inl rfl,rfl⟩
  ·exact⟨1,.inr rfl,rfl⟩
 have E4:=E3.act (g':=G (a.finish (.agg #[ay (N+2+i),ay (N+2+j)])) l) (d':=0) rfl (λw hw=>by
  have δ:w.heap[N+1]?=Z (.cells #[ay (N+2+i),ay (N+2+j)] 142):=by rw[GR hw];exact RJ
  refine⟨w,aus z f.S N (N+1) (N+2+i) (N+2+j) (N+2+k) δ,hw,λ_ _ _ _ _=>rfl,λ_ _ _ h=>h,λe v=>?_⟩;obtain⟨E,ζ,rfl⟩:=Z3 e v;refine⟨λy X=>?_,show N+1<r by omega⟩;simp only[gI,lS,gB]at X;subst X;exact⟨λ_ _=>rfl,λK=>absurd K (C.qQ ah ah)⟩) (deafBehind_still (λe v=>by
  obtain⟨E,ζ,rfl⟩:=Z3 e v;exact⟨by simp,by simp⟩) _)
 obtain⟨n3,Hf,w3,Ge,T3,q3,d4,a3,v1,v2,v3,v4,v5,v6,⟨d5,v7⟩⟩:=E4;subst v5 v6;refine⟨n1+n2+n3,Hf,w3,Ge,T3,q3,kK (kK r1 u1) v1,v2,v3,v4.xX,d5,?_⟩;rw[v7,dM];rfl
section
variable {fx:Obj->Prop}{Hid X:Loc->Prop}{w W:ax}
theorem Ga(w)(b)(c)(t):(ic w b c t).heap.size=w.heap.size:=by simp[ic]
theorem uR(w){b}(h:b<w.heap.size)(c)(t)(x):(ic w b c t).heap[x]?=if x=b then Z (.cells c t)else w.heap[x]?:=by
 by_cases e:x=b
 ·subst e
  rw[if_pos F];show(w.heap.setIfInBounds .. )[_]?=_;rw[kJ h]
 ·rw[if_neg e,CW _ _ _ e]
theorem Rel.atE(h:Rel fx Hid w W){b d s r}{a}{i tm}(g:w.heap[b]?=Z (.chan d a i s r tm)){c}(j:c.size≠0)(t):Rel fx Hid w (ic W b c t):=by
 have k:b<W.heap.size:=by rw[<-h.size];exact dD g
 refine⟨by rw[Ga];exact h.size,h.tape,h.drawn,h.os,h.output,λx o f=>?_,h.m9,h.pM⟩;rw[uR _ k];by_cases e:x=b
 ·subst e
  rw[g]at f;cases f;exact⟨_,if_pos F,.k8 _ _ _ _ _ _ _ ⟨j,F⟩⟩
 ·rw[if_neg e]
  exact h.obj x o f
theorem Rel.Pa(h:Rel fx Hid w W){a}{x}(g:w.cell? a=I)(u:W.cell? a=Z x)(v):Rel fx Hid w (W.setCell a v):=by
 obtain⟨C,t,f,l,k,z,d⟩:=kQ u;have n:=heap_setCell l k v;refine⟨by rw[size_setCell];exact h.size,h.tape,h.drawn,h.os,h.output,λb o j=>?_,h.m9,h.pM⟩;obtain⟨O,m,r⟩:=h.obj b o j;rw[n];by_cases e:b=a.block
 ·subst e
  rw[if_pos F];rw[l]at m;cases m;refine⟨_,F,?_⟩;cases r with
  |same _ A=>
   rw[ED j,k]at g;rw[d]at g;cases g
  |cut c _ _ q s aC=>
   rw[ED j,k]at g;have y:c.size<=a.off:=by simpa using g
   refine .cut _ _ _ q (λi p=>?_) (by simpa using aC);rw[iK ah];exact s i p
  |k8 _ _ _ _ _ _ _ d=>exact .k8 _ _ _ _ _ _ _ ⟨by simpa using d.1,d.2⟩
  |view _ _ d=>exact d.elim
 ·simp_all
theorem Rel.agx(h:Rel (bS ak) Hid w W){b}{c c'}{t}(k:w.heap[b]?=Z (.cells c t))(l:W.heap[b]?=Z (.cells c t))(q:c'.size=c.size):Rel (bS ak) Hid (ic w b c' t) (ic W b c' t):=by
 have i:=dD k;have p:=dD l;refine⟨by rw[Ga,Ga];exact h.size,h.tape,h.drawn,h.os,h.output,λx o d=>?_,λa m=>?_,λr n=>?_⟩
 ·rw[uR _ i]at d
  rw[uR _ p];by_cases e:x=b
  ·rw[if_pos e]at d⊢
   cases d;exact⟨_,F,.same _ trivial⟩
  ·rw[if_neg e]at d⊢
   exact h.obj x o d
 ·obtain⟨j,f⟩:=h.m9 a m
  refine⟨by rw[Ga];exact j,?_⟩;unfold fU at f⊢;rw[uR _ i];by_cases e:a.block=b
  ·simp_all
  ·simp_all
 ·obtain⟨j,f⟩:=h.pM r n
  refine⟨by rw[Ga];exact j,λo g=>?_⟩;rw[uR _ i]at g;split at g
  ·rename_i e
   have:=f _ (by rw[e];exact k);cases this
  ·exact f o g
theorem Rel.jI(h:Rel fx Hid w W){u UU}(e:∀m,∃c a f s r tm,u m=.chan c a f s r tm)(d:∀m b,Qt Hid b (UU m)):Rel fx Hid (jI w u) (jI W UU):=by
 obtain⟨_,_,_,_,_,_,g⟩:=e 0;obtain⟨_,_,_,_,_,_,i⟩:=e 1;obtain⟨_,_,_,_,_,_,j⟩:=e 2;unfold YtgahemdblfapeaaGreatDoor.jI;rw[g,i,j];exact((h.Ii (d 0 _) (λ_ h=>h) λ_ h=>.inl h).Ii (d 1 _) (λ_ h=>h) λ_ h=>.inl h).Ii (d 2 _) (λ_ h=>h) λ_ h=>.inl h
theorem Rel.cv(h:Rel fx Hid w W)(n:∀l,Hid l->X l)(d:∀l,X l->Hid l\/∃a,l=.cell a/\a.block<w.heap.size/\w.cell? a=I):Rel fx X w W:=by
 refine⟨h.size,h.tape,h.drawn,h.os,h.output,λb o k=>?_,λa j=>?_,λr m=>?_⟩
 ·obtain⟨O,f,g⟩:=h.obj b o k
  exact⟨O,f,g.bN λc=>(d _ c).resolve_right λ⟨a,e,_⟩=>by cases e⟩
 ·rcases d _ j with c|⟨i,e,f,g⟩
  ·exact h.m9 a c
  ·simp_all
 ·rcases d _ m with c|⟨i,e,_⟩
  ·exact h.pM r c
  ·cases e
end
def dg.more(s:dg):dg:={s with n:=s.n+1}
def nZ(S:Nat)(s:dg):dg:=if s.S=S then s.more else s
theorem xD(S)(s):(nZ S s).S=s.S:=by unfold nZ;split<;>rfl
theorem K1(S)(s):(nZ S s).D=s.D:=by unfold nZ;split<;>rfl
theorem K2(S)(s):(nZ S s).st=s.st:=by unfold nZ;split<;>rfl
structure Started(w W w' W':ax)(so:dg)(kk:dU):Prop where
 hand:∃a b,w'.heap[dO]?=Z (.chan 6 #[.chan I] Y a b Y)
 tok:∃a b,w'.heap[so.D]?=Z (.chan 2 #[db so.more] Y a b Y)
 chan:∀(b cap:Nat)(buf:af ag)(cl:Bool)(s r:Nat)(tm:Bool),b≠dO->b≠so.D->w.heap[b]?=Z (.chan cap buf cl s r tm)->∃s' r',w'.heap[b]?=Z (.chan cap buf cl s' r' tm)
 back:∀(b cap:Nat)(buf:af ag)(cl:Bool)(s r:Nat)(tm:Bool),b≠dO->b≠so.D->w'.heap[b]?=Z (.chan cap buf cl s r tm)->(∃s' r',w.heap[b]?=Z (.chan cap buf cl s' r' tm))\/(cl=Y/\tm=Y/\((b=kk.W/\cap=1)\/(b=kk.T/\cap=3)\/(cap=4/\buf=#[])))
 work:∃a b,w'.heap[kk.W]?=Z (.chan 1 #[rQ kk] Y a b Y)
 told:∃a b,w'.heap[kk.T]?=Z (.chan 3 #[] Y a b Y)
 wb:∃a b,w'.heap[kk.wb]?=Z (.chan 4 #[] Y a b Y)
 sb:∃a b,w'.heap[kk.sb]?=Z (.chan 4 #[] Y a b Y)
 cells:∀(b:Nat)c t f,w.heap[b]?=Z (.cells c t f)->w'.heap[b]?=Z (.cells c t f)
 zw:∃j,W'.heap[kk.T]?=Z (.chan 0 #[] Y j j Y)
 rR:W'.heap[kk.wb]?=Z (.cells #[ay kk.W,ay kk.T] 142)
 uo:W'.heap[kk.sb]?=Z (.cells #[ptr so.S 0] 39)
 CY:∀(b:Nat)cl j,W.heap[b]?=Z (.chan 0 #[] cl j j Y)->W'.heap[b]?=Z (.chan 0 #[] cl j j Y)
 rn:∀(b:Nat)c t f,b≠so.S->W.heap[b]?=Z (.cells c t f)->W'.heap[b]?=Z (.cells c t f)
 cnt:∀i v,W.cell? (bn so.S i)=Z v->W'.cell? (bn so.S i)=Z (if i=11 then jD (so.n+1)else v)
 sh:∀x,W.shape? so.S=Z x->W'.shape? so.S=Z x
 kS:kk.S=so.S
 kD:kk.D=so.D
 new:∀b:Nat,(∃o,w.heap[b]?=Z o)->b≠kk.W/\b≠kk.T
 grow:w.heap.size<=w'.heap.size
 azJ:∀(b:Nat)(u:aK),w.heap[b]?=Z (.view ⟨0,0,Z 0⟩ u)->w'.heap[b]?=Z (.view ⟨0,0,Z 0⟩ u)
 other:∀b:Nat,b<W.heap.size->b≠so.S->W'.heap[b]?=W.heap[b]?
section
variable {Hid T:Loc->Prop}{V:ae dU}{X:ae dg}{w W w' W':ax}{so:dg}{kk:dU}
theorem Started.dead(E:Started w W w' W' so kk)(L:fO Hid U V X w W)(k:Rel (bS ak) Hid w W)(d:so∈X):mU w W w' W':=by
 have a:=(L.s _ d).sh.1;have s:=k.size;obtain⟨m,n,q⟩:=L.gate;obtain⟨v,p,i,r,_⟩:=L.hand;refine⟨E.azJ,λb o=>?_,E.grow,λb i=>?_⟩
 rotate_left
 ·by_cases e:b=so.S
  ·obtain⟨_,g⟩:=(L.s _ d).sh
   rw[e,g];exact E.sh _ g
  ·unfold fF
   rw[E.other b ah e]
 have l:∀o,w.heap[b]?=Z o->(∀c t f,o≠.cells c t f)->W'.heap[b]?=W.heap[b]?:=λo h j=>by
  refine E.other b (by grind) λe=>?_;unfold fF at a;rw[<-e,h]at a;cases o with
  |cells c t f=>exact j c t f F
  |_=>cases a
 rcases o with⟨u,h⟩|rfl|rfl
 ·simp_all
 ·simp_all
 ·simp_all
theorem fO.start(L:fO Hid U V X w W)(z:so∈X)(aF:so.st=Y)(aC:so.n<9)(E:Started w W w' W' so kk)(J:∀l,Hid l->T l)(o:T (.cell (bn kk.wb 0))/\T (.cell (bn kk.wb 1))/\T (.cell (bn kk.sb 0)))(hg:∀k∈V,k.g≠kk.g):fO T U (kk::V) (X.map (nZ so.S)) w' W':=by
 obtain⟨hv,yO,yP,nC,_⟩:=L.hand;obtain⟨sa,sb,hD⟩:=(L.s _ z).lone;have D:∀{b g s r:Nat}{u}{N tm},g≠6->g≠2->w.heap[b]?=Z (.chan g u N s r tm)->∃v r',w'.heap[b]?=Z (.chan g u N v r' tm):=λ{b g s r u N tm}h6 m n=>E.chan b _ _ _ _ _ _ (L.tN n nC h6) (L.tN n hD m) n;have A:∀v,v∈X.map (nZ so.S)->∃s∈X,v=nZ so.S s:=λv h=>by grind
 have tZ:=λs d e=>L.u5 s d _ z e;have NC:∀s∈X,s.S≠so.S->nZ so.S s=s:=λs _ h=>by unfold nZ;rw[if_neg h]
 refine⟨λv Q=>?_,λk R=>?_,λb g u N x y tm n=>?_,?_,?_,?_,?_,?_,?_,?_,?_,?_,by rw[abr (xD _)];exact L.B6⟩
 ·obtain⟨s,d,rfl⟩:=A _ Q
  have l:=L.s s d;by_cases e:s.S=so.S
  ·obtain rfl:=tZ s d e
   have em:nZ s.S s=s.more:=by unfold nZ;rw[if_pos F]
   rw[em];obtain⟨k,o⟩:=l.real;refine⟨E.tok,⟨k,E.CY _ _ _ o⟩,⟨AV (E.cells _) l.sh.1,E.sh _ l.sh.2⟩,?_,?_,?_,?_,λi p m=>J _ (l.bN i p m),aC⟩
   ·have:=E.cnt _ _ l.done
    rw[if_neg ah]at this;exact this
   ·have:=E.cnt _ _ l.cnt
    rw[if_pos F]at this;show W'.cell? (bn s.S 11)=Z (jD (if s.st then 0 else s.n+1));rw[aF];exact this
   ·have:=E.cnt _ _ l.qW
    rw[if_neg ah]at this;exact this
   ·have:=E.cnt _ _ l.stop
    rw[if_neg ah]at this;exact this
  ·rw[NC s d e]
   have Db:=λh=>e (by rw[L.yZ s d _ z h]);obtain⟨a,b,hl⟩:=l.lone;obtain⟨k,o⟩:=l.real;exact⟨E.chan _ _ _ _ _ _ _ (L.tN hl nC ah) Db hl,⟨k,E.CY _ _ _ o⟩,⟨AV (E.cells _) l.sh.1,AV (λc t f=>E.rn _ c t f e) l.sh.2⟩,vE (λc t f=>E.rn _ c t f e) l.done,vE (λc t f=>E.rn _ c t f e) l.cnt,vE (λc t f=>E.rn _ c t f e) l.qW,vE (λc t f=>E.rn _ c t f e) l.stop,λi p m=>J _ (l.bN i p m),l.le⟩
 ·rcases bM.1 R with rfl|R
  ·obtain⟨p,m,S⟩:=o
   exact⟨⟨nZ so.S so,jg z,by rw[xD,E.kS],by rw[K1,E.kD]⟩,E.work,E.told,E.zw,E.wb,E.rR,E.sb,by rw[E.kS];exact E.uo,p,m,S⟩
  ·have l:=L.k k R
   obtain⟨s,d,O,P⟩:=l.p9;obtain⟨_,_,K⟩:=l.work;obtain⟨_,_,M⟩:=l.told;obtain⟨_,_,q3⟩:=l.wb;obtain⟨_,_,q4⟩:=l.sb;obtain⟨j,q5⟩:=l.zw;have sP:=(L.s _ z).sh.2;refine⟨⟨nZ so.S s,jg d,by rw[xD,O],by rw[K1,P]⟩,D ah ah K,D ah ah M,⟨j,E.CY _ _ _ q5⟩,D ah ah q3,E.rn _ _ _ _ (λe=>?_) l.rR,D ah ah q4,E.rn _ _ _ _ (λe=>?_) l.uo,J _ l.bN.1,J _ l.bN.2.1,J _ l.bN.2.2⟩
   ·unfold fF at sP
    rw[<-e,l.rR]at sP;cases sP
   ·unfold fF at sP
    rw[<-e,l.uo]at sP;cases sP
 ·by_cases O:b=dO
  ·subst O
   obtain⟨_,_,h⟩:=E.hand;rw[h]at n;cases n;exact⟨rfl,rfl,.hand rfl,λe=>by cases e⟩
  ·by_cases P:b=so.D
   ·subst P
    obtain⟨_,_,h⟩:=E.tok;rw[h]at n;cases n;exact⟨rfl,rfl,.done _ (jg z) (K1 _ _).symm,λe=>by cases e⟩
   ·rcases E.back b _ _ _ x y _ O P n with⟨_,_,h⟩|⟨rfl,rfl,⟨rfl,rfl⟩|⟨rfl,rfl⟩|⟨rfl,rfl⟩⟩
    ·obtain⟨p,m,S,h4⟩:=L.chans _ _ _ _ _ _ _ h
     refine⟨p,m,?_,h4⟩;cases S with
     |work k o e=>exact .work k (eK _ o) e
     |done s d e=>exact .done _ (jg d) (by grind)
     |told k o e=>exact .told k (eK _ o) e
     |box=>exact .box
     |gate e=>exact .gate e
     |hand e=>exact .hand e
    ·exact⟨F,F,.work _ (eX ..) F,λe=>by cases e⟩
    ·exact⟨F,F,.told _ (eX ..) F,λe=>by cases e⟩
    ·exact⟨F,F,.box,λ_=>rfl⟩
 ·obtain⟨a,b,h⟩:=L.gate
  rw[TO λs _=>K2 _ s];exact D ah ah h
 ·obtain⟨a,b,h⟩:=E.hand
  exact⟨.chan I,a,b,h,.inl F⟩
 ·have β:∀k∈V,k.W≠kk.W:=λk o=>by
   obtain⟨_,_,q⟩:=(L.k k o).work;exact(E.new _ ⟨_,q⟩).1
  intro k H k' G e;rcases bM.1 H with rfl|B
  ·grind
  ·rcases bM.1 G with rfl|C
   ·simp_all
   ·exact L.DF k B _ C e
 ·have β:∀k∈V,k.T≠kk.T:=λk o=>by
   obtain⟨_,_,q⟩:=(L.k k o).told;exact(E.new _ ⟨_,q⟩).2
  intro k H k' G e;rcases bM.1 H with rfl|B
  ·grind
  ·rcases bM.1 G with rfl|C
   ·simp_all
   ·exact L.DD k B _ C e
 ·intro k H k' G e
  rcases bM.1 H with rfl|B
  ·grind
  ·rcases bM.1 G with rfl|C
   ·exact absurd e (hg k B)
   ·exact L.AF k B _ C e
 ·intro s1 p s2 m e
  obtain⟨t1,K,rfl⟩:=A _ p;obtain⟨t2,M,rfl⟩:=A _ m;rw[K1,K1]at e;rw[L.yZ _ K _ M e]
 ·intro s1 p s2 m e
  obtain⟨t1,K,rfl⟩:=A _ p;obtain⟨t2,M,rfl⟩:=A _ m;rw[xD,xD]at e;rw[L.u5 _ K _ M e]
 ·intro v Q
  obtain⟨s,d,rfl⟩:=A _ Q;have hc:=L.count s d;rw[xD,Ej];by_cases e:s.S=so.S
  ·obtain rfl:=tZ s d e
   have n:(kk.S==s.S)=U:=by simp[E.kS]
   rw[if_pos n];unfold nZ;rw[if_pos rfl];show _+1=s.n+1;rw[hc]
  ·have n:(kk.S==s.S)=Y:=by
    rw[E.kS];simpa usingλh=>e h.symm
   rw[if_neg (by rw[n];simp),NC s d e];exact hc
 ·exact oO.2 ⟨λh=>hg _ h F,L.nodup⟩
end
def Cv(a:ax)(D i j p q:Nat):ax:=ic ((jI (bW (bW a (.chan 4 #[] Y 0 0 Y)) (.cells gF 142)) (arr i j cW cT cB)).setChan (a.heap.size+2+i) 1 #[.agg #[ay D,ay (a.heap.size+2+j)]] Y p q Y) (a.heap.size+1) #[ay (a.heap.size+2+i),ay (a.heap.size+2+j)] 142
def wC(W:ax)(S n i j k:Nat):ax:=ic ((qY W S i j k).setCell (bn S 11) (jD (n+1))) (W.heap.size+1) #[ay (W.heap.size+2+i),ay (W.heap.size+2+j)] 142
structure afu(w2 w':ax)(D i j k:Nat):Prop where
 size:w'.heap.size=w2.heap.size+5
 old:∀x,x<w2.heap.size->w'.heap[x]?=w2.heap[x]?
 sb:w'.heap[w2.heap.size]?=Z (.chan 4 #[] Y 0 0 Y)
 m:w'.heap[w2.heap.size+1]?=Z (.cells #[ay (w2.heap.size+2+i),ay (w2.heap.size+2+j)] 142)
 cw:∃p q,w'.heap[w2.heap.size+2+i]?=Z (.chan 1 #[.agg #[ay D,ay (w2.heap.size+2+j)]] Y p q Y)
 ct:w'.heap[w2.heap.size+2+j]?=Z (.chan 3 #[] Y 0 0 Y)
 wb:w'.heap[w2.heap.size+2+k]?=Z (.chan 4 #[] Y 0 0 Y)
theorem aaQ{i j k}(h:i<3/\j<3/\k<3/\i≠j/\i≠k/\j≠k)(a)(D p q):afu a (Cv a D i j p q) D i j k:=by
 have l:(bW (bW a (.chan 4 #[] Y 0 0 Y)) (.cells gF 142)).heap.size=a.heap.size+2:=by rw[size_push,size_push]
 obtain⟨e,f,g,d⟩:=GP h ..;rw[l]at e f g d;have c:=dD e;unfold Cv;have m:(jI (bW (bW a (.chan 4 #[] Y 0 0 Y)) (.cells gF 142)) (arr i j cW cT cB)).heap.size=a.heap.size+5:=by rw[ace,l]
 generalize (jI (bW (bW a (.chan 4 #[] Y 0 0 Y)) (.cells gF 142)) (arr i j cW cT cB))=o at e f g d c m;have b:a.heap.size+1<(o.setChan (a.heap.size+2+i) 1 #[.agg #[ay D,ay (a.heap.size+2+j)]] Y p q Y).heap.size:=by rw[size_setChan];omega
 refine⟨by rw[Ga,size_setChan];exact m,λx n=>?_,?_,?_,?_,?_,?_⟩
 ·rw[uR _ b,if_neg ah,heap_setChan _ c,if_neg ah,d x ah,l8 _ _ (by rw[size_push];omega),l8 _ _ n]
 ·rw[uR _ b,if_neg ah,heap_setChan _ c,if_neg ah,d _ ah,l8 _ _ (by rw[size_push];omega),lM,if_pos F]
 ·rw[uR _ b,if_pos F]
 ·exact⟨p,q,by rw[uR _ b,if_neg ah,heap_setChan _ c,if_pos F]⟩
 ·rw[uR _ b,if_neg ah,heap_setChan _ c,if_neg ah];exact f
 ·rw[uR _ b,if_neg ah,heap_setChan _ c,if_neg ah];exact g
theorem ay1(X:dg)(h:X.st=Y):tk X.S X.n=db X.more:=by
 show Value.agg #[ptr X.S 0,ai ((X.n)+1),.bool Y]=.agg #[ptr X.S 0,ai ((X.n+1:Nat)),.bool X.st];have e:((X.n+1:Nat))=(X.n:Int)+1:=by omega
 rw[h,e]
section
variable {Hid:Loc->Prop}{S:ae dU}{T:ae dg}{w R V W:ax}{X:dg}
def pW(g:Nat)(X:dg)(N i j k:Nat):dU:=⟨g,X.S,N+2+i,N+2+j,X.D,N+2+k,N⟩
def Uk(Hid:Loc->Prop)(N k:Nat)(l:Loc):Prop:=Hid l\/l=.cell (bn (N+2+k) 0)\/l=.cell (bn (N+2+k) 1)\/l=.cell (bn N 0)
theorem aye(L:fO Hid U S T w W)(hr:Rel (bS ak) Hid w W)(cX:X∈T)(aF:X.st=Y){i j k}(E:i<3/\j<3/\k<3/\i≠j/\i≠k/\j≠k){a b x y p q p' q'}
  (nC:∃v c d,w.heap[dO]?=Z (.chan 6 #[v] Y c d Y))(hA:Alike (w.setChan dO 6 #[.chan I] Y a b Y) V)(N:V.heap[X.D]?=Z (.chan 2 #[db X] Y x y Y)):
  Rel (bS ak) (Uk Hid W.heap.size k) (Cv ((V.setChan X.D 2 #[] Y x (y+1) Y).setChan X.D 2 #[tk X.S X.n] Y p q Y) X.D i j p' q') (wC W X.S X.n i j k):=by
 obtain⟨v,c,d,hh⟩:=nC;have r1:=(hr.sV hh).alike hA;have r2:=r1.sV (cap':=2) (buf':=#[]) (cl':=Y) (s':=x) (r':=y+1) (tm':=Y) N;have gd:(V.setChan X.D 2 #[] Y x (y+1) Y).heap[X.D]?=Z (.chan 2 #[] Y x (y+1) Y):=oQ _ N _ _ _ _ _ _;have H:=r2.sV (cap':=2) (buf':=#[tk X.S X.n]) (cl':=Y) (s':=p) (r':=q) (tm':=Y) gd;generalize (V.setChan X.D 2 #[] Y x (y+1) Y).setChan X.D 2 #[tk X.S X.n] Y p q Y=e at H;have z:=H.size;have G:=L.s _ cX;have De:=wq G.sh.2;have r4:Rel (bS ak) Hid (bW e (.chan 4 #[] Y 0 0 Y)) (bW W (.cells #[ptr X.S 0] 39)):=H.Ii ⟨by simp,F⟩ (λ_ h=>h) λ_ h=>.inl h;have r5:Rel (bS ak) Hid (bW (bW e (.chan 4 #[] Y 0 0 Y)) (.cells gF 142)) (bW (bW W (.cells #[ptr X.S 0] 39)) (.cells gF 142)):=(r4.push (o:=.cells gF 142) trivial).1;have r6:=r5.jI (u:=arr i j cW cT cB) (UU:=arr i j c0 c0 (.cells gF 142)) (λm=>by
  unfold arr;split
  ·simp
  ·grind) λm f=>by
  unfold arr;split
  ·trivial
  ·split
   ·trivial
   ·exact⟨by simp[gF],F⟩
 have hs:(bW (bW e (.chan 4 #[] Y 0 0 Y)) (.cells gF 142)).heap.size=e.heap.size+2:=by rw[size_push,size_push]
 obtain⟨C,h2,K,M⟩:=GP E _ _ _ _;rw[hs]at C h2 K M;have P:=r6.atE K (c:=#[ay (W.heap.size+2+i),ay (W.heap.size+2+j)]) ba 142;have eW:ic (jI (bW (bW W (.cells #[ptr X.S 0] 39)) (.cells gF 142)) (arr i j c0 c0 (.cells gF 142))) (e.heap.size+2+k) #[ay (W.heap.size+2+i),ay (W.heap.size+2+j)] 142=qY W X.S i j k:=by rw[z];rfl
 rw[eW]at P;have Q:=P.sV (cap':=1) (buf':=#[.agg #[ay X.D,ay (e.heap.size+2+j)]]) (cl':=Y) (s':=p') (r':=q') (tm':=Y) C;have D:=M7 E W X.S;have uQ:(qY W X.S i j k).cell? (bn X.S 11)=Z (jD X.n):=by
  have B:=G.cnt;rw[aF]at B;unfold fU at B⊢;rw[D.old _ De];exact B
 have Ke:(((jI (bW (bW e (.chan 4 #[] Y 0 0 Y)) (.cells gF 142)) (arr i j cW cT cB)).setChan (e.heap.size+2+i) 1 #[.agg #[ay X.D,ay (e.heap.size+2+j)]] Y p' q' Y)).cell? (bn X.S 11)=I:=by
  have A:=G.bN 11 ah ah;exact(Q.m9 _ A).2
 have r9:=Q.Pa Ke uQ (jD (X.n+1));have NA:((jI (bW (bW e (.chan 4 #[] Y 0 0 Y)) (.cells gF 142)) (arr i j cW cT cB)).setChan (e.heap.size+2+i) 1 #[.agg #[ay X.D,ay (e.heap.size+2+j)]] Y p' q' Y).heap[e.heap.size+1]?=Z (.cells gF 142):=by
  rw[heap_setChan _ (dD C),if_neg ah,M _ ah,lM,size_push,if_pos F]
 have RJ:((qY W X.S i j k).setCell (bn X.S 11) (jD (X.n+1))).heap[e.heap.size+1]?=Z (.cells gF 142):=by
  rw[Sf uQ (show e.heap.size+1≠X.S by omega),z];exact D.m
 have t:=r9.agx (c':=#[ay (e.heap.size+2+i),ay (e.heap.size+2+j)]) NA RJ F;have e1:ic ((qY W X.S i j k).setCell (bn X.S 11) (jD (X.n+1))) (e.heap.size+1) #[ay (e.heap.size+2+i),ay (e.heap.size+2+j)] 142=wC W X.S X.n i j k:=by rw[z];rfl
 rw[e1]at t;have J:=aaQ E e X.D p' q';refine Rel.cv t (λl h=>.inl h) λl h=>h.imp id λh=>?_;have β:∀(f O)n g s r,(Cv e X.D i j p' q').heap[f]?=Z (.chan n g Y s r Y)->f<(Cv e X.D i j p' q').heap.size/\(Cv e X.D i j p' q').cell? (bn f O)=I:=λf O n g s r h=>⟨dD h,by unfold fU;rw[h]⟩;have l1:=J.wb;have l2:=J.sb;rw[z]at l1 l2;rcases h with rfl|rfl|rfl
 ·grind
 ·grind
 ·grind
end
section
variable {Hid:Loc->Prop}{S:ae dU}{T:ae dg}{w V W:ax}{X:dg}
theorem ayf(L:fO Hid U S T w W)(hr:Rel (bS ak) Hid w W)(cX:X∈T)(aF:X.st=Y){i j k g}(hp:i<3/\j<3/\k<3/\i≠j/\i≠k/\j≠k){a b x y p q p' q'}
  (nC:∃v c d,w.heap[dO]?=Z (.chan 6 #[v] Y c d Y))(E:Alike (w.setChan dO 6 #[.chan I] Y a b Y) V)(hD:V.heap[X.D]?=Z (.chan 2 #[db X] Y x y Y)):
  Started w W (Cv ((V.setChan X.D 2 #[] Y x (y+1) Y).setChan X.D 2 #[tk X.S X.n] Y p q Y) X.D i j p' q') (wC W X.S X.n i j k) X (pW g X W.heap.size i j k):=by
 obtain⟨v,c,d,M⟩:=nC;obtain⟨sa,sb,P⟩:=(L.s _ cX).lone;have Zv:=dD M;have yG:=dD hD;have δ:=L.tN P M ah;have FB:V.heap.size=w.heap.size:=by rw[E.size,size_setChan]
 have bJ:=hr.size;have B:∀z:Nat,((V.setChan X.D 2 #[] Y x (y+1) Y).setChan X.D 2 #[tk X.S X.n] Y p q Y).heap[z]?=if z=X.D then Z (.chan 2 #[tk X.S X.n] Y p q Y)else V.heap[z]?:=λz=>by
  rw[heap_setChan _ (by rw[size_setChan];exact yG),heap_setChan _ yG];split<;>rfl
 have AE:((V.setChan X.D 2 #[] Y x (y+1) Y).setChan X.D 2 #[tk X.S X.n] Y p q Y).heap.size=W.heap.size:=by rw[size_setChan,size_setChan,FB,bJ]
 generalize (V.setChan X.D 2 #[] Y x (y+1) Y).setChan X.D 2 #[tk X.S X.n] Y p q Y=w2 at B AE;have C:=aaQ hp w2 X.D p' q';have DA:=M7 hp W X.S;have J:=C.old;have TE:=C.sb;have K:=C.m;have TD:=C.cw;have R:=C.ct;have TG:=C.wb;have TF:=C.size;rw[AE]at J TE K TD R TG TF;have ls:=L.s _ cX;have O:=wq ls.sh.2;have uQ:(qY W X.S i j k).cell? (bn X.S 11)=Z (jD X.n):=by
  have h0:=ls.cnt;rw[aF]at h0;unfold fU at h0⊢;rw[DA.old _ O];exact h0
 have Q:W.heap.size+1<((qY W X.S i j k).setCell (bn X.S 11) (jD (X.n+1))).heap.size:=by rw[size_setCell,DA.size];omega
 obtain⟨i3,j3,k3,oV,ε,Dj⟩:=id hp;have G:∀z,z≠W.heap.size+1->z≠X.S->(wC W X.S X.n i j k).heap[z]?=(qY W X.S i j k).heap[z]?:=λz m n=>by
  unfold wC;rw[uR _ Q,if_neg m,Sf uQ n]
 have D:∀z,z<W.heap.size->(Cv w2 X.D i j p' q').heap[z]?=if z=X.D then Z (.chan 2 #[tk X.S X.n] Y p q Y)else V.heap[z]?:=λz hz=>by rw[J z hz,B]
 have H:∀z:Nat,z≠dO->(w.setChan dO 6 #[.chan I] Y a b Y).heap[z]?=w.heap[z]?:=λz h=>by rw[heap_setChan _ Zv,if_neg h]
 refine⟨?_,?_,λz γ β cl s r tm m n l=>?_,λz γ β cl s r tm m n l=>?_,?_,?_,?_,?_,λz cc t f h=>?_,?_,?_,?_,λz cl j' h=>?_,λz cc t f m n=>?_,λN vv h=>?_,λxx h=>?_,F,F,λz⟨o,h⟩=>?_,by rw[TF];omega,λz u h=>?_,λz m n=>?_⟩
 ·have h:(w.setChan dO 6 #[.chan I] Y a b Y).heap[dO]?=Z (.chan 6 #[.chan I] Y a b Y):=by rw[heap_setChan _ Zv,if_pos F]
  obtain⟨s',r',h'⟩:=E.np h;exact⟨s',r',by rw[D _ ah,if_neg (λe=>δ e.symm)];exact h'⟩
 ·exact⟨p,q,by rw[D _ ah,if_pos F,ay1 _ aF]⟩
 ·have A:=dD l
  obtain⟨s',r',h'⟩:=E.np (by rw[H z m];exact l);exact⟨s',r',by rw[D _ ah,if_neg n];exact h'⟩
 ·have A:=dD l
  rw[TF]at A;by_cases aC:z<W.heap.size
  ·rw[D _ aC,if_neg n]at l
   obtain⟨s0,r0,h4⟩:=E.chan l;rw[H z m]at h4;exact .inl ⟨_,_,h4⟩
  ·refine .inr ?_
   have:z=W.heap.size\/z=W.heap.size+1\/z=W.heap.size+2+i\/z=W.heap.size+2+j\/z=W.heap.size+2+k:=by omega
   rcases this with rfl|rfl|rfl|rfl|rfl
   ·rw[TE]at l;cases l;exact⟨rfl,rfl,.inr (.inr ⟨rfl,rfl⟩)⟩
   ·rw[K]at l;cases l
   ·obtain⟨_,_,h5⟩:=TD
    rw[h5]at l;cases l;exact⟨rfl,rfl,.inl ⟨rfl,rfl⟩⟩
   ·rw[R]at l;cases l;exact⟨rfl,rfl,.inr (.inl ⟨rfl,rfl⟩)⟩
   ·rw[TG]at l;cases l;exact⟨rfl,rfl,.inr (.inr ⟨rfl,rfl⟩)⟩
 ·exact TD
 ·exact⟨_,_,R⟩
 ·exact⟨_,_,TG⟩
 ·exact⟨_,_,TE⟩
 ·have A:=dD h
  have m:z≠dO:=λe=>by rw[e,M]at h;cases h
  have n:z≠X.D:=λe=>by rw[e,P]at h;cases h
  rw[D _ ah,if_neg n];have l:(w.setChan dO 6 #[.chan I] Y a b Y).heap[z]?=Z (.cells cc t f):=by rw[H z m];exact h
  rcases E.obj z with e|⟨_,_,_,_,_,_,_,_,f1,_⟩
  ·rw[e];exact l
  ·rw[l]at f1;cases f1
 ·exact⟨0,by rw[G _ (by simp only[pW];omega) (by simp only[pW];omega)];exact DA.ct⟩
 ·rw[G _ (by simp only[pW];omega) (by simp only[pW];omega)];exact DA.wb
 ·rw[G _ (by simp only[pW];omega) (by simp only[pW];omega)];exact DA.sb
 ·have A:=dD h
  have m:z≠X.S:=λe=>by
   obtain⟨dd,_,n⟩:=ls.cells hr;rw[e,n]at h;cases h
  rw[G _ ah m,DA.old _ A];exact h
 ·have A:=dD n
  rw[G _ ah m,DA.old _ A];exact n
 ·have Dz:(qY W X.S i j k).cell? (bn X.S N)=Z vv:=by
   unfold fU at h⊢;rw[DA.old _ O];exact h
  have e1:(wC W X.S X.n i j k).cell? (bn X.S N)=((qY W X.S i j k).setCell (bn X.S 11) (jD (X.n+1))).cell? (bn X.S N):=by
   unfold wC fU;rw[uR _ Q,if_neg (by simp only;omega)]
  rw[e1,zZ uQ];by_cases e:N=11
  ·subst e;rw[if_pos F,if_pos F]
  ·rw[if_neg e,if_neg (λh=>e (by simpa using h))]
   exact Dz
 ·have e1:(wC W X.S X.n i j k).shape? X.S=((qY W X.S i j k).setCell (bn X.S 11) (jD (X.n+1))).shape? X.S:=by
   unfold wC fF;rw[uR _ Q,if_neg ah]
  rw[e1,zp uQ];unfold fF at h⊢;rw[DA.old _ O];exact h
 ·have A:=dD h
  simp only[pW];omega
 ·have A:=dD h
  have m:z≠dO:=λe=>by rw[e,M]at h;cases h
  have n:z≠X.D:=λe=>by rw[e,P]at h;cases h
  rw[D _ ah,if_neg n];rcases E.obj z with e|⟨_,_,_,_,_,_,_,_,f,_⟩
  ·rw[e,H z m];exact h
  ·rw[H z m,h]at f;cases f
 ·rw[G z ah n,DA.old z m]
end
theorem aiz(a):bO LL 55 a .normal=⟨55,pad 13 a,[.code (FI.body.getD .skip)],[],.run,.normal,I⟩:=al
noncomputable def Xh:bH:=((Tryz.prog.funcs[55]?).bind (·.body)).getD .skip
theorem aiI(a):bO ak 55 a .normal=⟨55,pad 13 a,[.code Xh],[],.run,.normal,I⟩:=al
def K'(a:af ag):jj:=⟨λi=>(pad 13 a).getD (i+1) aB,(pad 13 a).toList.drop 13⟩
theorem aiy(a):bO LL 55 a .normal=Ik (K' a) ((pad 13 a).getD 0 aB):=by
 rw[aiz];show _=(⟨55,bI 13 (dc (λi=>(pad 13 a).getD (i+1) aB) _) ((pad 13 a).toList.drop 13),[.code (FI.body.getD .skip)],[],.run,.normal,I⟩:aA);rw[<-It _ _ (Ce .. )]
theorem aiH(a){S}(h:(pad 13 a).getD 0 aB=ptr S 0):bO ak 55 a .normal=Pn (K' a) S:=by
 rw[aiI];show _=(⟨55,bI 13 (dc (λi=>(pad 13 a).getD (i+1) aB) (ptr S 0)) ((pad 13 a).toList.drop 13),[.code Xh],[],.run,.normal,I⟩:aA);rw[<-h,<-It _ _ (Ce .. )]
theorem ayb{Hid}{R At}{p}{T}{Q}{A}{B v n}{w W P D}(C:Core Hid R At p T Q A I B n w W){a}(q:a∈A)(S:a.st=Y)(aC:a.n<9){i j k}(hp:i<3/\j<3/\k<3/\i≠j/\i≠k/\j≠k)(h0:0<n)(hB:W.heap.size+5<=v)
  (pR:Rel (bS ak) (Uk Hid W.heap.size k) P D)(E:Started w W P D a (pW n a W.heap.size i j k))(bJ:D.heap.size=W.heap.size+5):
  Core (Uk Hid W.heap.size k) (um R n (uC (pW n a W.heap.size i j k))) (um At n (P5 (pW n a W.heap.size i j k))) p (od T n (Z (wY (pW n a W.heap.size i j k) v))) (pW n a W.heap.size i j k::Q) (A.map (nZ a.S)) I v (n+1) P D:=by
 have L:=C.ft;generalize r:pW n a W.heap.size i j k=K at*;have V:K.g=n:=by subst r;rfl
 have O:K.S=a.S:=by subst r;rfl
 have o:∀m∈Q,m.g≠n:=λm b=>by have:=(C.g0 _ b).2;omega
 have N:∀x,x∈A.map (nZ a.S)->∃s∈A,x=nZ a.S s:=λx h=>by grind
 have tZ:=λs f e=>L.u5 s f _ q e;have j8:P6 K v:=by
  have G:=wq (L.s _ q).sh.2;obtain⟨_,_,H⟩:=(L.s _ q).lone;have h3:=dD H;have h4:=C.rel.size;subst r;exact⟨by simp only[pW];omega,by simp only[pW];omega,by omega,by simp only[pW];omega,by simp only[pW];omega,by simp only[pW];omega⟩
 refine⟨pR,L.start q S aC E (λl h=>.inl h) (by subst r;exact⟨.inr (.inl F),.inr (.inr (.inl F)),.inr (.inr (.inr F))⟩) (λm b=>by simp_all),by omega,λg l c=>?_,λl=>?_,λm b l c=>?_,λg l c=>?_,λm b l c=>?_,λm b x z t u=>?_,λm b x z t u=>?_,λii y J=>?_,λm b=>?_,λj' X=>by cases X⟩
 ·unfold um at c
  split at c
  ·have M:=(L.s _ q).bN 10 ah ah
   rcases c with rfl|rfl|rfl|rfl
   ·subst r;exact⟨.inr (.inl rfl),_,rfl,zH rfl⟩
   ·subst r;exact⟨.inr (.inr (.inl rfl)),_,rfl,zH rfl⟩
   ·subst r;exact⟨.inr (.inr (.inr rfl)),_,rfl,zH rfl⟩
   ·rw[O];exact⟨.inl M,_,rfl,zH rfl⟩
  ·obtain⟨G,H⟩:=C.rN g l c
   exact⟨.inl G,H⟩
 ·rw[C.mO]
  constructor
  ·rintro⟨s,f,h⟩
   exact⟨nZ a.S s,jg f,by rw[xD];exact h⟩
  ·rintro⟨x,z,h⟩
   obtain⟨s,f,rfl⟩:=N _ z;rw[xD]at h;exact⟨s,f,h⟩
 ·unfold um
  rcases bM.1 b with rfl|d
  ·simp_all
  ·rw[if_neg (o _ d)];exact C.zX _ d l c
 ·unfold um at c
  split at c
  ·refine(C.mO l).2 ⟨a,q,?_⟩
   rw[<-O];exact c
  ·exact C.Bq g l c
 ·unfold um
  rcases bM.1 b with rfl|d
  ·simp_all
  ·rw[if_neg (o _ d)];exact C.cS _ d l c
 ·obtain⟨s,f,rfl⟩:=N _ z
  rw[xD]at t;rw[K2]at u;rcases bM.1 b with rfl|d
  ·exact⟨v,by rw[V];exact rS,j8⟩
  ·rw[kl (o _ d)]
   exact C.zl _ d s f t u
 ·obtain⟨s,f,rfl⟩:=N _ z
  rw[xD]at t;rw[K2]at u;rcases bM.1 b with rfl|d
  ·simp_all
  ·rw[kl (o _ d)]
   exact C.gone _ d s f t u
 ·by_cases e:ii=n
  ·subst e
   rw[rS]at J;cases J;exact .inl ⟨K,eX ..,nZ a.S a,jg q,by rw[xD,O],by rw[K2];exact S,V,v,rfl⟩
  ·rw[kl e]at J
   obtain⟨m,b,s,f,t,u,e3,B0,rfl⟩:=C.B8 J;exact .inl ⟨m,eK _ b,nZ a.S s,jg f,by rw[xD];exact t,by rw[K2];exact u,e3,B0,rfl⟩
 ·rcases bM.1 b with rfl|d
  ·omega
  ·obtain⟨G,H⟩:=C.g0 _ d
   exact⟨G,by omega⟩
theorem tI.h0{s}(k:tI s)(a:s.dN=I):s.h=0:=by
 cases k with
 |main _ b _=>exact b
 |work j e=>rw[a]at e;cases e
 |back j e=>rw[a]at e;cases e
theorem apU{R}{s}(i:Inv s)(hg:Good LL R s.cu)(hf:tE s){o a}{r l}{e}(hc:ky s.E o r a l\/s.E o r a l)(e1:s.fr'=bO LL 55 e .normal)(e2:s.cs'=o::r)(e3:s.fr=bO ak 55 e .normal)(e4:s.cs=a::l):∃X k n b,Inv X/\Real s X/\0<k/\ku LL s.cu X.cu k n b:=by
 have b:=i.base;have C:=b.core;have L:=C.ft;have eO:=i.below hc;have K:o::r≠[]:=by simp
 rw[aiy]at e1;have qK:s.cu=⟨Ik (K' e) ((pad 13 e).getD 0 aB),o::r,s.w⟩:=by unfold eC.cu;rw[e1,e2]
 rw[qK]at hg⊢;obtain⟨Fj,f,u,hp,n1,g,w1,ha,hb,x,y,_,_,N,O,L1,g1⟩:=aps L C.rel eO K hg;rw[hp]at L1 g1⊢;have A:=Option.isNone_iff_eq_none.1 Fj;have h0:=i.nH.h0 A;rw[A]at C L;have Q:=(L.s _ u).le;obtain⟨G,aC,n2,j,⟨p2,q2,ma⟩,L2,g2⟩:=apt K Q O g1;have nC:∃v c d,s.w.heap[dO]?=Z (.chan 6 #[v] Y c d Y):=by
  obtain⟨v,c,d,h,_⟩:=L.hand;exact⟨v,c,d,h⟩
 have AE:j.heap.size=s.W.heap.size:=by
  rw[ma,size_setChan,size_setChan,N.size,size_setChan];exact C.rel.size
 rw[aiH _ hp]at e3;have qG:s.B<=max s.B (s.W.heap.size+5):=Nat.le_max_left _ _;have sI:s.W.heap.size+5<=max s.B (s.W.heap.size+5):=Nat.le_max_right _ _;obtain⟨B,D,V,d0,ho,m,T,⟨N0,tT⟩,H⟩:=ayc b A e3 e4 qG sI;have z:=ho.perm;have J:=apk (t:=bI 13 (ov g (Lh f.S f.D f.n j.heap.size (j.heap.size+1) f.st)) (K' e).l) (cs:=o::r) (w:=bW (bW j (.chan 4 #[] Y 0 0 Y)) (.cells gF 142)) λi q=>s.W.tape (d0+i) q;have gD:=g2.wy J K;rw[asn]at J gD;have S:(bW (bW j (.chan 4 #[] Y 0 0 Y)) (.cells gF 142)).heap.size=j.heap.size+2:=by rw[size_push,size_push]
 have hM:(bW (bW j (.chan 4 #[] Y 0 0 Y)) (.cells gF 142)).heap[j.heap.size+1]?=Z (.cells gF 142):=by rw[lM,size_push,if_pos F]
 obtain⟨n3,W,q3,L3⟩:=apu ho hM gD;rw[S]at L3;obtain⟨n4,gs,W',sl,T',q,r1,r2,r3,r4,⟨M,r5⟩⟩:=ayd b h0 A u G aC z qG sI H;have pR:=aye (p':=W) (q':=q3) (p:=p2) (q:=q2) L C.rel u G z nC N O;have hE:=ayf (g:=s.gs.size) (p':=W) (q':=q3) (p:=p2) (q:=q2) L C.rel u G z nC N O;rw[<-ma]at pR hE;have bJ:(wC s.W f.S f.n B D V).heap.size=s.W.heap.size+5:=by
  unfold wC;rw[Ga,size_setCell,(M7 z _ _).size]
 have P:0<s.gs.size:=by
  have:=(iy.1 b.top).1;omega
 have Al:=ayb C u G aC z P sI pR hE bJ;rw[<-r2]at Al;have BC:=Al.re M;have E:W'=(wC s.W f.S f.n B D V).at M:=r5;rw[<-E]at BC;obtain⟨s1,EY,⟨N2,vI⟩,f1,f2,f3,f4,f5,f6,_,_,⟨τ,d,f7⟩,_,dW,eW⟩:=settle r4 r3 BC _ _;have bG:s1.cu=⟨o.finish (.agg #[ay (j.heap.size+2+B),ay (j.heap.size+2+D)]),r,re (re (Cv j f.D B D W q3) (wC s.W f.S f.n B D V).tape M) τ d⟩:=by unfold eC.cu;rw[f1,f2,f7,AE]
 obtain⟨kk,nn,aa,hk,hL⟩:∃k n b,0<k/\ku LL ⟨Ik (K' e) (ptr f.S 0),o::r,s.w⟩ s1.cu k n b:=by
  rw[bG];exact⟨(n1+n2)+1+n3,(0+1)+0,_,by omega,(((L1.trans L2).wy (a:=λ_ _=>0)).trans J).trans (L3.wy (a:=λ_ _=>0))⟩
 exact⟨s1,kk,nn,aa,⟨EY,i.nH.Qw hf (f5.trans h0.symm) (f6.trans A.symm) hc _ f1 f2 f3 f4⟩,⟨⟨N0+n4+N2,kK (kK tT r1) vI⟩,by
  have BD:=hE.dead L C.rel u;rw[eW,f7,E];exact(((BD.at _).at _).re _ _).re _ _⟩,hk,hL⟩
def dg.off(s:dg):dg:={s with st:=U}
def gH(S:Nat)(s:dg):dg:=if s.S=S then s.off else s
theorem AN(S:Nat)(s:dg):(gH S s).S=s.S:=by unfold gH;split<;>rfl
theorem Ia(S:Nat)(s:dg):(gH S s).D=s.D:=by unfold gH;split<;>rfl
theorem aqZ(S:Nat)(s:dg):(gH S s).n=s.n:=by unfold gH;split<;>rfl
theorem aq0{S:Nat}{s:dg}(h:(gH S s).st=Y):s.S≠S/\s.st=Y:=by
 unfold gH at h;split at h
 ·cases h
 ·exact⟨‹_›,h⟩
theorem aaN{so:dg}:∀{X:ae dg},(X.map (·.S)).Nodup->so∈X->so.st=Y->cY X=zu (cY (X.map (gH so.S)))
 |[],_,h,_=>by cases h
 |s::X,a,h,c=>by
  simp only[fw,oO]at a;rcases bM.1 h with rfl|h
  ·have b:gH so.S so=so.off:=by unfold gH;rw[if_pos rfl]
   have d:X.map (gH so.S)=X:=by
    have:X.map (gH so.S)=X.map id:=List.map_congr_left λs f=>by
     unfold gH;rw[if_neg λe=>a.1 (og.2 ⟨s,f,e⟩)];rfl
    rw[this,List.map_id]
   rw[fw,b,d];simp[cY,c,dg.off]
  ·have b:gH so.S s=s:=by
    unfold gH;rw[if_neg λe=>a.1 (og.2 ⟨so,h,e.symm⟩)]
   rw[fw,b];simp only[cY];rw[aaN a.2 h c];split<;>rfl
theorem ao6{X:ae dg}{so:dg}(b:∀s∈X,s.S=so.S->s=so)(a:so.st=U):cY (X.map (gH so.S))=cY X:=TO λs c=>by
                                                                                          unfold gH;split
                                                                                          ·rename_i e
                                                                                           rw[b s c e,a];rfl
                                                                                          ·rfl
structure Qr(w W w' W':ax)(so:dg):Prop where
 tok:∃a b,w'.heap[so.D]?=Z (.chan 2 #[db so.off] Y a b Y)
 chan:∀(b cap:Nat)(buf:af ag)(cl:Bool)(s r:Nat)(tm:Bool),b≠bw->b≠so.D->w.heap[b]?=Z (.chan cap buf cl s r tm)->∃s' r',w'.heap[b]?=Z (.chan cap buf cl s' r' tm)
 back:∀(b cap:Nat)(buf:af ag)(cl:Bool)(s r:Nat)(tm:Bool),b≠bw->b≠so.D->w'.heap[b]?=Z (.chan cap buf cl s r tm)->∃s' r',w.heap[b]?=Z (.chan cap buf cl s' r' tm)
 cells:∀(b:Nat)c t f,w.heap[b]?=Z (.cells c t f)->w'.heap[b]?=Z (.cells c t f)
 UZ:∃k,W'.heap[so.D]?=Z (.chan 0 #[] U k k Y)
 CY:∀(b:Nat)cl j,b≠so.D->W.heap[b]?=Z (.chan 0 #[] cl j j Y)->W'.heap[b]?=Z (.chan 0 #[] cl j j Y)
 rn:∀(b:Nat)c t f,b≠so.S->W.heap[b]?=Z (.cells c t f)->W'.heap[b]?=Z (.cells c t f)
 cnt:∀i v,W.cell? (bn so.S i)=Z v->W'.cell? (bn so.S i)=Z (if i=11 then jD 0 else if i=12 then .int .u32 0 else if i=13 then .bool U else v)
 sh:∀x,W.shape? so.S=Z x->W'.shape? so.S=Z x
section
variable {Hid:Loc->Prop}{V:Bool}{T:ae dU}{X:ae dg}{w W w' W':ax}{so:dg}
theorem fO.stop(L:fO Hid V T X w W)(A:so∈X)(E:Qr w W w' W' so)(R:∃a b,w'.heap[bw]?=Z (.chan 5 (if V then#[cY (X.map (gH so.S))]else#[]) Y a b Y)):fO Hid V T (X.map (gH so.S)) w' W':=by
 obtain⟨sa,sb,P⟩:=(L.s so A).lone;obtain⟨_,_,N⟩:=L.gate;have z:∀{b d s r:Nat}{i:af ag}{B tm:Bool},d≠5->d≠2->w.heap[b]?=Z (.chan d i B s r tm)->∃o r',w'.heap[b]?=Z (.chan d i B o r' tm):=λ{b d s r i B tm}h5 m n=>E.chan b _ _ _ _ _ _ (L.tN n N h5) (L.tN n P m) n;have q:∀o,o∈X.map (gH so.S)->∃s∈X,o=gH so.S s:=λo h=>by obtain⟨s,p,m⟩:=og.1 h;exact⟨s,p,m.symm⟩
 have tZ:∀s∈X,s.S=so.S->s=so:=λs g e=>L.u5 s g so A e;have S:∀s∈X,s.S≠so.S->gH so.S s=s:=λs _ h=>by unfold gH;rw[if_neg h]
 refine⟨λo H=>?_,λk cI=>?_,λb d i B x y tm n=>?_,?_,?_,L.DF,L.DD,L.AF,?_,?_,?_,L.nodup,by rw[abr (AN so.S)];exact L.B6⟩
 ·obtain⟨s,g,rfl⟩:=q o H
  have l:=L.s s g;by_cases e:s.S=so.S
  ·obtain rfl:=tZ s g e
   have em:gH s.S s=s.off:=by unfold gH;rw[if_pos F]
   rw[em];refine⟨E.tok,E.UZ,⟨AV (E.cells _) l.sh.1,E.sh _ l.sh.2⟩,?_,?_,?_,?_,l.bN,l.le⟩
   ·exact E.cnt 10 _ l.done
   ·exact E.cnt 11 _ l.cnt
   ·exact E.cnt 12 _ l.qW
   ·exact E.cnt 13 _ l.stop
  ·rw[S s g e]
   have M:s.D≠so.D:=λh=>e (by rw[L.yZ s g so A h]);obtain⟨a,b,Q⟩:=l.lone;obtain⟨k,C⟩:=l.real;exact⟨E.chan _ _ _ _ _ _ _ (L.tN Q N ah) M Q,⟨k,E.CY _ _ _ M C⟩,⟨AV (E.cells _) l.sh.1,AV (λc t f=>E.rn _ c t f e) l.sh.2⟩,vE (λc t f=>E.rn _ c t f e) l.done,vE (λc t f=>E.rn _ c t f e) l.cnt,vE (λc t f=>E.rn _ c t f e) l.qW,vE (λc t f=>E.rn _ c t f e) l.stop,l.bN,l.le⟩
 ·have l:=L.k k cI
  obtain⟨s,g,e1,G⟩:=l.p9;obtain⟨_,_,D⟩:=l.work;obtain⟨_,_,u⟩:=l.told;obtain⟨_,_,q3⟩:=l.wb;obtain⟨_,_,q4⟩:=l.sb;obtain⟨j,q5⟩:=l.zw;have sP:=(L.s so A).sh.2;refine⟨⟨gH so.S s,jg g,by rw[AN,e1],by rw[Ia,G]⟩,z ah ah D,z ah ah u,⟨j,E.CY _ _ _ (L.tN u P ah) q5⟩,z ah ah q3,E.rn _ _ _ _ (λe=>?_) l.rR,z ah ah q4,E.rn _ _ _ _ (λe=>?_) l.uo,l.bN⟩
  ·unfold fF at sP
   rw[<-e,l.rR]at sP;cases sP
  ·unfold fF at sP
   rw[<-e,l.uo]at sP;cases sP
 ·by_cases G:b=so.D
  ·subst G
   obtain⟨_,_,h⟩:=E.tok;rw[h]at n;cases n;exact⟨F,F,.done (gH so.S so) (jg A) (Ia so.S so).symm,λe=>by cases e⟩
  ·by_cases O:b=bw
   ·subst O
    obtain⟨_,_,h⟩:=R;rw[h]at n;cases n;exact⟨F,F,.gate F,λe=>by cases e⟩
   obtain⟨_,_,h⟩:=E.back b d i B x y tm O G n;obtain⟨p,m,h3,h4⟩:=L.chans _ _ _ _ _ _ _ h;refine⟨p,m,?_,h4⟩;cases h3 with
   |work k C e=>exact .work k C e
   |done s g e=>exact .done (gH so.S s) (jg g) (by rw[Ia];exact e)
   |told k C e=>exact .told k C e
   |box=>exact .box
   |gate e=>exact .gate e
   |hand e=>exact .hand e
 ·exact R
 ·obtain⟨v,a,b,h,hv⟩:=L.hand
  obtain⟨a',b',h'⟩:=z ah ah h;exact⟨v,a',b',h',hv.imp id λ⟨s,g,e⟩=>⟨gH so.S s,jg g,by rw[Ia];exact e⟩⟩
 ·intro s1 p s2 m e
  obtain⟨J,D,rfl⟩:=q s1 p;obtain⟨K,u,rfl⟩:=q s2 m;rw[Ia,Ia]at e;rw[L.yZ J D K u e]
 ·intro s1 p s2 m e
  obtain⟨J,D,rfl⟩:=q s1 p;obtain⟨K,u,rfl⟩:=q s2 m;rw[AN,AN]at e;rw[L.u5 J D K u e]
 ·intro o H
  obtain⟨s,g,rfl⟩:=q o H;rw[AN,aqZ];exact L.count s g
theorem Core.stop{D At:Nat->Loc->Prop}{g:Loc->Prop}{t r:Nat->aj YS}{B n:Nat}(C:Core Hid D At g t T X I B n w W)(M:so∈X)(E:Qr w W w' W' so)(uT:∃a b,w'.heap[bw]?=Z (.chan 5 #[cY (X.map (gH so.S))] Y a b Y))(pR:Rel (bS ak) Hid w' W')(Q:W'.heap.size<=B)(u:∀k∈T,k.S=so.S->r k.g=I)(A:∀x,(∀k∈T,k.S=so.S->k.g≠x)->r x=t x)(G:∀x,r x=I\/r x=t x):Core Hid D At g r T (X.map (gH so.S)) I B n w' W':=by
 have L:=C.ft;have z:∀f,f∈X.map (gH so.S)->∃s∈X,f=gH so.S s:=λf h=>by obtain⟨s,u,A⟩:=og.1 h;exact⟨s,u,A.symm⟩
 refine⟨pR,L.stop M E uT,Q,C.rN,λl=>?_,C.zX,C.Bq,C.cS,λk m f o c q=>?_,λk m f o c q=>?_,λi y v=>?_,C.g0,λj S=>by cases S⟩
 ·rw[C.mO]
  constructor
  ·rintro⟨s,d,h⟩
   exact⟨gH so.S s,jg d,by rw[AN];exact h⟩
  ·rintro⟨f,o,h⟩
   obtain⟨s,d,rfl⟩:=z f o;rw[AN]at h;exact⟨s,d,h⟩
 ·obtain⟨s,d,rfl⟩:=z f o
  rw[AN]at c;obtain⟨p,N⟩:=aq0 q;rw[A k.g λk' K O P=>p (by rw[c,<-L.AF k' K k m P,O])];exact C.zl k m s d c N
 ·obtain⟨s,d,rfl⟩:=z f o
  rw[AN]at c;by_cases p:s.S=so.S
  ·exact u k m (c.symm.trans p)
  ·have:gH so.S s=s:=by unfold gH;rw[if_neg p]
   rw[this]at q;rcases G k.g with h|h
   ·exact h
   ·rw[h];exact C.gone k m s d c q
 ·have R:t i=Z y:=by
   rcases G i with h|h
   ·rw[h]at v;cases v
   ·rw[<-h];exact v
  obtain⟨k,m,s,d,c,q,p,H,rfl⟩:=C.B8 R;have J:s.S≠so.S:=λe=>by
   have:=u k m (c.symm.trans e);rw[p,v]at this;cases this
  have o:gH so.S s=s:=by unfold gH;rw[if_neg J]
  exact .inl ⟨k,m,gH so.S s,jg d,by rw[AN];exact c,by rw[o];exact q,p,H,F⟩
end
abbrev lI(g:Nat->ag)(l:ae ag)(d:ae aJ)(V:ae cz)(X:dQ):aA:=⟨30,bI 25 g l,d,V,.run,X,I⟩
noncomputable def B9:af bq:=#[aP 12 (.recv 100 (kc gN) Y),ep (.send (kc gN) (tm 12)),aP 11 (.fieldAddr 109 (tm 0) 11),aP 9 (.move (tm 0)),aP 10 (.nilCheck (tm 9))]++zg (tm 10) 22 23 21
noncomputable def b30:af bq:=#[aP 12 (.field 50 (tm 23) 2),aP 13 (.unOp .not 4 (tm 12))]
noncomputable def t30:af bq:=#[aP 24 (.recv 100 (kc gN) Y),aP 24 (.typeAssert (tm 24) 20 3 Y),ep (.send (kc gN) (tm 24)),aP 24 (.field 50 (tm 23) 1),aP 23 (.build 50 [(0,tm 10),(1,tm 24),(2,kc (.bool U))].toArray),ep (.send (tm 22) (tm 23)),aP 14 (.move (tm 0)),aP 15 (.nilCheck (tm 14)),aP 16 (.fieldAddr 109 (tm 15) 11),aP 17 (.move (tm 0)),aP 18 (.nilCheck (tm 17)),aP 19 (.fieldAddr 109 (tm 18) 9),aP 20 (.move (tm 22))]
noncomputable def Nf:af bq:=#[ep (.send (tm 22) (tm 23))]
noncomputable def yC:af bq:=#[aP 21 (.move (tm 0)),aP 22 (.nilCheck (tm 21)),aP 23 (.fieldAddr 109 (tm 22) 10),aP 24 (.assign (kc (.tuple #[])))]
noncomputable def agL:bH:=.seq (.cond (tm 13) (reg t30) (reg Nf)) (reg yC)
noncomputable def MO:bH:=.seq (reg b30) agL
noncomputable def Jk:bH:=.seq (.cond (tm 21) .skip (.refuse "")) MO
abbrev uM(u v:Bool)(S D n:Nat)(d b:Bool)(l:ae (Nat×ag)):ae (Nat×ag):=(12,.bool u)::(13,.bool v)::(11,ptr S 13)::(9,ptr S 0)::(10,ptr S 0)::(22,ay D)::(23,db ⟨S,D,n,d⟩)::(21,.bool b)::l
def zi(s:dg):ae (Nat×ag):=if s.st then [(9,ptr s.S 0),(10,ptr s.S 0),(11,ptr s.S 13),(12,.bool U),(13,.bool Y),(21,ptr s.S 0),(22,ptr s.S 0),(23,ptr s.S 11),(24,.tuple #[])]
 else [(9,ptr s.S 0),(10,ptr s.S 0),(11,ptr s.S 13),(12,.bool Y),(13,.bool U),(14,ptr s.S 0),(15,ptr s.S 0),(16,ptr s.S 13),(17,ptr s.S 0),(18,ptr s.S 0),(19,ptr s.S 10),(20,ay s.D),(21,ptr s.S 0),(22,ptr s.S 0),(23,ptr s.S 11),(24,.tuple #[])]
section
variable (g:Nat->ag)(l:ae ag)(k:ae aJ)(V:ae cz)(X:dQ)(O:X=.normal\/X=.deferred)(T:ae aA)(N:aU)(S n D:Nat)(u x y z p:ag)
include O
theorem aou:aN LL 2 (G (lI g l (.code Cj::k) V X) T)=G (aX 30 (bI 25 g l) B9 [0,1,2,3,4,5,6,7,8,9,10,11,12,13,14,15] (.code Jk::k) V X) T:=by
 rfl
theorem aos:fR LL (cN (bR ⟨30,bI 25 g l,[],V,.run,X,I⟩) (aP 12 (.recv 100 (kc gN) Y)))=Z (.comm #[{chan:=gN,send:=I,zero:=.agg #[]}] U (.recv Y)):=by
 rfl
theorem aot:fR LL (cN (bR ⟨30,bI 25 (ov g [(12,u)]) l,[],V,.run,X,I⟩) (ep (.send (kc gN) (tm 12))))=Z (.comm #[{chan:=gN,send:=Z u,zero:=.tuple #[]}] U .send):=by
 rfl
theorem aoy:aN LL 3 (G (aX 30 (bI 25 (ov (dc g (.pointer (Z N))) [(12,u)]) l) B9 [2,3,4,5,6,7,8,9,10,11,12,13,14,15] (.code Jk::k) V X) T)=G (aX 30 (bI 25 (ov (dc g (.pointer (Z N))) [(12,u),(11,.pointer (Z (N.add 13))),(9,.pointer (Z N)),(10,.pointer (Z N))]) l) B9 [5,6,7,8,9,10,11,12,13,14,15] (.code Jk::k) V X) T:=by
 rcases O with rfl|rfl<;>kernel_rfl
theorem aov(t):aN LL 2 (G (aX 30 t B9 [] (.code Jk::k) V X) T)=G ⟨30,t,.code (.cond (tm 21) .skip (.refuse ""))::.code MO::k,V,.run,X,I⟩ T:=by
 rfl
theorem aol(b):aN LL 10 (G ⟨30,bI 25 (ov (dc g (ptr S 0)) [(12,u),(11,ptr S 13),(9,ptr S 0),(10,ptr S 0),(22,ay D),(23,db ⟨S,D,n,Y⟩),(21,.bool b)]) l,.code MO::k,V,.run,X,I⟩ T)=G (aX 30 (bI 25 (ov (dc g (ptr S 0)) (uM Y U S D n Y b [])) l) t30 [0,1,2,3,4,5,6,7,8,9,10,11,12] (.code (reg yC)::k) V X) T:=by
 rcases O with rfl|rfl<;>kernel_rfl
theorem aom(b):fR LL (cN (bR ⟨30,bI 25 (ov (dc g (ptr S 0)) (uM Y U S D n Y b [])) l,[],V,.run,X,I⟩) (aP 24 (.recv 100 (kc gN) Y)))=Z (.comm #[{chan:=gN,send:=I,zero:=.agg #[]}] U (.recv Y)):=by
 rfl
theorem aon(b):aN LL 1 (G (aX 30 ((bI 25 (ov (dc g (ptr S 0)) (uM Y U S D n Y b [])) l).setIfInBounds 24 (zu u)) t30 [1,2,3,4,5,6,7,8,9,10,11,12] (.code (reg yC)::k) V X) T)=G (aX 30 (bI 25 (ov (dc g (ptr S 0)) (uM Y U S D n Y b [(24,u)])) l) t30 [2,3,4,5,6,7,8,9,10,11,12] (.code (reg yC)::k) V X) T:=by
 rcases O with rfl|rfl<;>kernel_rfl
theorem aoo(b):fR LL (cN (bR ⟨30,bI 25 (ov (dc g (ptr S 0)) (uM Y U S D n Y b [(24,u)])) l,[],V,.run,X,I⟩) (ep (.send (kc gN) (tm 24))))=Z (.comm #[{chan:=gN,send:=Z u,zero:=.tuple #[]}] U .send):=by
 rfl
theorem aop(b):aN LL 2 (G (aX 30 (bI 25 (ov (dc g (ptr S 0)) (uM Y U S D n Y b [(24,u)])) l) t30 [3,4,5,6,7,8,9,10,11,12] (.code (reg yC)::k) V X) T)=G (aX 30 (bI 25 (ov (dc g (ptr S 0)) (uM Y U S D n U b [(24,ai n)])) l) t30 [5,6,7,8,9,10,11,12] (.code (reg yC)::k) V X) T:=by
 rcases O with rfl|rfl<;>kernel_rfl
theorem aor(b):fR LL (cN (bR ⟨30,bI 25 (ov (dc g (ptr S 0)) (uM Y U S D n U b [(24,ai n)])) l,[],V,.run,X,I⟩) (ep (.send (tm 22) (tm 23))))=Z (.comm #[{chan:=ay D,send:=Z (db ⟨S,D,n,U⟩),zero:=.tuple #[]}] U .send):=by
 rfl
theorem aoq(b):aN LL 14 (G (aX 30 (bI 25 (ov (dc g (ptr S 0)) (uM Y U S D n U b [(24,ai n)])) l) t30 [6,7,8,9,10,11,12] (.code (reg yC)::k) V X) T)=G (lI (ov (dc g (ptr S 0)) (zi ⟨S,D,n,Y⟩)) l k V X) T:=by
 rcases O with rfl|rfl<;>kernel_rfl
theorem aow(b):aN LL 8 (G ⟨30,bI 25 (ov (dc g (ptr S 0)) [(12,u),(11,ptr S 13),(9,ptr S 0),(10,ptr S 0),(22,ay D),(23,db ⟨S,D,n,U⟩),(21,.bool b)]) l,.code MO::k,V,.run,X,I⟩ T)=G (aX 30 (bI 25 (ov (dc g (ptr S 0)) (uM U Y S D n U b [])) l) Nf [0] (.code (reg yC)::k) V X) T:=by
 rcases O with rfl|rfl<;>kernel_rfl
theorem aoz(b):fR LL (cN (bR ⟨30,bI 25 (ov (dc g (ptr S 0)) (uM U Y S D n U b [])) l,[],V,.run,X,I⟩) (ep (.send (tm 22) (tm 23))))=Z (.comm #[{chan:=ay D,send:=Z (db ⟨S,D,n,U⟩),zero:=.tuple #[]}] U .send):=by
 rfl
theorem aox(b):aN LL 7 (G (aX 30 (bI 25 (ov (dc g (ptr S 0)) (uM U Y S D n U b [])) l) Nf [] (.code (reg yC)::k) V X) T)=G (lI (ov (dc g (ptr S 0)) (zi ⟨S,D,n,U⟩)) l k V X) T:=by
 rcases O with rfl|rfl<;>kernel_rfl
end
section
variable (g:Nat->ag)(l:ae ag)(u x y z a b c:ag)
theorem au0:(bI 25 g l).setIfInBounds 12 u=bI 25 (ov g [(12,u)]) l:=al
theorem au1:(((bI 25 (ov g [(12,u),(11,a),(9,b),(10,c)]) l).setIfInBounds 22 x).setIfInBounds 23 y).setIfInBounds 21 z=bI 25 (ov g [(12,u),(11,a),(9,b),(10,c),(22,x),(23,y),(21,z)]) l:=al
theorem ajs:(bI 25 (ov g [(12,u),(11,a),(9,b),(10,c)]) l).getD 10 aB=c:=al
theorem ajt:(bI 25 (ov g [(12,u),(11,a),(9,b),(10,c),(22,x),(23,y),(21,z)]) l).getD 21 aB=z:=al
theorem Vh:25<=(bI 25 g l).size:=by simp[bI]
end
theorem aqV(m)(h:m<11):B9[5+m]?=(zg (tm 10) 22 23 21)[m]?:=by
 have e:B9[5+m]?=(#[aP 12 (.recv 100 (kc gN) Y),ep (.send (kc gN) (tm 12)),aP 11 (.fieldAddr 109 (tm 0) 11),aP 9 (.move (tm 0)),aP 10 (.nilCheck (tm 9))]++zg (tm 10) 22 23 21)[5+m]?:=rfl;rw[e,Array.getElem?_append_right ba];simp
section
variable {R:ag->ax->Prop}{Hid:Loc->Prop}{P:Bool}{M:ae dU}{Q:ae dg}{w W:ax}{T:ae aA}
theorem Alike.two{w h f}(i:Alike w h){D A B a b}{v}{d j v0}(L:w.heap[bw]?=Z (.chan 5 #[v0] Y A B Y))(J:w.heap[D]?=Z (.chan 2 v Y a b Y))(hz:f.heap.size=h.heap.size)(C:f.tape=h.tape)(E:f.drawn=h.drawn)(G:f.os=h.os)(H:f.output=h.output)(m:∃o q c3 r,∀b:Nat,f.heap[b]?=if b=D then Z (.chan 2 #[d] Y o q Y)else if b=bw then Z (.chan 5 #[j] Y c3 r Y)else h.heap[b]?):Alike ((w.setChan D 2 #[d] Y 0 0 Y).setChan bw 5 #[j] Y 0 0 Y) f:=by
 obtain⟨o,q,c3,r,m⟩:=m;have az:D≠bw:=λe=>by simp_all
 have K:∀b:Nat,((w.setChan D 2 #[d] Y 0 0 Y).setChan bw 5 #[j] Y 0 0 Y).heap[b]?=if b=bw then Z (.chan 5 #[j] Y 0 0 Y)else if b=D then Z (.chan 2 #[d] Y 0 0 Y)else w.heap[b]?:=λb=>by
  rw[heap_setChan _ (by rw[size_setChan];exact dD L),heap_setChan _ (dD J)]
 refine⟨by rw[hz,i.size,size_setChan,size_setChan],C.trans i.tape,E.trans i.drawn,G.trans i.os,H.trans i.output,λb=>?_⟩;by_cases s:b=D
 ·simp_all
 ·by_cases t:b=bw
  ·simp_all
  ·rw[m,if_neg s,if_neg t,K,if_neg t,if_neg s]
   exact i.obj b
theorem apv(L:fO Hid P M Q w W)(hr:Rel (bS ak) Hid w W)(eO:Below ak LL T)(o:T≠[]){g}{l}{k}{V}{X}{p}(i:X=.normal\/X=.deferred)(fH:∀d∈V,lV ak d)
  (hg:Good LL R ⟨lI (dc g p) l (.code Cj::k) V X,T,w⟩):
  P=U/\∃C∈Q,p=ptr C.S 0/\∃n w',0<n/\Alike ((w.setChan C.D 2 #[db C.off] Y 0 0 Y).setChan bw 5 #[cY (Q.map (gH C.S))] Y 0 0 Y) w'/\fA LL ⟨lI (dc g p) l (.code Cj::k) V X,T,w⟩ ⟨lI (ov (dc g (ptr C.S 0)) (zi C)) l k V X,T,w'⟩ n:=by
 have hh:∀τ e,iW ak (re w τ e):=λτ e=>hr.tY;obtain⟨ga,gb,f⟩:=L.gate;obtain⟨n1,L1,g1⟩:=hg.quiet 2 (aou _ l k _ _ i _) o;have x0:B9[0]?=Z (aP 12 (.recv 100 (kc gN) Y)):=by kernel_rfl
 have x1:B9[1]?=Z (ep (.send (kc gN) (tm 12))):=by kernel_rfl
 obtain⟨c,r,q,H,a,b,J,t,E,e3⟩:=AR i o x0 (aos _ l _ _ i) g1;cases t;have E:=E;rw[f]at E;cases E;obtain⟨h0,L2,g2⟩:=e3 F;cases P with
 |false=>simp at h0
 |true=>
 refine⟨F,?_⟩;have f:=f;have L2:=L2;have g2:Good LL R ⟨aX 30 ((bI 25 (dc g p) l).setIfInBounds 12 (cY Q)) B9 [1,2,3,4,5,6,7,8,9,10,11,12,13,14,15] (.code Jk::k) V X,T,w.setChan bw 5 #[] Y ga (gb+1) Y⟩:=g2;rw[au0]at L2 g2;have gd:(w.setChan bw 5 #[] Y ga (gb+1) Y).heap[bw]?=Z (.chan 5 #[] Y ga (gb+1) Y):=oQ _ f _ _ _ _ _ _;obtain⟨c,r,q,H,a,b,J,t,E,e3⟩:=wa i o x1 (aot _ l _ _ i _) g2;cases t;have E:=E;rw[gd]at E;cases E;obtain⟨_,L3,g3⟩:=e3 F;have A3:Alike w ((w.setChan bw 5 #[] Y ga (gb+1) Y).setChan bw 5 ((#[]).push (cY Q)) Y (ga+1) (gb+1) Y):=Alike.bX f _ _ _ _ _;generalize ((w.setChan bw 5 #[] Y ga (gb+1) Y).setChan bw 5 ((#[]).push (cY Q)) Y (ga+1) (gb+1) Y)=w3 at L3 g3 A3;have LA:=L.alike A3;have rA:=hr.alike A3;have θ:∀τ e,iW ak (re w3 τ e):=λτ e=>rA.tY;have e0:cN (bR ⟨30,bI 25 (ov (dc g p) [(12,cY Q)]) l,[],V,.run,X,I⟩) (aP 11 (.fieldAddr 109 (tm 0) 11))=(do pure (.value (<-tn 109 p 11))):=rfl;rcases Nh _ p _ _ (.inr (.inl ⟨F,F⟩))with⟨v,⟨N,Fs,_⟩,_⟩|cL
 case inr=>exact(rz i eO fH θ al e0 cL g3).elim
 subst Fs;obtain⟨n4,L4,g4⟩:=g3.quiet 3 (aoy g l k _ _ i _ _ _) o;obtain⟨C,cX,bb,n5,G,x,y,oS,Hi,A5,L5,g5⟩:=TT LA rA eO o i fH aqV (pA ah (Vh _ l)) (pA ah (Vh _ l)) (pA ah (Vh _ l)) ah ah ah ah ah ah g4;rw[au1]at L5 g5;rw[ajs]at oS;obtain⟨n6,L6,g6⟩:=g5.quiet 2 (aov k _ _ i _ _) o;obtain⟨E5,L7⟩:=EN g6 o (ajt _ l _ _ _ _ _ _ _);have g7:=g6.mL L7 o;subst E5;have Kl:=oS F;cases Kl;refine⟨C,cX,F,?_⟩;obtain⟨sa,sb,Nw⟩:=(L.s _ cX).lone;have A6:=A3.trans A5;have xo:(G.setChan C.D 2 #[] Y x (y+1) Y).heap[C.D]?=Z (.chan 2 #[] Y x (y+1) Y):=oQ _ Hi _ _ _ _ _ _;obtain⟨S,D,m,st⟩:=C;cases st with
 |false=>
  obtain⟨n8,L8,g8⟩:=g7.quiet _ (aol g l k _ _ i _ S m D _ _) o;have y0:t30[0]?=Z (aP 24 (.recv 100 (kc gN) Y)):=by kernel_rfl
  have y2:t30[2]?=Z (ep (.send (kc gN) (tm 24))):=by kernel_rfl
  have x2:t30[5]?=Z (ep (.send (tm 22) (tm 23))):=by kernel_rfl
  have ET:D≠bw:=λe=>by simp_all
  have Kq:∃A B,(G.setChan D 2 #[] Y x (y+1) Y).heap[bw]?=Z (.chan 5 #[cY Q] Y A B Y):=by
   obtain⟨A,B,h⟩:=A6.np f;exact⟨A,B,by rw[mT _ _ _ _ _ _ _ ET];exact h⟩
  obtain⟨A,B,Kq⟩:=Kq;obtain⟨ch,r,q,H,a',b',J,K,j,f6⟩:=AR i o y0 (aom g l _ _ i S m D _) g8;cases K;have j:=j;rw[Kq]at j;cases j;obtain⟨_,Mq,Nq⟩:=f6 F;have SI:=aaN L.B6 cX F;generalize μ:cY (Q.map (gH S))=lv at*;have Mq:fA LL _ ⟨aX 30 ((bI 25 (ov (dc g (ptr S 0)) (uM Y U S D m Y U [])) l).setIfInBounds 24 (cY Q)) t30 [1,2,3,4,5,6,7,8,9,10,11,12] (.code (reg yC)::k) V X,T,(G.setChan D 2 #[] Y x (y+1) Y).setChan bw 5 #[] Y A (B+1) Y⟩ 1:=Mq;have Nq:Good LL R ⟨aX 30 ((bI 25 (ov (dc g (ptr S 0)) (uM Y U S D m Y U [])) l).setIfInBounds 24 (cY Q)) t30 [1,2,3,4,5,6,7,8,9,10,11,12] (.code (reg yC)::k) V X,T,(G.setChan D 2 #[] Y x (y+1) Y).setChan bw 5 #[] Y A (B+1) Y⟩:=Nq;rw[SI]at Mq Nq;obtain⟨ν,β,ε⟩:=Nq.quiet 1 (aon g l k _ _ i _ S m D _ _) o;have Od:((G.setChan D 2 #[] Y x (y+1) Y).setChan bw 5 #[] Y A (B+1) Y).heap[bw]?=Z (.chan 5 #[] Y A (B+1) Y):=oQ _ Kq _ _ _ _ _ _;obtain⟨ch,r,q,H,a',b',J,K,j,f6⟩:=wa i o y2 (aoo g l _ _ i S m D _ _) ε;cases K;have j:((G.setChan D 2 #[] Y x (y+1) Y).setChan bw 5 #[] Y A (B+1) Y).heap[bw]?=Z (.chan r q H a' b' J):=j;rw[Od]at j;cases j;obtain⟨_,γ,ζ⟩:=f6 F;obtain⟨ξ,δ,η⟩:=ζ.quiet 2 (aop g l k _ _ i _ S m D _ _) o;generalize HM:((G.setChan D 2 #[] Y x (y+1) Y).setChan bw 5 #[] Y A (B+1) Y).setChan bw 5 ((#[]:af ag).push lv) Y (A+1) (B+1) Y=w8 at*;have ZH:∀b:Nat,w8.heap[b]?=if b=bw then Z (.chan 5 #[lv] Y (A+1) (B+1) Y)else(G.setChan D 2 #[] Y x (y+1) Y).heap[b]?:=λb=>by
   rw[<-HM,heap_setChan _ (dD Od),heap_setChan _ (dD Kq)];split<;>rfl
  have Z0:w8.heap[D]?=Z (.chan 2 #[] Y x (y+1) Y):=by rw[ZH,if_neg ET];exact xo
  obtain⟨ch,r,q,H,a',b',J,K,j,f6⟩:=wa i o x2 (aor g l _ _ i S m D _) η;cases K;have j:w8.heap[D]?=Z (.chan r q H a' b' J):=j;rw[Z0]at j;cases j;obtain⟨_,L9,g9⟩:=f6 F;obtain⟨ι,oq,_⟩:=g9.quiet _ (aoq g l k _ _ i _ S m D _) o;have j7:=((((((((((((L1.trans L2).trans L3).trans L4).trans L5).trans L6).trans L7).trans L8).trans Mq).trans β).trans γ).trans δ).trans L9).trans oq;refine⟨_,_,by omega,?_,j7⟩;refine A6.two f Nw (by rw[size_setChan,<-HM,size_setChan,size_setChan,size_setChan]) (by rw[<-HM];rfl) (by rw[<-HM];rfl) (by rw[<-HM];rfl) (by rw[<-HM];rfl) ⟨x+1,y+1,A+1,B+1,λb=>?_⟩;rw[heap_setChan _ (dD Z0),ZH];by_cases t:b=D
  ·rw[if_pos t,if_pos t];rfl
  ·rw[if_neg t,if_neg t,mT _ _ _ _ _ _ _ λe=>t e.symm]
 |true=>
  obtain⟨n8,L8,g8⟩:=g7.quiet 8 (aow g l k _ _ i _ S m D _ _) o;have x2:Nf[0]?=Z (ep (.send (tm 22) (tm 23))):=by kernel_rfl
  obtain⟨ch,r,q,H,a',b',J,K,j,f6⟩:=wa i o x2 (aoz g l _ _ i S m D _) g8;cases K;have j:(G.setChan D 2 #[] Y x (y+1) Y).heap[D]?=Z (.chan r q H a' b' J):=j;rw[xo]at j;cases j;obtain⟨_,L9,g9⟩:=f6 F;obtain⟨ι,oq,_⟩:=g9.quiet 7 (aox g l k _ _ i _ S m D _) o;have j7:=((((((((L1.trans L2).trans L3).trans L4).trans L5).trans L6).trans L7).trans L8).trans L9).trans oq;refine⟨_,_,by omega,?_,j7⟩;have SI:cY (Q.map (gH S))=cY Q:=ao6 (so:=⟨S,D,m,U⟩) (λs hs e=>L.u5 s hs _ cX e) F;have ET:D≠bw:=λe=>by simp_all
  obtain⟨A,B,κ⟩:=A6.np f;show Alike ((w.setChan D 2 #[db (⟨S,D,m,U⟩:dg).off] Y 0 0 Y).setChan bw 5 #[cY (Q.map (gH S))] Y 0 0 Y) _;rw[SI];refine A6.two f Nw (by rw[size_setChan,size_setChan]) F F F F ⟨x+1,y+1,A,B,λb=>?_⟩;rw[heap_setChan _ (dD xo)];by_cases t:b=D
  ·rw[if_pos t,if_pos t];rfl
  ·rw[if_neg t,if_neg t,mT _ _ _ _ _ _ _ λe=>t e.symm]
   by_cases E:b=bw
   ·simp_all
   ·rw[if_neg E]
end
section
open Go.ConcN (sumTo upd sumTo_upd upd_ne upd_same)
section
variable {P:aD}{St At:Nat->Loc->Prop}{Shun:Loc->Prop}{W Lo:Nat->Prop}{ao:Nat->aj YS}{X:Nat->Prop}{B:Nat}{Kn:ed->Nat->Prop}{T:ed}{gs:af aH}{w:ax}{q:Nat->Nat}
theorem Yd.O6(C:Yd P St At Shun W Lo ao X B Kn T gs w q){i m}{k}{a:af MemOp}{b}(aC:i<gs.size)(r:b.size=gs.size)(o:∀x,x≠i->¬X x->b[x]?=gs[x]?)(v:b[i]?=Z k)(g:∀A∈a,A.g=i)(p:¬X i->Qi P (T++a) i m k (ao i))(n:eJ St Shun At W Lo B (Kn (T++a)) (T++a)):Yd P St At Shun W Lo ao X B Kn (T++a) b w (upd q i m):=by
 refine⟨λx y f c=>?_,C.chans,C.wf,C.inj,λj u=>?_,λi t=>by rw[r];exact C.lt i t,C.mem,C.nomem,C.lo,n,C.keep,C.places,λj l u=>C.fresh j l ah⟩
 ·by_cases e:x=i
  ·subst e
   rw[v]at c;obtain rfl:=ee c;rw[upd_same];exact p f
  ·rw[o x e f]at c
   rw[upd_ne q _ e];have h:=C.idle x y f c;cases es:ao x with
   |none=>rw[es]at h;exact⟨h.1,by rw[ni T (λz=>e z.symm) _ g];exact h.2⟩
   |some s=>rw[es]at h;exact h
 ·rw[ni T ah _ g]
  exact C.above j ah
def Mz(X:Nat->Prop)(w:ax)(i:Nat)(gs a:af aH):Prop:=a.size=gs.size/\∀x b,x≠i->gs[x]?=Z b->a[x]?=Z b\/(X x/\a[x]?=Z (b.again w))
theorem Mz.plain{i}{a}(h:Mz X w i gs a):∀x,x≠i->¬X x->a[x]?=gs[x]?:=λx c b=>by
 cases e:gs[x]? with
 |none=>rw[Ef]at e⊢;rw[h.1];exact e
 |some f=>exact(h.2 x _ c e).resolve_right λz=>b z.1
theorem abm{e}(h:Event.mute e=U)(a):gI e≠.mark (.release a):=by
 obtain⟨b,f,c⟩:=e;cases b with
 |mark m=>cases m<;>first|(simp[Event.mute]at h;done)|(intro z;cases z)
 |_=>simp[Event.mute]at h
theorem Q0{St}{B}{e}(h:EvC St B e)(a):gI e≠.mark (.release a):=by
 obtain⟨b,rfl,_⟩:=h;intro z;cases z
theorem Yd.agI(JN:∀t u i,Kn t i->Kn (t++u) i)(C:Yd P St At Shun W Lo ao X B Kn T gs w q){i}{g}{sl}(J:gs[i]?=Z g)(Q:¬X i)(aL:g.status=.running)
  (HE:∀x H c,X x->gs[x]?=Z H->offersAt H c U=[]):
  ∃(bD:af aH)(D:af MemOp)(n:Nat),runT P (crowd gs w sl) i=(.next (crowd bD w sl),D)/\Mz X w i gs bD/\n<q i/\(∀f∈D,(f.g=i/\∀b,f.act.touch?=Z b->b.write=Y)/\(∀a,f.act≠.mark (.release a))/\(ao i=I->f.act.touch?=I))/\Yd P St At Shun W Lo ao X B Kn (T++D) bD w (upd q i n):=by
 have aC:=(iy.1 J).1;have M:∀(E l),Mz X w i gs ((gs.map (eP P g E w)).setIfInBounds i l):=by
  intro E l;refine⟨by simp,λx H L e=>?_⟩;rw[iK (λe=>L e.symm),A4,e];by_cases G:X x
  ·unfold eP
   split
   ·simp_all
   ·exact .inl F
  ·have:=woken_of_again (P:=P) (x:=g) (x':=E) (C.fixed G e)
   exact .inl (by simp[this])
 have jH:∀(E l),((gs.map (eP P g E w)).setIfInBounds i l)[i]?=Z l:=λE l=>kJ (by simpa using aC);have N:=C.idle i g Q J;cases e:ao i with
 |none=>
  rw[e]at N;obtain⟨uX,O⟩:=N;have gR:(i==0)=Y:=by simp;omega
  cases V:q i with
  |zero=>rw[V]at O;rw[O.1]at aL;cases aL
  |succ k=>
   rw[V]at O;rcases O with⟨hf,_⟩|⟨_,l,es,K,yW,Av⟩
   ·simp_all
   have m:∀f∈dk i g.frame.fn g.frame.place es,f.g=i:=λf j=>by obtain⟨e,_,rfl⟩:=jX j;rfl
   refine⟨_,_,k,wQ J (by rw[gR];exact yW w),M .. ,Nat.lt_succ_self k,λf j=>⟨⟨m _ j,λb v=>by obtain⟨e,o,rfl⟩:=jX j;rw[touch_mute (K e o)]at v;cases v⟩,λa ha=>by obtain⟨e,o,rfl⟩:=jX j;exact abm (K e o) a ha,λ_=>by obtain⟨e,o,rfl⟩:=jX j;exact touch_mute (K e o)⟩,?_⟩;refine C.O6 aC ba (M .. ).plain (jH .. ) m (λ_=>by rw[e];exact⟨uX,by rw[Deaf_own];exact Av⟩) ?_;exact C.past.appMute (JN T _) m (λf j=>by obtain⟨e,o,rfl⟩:=jX j;exact touch_mute (K e o)) (λhM=>((C.nomem i hM).elim (λz=>absurd e z) (λz=>absurd z Q))) (λf j=>by obtain⟨e,o,rfl⟩:=jX j;exact low_mute (K e o) B)
 |some y=>
  rw[e]at N;obtain⟨hM,_,KF⟩:=C.mem i y e;have R:=C.keep i y e;have JD:∀es:af dR,(∀e∈es,EvC y.St y.B e)->(∀f∈dk i g.frame.fn g.frame.place es,f.g=i)/\(∀f∈dk i g.frame.fn g.frame.place es,(f.g=i/\∀b,f.act.touch?=Z b->b.write=Y)/\(∀a,f.act≠.mark (.release a))/\(Z y=I->f.act.touch?=I))/\eJ St Shun At W Lo B (Kn (T++dk i g.frame.fn g.frame.place es)) (T++dk i g.frame.fn g.frame.place es):=λes r=>by
   obtain⟨m,hr,hl,hd⟩:=evC_ops r;exact⟨m,λf j=>⟨⟨m _ j,λb v=>(hr _ j b v).1⟩,λa ha=>by obtain⟨e,o,rfl⟩:=jX j;exact Q0 (r e o) a ha,λz=>by cases z⟩,C.past.appRead (JN T _) (hM.resolve_left Q) (C.lo i y Q e) m (λf j b v=>⟨(hr _ j b v).1,C.places i y _ e (hr _ j b v).2⟩) (hd T) λf j=>MemAct.low_mono KF (hl _ j)⟩
  obtain⟨k,w₀,V,hg⟩:∃k w₀,q i=k+1/\Goes P (i==0) (RK y.K) (DS y.St y.B) (λg _=>∃s,AtIn P (i==0) y.K y.St y.B y.s g s) k g w₀:=by
   rcases N with h|⟨_,_,s,rfl,_⟩
   ·exact h
   ·cases aL
  have xi:(∃s,AtIn P (i==0) y.K y.St y.B y.s g s)\/∃A l es,k=A+1/\aE P (i==0) g w=.go l w es/\(∀e∈es,EvC y.St y.B e)/\Goes P (i==0) (RK y.K) (DS y.St y.B) (λg _=>∃s,AtIn P (i==0) y.K y.St y.B y.s g s) A l w:=by
   cases k with
   |zero=>exact .inl (hg w R)
   |succ A=>
    rcases hg with Kv|⟨_,gX⟩
    ·exact .inl (Kv w R)
    ·have G:=gX w R
     cases p:aE P (i==0) g w with
     |go l w' es=>
      rw[p,goes_go]at G;obtain⟨⟨rfl,r⟩,sJ⟩:=G;exact .inr ⟨A,l,es,F,F,r,sJ⟩
     |_=>rw[p]at G;exact G.elim
  rcases xi with⟨s,dM⟩|⟨A,l,es,rfl,p,r,sJ⟩
  ·obtain⟨_,_,_,_,_,es,r,yW⟩:=id dM
   obtain⟨m,S,hp⟩:=JD _ r;have hw:∀cc∈y.s.cases,NoWays w (gs.setIfInBounds i ph) cc:=by
    intro cc ig;obtain⟨c,z,rfl⟩:=(C.wf i y e).1.recvs _ ig;have gG:=Seat.has_of_mem ig;obtain⟨kk,hc⟩:=C.chans i y c e gG;refine ways_recv_none hc (partners_nil λx H hy=>?_);rcases getElem?_stand _ i x _ hy with⟨_,rfl⟩|⟨L,vP⟩
    ·exact offersAt_ph ..
    ·by_cases hS:X x
     ·grind
     ·exact C.noSend hS vP _
   refine⟨_,_,0,crowd_waits J (yW w R) hw,⟨by simp,λx H L ex=>.inl (by grind)⟩,by omega,S,?_⟩;exact C.O6 aC ba (λx L _=>iK (λz=>L z.symm)) (kJ aC) m (λ_=>by rw[e];exact .inr ⟨rfl,g,s,rfl,dM⟩) hp
  ·obtain⟨m,S,hp⟩:=JD _ r
   refine⟨_,_,A+1,wQ J p,M .. ,by omega,S,?_⟩;exact C.O6 aC ba (M .. ).plain (jH .. ) m (λ_=>by rw[e];exact .inl ⟨A,w,rfl,sJ⟩) hp
end
structure Dr(P:aD)(St At:Nat->Loc->Prop)(Shun:Loc->Prop)(ao:Nat->aj YS)(bz cw:Nat->Prop)(d B:Nat)(T:ed)(gs:af aH)(w:ax)(q:Nat->Nat):Prop where
 yd:Yd P St At Shun (λg=>(ao g≠I/\g≠0)\/(g=0/\d=0)) (λg=>g≠0/\(ao g≠I\/cw g)) ao (λg=>g=0\/bz g) B (λt=>Knows t 0) T gs w q
 deaf:eh T 0=d
 wrote:∀i a,touchAt T i=Z a->a.write=U->St 0 a.loc->Knows T 0 i
 run:∀x gx,x≠0->bz x->gs[x]?=Z gx->gx.status=.running
def Bi:Nat->ae dR->Prop
 |_,[]=>True
 |d,e::l=>((gI e).touch?≠I->0<d)/\Bi (ia d #[e]) l
theorem aqY(i)(b)(a)(e)(l):dk i b a (e::l).toArray=dk i b a #[e]++dk i b a l.toArray:=by
 rw[ofEvents_eq,ofEvents_eq,ofEvents_eq];simp
theorem abl{i}{fn}{pos}:∀(l)(T),Bi (eh T i) l->∀k x,T.size<=k->(T++dk i fn pos l.toArray)[k]?=Z x->x.act.touch?≠I->¬(T++dk i fn pos l.toArray).heard k:=by
 intro l;induction l with
 |nil=>
  intro T _ k x o a;exfalso;have:(T++dk i fn pos ([]).toArray).size=T.size:=by simp[ofEvents_eq]
  have h:=(iy.1 a).1;omega
 |cons e l v=>
  intro T p k x o a r;obtain⟨j,s⟩:=p;have n:(T++dk i fn pos #[e]).size=T.size+1:=by simp[ofEvents_eq]
  have c:(T++dk i fn pos #[e])[T.size]?=Z {g:=i,fn:=fn,pos:=pos,act:=.ofEvent e}:=by simp[ofEvents_eq]
  have u:=Deaf_own T i fn pos #[e];rw[aqY,<-Ee]at a⊢;by_cases m:k=T.size
  ·subst m
   rw[getElem?_append_old ah,c]at a;obtain rfl:=ee a;rw[heard_old ah];rintro⟨g,f,b⟩;rw[g?_of c]at f;obtain rfl:=ee f;rw[deaf_old (dt _)]at b;have n:0<T.deaf i T.size:=j r;have t:T.deaf i T.size=0:=b;omega
  ·grind
section
variable {P:aD}{St At:Nat->Loc->Prop}{Shun:Loc->Prop}{ao:Nat->aj YS}{bz cw:Nat->Prop}{d B:Nat}{T:ed}{gs:af aH}{w:ax}{q:Nat->Nat}
theorem Dr.own(C:Dr P St At Shun ao bz cw d B T gs w q){a a'}{n}{es}(n')(ha:gs[0]?=Z a)(E:DZ St ao Shun B w n es):Dr P St At Shun ao bz cw (ia d es) B (T++dk 0 a.frame.fn a.frame.place es) ((gs.map (eP P a a' n)).setIfInBounds 0 a') n (upd q 0 n')/\((gs.map (eP P a a' n)).setIfInBounds 0 a')[0]?=Z a'/\((gs.map (eP P a a' n)).setIfInBounds 0 a').size=gs.size/\∀x,x≠0->((gs.map (eP P a a' n)).setIfInBounds 0 a')[x]?=gs[x]?:=by
 have aC:=(iy.1 ha).1;have H:∀r∈dk 0 a.frame.fn a.frame.place es,r.g=0:=λr v=>by obtain⟨e,_,rfl⟩:=jX v;rfl
 have N:∀r∈dk 0 a.frame.fn a.frame.place es,∀b,r.act.touch?=Z b->Bo St Shun b:=λr v b p=>by obtain⟨e,h,rfl⟩:=jX v;exact(E.Bw e h).1 b p
 have hl:∀r∈dk 0 a.frame.fn a.frame.place es,r.act.low B:=λr v=>by obtain⟨e,h,rfl⟩:=jX v;exact(E.Bw e h).2
 have V:∀i y c,ao i=Z y->y.s.has c->∃k,n.heap[c]?=Z (.chan 0 #[] Y k k Y):=λi y c e J=>by
  obtain⟨k,hk⟩:=C.yd.chans i y c e J;exact⟨k,by rw[E.chan i y c e J];exact hk⟩
 have S:=λi y e=>E.keep i y e (C.yd.keep i y e);have Q:∀x,x≠0->((gs.map (eP P a a' n)).setIfInBounds 0 a')[x]?=gs[x]?:=λx m=>by
  rw[iK (λe=>m e.symm),A4];cases e:gs[x]? with
  |none=>rfl
  |some y=>
   by_cases p:bz x
   ·rw[jE,woken_run (C.run x y m p e)]
   ·have:=woken_of_again (P:=P) (x:=a) (x':=a') (C.yd.JE S (λi y c e J=>by grind) (λz=>z.elim m p) e)
    simp[this]
 have jH:((gs.map (eP P a a' n)).setIfInBounds 0 a')[0]?=Z a':=kJ (by simpa using aC);have G:((gs.map (eP P a a' n)).setIfInBounds 0 a').size=gs.size:=by simp
 have R:eh (T++dk 0 a.frame.fn a.frame.place es) 0=ia d es:=by rw[Deaf_own,C.deaf]
 have uh:∀i a',touchAt (T++dk 0 a.frame.fn a.frame.place es) i=Z a'->a'.write=U->St 0 a'.loc->Knows (T++dk 0 a.frame.fn a.frame.place es) 0 i:=λi b p A D=>by
  obtain⟨x,m,M⟩:=om p;rcases lG m with⟨_,eU⟩|⟨_,iH⟩
  ·exact(C.wrote i b (by rw[tu eU];exact M) A D).app _
  ·rw[(N x iH b M).1 0 D]at A;cases A
 refine⟨⟨⟨λx y m O=>?_,V,C.yd.wf,C.yd.inj,λj K=>?_,λi f=>by rw[G];exact C.yd.lt i f,λi y e=>⟨by grind,(C.yd.mem i y e).2⟩,λi f=>f.imp (·.1) (λh=>.inl h.1),λi y f e=>⟨λz=>f (.inl z),.inl (by rw[e];simp)⟩,?_,S,C.yd.places,λj l K=>C.yd.fresh j l (by omega)⟩,R,uh,λx gx m p h=>C.run x _ m p (by simp_all)⟩,jH,G,Q⟩
 ·have L:=λz=>m (.inl z)
  rw[Q x L]at O;rw[upd_ne q _ L];have f:=C.yd.idle x y m O;cases nS:ao x with
  |none=>rw[nS]at f;exact⟨f.1,by rw[ni T (λz=>L z.symm) _ H];exact f.2⟩
  |some s=>rw[nS]at f;exact f
 ·rw[G]at K
  rw[ni T ah _ H];exact C.yd.above j K
 ·have u:=CL (C.yd.past.fewer λg o=>.inl o) H N (λhm=>absurd F hm.2) hl
  refine⟨u.clean,u.known,λi t ht A g o D=>?_,λg o=>?_,u.seen,u.apart,u.plain⟩
  ·rcases o with o|⟨rfl,_⟩
   ·exact u.wrote i t ht A g o D
   ·simp_all
  ·rcases o with o|⟨rfl,nB⟩
   ·exact u.hears g o
   ·rw[R];exact nB
def EvL(At:Nat->Loc->Prop)(Shun:Loc->Prop)(B i:Nat)(e:dR):Prop:=(∀b,(gI e).touch?=Z b->b.kind=.atomic/\Shun b.loc/\At i b.loc)/\(gI e).low B
theorem Dr.leave(C:Dr P St At Shun ao bz cw d B T gs w q){i}{a a'}{w'}{es}(R){Bs}(K:i≠0)(m:bz i)(L:ao i=I)(ha:gs[i]?=Z a)
  (cP:∀i y c,ao i=Z y->y.s.has c->w'.heap[c]?=w.heap[c]?)(O:∀i y,ao i=Z y->y.K w->y.K w')(J:∀e∈es,EvL At Shun B i e)(Dl:Bi (eh T i) es.toList)
  (S:∀x,x≠i->(Bs x↔bz x))(aL:Bs i->a'.status=.running)(bN:¬Bs i->QuitsD P R (ia (eh T i) es) a'):
  Dr P St At Shun ao Bs cw d B (T++dk i a.frame.fn a.frame.place es) ((gs.map (eP P a a' w')).setIfInBounds i a') w' (upd q i R)/\((gs.map (eP P a a' w')).setIfInBounds i a')[i]?=Z a'/\((gs.map (eP P a a' w')).setIfInBounds i a').size=gs.size/\(∀x,x≠i->x≠0->((gs.map (eP P a a' w')).setIfInBounds i a')[x]?=gs[x]?)/\∀D,gs[0]?=Z D->((gs.map (eP P a a' w')).setIfInBounds i a')[0]?=Z (eP P a a' w' D):=by
 have aC:=(iy.1 ha).1;generalize r:dk i a.frame.fn a.frame.place es=u;have t:∀g∈u,g.g=i:=λg p=>by subst r;obtain⟨e,_,rfl⟩:=jX p;rfl
 have G:∀g∈u,∀b,g.act.touch?=Z b->b.kind=.atomic/\Shun b.loc/\At i b.loc:=λg p b m=>by subst r;obtain⟨e,h,rfl⟩:=jX p;exact(J e h).1 b m
 have hl:∀g∈u,g.act.low B:=λg p=>by subst r;obtain⟨e,h,rfl⟩:=jX p;exact(J e h).2
 have uV:∀k x,T.size<=k->(T++u)[k]?=Z x->x.act.touch?≠I->¬(T++u).heard k:=λk x h1 h2 h3=>by
  subst r;have:=abl (fn:=a.frame.fn) (pos:=a.frame.place) _ T Dl k x h1;simp only[Array.toArray_toList]at this;exact this h2 h3
 have JZ:eh (T++u) i=ia (eh T i) es:=by rw[<-r,Deaf_own]
 have JX:∀i y c,ao i=Z y->y.s.has c->∃k,w'.heap[c]?=Z (.chan 0 #[] Y k k Y):=λi y c e N=>by
  obtain⟨k,O⟩:=C.yd.chans i y c e N;exact⟨k,by grind⟩
 have V:=λi y e=>O i y e (C.yd.keep i y e);have E:∀x,x≠i->x≠0->((gs.map (eP P a a' w')).setIfInBounds i a')[x]?=gs[x]?:=λx f o=>by
  rw[iK (λe=>f e.symm),A4];cases e:gs[x]? with
  |none=>rfl
  |some y=>
   by_cases m:bz x
   ·rw[jE,woken_run (C.run x y o m e)]
   ·have:=woken_of_again (P:=P) (x:=a) (x':=a') (C.yd.JE V (λi y c e N=>by grind) (λz=>z.elim o m) e)
    simp[this]
 have Q:((gs.map (eP P a a' w')).setIfInBounds i a')[i]?=Z a':=kJ (by simpa using aC);have A:((gs.map (eP P a a' w')).setIfInBounds i a').size=gs.size:=by simp
 have SU:¬((ao i≠I/\i≠0)\/(i=0/\d=0)):=λh=>h.elim (λz=>z.1 L) λz=>K z.1;refine⟨⟨⟨λx y f v=>?_,JX,C.yd.wf,C.yd.inj,λj n=>?_,λi hi=>by rw[A];exact C.yd.lt i hi,λj y e=>⟨by grind,(C.yd.mem j y e).2⟩,λj n=>n.imp (·.1) (λh=>.inl h.1),λj y n e=>⟨λz=>n (.inl z),.inl (by rw[e];simp)⟩,?_,V,C.yd.places,λj l n=>C.yd.fresh j l (by omega)⟩,?_,λk b m hw M=>?_,λx gx f gA h=>?_⟩,Q,A,E,λD h0=>?_⟩
 ·have o:=λz=>f (.inl z)
  by_cases e:x=i
  ·subst e
   rw[Q]at v;obtain rfl:=ee v;rw[upd_same,L];exact⟨Nat.pos_of_ne_zero o,by simp_all⟩
  ·rw[E x e o]at v
   rw[upd_ne q _ e];have h:=C.yd.idle x y (λz=>z.elim o λz=>f (.inr ((S x e).2 z))) v;cases nS:ao x with
   |none=>rw[nS]at h;exact⟨h.1,by rw[ni T (λz=>e z.symm) _ t];exact h.2⟩
   |some s=>rw[nS]at h;exact h
 ·rw[A]at n
  rw[ni T ah _ t];exact C.yd.above j n
 ·exact C.yd.past.afR (λ_=>Knows.app u) t G uV SU hl
 ·rw[ni T K _ t];exact C.deaf
 ·obtain⟨x,f,H⟩:=om m
  rcases lG f with⟨_,eU⟩|⟨_,iH⟩
  ·exact(C.wrote k b (by rw[tu eU];exact H) hw M).app _
  ·exact absurd (G x iH b H).2.1 (C.yd.past.apart 0 _ M)
 ·by_cases e:x=i
  ·simp_all
  ·rw[E x e f]at h
   exact C.run x _ f ((S x e).1 gA) h
 ·simp_all
end
end
section
open Go.ConcN (sumTo upd sumTo_upd upd_ne upd_same)
structure My(w:ax)(i:Nat)(gs bD:af aH):Prop where
 size:bD.size=gs.size
 same:∀x,x≠i->x≠0->bD[x]?=gs[x]?
 zero:∀g0,gs[0]?=Z g0->bD[0]?=Z g0\/bD[0]?=Z (g0.again w)
section
variable {P:aD}{R At:Nat->Loc->Prop}{X:Loc->Prop}{W:Nat->aj YS}{V S:Nat->Prop}{d B:Nat}{T:ed}{gs:af aH}{w:ax}{q:Nat->Nat}
theorem aeR(P)(a b)(w)(g):eP P a b w g=g\/eP P a b w g=g.again w:=by
 unfold eP;split
 ·exact .inr F
 ·exact .inl F
theorem Dr.mem(C:Dr P R At X W V S d B T gs w q){i}{y}(a:i≠0)(b:W i=Z y):eh T i=0:=C.yd.past.hears i (.inl ⟨by rw[b];simp,a⟩)
theorem Dr.at(C:Dr P R At X W V S d B T gs w q)(a):Dr P R At X W V S d B T gs (w.at a) q:=⟨C.yd.at _,C.deaf,C.wrote,C.run⟩
theorem Dr.agJ(C:Dr P R At X W V S d B T gs w q){i}{g}{sl}(hi:gs[i]?=Z g)(A:i≠0)(v:¬V i)(L:g.status=.running)(K:∀y,gs[0]?=Z y->∀c,offersAt y c U=[]):∃(l:af aH)(f:af MemOp)(n:Nat),runT P (crowd gs w sl) i=(.next (crowd l w sl),f)/\My w i gs l/\n<q i/\(∀x,x≠i->eh (T++f) x=eh T x)/\(∀p∈f,p.g=i/\(∀a,p.act≠.mark (.release a))/\(W i=I->p.act.touch?=I))/\Dr P R At X W V S d B (T++f) l w (upd q i n):=by
 obtain⟨l,f,n,O,o,Q,D,h5⟩:=C.yd.agI (λt u i=>Knows.app u) hi (λz=>z.elim A v) L λx G c j E=>by
  rcases j with rfl|j
  ·exact K _ E c
  ·by_cases m:x=0
   ·simp_all
   ·exact tq (by rw[C.run x _ m j E];simp) ..
 have H:∀x,x≠i->eh (T++f) x=eh T x:=λx j=>ni T (λz=>j z.symm) _ λp s=>(D _ s).1.1;have J:∀x,x≠i->x≠0->l[x]?=gs[x]?:=λx j m=>by
  by_cases r:V x
  ·cases e:gs[x]? with
   |none=>rw[Ef]at e⊢;rw[o.1];exact e
   |some G=>
    rcases o.2 x _ j e with h|⟨_,h⟩
    ·exact h
    ·rw[h,Bb w (.inl (C.run x _ m r e))]
  ·exact o.plain x j λz=>z.elim m r
 refine⟨l,f,n,O,⟨o.1,J,λy m=>(o.2 0 _ (λz=>A z.symm) m).imp id λz=>z.2⟩,Q,H,λp s=>⟨(D _ s).1.1,(D _ s).2⟩,h5,(H 0 (λz=>A z.symm)).trans C.deaf,λk b v hw hS=>?_,λx G j r h=>?_⟩
 ·obtain⟨x,j,N⟩:=om v
  rcases lG j with⟨_,M⟩|⟨_,iH⟩
  ·exact(C.wrote k b (by rw[tu M];exact N) hw hS).app _
  ·grind
 ·have uZ:x≠i:=λz=>v (z▸r)
  rw[J x uZ j]at h;exact C.run x _ j r h
theorem Dr.walk(C:Dr P R At X W V S d B T gs w q){i}{g c}{es}{y}{sl}(n)(G:gs[i]?=Z g)(s:i≠0)(f:V i)(t:W i=Z y)(u:aE P Y g w=.go c w es)(D:∀e∈es,EvC y.St y.B e)(aL:c.status=.running):∃(p:af aH)(j:af MemOp),runT P (crowd gs w sl) i=(.next (crowd p w sl),j)/\My w i gs p/\p[i]?=Z c/\(∀x,eh (T++j) x=eh T x)/\(∀o∈j,o.g=i/\∀a,o.act≠.mark (.release a))/\Dr P R At X W V S d B (T++j) p w (upd q i n):=by
 have aC:=(iy.1 G).1;have O:(i==0)=Y:=by simp[s]
 obtain⟨r,H,hl,E⟩:=evC_ops D;have K:∀x,eh (T++dk i g.frame.fn g.frame.place es) x=eh T x:=λx=>by
  by_cases e:x=i
  ·subst e;exact E T
  ·exact ni T (λz=>e z.symm) _ r
 have A:∀x,x≠i->x≠0->((gs.map (eP P g c w)).setIfInBounds i c)[x]?=gs[x]?:=λx l L=>by
  rw[iK (λe=>l e.symm),A4];cases e:gs[x]? with
  |none=>rfl
  |some y=>
   by_cases f:V x
   ·rw[jE,woken_run (C.run x y L f e)]
   ·have:=woken_of_again (P:=P) (x:=g) (x':=c) (C.yd.fixed (λz=>z.elim L f) e)
    simp[this]
 have J:((gs.map (eP P g c w)).setIfInBounds i c)[i]?=Z c:=kJ (by simpa using aC);have Q:(W i≠I/\i≠0)\/(i=0/\d=0):=.inl ⟨by rw[t];simp,s⟩;refine⟨_,_,wQ G (by rw[O];exact u),⟨by simp,A,λg0 e=>?_⟩,J,K,λo m=>⟨r _ m,λa ha=>by obtain⟨e,he,rfl⟩:=jX m;exact Q0 (D e he) a ha⟩,?_,(K 0).trans C.deaf,λk b f hw hS=>?_,λx gx l xh h=>?_⟩
 ·rw[iK s,A4,e,jE]
  exact(aeR P g _ w _).imp (congrArg _) (congrArg _)
 ·refine C.yd.O6 aC ba (λx l v=>A x l λz=>v (.inl z)) J r (λv=>absurd (.inr f) v) ?_
  exact C.yd.past.appRead (λ_=>Knows.app _) Q ⟨s,.inl (by rw[t];simp)⟩ r (λo m b f=>⟨(H _ m b f).1,C.yd.places i y _ t (H _ m b f).2⟩) (E T) λo m=>MemAct.low_mono (C.yd.mem i y t).2.2 (hl _ m)
 ·obtain⟨x,l,N⟩:=om f
  rcases lG l with⟨_,M⟩|⟨_,iH⟩
  ·exact(C.wrote k b (by rw[tu M];exact N) hw hS).app _
  ·grind
 ·by_cases e:x=i
  ·simp_all
  ·rw[A x e l]at h
   exact C.run x _ l xh h
theorem Dr.serve(C:Dr P R At X W V S d B T gs w q){i D H k:Nat}{z}{g o}{y}{s}{sl}(n)(hi:gs[i]?=Z g)(gR:i≠0)(L:V i)(G:W i=Z y)(dM:AtIn P Y y.K y.St y.B s g o)
  (KB:s.Wf)(hk:s.cases[H]?=Z (rcase D z))(jq:∀c,s.has c->c≠D->y.s.has c)(hD:w.heap[D]?=Z (.chan 0 #[] U k k Y))(vH:D<B)(δ:S i)(HE:∀g0,gs[0]?=Z g0->∀c,offersAt g0 c U=[]):
  ∃(J:af aH)(t:af MemOp),runT P (crowd gs w sl) i=(.next (crowd J w sl),t)/\My w i gs J/\J[i]?=Z (jx o (rh s.cases s.shape H z Y))/\(∀x,eh (T++t) x=eh T x)/\(∀p∈t,p.g=i/\∀a,p.act≠.mark (.release a))/\Dr P R At X (λx=>if x=i then I else W x) V S d B (T++t) J w (upd q i n):=by
 have aC:=(iy.1 hi).1;have h0:(i==0)=Y:=by simp[gR]
 obtain⟨_,_,_,_,_,es,fI,yW⟩:=dM;have sK:=C.yd.keep i y G;obtain⟨cO,hr,hl,hd⟩:=evC_ops fI;have Az:∀x A c,(gs.setIfInBounds i ph)[x]?=Z A->offersAt A c U=[]:=λx A c f=>by
  rcases getElem?_stand _ i x _ f with⟨_,rfl⟩|⟨r,K⟩
  ·exact offersAt_ph _ _
  ·by_cases nG:x=0
   ·simp_all
   ·by_cases O:V x
    ·exact tq (by rw[C.run x _ nG O K];simp) _ _
    ·exact C.yd.noSend (λz=>z.elim nG O) K c
 have ho:∀(N)(Q),N≠H->s.cases[N]?=Z Q->NoWays w (gs.setIfInBounds i ph) Q:=by
  intro N Q hm nA;obtain⟨c₂,z₂,rfl⟩:=KB.recvs _ (Array.mem_of_getElem? nA);have az:c₂≠D:=λec=>hm (KB.apart _ _ D _ z (ec▸nA) hk);obtain⟨k₂,γ⟩:=C.yd.chans i y _ G (jq _ ⟨N,z₂,nA⟩ az);exact ways_recv_none γ (partners_nil λx A f=>Az x _ _ f)
 have aL:=crowd_sel_recv_closed (sl:=sl) hi (by rw[h0];exact yW w sK) hk ho hD (partners_nil λx A f=>Az x _ _ f);rw[finishComm_served]at aL;have j7:∀p∈dk i g.frame.fn g.frame.place es++#[{g:=i,fn:=o.frame.fn,pos:=o.frame.place,act:=.recvClosed D}],p.g=i:=by
  intro p m;rcases Array.mem_append.1 m with z|z
  ·exact cO _ z
  ·simp_all
 have uY:∀p∈(#[{g:=i,fn:=o.frame.fn,pos:=o.frame.place,act:=.recvClosed D}]),∀dd,deafStep i dd p=dd:=by
  intro p m dd;simp only[ko,bM,gV,or_false]at m;subst m;rfl
 have M:∀x,eh (T++(dk i g.frame.fn g.frame.place es++#[{g:=i,fn:=o.frame.fn,pos:=o.frame.place,act:=.recvClosed D}])) x=eh T x:=λx=>by
  by_cases e:x=i
  ·subst e
   rw[<-Ee,Deaf_quiet uY];exact hd T
  ·exact ni T (λz=>e z.symm) _ j7
 have hM:(W i≠I/\i≠0)\/(i=0/\d=0):=.inl ⟨by rw[G];simp,gR⟩;have tZ:∀x,x≠i->(gs.setIfInBounds i (jx o (rh s.cases s.shape H z Y)))[x]?=gs[x]?:=λx f=>iK (λz=>f z.symm);have jH:(gs.setIfInBounds i (jx o (rh s.cases s.shape H z Y)))[i]?=Z (jx o (rh s.cases s.shape H z Y)):=kJ aC;have E:∀x v,(if x=i then I else W x)=Z v->x≠i/\W x=Z v:=λx v e=>by
  simp_all
 have p1:eJ R X At (λg=>(W g≠I/\g≠0)\/(g=0/\d=0)) (λg=>g≠0/\(W g≠I\/S g)) B (Knows (T++dk i g.frame.fn g.frame.place es) 0) (T++dk i g.frame.fn g.frame.place es):=C.yd.past.appRead (λ_=>Knows.app _) hM ⟨gR,.inl (by rw[G];simp)⟩ cO (λp m b L=>⟨(hr _ m b L).1,C.yd.places i y _ G (hr _ m b L).2⟩) (hd T) λp m=>MemAct.low_mono (C.yd.mem i y G).2.2 (hl _ m);have p2:=p1.appMute (u:=#[{g:=i,fn:=o.frame.fn,pos:=o.frame.place,act:=.recvClosed D}]) (yk:=Knows (T++dk i g.frame.fn g.frame.place es++#[{g:=i,fn:=o.frame.fn,pos:=o.frame.place,act:=.recvClosed D}]) 0) (g:=i) (λ_=>Knows.app _)
  (λp m=>by simp_all) (λp m=>by simp only[ko,bM,gV,or_false]at m;subst m;rfl) (λ_=>Deaf_quiet uY)
  (λp m=>by simp only[ko,bM,gV,or_false]at m;subst m;exact vH)
 rw[Ee]at p2;refine⟨_,_,aL,⟨by simp,λx f _=>tZ x f,λg0 e=>.inl (by simp_all)⟩,jH,M,λp m=>⟨j7 _ m,λa ha=>?_⟩,⟨λx A f gq=>?_,λx v c e hc=>C.yd.chans x _ c (E x _ e).2 hc,λx v e=>C.yd.wf x _ (E x _ e).2,
  λx x' y1 y2 e1 e2=>C.yd.inj x _ _ _ (E _ _ e1).2 (E _ _ e2).2,λj hj=>?_,λx f=>?_,λx v e=>?_,λx f=>?_,λx v f e=>⟨λz=>f (.inl z),.inl (by rw[e];simp)⟩,?_,λx v e=>C.yd.keep x _ (E x _ e).2,λx v l e=>C.yd.places x _ l (E x _ e).2,λj l hj=>?_⟩,(M 0).trans C.deaf,λj b β hw hS=>?_,λx A f O h=>?_⟩
 ·rcases Array.mem_append.1 m with z|z
  ·obtain⟨e,he,rfl⟩:=jX z;exact Q0 (fI e he) a ha
  ·simp_all
 ·have r:x≠i:=λz=>f (.inr (z▸L))
  rw[tZ x r]at gq;rw[upd_ne q n r,if_neg r];have h:=C.yd.idle x _ f gq;cases nS:W x with
  |none=>rw[nS]at h;exact⟨h.1,by rw[M];exact h.2⟩
  |some s=>rw[nS]at h;exact h
 ·rw[M];exact C.yd.above j (by simpa using hj)
 ·have r:x≠i:=λz=>f (if_pos z)
  rw[if_neg r]at f;simpa using C.yd.lt x f
 ·obtain⟨r,e'⟩:=E x _ e
  exact⟨by grind,(C.yd.mem x _ e').2⟩
 ·grind
 ·refine(p2.fewer λx f=>f.imp (λh=>⟨λz=>h.1 ?_,h.2⟩) id).loosen λx f=>⟨f.1,?_⟩
  ·grind
  ·by_cases r:x=i
   ·exact if_pos r
   ·rw[if_neg r];exact z
 ·exact C.yd.fresh j l (by simpa using hj)
 ·obtain⟨x,f,fo⟩:=om β
  rcases lG f with⟨_,K⟩|⟨_,iH⟩
  ·exact(C.wrote j b (by rw[tu K];exact fo) hw hS).app _
  ·rcases Array.mem_append.1 iH with h|h
   ·rw[(hr x h b fo).1]at hw;cases hw
   ·simp only[ko,bM,gV,or_false]at h;subst h;cases fo
 ·by_cases e:x=i
  ·subst e
   rw[jH]at h;obtain rfl:=ee h;rfl
  ·rw[tZ x e]at h
   exact C.run x _ f O h
end
end
section
open Go.ConcN (sumTo upd sumTo_upd upd_ne upd_same)
def dA(S:Nat):aU:=⟨S,11,I⟩
def dB(S:Nat):aU:=⟨S,12,I⟩
def cS(c t:Nat):ag:=.int .u64 ((c)*4294967296+t)
abbrev jJ(n:Nat):ag:=.int .u32 n
structure eY(w:ax)(a:aU)(v:ag):Prop where
 cell:w.cell? a=Z v
 free:w.frozen? a=Y
 shape:w.shape? a.block=Z (109,14)
def se(S:Nat)(X:ax)(a b:ag)(w:ax):Prop:=AtRel ((X.setCell (dA S) a).setCell (dB S) b) w
section
variable {S:Nat}{X w:ax}{a b T R W V:ag}
theorem au3{w:ax}{x y}{A B}(s:w.cell? x=Z A)(z:w.cell? y=Z B)(d:x.block=y.block)(r:x.off≠y.off)(u v):(w.setCell x u).setCell y v=(w.setCell y v).setCell x u:=by
 obtain⟨c,t,f,g,j,E,_⟩:=kQ s;obtain⟨C,H,D,k,h,G,_⟩:=kQ z;rw[d]at g;rw[g]at k;cases k;rw[<-d]at g;have l:=heap_setCell g j u x.block;have m:=heap_setCell (d▸g) h v y.block;rw[if_pos F]at l m;have p:=d▸l;have q:=d▸m;refine ID (zB λn=>?_) F F F F;rw[heap_setCell p h,heap_setCell q j,heap_setCell g j,heap_setCell (d▸g) h];by_cases e:n=x.block
 ·rw[if_pos (e.trans d),if_pos e]
  congr 2;apply zB;intro i;simp only[uF];by_cases o:y.off=i
  ·subst o;simp[r]
  ·simp[o]
 ·simp_all
theorem eY.set{a}{v x}(h:eY w a v):eY (w.setCell a x) a x:=by
 obtain⟨c,d,c3⟩:=U9 h.cell h.free;exact⟨c,d,c3.trans h.shape⟩
theorem Gw{a y}{v l x}(h:eY w a v)(g:eY w y l)(i:a.block=y.block)(m:a.off≠y.off):eY (w.setCell y x) a v:=by
 refine⟨?_,?_,?_⟩
 ·rw[zZ g.cell,if_neg]
  ·exact h.cell
  ·grind
 ·obtain⟨c,t,f,j,k,_⟩:=kQ g.cell
  have e:=heap_setCell j k x a.block;rw[if_pos i]at e;have d:=h.free;unfold qj at d⊢;rw[e];rw[i,j]at d;exact d
 ·rw[zp g.cell];exact h.shape
theorem eY.at{a}{v}(h:eY w a v)(d):eY (w.at d) a v:=⟨h.cell,h.free,h.shape⟩
theorem PY(c:eY X (dA S) W)(e:eY X (dB S) V)(h:se S X a b w):eY w (dA S) a:=by
 obtain⟨d,rfl⟩:=h;exact(Gw (c.set) (Gw e c F (by simp[dA,dB])) F (by simp[dA,dB])).at d
theorem V2(c:eY X (dA S) W)(e:eY X (dB S) V)(h:se S X a b w):eY w (dB S) b:=by
 obtain⟨d,rfl⟩:=h;exact(eY.set (Gw e c F (by simp[dA,dB]))).at d
theorem Ct(c:eY X (dA S) W)(e:eY X (dB S) V)(h:se S X a b w):se S X T b (w.setCell (dA S) T):=by
 obtain⟨d,rfl⟩:=h;refine⟨d,?_⟩;show(((X.setCell (dA S) a).setCell (dB S) b).setCell (dA S) T).at d=_;rw[au3 (Gw e c F (by simp[dA,dB])).cell (c.set).cell F (by simp[dA,dB]),Pu c.cell]
theorem aez(c:eY X (dA S) W)(e:eY X (dB S) V)(h:se S X a b w):se S X a R (w.setCell (dB S) R):=by
 obtain⟨d,rfl⟩:=h;refine⟨d,?_⟩;show(((X.setCell (dA S) a).setCell (dB S) b).setCell (dB S) R).at d=_;rw[Pu (Gw e c F (by simp[dA,dB])).cell]
theorem azh(h:se S X a b w)(d):se S X a b (w.at d):=by obtain⟨e,rfl⟩:=h;exact⟨d,F⟩
theorem aey(c:eY X (dA S) W)(d:eY X (dB S) V):se S X W V X:=⟨X.drawn,by rw[xQ c.cell,xQ d.cell];rfl⟩
theorem azi(j:eY X (dA S) W)(l:eY X (dB S) V)(h:se S X a b w){c f s r:Nat}{e}{g tm}(k:X.heap[c]?=Z (.chan f e g s r tm)):w.heap[c]?=Z (.chan f e g s r tm):=by
 obtain⟨d,rfl⟩:=h;have i:(X.setCell (dA S) a).heap[c]?=Z (.chan f e g s r tm):=by rw[Aa j.cell k];exact k
 show((X.setCell (dA S) a).setCell (dB S) b).heap[c]?=_;rw[Aa (Gw l j F (by simp[dA,dB])).cell i];exact i
end
end
section
open Go.ConcN (sumTo upd sumTo_upd upd_ne upd_same)
def kO(P:aD)(b:Bool)(K:ax->Prop)(E:dR->Prop)(a:Nat->aH->Prop):Nat->Nat->aH->Prop
 |0,d,g=>a d g
 |n+1,d,g=>a d g\/(g.status=.running/\∃f es,(∀e∈es,E e)/\(∀w,K w->aE P b g w=.go f w es)/\kO P b K E a n (ia d es) f)
theorem kO.run{P}{b}{K}{E}{a}(e:∀d g,a d g->g.status=.running):∀{n d}{g},kO P b K E a n d g->g.status=.running
 |0,_,_,h=>e _ _ h
 |_+1,_,_,h=>h.elim (e _ _) (·.1)
theorem kO.cases{P}{b}{K}{E}{a}:∀{n d}{g},kO P b K E a n d g->a d g\/∃k f es,n=k+1/\(∀e∈es,E e)/\(∀w,K w->aE P b g w=.go f w es)/\kO P b K E a k (ia d es) f
 |0,_,_,h=>.inl h
 |n+1,_,_,h=>h.imp id λ⟨_,f,es,i,j,l⟩=>⟨n,f,es,F,i,j,l⟩
def nQ(P:aD)(f:Bool)(K:ax->Prop)(E:dR->Prop)(F:dR)(a:Nat->aH->Prop):Nat->Bool->Nat->aH->Prop
 |0,b,d,g=>b=U/\a d g
 |n+1,b,d,g=>(b=U/\a d g)\/(g.status=.running/\∃i es h,(((∀e∈es,E e)/\h=b)\/(es=#[F]/\d=0/\h=U))/\(∀w,K w->aE P f g w=.go i w es)/\nQ P f K E F a n h (ia d es) i)
theorem nQ.run{P}{e}{K}{E}{F}{a}(f:∀d g,a d g->g.status=.running):∀{n d}{b}{g},nQ P e K E F a n b d g->g.status=.running
 |0,_,_,_,h=>f _ _ h.2
 |_+1,_,_,_,h=>h.elim (λh=>f _ _ h.2) (·.1)
theorem nQ.cases{P}{f}{K}{E}{F}{a}:∀{n d}{b}{g},nQ P f K E F a n b d g->(b=U/\a d g)\/∃k j es i,n=k+1/\(((∀e∈es,E e)/\i=b)\/(es=#[F]/\d=0/\i=U))/\(∀w,K w->aE P f g w=.go j w es)/\nQ P f K E F a k i (ia d es) j
 |0,_,_,_,h=>.inl h
 |n+1,_,_,_,h=>h.imp id λ⟨_,j,es,i,l,m,o⟩=>⟨n,j,es,i,rfl,l,m,o⟩
def KW(S:Nat)(w:ax):Prop:=(∃v,eY w (dA S) v)/\∃v,eY w (dB S) v
def rZ(a:Nat)(e:dR):Prop:=Event.mute e=U
def vk(S:Nat):dR:=⟨.mark (.releaseMerge (dA S)),Y,U⟩
def GN(S:Nat):dR:=⟨.mark (.acquire (dA S)),Y,U⟩
def EvS(S:Nat)(e:dR):Prop:=rZ S e\/∃a,e=⟨.cell (dA S),a,U⟩\/e=⟨.cell (dB S),a,U⟩
def Ja(P:aD)(S:Nat)(a:aU)(v f:ag)(d:Nat)(g:aH)(Next:Nat->aH->Prop):Prop:=∃b es,(∀w,eY w a v->aE P Y g w=.go b (w.setCell a f) es)/\(∀e∈es,EvS S e)/\Bi d es.toList/\Next (ia d es) b
def zS(P:aD)(E:dR->Prop)(a:aU)(v f:ag)(d:Nat)(g:aH)(Next:Nat->aH->Prop):Prop:=∃b es,(∀w,eY w a v->aE P U g w=.go b (w.setCell a f) es)/\(∀e∈es,E e)/\Next (ia d es) b
section
variable (P:aD)(S:Nat)
def WL(a:Nat->aH->Prop)(d:Nat)(g:aH):Prop:=∃n,kO P Y (KW S) (rZ S) a n d g
def WJ(d:Nat)(g:aH):Prop:=∃n,QuitsD P n d g
def GJ(d:Nat)(g:aH):Prop:=d=1/\g.status=.running/\mayWake P g=U/\Ja P S (dB S) (jJ 0) (jJ 1) d g λb a=>(a.status !=.blocked&&a.status !=.waiting)=U/\WJ P b a
def GI(d:Nat)(g:aH):Prop:=d=1/\g.status=.running/\Ja P S (dA S) (cS 0 1) (cS 0 0) d g (WL P S (GJ P S))
def GH(d:Nat)(g:aH):Prop:=d=1/\g.status=.running/\Ja P S (dA S) (cS 0 1) (cS 0 1) d g (WL P S (GI P S))
def CN(d:Nat)(g:aH):Prop:=d=1/\g.status=.running/\∀c t,c<9->t<=1->Ja P S (dA S) (cS (c+1) t) (cS c t) d g λa b=>(c=0/\t=1->WL P S (GH P S) a b)/\(¬(c=0/\t=1)->WJ P a b)
variable (E:dR->Prop)(gf:aH)
def WM(a:Nat->aH->Prop)(d:Nat)(g:aH):Prop:=∃n,kO P U (KW S) E a n d g
def Qk(d:Nat)(g:aH):Prop:=d=0/\g.status=.running/\g=gf
def WZ(d:Nat)(g:aH):Prop:=∃n,nQ P U (KW S) E (GN S) (Qk gf) n Y d g
def I3(d:Nat)(g:aH):Prop:=d=1/\g.status=.running/\zS P E (dA S) (cS 0 0) (cS 0 0) d g (WZ P S E gf)
def ym(d:Nat)(g:aH):Prop:=d=1/\g.status=.running/\g.offers=I/\(∀w,eY w (dB S) (jJ 0)->aE P U g w=.go {g with status:=.blocked} w #[])/\zS P E (dB S) (jJ 1) (jJ 0) d g (WM P S E (I3 P S E gf))
def Ey(a:Nat->aH->Prop)(c0 d:Nat)(g:aH):Prop:=d=1/\g.status=.running/\zS P E (dA S) (cS c0 0) (cS c0 1) d g (WM P S E (ym P S E gf))/\∀c,c<c0->zS P E (dA S) (cS c 0) (cS c 0) d g (WM P S E a)
def yl:Nat->Nat->aH->Prop
 |0,d,g=>d=1/\g.status=.running/\zS P E (dA S) (cS 0 0) (cS 0 0) d g (WZ P S E gf)
 |f+1,d,g=>d=1/\g.status=.running/\zS P E (dA S) (cS 0 0) (cS 0 0) d g (WZ P S E gf)/\∀c,c<=f->zS P E (dA S) (cS (c+1) 0) (cS (c+1) 0) d g (WM P S E (Ey P S E gf (yl f) (c+1)))
end
section
variable {P:aD}{S:Nat}{E:dR->Prop}{gf:aH}
theorem ab3{d}{g}(h:CN P S d g):g.status=.running:=h.2.1
theorem UD{d}{g}(h:GH P S d g):g.status=.running:=h.2.1
theorem UE{d}{g}(h:GI P S d g):g.status=.running:=h.2.1
theorem UF{d}{g}(h:GJ P S d g):g.status=.running:=h.2.1
theorem Ue{d}{g}(h:Qk gf d g):g.status=.running:=h.2.1
theorem Ud{d}{g}(h:I3 P S E gf d g):g.status=.running:=h.2.1
theorem FV{d}{g}(h:ym P S E gf d g):g.status=.running:=h.2.1
theorem HV{a}{c0 d}{g}(h:Ey P S E gf a c0 d g):g.status=.running:=h.2.1
theorem Uc{f d}{g}(h:yl P S E gf f d g):g.status=.running:=by cases f<;>exact h.2.1
theorem ap8{f d}{g}(h:yl P S E gf f d g):zS P E (dA S) (cS 0 0) (cS 0 0) d g (WZ P S E gf):=by
 cases f with
 |zero=>exact h.2.2
 |succ f=>exact h.2.2.1
end
inductive vt(P:aD)(S:Nat)(E:dR->Prop)(gf:aH)(d:Nat):Nat->aH->Prop
 |uD {n:Nat} {g:aH} (h:kO P U (KW S) E (ym P S E gf) n d g):vt P S E gf d (n+1) g
 |parked {g:aH} (h:ym P S E gf d g):vt P S E gf d 0 {g with status:=.blocked}
inductive gM(P:aD)(S:Nat)(E:dR->Prop)(gf:aH)(AK:Prop)(c8:Nat->Nat->Prop)(c d q0:Nat)(g0:aH):aj Nat->Nat->Nat->Nat->Prop
 |a (f:Nat) (hc:c<=f) (h:kO P U (KW S) E (yl P S E gf f) q0 d g0):gM P S E gf AK c8 c d q0 g0 I 0 0 11
 |zt (f c0:Nat) (hc:c<c0) (h0:c0<=f+1) (h:kO P U (KW S) E (Ey P S E gf (yl P S E gf f) c0) q0 d g0):gM P S E gf AK c8 c d q0 g0 I 0 0 12
 |b (f:Nat) (hc:0<c) (h0:c<=f+1) (h:kO P U (KW S) E (Ey P S E gf (yl P S E gf f) c) q0 d g0):gM P S E gf AK c8 c d q0 g0 I 0 0 10
 |c (hc:0<c) (h:vt P S E gf d q0 g0):gM P S E gf AK c8 c d q0 g0 I 1 0 9
 |cB (j:Nat) (hc:c=0) (hj:c8 j 2) (h:vt P S E gf d q0 g0):gM P S E gf AK c8 c d q0 g0 (Z j) 1 0 8
 |cC (j:Nat) (hc:c=0) (hj:c8 j 1) (h:vt P S E gf d q0 g0):gM P S E gf AK c8 c d q0 g0 (Z j) 1 0 7
 |cD (j:Nat) (hc:c=0) (hj:c8 j 0) (h:vt P S E gf d q0 g0):gM P S E gf AK c8 c d q0 g0 (Z j) 0 0 6
 |cR (hc:c=0) (h:kO P U (KW S) E (ym P S E gf) q0 d g0):gM P S E gf AK c8 c d q0 g0 I 0 1 5
 |d (hc:c=0) (h:kO P U (KW S) E (I3 P S E gf) q0 d g0):gM P S E gf AK c8 c d q0 g0 I 0 0 4
 |z (b:Bool) (hb:b=U->AK) (hc:c=0) (h:nQ P U (KW S) E (GN S) (Qk gf) q0 b d g0):gM P S E gf AK c8 c d q0 g0 I 0 0 3
section
variable {P:aD}{S:Nat}{E:dR->Prop}{gf:aH}{AK kI:Prop}{c8 DR:Nat->Nat->Prop}{c d q0:Nat}{g0:aH}{X:aj Nat}{t W V:Nat}
theorem WU{g}(f:g.status=.running)(e:g.offers=I)(w):({g with status:=.blocked}:aH).again w=g:=by
 obtain⟨a,b,s,h,o⟩:=g;cases f;cases e;rfl
theorem vt.again(h:vt P S E gf d q0 g0)(w):∃a,a<=q0+1/\vt P S E gf d a (g0.again w):=by
 cases h with
 |uD h=>exact⟨_,wM _,by rw[Bb w (.inl (h.run λ_ _=>FV))];exact .uD h⟩
 |parked h=>exact⟨1,by omega,by rw[WU h.2.1 h.2.2.1];exact .uD h⟩
theorem vt.noSend(h:vt P S E gf d q0 g0)(b):offersAt g0 b U=[]:=by
 cases h with
 |uD h=>exact tq (by rw[h.run λ_ _=>FV];simp) ..
 |@parked g h=>
  have:=h.2.2.1;simp[offersAt,this]
theorem gM.noSend(h:gM P S E gf AK c8 c d q0 g0 X t W V)(b):offersAt g0 b U=[]:=by
 cases h with
 |a f e h=>exact tq (by rw[h.run λ_ _=>Uc];simp) ..
 |zt f c0 e i h=>exact tq (by rw[h.run λ_ _=>HV];simp) ..
 |b f e i h=>exact tq (by rw[h.run λ_ _=>HV];simp) ..
 |c e h=>exact h.noSend b
 |cB j e g h=>exact h.noSend b
 |cC j e g h=>exact h.noSend b
 |cD j e g h=>exact h.noSend b
 |cR e h=>exact tq (by rw[h.run λ_ _=>FV];simp) ..
 |d e h=>exact tq (by rw[h.run λ_ _=>Ud];simp) ..
 |z b k e h=>exact tq (by rw[h.run λ_ _=>Ue];simp) ..
theorem gM.FL(h:gM P S E gf AK c8 c d q0 g0 X t W V)(l:∀j n,X=Z j->c8 j n->DR j n)(m:c=0->AK->kI):gM P S E gf kI DR c d q0 g0 X t W V:=by
 cases h with
 |a f g h=>exact .a f g h
 |zt f c0 g k h=>exact .zt f _ g k h
 |b f g k h=>exact .b f g k h
 |c g h=>exact .c g h
 |cB j g i h=>exact .cB j g (l _ _ F i) h
 |cC j g i h=>exact .cC j g (l _ _ F i) h
 |cD j g i h=>exact .cD j g (l _ _ F i) h
 |cR g h=>exact .cR g h
 |d g h=>exact .d g h
 |z b o g h=>exact .z b (λe=>m g (o e)) g h
theorem gM.again(h:gM P S E gf AK c8 c d q0 g0 X t W V)(w):∃g,g<=q0+1/\gM P S E gf AK c8 c d g (g0.again w) X t W V:=by
 cases h with
 |a f e h=>exact⟨_,wM _,by rw[Bb w (.inl (h.run λ_ _=>Uc))];exact .a f e h⟩
 |zt f c0 e m h=>exact⟨_,wM _,by rw[Bb w (.inl (h.run λ_ _=>HV))];exact .zt f _ e m h⟩
 |b f e m h=>exact⟨_,wM _,by rw[Bb w (.inl (h.run λ_ _=>HV))];exact .b f e m h⟩
 |c e h=>obtain⟨g,i,k⟩:=h.again w;exact⟨g,i,.c e k⟩
 |cB j e l h=>obtain⟨g,i,k⟩:=h.again w;exact⟨g,i,.cB j e l k⟩
 |cC j e l h=>obtain⟨g,i,k⟩:=h.again w;exact⟨g,i,.cC j e l k⟩
 |cD j e l h=>obtain⟨g,i,k⟩:=h.again w;exact⟨g,i,.cD j e l k⟩
 |cR e h=>exact⟨_,wM _,by rw[Bb w (.inl (h.run λ_ _=>FV))];exact .cR e h⟩
 |d e h=>exact⟨_,wM _,by rw[Bb w (.inl (h.run λ_ _=>Ud))];exact .d e h⟩
 |z b n e h=>exact⟨_,wM _,by rw[Bb w (.inl (h.run λ_ _=>Ue))];exact .z b n e h⟩
theorem gM.sm0(h:gM P S E gf AK c8 c d q0 g0 X t W V)(a:0<c):W=0/\X=I:=by
 cases h<;>first|exact⟨rfl,rfl⟩|omega
theorem vt.status(h:vt P S E gf d q0 g0):g0.status=.running\/g0.status=.blocked:=by
 cases h with
 |uD h=>exact .inl (h.run λ_ _=>FV)
 |parked h=>exact .inr F
theorem gM.status(h:gM P S E gf AK c8 c d q0 g0 X t W V):g0.status=.running\/(g0.status=.blocked/\(0<c\/∃j n,X=Z j/\c8 j n)):=by
 cases h with
 |a f g h=>exact .inl (h.run λ_ _=>Uc)
 |zt f c0 g k h=>exact .inl (h.run λ_ _=>HV)
 |b f g k h=>exact .inl (h.run λ_ _=>HV)
 |c g h=>exact h.status.imp id λe=>⟨e,.inl g⟩
 |cB j g i h=>exact h.status.imp id λe=>⟨e,.inr ⟨_,_,F,i⟩⟩
 |cC j g i h=>exact h.status.imp id λe=>⟨e,.inr ⟨_,_,F,i⟩⟩
 |cD j g i h=>exact h.status.imp id λe=>⟨e,.inr ⟨_,_,F,i⟩⟩
 |cR g h=>exact .inl (h.run λ_ _=>FV)
 |d g h=>exact .inl (h.run λ_ _=>Ud)
 |z b l g h=>exact .inl (h.run λ_ _=>Ue)
theorem gM.last(h:gM P S E gf AK c8 1 d q0 g0 X 1 W V){j}(a:DR j 2):gM P S E gf kI DR 0 d q0 g0 (Z j) 1 0 8:=by
 cases h with
 |c b h=>exact .cB j F a h
 |cB j b a h=>omega
 |cC j b a h=>omega
end
end
abbrev fM:aj (aK×Nat):=Z (109,14)
section
variable {P:aD}{X:Bool}{S:Nat}{E:dR->Prop}{W:Nat->aH->Prop}{d:Nat}{g V:aH}
theorem zA:∀(n:Nat)(g:aH),(∃m,kO P X (KW S) E W m d (aN P n g))->∃m,kO P X (KW S) E W m d g:=by
 intro n;induction n with
 |zero=>intro g h;exact h
 |succ n e=>
  intro g h;unfold aN at h;cases hq:oM P g with
  |none=>rw[hq]at h;exact h
  |some V=>
   rw[hq]at h;obtain⟨m,c⟩:=e V h;obtain⟨a,b⟩:=D4 (main:=X) hq;exact⟨m+1,.inr ⟨a,V,#[],by simp,λw _=>b w,c⟩⟩
theorem azR{l:ae iR}{es:af dR}(b:∀v,stage P fM v g=Z (V,v,l))(c:eN (dA S) l)(f:xV P g l=es)(h:∀e∈es,E e)(n:∃m,kO P X (KW S) E W m (ia d es) V):∃m,kO P X (KW S) E W m d g:=by
 subst f;refine zA 400 g ?_;obtain⟨m,j⟩:=n;have k:=(xA (main:=X) (b aB) c).1;refine⟨m+1,.inr ⟨k,V,xV P g l,h,λw i=>?_,j⟩⟩;obtain⟨⟨v,a⟩,_⟩:=i;rw[(xA (main:=X) (b v) c).2 w a.cell a.free a.shape,xQ a.cell];rfl
theorem aco:∀(n:Nat)(g:aH),(∃m,QuitsD P m d (aN P n g))->∃m,QuitsD P m d g:=by
 intro n;induction n with
 |zero=>intro g h;exact h
 |succ n e=>
  intro g h;unfold aN at h;cases hq:oM P g with
  |none=>rw[hq]at h;exact h
  |some V=>
   rw[hq]at h;obtain⟨m,c⟩:=e V h;obtain⟨a,b⟩:=D4 (main:=Y) hq;exact⟨m+1,.inr ⟨a,V,#[],by simp,λw=>b w,c⟩⟩
theorem UQ{es:af dR}(c:g.status=.running)(h:∀w,aE P Y g w=.go V w es)(a:∀e∈es,Event.mute e=U)(f:∃m,QuitsD P m (ia d es) V):∃m,QuitsD P m d g:=by
 obtain⟨m,b⟩:=f;exact⟨m+1,.inr ⟨c,V,es,a,h,b⟩⟩
end
noncomputable def kG(v:ag)(g:aH):aH:=((nY ak fM v g).map (λr=>r.1)).getD default
theorem Uu{v e:ag}{g:aH}{l:ae iR}(h:(nY ak fM v g).map (λr=>r.2)=Z (e,l)):nY ak fM v g=Z (kG v g,e,l):=by
 unfold kG;cases hs:nY ak fM v g with
 |none=>rw[hs]at h;cases h
 |some r=>rw[hs]at h;obtain⟨a,b,c⟩:=r;cases h;rfl
noncomputable def sg(g:aH):aH:=kG aB (aN ak 400 g)
theorem wo{g:aH}{l:ae iR}{v:ag}(h:(stage ak fM v g).map (λr=>r.2)=Z (v,l))(a:kG v (aN ak 400 g)=sg g):stage ak fM v g=Z (sg g,v,l):=by
 rw[<-a];exact Uu h
theorem PQ{S:Nat}{v c:ag}{d:Nat}{g:aH}{l:ae iR}{es:af dR}{Next:Nat->aH->Prop}(n:a.block=S)(j:(nY ak fM v g).map (λr=>r.2)=Z (c,l))(m:eN a l)(h:seen ak g.frame.fn (dm l).toArray=es)(i:∀e∈es,EvS S e)(f:Bi d es.toList)(k:Next (ia d es) (kG v g)):Ja ak S a v c d g Next:=by
 have:=xA (main:=Y) (Uu j) m;refine⟨kG v g,es,λw b=>?_,i,f,k⟩;rw[this.2 w b.cell b.free b.shape,h]
theorem Gf{E:dR->Prop}{v c:ag}{d:Nat}{g:aH}{l:ae iR}{Next:Nat->aH->Prop}(h:(nY ak fM v g).map (λr=>r.2)=Z (c,l))(j:eN a l)(f:∀e∈dm l,E e)(i:Next (ia d (seen ak g.frame.fn (dm l).toArray)) (kG v g)):zS ak E a v c d g Next:=by
 have:=xA (main:=U) (Uu h) j;exact⟨kG v g,_,λw b=>this.2 w b.cell b.free b.shape,λe hE=>f e (by simpa using mem_seen hE),i⟩
def Jg(tm:af ag)(T:ae aJ):aA:=⟨94,tm,T,[],.returning,.deferred,I⟩
noncomputable def QR(S:Nat)(tm:af ag)(T:ae aJ):aH:=G (bO ak 95 #[ptr S 11] .deferred) [Jg tm T,wrap]
def aue(S:Nat):af ag:=⟨[ptr S 11,.int .u64 18446744069414584320,aB,aB,.int .u64 0,ptr S 11,ptr S 11,ptr S 11,.int .u64 18446744069414584320,aB]⟩
def s93(S:Nat):af ag:=⟨[ptr S 11,ai (-1),aB,aB,.bool Y,aB,aB,aB,aB,ai (-1),.bool U,ptr S 11,ptr S 11,aB,aB,.bool Y,aB,aB,aB,aB,aB,aB,aB,aB,aB,aB,aB,aB,aB,aB,aB,aB,aB,aB,aB,aB,aB,
 ptr S 11,ptr S 11,ptr S 11,ai (-1),.int .u64 18446744073709551615,.int .u64 18446744069414584320]++kq 74 aB⟩
def s95(S:Nat):af ag:=⟨[ptr S 11,aB,ptr S 11,aB]⟩
noncomputable def t124:ae aJ:=match Tryz.f124.body with
 |some (.seq _ (.seq (.region _ a _) c))=>[.inRegion a [4,5],.code c]
 |_=>[]
noncomputable def t93:ae aJ:=match Tryz.f93.body with
 |some (.seq _ (.seq _ (.seq _ (.seq (.region _ a _) c))))=>[.inRegion a [6,7],.code c]
 |_=>[]
noncomputable def t95:ae aJ:=match Tryz.f95.body with
 |some (.region _ a _)=>[.inRegion a [1]]
 |_=>[]
noncomputable def EB(S:Nat)(tm:af ag)(T:ae aJ):aH:=G ⟨124,aue S,t124,[],.run,.normal,I⟩ [⟨93,s93 S,t93,[Jw],.run,.normal,I⟩,⟨95,s95 S,t95,[],.run,.deferred,I⟩,Jg tm T,wrap]
section
variable (S:Nat)(tm:af ag)(T:ae aJ)(v:ag)
theorem afH:aN ak 400 (sg (sg (sg (sg (QR S tm T)))))=EB S tm T:=al
end
theorem af0(tm:af ag)(td:ae aJ)(w:ax):aE ak Y (G (Jg tm td) [wrap]) w=.go (G wrap []) w #[]:=al
noncomputable def aru:aH:={G wrap []with status:=.finished}
theorem azX(w:ax):aE ak Y (G wrap []) w=.go aru w #[]:=al
theorem as9(tm:af ag)(td:ae aJ):∃m,QuitsD ak m 0 (G (Jg tm td) [wrap]):=UQ F (af0 tm td) ba (UQ F azX ba ⟨0,F,F⟩)
theorem WT{g:aH}{tm:af ag}{td:ae aJ}(b:aN ak 400 g=G ⟨93,(aN ak 400 g).frame.tmps,(aN ak 400 g).frame.todo,[Jw],.returning,.normal,I⟩ (aN ak 400 g).callers)(c:aN ak 400 (QW (aN ak 400 g))=G (Jg tm td) [wrap]):∃m,QuitsD ak m 1 g:=by
 refine aco 400 g ?_;have hE:seen ak 93 #[⟨.mark (.extern 76),Y,U⟩,⟨.mark .enable,Y,U⟩]=#[⟨.mark .enable,Y,U⟩]:=by kernel_rfl
 have d:∀w,aE ak Y (aN ak 400 g) w=.go (QW (aN ak 400 g)) w #[⟨.mark .enable,Y,U⟩]:=λw=>by
  rw[b,<-hE];exact XL Y 93 _ _ [] .normal _ w
 refine UQ (by rw[b];rfl) d (λe a=>?_) ?_
 ·simp only[ko,bM,gV,or_false]at a
  subst a;rfl
 ·exact aco 400 _ (by rw[c];exact as9 tm td)
def Qv(S:Nat):ae iR:=[.ev ⟨.mark (.extern 150),Y,U⟩,.ev ⟨.cell (dA S),Y,U⟩,.ev ⟨.cell (dA S),U,U⟩]
def MF(S:Nat):af dR:=#[⟨.cell (dA S),Y,U⟩,⟨.cell (dA S),U,U⟩]
theorem afE{S:Nat}:∀e∈MF S,EvS S e:=by
 intro e a;simp only[MF,ko,bM,gV,or_false]at a;rcases a with rfl|rfl
 ·exact .inr ⟨_,.inl rfl⟩
 ·exact .inr ⟨_,.inl rfl⟩
theorem afF{S:Nat}:Bi 1 (MF S).toList:=⟨λ_=>Nat.one_pos,λ_=>Nat.one_pos,trivial⟩
section
variable (S:Nat)(tm:af ag)(td:ae aJ)
theorem afI:seen ak (EB S tm td).frame.fn (dm (Qv S)).toArray=MF S:=al
theorem afG(c t:Nat)(d:c<9)(e:t<=1):(nY ak fM (cS (c+1) t) (EB S tm td)).map (λr=>r.2)=Z (cS c t,Qv S)/\(¬(c=0/\t=1)->∃m,QuitsD ak m 1 (kG (cS (c+1) t) (EB S tm td))):=by
 have a:c=0\/c=1\/c=2\/c=3\/c=4\/c=5\/c=6\/c=7\/c=8:=by omega
 have b:t=0\/t=1:=by omega
 rcases a with rfl|rfl|rfl|rfl|rfl|rfl|rfl|rfl|rfl<;>rcases b with rfl|rfl<;>exact⟨by kernel_rfl,λh=>by first|exact absurd ⟨rfl,rfl⟩ h|exact WT (tm:=tm) (td:=td) al al⟩
end
section
variable {P:aD}{X:Bool}{S:Nat}{E:dR->Prop}{F:dR}{W:Nat->aH->Prop}{d:Nat}{b:Bool}{g V:aH}
theorem LU:∀(n)(g),(∃m,nQ P X (KW S) E F W m b d (aN P n g))->∃m,nQ P X (KW S) E F W m b d g:=by
 intro n;induction n with
 |zero=>intro g h;exact h
 |succ n f=>
  intro g h;unfold aN at h;cases hq:oM P g with
  |none=>rw[hq]at h;exact h
  |some V=>
   rw[hq]at h;obtain⟨m,e⟩:=f _ h;obtain⟨a,c⟩:=D4 hq;exact⟨m+1,.inr ⟨a,V,#[],b,.inl ⟨by simp,rfl⟩,λw _=>c w,e⟩⟩
theorem azS{es}(f:g.status=.running)(h:∀w,aE P X g w=.go V w es)(a:∀e∈es,E e)(i:∃m,nQ P X (KW S) E F W m b (ia d es) V):∃m,nQ P X (KW S) E F W m b d g:=by
 obtain⟨m,c⟩:=i;exact⟨m+1,.inr ⟨f,V,es,b,.inl ⟨a,rfl⟩,λw _=>h w,c⟩⟩
theorem Gi{l}{es}{d'}(c:∀v,stage P fM v g=Z (V,v,l))(f:eN (dA S) l)(h:xV P g l=es)(j:∀e∈es,E e)(i:ia d es=d')(p:∃m,nQ P X (KW S) E F W m b d' V):∃m,nQ P X (KW S) E F W m b d g:=by
 subst h i;refine LU 400 g ?_;obtain⟨m,n⟩:=p;have o:=(xA (main:=X) (c aB) f).1;refine⟨m+1,.inr ⟨o,V,xV P g l,b,.inl ⟨j,rfl⟩,λw k=>?_,n⟩⟩;obtain⟨⟨v,a⟩,_⟩:=k;rw[(xA (c v) f).2 w a.cell a.free a.shape,xQ a.cell];rfl
theorem Wa{l}(c:∀v,stage P fM v g=Z (V,v,l))(e:eN (dA S) l)(f:xV P g l=#[F])(h:ia 0 #[F]=0)(n:∃m,nQ P X (KW S) E F W m U 0 V):∃m,nQ P X (KW S) E F W m b 0 g:=by
 refine LU 400 g ?_;obtain⟨m,j⟩:=n;have k:=(xA (main:=X) (c aB) e).1;refine⟨m+1,.inr ⟨k,V,#[F],U,.inr ⟨rfl,rfl,rfl⟩,λw i=>?_,by rw[h];exact j⟩⟩;obtain⟨⟨v,a⟩,_⟩:=i;rw[(xA (c v) e).2 w a.cell a.free a.shape,xQ a.cell,<-f];rfl
end
section
variable (S:Nat)(tm:af ag)(X:ae aJ)
noncomputable def KP:aH:=aN ak 400 (kG (cS 1 1) (EB S tm X))
noncomputable def KQ:aH:=aN ak 400 (kG (cS 0 1) (KP S tm X))
noncomputable def DK:aH:=aN ak 400 (kG (cS 0 1) (KQ S tm X))
def TH:ae iR:=[.ev ⟨.mark (.extern 117),Y,U⟩,.ev ⟨.cell (dA S),Y,U⟩]
def TI:ae iR:=[.ev ⟨.mark (.extern 151),Y,U⟩,.ev ⟨.cell (dA S),U,U⟩]
def TJ:ae iR:=[.ev ⟨.mark (.extern 127),Y,U⟩,.ev ⟨.mark .disable,Y,U⟩,.ev ⟨.cell (dB S),Y,U⟩,.ev ⟨.cell (dB S),U,U⟩,.ev ⟨.mark .enable,Y,U⟩]
theorem aoJ:(nY ak fM (cS 0 1) (KP S tm X)).map (λr=>r.2)=Z (cS 0 1,TH S):=al
theorem aoK:seen ak (KP S tm X).frame.fn (dm (TH S)).toArray=#[⟨.cell (dA S),Y,U⟩]:=al
theorem aoL:(nY ak fM (cS 0 1) (KQ S tm X)).map (λr=>r.2)=Z (cS 0 0,TI S):=al
theorem aoM:seen ak (KQ S tm X).frame.fn (dm (TI S)).toArray=#[⟨.cell (dA S),U,U⟩]:=al
theorem aoO:(nY ak fM (jJ 0) (DK S tm X)).map (λr=>r.2)=Z (jJ 1,TJ S):=al
theorem aoQ:seen ak (DK S tm X).frame.fn (dm (TJ S)).toArray=semEvents (dB S):=al
theorem aoR:mayWake ak (DK S tm X)=U:=al
theorem aoN:((kG (jJ 0) (DK S tm X)).status !=.blocked&&(kG (jJ 0) (DK S tm X)).status !=.waiting)=U:=al
theorem aoP:∃m,QuitsD ak m 1 (kG (jJ 0) (DK S tm X)):=WT (tm:=tm) (td:=X) al al
theorem TK:(KP S tm X).status=.running/\(KQ S tm X).status=.running/\(DK S tm X).status=.running/\(EB S tm X).status=.running:=⟨by kernel_rfl,by kernel_rfl,by kernel_rfl,F⟩
theorem arI:GJ ak S 1 (DK S tm X):=by
 refine⟨F,(TK S tm X).2.2.1,aoR S tm X,PQ F (aoO S tm X) (by simp[TJ,eN]) (aoQ S tm X) (λe a=>?_) ?_ ⟨aoN S tm X,?_⟩⟩
 ·simp only[semEvents,ko,bM,gV,or_false]at a
  rcases a with rfl|rfl|rfl|rfl
  ·exact .inl rfl
  ·exact .inr ⟨_,.inr rfl⟩
  ·exact .inr ⟨_,.inr rfl⟩
  ·exact .inl rfl
 ·exact⟨λh=>absurd rfl h,λ_=>Nat.zero_lt_succ _,λ_=>Nat.zero_lt_succ _,λh=>absurd rfl h,trivial⟩
 ·exact aoP S tm X
theorem arH:GI ak S 1 (KQ S tm X):=by
 refine⟨F,(TK S tm X).2.1,PQ F (aoL S tm X) (by simp[TI,eN]) (aoM S tm X) (λe a=>?_) ⟨λ_=>Nat.one_pos,trivial⟩ ?_⟩
 ·simp only[ko,bM,gV,or_false]at a
  subst a;exact .inr ⟨_,.inl F⟩
 ·exact zA 400 _ ⟨0,arI S tm X⟩
theorem arF:GH ak S 1 (KP S tm X):=by
 refine⟨F,(TK S tm X).1,PQ F (aoJ S tm X) (by simp[TH,eN]) (aoK S tm X) (λe a=>?_) ⟨λ_=>Nat.one_pos,trivial⟩ ?_⟩
 ·simp only[ko,bM,gV,or_false]at a
  subst a;exact .inr ⟨_,.inl F⟩
 ·exact zA 400 _ ⟨0,arH S tm X⟩
theorem arE:CN ak S 1 (EB S tm X):=by
 refine⟨F,F,λc t d e=>?_⟩;obtain⟨a,b⟩:=afG S tm X c t d e;refine PQ F a (by simp[Qv,eN]) (afI S tm X) afE afF ⟨λh=>?_,λh=>b h⟩;obtain⟨rfl,rfl⟩:=h;exact zA 400 _ ⟨0,arF S tm X⟩
theorem ah4:∃m,nQ ak Y (KW S) (rZ S) (vk S) (CN ak S) m Y 0 (QR S tm X):=by
 refine Gi (es:=#[]) (d':=0) (λv=>wo (l:=[.shape S,.shape S]) al al) (by simp[eN,dA]) al ba F ?_;refine Wa (λv=>wo (l:=[.ev ⟨.mark (.extern 112),Y,U⟩,.ev ⟨.mark (.releaseMerge (dA S)),Y,U⟩]) al al) (by simp[eN]) al F ?_;refine Gi (es:=#[⟨.mark .disable,Y,U⟩]) (d':=1) (λv=>wo (l:=[.ev ⟨.mark (.extern 74),Y,U⟩,.ev ⟨.mark .disable,Y,U⟩]) al al) (by simp[eN]) al (λe a=>?_) F ?_
 ·simp only[ko,bM,gV,or_false]at a
  subst a;exact(F:Event.mute ⟨.mark .disable,Y,U⟩=U)
 refine Gi (es:=#[]) (d':=1) (λv=>wo (l:=[.ev ⟨.mark (.extern 82),Y,U⟩]) al al) (by simp[eN]) al ba F ?_;refine LU 400 _ ?_;rw[afH];exact⟨0,F,arE S tm X⟩
end
section
variable (k:dU)(W:ag)(j:Fin 9->ag)
theorem ah3(tm:af ag)(X:ae aJ)(w:ax):aE ak Y (G ⟨94,tm,X,[doneD k],.returning,.deferred,I⟩ [wrap]) w=.go (QR k.S tm X) w #[]:=al
theorem au6:aN ak 400 (AX k W j (tS 1 Y .nilFunc))=G ⟨94,(aN ak 400 (AX k W j (tS 1 Y .nilFunc))).frame.tmps,(aN ak 400 (AX k W j (tS 1 Y .nilFunc))).frame.todo,[doneD k],.returning,.deferred,I⟩ [wrap]:=al
theorem au7:∃m,nQ ak Y (KW k.S) (rZ k.S) (vk k.S) (CN ak k.S) m Y 0 (AX k W j (tS 1 Y .nilFunc)):=by
 refine LU 400 _ ?_;rw[au6];exact azS F (ah3 k _ _) ba (ah4 k.S _ _)
theorem apG{y:YS}{n B0:Nat}{g:aH}(f:k.W≠k.D)(o:y.s=Seat.one k.W .nilFunc U (λ_=>True))(l:y.K=wK k)(b:y.St=uC k)(i:y.B=B0)(t:g.status=.running)(q:Goes ak Y (RK (wK k)) (DS (uC k) B0) (λg _=>∃a,AtIn ak Y (wK k) (uC k) B0 (px k) g a) n g default):∃(s:Seat)(d:Nat)(z:ag),s.Wf/\s.cases[d]?=Z (rcase k.D z)/\(∀c,s.has c->c≠k.D->y.s.has c)/\Goes ak Y (RK y.K) (DS y.St y.B) (λg _=>∃a,AtIn ak Y y.K y.St y.B s g a) n g default/\∀a,s.home a->∃m,nQ ak Y (KW k.S) (rZ k.S) (vk k.S) (CN ak k.S) m Y 0 (jx a (rh s.cases s.shape d z Y)):=by
 refine⟨px k,1,.agg #[],(aeK k B0 f).1,F,λc p h=>?_,by rw[l,b,i];exact q,λa r=>?_⟩
 ·rw[o]
  have:=(A0 k B0).1 p;rcases this with rfl|rfl
  ·exact Seat.one_has.2 rfl
  ·exact absurd rfl h
 ·obtain⟨W,j,rfl⟩:=r
  have:=au7 k W j;unfold AX at this;have e:rh (px k).cases (px k).shape (1:Nat) (.agg #[]) Y=tS 1 Y .nilFunc:=ajR k;rw[e];exact this
end
noncomputable def Jd:bH:=match Tryz.f46.body with
 |some (.seq _ (.block _ (.loop (.block _ x))))=>x
 |_=>.skip
noncomputable def Mp:bH:=match Tryz.f46.body with
 |some (.seq _ (.block _ (.loop x)))=>x
 |_=>.skip
noncomputable def t46:ae aJ:=match Jd with
 |.seq (.region _ a _) c=>[.inRegion a [3,4],.code c,.inBlock 1,.inLoop Mp,.inBlock 0]
 |_=>[]
noncomputable def ayH:ae aJ:=match Jd with
 |.seq _ (.seq _ (.seq _ (.seq _ (.seq (.region _ a _) c))))=>[.inRegion a [6],.code c,.inBlock 1,.inLoop Mp,.inBlock 0]
 |_=>[]
noncomputable def ayI:ae aJ:=match Jd with
 |.seq _ (.seq _ (.seq _ (.seq _ (.seq _ (.cond _ (.seq _ (.seq _ (.seq _ (.seq (.region _ a _) c)))) _)))))=>[.inRegion a [4],.code c,.inBlock 1,.inLoop Mp,.inBlock 0]
 |_=>[]
noncomputable def Uv:af bq:=match Jd with
 |.seq _ (.seq _ (.seq _ (.seq _ (.seq _ (.cond _ (.seq _ (.seq _ (.seq _ (.seq (.region _ a _) _)))) _)))))=>a
 |_=>#[]
noncomputable def aod:ae aJ:=match Jd with
 |.seq _ (.seq _ (.seq _ (.seq _ (.seq _ (.cond _ (.seq _ (.seq _ (.seq _ (.seq _ c)))) _)))))=>[.code c,.inBlock 1,.inLoop Mp,.inBlock 0]
 |_=>[]
noncomputable def t75:ae aJ:=match Tryz.f75.body with
 |some (.seq _ (.seq (.region _ a _) c))=>[.inRegion a [3,4],.code c]
 |_=>[]
noncomputable def t79:ae aJ:=match Tryz.f79.body with
 |some (.seq _ (.seq (.region _ a _) c))=>[.inRegion a [5,6],.code c]
 |_=>[]
def s75(S:Nat):af ag:=⟨[ptr S 11,aB,.int .u64 0,ptr S 11,ptr S 11,ptr S 11,aB]⟩
def s79(S n:Nat):af ag:=⟨[ptr S 11,cS n 0,cS n 1,aB,aB,aB,.bool Y,ptr S 11,ptr S 11,ptr S 11,cS n 0,cS n 1,aB]⟩
noncomputable def Cw(S:Nat)(J:Nat->ag)(c:aA)(X:ae aA):aH:=G ⟨75,s75 S,t75,[],.run,.normal,I⟩ (⟨46,bI 84 (ov J [(0,ptr S 11),(8,ptr S 11),(9,ptr S 11),(10,ptr S 11)]) [],t46,[],.run,.normal,I⟩::c::X)
def QH(S n:Nat)(J:Nat->ag)(l:ae (Nat×ag)):Nat->ag:=ov J ([(0,ptr S 11),(2,cS n 0),(3,.int .i32 n),(4,.int .u32 0),(8,ptr S 11),(9,ptr S 11),(10,ptr S 11),(11,cS n 0),(12,cS n 0),(13,.int .u64 n),(14,.int .i32 n),(15,cS n 0),(16,.int .u64 0),(17,.int .u32 0),(18,.int .i32 n),(19,.bool Y),
 (42,ptr S 11),(43,ptr S 11),(44,ptr S 11),(45,cS n 0),(46,cS n 0),(47,cS n 1)]++l)
noncomputable def EC(S n:Nat)(J:Nat->ag)(c:aA)(X:ae aA):aH:=G ⟨79,s79 S n,t79,[],.run,.normal,I⟩ (⟨46,bI 84 (QH S n J []) [],ayH,[],.run,.normal,I⟩::c::X)
def auS(S n:Nat)(J:Nat->ag):Nat->ag:=QH S n J [(5,.bool Y),(48,.bool U),(49,.bool U),(50,.int .u32 0),(51,.bool U),(52,.bool U),(53,ptr S 11),(54,ptr S 11),(55,ptr S 12),(56,ptr S 12),(57,aB),(58,cS n 0),(59,.int .u64 0),(60,.bool Y),(61,.bool Y),(62,aB),(63,.bool Y),
 (68,ptr S 11),(69,ptr S 11),(70,ptr S 12),(71,.bool Y)]
noncomputable def Ea(S:Nat)(J:Nat->ag)(c:aA)(X:ae aA):aH:=G ⟨46,bI 84 (ov J [(0,ptr S 11),(70,ptr S 12),(71,.bool Y)]) [],ayI,[],.run,.normal,I⟩ (c::X)
def y7(S:Nat):ae iR:=[.ev ⟨.mark (.extern 117),Y,U⟩,.ev ⟨.cell (dA S),Y,U⟩]
def J5(S:Nat):ae iR:=[.ev ⟨.mark (.extern 118),Y,U⟩,.shape S,.frozen (dA S),.ev ⟨.cell (dA S),Y,U⟩,.ev ⟨.cell (dA S),U,U⟩]
def K0(S:Nat):ae iR:=[.ev ⟨.mark (.extern 118),Y,U⟩,.shape S,.frozen (dA S),.ev ⟨.cell (dA S),Y,U⟩]
def Lu(S:Nat):ae iR:=[.ev ⟨.mark (.extern 83),Y,U⟩,.ev ⟨.mark .disable,Y,U⟩,.ev ⟨.cell (dB S),Y,U⟩,.ev ⟨.cell (dB S),U,U⟩,.ev ⟨.mark .enable,Y,U⟩]
section
variable (S:Nat)(J:Nat->ag)(X:ae aA)(c:aA)
theorem azN(v:ag):(stage ak fM v (G (bO ak 46 #[ptr S 11] .normal) (c::X))).map (λr=>r.2)=Z (v,[.ev ⟨.mark (.extern 74),Y,U⟩,.ev ⟨.mark .disable,Y,U⟩]):=al
theorem azO(v:ag):kG v (aN ak 400 (G (bO ak 46 #[ptr S 11] .normal) (c::X)))=sg (G (bO ak 46 #[ptr S 11] .normal) (c::X)):=al
theorem azM:aN ak 400 (sg (G (bO ak 46 #[ptr S 11] .normal) (c::X)))=Cw S (λ_=>aB) c X:=al
theorem ld0:(nY ak fM (cS 0 0) (Cw S J c X)).map (λr=>r.2)=Z (cS 0 0,y7 S):=al
theorem TN:ia 1 (seen ak (Cw S J c X).frame.fn (dm (y7 S)).toArray)=1:=al
noncomputable def xf:aH:=kG (cS 0 0) (Cw S J c X)
theorem aif(v:ag):(stage ak fM v (xf S J X c)).map (λr=>r.2)=Z (v,[.ev ⟨.mark (.extern 76),Y,U⟩,.ev ⟨.mark .enable,Y,U⟩]):=al
theorem aih(v:ag):kG v (aN ak 400 (xf S J X c))=sg (xf S J X c):=al
theorem aii(v:ag):(stage ak fM v (sg (xf S J X c))).map (λr=>r.2)=Z (v,[.shape S,.shape S]):=al
theorem aij(v:ag):kG v (aN ak 400 (sg (xf S J X c)))=sg (sg (xf S J X c)):=al
theorem aik(v:ag):(stage ak fM v (sg (sg (xf S J X c)))).map (λr=>r.2)=Z (v,[.ev ⟨.mark (.extern 77),Y,U⟩,.ev ⟨.mark (.acquire (dA S)),Y,U⟩]):=al
theorem ail(v:ag):kG v (aN ak 400 (sg (sg (xf S J X c))))=sg (sg (sg (xf S J X c))):=al
theorem aie(f:cH)(b:af ag)(i:Nat)(d:af bq)(l:ae Nat)(h:ae aJ)(e:ae cz)(a:dQ)(g:aj Nat):∃n,aN ak n (sg (sg (sg (xf S J X ⟨f,b,.inRegion d (i::l)::h,e,.run,a,g⟩))))=G (jw ⟨f,b,.inRegion d (i::l)::h,e,.run,a,g⟩ (.tuple #[])) X:=⟨20,by kernel_rfl⟩
theorem auT:(nY ak fM (jJ 1) (Ea S J c X)).map (λr=>r.2)=Z (jJ 0,Lu S):=al
theorem auV:ia 1 (seen ak (Ea S J c X).frame.fn (dm (Lu S)).toArray)=1:=al
noncomputable def Jh:aH:=aN ak 400 (kG (jJ 1) (Ea S J c X))
theorem agi:(Jh S J X c).status=.running:=al
theorem agh:(nY ak fM (cS 0 0) (Jh S J X c)).map (λr=>r.2)=Z (cS 0 0,y7 S):=al
theorem agj:ia 1 (seen ak (Jh S J X c).frame.fn (dm (y7 S)).toArray)=1:=al
noncomputable def xb:aH:=kG (cS 0 0) (Jh S J X c)
theorem aga(v:ag):(stage ak fM v (xb S J X c)).map (λr=>r.2)=Z (v,[.ev ⟨.mark (.extern 76),Y,U⟩,.ev ⟨.mark .enable,Y,U⟩]):=al
theorem agb(v:ag):kG v (aN ak 400 (xb S J X c))=sg (xb S J X c):=al
theorem agc(v:ag):(stage ak fM v (sg (xb S J X c))).map (λr=>r.2)=Z (v,[.shape S,.shape S]):=al
theorem agd(v:ag):kG v (aN ak 400 (sg (xb S J X c)))=sg (sg (xb S J X c)):=al
theorem age(v:ag):(stage ak fM v (sg (sg (xb S J X c)))).map (λr=>r.2)=Z (v,[.ev ⟨.mark (.extern 77),Y,U⟩,.ev ⟨.mark (.acquire (dA S)),Y,U⟩]):=al
theorem agf(v:ag):kG v (aN ak 400 (sg (sg (xb S J X c))))=sg (sg (sg (xb S J X c))):=al
theorem af9(f:cH)(b:af ag)(i:Nat)(d:af bq)(l:ae Nat)(h:ae aJ)(e:ae cz)(a:dQ)(g:aj Nat):∃n,aN ak n (sg (sg (sg (xb S J X ⟨f,b,.inRegion d (i::l)::h,e,.run,a,g⟩))))=G (jw ⟨f,b,.inRegion d (i::l)::h,e,.run,a,g⟩ (.tuple #[])) X:=⟨10,by kernel_rfl⟩
theorem auU(w:ax)(b:w.cell? (dB S)=Z (jJ 0))(d:w.frozen? (dB S)=Y)(e:w.shape? S=fM):aE ak U (Ea S J c X) w=.go {Ea S J c X with status:=.blocked} w #[]:=by
 have a:Ea S J c X=G (Frame.at ⟨46,#[],[],[],.run,.normal,I⟩ ⟨bI 84 (ov J [(0,ptr S 11),(70,ptr S 12),(71,.bool Y)]) [],[]⟩ (.inRegion Uv (4::[])::aod)) (c::X):=by kernel_rfl
 rw[a];exact stepG_semacquire_wait (P:=ak) (main:=U) (o:=Uv.getD 4 default) (fn:=Tryz.f83) al al (show(Uv.getD 4 default).op=.call {callee:=.value (.func 83),args:=#[tm 70,tm 71],argTypes:=#[173,4]} by kernel_rfl) al al al al al (ad:=dB S) al b
end
section
variable (S:Nat)(J:Nat->ag)(X:ae aA)(c:aA)
def nine(n:Nat):Prop:=n=1\/n=2\/n=3\/n=4\/n=5\/n=6\/n=7\/n=8\/n=9
theorem ldN{n}(a:nine n):(nY ak fM (cS n 0) (Cw S J c X)).map (λr=>r.2)=Z (cS n 0,y7 S)/\aN ak 400 (kG (cS n 0) (Cw S J c X))=EC S n J c X:=by
 rcases a with rfl|rfl|rfl|rfl|rfl|rfl|rfl|rfl|rfl<;>exact⟨by kernel_rfl,by kernel_rfl⟩
noncomputable def BL(n:Nat):aH:=kG (cS n 0) (EC S n J c X)
theorem alX{n}(b:nine n):(nY ak fM (cS n 0) (EC S n J c X)).map (λr=>r.2)=Z (cS n 1,J5 S)/\
  (∀v,(stage ak fM v (BL S J X c n)).map (λr=>r.2)=Z (v,[.shape S,.shape S]))/\(∀v,kG v (aN ak 400 (BL S J X c n))=sg (BL S J X c n))/\
  (∀v,(stage ak fM v (sg (BL S J X c n))).map (λr=>r.2)=Z (v,[.ev ⟨.mark (.extern 81),Y,U⟩,.ev ⟨.mark (.write (dB S)),Y,U⟩]))/\(∀v,kG v (aN ak 400 (sg (BL S J X c n)))=sg (sg (BL S J X c n)))/\
  aN ak 400 (sg (sg (BL S J X c n)))=Ea S (auS S n J) c X/\
  (∀l,(l=J5 S\/l=K0 S)->ia 1 (seen ak (EC S n J c X).frame.fn (dm l).toArray)=1)/\ia 1 (xV ak (BL S J X c n) [.shape S,.shape S])=1/\
  ia 1 (xV ak (sg (BL S J X c n)) [.ev ⟨.mark (.extern 81),Y,U⟩,.ev ⟨.mark (.write (dB S)),Y,U⟩])=1:=by
 rcases b with rfl|rfl|rfl|rfl|rfl|rfl|rfl|rfl|rfl<;>exact⟨by kernel_rfl,λv=>by kernel_rfl,λv=>by kernel_rfl,λv=>by kernel_rfl,λv=>by kernel_rfl,by kernel_rfl,λl a=>by rcases a with rfl|rfl<;>kernel_rfl,by kernel_rfl,by kernel_rfl⟩
theorem abh{n}(a:nine n){m}(b:m<n):(nY ak fM (cS m 0) (EC S n J c X)).map (λr=>r.2)=Z (cS m 0,K0 S)/\aN ak 400 (kG (cS m 0) (EC S n J c X))=Cw S (QH S n J [(48,.bool Y)]) c X:=by
 have h:m=0\/nine m:=by unfold nine at a⊢;omega
 rcases a with rfl|rfl|rfl|rfl|rfl|rfl|rfl|rfl|rfl<;>rcases h with rfl|rfl|rfl|rfl|rfl|rfl|rfl|rfl|rfl|rfl<;>first|omega|exact⟨by kernel_rfl,by kernel_rfl⟩
end
section
open Go.ConcN (sumTo upd sumTo_upd upd_ne upd_same)
abbrev Gl(S:Nat)(b:aU):Prop:=b=dA S\/b=dB S
def il(S:Nat)(Shun:Loc->Prop)(B:Nat)(e:dR):Prop:=lH (Gl S) Shun B e/\e.loc≠.mark (.release (dA S))
def GG(S n0:Nat)(T:ed):Prop:=∀k x,n0<=k->T[k]?=Z x->x.act≠.mark (.release (dA S))
def Rl(S n0:Nat)(Shun:Loc->Prop)(T:ed)(j:Nat):Prop:=∃r x,n0<=r/\T[r]?=Z x/\x.act=.mark (.releaseMerge (dA S))/\x.g=j/\T.heard r/\∀i y a,r<i->T[i]?=Z y->y.g=j->y.act.touch?=Z a->Shun a.loc/\a.kind=.atomic/\¬T.heard i
def tv(cw:Nat->Prop)(Shun:Loc->Prop)(T:ed):Prop:=∀i x a,T[i]?=Z x->cw x.g->x.act.touch?=Z a->Knows T 0 i\/(Shun a.loc/\a.kind=.atomic/\¬T.heard i)
section
variable {S n0:Nat}{Shun:Loc->Prop}{T u:ed}{j:Nat}{cw:Nat->Prop}
theorem GG.app(h:GG S n0 T)(c:∀g∈u,g.act≠.mark (.release (dA S))):GG S n0 (T++u):=λk x b e=>by
 rcases lG e with⟨_,a⟩|⟨_,f⟩
 ·exact h k x b a
 ·exact c x f
theorem Rl.app(h:Rl S n0 Shun T j)(C:∀i x a,T.size<=i->(T++u)[i]?=Z x->x.g=j->x.act.touch?=Z a->Shun a.loc/\a.kind=.atomic/\¬(T++u).heard i):Rl S n0 Shun (T++u) j:=by
 obtain⟨r,x,c,e,f,g,k,l⟩:=h;have aC:=IM e;refine⟨r,x,c,by grind,f,g,(heard_old aC).2 k,λi y a o p n m=>?_⟩;rcases lG p with⟨b,z⟩|⟨A,_⟩
 ·obtain⟨s,v,q3⟩:=l i y a o z n m
  exact⟨s,v,by rw[heard_old b];exact q3⟩
 ·grind
theorem tv.app(h:tv cw Shun T)(n:∀i x a,T.size<=i->(T++u)[i]?=Z x->cw x.g->x.act.touch?=Z a->Shun a.loc/\a.kind=.atomic/\¬(T++u).heard i):tv cw Shun (T++u):=λi x a g e c=>by
 rcases lG g with⟨aC,b⟩|⟨m,_⟩
 ·rcases h i x a b e c with f|⟨k,l,q3⟩
  ·exact .inl (f.app u)
  ·exact .inr ⟨k,l,by rw[heard_old aC];exact q3⟩
 ·grind
theorem Ur{T u:ed}{i j}{x}(c:∀a∈u,a.g=j)(b:T.size<=i)(e:(T++u)[i]?=Z x):x.g=j:=by
 grind
theorem Rl.new(c)(b)(k:n0<=T.size)(h:eh T j=0):Rl S n0 Shun (T++dk j c b #[vk S]) j:=by
 have e:dk j c b #[vk S]=#[{g:=j,fn:=c,pos:=b,act:=.mark (.releaseMerge (dA S))}]:=by simp[ofEvents_eq,vk,gI]
 rw[e];have f:(T++#[({g:=j,fn:=c,pos:=b,act:=.mark (.releaseMerge (dA S))})])[T.size]?=Z {g:=j,fn:=c,pos:=b,act:=.mark (.releaseMerge (dA S))}:=by simp
 refine⟨T.size,_,k,f,F,F,⟨j,g?_of f,by rw[deaf_old (dt _)];exact h⟩,λi y a m l _ _=>?_⟩;have:=IM l;simp at this;omega
theorem ae4(c)(b)(J:eh T 0=0)(G:GG S n0 T)(hr:∀j,cw j->Rl S n0 Shun T j)(hz:¬cw 0):tv cw Shun (T++dk 0 c b #[GN S]):=by
 have e:dk 0 c b #[GN S]=#[{g:=0,fn:=c,pos:=b,act:=.mark (.acquire (dA S))}]:=by simp[ofEvents_eq,GN,gI]
 rw[e];have n:(T++#[({g:=0,fn:=c,pos:=b,act:=.mark (.acquire (dA S))})])[T.size]?=Z {g:=0,fn:=c,pos:=b,act:=.mark (.acquire (dA S))}:=by simp
 have O:(T++#[({g:=0,fn:=c,pos:=b,act:=.mark (.acquire (dA S))}:MemOp)]).heard T.size:=⟨0,g?_of n,by rw[deaf_old (dt _)];exact J⟩;intro i y a A N l;rcases lG A with⟨aC,E⟩|⟨_,β⟩
 ·obtain⟨r,x,h1,f,s,K,L,M⟩:=hr _ N
  have o:=IM f;by_cases m:r<i
  ·obtain⟨q1,q2,q3⟩:=M i y a m E rfl l
   exact .inr ⟨q1,q2,by rw[heard_old aC];exact q3⟩
  ·by_cases h:i=r
   ·subst h
    rw[E]at f;cases f;rw[s]at l;cases l
   ·left
    have p:(T++#[({g:=0,fn:=c,pos:=b,act:=.mark (.acquire (dA S))})])[r]?=Z x:=by rw[getElem?_append_old o];exact f
    have R:Notices (T++#[({g:=0,fn:=c,pos:=b,act:=.mark (.acquire (dA S))})]) r T.size:=by
     refine .marked o (.inr (by rw[act?_of p,s])) (act?_of n) λk dx H v=>?_;have C:(T++#[({g:=0,fn:=c,pos:=b,act:=.mark (.acquire (dA S))})])[k]?=T[k]?:=getElem?_append_old H;cases hT:T[k]? with
     |none=>simp_all
     |some z=>
      rw[hT]at C;rw[act?_of C]at v;exact G k z ah hT (ee v)
    have hp:ProgramOrder (T++#[({g:=0,fn:=c,pos:=b,act:=.mark (.acquire (dA S))})]) i r:=by
     refine⟨by omega,y.g,g?_of A,?_⟩;rw[g?_of p,K]
    exact⟨T.size,_,n,F,.inr ((Relation.TransGen.single (.inl hp)).tail (.inr ⟨R,(heard_old o).2 L,O⟩))⟩
 ·simp_all
end
def aft(P:aD)(S D:Nat)(e:aj YS)(n:Nat)(g:aH):Prop:=∃(y:YS)(s:Seat)(b:Nat)(z:ag),e=Z y/\g.status=.running/\s.Wf/\s.cases[b]?=Z (rcase D z)/\(∀c,s.has c->c≠D->y.s.has c)/\Goes P Y (RK y.K) (DS y.St y.B) (λg _=>∃a,AtIn P Y y.K y.St y.B s g a) n g default/\∀a,s.home a->∃m,nQ P Y (KW S) (rZ S) (vk S) (CN P S) m Y 0 (jx a (rh s.cases s.shape b z Y))
def I1(P:aD)(S D:Nat)(ao:Nat->aj YS)(gs:af aH)(q:Nat->Nat)(j:Nat):Prop:=∃g,gs[j]?=Z g/\aft P S D (ao j) (q j) g
def zN(P:aD)(S:Nat)(X:Nat->aH->Prop)(ao:Nat->aj YS)(T:ed)(gs:af aH)(q:Nat->Nat)(j:Nat):Prop:=∃g,gs[j]?=Z g/\ao j=I/\kO P Y (KW S) (rZ S) X (q j) (eh T j) g
def Mr(P:aD)(S n0:Nat)(Shun:Loc->Prop)(ao:Nat->aj YS)(T:ed)(gs:af aH)(q:Nat->Nat)(j:Nat):Prop:=∃g b,gs[j]?=Z g/\ao j=I/\(b=U->Rl S n0 Shun T j)/\nQ P Y (KW S) (rZ S) (vk S) (CN P S) (q j) b (eh T j) g
def rY(P:aD)(S:Nat)(ao:Nat->aj YS)(T:ed)(gs:af aH)(q:Nat->Nat)(j:Nat):Nat->Prop
 |0=>zN P S (GJ P S) ao T gs q j
 |1=>zN P S (GI P S) ao T gs q j
 |2=>zN P S (GH P S) ao T gs q j
 |_=>False
structure Bm(ao:Nat->aj YS)(T:ed)(gs:af aH)(q:Nat->Nat)(Inb':Nat->aj YS)(T':ed)(bD:af aH)(q':Nat->Nat)(j:Nat):Prop where
 g:bD[j]?=gs[j]?
 q:q' j=q j
 d:eh T' j=eh T j
 i:Inb' j=ao j
section
variable {P:aD}{S D:Nat}{X:Nat->aH->Prop}{ao Inb':Nat->aj YS}{T T':ed}{gs bD:af aH}{q q':Nat->Nat}{j:Nat}
theorem I1.same(h:I1 P S D ao gs q j)(s:Bm ao T gs q Inb' T' bD q' j):I1 P S D Inb' bD q' j:=by
 unfold I1;rw[s.g,s.q,s.i];exact h
theorem zN.same(h:zN P S X ao T gs q j)(s:Bm ao T gs q Inb' T' bD q' j):zN P S X Inb' T' bD q' j:=by
 unfold zN;rw[s.g,s.q,s.i,s.d];exact h
theorem Mr.same{n0}{Shun}(h:Mr P S n0 Shun ao T gs q j)(s:Bm ao T gs q Inb' T' bD q' j)(k:Rl S n0 Shun T j->Rl S n0 Shun T' j):Mr P S n0 Shun Inb' T' bD q' j:=by
 obtain⟨g,b,a,c,f,i⟩:=h;exact⟨g,b,by rw[s.g];exact a,by rw[s.i];exact c,λe=>k (f e),by rw[s.q,s.d];exact i⟩
theorem rY.same{n}(h:rY P S ao T gs q j n)(s:Bm ao T gs q Inb' T' bD q' j):rY P S Inb' T' bD q' j n:=by
 match n,h with
 |0,h=>exact zN.same h s
 |1,h=>exact zN.same h s
 |2,h=>exact zN.same h s
end
section
variable (P:aD)(St At:Nat->Loc->Prop)(Shun:Loc->Prop)(S D Q B:Nat)(gf:aH)(eT:Nat->aj YS)(w0:ax)(cw:Nat->Prop)(n0:Nat)
structure kL(cZ cV:ae Nat)(lb:aj Nat)(t sm eu d:Nat)(ao:Nat->aj YS)(T:ed)(gs:af aH)(w:ax)(q:Nat->Nat):Prop where
 dr:Dr P St At Shun ao (λx=>x∈cZ\/x∈cV\/lb=Z x) cw d B T gs w q
 xR:∀j∈cZ,I1 P S D ao gs q j
 CP:∀j∈cV,Mr P S n0 Shun ao T gs q j
 Ak:∃g0,gs[0]?=Z g0/\gM P S (il S Shun B) gf (tv cw Shun T) (rY P S ao T gs q) (cZ.length+cV.length) d (q 0) g0 lb t sm eu
 nd:(cZ++cV).Nodup
 nl:∀j,lb=Z j->j∉cZ/\j∉cV
 nz:∀j,(j∈cZ\/j∈cV\/lb=Z j)->j≠0/\At j (.cell (dA S))/\At j (.cell (dB S))
 le:cZ.length+cV.length<=9
 FC:∀x,eT x=if x∈cZ then I else ao x
 two:se S w0 (cS (cZ.length+cV.length) t) (jJ sm) w
 gate:Gate St ao (Gl S)
 nr:GG S n0 T
 FW:n0<=T.size
 Ae:∀j,(j∈cZ\/j∈cV\/lb=Z j)->cw j
 Af:∀j,cw j->j≠0/\(j∉cZ->ao j=I)
 rl:∀j,cw j->j∉cZ->j∉cV->Rl S n0 Shun T j
def mh(cZ cV:ae Nat)(eu:Nat):Nat:=40*(cZ.length+cV.length)+eu+cZ.length
def pV(n:Nat)(q:Nat->Nat):Nat:=2*sumTo n (upd q 0 0)+q 0
def ye(R M:Nat)(T:ed)(gs:af aH)(w:ax)(sl:aj (Nat×Nat))(i:Nat):Prop:=∃bD h a b c f l g e k Inb' q',runT P (crowd gs w sl) i=(.next (crowd bD h sl),a)/\bD.size=gs.size/\kL P St At Shun S D B gf eT w0 cw n0 b c f l g e k Inb' (T++a) bD h q'/\(mh b c e<R\/(mh b c e=R/\pV bD.size q'<M))
end
section
variable {P:aD}{St At:Nat->Loc->Prop}{Shun:Loc->Prop}{S D Q B:Nat}{gf:aH}{eT:Nat->aj YS}{w0:ax}{cw:Nat->Prop}{n0:Nat}
variable {cZ cV:ae Nat}{lb:aj Nat}{t sm eu d:Nat}{ao:Nat->aj YS}{T:ed}{gs:af aH}{w:ax}{q:Nat->Nat}{W V:ag}{sl:aj (Nat×Nat)}
theorem Dr.q0{a}(C:Dr P St At Shun ao a cw d B T gs w q)(m):Dr P St At Shun ao a cw d B T gs w (upd q 0 m):=⟨⟨λx g b c=>by rw[upd_ne q m (λz=>b (.inl z))];exact C.yd.idle x g b c,C.yd.chans,C.yd.wf,C.yd.inj,C.yd.above,C.yd.lt,C.yd.mem,C.yd.nomem,C.yd.lo,C.yd.past,C.yd.keep,C.yd.places,C.yd.fresh⟩,C.deaf,C.wrote,C.run⟩
theorem Dr.bz{a Bs}(C:Dr P St At Shun ao a cw d B T gs w q)(h:∀x,a x↔Bs x):Dr P St At Shun ao Bs cw d B T gs w q:=by
 have:=funext λx=>propext (h x);rw[<-this];exact C
theorem abk(n m):pV n (upd q 0 m)=2*sumTo n (upd q 0 0)+m:=by
 unfold pV;have:upd (upd q 0 m) 0 0=upd q 0 0:=by funext x;by_cases e:x=0<;>simp[upd,e]
 rw[this,upd_same]
theorem Ug{n i m f}(c:i≠0)(aC:i<n)(k:m<q i)(h:f<=q 0+1):pV n (upd (upd q i m) 0 f)<pV n q:=by
 rw[abk];have e:upd (upd q i m) 0 0=upd (upd q 0 0) i m:=by
  funext x;by_cases a:x=0
  ·subst a;rw[upd_same,upd_ne _ _ (λz=>c z.symm),upd_same]
  ·by_cases b:x=i
   ·subst b;rw[upd_ne _ _ a,upd_same,upd_same]
   ·rw[upd_ne _ _ a,upd_ne _ _ b,upd_ne _ _ b,upd_ne _ _ a]
 have g:sumTo n (upd (upd q 0 0) i m)+upd q 0 0 i=sumTo n (upd q 0 0)+m:=sumTo_upd _ m id aC;rw[upd_ne q 0 c]at g;rw[e];unfold pV;omega
theorem kL.at(H:kL P St At Shun S D B gf eT w0 cw n0 cZ cV lb t sm eu d ao T gs w q)(a):kL P St At Shun S D B gf eT w0 cw n0 cZ cV lb t sm eu d ao T gs (w.at a) q:=⟨H.dr.at _,H.xR,H.CP,H.Ak,H.nd,H.nl,H.nz,H.le,H.FC,azh H.two _,H.gate,H.nr,H.FW,H.Ae,H.Af,H.rl⟩
theorem kL.kw(H:kL P St At Shun S D B gf eT w0 cw n0 cZ cV lb t sm eu d ao T gs w q)(a:eY w0 (dA S) W)(b:eY w0 (dB S) V):KW S w:=⟨⟨_,PY a b H.two⟩,⟨_,V2 a b H.two⟩⟩
theorem kL.own(H:kL P St At Shun S D B gf eT w0 cw n0 cZ cV lb t sm eu d ao T gs w q){g p}{l}{es}{O f J n'}(G:gs[0]?=Z g)
  (gX:aE P U g w=.go p l es)(hE:∀e∈es,il S Shun B e)(hw:l=w\/∃a v v',Gl S a/\eY w a v/\l=w.setCell a v')
  (nF:se S w0 (cS (cZ.length+cV.length) O) (jJ f) l)
  (Su:∀c8,(∀j n,rY P S ao T gs q j n->c8 j n)->gM P S (il S Shun B) gf (tv cw Shun (T++dk 0 g.frame.fn g.frame.place es)) c8 (cZ.length+cV.length) (ia d es) n' p lb O f J)
  (SF:J<eu\/(J=eu/\n'<q 0)):ye P St At Shun S D B gf eT w0 cw n0 (mh cZ cV eu) (pV gs.size q) T gs w sl 0:=by
 have hd:DZ St ao Shun B w l es:=by
  rcases hw with rfl|⟨a,v,v',o,hc,rfl⟩
  ·exact⟨λ_ _ _ _ _=>rfl,λ_ _ _ h=>h,λe r=>Q1 H.gate (hE e r).1⟩
  ·exact⟨λi y c s A=>by obtain⟨k,M⟩:=H.dr.yd.chans i y c s A;exact Aa hc.cell M,λi y s M=>H.gate.keep a o i y s _ _ M,λe r=>Q1 H.gate (hE e r).1⟩
 obtain⟨C,h0,R,jq⟩:=H.dr.own _ G hd;have cO:∀E∈dk 0 g.frame.fn g.frame.place es,E.g=0:=λE K=>by obtain⟨e,_,rfl⟩:=jX K;rfl
 have A:∀j,j≠0->Bm ao T gs q ao (T++dk 0 g.frame.fn g.frame.place es) ((gs.map (eP P g p l)).setIfInBounds 0 p) (upd q 0 n') j:=λj b=>⟨jq j b,upd_ne q _ b,ni T (λz=>b z.symm) _ cO,F⟩;have SV:∀E∈dk 0 g.frame.fn g.frame.place es,E.act≠.mark (.release (dA S)):=λE K o=>by
  obtain⟨e,r,rfl⟩:=jX K;obtain⟨N,wr,sy⟩:=e;have L:=(hE _ r).2;cases N with
  |mark m=>simp only[gI,MemAct.mark.injEq]at o;subst o;exact L F
  |obj c=>cases wr<;>cases sy<;>cases o
  |_=>cases o
 have lj:∀j,j≠0->Rl S n0 Shun T j->Rl S n0 Shun (T++dk 0 g.frame.fn g.frame.place es) j:=λj b h=>h.app λi x a s hx G _=>absurd (G.symm.trans (Ur cO s hx)) b;refine⟨_,l,_,cZ,cV,lb,O,f,J,_,ao,upd q 0 n',wQ G gX,R,⟨C,λj b=>(H.xR j b).same (A j (H.nz j (.inl b)).1),λj b=>(H.CP j b).same (A j (H.nz j (.inr (.inl b))).1) (lj j (H.nz j (.inr (.inl b))).1),⟨p,h0,?_⟩,H.nd,H.nl,H.nz,H.le,H.FC,nF,H.gate,H.nr.app SV,by simp;exact rU H.FW (Nat.le_add_right .. ),H.Ae,H.Af,λj h1 L h3=>lj j (H.Af j h1).1 (H.rl j h1 L h3)⟩,?_⟩
 ·refine(Su _ λj n h b=>rY.same h (A j b)).FL (λj n uU h=>h (H.nz j (.inr (.inr uU))).1) λ_=>id
 ·rw[R,abk]
  rcases SF with h|⟨rfl,h⟩
  ·left;unfold mh;omega
  ·right;refine⟨rfl,?_⟩;unfold pV;omega
theorem kL.step0(H:kL P St At Shun S D B gf eT w0 cw n0 cZ cV lb t sm eu d ao T gs w q)(K:eY w0 (dA S) W)(L:eY w0 (dB S) V)(JQ:S<B){g}(M:gs[0]?=Z g)(aL:g.status=.running):(d=0/\g=gf/\cZ=[]/\cV=[]/\lb=I/\t=0/\sm=0/\tv cw Shun T)\/ye P St At Shun S D B gf eT w0 cw n0 (mh cZ cV eu) (pV gs.size q) T gs w sl 0:=by
 obtain⟨g0,iG,hG⟩:=H.Ak;rw[M]at iG;obtain rfl:=ee iG;have hK:=H.kw K L;have cA:=PY K L H.two;have cB:=V2 K L H.two;generalize E:cZ.length+cV.length=c at hG;have O:=H.two;rw[E]at O cA
 have m:∀{X}{n},kO P U (KW S) (il S Shun B) X n d g->q 0=n\/q 0=n+1->¬X d g->
   (∀k A p(kI)o,kO P U (KW S) (il S Shun B) X k A p->k<n->(∀j n,rY P S ao T gs q j n->o j n)->∃N,N+n=k+q 0/\gM P S (il S Shun B) gf kI o c A N p lb t sm eu)->
   ye P St At Shun S D B gf eT w0 cw n0 (mh cZ cV eu) (pV gs.size q) T gs w sl 0:=by
  intro X n h hq jA s;rcases h.cases with h|⟨k,p,es,e1,e2,e3,e4⟩
  ·exact absurd h jA
  ·obtain⟨N,nc,_⟩:=s k _ _ True _ e4 ah (λ_ _ _=>trivial)
   refine H.own (n':=N) M (e3 w hK) e2 (.inl rfl) (by rw[E];exact O) (λo C=>?_) (.inr ⟨rfl,by omega⟩);obtain⟨n2,vO,hG⟩:=s k _ _ _ _ e4 ah C;have:n2=N:=by omega
   subst this;rw[E];exact hG
 have y:∀{a}{v v'}{Next}{t' β jU},Gl S a->eY w a v->zS P (il S Shun B) a v v' d g Next->se S w0 (cS c t') (jJ β) (w.setCell a v')->jU<eu->
   (∀A p(kI)o,Next A p->(∀j n,rY P S ao T gs q j n->o j n)->∃N,gM P S (il S Shun B) gf kI o c A N p lb t' β jU)->
   ye P St At Shun S D B gf eT w0 cw n0 (mh cZ cV eu) (pV gs.size q) T gs w sl 0:=by
  intro a v v' Next t' β jU ha E7 ⟨p,es,e1,e2,e3⟩ ht hr s;obtain⟨N,sJ⟩:=s _ _ _ _ e3 λ_ _ h=>h;exact H.own M (e1 w E7) e2 (.inr ⟨a,v,v',ha,E7,F⟩) (by rw[E];exact ht) (λo C=>by rw[E];exact sJ.FL (λj n _ h=>C j n h) λ_=>id) (.inl hr)
 cases hG with
 |a f vL h=>
  by_cases l:yl P S (il S Shun B) gf f d g
  ·right
   cases c with
   |zero=>exact y (.inl F) cA (ap8 l) (Ct K L O) (by omega) λA p _ o⟨n,G⟩_=>⟨n,.z _ ba F G⟩
   |succ c=>
    cases f with
    |zero=>omega
    |succ f=>exact y (.inl F) cA (l.2.2.2 c ah) (Ct K L O) (by omega) λA p _ o⟨n,G⟩_=>⟨n,.b f ah ah G⟩
  ·exact .inr (m h (.inl F) l λk A p _ o s R _=>⟨k,by omega,.a f vL s⟩)
 |zt f c0 kW h0 h=>
  by_cases l:Ey P S (il S Shun B) gf (yl P S (il S Shun B) gf f) c0 d g
  ·exact .inr (y (.inl F) cA (l.2.2.2 c kW) (Ct K L O) (by omega) λA p _ o⟨n,G⟩_=>⟨n,.a f ah G⟩)
  ·exact .inr (m h (.inl F) l λk A p _ o s R _=>⟨k,by omega,.zt f _ kW h0 s⟩)
 |b f r h0 h=>
  by_cases l:Ey P S (il S Shun B) gf (yl P S (il S Shun B) gf f) c d g
  ·exact .inr (y (.inl F) cA l.2.2.1 (Ct K L O) (by omega) λA p _ o⟨n,G⟩_=>⟨n+1,.c r (.uD G)⟩)
  ·exact .inr (m h (.inl F) l λk A p _ o s R _=>⟨k,by omega,.b f r h0 s⟩)
 |c r h=>
  generalize Ds:q 0=q0 at h;cases h with
  |@uD n _ h=>
   by_cases l:ym P S (il S Shun B) gf d g
   ·exact .inr (H.own M (l.2.2.2.1 w cB) ba (.inl F) H.two (λo C=>by rw[E];exact .c r (.parked l)) (.inr ⟨F,by omega⟩))
   ·exact .inr (m h (.inr Ds) l λk A p _ o s R _=>⟨k+1,by omega,.c r (.uD s)⟩)
  |parked h=>cases aL
 |cB j r J h=>
  generalize Ds:q 0=q0 at h;cases h with
  |@uD n _ h=>
   by_cases l:ym P S (il S Shun B) gf d g
   ·exact .inr (H.own M (l.2.2.2.1 w cB) ba (.inl F) H.two (λo C=>by rw[E];exact .cB j r (C _ _ J) (.parked l)) (.inr ⟨F,by omega⟩))
   ·exact .inr (m h (.inr Ds) l λk A p _ o s R C=>⟨k+1,by omega,.cB j r (C _ _ J) (.uD s)⟩)
  |parked h=>cases aL
 |cC j r J h=>
  generalize Ds:q 0=q0 at h;cases h with
  |@uD n _ h=>
   by_cases l:ym P S (il S Shun B) gf d g
   ·exact .inr (H.own M (l.2.2.2.1 w cB) ba (.inl F) H.two (λo C=>by rw[E];exact .cC j r (C _ _ J) (.parked l)) (.inr ⟨F,by omega⟩))
   ·exact .inr (m h (.inr Ds) l λk A p _ o s R C=>⟨k+1,by omega,.cC j r (C _ _ J) (.uD s)⟩)
  |parked h=>cases aL
 |cD j r J h=>
  generalize Ds:q 0=q0 at h;cases h with
  |@uD n _ h=>
   by_cases l:ym P S (il S Shun B) gf d g
   ·exact .inr (H.own M (l.2.2.2.1 w cB) ba (.inl F) H.two (λo C=>by rw[E];exact .cD j r (C _ _ J) (.parked l)) (.inr ⟨F,by omega⟩))
   ·exact .inr (m h (.inr Ds) l λk A p _ o s R C=>⟨k+1,by omega,.cD j r (C _ _ J) (.uD s)⟩)
  |parked h=>cases aL
 |cR r h=>
  by_cases l:ym P S (il S Shun B) gf d g
  ·exact .inr (y (.inr F) cB l.2.2.2.2 (aez K L O) (by omega) λA p _ o⟨n,G⟩_=>⟨n,.d r G⟩)
  ·exact .inr (m h (.inl F) l λk A p _ o s R _=>⟨k,by omega,.cR r s⟩)
 |d r h=>
  by_cases l:I3 P S (il S Shun B) gf d g
  ·subst r
   exact .inr (y (.inl F) cA l.2.2 (Ct K L O) (by omega) λA p _ o⟨n,G⟩_=>⟨n,.z _ ba F G⟩)
  ·exact .inr (m h (.inl F) l λk A p _ o s R _=>⟨k,by omega,.d r s⟩)
 |z b hb r h=>
  have oF:cZ=[]:=zC ah;have Y5:cV=[]:=zC ah;have Zg:=λh=>(H.Af 0 h).1 F;rcases h.cases with⟨rfl,l⟩|⟨k,p,es,b',e1,e2,e3,e4⟩
  ·exact .inl ⟨l.1,l.2.2,oF,Y5,rfl,rfl,rfl,hb rfl⟩
  ·right
   have cO:∀op∈dk 0 g.frame.fn g.frame.place es,op.g=0:=λop aO=>by obtain⟨e,_,rfl⟩:=jX aO;rfl
   rcases e2 with⟨e2,rfl⟩|⟨rfl,nB,rfl⟩
   ·exact H.own M (e3 w hK) e2 (.inl rfl) H.two (λo C=>by rw[E];exact .z _ (λe=>(hb e).app λi x a hi hx NN _=>absurd (Ur cO hi hx▸NN) Zg) r e4) (.inr ⟨rfl,by omega⟩)
   ·refine H.own M (e3 w hK) (λe he=>?_) (.inl rfl) H.two (λo C=>by rw[E];exact .z _ (λ_=>ae4 _ _ (H.dr.deaf.trans nB) H.nr (λj J=>H.rl j J (by rw[oF];simp) (by rw[Y5];simp)) Zg) r e4) (.inr ⟨rfl,by omega⟩)
    simp only[ko,bM,gV,or_false]at he;subst he;exact⟨JQ,by simp[GN]⟩
end
end
section
open Go.ConcN (sumTo upd sumTo_upd upd_ne upd_same)
theorem ajM{P:aD}{K:ax->Prop}{M:Loc->Prop}{B:Nat}{a:aH->Prop}{g:aH}{n:Nat}{w i:ax}(h:Goes P b (RK K) (DS M B) (λg _=>a g) n g w):Goes P b (RK K) (DS M B) (λg _=>a g) n g i:=by
 cases n with
 |zero=>exactλe c=>h e c
 |succ n=>
  rcases h with h|⟨f,h⟩
  ·exact .inl λe c=>h e c
  ·exact .inr ⟨f,λe c=>h e c⟩
def WE(P:aD)(S n d:Nat)(g:aH):Nat->Prop
 |0=>kO P Y (KW S) (rZ S) (GJ P S) n d g
 |1=>kO P Y (KW S) (rZ S) (GI P S) n d g
 |2=>kO P Y (KW S) (rZ S) (GH P S) n d g
 |_=>False
section
variable {P:aD}{M At:Nat->Loc->Prop}{X:Loc->Prop}{S D kD B:Nat}{G:aH}{eT:Nat->aj YS}{E:ax}{O:Nat->Prop}{N:Nat}
variable {W V:ae Nat}{J:aj Nat}{t sm L d:Nat}{Q:Nat->aj YS}{T:ed}{R:af aH}{w:ax}{q:Nat->Nat}{va vb:ag}{sl:aj (Nat×Nat)}
theorem Yf{i:Nat}(k:X (.cell (dA S)))(l:X (.cell (dB S)))(f:At i (.cell (dA S)))(g:At i (.cell (dB S)))(c:S<B)(j:EvS S e\/e=vk S):EvL At X B i e:=by
 rcases j with(h|⟨m,rfl|rfl⟩)|rfl
 ·exact⟨λb a=>(by rw[touch_mute h]at a;cases a),low_mute h B⟩
 ·refine⟨λb a=>?_,c⟩
  simp only[gI,lS,gB]at a;subst a;exact⟨rfl,k,f⟩
 ·refine⟨λb a=>?_,c⟩
  simp only[gI,lS,gB]at a;subst a;exact⟨rfl,l,g⟩
 ·exact⟨λb a=>(by simp[vk,gI,lS]at a),c⟩
theorem aiV(b:EvS S e\/e=vk S)(a:aU):gI e≠.mark (.release a):=by
 rcases b with(h|⟨c,rfl|rfl⟩)|rfl
 ·exact abm h a
 ·intro z;cases z
 ·intro z;cases z
 ·intro z;cases z
theorem aeu(h:rZ S e):(gI e).touch?=I:=touch_mute h
theorem Uh{d:Nat}:∀{l:ae dR},(∀e∈l,rZ S e)->Bi d l
 |[],_=>trivial
 |e::_,h=>⟨λa=>absurd (aeu (h e ba)) a,Uh λx b=>h x (by simp[b])⟩
theorem kL.oH(H:kL P M At X S D B G eT E O N W V J t sm L d Q T R w q)(hS:S<B)(nW:X (.cell (dA S)))(pb:X (.cell (dB S))){i:Nat}{g l:aH}{o:ax}{es:af dR}{jF:ae Nat}{lb':aj Nat}{t' sm' jU n':Nat}
  (hg:R[i]?=Z g)(hb:i∈V\/J=Z i)(hI:Q i=I)(gX:aE P Y g w=.go l o es)(gQ:∀e∈es,EvS S e\/e=vk S)(Dl:Bi (eh T i) es.toList)(hw:o=w\/∃a v v',Gl S a/\eY w a v/\o=w.setCell a v')
  (rB:∀x,x≠i->((x∈jF\/lb'=Z x)↔(x∈V\/J=Z x)))(Y7:∀x,x≠i->(x∈jF↔x∈V))(nV:jF.Nodup)(ja:∀x∈jF,x∈V)(Fo:∀x,lb'=Z x->x∉W/\x∉jF)
  (aL:l.status=.running\/¬(i∈jF\/lb'=Z i))(bN:¬(i∈jF\/lb'=Z i)->QuitsD P n' (ia (eh T i) es) l)(gu:i∈jF->∃b,(b=U->Rl S N X (T++dk i g.frame.fn g.frame.place es) i)/\nQ P Y (KW S) (rZ S) (vk S) (CN P S) n' b (ia (eh T i) es) l)(β:i∉jF->Rl S N X T i)
  (γ:jF.length<=V.length)(nF:se S E (cS (W.length+jF.length) t') (jJ sm') o)
  (Su:∀c8 g0(kI:Prop),R[0]?=Z g0->(tv O X T->kI)->(∀j n,j≠i->rY P S Q T R q j n->c8 j n)->(∀n,WE P S n' (ia (eh T i) es) l n->c8 i n)->gM P S (il S X B) G (tv O X T) (rY P S Q T R q) (W.length+V.length) d (q 0) g0 J t sm L->∃A,gM P S (il S X B) G kI c8 (W.length+jF.length) d A (eP P g l o g0) lb' t' sm' jU/\(mh W jF jU<mh W V L\/(mh W jF jU=mh W V L/\n'<q i/\A<=q 0+1))):
  ye P M At X S D B G eT E O N (mh W V L) (pV R.size q) T R w sl i:=by
 have aC:i<R.size:=(iy.1 hg).1;obtain⟨s,NG,NH⟩:=H.nz i (.inr hb);have ZA:i∉W:=λhz=>by
  rcases hb with h|h
  ·exact(zE.1 H.nd).2.2 i hz i h rfl
  ·exact(H.nl i h).1 hz
 have h0:(i==0)=Y:=by simp[s]
 have cP:∀x y c,Q x=Z y->y.s.has c->o.heap[c]?=w.heap[c]?:=by
  rcases hw with rfl|⟨a,v,v',p,hc,rfl⟩
  ·exactλ_ _ _ _ _=>rfl
  ·exactλx y c m hs=>by obtain⟨k,r⟩:=H.dr.yd.chans x y c m hs;exact Aa hc.cell r
 have r:∀x y,Q x=Z y->y.K w->y.K o:=by
  rcases hw with rfl|⟨a,v,v',p,hc,rfl⟩
  ·exactλ_ _ _ h=>h
  ·exactλx y m r=>H.gate.keep a p x y m _ _ r
 have R6:∀x,x≠i->((x∈W\/x∈jF\/lb'=Z x)↔(x∈W\/x∈V\/J=Z x)):=λx m=>by rw[rB x m]
 have Y9:(i∈W\/i∈jF\/lb'=Z i)↔(i∈jF\/lb'=Z i):=⟨λh=>h.resolve_left ZA,.inr⟩;obtain⟨C,jH,bJ,jq,K⟩:=H.dr.leave (a':=l) (w':=o) (Bs:=λx=>x∈W\/x∈jF\/lb'=Z x) n' s (.inr hb) hI hg cP r (λe he=>Yf nW pb NG NH hS (gQ e he)) Dl R6 (λh=>aL.resolve_right λz=>z (Y9.1 h)) (λh=>bN λz=>h (Y9.2 z));have cO:∀op∈dk i g.frame.fn g.frame.place es,op.g=i:=λop aO=>by obtain⟨e,_,rfl⟩:=jX aO;rfl
 have JZ:eh (T++dk i g.frame.fn g.frame.place es) i=ia (eh T i) es:=Deaf_own T i _ _ es;have hq:∀k x a,T.size<=k->(T++dk i g.frame.fn g.frame.place es)[k]?=Z x->x.act.touch?=Z a->X a.loc/\a.kind=.atomic/\¬(T++dk i g.frame.fn g.frame.place es).heard k:=λk x a r m p=>by
  rcases lG m with⟨Ka,_⟩|⟨_,iH⟩
  ·omega
  ·obtain⟨e,he,rfl⟩:=jX iH
   obtain⟨A,q2,_⟩:=(Yf nW pb NG NH hS (gQ e he)).1 a p;refine⟨q2,A,?_⟩;have:=abl (i:=i) (fn:=g.frame.fn) (pos:=g.frame.place) es.toList T Dl k;simp only[Array.toArray_toList]at this;exact this _ r m (by rw[p];simp)
 have lj:∀j,Rl S N X T j->Rl S N X (T++dk i g.frame.fn g.frame.place es) j:=λj h=>h.app λk x a r m _ p=>hq k x a r m p;have yI:tv O X T->tv O X (T++dk i g.frame.fn g.frame.place es):=λh=>h.app λk x a r m _ p=>hq k x a r m p;obtain⟨g0,iG,hG⟩:=H.Ak;obtain⟨A,RE,SF⟩:=Su (λj n=>j≠0->rY P S Q (T++dk i g.frame.fn g.frame.place es) ((R.map (eP P g l o)).setIfInBounds i l) (upd (upd q i n') 0 0) j n) g0 _ iG yI
  (λj n f h u=>rY.same h ⟨jq j f u,by rw[upd_ne _ _ u,upd_ne _ _ f],ni T (λz=>f z.symm) _ cO,F⟩)
  (λn h _=>by
    match n,h with
    |0,h=>exact⟨l,jH,hI,by rw[upd_ne _ _ s,upd_same,JZ];exact h⟩
    |1,h=>exact⟨l,jH,hI,by rw[upd_ne _ _ s,upd_same,JZ];exact h⟩
    |2,h=>exact⟨l,jH,hI,by rw[upd_ne _ _ s,upd_same,JZ];exact h⟩) hG
 have tZ:∀j,j≠i->j≠0->Bm Q T R q Q (T++dk i g.frame.fn g.frame.place es) ((R.map (eP P g l o)).setIfInBounds i l) (upd (upd q i n') 0 A) j:=λj f u=>⟨jq j f u,by rw[upd_ne _ _ u,upd_ne _ _ f],ni T (λz=>f z.symm) _ cO,F⟩;refine⟨_,o,_,W,jF,lb',t',sm',jU,d,Q,upd (upd q i n') 0 A,wQ (sl:=sl) hg (by rw[h0];exact gX),bJ,⟨C.q0 A,λj f=>(H.xR j f).same (tZ j (λz=>ZA (z▸f)) (H.nz j (.inl f)).1),λj f=>?_,⟨_,K g0 iG,?_⟩,?_,Fo,λj f=>?_,?_,H.FC,nF,H.gate,H.nr.app λop aO=>?_,by simp;exact rU H.FW (Nat.le_add_right _ _),λj f=>?_,H.Af,λj h1 h2 h3=>?_⟩,?_⟩
 ·by_cases e:j=i
  ·subst e
   obtain⟨b,EY,lg⟩:=gu f;exact⟨l,b,jH,hI,EY,by rw[upd_ne _ _ s,upd_same,JZ];exact lg⟩
  ·have Ap:=(Y7 j e).1 f
   exact(H.CP j Ap).same (tZ j e (H.nz j (.inr (.inl Ap))).1) (lj j)
 ·rw[upd_same]
  refine RE.FL (λj n uU h=>?_) λ_=>id;have u:j≠0:=by
   by_cases e:j=i
   ·subst e;exact s
   ·exact(H.nz j (.inr ((rB j e).1 (.inr uU)))).1
  refine(h u).same ⟨F,by rw[upd_ne _ _ u,upd_ne _ _ u],F,F⟩
 ·have hN:=H.nd
  rw[zE]at hN⊢;exact⟨hN.1,nV,λa p b gA=>hN.2.2 a p b (ja b gA)⟩
 ·by_cases e:j=i
  ·subst e;exact⟨s,NG,NH⟩
  ·exact H.nz j ((R6 j e).1 f)
 ·have:=H.le;omega
 ·obtain⟨e,he,rfl⟩:=jX aO
  exact aiV (gQ e he) _
 ·by_cases e:j=i
  ·subst e;exact H.Ae j (.inr hb)
  ·exact H.Ae j ((R6 j e).1 f)
 ·by_cases e:j=i
  ·subst e;exact lj j (β h3)
  ·exact lj j (H.rl j h1 h2 λh=>h3 ((Y7 j e).2 h))
 ·rcases SF with h|⟨h1,h2,h3⟩
  ·exact .inl h
  ·exact .inr ⟨h1,by rw[bJ];exact Ug s aC h2 h3⟩
end
end
section
open Go.ConcN (sumTo upd sumTo_upd upd_ne upd_same)
section
variable {P:aD}{J At:Nat->Loc->Prop}{X:Loc->Prop}{S D kD B:Nat}{Q:aH}{C:Nat->aj YS}{L:ax}{G:Nat->Prop}{A:Nat}
variable {R W:ae Nat}{N:aj Nat}{t K V d:Nat}{ao:Nat->aj YS}{T:ed}{O:af aH}{w:ax}{q:Nat->Nat}{va vb:ag}{M:aj (Nat×Nat)}
theorem gM.woken{E:dR->Prop}{f:Prop}{i:Nat->Nat->Prop}{c q0:Nat}{b:aH}(h:gM P S E Q f i c d q0 b N t K V)(a g:aH)(w:ax):∃j,j<=q0+1/\gM P S E Q f i c d j (eP P a g w b) N t K V:=by
 rcases aeR P a g w b with e|e
 ·rw[e];exact⟨q0,wM _,h⟩
 ·rw[e];exact h.again w
theorem gM.t1{E:dR->Prop}{a:Prop}{b:Nat->Nat->Prop}{c q0:Nat}{e:aH}(h:gM P S E Q a b c d q0 e N t K V):t<=1:=by cases h<;>omega
theorem kL.add(H:kL P J At X S D B Q C L G A R W N t K V d ao T O w q)(hA:eY L (dA S) va)(hB:eY L (dB S) vb)(hS:S<B)(nW:X (.cell (dA S)))(pb:X (.cell (dB S))){i:Nat}(o:i∈W):ye P J At X S D B Q C L G A (mh R W V) (pV O.size q) T O w M i:=by
 obtain⟨g,fb,hg,hI,lj,hW⟩:=H.CP i o;have hK:=H.kw hA hB;have E:=PY hA hB H.two;have nF:=H.two;have SS:∀x,N=Z x->x≠i:=λx l e=>(H.nl x l).2 (e▸o);have BP:=(zE.1 H.nd).2.1;rcases hW.cases with⟨rfl,hs⟩|⟨k,g',es,b',f1,p,f3,f4⟩
 ·obtain⟨tW,aL,dM⟩:=hs
  obtain⟨c,s⟩:∃c,R.length+W.length=c+1:=⟨R.length+W.length-1,by have:=IG o;omega⟩;have γ:=H.le;obtain⟨g0,iG,Dc⟩:=H.Ak;have ht:=Dc.t1;obtain⟨HF,uU⟩:=Dc.sm0 ah;subst HF uU;obtain⟨g',es,e1,e2,e3,e4,e5⟩:=dM c t ah ht;have β:(W.erase i).length+1=W.length:=by rw[List.length_erase_of_mem o];have:=IG o;omega
  have ig:R.length+(W.erase i).length=c:=by omega
  have fZ:∀x,x≠i->(x∈W.erase i↔x∈W):=λx l=>List.mem_erase_of_ne l;have oD:i∉W.erase i:=λh=>(BP.mem_erase_iff.1 h).1 F;rw[s]at E nF;by_cases ZF:c=0/\t=1
  ·obtain⟨rfl,rfl⟩:=ZF
   obtain⟨v,nc⟩:=e4 ⟨F,F⟩;refine H.oH (sl:=M) hS nW pb (jF:=W.erase i) (lb':=Z i) (t':=1) (sm':=0) (jU:=8) (n':=v) hg (.inl o) hI (e1 w E) (λe m=>.inl (e2 e m)) (by rw[tW]at e3⊢;exact e3) (.inr ⟨_,_,_,.inl F,E,F⟩)
    (λx l=>⟨λh=>.inl (h.elim (λh=>(fZ x l).1 h) λh=>absurd (ee h).symm l),λh=>.inl ((fZ x l).2 (h.resolve_right ba))⟩) (λx l=>fZ x l) (BP.erase i) (λx h=>List.mem_of_mem_erase h)
    (λx l=>by obtain rfl:=ee l;exact⟨λh=>(zE.1 H.nd).2.2 _ h _ o F,oD⟩) (.inl (nc.run λ_ _=>UD)) (λh=>absurd (.inr F) h) (λh=>absurd h oD) (λ_=>lj F) ah (by rw[ig];exact Ct hA hB nF) λy g0 u _ yI hl gu hG=>?_
   rw[s]at hG;have RE:=hG.last (kI:=u) (DR:=y) (j:=i) (gu 2 nc);obtain⟨q1,_,yH⟩:=RE.woken g g' (w.setCell (dA S) (cS 0 1));exact⟨q1,by rw[ig];exact yH,.inl (by unfold mh;omega)⟩
  ·obtain⟨v,nc⟩:=e5 ZF
   obtain⟨r,hr⟩:∃r,r<=V+2/\∀(u:Prop)(DR:Nat->Nat->Prop),gM P S (il S X B) Q u DR c d (q 0) g0 I t 0 r:=by
    rw[s]at Dc;cases Dc with
    |a f s h=>exact⟨11,by omega,λ_ _=>.a f ah h⟩
    |zt f c0 s h0 h=>exact⟨12,by omega,λ_ _=>.zt f c0 ah h0 h⟩
    |b f s h0 h=>exact⟨12,by omega,λ_ _=>.zt f _ ah h0 h⟩
    |c s h=>exact⟨9,by omega,λ_ _=>.c ah h⟩
    |d s h=>omega
    |z b hb s h=>omega
   refine H.oH (sl:=M) hS nW pb (jF:=W.erase i) (lb':=I) (t':=t) (sm':=0) (jU:=r) (n':=v) hg (.inl o) hI (e1 w E) (λe m=>.inl (e2 e m)) (by rw[tW]at e3⊢;exact e3) (.inr ⟨_,_,_,.inl F,E,F⟩)
    (λx l=>by simp[fZ x l]) (λx l=>fZ x l) (BP.erase i) (λx h=>List.mem_of_mem_erase h)
    (λx l=>by cases l) (.inr (by simp[oD])) (λ_=>nc) (λh=>absurd h oD) (λ_=>lj F) ah (by rw[ig];exact Ct hA hB nF) λy g1 u h1 yI hl gu _=>?_
   rw[iG]at h1;obtain rfl:=ee h1;obtain⟨q1,_,yH⟩:=(hr.2 u y).woken g g' (w.setCell (dA S) (cS c t));exact⟨q1,by rw[ig];exact yH,.inl (by unfold mh;have:=hr.1;omega)⟩
 ·have gQ:∀e∈es,EvS S e\/e=vk S:=λe m=>by
   rcases p with⟨p,_⟩|⟨rfl,_,_⟩
   ·exact .inl (.inl (p e m))
   ·simp only[ko,bM,gV,or_false]at m
    exact .inr m
  have Dl:Bi (eh T i) es.toList:=by
   rcases p with⟨p,_⟩|⟨rfl,_,_⟩
   ·exact Uh λe m=>p e (by simpa using m)
   ·exact⟨λh=>absurd F h,trivial⟩
  refine H.oH (sl:=M) hS nW pb (jF:=W) (lb':=N) (t':=t) (sm':=K) (jU:=V) (n':=k) hg (.inl o) hI (f3 w hK) gQ Dl (.inl F) (λx _=>Iff.rfl) (λx _=>Iff.rfl) BP (λx h=>h) (λx l=>H.nl x l) (.inl (f4.run λ_ _=>ab3)) (λh=>absurd (.inl o) h) (λ_=>⟨b',λe=>?_,f4⟩) (λh=>absurd o h) (dt _) nF λy g0 u _ yI hl gu hG=>?_
  ·rcases p with⟨p,rfl⟩|⟨rfl,nB,_⟩
   ·refine(lj e).app λi' x a Hv l _ ha=>?_
    rcases lG l with⟨aC,_⟩|⟨_,iH⟩
    ·omega
    ·obtain⟨e,m,rfl⟩:=jX iH
     have ha:(gI e).touch?=Z a:=ha;rw[aeu (p e m)]at ha;cases ha
   ·exact Rl.new _ _ H.FW nB
  ·obtain⟨q1,uY,yH⟩:=(hG.FL (DR:=y) (kI:=u) (λj n hj h=>hl j n (SS j hj) h) λ_=>yI).woken g g' w
   exact⟨q1,yH,.inr ⟨rfl,by omega,uY⟩⟩
theorem kL.aoT(H:kL P J At X S D B Q C L G A R W N t K V d ao T O w q)(hA:eY L (dA S) va)(hB:eY L (dB S) vb)(hS:S<B)(nW:X (.cell (dA S)))(pb:X (.cell (dB S))){i:Nat}(hi:N=Z i):ye P J At X S D B Q C L G A (mh R W V) (pV O.size q) T O w M i:=by
 have hK:=H.kw hA hB;have cA:=PY hA hB H.two;have cB:=V2 hA hB H.two;have nF:=H.two;have BP:=(zE.1 H.nd).2.1;have oD:=(H.nl i hi).2;have lj:=H.rl i (H.Ae i (.inr (.inr hi))) (H.nl i hi).1 oD;obtain⟨g0,iG,Dc⟩:=H.Ak
 have f:∀{a:Nat->aH->Prop}{g:aH}{t' b jU:Nat},O[i]?=Z g->ao i=I->kO P Y (KW S) (rZ S) a (q i) (eh T i) g->¬a (eh T i) g->(∀d g,a d g->g.status=.running)->t'=t->b=K->jU=V->
   (∀(kI:Prop)l m d' o,(∀j n,j≠i->rY P S ao T O q j n->l j n)->(∀n,WE P S m d' o n->l i n)->kO P Y (KW S) (rZ S) a m d' o->gM P S (il S X B) Q kI l (R.length+W.length) d (q 0) g0 N t' b jU)->
   ye P J At X S D B Q C L G A (mh R W V) (pV O.size q) T O w M i:=by
  intro a g t' b jU u s hW v aL et nS er hk;subst et nS er;rcases hW.cases with h|⟨k,o,es,f1,f2,f3,f4⟩
  ·exact absurd h v
  ·refine H.oH (sl:=M) hS nW pb (jF:=W) (lb':=N) (t':=t') (sm':=b) (jU:=jU) (n':=k) u (.inr hi) s (f3 w hK) (λe y=>.inl (.inl (f2 e y))) (Uh λe y=>f2 e (by simpa using y)) (.inl rfl) (λx _=>Iff.rfl) (λx _=>Iff.rfl) BP (λx h=>h) (λx E=>H.nl x E) (.inl (f4.run aL)) (λh=>absurd (.inr hi) h) (λh=>absurd h oD) (λ_=>lj) (dt _) nF λl g1 kI r yI hl p _=>?_
   rw[iG]at r;obtain rfl:=ee r;obtain⟨q1,uY,yH⟩:=(hk kI l k _ o hl p f4).woken g o w;exact⟨q1,yH,.inr ⟨F,by omega,uY⟩⟩
 generalize hc:R.length+W.length=c at Dc f cA nF;generalize Ds:q 0=q0 at Dc f;subst hi;cases Dc with
 |cB _ kW hj h=>
  obtain⟨g,u,s,hW⟩:=hj;by_cases v:GH P S (eh T i) g
  ·obtain⟨tW,aL,o,es,e1,e2,e3,m,nc⟩:=v
   subst kW;refine H.oH (sl:=M) hS nW pb (jF:=W) (lb':=Z i) (t':=1) (sm':=0) (jU:=7) (n':=m) u (.inr F) s (e1 w cA) (λe y=>.inl (e2 e y)) (by rw[tW]at e3⊢;exact e3) (.inr ⟨_,_,_,.inl F,cA,F⟩) (λx _=>Iff.rfl) (λx _=>Iff.rfl) BP (λx h=>h) (λx E=>H.nl x E) (.inl (nc.run λ_ _=>UE)) (λh=>absurd (.inr F) h) (λh=>absurd h oD) (λ_=>lj) (dt _) (by rw[hc];exact Ct hA hB nF) λl g1 kI r yI hl p _=>?_;rw[iG]at r;obtain rfl:=ee r;obtain⟨q1,uY,yH⟩:=(gM.cC (AK:=kI) (c8:=l) i F (p 1 nc) h).woken g o (w.setCell (dA S) (cS 0 1));exact⟨q1,by rw[hc];exact yH,.inl (by unfold mh;omega)⟩
  ·exact f u s hW v (λ_ _=>UD) F F F λ_ l m d' o _ p hw=>.cB i kW (p 2 hw) h
 |cC _ kW hj h=>
  obtain⟨g,u,s,hW⟩:=hj;by_cases v:GI P S (eh T i) g
  ·obtain⟨tW,aL,o,es,e1,e2,e3,m,nc⟩:=v
   subst kW;refine H.oH (sl:=M) hS nW pb (jF:=W) (lb':=Z i) (t':=0) (sm':=0) (jU:=6) (n':=m) u (.inr F) s (e1 w cA) (λe y=>.inl (e2 e y)) (by rw[tW]at e3⊢;exact e3) (.inr ⟨_,_,_,.inl F,cA,F⟩) (λx _=>Iff.rfl) (λx _=>Iff.rfl) BP (λx h=>h) (λx E=>H.nl x E) (.inl (nc.run λ_ _=>UF)) (λh=>absurd (.inr F) h) (λh=>absurd h oD) (λ_=>lj) (dt _) (by rw[hc];exact Ct hA hB nF) λl g1 kI r yI hl p _=>?_;rw[iG]at r;obtain rfl:=ee r;obtain⟨q1,uY,yH⟩:=(gM.cD (AK:=kI) (c8:=l) i F (p 0 nc) h).woken g o (w.setCell (dA S) (cS 0 0));exact⟨q1,by rw[hc];exact yH,.inl (by unfold mh;omega)⟩
  ·exact f u s hW v (λ_ _=>UE) F F F λ_ l m d' o _ p hw=>.cC i kW (p 1 hw) h
 |cD _ kW hj h=>
  obtain⟨g,u,s,hW⟩:=hj;by_cases v:GJ P S (eh T i) g
  ·obtain⟨tW,aL,BN,o,es,e1,e2,e3,SQ,m,nc⟩:=v
   subst kW;refine H.oH (sl:=M) hS nW pb (jF:=W) (lb':=I) (t':=0) (sm':=1) (jU:=5) (n':=m) u (.inr F) s (e1 w cB) (λe y=>.inl (e2 e y)) (by rw[tW]at e3⊢;exact e3) (.inr ⟨_,_,_,.inr F,cB,F⟩) (λx E=>⟨λh=>.inl (h.resolve_right ba),λh=>.inl (h.resolve_right λz=>E (ee z).symm)⟩) (λx _=>Iff.rfl) BP (λx h=>h) (λx E=>by cases E) (.inr (by simp[oD])) (λ_=>nc) (λh=>absurd h oD) (λ_=>lj) (dt _) (by rw[hc];exact aez hA hB nF) λl g1 kI r yI hl p _=>?_;rw[iG]at r;obtain rfl:=ee r;have fq:Go.Conc.woken P g o (w.setCell (dB S) (jJ 1)) g0=g0.again (w.setCell (dB S) (jJ 1)):=by
    unfold Go.Conc.woken;rw[if_pos];rw[BN,Bool.true_and];exact SQ
   rw[fq,hc];cases h with
   |uD h=>exact⟨_,by rw[Bb _ (.inl (h.run λ_ _=>FV))];exact .cR F h,.inl (by unfold mh;omega)⟩
   |parked h=>exact⟨0,by rw[WU h.2.1 h.2.2.1];exact .cR F h,.inl (by unfold mh;omega)⟩
  ·exact f u s hW v (λ_ _=>UF) F F F λ_ l m d' o _ p hw=>.cD i kW (p 0 hw) h
end
end
section
open Go.ConcN (sumTo upd sumTo_upd upd_ne upd_same)
section
variable {P:aD}{St At:Nat->Loc->Prop}{X:Loc->Prop}{S D kD B:Nat}{gf:aH}{eT:Nat->aj YS}{O:ax}{cw:Nat->Prop}{n0:Nat}
variable {V Q:ae Nat}{L:aj Nat}{t sm J d:Nat}{K:Nat->aj YS}{T:ed}{W:af aH}{w:ax}{q:Nat->Nat}{va vb:ag}{sl:aj (Nat×Nat)}
theorem gM.Ic{E:dR->Prop}{f:Prop}{j:Nat->Nat->Prop}{c q0 i:Nat}{a:aH}{W g:af aH}{w:ax}(h:gM P S E gf f j c d q0 a L t sm J)(o:My w i W g)(n:W[0]?=Z a):∃b k,b<=q0+1/\g[0]?=Z k/\gM P S E gf f j c d b k L t sm J:=by
 rcases o.zero a n with e|e
 ·exact⟨q0,a,wM _,e,h⟩
 ·obtain⟨b,l,m⟩:=h.again w
  exact⟨b,_,l,e,m⟩
theorem kL.noSend(H:kL P St At X S D B gf eT O cw n0 V Q L t sm J d K T W w q):∀a,W[0]?=Z a->∀c,offersAt a c U=[]:=λa h c=>by
 obtain⟨f,b,e⟩:=H.Ak;rw[h]at b;obtain rfl:=ee b;exact e.noSend c
theorem kL.by(H:kL P St At X S D B gf eT O cw n0 V Q L t sm J d K T W w q){i:Nat}{g:aH}(s:W[i]?=Z g)(gR:i≠0)(C:¬(i∈V\/i∈Q\/L=Z i))(aL:g.status=.running):ye P St At X S D B gf eT O cw n0 (mh V Q J) (pV W.size q) T W w sl i:=by
 have aC:i<W.size:=(iy.1 s).1;obtain⟨R,c,n,p,l,A,h4,h6,h5⟩:=H.dr.agJ (sl:=sl) s gR C aL H.noSend;have N:∀k x a,T.size<=k->(T++c)[k]?=Z x->cw x.g->x.act.touch?=Z a->False:=λk x a u o r m=>by
  rcases lG o with⟨Ka,_⟩|⟨_,iH⟩
  ·omega
  ·obtain⟨v,_,y⟩:=h6 x iH
   rw[v]at r;rw[y ((H.Af i r).2 λz=>C (.inl z))]at m;cases m
 have lj:∀j,cw j->Rl S n0 X T j->Rl S n0 X (T++c) j:=λj b h=>h.app λk x a u o s m=>(N k x a u o (s▸b) m).elim;have yI:tv cw X T->tv cw X (T++c):=λh=>h.app λk x a u o r m=>(N k x a u o r m).elim;obtain⟨g0,iG,hG⟩:=H.Ak;obtain⟨M,g1,v,e2,y⟩:=hG.Ic l iG;have E:∀j,j≠0->j≠i->Bm K T W q K (T++c) R (upd (upd q i n) 0 M) j:=λj b G=>⟨l.same j G b,by rw[upd_ne _ _ b,upd_ne _ _ G],h4 j G,F⟩;have f:∀j,(j∈V\/j∈Q\/L=Z j)->j≠0/\j≠i:=λj b=>⟨(H.nz j b).1,λe=>C (e▸b)⟩;refine⟨R,w,c,V,Q,L,t,sm,J,d,K,upd (upd q i n) 0 M,p,l.size,⟨h5.q0 M,λj b=>(H.xR j b).same (E j (f j (.inl b)).1 (f j (.inl b)).2),λj b=>(H.CP j b).same (E j (f j (.inr (.inl b))).1 (f j (.inr (.inl b))).2) (lj j (H.Ae j (.inr (.inl b)))),⟨g1,e2,?_⟩,H.nd,H.nl,H.nz,H.le,H.FC,H.two,H.gate,H.nr.app λop aO=>(h6 op aO).2.1 _,by simp;exact rU H.FW (Nat.le_add_right _ _),H.Ae,H.Af,λj p l A=>lj j p (H.rl j p l A)⟩,.inr ⟨F,?_⟩⟩
 ·rw[upd_same]
  exact y.FL (λj n uU h=>rY.same h (E j (f j (.inr (.inr uU))).1 (f j (.inr (.inr uU))).2)) λ_=>yI
 ·rw[l.size];exact Ug gR aC A v
theorem kL.sit(H:kL P St At X S D B gf eT O cw n0 V Q L t sm J d K T W w q)(hA:eY O (dA S) va)(hB:eY O (dB S) vb)(hD:O.heap[D]?=Z (.chan 0 #[] U kD kD Y))(vH:D<B){i:Nat}(l:i∈V):ye P St At X S D B gf eT O cw n0 (mh V Q J) (pV W.size q) T W w sl i:=by
 obtain⟨g,hg,y,s,kk,z,hI,aL,KB,hk,jq,p,Z'⟩:=H.xR i l;obtain⟨gR,NG,NH⟩:=H.nz i (.inl l);have aC:i<W.size:=(iy.1 hg).1;have sK:=H.dr.yd.keep i y hI;have EU:=azi hA hB H.two hD;obtain⟨g0,iG,hG⟩:=H.Ak;have β:=(zE.1 H.nd).1;have N8:i∉Q:=λh=>(zE.1 H.nd).2.2 i l i h F;have kW:¬V.length+Q.length=0:=by have:=IG l;omega
 have ZR:∀f:ed,(∀C∈f,C.g=i/\∀a,C.act≠.mark (.release a))->∀j,j≠i->Rl S n0 X T j->Rl S n0 X (T++f) j:=λf M j c h=>h.app λk x a hk A hg _=>absurd (hg.symm.trans (Ur (λC aO=>(M C aO).1) hk A)) c;have xi:(∃g₂,AtIn P Y y.K y.St y.B s g g₂)\/∃u E es,q i=u+1/\aE P Y g w=.go E w es/\(∀e∈es,EvC y.St y.B e)/\Goes P Y (RK y.K) (DS y.St y.B) (λg _=>∃g₂,AtIn P Y y.K y.St y.B s g g₂) u E w:=by
  generalize q i=k at p;cases k with
  |zero=>exact .inl (p w sK)
  |succ u=>
   rcases p with Kv|⟨_,gX⟩
   ·exact .inl (Kv w sK)
   ·have r:=gX w sK
    cases p:aE P Y g w with
    |go E w' es=>
     rw[p,goes_go]at r;obtain⟨⟨rfl,fI⟩,sJ⟩:=r;exact .inr ⟨u,E,es,F,F,fI,sJ⟩
    |_=>rw[p]at r;exact r.elim
 rcases xi with⟨g₂,dM⟩|⟨u,E,es,hq,gX,fI,sJ⟩
 ·obtain⟨m,hm⟩:=Z' g₂ dM.2.2.2.2.1
  have nB:=H.dr.mem gR hI;obtain⟨bD,f,G,o,v,h4,M,h5⟩:=H.dr.serve (sl:=sl) m hg gR (.inl l) hI dM KB hk jq EU vH (H.Ae i (.inl l)) H.noSend;have lj:=ZR f M;obtain⟨N,g1,e1,e2,e3⟩:=hG.Ic o iG;have r:∀j,j≠0->j≠i->Bm K T W q (λx=>if x=i then I else K x) (T++f) bD (upd (upd q i m) 0 N) j:=λj c nU=>⟨o.same j nU c,by rw[upd_ne _ _ c,upd_ne _ _ nU],h4 j,if_neg nU⟩;have R:∀x,x≠i->(x∈V.erase i↔x∈V):=λx A=>List.mem_erase_of_ne A;have oD:i∉V.erase i:=λh=>(β.mem_erase_iff.1 h).1 F;have uX:=IG l;have γ:(V.erase i).length+1=V.length:=by rw[List.length_erase_of_mem l];omega
  have ig:(V.erase i).length+(i::Q).length=V.length+Q.length:=by rw[jY];omega
  have rB:∀x,(x∈V\/x∈Q\/L=Z x)↔(x∈V.erase i\/x∈i::Q\/L=Z x):=λx=>by
   by_cases e:x=i
   ·subst e;simp[l]
   ·rw[R x e,bM];simp[e]
  refine⟨bD,w,f,V.erase i,i::Q,L,t,sm,J,d,_,upd (upd q i m) 0 N,G,o.size,⟨(h5.bz rB).q0 N,λj c=>?_,λj c=>?_,⟨g1,e2,?_⟩,?_,λj c=>?_,λj c=>H.nz j ((rB j).2 c),by rw[ig];exact H.le,λx=>?_,by rw[ig];exact H.two,?_,H.nr.app λC aO=>(M C aO).2 _,by simp;exact rU H.FW (Nat.le_add_right _ _),λj c=>H.Ae j ((rB j).2 c),λj c=>⟨(H.Af j c).1,λmH=>?_⟩,λj G o v=>?_⟩,.inl ?_⟩
  ·have e:j≠i:=λe=>oD (e▸c)
   exact(H.xR j ((R j e).1 c)).same (r j (H.nz j (.inl ((R j e).1 c))).1 e)
  ·rcases bM.1 c with rfl|c
   ·exact⟨_,Y,v,if_pos rfl,by simp,by rw[upd_ne _ _ gR,upd_same,h4,nB];exact hm⟩
   ·have e:j≠i:=λe=>N8 (e▸c)
    exact(H.CP j c).same (r j (H.nz j (.inr (.inl c))).1 e) (lj j e)
  ·rw[upd_same,ig]
   exact e3.FL (λj n uU h=>rY.same h (r j (H.nz j (.inr (.inr uU))).1 λe=>(H.nl j uU).1 (e▸l))) λh0=>absurd h0 kW
  ·have hN:=H.nd
   rw[zE]at hN⊢;refine⟨hN.1.erase i,oO.2 ⟨N8,hN.2.1⟩,λa ha b hb e=>?_⟩;subst e;rcases bM.1 hb with rfl|hb
   ·exact oD ha
   ·exact hN.2.2 a (List.mem_of_mem_erase ha) a hb rfl
  ·obtain⟨n1,n2⟩:=H.nl j c
   exact⟨λh=>n1 (List.mem_of_mem_erase h),λh=>(bM.1 h).elim (λe=>n1 (e▸l)) n2⟩
  ·rw[H.FC x]
   by_cases e:x=i
   ·subst e;rw[if_pos l,if_neg oD,if_pos rfl]
   ·simp only[R x e,if_neg e]
  ·refine⟨H.gate.out,λb hb x y' A=>?_⟩
   by_cases e:x=i
   ·rw[if_pos e]at A;cases A
   ·rw[if_neg e]at A;exact H.gate.keep b hb x y' A
  ·by_cases e:j=i
   ·exact if_pos e
   ·rw[if_neg e];exact(H.Af j c).2 λh=>mH ((R j e).2 h)
  ·have e:j≠i:=λe=>v (by rw[e];simp)
   exact lj j e (H.rl j G (λh=>o ((R j e).2 h)) λh=>v (eK _ h))
  ·unfold mh;rw[ig];omega
 ·have yU:E.status=.running:=(Sits.status (s:=s) sK (.inl ⟨u,w,F,sJ⟩)).elim (·.1) λz=>absurd z.2 (Nat.succ_ne_zero _)
  obtain⟨bD,f,G,o,v,h4,M,h5⟩:=H.dr.walk (sl:=sl) u hg gR (.inl l) hI gX fI yU;have lj:=ZR f M;obtain⟨N,g1,e1,e2,e3⟩:=hG.Ic o iG;have r:∀j,j≠0->j≠i->Bm K T W q K (T++f) bD (upd (upd q i u) 0 N) j:=λj c nU=>⟨o.same j nU c,by rw[upd_ne _ _ c,upd_ne _ _ nU],h4 j,F⟩;refine⟨bD,w,f,V,Q,L,t,sm,J,d,K,upd (upd q i u) 0 N,G,o.size,⟨h5.q0 N,λj c=>?_,λj c=>(H.CP j c).same (r j (H.nz j (.inr (.inl c))).1 λe=>N8 (e▸c)) (lj j λe=>N8 (e▸c)),⟨g1,e2,?_⟩,H.nd,H.nl,H.nz,H.le,H.FC,H.two,H.gate,H.nr.app λC aO=>(M C aO).2 _,by simp;exact rU H.FW (Nat.le_add_right _ _),H.Ae,H.Af,λj G o v=>lj j (λe=>o (e▸l)) (H.rl j G o v)⟩,.inr ⟨F,?_⟩⟩
  ·by_cases e:j=i
   ·subst e
    exact⟨E,v,y,s,kk,z,hI,yU,KB,hk,jq,by rw[upd_ne _ _ gR,upd_same];exact ajM sJ,Z'⟩
   ·exact(H.xR j c).same (r j (H.nz j (.inl c)).1 e)
  ·rw[upd_same]
   exact e3.FL (λj n uU h=>rY.same h (r j (H.nz j (.inr (.inr uU))).1 λe=>(H.nl j uU).1 (e▸l))) λh0=>absurd h0 kW
  ·rw[o.size];exact Ug gR aC ah e1
theorem kL.awake(H:kL P St At X S D B gf eT O cw n0 V Q L t sm J d K T W w q):∀g∈W,awake g:=by
 intro g j;obtain⟨i,k,rfl⟩:=Array.mem_iff_getElem.1 j;have b:=xY k;by_cases e:i=0
 ·subst e
  obtain⟨l,c,h⟩:=H.Ak;rw[b]at c;obtain rfl:=ee c;exact awake_of (h.status.elim .inl λx=>.inr (.inl x.1))
 ·by_cases f:i∈V\/i∈Q\/L=Z i
  ·exact awake_of (.inl (H.dr.run i _ e f b))
  ·have a:=H.dr.yd.idle i _ (λz=>z.elim e f) b
   cases es:K i with
   |none=>rw[es]at a;exact awake_of (a.2.status.elim .inl λx=>.inr (.inr x))
   |some s=>rw[es]at a;exact awake_of ((Sits.status (H.dr.yd.keep i s es) a).elim (λx=>.inl x.1) λx=>.inr (.inl x.1))
theorem kL.axX(H:kL P St At X S D B gf eT O cw n0 V Q L t sm J d K T W w q):∃(i:Nat)(g:aH),W[i]?=Z g/\g.status=.running:=by
 obtain⟨e,f,k⟩:=H.Ak;rcases k.status with h|⟨_,h|⟨j,n,o,h⟩⟩
 ·exact⟨0,e,f,h⟩
 ·cases hs:V with
  |cons i l=>
   obtain⟨g,a,_,_,_,_,_,c,_⟩:=H.xR i (by rw[hs];simp);exact⟨i,g,a,c⟩
  |nil=>
   cases ha:Q with
   |nil=>rw[hs,ha]at h;simp at h
   |cons i l=>
    obtain⟨g,m,a,_,_,b⟩:=H.CP i (by rw[ha];simp);exact⟨i,g,a,b.run λ_ _=>ab3⟩
 · match n,h with
   |0,⟨g,a,_,b⟩=>exact⟨j,g,a,b.run λ_ _=>UF⟩
   |1,⟨g,a,_,b⟩=>exact⟨j,g,a,b.run λ_ _=>UE⟩
   |2,⟨g,a,_,b⟩=>exact⟨j,g,a,b.run λ_ _=>UD⟩
def Mg(P:aD)(St At:Nat->Loc->Prop)(X:Loc->Prop)(S B:Nat)(gf:aH)(eT:Nat->aj YS)(O:ax)(n:Nat)(m:fT)(T:ed):Prop:=∃N a b e c f,iz P N m T=(.next (crowd a b e),c)/\a.size=n/\a[0]?=Z gf/\YH P St At X eT 0 0 B c a b f/\se S O (cS 0 0) (jJ 0) b
theorem drain(p:eY O (dA S) va)(r:eY O (dB S) vb)(hD:O.heap[D]?=Z (.chan 0 #[] U kD kD Y))(vH:D<B)(A:S<B)(nW:X (.cell (dA S)))(pb:X (.cell (dB S))):∀(R M:Nat)(V Q:ae Nat)(L:aj Nat)(t sm J d:Nat)(K:Nat->aj YS)(T:ed)(W:af aH)(w:ax)(q:Nat->Nat)(sl:aj (Nat×Nat)),mh V Q J=R->pV W.size q=M->kL P St At X S D B gf eT O cw n0 V Q L t sm J d K T W w q->Mg P St At X S B gf eT O W.size (crowd W w sl) T:=by
 intro R;induction R using Nat.strongRecOn with
 |_ R β=>
 intro M;induction M using Nat.strongRecOn with
 |_ M G=>
 intro V Q L t sm J d K T W w q sl hR hM H;obtain⟨i,g,dd,j,E,Ao,aF⟩:=crowd_pick (P:=P) (w:=w) (sl:=sl) H.awake H.axX;have f:=H.at dd;have next:ye P St At X S D B gf eT O cw n0 (mh V Q J) (pV W.size q) T W (w.at dd) j i->Mg P St At X S B gf eT O W.size (crowd W w sl) T:=by
  rintro⟨n,w',γ,Iu,jF,l,t',m,jU,d',b,q',e1,e2,e3,e4⟩;have h:Mg P St At X S B gf eT O n.size (crowd n w' j) (T++γ):=by
   rw[hR,hM]at e4;rcases e4 with h|⟨s,o⟩
   ·exact β _ h _ Iu jF l t' m jU d' b _ n w' q' j rfl rfl e3
   ·exact G _ o Iu jF l t' m jU d' b _ n w' q' j s rfl e3
  obtain⟨N,jz,w2,jv,T2,q2,k1,k2,k3⟩:=h;refine⟨N+1,jz,w2,jv,T2,q2,?_,k2.trans e2,k3⟩;simp only[iz,aF,e1];exact k1
 by_cases h0:i=0
 ·subst h0
  rcases f.step0 (sl:=j) p r A E Ao with⟨rfl,rfl,rfl,rfl,rfl,rfl,rfl,v⟩|h
  ·have hI:eT=K:=funext λx=>by rw[H.FC x];simp
   refine⟨0,W,w,sl,T,q,F,F,E,?_,H.two⟩;have C:=H.dr;rw[hI];refine⟨⟨λx g c hg=>C.yd.idle x g (λz=>z.elim c ba) hg,C.yd.chans,C.yd.wf,C.yd.inj,C.yd.above,C.yd.lt,λx y e=>⟨(C.yd.mem x y e).1.imp (λz=>z.resolve_right ba) id,(C.yd.mem x y e).2⟩,λx c=>(C.yd.nomem x c).imp id λz=>z.resolve_right ba,λx y c e=>⟨c,by rw[e];simp⟩,⟨C.yd.past.clean,λk a ha hm=>?_,C.yd.past.wrote,C.yd.past.hears,C.yd.past.seen,C.yd.past.apart,C.yd.past.plain⟩,C.yd.keep,C.yd.places,C.yd.fresh⟩,C.deaf,C.wrote⟩;rcases C.yd.past.known k a ha hm with h|⟨s,g',o,h3,h4⟩|h
   ·exact .inl h
   ·rcases h3.2 with u|u
    ·exact .inr (.inl ⟨s,g',o,⟨h3.1,u⟩,h4⟩)
    ·obtain⟨x,c,fo⟩:=om ha
     have Tq:x.g=g':=by have:=g?_of c;rw[o]at this;exact(ee this).symm
     exact(v k x a c (Tq▸u) fo).imp id .inr
   ·exact .inr (.inr h)
  ·exact next h
 ·by_cases hb:i∈V\/i∈Q\/L=Z i
  ·rcases hb with h|h|h
   ·exact next (f.sit p r hD vH h)
   ·exact next (f.add p r A nW pb h)
   ·exact next (f.aoT p r A nW pb h)
  ·exact next (f.by E h0 hb Ao)
end
end
theorem V'{S:Nat}{E:dR->Prop}{a:Nat->aH->Prop}{d d':Nat}{g f:aH}{l:ae iR}(h:∀v,stage P fM v g=Z (f,v,l))(k:eN (dA S) l)(j:∀e∈dm l,E e)(i:ia d (xV P g l)=d')(o:∃m,kO P b (KW S) E a m d' f):∃m,kO P b (KW S) E a m d g:=azR h k F (λe hE=>j e (by simpa using mem_seen hE)) (by rw[i];exact o)
abbrev MR(f:cH)(b:af ag)(i:Nat)(d:af bq)(l:ae Nat)(h:ae aJ)(e:ae cz)(a:dQ)(g:aj Nat):aA:=⟨f,b,.inRegion d (i::l)::h,e,.run,a,g⟩
abbrev Hc(f:cH)(b:af ag)(i:Nat)(d:af bq)(l:ae Nat)(h:ae aJ)(e:ae cz)(a:dQ)(g:aj Nat)(cs:ae aA):aH:=G (jw (MR f b i d l h e a g) (.tuple #[])) cs
section
variable {Shun:Loc->Prop}{S B:Nat}(X:S<B){c:aA}{cs:ae aA}{W:aH}(V:W.status=.running)(hE:∀J,(∃n,aN ak n (sg (sg (sg (xf S J cs c))))=W)/\∃n,aN ak n (sg (sg (sg (xb S J cs c))))=W)
include X
theorem C8:(∀e∈dm (y7 S),il S Shun B e)/\(∀e∈dm (J5 S),il S Shun B e)/\(∀e∈dm (K0 S),il S Shun B e)/\(∀e∈dm (Lu S),il S Shun B e)/\∀e∈([⟨.mark (.extern 81),Y,U⟩,⟨.mark (.write (dB S)),Y,U⟩]:ae dR),il S Shun B e:=by
 refine⟨?_,?_,?_,?_,?_⟩<;>simp[y7,J5,K0,Lu,dm,il,lH,dA,dB,X,Gl]
omit X in
include V hE in
theorem T4(J:Nat->ag):WZ ak S (il S Shun B) W 1 (xf S J cs c)/\WZ ak S (il S Shun B) W 1 (xb S J cs c):=by
 constructor;refine Gi (d':=0) (es:=#[⟨.mark .enable,Y,U⟩]) (λv=>wo (aif S J cs c v) (aih S J cs c v)) (by simp[eN]) al (by simp[il,lH]) rfl ?_;refine Gi (d':=0) (es:=#[]) (λv=>wo (aii S J cs c v) (aij S J cs c v)) (by simp[eN,dA]) al ba rfl ?_;refine Wa (λv=>wo (aik S J cs c v) (ail S J cs c v)) (by simp[eN]) al rfl ?_;obtain⟨n,hn⟩:=(hE J).1
 rotate_left
 refine Gi (d':=0) (es:=#[⟨.mark .enable,Y,U⟩]) (λv=>wo (aga S J cs c v) (agb S J cs c v)) (by simp[eN]) al (by simp[il,lH]) rfl ?_;refine Gi (d':=0) (es:=#[]) (λv=>wo (agc S J cs c v) (agd S J cs c v)) (by simp[eN,dA]) al ba rfl ?_;refine Wa (λv=>wo (age S J cs c v) (agf S J cs c v)) (by simp[eN]) al rfl ?_;obtain⟨n,hn⟩:=(hE J).2
 all_goals
  refine LU n _ ?_;rw[hn];exact⟨0,rfl,rfl,V,rfl⟩
include V hE
theorem mD(J:Nat->ag):I3 ak S (il S Shun B) W 1 (Jh S J cs c):=⟨F,agi S J cs c,Gf (agh S J cs c) (by simp[y7,eN]) (C8 X).1 (by rw[agj];exact(T4 V hE J).2)⟩
theorem mC(J:Nat->ag):ym ak S (il S Shun B) W 1 (Ea S J c cs):=by
 refine⟨F,F,F,λw a=>auU S J cs c w a.cell a.free a.shape,Gf (auT S J cs c) (by simp[Lu,eN]) (C8 X).2.2.2.1 ?_⟩;rw[auV];exact zA 400 _ ⟨0,mD X V hE J⟩
theorem mB{n:Nat}(hn:nine n)(J:Nat->ag){b:Nat->aH->Prop}(a:∀J,b 1 (Cw S J c cs)):Ey ak S (il S Shun B) W b n 1 (EC S n J c cs):=by
 obtain⟨j,k,f,l,g,o,d,h,i⟩:=alX S J cs c hn;refine⟨F,F,Gf j (by simp[J5,eN,dA]) (C8 X).2.1 ?_,λm e=>Gf (abh S J cs c hn e).1 (by simp[K0,eN,dA]) (C8 X).2.2.1 ?_⟩
 ·rw[d _ (.inl F)]
  refine V' (λv=>wo (k v) (f v)) (by simp[eN,dA]) (by simp[dm]) h ?_;refine V' (λv=>wo (l v) (g v)) (by simp[eN]) (by simpa[dm]using(C8 X).2.2.2.2) i ?_;refine zA 400 _ ?_;erw [o];exact⟨0,mC X V hE _⟩
 ·rw[d _ (.inr F)]
  refine zA 400 _ ?_;rw[(abh S J cs c hn e).2];exact⟨0,a _⟩
theorem mA:∀(f:Nat),f<=9->∀J,yl ak S (il S Shun B) W f 1 (Cw S J c cs):=by
 intro f;induction f with
 |zero=>exactλ_ J=>⟨F,F,Gf (ld0 S J cs c) (by simp[y7,eN]) (C8 X).1 (by rw[TN];exact(T4 V hE J).1)⟩
 |succ f b=>
  intro d J;refine⟨F,F,Gf (ld0 S J cs c) (by simp[y7,eN]) (C8 X).1 (by rw[TN];exact(T4 V hE J).1),λk e=>?_⟩;have hn:nine (k+1):=by unfold nine;omega
  have a:=ldN S J cs c hn;exact Gf a.1 (by simp[y7,eN]) (C8 X).1 (by rw[TN];exact zA 400 _ (by rw[a.2];exact⟨0,mB X V hE hn J (b ah)⟩))
end
theorem aeL{Shun:Loc->Prop}{S B:Nat}(X:S<B){fn:cH}{tmps:af ag}{i:Nat}{ops:af bq}{l:ae Nat}{td:ae aJ}{ds:ae cz}{kind:dQ}{ro:aj Nat}{cs:ae aA}:∃n,kO ak U (KW S) (il S Shun B) (yl ak S (il S Shun B) (Hc fn tmps i ops l td ds kind ro cs) 9) n 0 (G (bO ak 46 #[ptr S 11] .normal) (MR fn tmps i ops l td ds kind ro::cs)):=by
 refine V' (d':=1) (λv=>wo (azN S cs _ v) (azO S cs _ v)) (by simp[eN]) (by simp[dm,il,lH]) al ?_;refine zA 400 _ ?_;rw[azM];exact⟨0,mA X F (λJ=>⟨aie S J cs fn tmps i ops l td ds kind ro,af9 S J cs fn tmps i ops l td ds kind ro⟩) 9 (dt _) _⟩
section
open Go.ConcN (sumTo upd sumTo_upd upd_ne upd_same)
structure afy(D:Nat)(y y':YS):Prop where
 K:y'.K=y.K
 St:y'.St=y.St
 B:y'.B=y.B
 own:y'.own=y.own
 wf:y'.s.Wf
 has:y'.s.has y'.own
 sub:∀c,y'.s.has c->y.s.has c/\c≠D
 at_:∃(kk:Nat)(z:ag),y.s.cases[kk]?=Z (rcase D z)
theorem ajO{P:aD}{K:ax->Prop}{St:Loc->Prop}{B:Nat}{s:Seat}{c a:aH}(h:AtIn P Y K St B s c a)(b:af CommCase)(d:CommShape):Goes P Y (RK K) (DS St B) (λg _=>∃a,AtIn P Y K St B s g a) 0 {parked a b d with status:=.running} default:=λ_ _=>⟨a,h.tries _ _⟩
section
variable {P:aD}{St At:Nat->Loc->Prop}{V:Loc->Prop}{R Inb':Nat->aj YS}{B D k:Nat}{T:ed}{X:af aH}{w:ax}{q:Nat->Nat}{Q:ae Nat}{cw:Nat->Prop}
theorem ajN{K:ax->Prop}{St:Loc->Prop}{B:Nat}{a:aH->Prop}{g:aH}{n:Nat}{w f:ax}(h:Goes P b (RK K) (DS St B) (λg _=>a g) n g w):Goes P b (RK K) (DS St B) (λg _=>a g) n g f:=by
 cases n with
 |zero=>exactλd c=>h d c
 |succ n=>
  rcases h with h|⟨e,h⟩
  ·exact .inl λd c=>h d c
  ·exact .inr ⟨e,λd c=>h d c⟩
theorem fg.close(C:fg P St At V R 0 B T X w q){a a':aH}(ha:X[0]?=Z a)(BN:mayWake P a=U)(gz:a'.status=.running)(hD:w.heap[D]?=Z (.chan 0 #[] Y k k Y))(vH:D<B)(δ:∀g,¬St g (.obj D))(γ:¬V (.obj D))
  (h1:∀x,x∉Q->Inb' x=R x/\∀y,R x=Z y->¬y.s.has D)(h2:∀j∈Q,j≠0/\∃y d,R j=Z y/\Inb' j=Z d/\afy D y d):
  Dr P St At V Inb' (λx=>x∈Q) cw 0 B (T++dk 0 a.frame.fn a.frame.place (closeEvents D)) ((X.map (eP P a a' (w.setChan D 0 #[] U k k Y))).setIfInBounds 0 a') (w.setChan D 0 #[] U k k Y) (λx=>if x∈Q then q x-1 else q x)/\
   ((X.map (eP P a a' (w.setChan D 0 #[] U k k Y))).setIfInBounds 0 a')[0]?=Z a'/\((X.map (eP P a a' (w.setChan D 0 #[] U k k Y))).setIfInBounds 0 a').size=X.size/\
   ∀j∈Q,∀y,R j=Z y->∃g,((X.map (eP P a a' (w.setChan D 0 #[] U k k Y))).setIfInBounds 0 a')[j]?=Z g/\g.status=.running/\Goes P Y (RK y.K) (DS y.St y.B) (λg _=>∃g₂,AtIn P Y y.K y.St y.B y.s g g₂) (q j-1) g default:=by
 have aC:0<X.size:=(iy.1 ha).1;generalize hW:w.setChan D 0 #[] U k k Y=W;have β:W.heap[D]?=Z (.chan 0 #[] U k k Y):=by rw[<-hW];exact oQ w hD _ _ _ _ _ _
 have gQ:∀e∈closeEvents D,CK St V B e:=by
  intro e he;simp only[closeEvents,ko,bM,gV,or_false]at he;rcases he with rfl|rfl
  ·refine⟨λx m=>?_,by simp,by simp,vH⟩
   simp only[gI,lS,gB]at m;subst m;exact⟨λg G=>absurd G (δ g),λG=>absurd G γ⟩
  ·exact⟨λx m=>by simp[gI,lS]at m,by simp,by simp,vH⟩
 obtain⟨N,hs,v,kX⟩:=JC (i:=0) (fn:=a.frame.fn) (pos:=a.frame.place) gQ;have fq:∀y,eP P a a' W y=y.again W:=by intro y;simp[eP,BN,gz]
 have Y0:∀i y,R i=Z y->y.K W:=λi y e=>by rw[<-hW];exact(C.wf i y e).2.2.2 _ _ _ _ _ _ _ _ ⟨_,hD,F⟩ (C.keep i y e)
 have ZO:∀i y c,R i=Z y->y.s.has c->c≠D->∃K,W.heap[c]?=Z (.chan 0 #[] Y K K Y):=λi y c e o L=>by
  obtain⟨K,cI⟩:=C.chans i y c e o;exact⟨K,by rw[<-hW,mT _ _ _ _ _ _ _ (λE=>L E.symm)];exact cI⟩
 have p:∀x d,Inb' x=Z d->∃y,R x=Z y/\d.K=y.K/\d.St=y.St/\d.B=y.B/\d.own=y.own/\d.s.Wf/\d.s.has d.own/\∀c,d.s.has c->y.s.has c/\c≠D:=λx d e=>by
  by_cases m:x∈Q
  ·obtain⟨_,y,y2,f,r,S⟩:=h2 x m
   rw[e]at r;cases r;exact⟨y,f,S.K,S.St,S.B,S.own,S.wf,S.has,S.sub⟩
  ·obtain⟨f,hn⟩:=h1 x m
   rw[e]at f;exact⟨d,f.symm,F,F,F,F,(C.wf x d f.symm).1,(C.wf x d f.symm).2.1,λc o=>⟨o,λE=>hn d f.symm (E▸o)⟩⟩
 have L:∀x,Inb' x≠I->R x≠I:=λx m=>by
  cases e:Inb' x with
  |none=>exact absurd e m
  |some d=>obtain⟨y,f,_⟩:=p x d e;rw[f];simp
 have jH:((X.map (eP P a a' W)).setIfInBounds 0 a')[0]?=Z a':=kJ (by simpa using aC);have M:((X.map (eP P a a' W)).setIfInBounds 0 a').size=X.size:=by simp
 have jq:∀x,x≠0->x∉Q->((X.map (eP P a a' W)).setIfInBounds 0 a')[x]?=X[x]?:=λx m v=>by
  rw[iK (λe=>m e.symm),A4];cases e:X[x]? with
  |none=>rfl
  |some gx=>
   rw[jE,fq];have n:=C.idle x gx m e;cases es:R x with
   |none=>rw[es]at n;rw[again_of_running n.2.status]
   |some y=>
    rw[es]at n;rw[Sits.again (Y0 x y es) n (C.wf x y es).1 λc o=>by obtain⟨K,cI⟩:=ZO x y c es o (λE=>(h1 x v).2 y es (E▸o));exact⟨_,_,_,_,_,cI⟩]
 have H:∀j∈Q,∀y,R j=Z y->∃g,((X.map (eP P a a' W)).setIfInBounds 0 a')[j]?=Z g/\g.status=.running/\Goes P Y (RK y.K) (DS y.St y.B) (λg _=>∃g₂,AtIn P Y y.K y.St y.B y.s g g₂) (q j-1) g default:=λj u y hy=>by
  obtain⟨nT,y1,y2,f,r,S⟩:=h2 j u;rw[hy]at f;cases f;have ZC:=C.lt j (by rw[hy];simp);obtain⟨t,xj⟩:∃t,X[j]?=Z t:=⟨X[j]'ZC,xY ZC⟩
  have n:=C.idle j t nT xj;rw[hy]at n;have n:Sits P (j==0) y.K y.St y.B y.s (q j) t:=n;have qJ:(j==0)=Y:=by simp[nT]
  have lq:((X.map (eP P a a' W)).setIfInBounds 0 a')[j]?=Z (t.again W):=by
   rw[iK (λe=>nT e.symm),A4,xj,jE,fq]
  rw[qJ]at n;rcases n with⟨kk,w₀,hq,hG⟩|⟨hq,g₀,g₂,rfl,dM⟩
  ·have hr:t.status=.running:=(Sits.status (C.keep j y hy) (.inl ⟨kk,w₀,hq,hG⟩)).elim (·.1) λz=>by omega
   refine⟨t,by rw[lq,Bb W (.inl hr)],hr,?_⟩;rw[hq];exact ajN hG
  ·obtain⟨kk,z,hk⟩:=S.at_
   refine⟨_,by rw[lq,again_some_closed hk β],F,?_⟩;rw[hq];exact ajO dM _ _
 refine⟨⟨⟨λx gx m gq=>?_,λi d c e o=>?_,λi d e=>?_,λi i' y1 y2 f r hh=>?_,λj u=>?_,λi J=>by rw[M];exact C.lt i (L i J),λi d e=>?_,λi J=>J.imp (·.1) (λh=>.inl h.1),λi d J e=>⟨λz=>J (.inl z),.inl (by rw[e];simp)⟩,?_,λi d e=>?_,λi d l e v=>?_,λj l u=>C.fresh j l (by rw[M]at u;exact u)⟩,?_,λi b hb hw G=>?_,λx gx m hb h=>?_⟩,jH,M,H⟩
 ·have nG:x≠0:=λz=>m (.inl z)
  have KE:x∉Q:=λz=>m (.inr z);rw[jq x nG KE]at gq;rw[(h1 x KE).1,if_neg KE];have n:=C.idle x gx nG gq;cases es:R x with
  |none=>rw[es]at n;exact⟨n.1,by rw[ni T (λz=>nG z.symm) _ N];exact n.2⟩
  |some s=>rw[es]at n;exact n
 ·obtain⟨y,f,_,_,_,_,_,_,bG⟩:=p i d e
  obtain⟨gP,Hn⟩:=bG c o;exact ZO i y c f gP Hn
 ·obtain⟨y,f,O,f2,f3,f4,f5,f6,_⟩:=p i d e
  have cy:=(C.wf i y f).2.2;refine⟨f5,f6,?_⟩;unfold YS.IZ;rw[O];exact cy
 ·obtain⟨z1,g1,_,_,_,f4,_,_,_⟩:=p i y1 f
  obtain⟨z2,g2,_,_,_,_,_,_,s2⟩:=p i' y2 r;rw[f4]at hh;exact C.inj i i' z1 z2 g1 g2 (s2 _ hh).1
 ·rw[M]at u
  rw[ni T (g':=0) ah _ N];exact C.above j u
 ·obtain⟨y,f,O,f2,f3,f4,f5,f6,s2⟩:=p i d e
  obtain⟨m1,m2,m3⟩:=C.mem i y f;exact⟨by by_cases h0:i=0;exact .inl (.inl h0);exact .inr (.inl ⟨by rw[e];simp,h0⟩),λc o=>m2 c (s2 c o).1,by rw[f3];exact m3⟩
 ·refine((CL C.past N hs (λ_=>kX T) v).fewer λg A=>A.imp (λh=>L g h.1) (·.1)).loosen λg A=>⟨A.1,.inl ?_⟩
  by_cases m:g∈Q
  ·obtain⟨_,y,y2,_,r,_⟩:=h2 g m
   rw[r];simp
  ·rw[(h1 g m).1];exact A.2
 ·obtain⟨y,f,O,_⟩:=p i d e
  rw[O];exact Y0 i y f
 ·obtain⟨y,f,_,f2,_⟩:=p i d e
  rw[f2]at v;exact C.places i y l f v
 ·rw[kX T];exact C.past.hears 0 (.inr F)
 ·exact(CL C.past N hs (λ_=>kX T) v).wrote i b hb hw 0 (.inr F) G
 ·obtain⟨_,y,d,f,_,_⟩:=h2 x hb
  obtain⟨g,A,hr,_⟩:=H x hb y f;rw[A]at h;cases h;exact hr
end
end
section
open Go.ConcN (sumTo upd sumTo_upd upd_ne upd_same)
noncomputable def US:af bq:=match pq with
 |.seq (.seq _ (.cond _ (.seq _ (.region _ a _)) _)) _=>a
 |_=>#[]
noncomputable def D6:af bq:=match pq with
 |.seq _ (.region _ a _)=>a
 |_=>#[]
noncomputable def Xk:bH:=match pq with
 |.seq _ c=>c
 |_=>.skip
def B3(s:dg):ae (Nat×ag):=if s.st then [(9,ptr s.S 0),(10,ptr s.S 0),(11,ptr s.S 13),(12,.bool U),(13,.bool Y),(21,ptr s.S 0),(22,ptr s.S 0),(23,ptr s.S 11)]
 else [(9,ptr s.S 0),(10,ptr s.S 0),(11,ptr s.S 13),(12,.bool Y),(13,.bool U),(14,ptr s.S 0),(15,ptr s.S 0),(16,ptr s.S 13),(17,ptr s.S 0),(18,ptr s.S 0),(19,ptr s.S 10),(20,ay s.D),(21,ptr s.S 0),(22,ptr s.S 0),(23,ptr s.S 11)]
def x30(S D:Nat):ae (Nat×ag):=[(9,ptr S 0),(10,ptr S 0),(11,ptr S 13),(12,.bool Y),(13,.bool U),(14,ptr S 0),(15,ptr S 0),(16,ptr S 13),(17,ptr S 0),(18,ptr S 0),(19,ptr S 10),(20,ay D)]
noncomputable abbrev vC(g:Nat->ag)(l:ae ag)(S D:Nat)(a:ae Nat)(k:ae aJ)(T:ae cz)(X:dQ):aA:=⟨30,bI 25 (ov (dc g (ptr S 0)) (x30 S D)) l,.inRegion US a::.code Xk::k,T,.run,X,I⟩
section
variable (g:Nat->ag)(l:ae ag)(k:ae aJ)(T:ae cz)(X:dQ)(V:X=.normal\/X=.deferred)(R:ae aA)(S n D:Nat)
include V
theorem acr:(oM ak (G (lI (dc g (ptr S 0)) l (.code pq::k) T X) R)).isSome=U:=by
 rcases V with rfl|rfl<;>kernel_rfl
theorem acs(b:Bool):(stage ak fM (.bool b) (aN ak 1 (G (lI (dc g (ptr S 0)) l (.code pq::k) T X) R))).map (λr=>r.2)=Z (.bool b,[.ev ⟨.cell (bn S 13),Y,Y⟩]):=by
 rcases V with rfl|rfl<;>kernel_rfl
theorem atf:(stage ak fM (.bool Y) (gZ ak fM (.bool Y) (aN ak 1 (G (lI (dc g (ptr S 0)) l (.code pq::k) T X) R)))).map (λr=>r.2)=Z (.bool U,[.ev ⟨.cell (bn S 13),U,Y⟩]):=by
 rcases V with rfl|rfl<;>kernel_rfl
theorem atc:(stage ak fM (ay D) (gZ ak fM (.bool Y) (gZ ak fM (.bool Y) (aN ak 1 (G (lI (dc g (ptr S 0)) l (.code pq::k) T X) R))))).map (λr=>r.2)=Z (ay D,[.ev ⟨.cell (bn S 10),Y,Y⟩]):=by
 rcases V with rfl|rfl<;>kernel_rfl
theorem atb:ia 0 (xV ak (gZ ak fM (.bool Y) (aN ak 1 (G (lI (dc g (ptr S 0)) l (.code pq::k) T X) R))) [.ev ⟨.cell (bn S 13),U,Y⟩])=0:=by
 rcases V with rfl|rfl<;>kernel_rfl
theorem ata:gZ ak fM (ay D) (gZ ak fM (.bool Y) (gZ ak fM (.bool Y) (aN ak 1 (G (lI (dc g (ptr S 0)) l (.code pq::k) T X) R))))=G (vC g l S D [4] k T X) R:=by
 rcases V with rfl|rfl<;>kernel_rfl
theorem ati:mayWake ak (G (vC g l S D [4] k T X) R)=U:=by
 rcases V with rfl|rfl<;>kernel_rfl
theorem ate{w:ax}{m r:Nat}(d:w.heap[D]?=Z (.chan 0 #[] Y m r Y)):aE ak U (G (vC g l S D [4] k T X) R) w=.go (G (vC g l S D [] k T X) R) (w.setChan D 0 #[] U m r Y) (closeEvents D):=by
 have c:X≠.early:=by rcases V with rfl|rfl<;>simp
 exact stepG_close (P:=ak) (main:=U) (b:=⟨30,#[],[],[],.run,X,I⟩) (a:=⟨bI 25 (ov (dc g (ptr S 0)) (x30 S D)) l,T⟩) (kk:=.code Xk::k) (cs:=R) (ops:=US) (i:=4) (rest:=[]) (o:=US.getD 4 default) (x:=tm 20) (ats:=#[100]) al al c al al d al
theorem atg:aN ak 6 (G (vC g l S D [] k T X) R)=G (bO ak 46 #[ptr S 11] .normal) (MR 30 (bI 25 (ov (dc g (ptr S 0)) (B3 ⟨S,D,n,Y⟩)) l) 3 D6 [] k T X I::R):=by
 rcases V with rfl|rfl<;>kernel_rfl
theorem ath:aN ak 9 (gZ ak fM (.bool U) (aN ak 1 (G (lI (dc g (ptr S 0)) l (.code pq::k) T X) R)))=G (bO ak 46 #[ptr S 11] .normal) (MR 30 (bI 25 (ov (dc g (ptr S 0)) (B3 ⟨S,D,n,U⟩)) l) 3 D6 [] k T X I::R):=by
 rcases V with rfl|rfl<;>kernel_rfl
theorem atd(a:Bool):aN ak 1 (Hc 30 (bI 25 (ov (dc g (ptr S 0)) (B3 ⟨S,D,n,a⟩)) l) 3 D6 [] k T X I R)=G (lI (ov (dc g (ptr S 0)) (zi ⟨S,D,n,a⟩)) l k T X) R:=by
 cases a<;>rcases V with rfl|rfl<;>kernel_rfl
end
theorem eQ.cat{w:ax}{v:ag}(h:eQ w a v fM):eY w a v:=⟨h.cell,h.free,h.shape⟩
theorem VR(n:Nat):jD n=cS n 0:=by simp[jD,cS]
def qy(O:ae dU)(S:Nat):ae Nat:=(O.filter λk=>k.S==S).map (·.g)
theorem G2{O:ae dU}{S x:Nat}:x∈qy O S↔∃k∈O,k.S=S/\k.g=x:=by
 unfold qy;rw[og];constructor
 ·rintro⟨k,V,e⟩
  obtain⟨a,b⟩:=List.mem_filter.1 V;exact⟨k,a,by simpa using b,e⟩
 ·rintro⟨k,a,b,e⟩
  exact⟨k,List.mem_filter.2 ⟨a,by simpa using b⟩,e⟩
theorem abH{α β:Type}(f:α->β):∀{l:ae α},l.Nodup->(∀a∈l,∀b∈l,f a=f b->a=b)->(l.map f).Nodup
 |[],_,_=>List.nodup_nil
 |a::l,h,d=>by
  rw[oO]at h;rw[fw,oO];refine⟨λi=>?_,abH f h.2 λx j y m=>d x (by simp[j]) y (by simp[m])⟩;obtain⟨b,c,e⟩:=og.1 i;exact h.1 (d a ba b (by simp[c]) e.symm▸c)
def oneOf(y:YS):YS:={y with s:=Seat.one y.own .nilFunc U (λ_=>True)}
section
variable {Hid:Loc->Prop}{J At:Nat->Loc->Prop}{N:Loc->Prop}{K:Nat->aj YS}{O:ae dU}{M:ae dg}{B n:Nat}{w W:ax}{Q:dg}
theorem ahk(L:fO Hid U O M w W)(a:Q∈M):(qy O Q.S).length=Q.n:=by
 unfold qy;rw[jM];exact L.count Q a
theorem ahl(L:fO Hid U O M w W):(qy O Q.S).Nodup:=abH _ (L.nodup.filter _) λa c b d e=>L.AF a (List.mem_filter.1 c).1 b (List.mem_filter.1 d).1 e
theorem XD(C:Core Hid J At N K O M I B n w W)(d:Q∈M)(o:Q.st=Y){j:Nat}(r:j∈qy O Q.S):∃k∈O,k.S=Q.S/\k.g=j/\k.D=Q.D/\k.W≠k.D/\∃a,K j=Z (wY k a):=by
 obtain⟨k,V,b,f⟩:=G2.1 r;obtain⟨a,q,_⟩:=C.zl k V Q d b.symm o;have l:=C.ft.k k V;obtain⟨m,c,p,h⟩:=l.p9;have s:=C.ft.u5 m c Q d (p.trans b);subst s;obtain⟨_,_,i⟩:=l.work;obtain⟨_,_,t⟩:=(C.ft.s m c).lone;refine⟨k,V,b,f,h.symm,λe=>?_,a,f▸q⟩;rw[e,<-h,t]at i;cases i
theorem ahm(C:Core Hid J At N K O M I B n w W)(b:Q∈M){x:Nat}{y:YS}(q:x∉qy O Q.S)(r:K x=Z y):¬y.s.has Q.D:=λo=>by
 obtain⟨k,V,s,p,i,v,j,f,rfl⟩:=C.B8 r;have l:=C.ft.k k V;obtain⟨e,a,c,m⟩:=l.p9;have t:=C.ft.u5 e a s p (c.trans i.symm);subst t;rcases(A0 k f).1 o with h|h
 ·obtain⟨_,_,d⟩:=l.work
  obtain⟨_,_,u⟩:=(C.ft.s Q b).lone;rw[<-h,u]at d;cases d
 ·have:=C.ft.yZ Q b e a (h.trans m.symm)
  subst this;exact q (G2.2 ⟨k,V,c.symm,j⟩)
end
end
section
open Go.ConcN (sumTo upd sumTo_upd upd_ne upd_same)
section
variable {Hid:Loc->Prop}{Q At:Nat->Loc->Prop}{R:Loc->Prop}{O:Nat->aj YS}{K:ae dU}{M:ae dg}{B n:Nat}{w W:ax}{so:dg}
theorem Core.ajr(C:Core Hid Q At R O K M I B n w W):Gate Q O (·=bn so.S 13):=by
 refine⟨λb j g m=>?_,λb j i y p w v d=>?_⟩
 ·obtain⟨_,a,e,h⟩:=C.rN g _ m
  subst j;cases e;simp only at h;omega
 ·obtain⟨k,_,_,_,_,_,_,q,rfl⟩:=C.B8 p
  have c:∀x o,(o=0\/o=1\/o=10)->b≠bn x o:=λx o r e=>by
   simp_all
  have f:b.spot=I:=by subst j;rfl
  exact(⟨tf d.work (c _ _ (.inl F)) f,tf d.told (c _ _ (.inr (.inl F))) f,tf d.store (c _ _ (.inl F)) f,tf d.done (c _ _ (.inr (.inr F))) f⟩)
def MB(W:ax)(so:dg)(a:ax):Prop:=(so.st=U/\a=W)\/(so.st=Y/\∃k,W.heap[so.D]?=Z (.chan 0 #[] Y k k Y)/\a=(W.setCell (bn so.S 13) (.bool U)).setChan so.D 0 #[] U k k Y)
theorem abD(S)(T):GG S T.size T:=λk x b a=>absurd (IM a) ah
theorem YH.dr0{P}{T}{c}{q}{d}{b}(C:YH P Q At R O 0 d B T c W q)(i:∀x,¬b x)(f):Dr P Q At R O b f d B T c W q:=⟨⟨λx g a j=>C.yd.idle x g (λz=>a (.inl z)) j,C.yd.chans,C.yd.wf,C.yd.inj,C.yd.above,C.yd.lt,λx y e=>⟨(C.yd.mem x y e).1.imp .inl id,(C.yd.mem x y e).2⟩,λx a=>(C.yd.nomem x a).imp id .inl,λx y a e=>⟨λz=>a (.inl z),.inl (by rw[e];simp)⟩,C.yd.past.loosen λg h=>⟨h.1,.inl h.2⟩,C.yd.keep,C.yd.places,C.yd.fresh⟩,C.deaf,C.wrote,λx _ _ a=>absurd a (i x)⟩
end
structure MC(s:eC)(so:dg)(fr:aA):Prop where ex:∃N bD w' jC T' q' eT W0,iz ak N s.m s.T=(.next (crowd bD w' jC),T')/\bD.size=s.gs.size/\bD[0]?=Z (G fr s.cs)/\fg ak s.St s.At s.Shun eT 0 s.B T' bD w' q'/\MB s.W so W0/\se so.S W0 (cS 0 0) (jJ 0) w'/\(∀k∈s.ws,k.S=so.S->eT k.g=I)/\(∀x,(∀k∈s.ws,k.S=so.S->k.g≠x)->eT x=s.ao x)/\∀x,eT x=I\/eT x=s.ao x
section
variable {s:eC}{so:dg}{g:Nat->ag}{l:ae ag}{k:ae aJ}{V:ae cz}{X:dQ}
theorem aed(j:X=.normal\/X=.deferred){m}{T}(S:∃N,iz ak N s.m s.T=(.next m,T)){a}{c b}{dd}(rF:c=b.at dd)(E:MB s.W so b)
  (H:Mg ak s.St s.At s.Shun so.S s.B (Hc 30 (bI 25 (ov (dc g (ptr so.S 0)) (B3 so)) l) 3 D6 [] k V X I s.cs) a c s.gs.size m T)
  (J:∀k∈s.ws,k.S=so.S->a k.g=I)(L:∀x,(∀k∈s.ws,k.S=so.S->k.g≠x)->a x=s.ao x)(P:∀x,a x=I\/a x=s.ao x):MC s so (lI (ov (dc g (ptr so.S 0)) (zi so)) l k V X):=by
 obtain⟨N,bD,w',jC,T',q',p,q,r,t,u⟩:=H;obtain⟨e,tT⟩:=S;subst rF;have h:aN ak 1 (Hc 30 (bI 25 (ov (dc g (ptr so.S 0)) (B3 so)) l) 3 D6 [] k V X I s.cs)=G (lI (ov (dc g (ptr so.S 0)) (zi so)) l k V X) s.cs:=atd g l k _ _ j ..;have d:=(dI.begin (sl:=jC) t r).quiet 1 h;obtain⟨f,jz,w2,jv,i,q2,d2,a2,v,y,z,A,rfl,C,D⟩:=d;subst C;exact⟨⟨e+N+f,jz,w2,jv,i,q2,a,b,kK (kK tT p) v,y.trans q,z,A.xX,E,by
  obtain⟨d5,rfl⟩:=u;obtain⟨o,rfl⟩:=D;exact⟨o,F⟩,J,L,P⟩⟩
theorem ayq(b:Base s)(h0:s.h=0)(hj:s.dN=I)(i:so∈s.ss)(f:so.st=U)(j:X=.normal\/X=.deferred)(y:s.fr=lI (dc g (ptr so.S 0)) l (.code pq::k) V X):MC s so (lI (ov (dc g (ptr so.S 0)) (zi so)) l k V X):=by
 have C:=b.core;rw[hj]at C;have L:=C.ft;have c:=L.s _ i;have t:so.S<s.B:=by
  have h1:=wq c.sh.2;have h2:=C.low;omega
 have S:=c.at C.rel c.stop;obtain⟨m0,T0,hm,H,_⟩:=b.begin (by rw[y];exact acr g l k _ _ j .. );rw[y]at H;have v:=H.read (C.qQ ah ah) t S (Cp (acs g l k _ _ j .. ));rw[f]at v;obtain⟨N,gs,w,sl,x,q,d,a,f1,f2,z,o,f5,f6,m,f7⟩:=v;subst f5 f6 f7;rw[h0]at z o;have E:=c.at C.rel c.cnt;rw[f]at E;have A:eY (s.W.at m) (dA so.S) (cS 0 0):=by rw[<-VR];exact E.cat.at _
 have D:eY (s.W.at m) (dB so.S) (jJ 0):=(c.at C.rel c.qW).cat.at _;obtain⟨kD,p⟩:=c.real;rw[f]at p;have vH:so.D<s.B:=by have:=dD p;have:=C.low;omega
 have tU:=o.xX.past.apart;have nW:=(C.mO _).2 ⟨so,i,.inl F⟩;have pb:=(C.mO _).2 ⟨so,i,.inr F⟩;obtain⟨n,hn⟩:=zA 9 _ (by rw[ath g l k _ _ j .. ];exact aeL (Shun:=s.Shun) (tmps:=bI 25 (ov (dc g (ptr so.S 0)) (B3 ⟨so.S,so.D,so.n,U⟩)) l) (ds:=V) (cs:=s.cs) t);have r:=p;have G:kL ak s.St s.At s.Shun so.S so.D s.B (Hc 30 (bI 25 (ov (dc g (ptr so.S 0)) (B3 ⟨so.S,so.D,so.n,U⟩)) l) 3 D6 [] k V X I s.cs) s.ao (s.W.at m) (λ_=>False) x.size [] [] I 0 0 11 0 s.ao x gs (s.W.at m) (upd q 0 n):=by
  refine⟨(o.dr0 ba _).q0 n,by simp,by simp,⟨_,z,?_⟩,by simp,by simp,by simp,by simp,by simp,aey A D,C.Rp tU i,abD _ _,dt _,by simp,λ_ h=>h.elim,λ_ h=>h.elim⟩;exact .a 9 ba hn
 have u:=drain A D r vH t nW pb _ _ _ _ _ 0 0 _ 0 _ _ _ _ _ sl F F G;rw[f2]at u;obtain⟨P,tT⟩:=hm;have J:∀k∈s.ws,k.S=so.S->s.ao k.g=I:=λk hk e=>C.gone k hk _ i e.symm f;have T:so=⟨so.S,so.D,so.n,U⟩:=by cases so;cases f;rfl
 rw[<-T]at u;exact aed j ⟨P+N,kK tT f1⟩ F (.inl ⟨f,F⟩) u J (λ_ _=>rfl) λ_=>.inr F
theorem ayo(b:Base s)(h0:s.h=0)(hj:s.dN=I)(E:so∈s.ss)(aF:so.st=Y)(u:X=.normal\/X=.deferred)(P:s.fr=lI (dc g (ptr so.S 0)) l (.code pq::k) V X):MC s so (lI (ov (dc g (ptr so.S 0)) (zi so)) l k V X):=by
 have C:=b.core;rw[hj]at C;have L:=C.ft;have m:=L.s _ E;have D:so.S<s.B:=by
  have h1:=wq m.sh.2;have h2:=C.low;omega
 have dM:eQ s.W (bn so.S 13) (.bool Y) fM:=by rw[<-aF];exact m.at C.rel m.stop
 obtain⟨m0,T0,⟨N0,tT⟩,H,_⟩:=b.begin (by rw[P];exact acr g l k _ _ u _ _);rw[P]at H;have H1:=H.read (C.qQ ah ah) D dM (Cp (acs g l k _ _ u _ _ _));have γ:jm ak s.St s.At s.Shun s.ao s.h s.B s.gs.size (bn so.S 13) s.W m0 T0 0 (.bool Y) (gZ ak fM (.bool Y) (aN ak 1 (G (lI (dc g (ptr so.S 0)) l (.code pq::k) V X) s.cs))):=by
  show dI ak s.St s.At s.Shun s.ao s.h s.B s.gs.size (s.W.setCell (bn so.S 13) (.bool Y)) m0 T0 0 (·=_);rw[xQ dM.cell];exact H1
 have H2:dI ak s.St s.At s.Shun s.ao s.h s.B s.gs.size (s.W.setCell (bn so.S 13) (.bool U)) m0 T0 0 (·=gZ ak fM (.bool Y) (gZ ak fM (.bool Y) (aN ak 1 (G (lI (dc g (ptr so.S 0)) l (.code pq::k) V X) s.cs)))):=jm.stage γ dM (C.ajr) F (atf g l k _ _ u _ _) (by simp[eN]) (by simp only[dm,bM,gV,or_false];rintro e rfl;exact⟨F,.inr (C.qQ ah ah),D⟩) (atb g l k _ _ u _ _);have δ:eQ (s.W.setCell (bn so.S 13) (.bool U)) (bn so.S 10) (ay so.D) fM:=tf (m.at C.rel m.done) (by simp[]) F;have H3:=H2.read (C.qQ ah ah) D δ (Cp (atc g l k _ _ u _ _ _));rw[ata g l k _ _ u _ _ _]at H3;obtain⟨N,gs,w,sl,T2,q,d,a,f1,f2,f3,f4,f5,f6,dd,f7⟩:=H3;subst f5 f6 f7;rw[h0]at f3 f4;obtain⟨N1,m1,T1,m6,d1,jV,q1,p1,p2,p3,p4,p5,_⟩:=f4.xX.ready _ _ _ _ q sl F _ f3 F;obtain⟨t,hD⟩:=m.real;rw[aF]at hD;have ε:=dM.cell;have Nz:(((s.W.setCell (bn so.S 13) (.bool U)).at dd).at d1).heap[so.D]?=Z (.chan 0 #[] Y t t Y):=by
  show(s.W.setCell (bn so.S 13) (.bool U)).heap[so.D]?=_;rw[Aa ε hD];exact hD
 have vH:so.D<s.B:=by have:=dD hD;have:=C.low;omega
 have gX:=ate g l k V _ u s.cs so.S _ Nz;have aL:=wQ (sl:=jV) p4 gX;have tU:=p5.past.apart;have bx:=p5.close (cw:=λx=>x∈qy s.ws so.S) (Inb':=λx=>if x∈qy s.ws so.S then(s.ao x).map oneOf else s.ao x) p4 (ati g l k _ _ u _ _ _) (a':=G (vC g l so.S so.D [] k V X) s.cs) F Nz vH (λg D=>by obtain⟨_,a,e,_⟩:=C.rN g _ D;cases e) (λD=>by obtain⟨_,_,e⟩:=(C.mO _).1 D;rcases e with e|e<;>cases e)
  (λx hx=>⟨if_neg hx,λy hy=>ahm C E hx hy⟩) (λj o=>by
    obtain⟨A,f,J,p,P,e4,T,e5⟩:=XD C E aF o;refine⟨by rw[<-p];exact(C.g0 _ f).1,wY A T,oneOf (wY A T),e5,by simp_all,F,F,F,F,Seat.one_wf _ _ _ _,Seat.one_has.2 F,λc hc=>?_,1,.agg #[],by rw[<-P];rfl⟩;have hc:=Seat.one_has.1 hc;have hc:=hc;subst hc;exact⟨(A0 _ _).2 (.inl F),by rw[<-P];exact e4⟩)
 generalize rF:(((s.W.setCell (bn so.S 13) (.bool U)).at dd).at d1).setChan so.D 0 #[] U t t Y=w0 at bx aL;generalize ι:(m6.map (eP ak (G (vC g l so.S so.D [4] k V X) s.cs) (G (vC g l so.S so.D [] k V X) s.cs) w0)).setIfInBounds 0 (G (vC g l so.S so.D [] k V X) s.cs)=jz at bx aL;obtain⟨Am,iG,bJ,θ⟩:=bx;have JV:∀{i}{v},i≠13->eQ s.W (bn so.S i) v fM->eY w0 (bn so.S i) v:=λ{i v}hi h=>by
  have h1:=tf (x:=.bool U) h (a:=bn so.S 13) (by grind) F;have h2:=GY (cap:=0) (s:=t) (r:=t) (buf:=#[]) (cl:=U) (tm:=Y) ((h1.at ⟨dd,F⟩).at ⟨d1,F⟩) ⟨_,Nz,F⟩;rw[rF]at h2;exact h2.cat
 have hn:=ahk L E;have uQ:=m.at C.rel m.cnt;rw[aF]at uQ;have hA:eY w0 (dA so.S) (cS so.n 0):=by rw[<-VR];exact JV ah uQ
 have hB:=JV ah (m.at C.rel m.qW);have Nw:w0.heap[so.D]?=Z (.chan 0 #[] U t t Y):=by rw[<-rF];exact oQ _ Nz _ _ _ _ _ _
 have nW:=(C.mO _).2 ⟨so,E,.inl F⟩;have pb:s.Shun (.cell (dB so.S)):=(C.mO _).2 ⟨so,E,.inr F⟩;obtain⟨n,Og⟩:=zA 6 _ (by rw[atg g l k _ _ u _ _ _ _];exact aeL (Shun:=s.Shun) (S:=so.S) (B:=s.B) (fn:=30) (tmps:=bI 25 (ov (dc g (ptr so.S 0)) (B3 ⟨so.S,so.D,so.n,Y⟩)) l) (i:=3) (ops:=D6) (l:=[]) (td:=k) (ds:=V) (kind:=X) (ro:=I) (cs:=s.cs) D);have ζ:kL ak s.St s.At s.Shun so.S so.D s.B (Hc 30 (bI 25 (ov (dc g (ptr so.S 0)) (B3 ⟨so.S,so.D,so.n,Y⟩)) l) 3 D6 [] k V X I s.cs) (λx=>if x∈qy s.ws so.S then I else s.ao x) w0 (λx=>x∈qy s.ws so.S) (T1++dk 0 (G (vC g l so.S so.D [4] k V X) s.cs).frame.fn (G (vC g l so.S so.D [4] k V X) s.cs).frame.place (closeEvents so.D)).size (qy s.ws so.S) [] I 0 0 11 0 (λx=>if x∈qy s.ws so.S then(s.ao x).map oneOf else s.ao x) (T1++dk 0 (G (vC g l so.S so.D [4] k V X) s.cs).frame.fn (G (vC g l so.S so.D [4] k V X) s.cs).frame.place (closeEvents so.D)) jz w0 (upd (λx=>if x∈qy s.ws so.S then q1 x-1 else q1 x) 0 n):=by
  refine⟨(Am.bz (Bs:=λx=>x∈qy s.ws so.S\/x∈([]:ae Nat)\/I=Z x) λx=>by simp).q0 n,λj o=>?_,by simp,⟨_,iG,?_⟩,by simpa using ahl L,by simp,λj o=>?_,?_,λx=>?_,?_,?_,abD _ _,dt _,by simp,λj o=>⟨?_,λh=>absurd o h⟩,λj h1 h2=>absurd h1 h2⟩
  ·obtain⟨A,f,J,p,P,e4,T,e5⟩:=XD C E aF o
   obtain⟨gj,q2,q3,q4⟩:=θ j o _ e5;have nT:j≠0:=by rw[<-p];exact(C.g0 _ f).1
   obtain⟨s',kk,z,r1,r2,r3,r4,r5⟩:=apG (y:=oneOf (wY A T)) (g:=gj) (n:=q1 j-1) (B0:=T) _ e4 F F F F q3 q4;refine⟨gj,q2,oneOf (wY A T),s',kk,z,by simp_all,q3,r1,by rw[<-P];exact r2,λc hc az=>r3 c hc (by rw[P];exact az),?_,by rw[<-J];exact r5⟩;rw[upd_ne _ _ nT,if_pos o];exact r4
  ·rw[upd_same]
   exact .a 9 (by rw[hn];simpa using m.le) Og
  ·have o:j∈qy s.ws so.S:=by simpa using o
   obtain⟨A,f,J,p⟩:=G2.1 o;refine⟨by rw[<-p];exact(C.g0 _ f).1,?_,?_⟩
   ·rw[<-p,<-J];exact C.zX _ f _ (.inl F)
   ·rw[<-p,<-J];exact C.zX _ f _ (.inr F)
  ·rw[hn];simpa using m.le
  ·simp_all
  ·have β:(qy s.ws so.S).length+([]:ae Nat).length=so.n:=by simp[hn]
   rw[β];exact aey hA hB
  ·have G0:=C.Rp tU E
   refine⟨G0.out,λb hb i y hi=>?_⟩;by_cases hx:i∈qy s.ws so.S
   ·simp only[if_pos hx]at hi
    obtain⟨y0,h1,rfl⟩:=fX.1 hi;exact G0.keep b hb i y0 h1
   ·simp only[if_neg hx]at hi
    exact G0.keep b hb i y hi
  ·obtain⟨A,f,J,p⟩:=G2.1 o
   rw[<-p];exact(C.g0 _ f).1
 have kA:=drain hA hB Nw vH D nW pb _ _ _ _ _ 0 0 _ 0 _ _ _ _ _ jV F F ζ;rw[bJ,p3,f2]at kA;have e5:so=⟨so.S,so.D,so.n,Y⟩:=by cases so;cases aF;rfl
 rw[<-e5]at kA;have η:w0=((s.W.setCell (bn so.S 13) (.bool U)).setChan so.D 0 #[] U t t Y).at d1:=rF.symm
 exact aed (dd:=d1) u ⟨N0+N+N1+1,runNT_succ_of (kK (kK tT f1) p1) (by rw[p2,aL])⟩ η (.inr ⟨aF,t,hD,F⟩) kA (λA f e=>if_pos (G2.2 ⟨A,f,e,F⟩)) (λx hx=>if_neg λhm=>by obtain⟨A,f,J,p⟩:=G2.1 hm;exact hx _ f J p) λx=>by
                                                                                                            grind
end
end
section
variable {Hid:Loc->Prop}{X:Bool}{T:ae dU}{V:ae dg}{w W W0:ax}{so:dg}
structure afm(Hid:Loc->Prop)(w W W0:ax)(so:dg):Prop where
 UZ:∃k,W0.heap[so.D]?=Z (.chan 0 #[] U k k Y)
 CY:∀(b:Nat)cl j,b≠so.D->W.heap[b]?=Z (.chan 0 #[] cl j j Y)->W0.heap[b]?=Z (.chan 0 #[] cl j j Y)
 rn:∀(b:Nat)c t f,b≠so.S->W.heap[b]?=Z (.cells c t f)->W0.heap[b]?=Z (.cells c t f)
 cnt:∀i v,W.cell? (bn so.S i)=Z v->W0.cell? (bn so.S i)=Z (if i=13 then .bool U else v)
 sh:W0.shape? so.S=W.shape? so.S
 size:W0.heap.size=W.heap.size
 shp:∀b:Nat,W0.shape? b=W.shape? b
 other:∀b:Nat,b≠so.S->b≠so.D->W0.heap[b]?=W.heap[b]?
 rel:∀w',(∀a,w'.cell? a=w.cell? a)->(∃cap buf cl s r tm,w'.heap[so.D]?=Z (.chan cap buf cl s r tm))->Rel (bS ak) Hid w' W->Rel (bS ak) Hid w' W0
theorem half(L:fO Hid X T V w W)(K:Rel (bS ak) Hid w W)(D:so∈V)(h:MB W so W0):afm Hid w W W0 so:=by
 have p:=L.s so D;rcases h with⟨n,rfl⟩|⟨n,k,m,rfl⟩
 ·obtain⟨k,u⟩:=p.real
  rw[n]at u;refine⟨⟨k,u⟩,λ_ _ _ _ h=>h,λ_ _ _ _ _ h=>h,λi v o=>?_,rfl,rfl,λ_=>rfl,λ_ _ _=>rfl,λ_ _ _ h=>h⟩;by_cases e:i=13
  ·subst e
   have:=p.stop;rw[n]at this;rw[this]at o⊢;cases o;rfl
  ·rw[if_neg e];exact o
 ·have d:=p.stop
  rw[n]at d;have y:(W.setCell (bn so.S 13) (.bool U)).heap[so.D]?=Z (.chan 0 #[] Y k k Y):=by rw[Aa d m];exact m
  obtain⟨c,t,f,g,x,R,o⟩:=kQ d;have s:so.D≠so.S:=λe=>by rw[e]at m;have g:W.heap[so.S]?=_:=g;rw[m]at g;cases g
  have oT:∀a:aU,a.block≠so.D->((W.setCell (bn so.S 13) (.bool U)).setChan so.D 0 #[] U k k Y).cell? a=(W.setCell (bn so.S 13) (.bool U)).cell? a:=λa J=>by
   unfold fU;rw[mT _ _ _ _ _ _ _ λe=>J e.symm]
  refine⟨⟨k,oQ _ y _ _ _ _ _ _⟩,λb G j r l=>?_,λb P t' Q r l=>?_,λi v A=>?_,?_,?_,λb=>by rw[Vb y,zp d],λb z N=>?_,λw' M q O=>?_⟩
  ·rw[mT _ _ _ _ _ _ _ λe=>r e.symm,Aa d l];exact l
  ·have B:so.D≠b:=λe=>by rw[<-e,m]at l;cases l
   rw[mT _ _ _ _ _ _ _ B,heap_setCell g x,if_neg r];exact l
  ·rw[oT _ λe=>s e.symm,zZ d]
   by_cases e:i=13
   ·subst e;rw[if_pos F,if_pos F]
   ·rw[if_neg (λh=>e (by cases h;rfl)),if_neg e];exact A
  ·have:((W.setCell (bn so.S 13) (.bool U)).setChan so.D 0 #[] U k k Y).shape? so.S=(W.setCell (bn so.S 13) (.bool U)).shape? so.S:=by
    unfold fF;rw[mT _ _ _ _ _ _ _ s]
   rw[this,zp d]
  ·rw[size_setChan,size_setCell]
  ·rw[mT _ _ _ _ _ _ _ λe=>N e.symm,heap_setCell g x,if_neg z]
  ·obtain⟨E,C,G,s',S,tm,q⟩:=q
   have H:=K.m9 _ (p.bN 13 ah ah);exact(O.Pa (by rw[M];exact H.2) d (.bool U)).UY q
theorem fE(L:fO Hid X T V w W)(O:Rel (bS ak) Hid w W)(cX:so∈V)(h:MB W so W0){y:ax}{M:ag}(z:Alike ((w.setChan so.D 2 #[db so.off] Y 0 0 Y).setChan bw 5 #[M] Y 0 0 Y) y):Qr w W y ((W0.setCell (dA so.S) (cS 0 0)).setCell (dB so.S) (jJ 0)) so/\Rel (bS ak) Hid y ((W0.setCell (dA so.S) (cS 0 0)).setCell (dB so.S) (jJ 0))/\((W0.setCell (dA so.S) (cS 0 0)).setCell (dB so.S) (jJ 0)).heap.size=W.heap.size/\(∃a b,y.heap[bw]?=Z (.chan 5 #[M] Y a b Y))/\mU w W y ((W0.setCell (dA so.S) (cS 0 0)).setCell (dB so.S) (jJ 0)):=by
 have J:=L.s so cX;have H:=half L O cX h;obtain⟨sa,sb,A⟩:=J.lone;have hl:=dD A;have p:=H.cnt 11 _ J.cnt;have Y':=H.cnt 12 _ J.qW;rw[if_neg ah]at p Y';have p:W0.cell? (dA so.S)=_:=p;have D:(W0.setCell (dA so.S) (cS 0 0)).cell? (dB so.S)=Z (.int .u32 0):=by
  rw[zZ p,if_neg (by simp[dA,dB])];exact Y'
 obtain⟨ga,gb,d⟩:=L.gate;have P:so.D≠bw:=λe=>by rw[e,d]at A;cases A
 have Zq:(w.setChan so.D 2 #[db so.off] Y 0 0 Y).heap[bw]?=Z (.chan 5 (if X then#[cY V]else#[]) Y ga gb Y):=by rw[mT _ _ _ _ _ _ _ P];exact d
 have C:∀b:Nat,((w.setChan so.D 2 #[db so.off] Y 0 0 Y).setChan bw 5 #[M] Y 0 0 Y).heap[b]?=if b=bw then Z (.chan 5 #[M] Y 0 0 Y)else if b=so.D then Z (.chan 2 #[db so.off] Y 0 0 Y)else w.heap[b]?:=λb=>by
  rw[heap_setChan _ (dD Zq),heap_setChan w hl]
 have cP:∃a b,y.heap[so.D]?=Z (.chan 2 #[db so.off] Y a b Y):=z.np (by rw[C,if_neg P,if_pos F]);have BD:mU w W y ((W0.setCell (dA so.S) (cS 0 0)).setCell (dB so.S) (jJ 0)):=by
  have fD:=J.sh.1;obtain⟨c1,t1,N,g1,s1,_,_⟩:=kQ p;obtain⟨c2,t2,f2,g2,s2,_,_⟩:=kQ D;obtain⟨v,ha,l,g,_⟩:=L.hand;refine⟨λb u h=>?_,λb o=>?_,by rw[z.size,size_setChan,size_setChan];exact dt _,λb _=>by rw[zp D,zp p];exact H.shp b⟩
  ·have h2:((w.setChan so.D 2 #[db so.off] Y 0 0 Y).setChan bw 5 #[M] Y 0 0 Y).heap[b]?=Z (.view ⟨0,0,Z 0⟩ u):=by
    rw[C,if_neg (λe=>by rw[e,d]at h;cases h),if_neg (λe=>by rw[e,A]at h;cases h)];exact h
   exact(z.dead W).v b u h2
  ·have E:∀o,w.heap[b]?=Z o->b≠so.D->(∀c t f,o≠.cells c t f)->((W0.setCell (dA so.S) (cS 0 0)).setCell (dB so.S) (jJ 0)).heap[b]?=W.heap[b]?:=λo h RZ hn=>by
    have Q:b≠so.S:=λe=>by
     unfold fF at fD;rw[<-e,h]at fD;cases o with
     |cells c t f=>exact hn c t f F
     |_=>cases fD
    have n1:b≠(dB so.S).block:=Q;have n2:b≠(dA so.S).block:=Q;rw[heap_setCell g2 s2,if_neg n1,heap_setCell g1 s1,if_neg n2,H.other b Q RZ]
   rcases o with⟨u,h⟩|rfl|rfl
   ·exact E _ h (λe=>by rw[e,A]at h;cases h) λ_ _ _ e=>by cases e
   ·exact E _ d (λe=>P e.symm) λ_ _ _ e=>by cases e
   ·exact E _ g (λe=>by rw[e,A]at g;cases g) λ_ _ _ e=>by cases e
 have R:∀a,y.cell? a=w.cell? a:=λa=>by
  rw[z.cell];unfold fU;rw[C];by_cases e5:a.block=bw
  ·rw[if_pos e5,e5,d]
  ·rw[if_neg e5]
   by_cases e:a.block=so.D
   ·rw[if_pos e,e,A]
   ·rw[if_neg e]
 have r1:Rel (bS ak) Hid y W:=((O.sV A).sV Zq).alike z;have r2:=H.rel y R (by obtain⟨a,b,h⟩:=cP;exact⟨_,_,_,_,_,_,h⟩) r1;have ES:=O.m9 _ (J.bN 11 ah ah);have Rt:=O.m9 _ (J.bN 12 ah ah);have r3:=(r2.Pa (a:=dA so.S) (by rw[R];exact ES.2) p (cS 0 0)).Pa (a:=dB so.S) (by rw[R];exact Rt.2) D (jJ 0);have Zb:∀{b n s r:Nat}{m:af ag}{B tm:Bool},W0.heap[b]?=Z (.chan n m B s r tm)->((W0.setCell (dA so.S) (cS 0 0)).setCell (dB so.S) (jJ 0)).heap[b]?=Z (.chan n m B s r tm):=λ{b n s r m B tm}l=>by
  have K:(W0.setCell (dA so.S) (cS 0 0)).heap[b]?=Z (.chan n m B s r tm):=by rw[Aa p l];exact l
  rw[Aa D K];exact K
 refine⟨⟨cP,λb n m B s r tm G l g=>?_,λb n m B s r tm G l g=>?_,λb c t f g=>?_,?_,λb B j l g=>Zb (H.CY b B j l g),λb c t f l g=>?_,λi v hv=>?_,λx hx=>?_⟩,r3,by rw[size_setCell,size_setCell,H.size],z.np (by rw[C,if_pos F]),BD⟩
 ·exact z.np (by rw[C,if_neg G,if_neg l];exact g)
 ·obtain⟨s',r',K⟩:=z.chan g
  rw[C,if_neg G,if_neg l]at K;exact⟨s',r',K⟩
 ·have l:b≠so.D:=λe=>by rw[e,A]at g;cases g
  have G:b≠bw:=λe=>by rw[e,d]at g;cases g
  rcases z.obj b with e|⟨_,_,_,_,_,_,_,_,N,_⟩
  ·rw[e,C,if_neg G,if_neg l];exact g
  ·rw[C,if_neg G,if_neg l,g]at N;cases N
 ·obtain⟨k,hk⟩:=H.UZ
  exact⟨k,Zb hk⟩
 ·have h0:=H.rn b c t f l g
  obtain⟨c1,t1,N,g1,s1,_,_⟩:=kQ p;obtain⟨c2,t2,f2,g2,s2,_,_⟩:=kQ D;have n1:b≠(dB so.S).block:=l;have n2:b≠(dA so.S).block:=l;rw[heap_setCell g2 s2,if_neg n1,heap_setCell g1 s1,if_neg n2];exact h0
 ·have h0:=H.cnt i v hv
  rw[zZ D,zZ p];by_cases S:i=12
  ·subst S
   have q:bn so.S 12=dB so.S:=rfl;rw[if_pos q,if_neg ah,if_pos rfl];rfl
  ·rw[if_neg (λh=>S (by cases h;rfl))]
   by_cases e2:i=11
   ·subst e2
    have q:bn so.S 11=dA so.S:=rfl;rw[if_pos q,if_pos rfl,VR]
   ·rw[if_neg (λh=>e2 (by cases h;rfl)),h0,if_neg e2,if_neg S]
 ·rw[zp D,zp p,H.sh];exact hx
end
theorem apN{R:ag->ax->Prop}(i:Inv s)(E:Good LL R s.cu)(r:ky s.E s.fr' s.cs' s.fr s.cs){t:af ag}{c:ae cz}{a:dQ}(bJ:25<=t.size)
  (o:s.fr'=⟨30,t,[.code Cj],c,.run,a,I⟩)(e:s.fr=⟨30,t,[.code pq],c,.run,a,I⟩):
  ∃f k n b,Inv f/\Real s f/\0<k/\ku LL s.cu f.cu k n b:=by
 have b:=i.base;have C:=b.core;have L:=C.ft;have az:=ky.ne r;have eO:Below ak LL s.cs':=r.belows i.yD;obtain⟨tt,_,_,u,_⟩:=r.fr;rw[e]at u;have z:a=.normal\/a=.deferred:=u.kind.imp id λh=>h.1;have fH:∀d∈c,lV ak d:=u.defers;generalize xm:(λi=>t.getD (i+1) aB)=g;generalize P:t.toList.drop 25=j;generalize hp:t.getD 0 aB=p;have ht:t=bI 25 (dc g p) j:=by rw[<-xm,<-P,<-hp];exact It t 25 bJ
 generalize dV:([]:ae aJ)=k at o e;rw[ht]at o e;have qK:s.cu=⟨lI (dc g p) j (.code Cj::k) c a,s.cs',s.w⟩:=by unfold eC.cu;rw[o]
 rw[qK]at E⊢;obtain⟨O,so,m,Q,n,w',hn,hA,hL⟩:=apv L C.rel eO az z fH E;rw[Q]at e;have l:s.dN=I:=Option.isNone_iff_eq_none.1 O;have B:=i.nH.h0 l;rw[l]at C L;have kA:MC s so (lI (ov (dc g (ptr so.S 0)) (zi so)) j k c a):=by
  cases aF:so.st with
  |true=>exact ayq b B l m aF z e
  |false=>exact ayo b B l m aF z e
 obtain⟨N,bD,W',jC,T',q',eT,W0,f1,f2,f3,f4,f5,⟨A,f6⟩,f7,f8,f9⟩:=kA.ex;obtain⟨hE,pR,hz,uT,M⟩:=fE L C.rel m f5 hA;have K:=C.stop m hE uT pR (by rw[hz];exact C.low) f7 f8 f9;have v:=K.re A;rw[<-f2]at v;have D:W'=((W0.setCell (dA so.S) (cS 0 0)).setCell (dB so.S) (jJ 0)).at A:=f6;rw[<-D]at v;obtain⟨f,hb,⟨S,vI⟩,G,H,z3,z4,z5,z6,_,_,⟨τ,d2,J⟩,_,dW,eW⟩:=settle (sl:=jC) f4 f3 v (lI (ov (dc g (ptr so.S 0)) (zi so)) j k c a) s.cs';have Td:tI f:=by
  refine i.nH.uy (by rw[o]) (z5.trans B.symm) (z6.trans l.symm) ?_;rw[G,H,z3,z4];refine r.bX ?_ (by rw[e]) (by rw[e]);subst dV;exact⟨_,F,.nil,u,.inl F⟩
 have bG:f.cu=⟨lI (ov (dc g (ptr so.S 0)) (zi so)) j k c a,s.cs',re (re w' ((W0.setCell (dA so.S) (cS 0 0)).setCell (dB so.S) (jJ 0)).tape A) τ d2⟩:=by unfold eC.cu;rw[G,H,J]
 obtain⟨q,y,x,cK,RI⟩:∃q y x,0<q/\ku LL ⟨lI (dc g p) j (.code Cj::k) c a,s.cs',s.w⟩ f.cu q y x:=by
  rw[bG];exact⟨n,0,λ_ _=>0,hn,hL.wy⟩
 exact⟨f,q,y,x,⟨hb,Td⟩,⟨⟨N+S,kK f1 vI⟩,by rw[eW,J,D];exact(((M.at _).at _).re _ _).re _ _⟩,cK,RI⟩
theorem OU{fn:cH}{t:af ag}{W:af bq}{i:Nat}{is:ae Nat}{k:ae aJ}{ds:ae cz}{X:dQ}{cs:ae aA}(b:X=.normal\/X=.deferred){o:bq}(c:W[i]?=Z o)(a:o.guard=I):eV P (G (aX fn t W (i::is) k ds X) cs)=Z (cN (bR ⟨fn,t,[],ds,.run,X,I⟩) o):=by
 have d:wO o (yielded W t)=U:=by simp[wO,a]
 rcases b with rfl|rfl<;>simp[eV,G,aX,c,d]
theorem O8{fn:cH}{t:af ag}{W:af bq}{i:Nat}{is:ae Nat}{k:ae aJ}{ds:ae cz}{X:dQ}{cs:ae aA}{o:bq}(b:W[i]?=Z o)(a:o.dst=Z d)(v:ag):mj P (G (aX fn t W (i::is) k ds X) cs) (.value v)=Z (G (aX fn (t.setIfInBounds d v) W is k ds X) cs):=by
 simp[mj,CQ,G,aX,jw,b,a]
section
variable {R:ag->ax->Prop}{fn:cH}{t:af ag}{W:af bq}{i:Nat}{is:ae Nat}{k:ae aJ}{ds:ae cz}{X:dQ}{cs:ae aA}{w:ax}
theorem U2(f:X=.normal\/X=.deferred)(g:cs≠[]){o:bq}(b:W[i]?=Z o)(c:o.guard=I)(j:o.dst=Z d){v:ag}{a:Obj}(p:vV LL w.heap.size (cN (bR ⟨fn,t,[],ds,.run,X,I⟩) o)=Z (.value v,a))(l:Good LL R ⟨aX fn t W (i::is) k ds X,cs,w⟩):fA LL ⟨aX fn t W (i::is) k ds X,cs,w⟩ ⟨aX fn (t.setIfInBounds d v) W is k ds X,cs,bW w a⟩ 1/\Good LL R ⟨aX fn (t.setIfInBounds d v) W is k ds X,cs,bW w a⟩:=by
 have L:=DO (L:=LL) (w:=w) (w1:=bW w a) (OU (fn:=fn) (t:=t) (is:=is) (k:=k) (ds:=ds) (cs:=cs) f b c) (O8 b j v) λτ e=>by
  rw[<-ya _ _ _ #[],Ul p (re w τ e) #[] F];rfl
 exact⟨L,l.mL L g⟩
theorem acR(c:X=.normal\/X=.deferred)(f:cs≠[]){o:bq}(a:W[i]?=Z o)(b:o.guard=I)(g:o.dst=Z d){v:ag}(l:fR LL (cN (bR ⟨fn,t,[],ds,.run,X,I⟩) o)=Z (.value v))(j:Good LL R ⟨aX fn t W (i::is) k ds X,cs,w⟩):fA LL ⟨aX fn t W (i::is) k ds X,cs,w⟩ ⟨aX fn (t.setIfInBounds d v) W is k ds X,cs,w⟩ 1/\Good LL R ⟨aX fn (t.setIfInBounds d v) W is k ds X,cs,w⟩:=by
 have L:=DO (L:=LL) (w:=w) (w1:=w) (OU (fn:=fn) (t:=t) (is:=is) (k:=k) (ds:=ds) (cs:=cs) c a b) (O8 a g v) λτ e=>by
  rw[<-ya _ _ _ #[],Ch l (re w τ e) #[]]
 exact⟨L,j.mL L f⟩
end
section
variable {O At:Nat->Loc->Prop}{V:Loc->Prop}{Q:Nat->aj YS}{h B n:Nat}{T:ed}{m:fT}{S:ax}
variable {fn:cH}{t:af ag}{W:af bq}{i:Nat}{is:ae Nat}{k:ae aJ}{ds:ae cz}{X:dQ}{cs:ae aA}
theorem Qf(l:X=.normal\/X=.deferred){o:bq}(g:W[i]?=Z o)(j:o.guard=I)(s:o.dst=Z d){v:ag}{a:Obj}(z:vV ak S.heap.size (cN (bR ⟨fn,t,[],ds,.run,X,I⟩) o)=Z (.value v,a))
  (x:∀i y,Q i=Z y->∀w o,y.K w->y.K (bW w o))(p:∀i y c,Q i=Z y->y.s.has c->c<S.heap.size)
  (H:dI ak O At V Q h B n S m T 0 (·=G (aX fn t W (i::is) k ds X) cs)):dI ak O At V Q h B n (bW S a) m T 0 (·=G (aX fn (t.setIfInBounds d v) W is k ds X) cs):=by
 refine H.act F (es:=#[]) (λw f=>⟨bW w a,?_,W7 f a,λi y c b r=>?_,λi y b q=>x i y b w a q,λe u=>by simp at u⟩) F
 ·have A:w.heap.size=S.heap.size:=by rw[GR f]
  have:=(AO (main:=h==0) (OU (P:=ak) (fn:=fn) (t:=t) (is:=is) (k:=k) (ds:=ds) (cs:=cs) l g j) (O8 g s v) (Ul z w #[] A)).2;rw[this,seen_none]
 ·have aC:=p i y c b r
  show(w.heap.push a)[c]?=w.heap[c]?;rw[Gn,if_neg (by rw[GR f];omega)]
theorem Wx(f:X=.normal\/X=.deferred){o:bq}(a:W[i]?=Z o)(b:o.guard=I)(j:o.dst=Z d){v:ag}(q:fR ak (cN (bR ⟨fn,t,[],ds,.run,X,I⟩) o)=Z (.value v))(H:dI ak O At V Q h B n S m T 0 (·=G (aX fn t W (i::is) k ds X) cs)):dI ak O At V Q h B n S m T 0 (·=G (aX fn (t.setIfInBounds d v) W is k ds X) cs):=by
 refine H.act F (es:=#[]) (λw r=>⟨w,?_,r,λi y c p s=>rfl,λi y p g=>g,λe l=>by simp at l⟩) F;have:=(AO (main:=h==0) (OU (P:=ak) (fn:=fn) (t:=t) (is:=is) (k:=k) (ds:=ds) (cs:=cs) f a b) (O8 a j v) (Ch q w #[])).2;rw[this,seen_none]
end
theorem Base.ah7(b:Base s){c:Nat}(x:s.B<=c){g':aH}{dd:Nat}(o:aE ak (s.h==0) (G s.fr s.cs) s.W=.go g' (s.W.at dd) #[]):∃m T,(∃N,iz ak N s.m s.T=(.next m,T))/\dI ak s.St s.At s.Shun s.ao s.h c s.gs.size s.W m T 0 (·=g'):=by
 have C:=(b.hold.mono x).Cs;have z:DZ s.St s.ao s.Shun c s.W (s.W.at dd) #[]:=⟨λ_ _ _ _ _=>rfl,λi y e D=>(C.yd.wf i y e).2.2.1 _ _ D,λe A=>by simp at A⟩;obtain⟨f,u,v⟩:=C.own (a':=g') b.top z;have j:=wQ (P:=ak) (sl:=s.sl) b.top o;have p:dk s.h (G s.fr s.cs).frame.fn (G s.fr s.cs).frame.place #[]=#[]:=by rfl
 rw[p]at j f;have E:ia 0 #[]=0:=rfl;rw[E]at f;have h:=dI.begin (sl:=s.sl) f u;rw[v]at h;obtain⟨N,r,w,g,l,q,d,a,H,J,K,L,M,r6,r7⟩:=h;refine⟨_,_,⟨1,?_⟩,N,r,w,g,l,q,d,a,H,J,K,L,M,r6,atRel_trans _ _ _ ⟨dd,F⟩ r7⟩;simp only[iz,b.bX,j]
theorem QL(d:BinOp)(h:d=.lss\/d=.gtr)(x:ag)(c:Int)(a b:iP):(∃v,x=ai v/\∀w,(do lF d 3 a b x (.int .i64 c);binOp d 3 x (.int .i64 c)).run LL w=.ok (.bool (if d=.lss then decide (v<c)else decide (c<v))) w)\/∀w,∃y,(do lF d 3 a b x (.int .i64 c);binOp d 3 x (.int .i64 c)).run LL w=.halt y w:=by
 have e:∀w,(do lF d 3 a b x (.int .i64 c);binOp d 3 x (.int .i64 c)).run LL w=(binOp d 3 x (.int .i64 c)).run LL w:=λw=>by
  rcases h with rfl|rfl<;>rfl
 cases x with
 |int k v=>
  cases k with
  |i64=>
   refine .inl ⟨v,F,λw=>?_⟩;rw[e];rcases h with rfl|rfl
   ·rfl
   ·rfl
  |_=>
   refine .inr λw=>?_;rw[e];rcases h with rfl|rfl<;>exact⟨_,rfl⟩
 |pointer o=>
  refine .inr λw=>?_;rw[e];cases o<;>rcases h with rfl|rfl<;>exact⟨_,rfl⟩
 |_=>
  refine .inr λw=>?_;rw[e];rcases h with rfl|rfl<;>exact⟨_,rfl⟩
def K9:ae Nat->Bool
 |[]=>U
 |i::r=>decide (i<5)&&!(i==1&&r.contains 0)&&!r.contains i&&K9 r
def abO(o:ae Nat):Bool:=K9 (o.take 5)&&o.drop 5==[5,6,7]&&[0,1,2,3,4].all (o.take 5).contains
theorem arq:(zT .any lO lO.size (qa lO.size Y)).all abO=U:=al
theorem arj(t):∃l,tp U lO t=l++[5,6,7]/\K9 l=U/\∀i,i<5->i∈l:=by
 have h:=Ei.1 arq _ (Ps _ t);generalize tp U lO t=o at h;simp only[abO,gT,beq_iff_eq]at h;obtain⟨⟨a,b⟩,c⟩:=h;refine⟨o.take 5,?_,a,λi d=>?_⟩
 ·rw[<-b,List.take_append_drop]
 ·grind
theorem auG(t):tp U mn t=tp U lO t:=al
noncomputable abbrev mN(i:Nat):bq:=lO.getD i default
noncomputable abbrev ON(i:Nat):bq:=mn.getD i default
section
variable (t:af ag)(W:ae cz)(X:dQ)(N:Nat)
theorem akc:lO[0]?=Z (mN 0):=al
theorem akd:lO[1]?=Z (mN 1):=al
theorem ake:lO[2]?=Z (mN 2):=al
theorem akf:lO[3]?=Z (mN 3):=al
theorem akg:lO[4]?=Z (mN 4):=al
theorem Nm:(mN 0).guard=I/\(mN 0).dst=Z 32:=⟨by kernel_rfl,by kernel_rfl⟩
theorem Nn:(mN 1).guard=I/\(mN 1).dst=Z 33:=⟨by kernel_rfl,by kernel_rfl⟩
theorem No:(mN 2).guard=I/\(mN 2).dst=Z 34:=⟨by kernel_rfl,by kernel_rfl⟩
theorem Np:(mN 3).guard=I/\(mN 3).dst=Z 35:=⟨by kernel_rfl,by kernel_rfl⟩
theorem YE:(mN 4).guard=I/\(mN 4).dst=Z 36:=⟨by kernel_rfl,by kernel_rfl⟩
theorem aj7:mn[0]?=Z (mN 0):=al
theorem aj8:mn[1]?=Z (mN 1):=al
theorem aj9:mn[2]?=Z (mN 2):=al
theorem aka:mn[3]?=Z (mN 3):=al
theorem akb:mn[4]?=Z (ON 4):=al
theorem YD:(ON 4).guard=I/\(ON 4).dst=Z 36:=⟨by kernel_rfl,by kernel_rfl⟩
theorem XU(P):fR P (cN (bR ⟨38,t,[],W,.run,X,I⟩) (mN 0))=Z (.value (t.getD 0 aB)):=al
theorem XW(P):fR P (cN (bR ⟨38,t,[],W,.run,X,I⟩) (mN 3))=Z (.value (t.getD 2 aB)):=al
def Oz(v:ag):Sem Next:=do pure (.value (<-Instr.makeSlice 95 v v))
theorem XV:cN (bR ⟨38,t,[],W,.run,X,I⟩) (mN 1)=Oz (t.getD 32 aB):=al
theorem aia:vV ak N (cN (bR ⟨38,t,[],W,.run,X,I⟩) (mN 2))=Z (.value (.map (Z N)),.map #[] 0):=al
theorem ah8:vV LL N (cN (bR ⟨38,t,[],W,.run,X,I⟩) (mN 2))=Z (.value (.map (Z N)),.map #[] 0):=al
theorem aib:vV ak N (cN (bR ⟨38,t,[],W,.run,X,I⟩) (mN 4))=Z (.value (ay N),.chan 0 #[] Y 0 0 Y):=al
theorem ah9:vV LL N (cN (bR ⟨38,t,[],W,.run,X,I⟩) (ON 4))=Z (.value (ay N),.chan 2 #[] Y 0 0 Y):=al
noncomputable def OO(n:Nat):Obj:=match vV ak 0 (Oz (ai n))with
 |some r=>r.2
 |none=>default
def ab6:Obj->Bool
 |.cells _ _ (0,0)=>U
 |_=>Y
theorem arX{o}(h:ab6 o=U):∃c t,o=.cells c t:=by
 unfold ab6 at h;split at h
 ·exact⟨_,_,F⟩
 ·cases h
def F'(b n:Nat):ag:=.slice (Z ⟨b,0,I⟩) n n
theorem abi{n:Nat}(a:0<n)(b:n<9):vV ak N (Oz (ai n))=Z (.value (F' N n),OO n)/\vV LL N (Oz (ai n))=Z (.value (F' N n),OO n)/\∃c t,OO n=.cells c t:=by
 have:n=1\/n=2\/n=3\/n=4\/n=5\/n=6\/n=7\/n=8:=by omega
 rcases this with rfl|rfl|rfl|rfl|rfl|rfl|rfl|rfl<;>exact⟨by kernel_rfl,by kernel_rfl,arX al⟩
end
end
end Go.Proofs.YtgahemdblfapeaaGreatDoor
