/- Helper lemmas, part 1: what the steps of the program do in the model; each holds under its own hypotheses. -/
import Derived.ChangeArms
import Derived.ChangeBook
import Derived.ChangeOld
import Derived.ChangeSame
import Derived.ChangeShapes
import Derived.ChangeStays
import Derived.Conc.Events
import Derived.Conc.HoldsTime
import Derived.Conc.Listed
import Derived.Conc.LoneCalls
import Derived.Conc.Own
import Derived.Conc.Pipeline3
import Derived.Conc.Token
import Derived.Conc.TokenWalk
import Derived.Conc.WgGenN3
import Derived.Control
import Derived.Deep.AppendLies
import Derived.Deep.Frames
import Derived.Defers
import Derived.Handed
import Derived.KernelRfl
import Derived.LaidEql
import Derived.LaidHandle
import Derived.LaidLaws
import Derived.Laws.MakeOwn
import Derived.Laws.Sem
import Derived.Laws.StructEq
import Derived.Laws.World
import Derived.Orders
import Derived.OrdersHeld
import Derived.RangeFuncRecord
import Derived.RunNT
import Derived.SevenTiedAt
import Derived.Shelf.SortM.Plain
import Derived.Shelf.SortM.SortNone
import Derived.SizedLaws
import Derived.Sort.OwnSortedInts
import Derived.StepT
import Derived.StillTail
import Derived.Stop.Asserts
import Derived.Stop.Joined
import Derived.Test.YtgahemdblfapeaaGreatDoorCards
import Derived.Test.YtgahemdblfapeaaGreatDoorChecked
import Derived.Test.YtgahemdblfapeaaGreatDoorTie
import Derived.WalkKit
set_option maxRecDepth 100000
set_option maxHeartbeats 4000000
set_option linter.all false
namespace Go.Proofs.YtgahemdblfapeaaGreatDoor
open Go.Conc
open _root_.Array renaming append_assoc→Ee,ext_getElem?→zB,getElem?_eq_getElem→xY,getElem?_eq_none_iff→Ef,getElem?_eq_some_iff→iy,getElem?_map→A4,getElem?_modify→Gm,getElem?_push→Gn,getElem?_setIfInBounds→uF,getElem?_setIfInBounds_ne→iK,getElem?_setIfInBounds_self_of_lt→kJ,replicate→qa,size_setIfInBounds→ra
open _root_.Bool renaming and_eq_true→gT,false→Y,false_eq_true→hZ,false_ne_true→jL,true→U
open Go renaming Addr→aU,CallKind→dQ,Code→bH,Deferred→cz,Event→dR,Frame→aA,Func→dK,FuncId→cH,Goroutine→aH,Item→aJ,Machine→fT,Oper→bq,Operand→iP,Program→aD,Trace→ed,TypeId→aK,Value→ag,World→ax,callFunc→gC,commResult→rh,deafBehind→ia,doReturn→rW,eqGuard→lF,execOp→cN,getObj→j4,runN→dG,runNT→iz,stepG→aE,undef→aB,unwind→lT
open Go.Conc renaming Deaf→eh,Deaf_other→ni,getElem?_append_cases→lG,heap_setChan_ne→mT,heap_setChan_self→oQ,lt_size_of_getElem?→IM,mem_ofEvents→jX,mem_seen→Cz,offersAt_of_not_blocked→tq,runNT_then→kK,runT_crowd_go→wQ,served→jx,touchAt_of→tu,touch_of→om,woken→eP
open Go.Deferred renaming ofValue→Eg
open Go.Frame renaming enter→bO,eval→bR,finish→jw
open Go.GStep renaming after→mx
open Go.Instr renaming endLoop→wF,endRound→xZ,enterLoop→qb,fieldAt→tn,loadAt→uG,takeDeferred→qd
open Go.MemAct renaming ofEvent→gI,touch?→lS
open Go.MemOp renaming ofEvents→dk
open Go.Next renaming value→mR
open Go.Proofs.Tryz renaming prog→ak
open Go.Region renaming ready→nK,schedule→tp,wanted→wO
open Go.Sem renaming getObj→wP,pure→qi,run→bP,runT→nM,runT_eq→jN,runT_fst→ya,run_bind→oh,run_bind'→zI
open Go.Stepped.next renaming injEq→yc
open Go.World renaming cell?→fU,frozen?→qj,shape?→fF
open Go.stepG renaming apply→iA,exec→cf
open _root_.List renaming getElem?_eq_getElem→eI,mem_append→pz,mem_cons→bM,mem_cons_of_mem→eK,mem_map→og,mem_singleton→my,mem_toArray→ko,not_mem_nil→gV,range→qh
open _root_.Nat renaming add_assoc→zF,le_refl→dt,le_trans→rU,lt_of_lt_of_le→pA,zero_le→gJ
open _root_.Option renaming bind_eq_some_iff→nj,bind_some→wN,getD_some→rV,map_eq_some_iff→fX,map_some→jE,none→I,some→Z
open _root_.Option.some renaming inj→ee,injEq→gB
open _root_.Prod.mk renaming injEq→fN
section
variable {b:Nat}{n:Next}{p:Prop}{s:Sem Next}{m:String}{P:aD}{g:aH}{t:aK}{a:aU}{v x z:ag}{W e w:ax}
abbrev ae.{u} (a:Type u):=List a
abbrev af.{u} (a:Type u):=Array a
abbrev aj.{u} (a:Type u):=Option a
theorem F.{u} {a:Sort u} {b:a}:b=b:=rfl
theorem ah(h:p:=by omega):p:=h
theorem al(h:p:=by kernel_rfl):p:=h
theorem aT(h:p:=by decide):p:=h
theorem ba(h:p:=by simp):p:=h
structure eJ(St:Nat->Loc->Prop)(Shun:Loc->Prop)(At:Nat->Loc->Prop)(Mem kv:Nat->Prop)(B:Nat)(Kn:Nat->Prop)(t:ed):Prop where
 clean:∀said,¬Race said t
 known:∀i a,touchAt t i=Z a->a.loc.isMemory=U->Kn i\/(a.write=Y/\∃g,t.g? i=Z g/\kv g/\St g a.loc)\/(Shun a.loc/\a.kind=.atomic/\¬t.heard i)
 wrote:∀i a,touchAt t i=Z a->a.write=U->∀g,Mem g->St g a.loc->Knows t g i
 hears:∀g,Mem g->eh t g=0
 seen:∀op∈t,op.act.low B
 apart:∀g l,St g l->¬Shun l
 plain:∀i a,touchAt t i=Z a->a.kind=.plain->a.loc.isMemory=U->Shun a.loc->∀g,At g a.loc->Knows t g i
section
variable {St I':Nat->Loc->Prop}{Shun X:Loc->Prop}{At P9:Nat->Loc->Prop}{Mem Mem' kv W:Nat->Prop}{B h j:Nat}{Kn yk:Nat->Prop}{t u:ed}
theorem eJ.mono{a}(H:eJ St Shun At Mem kv B Kn t)(c:B<=a):eJ St Shun At Mem kv a Kn t:=⟨H.clean,H.known,H.wrote,H.hears,λd b=>MemAct.low_mono c (H.seen _ b),H.apart,H.plain⟩
theorem eJ.fewer(H:eJ St Shun At Mem kv B Kn t)(c:∀g,Mem' g->Mem g):eJ St Shun At Mem' kv B Kn t:=⟨H.clean,H.known,λi a e f g b d=>H.wrote i a e f g (c g b) d,λg b=>H.hears g (c g b),H.seen,H.apart,H.plain⟩
theorem eJ.loosen(H:eJ St Shun At Mem kv B Kn t)(b:∀g,kv g->W g):eJ St Shun At Mem W B Kn t:=⟨H.clean,λi a c f=>(H.known i a c f).imp id (.imp (λ⟨x,g,d,e,k⟩=>⟨x,g,d,b g e,k⟩) id),H.wrote,H.hears,H.seen,H.apart,H.plain⟩
theorem eJ.places(H:eJ St Shun At Mem kv B Kn t)(v:∀g l,kv g->St g l->I' g l)(A:∀g,Mem g->∀l,I' g l->St g l\/∀i a,touchAt t i=Z a->a.write=U->a.loc=l->Knows t g i)(d:∀l,Shun l->X l)(y:∀g l,I' g l->¬X l)(s:∀g l,P9 g l->X l->At g l/\Shun l):eJ I' X P9 Mem kv B Kn t:=
 ⟨H.clean,λi a c e=>(H.known i a c e).imp id (.imp (λ⟨x,g,b,k,f⟩=>⟨x,g,b,k,v g _ k f⟩) λ⟨p,q,r⟩=>⟨d _ p,q,r⟩),
  λi a c m g b w=>(A g b _ w).elim (H.wrote i a c m g b) λC=>C i a c m F,H.hears,H.seen,y,λi a c z e f g b=>let⟨n,o⟩:=s g _ b f;H.plain i a c z e o g n⟩
theorem eJ.old_known(H:eJ St Shun At Mem kv B Kn t)(d:∀i,Kn i->yk i){i}{a}{x}(b:t[i]?=Z x)(c:x.act.touch?=Z a)(k:a.loc.isMemory=U):yk i\/(a.write=Y/\∃g,(t++u).g? i=Z g/\kv g/\St g a.loc)\/(Shun a.loc/\a.kind=.atomic/\¬(t++u).heard i):=
 (H.known i a (by rw[tu b];exact c) k).imp (d i) (.imp (λ⟨p,g,e,f,l⟩=>⟨p,g,by rw[g?_old (IM b)];exact e,f,l⟩)
   λ⟨p,q,r⟩=>⟨p,q,by rw[heard_old (IM b)];exact r⟩)
theorem eJ.old_hears{g}(H:eJ St Shun At Mem kv B Kn t)(d:∀f∈u,f.g=g)(c:Mem g->eh (t++u) g=eh t g):∀a,Mem a->eh (t++u) a=0:=λa b=>by
 by_cases e:a=g
 ·subst e;exact(c b).trans (H.hears _ b)
 ·exact(ni t (λx=>e x.symm) u d).trans (H.hears _ b)
theorem eJ.La(H:eJ St Shun At Mem kv B Kn t)(p:∀o∈u,∀b,o.act.touch?=Z b->Shun b.loc->b.kind≠.plain):∀i a,touchAt (t++u) i=Z a->a.kind=.plain->a.loc.isMemory=U->Shun a.loc->∀g,At g a.loc->Knows (t++u) g i:=λi a e l k m g f=>by
 obtain⟨x,n,d⟩:=om e;rcases lG n with⟨_,c⟩|⟨_,q⟩
 ·exact(H.plain i a (by rw[tu c];exact d) l k m g f).app u
 ·grind
theorem eJ.mute(H:eJ St Shun At Mem kv B Kn t)(m:∀i,Kn i->yk i)(r:∀c∈u,c.act.touch?=I)(o:∀g,Mem g->eh (t++u) g=0)(p:∀c∈u,c.act.low B):eJ St Shun At Mem kv B yk (t++u):=by
 refine⟨λl=>noRace_appendMute (H.clean _) r,λi a f q=>?_,λi a f s z w n=>?_,o,seen_app H.seen p,H.apart,H.La λc y b A=>by simp_all⟩
 ·obtain⟨x,k,e⟩:=om f
  rcases lG k with⟨_,d⟩|⟨_,v⟩
  ·exact H.old_known m d e q
  ·simp_all
 ·obtain⟨x,k,e⟩:=om f
  rcases lG k with⟨_,d⟩|⟨_,v⟩
  ·exact(H.wrote i a (by rw[tu d];exact e) s _ w n).app u
  ·simp_all
theorem eJ.appMute{g}(H:eJ St Shun At Mem kv B Kn t)(b:∀i,Kn i->yk i)(f:∀a∈u,a.g=g)(e:∀a∈u,a.act.touch?=I)(c:Mem g->eh (t++u) g=eh t g)(d:∀a∈u,a.act.low B):eJ St Shun At Mem kv B yk (t++u):=H.mute b e (H.old_hears f c) d
theorem eJ.appRead{g}(H:eJ St Shun At Mem kv B Kn t)(v:∀i,Kn i->yk i)(A:Mem g)(w:kv g)(p:∀c∈u,c.g=g)(f:∀c∈u,∀b,c.act.touch?=Z b->b.write=Y/\St g b.loc)(z:eh (t++u) g=eh t g)(C:∀c∈u,c.act.low B):eJ St Shun At Mem kv B yk (t++u):=by
 refine⟨λr=>noRace_append (H.clean _) p λi a e c m b o q=>?_,λi a e D=>?_,λi a e G K J y=>?_,H.old_hears p (λ_=>z),seen_app H.seen C,H.apart,H.La λc m b o E=>absurd E (H.apart g _ (f _ m b o).2)⟩
 ·obtain⟨L,s⟩:=f _ m b o
  rcases q.2.2.1 with x|x
  ·exact H.wrote i a e x g A (q.1▸s)
  ·simp_all
 ·obtain⟨x,k,d⟩:=om e
  rcases lG k with⟨_,n⟩|⟨_,l⟩
  ·exact H.old_known v n d D
  ·exact .inr (.inl ⟨(f x l a d).1,g,by rw[g?_of k,p x l],w,(f x l a d).2⟩)
 ·obtain⟨x,k,d⟩:=om e
  rcases lG k with⟨_,n⟩|⟨_,l⟩
  ·exact(H.wrote i a (by rw[tu n];exact d) G _ J y).app u
  ·grind
def Bo(St:Nat->Loc->Prop)(Shun:Loc->Prop)(b:Touch):Prop:=(∀g,St g b.loc->b.write=Y)/\(Shun b.loc->b.kind≠.plain)
theorem CL(H:eJ St Shun At Mem kv B (Knows t h) t)(r:∀c∈u,c.g=h)(o:∀c∈u,∀b,c.act.touch?=Z b->Bo St Shun b)(y:Mem h->eh (t++u) h=eh t h)(C:∀c∈u,c.act.low B):eJ St Shun At Mem kv B (Knows (t++u) h) (t++u):=by
 refine⟨λw=>noRace_append (H.clean _) r λi a e c l b n f=>?_,λi a e D=>?_,λi a e k g z d=>?_,H.old_hears r y,seen_app H.seen C,H.apart,H.La λc l b n=>(o _ l b n).2⟩
 ·rcases H.known i a e f.2.1 with A|⟨k,g,_,_,d⟩|⟨d,E,_⟩
  ·exact A
  ·have v:=(o _ l b n).1 g (f.1▸d)
   rcases f.2.2.1 with x|x
   ·rw[k]at x;cases x
   ·simp_all
  ·have v:=(o _ l b n).2 (f.1▸d)
   rcases f.2.2.2 with x|x|⟨_,x,_⟩
   ·simp_all
   ·exact absurd x v
   ·simp_all
 ·obtain⟨x,p,m⟩:=om e
  rcases lG p with⟨_,q⟩|⟨_,s⟩
  ·exact H.old_known (λi=>Knows.app u) q m D
  ·have:=knows_own p
   rw[r x s]at this;exact .inl this
 ·obtain⟨x,p,m⟩:=om e
  rcases lG p with⟨_,q⟩|⟨_,s⟩
  ·exact(H.wrote i a (by rw[tu q];exact m) k g z d).app u
  ·rw[(o x s a m).1 g d]at k;cases k
theorem eJ.give(H:eJ St Shun At Mem kv B (Knows t h) t)(J:Mem h)(K:Mem j)(f)(ph)(l)(m){c}(k d)(G:c<B):eJ St Shun At Mem (λg=>kv g/\g≠j) B (Knows (t++met h j f ph l m c k d) j) (t++met h j f ph l m c k d):=by
 have N:=met_mute h j f ph l m c k d;have z:=met_quiet h j f ph l m c k d;have r:(t++met h j f ph l m c k d)[t.size]?=Z {g:=h,fn:=f,pos:=ph,act:=.send c k}:=by simp[met]
 have s:(t++met h j f ph l m c k d)[t.size+3]?=Z {g:=j,fn:=l,pos:=m,act:=.recvDone c k}:=by simp[met]
 have D:HappensBefore (t++met h j f ph l m c k d) t.size (t.size+3):=Relation.TransGen.single (.inr ⟨.handOver (act?_of r) (act?_of s),⟨h,g?_of r,by rw[deaf_old (dt _)];exact H.hears h J⟩,⟨j,g?_of s,by rw[deaf_quiet (z j) 3 (by simp[met])];exact H.hears j K⟩⟩);refine⟨λC=>noRace_appendMute (H.clean _) N,λi a y M=>?_,λi a y O g n E=>?_,λg n=>(Deaf_quiet (z g)).trans (H.hears g n),seen_app H.seen λQ q=>?_,H.apart,H.La λQ q b R=>by simp_all⟩
 ·obtain⟨x,o,w⟩:=om y
  rcases lG o with⟨S,v⟩|⟨_,P⟩
  ·rcases H.old_known (u:=met h j f ph l m c k d) (λ_ x=>x) v w M with L|⟨p,g,n,T,A⟩|A
   ·exact .inl ⟨t.size+3,_,s,rfl,.inr ((L.hb_new (dt _) r rfl).trans D)⟩
   ·by_cases e:g=j
    ·subst e
     have:=knows_own o;rw[show x.g=g from by have:=g?_of o;rw[n]at this;exact(ee this).symm]at this;exact .inl this
    ·simp_all
   ·exact .inr (.inr A)
  ·simp_all
 ·obtain⟨x,o,w⟩:=om y
  rcases lG o with⟨_,v⟩|⟨_,P⟩
  ·exact(H.wrote i a (by rw[tu v];exact w) O g n E).app _
  ·simp_all
 ·simp only[met,ko,bM,gV,or_false]at q
  rcases q with rfl|rfl|rfl|rfl<;>exact G
theorem eJ.hire{c}{Sc Ac:Loc->Prop}(H:eJ St Shun At Mem kv B (Knows t h) t)(R:Mem h)(P:¬Mem c)(Q:∀l,St c l->Sc l)(L:eh t c=0)(O:∀l,Sc l->¬Shun l)(hw:∀i a,touchAt t i=Z a->a.write=U->Sc a.loc->Knows t h i)(V:∀i a,touchAt t i=Z a->a.kind=.plain->a.loc.isMemory=U->Shun a.loc->Knows t h i)(A)(ph)(z):eJ (λg l=>if g=c then Sc l else St g l) Shun (λg l=>if g=c then Ac l else At g l) (λg=>Mem g\/g=c) (λg=>kv g\/g=c) B (Knows (t++#[{g:=h,fn:=A,pos:=ph,act:=.go c},{g:=c,fn:=z,pos:=ph,act:=.start}]) h) (t++#[{g:=h,fn:=A,pos:=ph,act:=.go c},{g:=c,fn:=z,pos:=ph,act:=.start}]):=by
 generalize m:(#[{g:=h,fn:=A,pos:=ph,act:=.go c},{g:=c,fn:=z,pos:=ph,act:=.start}]:ed)=u;have T:∀n∈u,n.act.touch?=I:=by
  intro n b;subst m;simp only[ko,bM,gV,or_false]at b;rcases b with rfl|rfl<;>rfl
 have G:∀g,∀n∈u,∀d,deafStep g d n=d:=by
  intro g n b d;subst m;simp only[ko,bM,gV,or_false]at b;rcases b with rfl|rfl<;>rfl
 have y:(t++u)[t.size]?=Z {g:=h,fn:=A,pos:=ph,act:=.go c}:=by subst m;simp
 have o:(t++u)[t.size+1]?=Z {g:=c,fn:=z,pos:=ph,act:=.start}:=by subst m;simp
 have E:HappensBefore (t++u) t.size (t.size+1):=Relation.TransGen.single (.inr ⟨.spawn (act?_of y) (act?_of o) (g?_of o),⟨h,g?_of y,by rw[deaf_old (dt _)];exact H.hears h R⟩,⟨c,g?_of o,by rw[deaf_quiet (G c) 1 (by subst m;simp)];exact L⟩⟩);refine⟨λM=>noRace_appendMute (H.clean _) T,λi a v C=>?_,λi a v N g f k=>?_,λg f=>(Deaf_quiet (G g)).trans (f.elim (H.hears g) λe=>e▸L),seen_app H.seen λn b=>?_,λg l k=>?_,λi a v K C D g f=>?_⟩
 ·obtain⟨x,w,r⟩:=om v
  rcases lG w with⟨_,q⟩|⟨_,J⟩
  ·refine(H.old_known (λi=>Knows.app u) q r C).imp id (.imp (λ⟨p,g,f,S,D⟩=>⟨p,g,f,.inl S,?_⟩) id)
   show if g=c then Sc a.loc else St g a.loc
   by_cases e:g=c
   ·simp_all
   ·simp_all
  ·simp_all
 ·obtain⟨x,w,r⟩:=om v
  rcases lG w with⟨_,q⟩|⟨_,J⟩
  ·have s:touchAt t i=Z a:=by rw[tu q];exact r
   by_cases e:g=c
   ·subst e
    rw[if_pos rfl]at k;exact⟨t.size+1,_,o,rfl,.inr (((hw i a s N k).hb_new (dt _) y rfl).trans E)⟩
   ·rw[if_neg e]at k
    exact(H.wrote i a s N g (f.resolve_right e) k).app u
  ·simp_all
 ·subst m
  simp only[ko,bM,gV,or_false]at b;rcases b with rfl|rfl<;>trivial
 ·by_cases e:g=c
  ·simp_all
  ·rw[if_neg e]at k;exact H.apart g l k
 ·obtain⟨x,w,r⟩:=om v
  rcases lG w with⟨_,q⟩|⟨_,J⟩
  ·have s:touchAt t i=Z a:=by rw[tu q];exact r
   by_cases e:g=c
   ·subst e
    exact⟨t.size+1,_,o,rfl,.inr (((V i a s K C D).hb_new (dt _) y rfl).trans E)⟩
   ·rw[if_neg e]at f
    exact(H.plain i a s K C D g f).app u
  ·simp_all
theorem eJ.afR{g}(H:eJ St Shun At Mem kv B Kn t)(A:∀i,Kn i->yk i)(s:∀c∈u,c.g=g)(r:∀c∈u,∀b,c.act.touch?=Z b->b.kind=.atomic/\Shun b.loc/\At g b.loc)(L:∀i x,t.size<=i->(t++u)[i]?=Z x->x.act.touch?≠I->¬(t++u).heard i)(C:¬Mem g)(D:∀c∈u,c.act.low B):eJ St Shun At Mem kv B yk (t++u):=by
 refine⟨λw=>noRace_append (H.clean _) s λi a d c n b q f=>?_,λi a d l=>?_,λi a d E J G p=>?_,H.old_hears s (λl=>absurd l C),seen_app H.seen D,H.apart,H.La λc n b q _=>by grind⟩
 ·obtain⟨o,y,z⟩:=r _ n b q
  rcases f.2.2.2 with x|x|⟨_,_,x⟩
  ·exact H.plain i a d x f.2.1 (f.1▸y) g (f.1▸z)
  ·rw[o]at x;cases x
  ·rw[o]at x;cases x
 ·obtain⟨x,m,e⟩:=om d
  rcases lG m with⟨_,k⟩|⟨K,v⟩
  ·exact H.old_known A k e l
  ·grind
 ·obtain⟨x,m,e⟩:=om d
  rcases lG m with⟨_,k⟩|⟨_,v⟩
  ·exact(H.wrote i a (by rw[tu k];exact e) E _ G p).app u
  ·exact absurd (r x v a e).2.1 (H.apart _ _ p)
end
section
open Go.ConcN (sumTo upd sumTo_upd upd_ne upd_same)
structure YS where
 s:Seat
 own:Nat
 K:ax->Prop
 St:Loc->Prop
 B:Nat
def YS.IZ(y:YS):Prop:=(∀w d,y.K w->y.K (w.at d))/\∀w c f e g a b tm,(∃o,w.heap[c]?=Z o/\o.isChan=U)->y.K w->y.K (w.setChan c f e g a b tm)
def Qi(P:aD)(T:ed)(i n:Nat)(g:aH):aj YS->Prop
 |none=>0<i/\QuitsD P n (eh T i) g
 |some y=>Sits P (i==0) y.K y.St y.B y.s n g
structure Yd(P:aD)(St At:Nat->Loc->Prop)(Shun:Loc->Prop)(Mem Lo:Nat->Prop)(ao:Nat->aj YS)(Sp:Nat->Prop)(B:Nat)(Kn:ed->Nat->Prop)(T:ed)(gs:af aH)(w:ax)(q:Nat->Nat):Prop where
 idle:∀i g,¬Sp i->gs[i]?=Z g->Qi P T i (q i) g (ao i)
 chans:∀i y c,ao i=Z y->y.s.has c->∃k,w.heap[c]?=Z (.chan 0 #[] Y k k Y)
 wf:∀i y,ao i=Z y->y.s.Wf/\y.s.has y.own/\y.IZ
 inj:∀i i' y y',ao i=Z y->ao i'=Z y'->y'.s.has y.own->i=i'
 above:∀j,gs.size<=j->eh T j=0
 lt:∀i,ao i≠I->i<gs.size
 mem:∀i y,ao i=Z y->(Sp i\/Mem i)/\(∀c,y.s.has c->c<B)/\y.B<=B
 nomem:∀i,Mem i->ao i≠I\/Sp i
 lo:∀i y,¬Sp i->ao i=Z y->Lo i
 past:eJ St Shun At Mem Lo B (Kn T) T
 keep:∀i y,ao i=Z y->y.K w
 places:∀i y l,ao i=Z y->y.St l->St i l
 fresh:∀j l,gs.size<=j->¬St j l/\¬At j l
section
variable {P:aD}{St At:Nat->Loc->Prop}{Shun:Loc->Prop}{Mem Lo:Nat->Prop}{ao:Nat->aj YS}{Sp:Nat->Prop}{B:Nat}{Kn:ed->Nat->Prop}{T:ed}{gs:af aH}{w:ax}{q:Nat->Nat}
theorem Yd.JE(C:Yd P St At Shun Mem Lo ao Sp B Kn T gs w q){j}(m:∀i y,ao i=Z y->y.K j)(n:∀i y c,ao i=Z y->y.s.has c->∃f d a b tm,j.heap[c]?=Z (.chan f d Y a b tm)){x}{g}(o:¬Sp x)(l:gs[x]?=Z g):g.again j=g:=by
 have h:=C.idle x g o l;cases e:ao x with
 |none=>rw[e]at h;exact again_of_running h.2.status _
 |some y=>rw[e]at h;exact Sits.again (m x y e) h (C.wf x y e).1 λc k=>n x y c e k
theorem Yd.fixed(C:Yd P St At Shun Mem Lo ao Sp B Kn T gs w q){x}{g}(e:¬Sp x)(b:gs[x]?=Z g):g.again w=g:=C.JE C.keep (λi y c d a=>by obtain⟨k,h⟩:=C.chans i y c d a;exact⟨_,_,_,_,_,h⟩) e b
theorem Yd.noSend(C:Yd P St At Shun Mem Lo ao Sp B Kn T gs w q){x}{g}(f:¬Sp x)(b:gs[x]?=Z g)(c):offersAt g c U=[]:=by
 have h:=C.idle x g f b;cases e:ao x with
 |none=>
  rw[e]at h;exact tq (λa=>by rcases h.2.status with z|z<;>rw[z]at a<;>cases a) c _
 |some y=>
  rw[e]at h;rcases h with⟨k,l,d,j⟩|⟨_,_,o,rfl,_⟩
  ·have:=(Sits.status (C.keep x y e) (.inl ⟨k,l,d,j⟩)).elim (·.1) (λz=>by omega)
   exact tq (λa=>by simp_all) c _
  ·exact offersAt_parked_sends (λn i=>by obtain⟨m,p,rfl⟩:=(C.wf x y e).1.recvs _ i;rfl) _
theorem Yd.abC(C:Yd P St At Shun Mem Lo ao Sp B Kn T gs w q){j}{b}(m:ao j=Z b){x}{g}(o:¬Sp x)(d:x≠j)(l:gs[x]?=Z g):offersAt g b.own Y=[]:=by
 have h:=C.idle x g o l;cases e:ao x with
 |none=>
  rw[e]at h;exact tq (λa=>by rcases h.2.status with z|z<;>rw[z]at a<;>cases a) ..
 |some y=>
  rw[e]at h;rcases h with⟨k,r,n,p⟩|⟨_,_,t,rfl,_⟩
  ·have:=(Sits.status (C.keep x y e) (.inl ⟨k,r,n,p⟩)).elim (·.1) (λz=>by omega)
   exact tq (λa=>by simp_all) ..
  ·refine offersAt_parked_off (λs c i=>?_) _
   obtain⟨f,u,rfl⟩:=(C.wf x y e).1.recvs _ c;have:f=b.own:=by simpa[rcase]using i
   subst this;exact d (C.inj j x _ y m e (Seat.has_of_mem c)).symm
theorem Yd.at(C:Yd P St At Shun Mem Lo ao Sp B Kn T gs w q)(d):Yd P St At Shun Mem Lo ao Sp B Kn T gs (w.at d) q:=⟨C.idle,C.chans,C.wf,C.inj,C.above,C.lt,C.mem,C.nomem,C.lo,C.past,λi y e=>(C.wf i y e).2.2.1 w d (C.keep i y e),C.places,C.fresh⟩
theorem Yd.put(C:Yd P St At Shun Mem Lo ao Sp B Kn T gs w q){i k}{f}{a:af MemOp}{b}(aC:i<gs.size)(p:b.size=gs.size)(n:∀x,x≠i->b[x]?=gs[x]?)(u:b[i]?=Z f)(d:∀v∈a,v.g=i)(o:¬Sp i->Qi P (T++a) i k f (ao i))(m:eJ St Shun At Mem Lo B (Kn (T++a)) (T++a)):Yd P St At Shun Mem Lo ao Sp B Kn (T++a) b w (upd q i k):=by
 refine⟨λx y g c=>?_,C.chans,C.wf,C.inj,λj t=>?_,λi r=>by rw[p];exact C.lt i r,C.mem,C.nomem,C.lo,m,C.keep,C.places,λj l t=>C.fresh j l ah⟩
 ·by_cases e:x=i
  ·subst e
   rw[u]at c;obtain rfl:=ee c;rw[upd_same];exact o g
  ·rw[n x e]at c
   rw[upd_ne q _ e];have h:=C.idle x y g c;cases es:ao x with
   |none=>rw[es]at h;exact⟨h.1,by rw[ni T (λz=>e z.symm) _ d];exact h.2⟩
   |some s=>rw[es]at h;exact h
 ·rw[ni T ah _ d]
  exact C.above j ah
theorem Yd.by_step(JN:∀t u i,Kn t i->Kn (t++u) i)(C:Yd P St At Shun Mem Lo ao Sp B Kn T gs w q){i}{g}{sl}(J:gs[i]?=Z g)(Q:¬Sp i)(W:g.status=.running)
  (nW:∀x v,Sp x->gs[x]?=Z v->v.again w=v)
  (HE:∀y l,ao i=Z y->AtIn P (i==0) y.K y.St y.B y.s g l->∀x v c,Sp x->gs[x]?=Z v->y.s.has c->offersAt v c U=[]):
  ∃(L:af aH)(E:af MemOp)(n:Nat),runT P (crowd gs w sl) i=(.next (crowd L w sl),E)/\L.size=gs.size/\(∀x,x≠i->L[x]?=gs[x]?)/\n<q i/\(∀f∈E,f.g=i/\∀b,f.act.touch?=Z b->b.write=Y)/\(∀y,ao i=Z y->n=0->∃l,AtIn P (i==0) y.K y.St y.B y.s g l)/\Yd P St At Shun Mem Lo ao Sp B Kn (T++E) L w (upd q i n):=by
 have aC:=(iy.1 J).1;have β:∀(a r)(x)(y),gs[x]?=Z y->eP P a r w y=y:=λa r x y G=>woken_of_again (by
  by_cases m:Sp x
  ·exact nW x y m G
  ·exact C.fixed m G)
 have K:∀(r j)(x),x≠i->((gs.map (eP P g r w)).setIfInBounds i j)[x]?=gs[x]?:=by
  intro r j x m;rw[iK (λe=>m e.symm),A4];cases e:gs[x]? with
  |none=>rfl
  |some y=>grind
 have jH:∀(r j),((gs.map (eP P g r w)).setIfInBounds i j)[i]?=Z j:=λr j=>kJ (by simpa using aC);have M:=C.idle i g Q J;cases e:ao i with
 |none=>
  rw[e]at M;obtain⟨uX,N⟩:=M;have gR:(i==0)=Y:=by simp;omega
  cases V:q i with
  |zero=>rw[V]at N;rw[N.1]at W;cases W
  |succ k=>
   rw[V]at N;rcases N with⟨hf,_⟩|⟨_,j,es,hm,yW,Av⟩
   ·simp_all
   have o:∀f∈dk i g.frame.fn g.frame.place es,f.g=i:=λf d=>by obtain⟨e,_,rfl⟩:=jX d;rfl
   refine⟨_,_,k,wQ J (by rw[gR];exact yW w),by simp,λx m=>K _ _ x m,Nat.lt_succ_self k,λf d=>⟨o _ d,λb A=>by obtain⟨e,H,rfl⟩:=jX d;rw[touch_mute (hm e H)]at A;cases A⟩,λ_ G=>(by cases G),?_⟩;refine C.put aC ba (K _ _) (jH .. ) o (λ_=>by rw[e];exact⟨uX,by rw[Deaf_own];exact Av⟩) ?_;exact C.past.appMute (JN T _) o (λf d=>by obtain⟨e,H,rfl⟩:=jX d;exact touch_mute (hm e H)) (λX=>((C.nomem i X).elim (λz=>absurd e z) (λz=>absurd z Q))) (λf d=>by obtain⟨e,H,rfl⟩:=jX d;exact low_mute (hm e H) B)
 |some y=>
  rw[e]at M;obtain⟨X,_,KF⟩:=C.mem i y e;have R:=C.keep i y e;have JD:∀es:af dR,(∀e∈es,EvC y.St y.B e)->(∀f∈dk i g.frame.fn g.frame.place es,f.g=i)/\(∀f∈dk i g.frame.fn g.frame.place es,f.g=i/\∀b,f.act.touch?=Z b->b.write=Y)/\eJ St Shun At Mem Lo B (Kn (T++dk i g.frame.fn g.frame.place es)) (T++dk i g.frame.fn g.frame.place es):=λes s=>by
   obtain⟨o,hr,hl,hd⟩:=evC_ops s;exact⟨o,λf d=>⟨o _ d,λb A=>(hr _ d b A).1⟩,C.past.appRead (JN T _) (X.resolve_left Q) (C.lo i y Q e) o (λf d b A=>⟨(hr _ d b A).1,C.places i y _ e (hr _ d b A).2⟩) (hd T) λf d=>MemAct.low_mono KF (hl _ d)⟩
  obtain⟨k,w₀,V,hg⟩:∃k w₀,q i=k+1/\Goes P (i==0) (RK y.K) (DS y.St y.B) (λg _=>∃l,AtIn P (i==0) y.K y.St y.B y.s g l) k g w₀:=by
   rcases M with h|⟨_,_,l,rfl,_⟩
   ·exact h
   ·cases W
  have xi:(∃l,AtIn P (i==0) y.K y.St y.B y.s g l)\/∃D j es,k=D+1/\aE P (i==0) g w=.go j w es/\(∀e∈es,EvC y.St y.B e)/\Goes P (i==0) (RK y.K) (DS y.St y.B) (λg _=>∃l,AtIn P (i==0) y.K y.St y.B y.s g l) D j w:=by
   cases k with
   |zero=>exact .inl (hg w R)
   |succ D=>
    rcases hg with Kv|⟨_,gX⟩
    ·exact .inl (Kv w R)
    ·have O:=gX w R
     cases p:aE P (i==0) g w with
     |go j w' es=>
      rw[p,goes_go]at O;obtain⟨⟨rfl,s⟩,sJ⟩:=O;exact .inr ⟨D,j,es,F,F,s,sJ⟩
     |_=>rw[p]at O;exact O.elim
  rcases xi with⟨l,dM⟩|⟨D,j,es,rfl,p,s,sJ⟩
  ·obtain⟨_,_,_,_,_,es,s,yW⟩:=id dM
   obtain⟨o,S,hp⟩:=JD _ s;have hw:∀cc∈y.s.cases,NoWays w (gs.setIfInBounds i ph) cc:=by
    intro cc ig;obtain⟨c,z,rfl⟩:=(C.wf i y e).1.recvs _ ig;have gG:=Seat.has_of_mem ig;obtain⟨kk,hc⟩:=C.chans i y c e gG;refine ways_recv_none hc (partners_nil λx v G=>?_);rcases getElem?_stand _ i x _ G with⟨_,rfl⟩|⟨m,vP⟩
    ·exact offersAt_ph ..
    ·by_cases hS:Sp x
     ·grind
     ·exact C.noSend hS vP _
   refine⟨_,_,0,crowd_waits J (yW w R) hw,by simp,λx m=>iK (λz=>m z.symm),by omega,S,λy' vP _=>⟨l,(by simp_all)⟩,?_⟩;exact C.put aC ba (λx m=>iK (λz=>m z.symm)) (kJ aC) o (λ_=>by rw[e];exact .inr ⟨rfl,g,l,rfl,dM⟩) hp
  ·obtain⟨o,S,hp⟩:=JD _ s
   refine⟨_,_,D+1,wQ J p,by simp,λx m=>K _ _ x m,by omega,S,λ_ _ h0=>ah,?_⟩;exact C.put aC ba (K _ _) (jH .. ) o (λ_=>by rw[e];exact .inl ⟨D,w,rfl,sJ⟩) hp
end
end
section
open Go.ConcN (sumTo upd sumTo_upd upd_ne upd_same)
def fg(P:aD)(St At:Nat->Loc->Prop)(Shun:Loc->Prop)(ao:Nat->aj YS)(h B:Nat)(T:ed)(X:af aH)(w:ax)(q:Nat->Nat):Prop:=Yd P St At Shun (λg=>ao g≠I\/g=h) (λg=>g≠h/\ao g≠I) ao (·=h) B (λt=>Knows t h) T X w q
def CK(St:Nat->Loc->Prop)(Shun:Loc->Prop)(B:Nat)(e:dR):Prop:=(∀x,(gI e).touch?=Z x->Bo St Shun x)/\e.loc≠.mark .disable/\e.loc≠.mark .enable/\(gI e).low B
section
variable {P:aD}{St At:Nat->Loc->Prop}{Shun:Loc->Prop}{ao:Nat->aj YS}{h B:Nat}{T:ed}{X:af aH}{w:ax}{q:Nat->Nat}
theorem JC{St}{i}{fn}{pos}{es}(d:∀e∈es,CK St Shun B e):(∀a∈dk i fn pos es,a.g=i)/\(∀a∈dk i fn pos es,∀b,a.act.touch?=Z b->Bo St Shun b)/\(∀a∈dk i fn pos es,a.act.low B)/\∀t:ed,eh (t++dk i fn pos es) i=eh t i:=
 ⟨λa c=>by obtain⟨e,_,rfl⟩:=jX c;rfl,λa c b f=>by obtain⟨e,h,rfl⟩:=jX c;exact(d e h).1 b f,λa c=>by obtain⟨e,h,rfl⟩:=jX c;exact(d e h).2.2.2,
  λt=>by rw[Deaf_own];exact deafBehind_still (λe h=>⟨(d e h).2.1,(d e h).2.2.1⟩) _⟩
structure DY(St:Nat->Loc->Prop)(ao:Nat->aj YS)(Shun:Loc->Prop)(B:Nat)(w w':ax)(es:af dR):Prop where
 chan:∀i y c,ao i=Z y->y.s.has c->w'.heap[c]?=w.heap[c]?
 keep:∀i y,ao i=Z y->y.K w->y.K w'
 Bw:∀e∈es,CK St Shun B e
theorem fg.own(C:fg P St At Shun ao h B T X w q){m}(p:B<=m){a a'}{b}{es}(E:X[h]?=Z a)(r:DY St ao Shun m w b es):fg P St At Shun ao h m (T++dk h a.frame.fn a.frame.place es) ((X.map (eP P a a' b)).setIfInBounds h a') b q/\((X.map (eP P a a' b)).setIfInBounds h a')[h]?=Z a'/\((X.map (eP P a a' b)).setIfInBounds h a').size=X.size/\∀x,x≠h->((X.map (eP P a a' b)).setIfInBounds h a')[x]?=X[x]?:=by
 have aC:=(iy.1 E).1;obtain⟨o,J,H,L⟩:=JC r.Bw;have D:∀i y c,ao i=Z y->y.s.has c->∃k,b.heap[c]?=Z (.chan 0 #[] Y k k Y):=λi y c e g=>by
  obtain⟨k,G⟩:=C.chans i y c e g;exact⟨k,by rw[r.chan i y c e g];exact G⟩
 have A:=λi y e=>r.keep i y e (C.keep i y e);have v:∀x,x≠h->((X.map (eP P a a' b)).setIfInBounds h a')[x]?=X[x]?:=λx f=>by
  rw[iK (λe=>f e.symm),A4];cases e:X[x]? with
  |none=>rfl
  |some y=>
   have:=woken_of_again (P:=P) (x:=a) (x':=a') (C.JE A (λi y c e g=>by grind) f e);simp[this]
 have K:((X.map (eP P a a' b)).setIfInBounds h a')[h]?=Z a':=kJ (by simpa using aC);have n:((X.map (eP P a a' b)).setIfInBounds h a').size=X.size:=by simp
 refine⟨⟨λx y f u=>?_,D,C.wf,C.inj,λj t=>?_,λi d=>by rw[n];exact C.lt i d,λi y e=>?_,C.nomem,C.lo,?_,A,C.places,λj l t=>C.fresh j l (by omega)⟩,K,n,v⟩
 ·rw[v x f]at u
  have d:=C.idle x y f u;cases nS:ao x with
  |none=>rw[nS]at d;exact⟨d.1,by rw[ni T (λz=>f z.symm) _ o];exact d.2⟩
  |some s=>rw[nS]at d;exact d
 ·rw[n]at t
  rw[ni T ah _ o];exact C.above j t
 ·obtain⟨M,N,O⟩:=C.mem i y e
  exact⟨M,λc g=>pA (N c g) p,rU O p⟩
 ·exact CL (C.past.mono p) o J (λ_=>L T) H
theorem fg.awake(C:fg P St At Shun ao h B T X w q){a}(d:X[h]?=Z a)(j:a.status=.running\/a.status=.blocked):∀g∈X,awake g:=by
 intro g f;obtain⟨i,c,rfl⟩:=Array.mem_iff_getElem.1 f;by_cases e:i=h
 ·subst e
  have:X[i]=a:=by simpa[xY c]using d
  rw[this];exact awake_of (j.elim .inl λx=>.inr (.inl x))
 ·have b:=C.idle i _ e (xY c)
  cases es:ao i with
  |none=>rw[es]at b;exact awake_of (b.2.status.elim .inl λx=>.inr (.inr x))
  |some s=>rw[es]at b;exact awake_of ((Sits.status (C.keep i s es) b).elim (λx=>.inl x.1) λx=>.inr (.inl x.1))
theorem fg.ready:∀(μ)(T)(X)(w)(q)(f),sumTo X.size q=μ->fg P St At Shun ao h B T X w q->∀a,X[h]?=Z a->a.status=.running->∃N m o b d p q',iz P N (crowd X w f) T=(.next m,o)/\stepT P m=runT P (crowd b (w.at d) p) h/\b.size=X.size/\b[h]?=Z a/\fg P St At Shun ao h B o b (w.at d) q'/\∃w0 H,m=crowd b w0 H:=by
 intro μ;induction μ using Nat.strongRecOn with
 |_ μ W=>
 intro T X w q f V C a l j;obtain⟨i,g,d,p,A,D,v⟩:=crowd_pick (P:=P) (w:=w) (sl:=f) (C.awake l (.inl j)) ⟨h,a,l,j⟩;have s:=Yd.at C d;by_cases e:i=h
 ·subst e
  exact⟨0,crowd X w f,T,X,d,p,q,F,v,F,l,s,_,_,F⟩
 ·obtain⟨b,β,n,S,z,jq,hn,_,_,E⟩:=s.by_step (sl:=p) (λt u i=>Knows.app u) A e D
   (λx K r k=>by subst r;rw[l]at k;obtain rfl:=ee k;exact again_of_running (.inl j) _)
   (λy _ _ _ x K c r k _=>by subst r;rw[l]at k;obtain rfl:=ee k;exact tq (by rw[j];simp) .. )
  have aC:=(iy.1 A).1;have G:sumTo b.size (upd q i n)<μ:=by
   rw[z,<-V];have:sumTo X.size (upd q i n)+q i=sumTo X.size q+n:=sumTo_upd q n id aC;omega
  obtain⟨N,m,o,jz,J,jv,q2,L,M,O,Q,R⟩:=W _ G _ _ _ _ _ F E a (by grind) j;refine⟨N+1,m,o,jz,J,jv,q2,?_,M,O.trans z,Q,R⟩;simp only[iz,v,S];exact L
end
end
section
open Go.ConcN (sumTo upd sumTo_upd upd_ne upd_same)
section
variable {P:aD}{St At:Nat->Loc->Prop}{Shun:Loc->Prop}{ao:Nat->aj YS}{h j B:Nat}{T:ed}{gs X:af aH}{w:ax}{q:Nat->Nat}
theorem arx(C:fg P St At Shun ao h B T gs w q){y:YS}(a:ao j=Z y):y.own<B:=(C.mem j y a).2.1 _ (C.wf j y a).2.1
theorem fg.pass(C:fg P St At Shun ao h B T gs w q){y m:YS}(M:j≠h)(f:ao j=Z y)(v:ao h=Z m){k:Nat}(A:w.heap[y.own]?=Z (.chan 0 #[] Y k k Y)){gh gj:aH}
  (z:X.size=gs.size)(J:∀x,x≠h->x≠j->X[x]?=gs[x]?)(t:X[h]?=Z gh)(N:X[j]?=Z gj){u:Nat}(L:Sits P (h==0) m.K m.St m.B m.s u gh)(n:cH)(ph:String)(o:cH)(r:String):
  fg P St At Shun ao j B (T++met h j n ph o r y.own k 0) X (w.setChan y.own 0 #[] Y (k+1) (k+1) Y) (upd q h u):=by
 have D:∀g,eh (T++met h j n ph o r y.own k 0) g=eh T g:=λg=>Deaf_quiet (met_quiet h j n ph o r y.own k 0 g);have G:=eJ.give C.past (.inl (by rw[v];simp)) (.inl (by rw[f];simp)) n ph o r k 0 (arx C f);refine⟨λx g p b=>?_,λi d c a H=>?_,C.wf,C.inj,λx p=>by rw[D];exact C.above x ah,λi a=>by rw[z];exact C.lt i a,λi d e=>⟨.inr (.inl (by rw[e];simp)),(C.mem i d e).2⟩,
  λx p=>p.imp id id,λi d a e=>⟨a,by rw[e];simp⟩,?_,λi d e=>(C.wf i d e).2.2.2 _ _ _ _ _ _ _ _ ⟨_,A,F⟩ (C.keep i d e),C.places,λj l f=>C.fresh j l (by rw[z]at f;exact f)⟩
 ·by_cases e:x=h
  ·subst e
   rw[t]at b;obtain rfl:=ee b;rw[upd_same,v];exact L
  ·rw[J x e p]at b
   rw[upd_ne q u e];have a:=C.idle x g e b;cases es:ao x with
   |none=>rw[es]at a;exact⟨a.1,by rw[D];exact a.2⟩
   |some s=>rw[es]at a;exact a
 ·obtain⟨K,E⟩:=C.chans i d c a H
  by_cases e:y.own=c
  ·subst e;exact⟨k+1,oQ w A _ _ _ _ _ _⟩
  ·exact⟨K,by rw[mT w _ _ _ _ _ _ e];exact E⟩
 ·refine((G.fewer (Mem':=λg=>ao g≠I\/g=j) λg b=>?_)).loosen λg b=>⟨b.2,b.1.2⟩
  exact b.elim .inl λe=>.inl (by rw[e,f];simp)
structure IX(P:aD)(St At:Nat->Loc->Prop)(Shun:Loc->Prop)(ao:Nat->aj YS)(j B:Nat)(y:YS)(kk:Nat)(v:ag)(n:Nat)(w:ax)(m:fT)(T:ed):Prop where ex:∃(gs:af aH)(g₂:aH)(d k:Nat)(sl:aj (Nat×Nat))(q:Nat->Nat),m=crowd gs ((w.at d).setChan y.own 0 #[] Y (k+1) (k+1) Y) sl/\gs.size=n/\w.heap[y.own]?=Z (.chan 0 #[] Y k k Y)/\gs[j]?=Z (jx g₂ (rh y.s.cases y.s.shape kk v U))/\y.s.home g₂/\fg P St At Shun ao j B T gs ((w.at d).setChan y.own 0 #[] Y (k+1) (k+1) Y) q
theorem ajB{l:aH}{y Q:YS}{z':ag}{H nh:Nat}(vN:j≠h)(a:ao j=Z y)(hk:y.s.cases[H]?=Z (rcase y.own z))(BW:ao h=Z Q)(sQ:Sits P (h==0) Q.K Q.St Q.B Q.s nh (jx l aB)):∀(μ:Nat)(T:ed)(gs:af aH)(w:ax)(q:Nat->Nat)(J:aj (Nat×Nat)),sumTo gs.size q=μ->fg P St At Shun ao h B T gs w q->gs[h]?=Z (parked l #[scase y.own v z'] .send)->(∃g,gs[j]?=Z g/\g.status=.running)->∃N m' R,iz P N (crowd gs w J) T=(.next m',R)/\IX P St At Shun ao j B y H v gs.size w m' R:=by
 intro μ;induction μ using Nat.strongRecOn with
 |_ μ ih=>
 intro T gs w q J hμ C A ⟨gj,xj,J7⟩;obtain⟨i,g,d,M,E,Ao,aF⟩:=crowd_pick (P:=P) (w:=w) (sl:=J) (C.awake A (.inr F)) ⟨j,gj,xj,J7⟩;have f:=Yd.at C d;have D:i≠h:=λe=>by subst e;rw[A]at E;obtain rfl:=ee E;cases Ao
 obtain⟨k,cP⟩:=C.chans j y y.own a (C.wf j y a).2.1;have E8:(w.at d).heap[y.own]?=Z (.chan 0 #[] Y k k Y):=cP;have ZL:∀c,c≠y.own->offersAt (parked l #[scase y.own v z'] .send) c U=[]:=λc hc=>by rw[offersAt_parked_send,if_neg (λe=>hc e.symm)]
 by_cases K:i=j/\∃p,AtIn P (j==0) y.K y.St y.B y.s g p
 ·obtain⟨rfl,p,K⟩:=K
  obtain⟨_,iZ,bx,η,Fe,es,fI,yW⟩:=id K;have ε:=f.keep i y a;obtain⟨hM,_,KF⟩:=f.mem i y a;obtain⟨cO,hr,hl,hd⟩:=evC_ops (i:=i) (fn:=g.frame.fn) (pos:=g.frame.place) fI;have aC:i<gs.size:=(iy.1 E).1;have δ:h<gs.size:=(iy.1 A).1;have C1:fg P St At Shun ao h B (T++dk i g.frame.fn g.frame.place es) gs (w.at d) (upd q i (q i)):=Yd.put f aC F (λ_ _=>rfl) E cO (λhs=>by
   have:=f.idle i g hs E;rw[a]at this⊢;exact this) (f.past.appRead (λ_=>Knows.app _) (hM.resolve_left D) (f.lo i y D a) cO (λop S b hb=>⟨(hr op S b hb).1,f.places i y _ a (hr op S b hb).2⟩) (hd T) λop S=>MemAct.low_mono KF (hl op S))
  have Km:partners (gs.setIfInBounds i ph) y.own U=[(h,0)]:=by
   rw[partners_one (j:=h) (g:=parked l #[scase y.own v z'] .send) (stand_get (λe=>D e.symm) A)]
   ·rw[offersAt_parked_send,if_pos F];rfl
   ·intro x L G o
    rcases getElem?_stand gs i x L o with⟨_,rfl⟩|⟨_,O⟩
    ·exact offersAt_ph _ _
    ·exact f.noSend G O _
  have cL:∀(m:Nat)(V:CommCase),m≠H->y.s.cases[m]?=Z V->NoWays (w.at d) (gs.setIfInBounds i ph) V:=by
   intro m V hm nA;obtain⟨c,zc,rfl⟩:=(C.wf i y a).1.recvs V (Array.mem_of_getElem? nA);have az:c≠y.own:=λe=>hm ((C.wf i y a).1.apart m H y.own zc z (e▸nA) hk);obtain⟨kc,ig⟩:=f.chans i y c a ⟨m,zc,nA⟩;refine ways_recv_none ig (partners_nil λx L o=>?_);rcases getElem?_stand gs i x L o with⟨_,rfl⟩|⟨_,O⟩
   ·exact offersAt_ph _ _
   ·by_cases ex:x=h
    ·subst ex;rw[A]at O;obtain rfl:=ee O;exact ZL c az
    ·exact f.noSend ex O _
  have SL:=crowd_sel_recv_meets (P:=P) (sl:=M) (gs:=gs) (i:=i) (j:=h) (w:=w.at d) (cap:=0) (closed:=Y) (s:=k) (r:=k) (tm:=Y) E (yW (w.at d) ε) hk cL E8 (λe=>D e.symm) A Km;refine⟨1,crowd ((gs.setIfInBounds h (jx l aB)).setIfInBounds i (jx p (rh y.s.cases y.s.shape H v U))) ((w.at d).setChan y.own 0 #[] Y (k+1) (k+1) Y) M,T++dk i g.frame.fn g.frame.place es++met h i l.frame.fn l.frame.place p.frame.fn p.frame.place y.own k 0,?_,⟨(gs.setIfInBounds h (jx l aB)).setIfInBounds i (jx p (rh y.s.cases y.s.shape H v U)),p,d,k,M,upd (upd q i (q i)) h nh,rfl,?_,cP,?_,Fe,?_⟩⟩
  ·simp only[iz,aF,SL,met,Ee]
   rfl
  ·simp
  ·rw[kJ (by simpa using aC)]
  ·refine C1.pass vN a BW E8 ba (λx G uZ=>?_) (gh:=jx l aB) ?_ (kJ (by simpa using aC)) sQ _ _ _ _
   ·rw[iK (λe=>uZ e.symm),iK (λe=>G e.symm)]
   ·rw[iK D,kJ δ]
 ·obtain⟨X,ζ,n,hr,bJ,jq,hn,_,Dq,C'⟩:=f.by_step (sl:=M) (λt u i=>Knows.app u) E D Ao
   (λx L G o=>by subst G;rw[A]at o;obtain rfl:=ee o;exact again_send_open E8)
   (λy' p vP β x L c G o hc=>by
     subst G;rw[A]at o;obtain rfl:=ee o;refine ZL c λe=>?_;subst e;have oV:j=i:=C.inj j i y y' a vP hc;subst oV;rw[a]at vP;obtain rfl:=ee vP;exact K ⟨rfl,p,β⟩)
  have aC:i<gs.size:=(iy.1 E).1;have Kw:sumTo X.size (upd q i n)<μ:=by
   rw[bJ,<-hμ];have:sumTo gs.size (upd q i n)+q i=sumTo gs.size q+n:=sumTo_upd q n id aC;omega
  have γ:∃g,X[j]?=Z g/\g.status=.running:=by
   by_cases e:i=j
   ·subst e
    have Ka:i<X.size:=by omega
    obtain⟨W,oU⟩:∃W,X[i]?=Z W:=⟨_,xY Ka⟩;have bN:=C'.idle i W D oU;rw[a]at bN;refine⟨W,oU,?_⟩;rcases Sits.status (C'.keep i y a) bN with hs|⟨_,h0⟩
    ·exact hs.1
    ·rw[upd_same]at h0
     exact absurd ⟨rfl,Dq y a h0⟩ K
   ·exact⟨gj,by rw[jq j (λx=>e x.symm)];exact xj,J7⟩
  obtain⟨N,m',R,h1,⟨jz,g2,d2,k2,jv,q2,e1,e2,e3,e4,e5,e6⟩⟩:=ih _ Kw (T++ζ) X (w.at d) (upd q i n) M rfl C' (by rw[jq h (λz=>D z.symm)];exact A) γ;refine⟨N+1,m',R,?_,⟨jz,g2,d2,k2,jv,q2,e1,e2.trans bJ,e3,e4,e5,e6⟩⟩;simp only[iz,aF,hr];exact h1
theorem fg.YI{m0:fT}{a d:aH}{y D:YS}{S:ag}{kk nh:Nat}{es:af dR}{l:aj (Nat×Nat)}(C:fg P St At Shun ao h B T gs w q)(aF:stepT P m0=runT P (crowd gs w l) h)(n:j≠h)(b:ao j=Z y)(E:y.s.cases[kk]?=Z (rcase y.own z))(W:ao h=Z D)
  (G:gs[h]?=Z a)(V:aE P (h==0) a w=.comm d #[scase y.own v S] U .send w es)(fI:∀e∈es,CK St Shun B e)
  (sQ:Sits P (h==0) D.K D.St D.B D.s nh (jx d aB)):
  ∃N m' T',iz P N m0 T=(.next m',T')/\IX P St At Shun ao j B y kk v gs.size w m' T':=by
 obtain⟨M,hs,hl,kX⟩:=JC (i:=h) (fn:=a.frame.fn) (pos:=a.frame.place) fI;have aC:h<gs.size:=(iy.1 G).1;have L:j<gs.size:=C.lt j (by rw[b];simp);obtain⟨k,cP⟩:=C.chans j y y.own b (C.wf j y b).2.1;have J:w.heap[y.own]?=Z (.chan 0 #[] Y k k Y):=cP;obtain⟨t,u⟩:∃t,gs[j]?=Z t:=⟨_,xY L⟩;have Zy:=C.idle j t n u;rw[b]at Zy;have Dn:eJ St Shun At (λg=>ao g≠I\/g=h) (λg=>g≠h/\ao g≠I) B (Knows (T++dk h a.frame.fn a.frame.place es) h) (T++dk h a.frame.fn a.frame.place es):=CL C.past M hs (λ_=>kX T) hl;rcases Zy with Og|⟨_,g₀,o,rfl,dM⟩
 ·
  have J7:t.status=.running:=(Sits.status (C.keep j y b) (.inl Og)).elim (·.1) λx=>by obtain⟨k',w',hq,_⟩:=Og;omega
  have K:partners (gs.setIfInBounds h ph) y.own Y=[]:=partners_nil λx Q O=>by
   rcases getElem?_stand gs h x Q O with⟨_,rfl⟩|⟨f,A⟩
   ·exact offersAt_ph _ _
   ·by_cases e:x=j
    ·subst e;rw[u]at A;obtain rfl:=ee A;exact tq (by rw[J7];simp) _ _
    ·exact C.abC b f e A
  have Dq:=crowd_waits (P:=P) (sl:=l) (gs:=gs) (i:=h) (w:=w) G V (λp ig=>by
   have:p=scase y.own v S:=by simpa using ig
   subst this;exact ways_send_none J ba K)
  have H:fg P St At Shun ao h B (T++dk h a.frame.fn a.frame.place es) (gs.setIfInBounds h (parked d #[scase y.own v S] .send)) w (upd q h (q h)):=Yd.put C aC ba (λx f=>iK (λe=>f e.symm)) (kJ aC) M (λR=>absurd rfl R) Dn;obtain⟨N2,m2,T2,xn,⟨jz,g2,d2,k2,jv,q2,e1,e2,e3,e4,e5,e6⟩⟩:=ajB n b E W sQ _ _ _ _ _ l rfl H (kJ aC) ⟨t,by rw[iK (λe=>n e.symm)];exact u,J7⟩;refine⟨1+N2,m2,T2,?_,⟨jz,g2,d2,k2,jv,q2,e1,by rw[e2];simp,e3,e4,e5,e6⟩⟩;exact kK (runNT_succ_of (N:=0) rfl (by rw[aF,Dq])) xn
 ·
  have l7:∀(m:Nat)(p:CommCase),m≠kk->y.s.cases[m]?=Z p->p.chan≠.chan (Z y.own):=λm p hm hc e=>by
   obtain⟨c,zc,rfl⟩:=(C.wf j y b).1.recvs p (Array.mem_of_getElem? hc);have:c=y.own:=by simpa[rcase]using e
   subst this;exact hm ((C.wf j y b).1.apart m kk _ _ _ hc E)
  have K:partners (gs.setIfInBounds h ph) y.own Y=[(j,kk)]:=by
   rw[partners_one (j:=j) (g:=parked o y.s.cases y.s.shape) (stand_get n u)]
   ·rw[offersAt_parked_at E l7];rfl
   ·intro x Q f O
    rcases getElem?_stand gs h x Q O with⟨_,rfl⟩|⟨FA,A⟩
    ·exact offersAt_ph _ _
    ·exact C.abC b FA f A
  have SL:=crowd_send_meets_sel (P:=P) (sl:=l) (gs:=gs) (i:=h) (w:=w) (cap:=0) (buf:=#[]) (s:=k) (r:=k) (tm:=Y) G V J n u E K;have H:fg P St At Shun ao h B (T++dk h a.frame.fn a.frame.place es) gs w (upd q h (q h)):=Yd.put C aC rfl (λx f=>rfl) G M (λR=>absurd rfl R) Dn;obtain⟨_,_,_,_,Fe,_⟩:=dM;refine⟨1,crowd ((gs.setIfInBounds j (jx o (rh y.s.cases y.s.shape kk v U))).setIfInBounds h (jx d aB)) (w.setChan y.own 0 #[] Y (k+1) (k+1) Y) l,
   T++dk h a.frame.fn a.frame.place es++met h j d.frame.fn d.frame.place o.frame.fn o.frame.place y.own k 0,?_,
   ⟨(gs.setIfInBounds j (jx o (rh y.s.cases y.s.shape kk v U))).setIfInBounds h (jx d aB),o,w.drawn,k,l,upd (upd q h (q h)) h nh,rfl,by simp,cP,?_,Fe,?_⟩⟩
  ·rw[Ee]
   exact runNT_succ_of (N:=0) rfl (by rw[aF,SL];rfl)
  ·rw[iK (λe=>n e.symm),kJ L]
  ·refine H.pass n b W J ba (λx f Tr=>?_) (gh:=jx d aB) (gj:=jx o (rh y.s.cases y.s.shape kk v U)) (kJ (by simpa using aC)) ?_ sQ _ _ _ _
   ·rw[iK (λe=>f e.symm),iK (λe=>Tr e.symm)]
   ·rw[iK (λe=>n e.symm),kJ L]
theorem fg.give{a f:aH}{y b:YS}{z':ag}{kk nh:Nat}{es:af dR}{i:aj (Nat×Nat)}(C:fg P St At Shun ao h B T gs w q)(vN:j≠h)(O:ao j=Z y)(Q:y.s.cases[kk]?=Z (rcase y.own z))(l:ao h=Z b)
  (M:gs[h]?=Z a)(r:a.status=.running)(k:∀d,aE P (h==0) a (w.at d)=.comm f #[scase y.own v z'] U .send (w.at d) es)(J:∀e∈es,CK St Shun B e)
  (sQ:Sits P (h==0) b.K b.St b.B b.s nh (jx f aB)):
  ∃N g c,iz P N (crowd gs w i) T=(.next g,c)/\IX P St At Shun ao j B y kk v gs.size w g c:=by
 obtain⟨N,m1,T1,m6,d,jV,q1,H,p,s,R,m,_⟩:=C.ready _ T gs w q i F a M r;obtain⟨n,m2,o,L,⟨V,K,t,W,S,q2,u,x,A,D,E,G⟩⟩:=m.YI p vN O Q l R (k d) J sQ;exact⟨N+n,m2,o,kK H L,⟨V,K,t,W,S,q2,u,x.trans s,A,D,E,G⟩⟩
end
end
section
open Go.ConcN (sumTo upd sumTo_upd upd_ne upd_same)
section
variable {P:aD}{W At:Nat->Loc->Prop}{Shun Bn:Loc->Prop}{ao:Nat->aj YS}{h j B:Nat}{T:ed}{X V:af aH}{w:ax}{q:Nat->Nat}
def od(ao:Nat->aj YS)(c:Nat)(y:aj YS):Nat->aj YS:=λx=>if x=c then y else ao x
theorem rS{c:Nat}{y:aj YS}:od ao c y c=y:=if_pos F
theorem kl{c x:Nat}{y:aj YS}(a:x≠c):od ao c y x=ao x:=if_neg a
theorem fg.mono{f:Nat}(C:fg P W At Shun ao h B T X w q)(d:B<=f):fg P W At Shun ao h f T X w q:=⟨C.idle,C.chans,C.wf,C.inj,C.above,C.lt,λi y e=>let⟨a,b,c⟩:=C.mem i y e;⟨a,λx g=>pA (b x g) d,rU c d⟩,C.nomem,C.lo,C.past.mono d,C.keep,C.places,C.fresh⟩
theorem fg.mO(C:fg P W At Shun ao h B T X w q)(d:∀l,Shun l->Bn l)(c:∀g l,W g l->¬Bn l)(b:∀g l,At g l->Shun l):fg P W At Bn ao h B T X w q:=⟨C.idle,C.chans,C.wf,C.inj,C.above,C.lt,C.mem,C.nomem,C.lo,eJ.places C.past (λ_ _ _ a=>a) (λ_ _ _ a=>.inl a) d c (λg l h _=>⟨h,b g l h⟩),C.keep,C.places,C.fresh⟩
structure GF(Shun:Loc->Prop)(ao:Nat->aj YS)(x B:Nat)(w:ax)(y:YS):Prop where
 wf:y.s.Wf/\y.s.has y.own/\y.IZ
 chans:∀c,y.s.has c->∃k,w.heap[c]?=Z (.chan 0 #[] Y k k Y)
 fresh:∀i y',i≠x->ao i=Z y'->¬y'.s.has y.own/\¬y.s.has y'.own
 low:(∀c,y.s.has c->c<B)/\y.B<=B
 keep:y.K w
 mem:∀l,y.St l->l.isMemory=U/\¬Shun l
theorem GF.inj{x:Nat}{y:YS}(N:GF Shun ao x B w y)(l:∀i a y k,ao i=Z y->ao a=Z k->k.s.has y.own->i=a):∀i a z d,od ao x (Z y) i=Z z->od ao x (Z y) a=Z d->d.s.has z.own->i=a:=λi a z d e b g=>by
 by_cases f:i=x
 ·by_cases c:a=x
  ·exact f.trans c.symm
  ·rw[f,rS]at e
   rw[kl c]at b;obtain rfl:=ee e;exact absurd g (N.fresh a d c b).1
 ·rw[kl f]at e
  by_cases c:a=x
  ·rw[c,rS]at b
   obtain rfl:=ee b;exact absurd g (N.fresh i z f e).2
  ·rw[kl c]at b
   exact l i a z d e b g
theorem fg.ae0(C:fg P W At Shun ao h B T X w q){i:Nat}{a:Touch}(d:touchAt T i=Z a)(k:a.write=U)(f:a.loc.isMemory=U)(g:¬Shun a.loc):Knows T h i:=by
 rcases C.past.known i a d f with e|⟨b,_⟩|⟨c,_⟩
 ·exact e
 ·rw[k]at b;cases b
 ·exact absurd c g
theorem fg.arY(C:fg P W At Shun ao h B T X w q){i:Nat}{a:Touch}(d:touchAt T i=Z a)(k:a.kind=.plain)(f:a.loc.isMemory=U)(c:Shun a.loc):Knows T h i:=by
 rcases C.past.known i a d f with e|⟨_,g,_,_,l⟩|⟨_,b,_⟩
 ·exact e
 ·exact absurd c (C.past.apart g _ l)
 ·rw[k]at b;cases b
def add1(W:Nat->Loc->Prop)(c:Nat)(S:Loc->Prop):Nat->Loc->Prop:=λg l=>W g l\/(g=c/\S l)
theorem fg.reseat(C:fg P W At Shun ao h B T X w q)(aC:h<X.size){y:YS}(N:GF Shun ao h B w y):fg P (add1 W h y.St) At Shun (od ao h (Z y)) h B T X w q:=by
 have u:∀g,od ao h (Z y) g≠I\/g=h↔ao g≠I\/g=h:=λg=>by
  by_cases e:g=h
  ·simp[e]
  ·rw[kl e]
 refine⟨λi g d k=>by rw[kl d];exact C.idle i g d k,λi z c e p=>?_,λi z e=>?_,N.inj C.inj,C.above,λi d=>?_,λi z e=>⟨.inr (.inl (by rw[e];simp)),?_⟩,λi d=>?_,λi z d e=>⟨d,by rw[e];simp⟩,?_,λi z e=>?_,λi z l e s=>?_,λj l r=>⟨λf=>f.elim (C.fresh j l r).1 λm=>by omega,(C.fresh j l r).2⟩⟩
 ·by_cases b:i=h
  ·rw[b,rS]at e;obtain rfl:=ee e;exact N.chans c p
  ·rw[kl b]at e;exact C.chans i z c e p
 ·by_cases b:i=h
  ·rw[b,rS]at e;obtain rfl:=ee e;exact N.wf
  ·rw[kl b]at e;exact C.wf i z e
 ·by_cases b:i=h
  ·exact b▸aC
  ·rw[kl b]at d;exact C.lt i d
 ·by_cases b:i=h
  ·rw[b,rS]at e;obtain rfl:=ee e;exact N.low
  ·rw[kl b]at e;exact(C.mem i z e).2
 ·exact d
 ·have x:=eJ.places C.past (I':=add1 W h y.St) (P9:=At) (λg l _ f=>.inl f) (λg _ l f=>f.imp id λ⟨v,o⟩i a n A t=>by
   obtain⟨D,E⟩:=N.mem l o;rw[v];exact C.ae0 n A (by rw[t];exact D) (by rw[t];exact E)) (λl o=>o) (λg l f=>f.elim (C.past.apart g l) λm=>(N.mem l m.2).2) (λg l n m=>⟨n,m⟩)
  exact(x.fewer (Mem':=λg=>od ao h (Z y) g≠I\/g=h) λg k=>(u g).1 k).loosen λg k=>⟨k.1,by rw[kl k.1];exact k.2⟩
 ·by_cases b:i=h
  ·rw[b,rS]at e;obtain rfl:=ee e;exact N.keep
  ·rw[kl b]at e;exact C.keep i z e
 ·by_cases b:i=h
  ·rw[b,rS]at e;obtain rfl:=ee e;exact .inr ⟨b,s⟩
  ·rw[kl b]at e;exact .inl (C.places i z l e s)
theorem fg.azB(C:fg P W At Shun ao h B T X w q):fg P W At Shun (od ao h I) h B T X w q:=by
 have a:∀i z,od ao h I i=Z z->i≠h/\ao i=Z z:=λi z e=>by
  by_cases f:i=h
  ·rw[f,rS]at e;cases e
  ·rw[kl f]at e;exact⟨f,e⟩
 refine⟨λi g b d=>by rw[kl b];exact C.idle i g b d,λi z c e o=>C.chans i z c (a i z e).2 o,λi z e=>C.wf i z (a i z e).2,λi k z m e n p=>C.inj i k z m (a i z e).2 (a k m n).2 p,C.above,λi b=>?_,λi z e=>⟨.inr (.inl (by rw[e];simp)),(C.mem i z (a i z e).2).2⟩,
  λi b=>b,λi z b e=>⟨b,by rw[e];simp⟩,?_,λi z e=>C.keep i z (a i z e).2,λi z l e s=>C.places i z l (a i z e).2 s,C.fresh⟩
 ·obtain⟨z,e⟩:=Option.ne_none_iff_exists'.1 b
  exact C.lt i (by rw[(a i z e).2];simp)
 ·refine(C.past.fewer (Mem':=λg=>od ao h I g≠I\/g=h) λg d=>d.imp (λr=>?_) id).loosen λg d=>⟨d.1,by rw[kl d.1];exact d.2⟩
  obtain⟨z,e⟩:=Option.ne_none_iff_exists'.1 r;rw[(a g z e).2];simp
def um(W:Nat->Loc->Prop)(c:Nat)(S:Loc->Prop):Nat->Loc->Prop:=λg l=>if g=c then S l else W g l
theorem fg.hire{a t f:aH}{es:af dR}{sl:aj (Nat×Nat)}{y:YS}{Ac:Loc->Prop}{n:Nat}(C:fg P W At Shun ao h B T X w q)(ha:X[h]?=Z a)(aL:a.status=.running)
  (β:∀d,aE P (h==0) a (w.at d)=.spawn t f (w.at d) es)(fI:∀e∈es,CK W Shun B e)(N:GF Shun ao X.size B w y)(h0:0<X.size)(sQ:Sits P Y y.K y.St y.B y.s n f):
  ∃N' T' V d jC q',iz P N' (crowd X w sl) T=(.next (crowd V (w.at d) jC),T')/\V.size=X.size+1/\V[h]?=Z t/\fg P (um W X.size y.St) (um At X.size Ac) Shun (od ao X.size (Z y)) h B T' V (w.at d) q':=by
 obtain⟨N1,m1,D,A,d,jV,O,eF,aF,K,iF,C1,_⟩:=C.ready _ T X w q sl F a ha aL;obtain⟨cO,hs,G,kX⟩:=JC (i:=h) (fn:=a.frame.fn) (pos:=a.frame.place) fI;have aC:h<A.size:=(iy.1 iF).1;have Dn:eJ W Shun At (λg=>ao g≠I\/g=h) (λg=>g≠h/\ao g≠I) B (Knows (D++dk h a.frame.fn a.frame.place es) h) (D++dk h a.frame.fn a.frame.place es):=CL C1.past cO hs (λ_=>kX D) G;have k:fg P W At Shun ao h B (D++dk h a.frame.fn a.frame.place es) A (w.at d) (upd O h (O h)):=Yd.put C1 aC F (λx v=>rfl) iF cO (λhn=>absurd F hn) Dn;generalize RS:D++dk h a.frame.fn a.frame.place es=J at k;have R:ao X.size=I:=by
  cases e:ao X.size with
  |none=>rfl
  |some z=>exact absurd (C.lt X.size (by rw[e];simp)) (Nat.lt_irrefl _)
 have kW:eh J X.size=0:=k.above _ ah;have Q:h≠X.size:=by omega
 have iU:=runT_crowd_spawn (P:=P) (sl:=jV) iF (β d);have M:=eJ.hire (c:=X.size) (Sc:=y.St) (Ac:=Ac) k.past (.inr F) (λx=>x.elim (λx=>x R) (λe=>Q e.symm)) (λl G=>absurd G (k.fresh _ l ah).1) kW (λl G=>(N.mem l G).2)
  (λi b hb hw L=>k.ae0 hb hw (N.mem _ L).1 (N.mem _ L).2) (λi b hb M hm L=>k.arY hb M hm L) a.frame.fn a.frame.place f.frame.fn
 generalize hu:(#[{g:=h,fn:=a.frame.fn,pos:=a.frame.place,act:=.go X.size},{g:=X.size,fn:=f.frame.fn,pos:=a.frame.place,act:=.start}]:ed)=u at M;have hq:∀g,∀op∈u,∀d,deafStep g d op=d:=by
  intro g op aO d;subst hu;simp only[ko,bM,gV,or_false]at aO;rcases aO with rfl|rfl<;>rfl
 have yL:∀g,eh (J++u) g=eh J g:=λg=>Deaf_quiet (hq g);have uX:X.size≠0:=by omega
 have S:((A.setIfInBounds h t).push f)[X.size]?=Z f:=by
  rw[Gn];simp[K]
 have Zr:∀x,x≠X.size->((A.setIfInBounds h t).push f)[x]?=(A.setIfInBounds h t)[x]?:=λx v=>by
  rw[Gn,if_neg (by simp[K];exact v)]
 refine⟨N1+1,J++u,(A.setIfInBounds h t).push f,d,jV,upd (upd O h (O h)) X.size n,?_,by simp[K],?_,?_⟩
 ·rw[<-RS,Ee]
  refine runNT_succ_of eF ?_;rw[aF,iU,K,<-hu];refine Prod.ext F ?_;apply Array.ext';simp
 ·rw[Zr h Q,kJ aC]
 ·have H:∀i z,od ao X.size (Z y) i=Z z->(i=X.size/\z=y)\/(i≠X.size/\ao i=Z z):=λi z e=>by
   by_cases m:i=X.size
   ·rw[m,rS]at e;exact .inl ⟨m,(ee e).symm⟩
   ·rw[kl m]at e;exact .inr ⟨m,e⟩
  refine⟨λi g r p=>?_,λi z c e hc=>?_,λi z e=>?_,N.inj k.inj,λx v=>?_,λi r=>?_,λi z e=>⟨.inr (.inl (by rw[e];simp)),?_⟩,λi r=>r,λi z r e=>⟨r,by rw[e];simp⟩,?_,λi z e=>?_,λi z l e hz=>?_,λx l v=>?_⟩
  ·by_cases m:i=X.size
   ·subst m
    rw[S]at p;obtain rfl:=ee p;rw[rS,upd_same];have:(X.size==0)=Y:=by simpa using uX
    show Sits P (X.size==0) y.K y.St y.B y.s n f;rw[this];exact sQ
   ·rw[Zr i m,iK (λe=>r e.symm)]at p
    rw[kl m,upd_ne _ _ m];have E:=k.idle i g r p;cases nS:ao i with
    |none=>rw[nS]at E;exact⟨E.1,by rw[yL];exact E.2⟩
    |some z=>rw[nS]at E;exact E
  ·rcases H i z e with⟨_,rfl⟩|⟨_,o⟩
   ·exact N.chans c hc
   ·exact k.chans i z c o hc
  ·rcases H i z e with⟨_,rfl⟩|⟨_,o⟩
   ·exact N.wf
   ·exact k.wf i z o
  ·simp only[Array.size_push,ra]at v
   rw[yL];exact k.above x ah
  ·simp only[Array.size_push,ra]
   by_cases m:i=X.size
   ·omega
   ·rw[kl m]at r
    have:=k.lt i r;omega
  ·rcases H i z e with⟨_,rfl⟩|⟨_,o⟩
   ·exact N.low
   ·exact(k.mem i z o).2
  ·refine(M.fewer (Mem':=λg=>od ao X.size (Z y) g≠I\/g=h) λg p=>?_).loosen λg p=>?_
   ·by_cases s:g=X.size
    ·exact .inr s
    ·rw[kl s]at p;exact .inl p
   ·by_cases s:g=X.size
    ·exact⟨λe=>Q (e.symm.trans s),by rw[s,rS];simp⟩
    ·rw[kl s];exact p.resolve_right s
  ·rcases H i z e with⟨_,rfl⟩|⟨_,o⟩
   ·exact N.wf.2.2.1 w d N.keep
   ·exact k.keep i z o
  ·show um W X.size y.St i l
   unfold um;rcases H i z e with⟨m,rfl⟩|⟨m,o⟩
   ·rw[if_pos m];exact hz
   ·rw[if_neg m];exact k.places i z l o hz
  ·simp only[Array.size_push,ra]at v
   have az:x≠X.size:=by omega
   unfold um;rw[if_neg az,if_neg az];exact k.fresh x l ah
end
end
section
open Go.ConcR (DC0)
open Go.ConcN (sumTo upd sumTo_upd upd_ne upd_same)
def Qn(P:aD)(a:Bool)(Next:aH->Prop)(n:Nat)(g:aH):Prop:=Goes P a (λ_ _=>True) DC0 (λg _=>Next g) n g default
structure YH(P:aD)(St At:Nat->Loc->Prop)(Shun:Loc->Prop)(ao:Nat->aj YS)(h d B:Nat)(T:ed)(gs:af aH)(w:ax)(q:Nat->Nat):Prop where
 yd:Yd P St At Shun (λg=>(ao g≠I/\g≠h)\/(g=h/\d=0)) (λg=>g≠h/\ao g≠I) ao (·=h) B (λt=>Knows t h) T gs w q
 deaf:eh T h=d
 wrote:∀i a,touchAt T i=Z a->a.write=U->St h a.loc->Knows T h i
section
variable {P:aD}{St At:Nat->Loc->Prop}{Shun:Loc->Prop}{ao:Nat->aj YS}{h d B:Nat}{T:ed}{gs:af aH}{w:ax}{q:Nat->Nat}
theorem fg.Cs(C:fg P St At Shun ao h B T gs w q):YH P St At Shun ao h 0 B T gs w q:=⟨⟨C.idle,C.chans,C.wf,C.inj,C.above,C.lt,λi y e=>⟨by by_cases b:i=h;exact .inl b;exact .inr (.inl ⟨by rw[e];simp,b⟩),(C.mem i y e).2⟩,λi b=>b.imp (·.1) (·.1),C.lo,C.past.fewer λg f=>f.imp (·.1) (·.1),C.keep,C.places,C.fresh⟩,
                                                                                     C.past.hears h (.inr F),λi a b j c=>C.past.wrote i a b j h (.inr F) c⟩
theorem YH.xX(C:YH P St At Shun ao h 0 B T gs w q):fg P St At Shun ao h B T gs w q:=⟨C.yd.idle,C.yd.chans,C.yd.wf,C.yd.inj,C.yd.above,C.yd.lt,λi y e=>⟨.inr (.inl (by rw[e];simp)),(C.yd.mem i y e).2⟩,λi a=>a,C.yd.lo,
                                                                                     C.yd.past.fewer λg b=>by by_cases a:g=h;exact .inr ⟨a,F⟩;exact .inl ⟨b.resolve_right a,a⟩,C.yd.keep,C.yd.places,C.yd.fresh⟩
structure DZ(St:Nat->Loc->Prop)(ao:Nat->aj YS)(Shun:Loc->Prop)(B:Nat)(w w':ax)(es:af dR):Prop where
 chan:∀i y c,ao i=Z y->y.s.has c->w'.heap[c]?=w.heap[c]?
 keep:∀i y,ao i=Z y->y.K w->y.K w'
 Bw:∀e∈es,(∀x,(gI e).touch?=Z x->Bo St Shun x)/\(gI e).low B
theorem DZ.still{es:af dR}(h:es=#[]):DZ St ao Shun B w w es:=⟨λ_ _ _ _ _=>rfl,λ_ _ _ b=>b,λe a=>by subst h;simp at a⟩
theorem YH.own(C:YH P St At Shun ao h d B T gs w q){a a':aH}{m:ax}{es:af dR}(ha:gs[h]?=Z a)(H:DZ St ao Shun B w m es):YH P St At Shun ao h (ia d es) B (T++dk h a.frame.fn a.frame.place es) ((gs.map (eP P a a' m)).setIfInBounds h a') m q/\((gs.map (eP P a a' m)).setIfInBounds h a')[h]?=Z a'/\((gs.map (eP P a a' m)).setIfInBounds h a').size=gs.size:=by
 have aC:h<gs.size:=(iy.1 ha).1;have J:∀p∈dk h a.frame.fn a.frame.place es,p.g=h:=λp v=>by obtain⟨e,_,rfl⟩:=jX v;rfl
 have O:∀p∈dk h a.frame.fn a.frame.place es,∀b,p.act.touch?=Z b->Bo St Shun b:=λp v b K=>by obtain⟨e,h,rfl⟩:=jX v;exact(H.Bw e h).1 b K
 have hl:∀p∈dk h a.frame.fn a.frame.place es,p.act.low B:=λp v=>by obtain⟨e,h,rfl⟩:=jX v;exact(H.Bw e h).2
 have M:∀i y c,ao i=Z y->y.s.has c->∃k,m.heap[c]?=Z (.chan 0 #[] Y k k Y):=λi y c e G=>by
  obtain⟨k,L⟩:=C.yd.chans i y c e G;exact⟨k,by rw[H.chan i y c e G];exact L⟩
 have W:∀i y,ao i=Z y->y.K m:=λi y e=>H.keep i y e (C.yd.keep i y e);have jq:∀x,x≠h->((gs.map (eP P a a' m)).setIfInBounds h a')[x]?=gs[x]?:=λx o=>by
  rw[iK (λe=>o e.symm),A4];cases e:gs[x]? with
  |none=>rfl
  |some y=>
   have:=woken_of_again (P:=P) (x:=a) (x':=a') (C.yd.JE W (λi y c e G=>by obtain⟨k,L⟩:=M i y c e G;exact⟨_,_,_,_,_,L⟩) o e);simp[this]
 have jH:((gs.map (eP P a a' m)).setIfInBounds h a')[h]?=Z a':=kJ (by simpa using aC);have E:((gs.map (eP P a a' m)).setIfInBounds h a').size=gs.size:=by simp
 have V:eh (T++dk h a.frame.fn a.frame.place es) h=ia d es:=by rw[Deaf_own,C.deaf]
 have S:∀i a',touchAt (T++dk h a.frame.fn a.frame.place es) i=Z a'->a'.write=U->St h a'.loc->Knows (T++dk h a.frame.fn a.frame.place es) h i:=λi b K u A=>by
  obtain⟨x,o,N⟩:=om K;rcases lG o with⟨_,X⟩|⟨_,iH⟩
  ·exact(C.wrote i b (by rw[tu X];exact N) u A).app _
  ·rw[(O x iH b N).1 h A]at u;cases u
 refine⟨⟨⟨λx y o R=>?_,M,C.yd.wf,C.yd.inj,λj D=>?_,λi f=>by rw[E];exact C.yd.lt i f,λi y e=>⟨by by_cases f:i=h;exact .inl f;exact .inr (.inl ⟨by rw[e];simp,f⟩),(C.yd.mem i y e).2⟩,λi f=>f.imp (·.1) (·.1),C.yd.lo,?_,W,C.yd.places,λj l D=>C.yd.fresh j l (by rw[E]at D;exact D)⟩,V,S⟩,jH,E⟩
 ·rw[jq x o]at R
  have f:=C.yd.idle x y o R;cases nS:ao x with
  |none=>rw[nS]at f;exact⟨f.1,by rw[ni T (λz=>o z.symm) _ J];exact f.2⟩
  |some s=>rw[nS]at f;exact f
 ·rw[E]at D
  rw[ni T (g':=h) ah _ J];exact C.yd.above j D
 ·have r:=CL (C.yd.past.fewer (Mem':=λg=>ao g≠Option.none/\g≠h) λg n=>.inl n) J O (λhm=>absurd F hm.2) hl
  refine⟨r.clean,r.known,λi t Q u g n A=>?_,λg n=>?_,r.seen,r.apart,r.plain⟩
  ·rcases n with n|⟨rfl,_⟩
   ·exact r.wrote i t Q u g n A
   ·exact S i t Q u A
  ·rcases n with n|⟨rfl,nB⟩
   ·exact r.hears g n
   ·rw[V];exact nB
theorem YH.awake(C:YH P St At Shun ao h d B T gs w q){a:aH}(f:gs[h]?=Z a)(k:a.status=.running\/a.status=.blocked):∀g∈gs,awake g:=by
 intro g j;obtain⟨i,c,rfl⟩:=Array.mem_iff_getElem.1 j;by_cases e:i=h
 ·subst e
  have:gs[i]=a:=by simpa[xY c]using f
  rw[this];exact awake_of (k.elim .inl λx=>.inr (.inl x))
 ·have b:=C.yd.idle i _ e (xY c)
  cases es:ao i with
  |none=>rw[es]at b;exact awake_of (b.2.status.elim .inl λx=>.inr (.inr x))
  |some s=>rw[es]at b;exact awake_of ((Sits.status (C.yd.keep i s es) b).elim (λx=>.inl x.1) λx=>.inr (.inl x.1))
theorem YH.ready:∀(μ:Nat)(T:ed)(gs:af aH)(w:ax)(q:Nat->Nat)(m:aj (Nat×Nat)),sumTo gs.size q=μ->YH P St At Shun ao h d B T gs w q->∀a,gs[h]?=Z a->a.status=.running->∃N D v j k s q',iz P N (crowd gs w m) T=(.next D,v)/\stepT P D=runT P (crowd j (w.at k) s) h/\j.size=gs.size/\j[h]?=Z a/\YH P St At Shun ao h d B v j (w.at k) q':=by
 intro μ;induction μ using Nat.strongRecOn with
 |_ μ ih=>
 intro T gs w q m hμ C a l o;obtain⟨i,g,k,s,M,O,J⟩:=crowd_pick (P:=P) (w:=w) (sl:=m) (C.awake l (.inl o)) ⟨h,a,l,o⟩;have G:=Yd.at C.yd k;by_cases e:i=h
 ·subst e
  exact⟨0,crowd gs w m,T,gs,k,s,q,F,J,F,l,⟨G,C.deaf,C.wrote⟩⟩
 ·obtain⟨j,f,n,hr,K,jq,hn,H,_,Q⟩:=G.by_step (sl:=s) (λt u i=>Knows.app u) M e O
   (λx X r p=>by subst r;rw[l]at p;obtain rfl:=ee p;exact again_of_running (.inl o) _)
   (λy _ _ _ x X c r p _=>by subst r;rw[l]at p;obtain rfl:=ee p;exact tq (by rw[o];simp) _ _)
  have aC:i<gs.size:=(iy.1 M).1;have R:sumTo j.size (upd q i n)<μ:=by
   rw[K,<-hμ];have:sumTo gs.size (upd q i n)+q i=sumTo gs.size q+n:=sumTo_upd q n id aC;omega
  have kX:eh (T++f) h=d:=by rw[ni T e f λop S=>(H op S).1];exact C.deaf
  have uh:∀A b,touchAt (T++f) A=Z b->b.write=U->St h b.loc->Knows (T++f) h A:=λA b hb E hS=>by
   obtain⟨x,r,L⟩:=om hb;rcases lG r with⟨_,W⟩|⟨_,iH⟩
   ·exact(C.wrote A b (by rw[tu W];exact L) E hS).app _
   ·rw[(H x iH).2 b L]at E;cases E
  obtain⟨N,D,v,jz,V,jv,q2,h1,h2,h3,h4,h5⟩:=ih _ R (T++f) j (w.at k) (upd q i n) s rfl ⟨Q,kX,uh⟩ a (by rw[jq h (λz=>e z.symm)];exact l) o;refine⟨N+1,D,v,jz,V,jv,q2,?_,h2,h3.trans K,h4,h5⟩;simp only[iz,J,hr];exact h1
def mX(P:aD)(St At:Nat->Loc->Prop)(Shun:Loc->Prop)(ao:Nat->aj YS)(h B n:Nat)(m:fT)(T:ed)(Q:Nat->aH->ax->Prop):Prop:=∃N gs w c b q d a,iz P N m T=(.next (crowd gs w c),b)/\gs.size=n/\gs[h]?=Z a/\YH P St At Shun ao h d B b gs w q/\Q d a w
theorem mX.then{n:Nat}{m:fT}{Q e:Nat->aH->ax->Prop}(s:mX P St At Shun ao h B n m T Q)(t:∀gs w c b q d a,gs.size=n->gs[h]?=Z a->YH P St At Shun ao h d B b gs w q->Q d a w->mX P St At Shun ao h B n (crowd gs w c) b e):mX P St At Shun ao h B n m T e:=by
 obtain⟨N,gs,w,c,b,q,d,a,k,l,o,p,r⟩:=s;obtain⟨f,v,E,u,g,D,j,i,x,y,z,A,C⟩:=t gs w c b q d a l o p r;exact⟨N+f,v,E,u,g,D,j,i,kK k x,y,z,A,C⟩
theorem IW(C:YH P St At Shun ao h d B T gs w q){a:aH}{sl:aj (Nat×Nat)}(b:gs[h]?=Z a){Q:Nat->aH->ax->Prop}(c:Q d a w):mX P St At Shun ao h B gs.size (crowd gs w sl) T Q:=⟨0,gs,w,sl,T,q,d,a,F,F,b,C,c⟩
theorem YH.told(C:YH P St At Shun ao h d B T gs w q){a:aH}{sl:aj (Nat×Nat)}(r:gs[h]?=Z a)(m:a.status=.running){Q:Nat->aH->ax->Prop}(t:∀e,∃b c es,aE P (h==0) a (w.at e)=.go b c es/\DZ St ao Shun B (w.at e) c es/\Q (ia d es) b c):mX P St At Shun ao h B gs.size (crowd gs w sl) T Q:=by
 obtain⟨N,y,x,z,e,jV,v,o,l,n,f,g⟩:=C.ready _ T gs w q sl F a r m;obtain⟨b,c,es,p,k,s⟩:=t e;obtain⟨i,u,j⟩:=g.own (a':=b) f k;exact⟨N+1,_,c,jV,_,v,_,b,runNT_succ_of o (by rw[l,wQ (sl:=jV) f p]),j.trans n,u,i,s⟩
theorem Wv:∀(n:Nat)(T:ed)(gs:af aH)(w:ax)(q:Nat->Nat)(c:aj (Nat×Nat))(a:aH)(Next:aH->Prop),YH P St At Shun ao h d B T gs w q->gs[h]?=Z a->Qn P (h==0) Next n a->mX P St At Shun ao h B gs.size (crowd gs w c) T λg f e=>g=d/\Next f/\AtRel w e:=by
 intro n;induction n with
 |zero=>intro T gs w q c a Next C j b;exact IW C j ⟨F,b default trivial,atRel_refl w⟩
 |succ n J=>
  intro T gs w q c a Next C j b;rcases b with b|⟨v,b⟩
  ·exact IW C j ⟨rfl,b default trivial,atRel_refl w⟩
  ·refine(C.told (sl:=c) j v (Q:=λg f e=>g=d/\Qn P (h==0) Next n f/\AtRel w e) λi=>?_).then λL R K t M y u x m o H=>?_
   ·have k:=b (w.at i) trivial
    cases hgo:aE P (h==0) a (w.at i)with
    |go E e es=>
     rw[hgo,goes_go]at k;obtain⟨⟨rfl,rfl⟩,N⟩:=k;exact⟨E,w.at i,#[],F,DZ.still F,F,Goes.rely (λ_ _ _ _ _=>trivial) N trivial,⟨i,F⟩⟩
    |_=>rw[hgo]at k;exact k.elim
   ·obtain⟨rfl,s,G⟩:=H
    have:=J t L R M K u Next o m s;rw[x]at this;exact this.then λS w3 r V q3 X W l O p⟨z,A,D⟩=>by
     have:=IW (sl:=r) p O (Q:=λg f e=>g=y/\Next f/\AtRel w e) ⟨z,A,atRel_trans _ _ _ G D⟩;rw[l]at this;exact this
end
end
abbrev Lo(P:aD)(fs:af dK):aD:={P with funcs:=fs}
def Qt(Hid:Loc->Prop)(b:Nat):Obj->Prop
 |.chan .. =>True
 |.cells c _ f=>c.size≠0/\f=(0,0)
 |.finalizers .. =>¬Hid (.obj b)
 |_=>False
def Wk:Obj->Prop
 |.number .. |.cells .. =>False
 |_=>True
def Plain(fx:Obj->Prop):Obj->Prop
 |.view .. |.chan .. |.pending .. =>False
 |.loop l=>fx (.loop l)
 |.deferred d=>fx (.deferred d)
 |_=>True
inductive Bj(fx:Obj->Prop)(Hid:Loc->Prop)(b:Nat):Obj->Obj->Prop
 |same (o:Obj) (h:Plain fx o):Bj fx Hid b o o
 |cut (c d:af ag) (t:aK) (h0:0<c.size) (h:∀i,i<c.size->c[i]?=d[i]?) (hl:c.size<d.size):Bj fx Hid b (.cells c t) (.cells d t)
 |k8 (cap:Nat) (buf:af ag) (cl:Bool) (s r:Nat) (tm:Bool) (O:Obj) (h:Qt Hid b O):Bj fx Hid b (.chan cap buf cl s r tm) O
 |view (u:aK) (O:Obj) (h:Wk O):Bj fx Hid b (.view ⟨0,0,Z 0⟩ u) O
def qS:Obj->Bool
 |.chan .. |.view .. =>U
 |_=>Y
structure Rel(fx:Obj->Prop)(Hid:Loc->Prop)(w W:ax):Prop where
 size:w.heap.size=W.heap.size
 tape:w.tape=W.tape
 drawn:w.drawn=W.drawn
 os:w.os=W.os
 output:w.output=W.output
 obj:∀(b:Nat)(o:Obj),w.heap[b]?=Z o->∃O,W.heap[b]?=Z O/\Bj fx Hid b o O
 m9:∀a,Hid (.cell a)->a.block<w.heap.size/\w.cell? a=I
 pM:∀(r:Nat),Hid (.obj r)->r<w.heap.size/\∀o,w.heap[r]?=Z o->o.isChan=U
def IT(w:ax)(r:Nat):Prop:=r<w.heap.size/\∀o,w.heap[r]?=Z o->qS o=Y
def tF(fx:Obj->Prop)(w:ax):Prop:=∀(b:Nat)(d:aj (ae cz)),w.heap[b]?=Z (.deferred d)->fx (.deferred d)
theorem Rel.Fq{fx:Obj->Prop}{Hid:Loc->Prop}(h:Rel fx Hid w W):tF fx w:=λb d c=>by
 obtain⟨O,_,a⟩:=h.obj _ _ c;cases a with
 |same _ e=>exact e
structure iS(w W w' W':ax):Prop where
 size:w.heap.size<=w'.heap.size
 tape:w'.tape=w.tape
 drawn:w.drawn<=w'.drawn
 os:w'.os=w.os
 chan:∀(b:Nat)(o:Obj),w.heap[b]?=Z o->qS o=U->w'.heap[b]?=Z o/\W'.heap[b]?=W.heap[b]?
 cell:∀a,a.block<w.heap.size->w.cell? a=I->w'.cell? a=I/\W'.cell? a=W.cell? a
 shape:∀b,b<w.heap.size->w'.shape? b=w.shape? b/\W'.shape? b=W.shape? b
 OJ:∀(b:Nat)(o:Obj),w'.heap[b]?=Z o->qS o=U->w.heap[b]?=Z o
theorem iS.refl(w W:ax):iS w W w W:=⟨dt _,F,dt _,F,λ_ _ h _=>⟨h,F⟩,λ_ _ h=>⟨h,F⟩,λ_ _=>⟨F,F⟩,λ_ _ h _=>h⟩
theorem iS.trans{n j p l:ax}(h:iS w W n j)(k:iS n j p l):iS w W p l:=by
 refine⟨rU h.size k.size,k.tape.trans h.tape,rU h.drawn k.drawn,k.os.trans h.os,λb o i e=>?_,λa m q=>?_,λb i=>?_,λb o c e=>h.OJ b o (k.OJ b o c e) e⟩
 ·obtain⟨d,c⟩:=h.chan b o i e
  obtain⟨f,g⟩:=k.chan b o d e;exact⟨f,g.trans c⟩
 ·obtain⟨d,c⟩:=h.cell a m q
  obtain⟨f,g⟩:=k.cell a (pA m h.size) d;exact⟨f,g.trans c⟩
 ·obtain⟨d,c⟩:=h.shape b i
  obtain⟨f,g⟩:=k.shape b (pA i h.size);exact⟨f.trans d,g.trans c⟩
theorem iS.even{c d:ax}(h:iS w W c d){r:Nat}(b:IT w r):IT c r:=⟨pA b.1 h.size,λo e=>by
                                                                    by_cases a:qS o=U
                                                                    ·rw[b.2 o (h.OJ r o e a)]at a;cases a
                                                                    ·simpa using a⟩
def rk(Hid:Loc->Prop)(B:Nat)(e:dR):Prop:=
 match e.loc with
 |.cell a=>¬Hid (.cell a)/\a.block<B/\e.sync=Y
 |.obj r=>r<B/\((¬Hid (.obj r)/\e.sync=Y)\/(e.write=Y/\e.sync=U))
 |.mark (.extern _)|.mark .noRoom=>True
 |_=>False
theorem rk.mono{Hid:Loc->Prop}{B C:Nat}{e:dR}(h:rk Hid B e)(c:B<=C):rk Hid C e:=by
 obtain⟨b,f,d⟩:=e;cases b with
 |cell a=>exact⟨h.1,pA h.2.1 c,h.2.2⟩
 |obj r=>exact⟨pA h.1 c,h.2⟩
 |mark m=>cases m<;>exact h
 |output=>exact h
 |goroutines=>exact h
def re(w:ax)(t:Nat->Question->Nat)(d:Nat):ax:={w with tape:=t,drawn:=d}
def uK(p:aD){α:Type}(s:Sem α)(w:ax)(v:α)(b:ax):Prop:=∃n a,b=re a w.tape (w.drawn+n)/\∀t d,(∀i,i<n->∀q,t (d+i) q=w.tape (w.drawn+i) q)->s.run p (re w t d)=.ok v (re a t (d+n))
theorem uK.congr{p:aD}{α:Type}{s s2:Sem α}{a:ax}{v:α}(h:∀t d,s.run p (re w t d)=s2.run p (re w t d))(l:uK p s2 w v a):uK p s w v a:=by
 obtain⟨n,f,b,c⟩:=l;exact⟨n,f,b,λt d e=>(h t d).trans (c t d e)⟩
theorem AL{p:aD}{α:Type}{s:Sem α}{a:ax}{v:α}(h:∀t d,s.run p (re w t d)=.ok v (re a t d))(c:a.tape=w.tape)(b:a.drawn=w.drawn):uK p s w v a:=⟨0,a,by rw[<-c,Nat.add_zero,<-b];rfl,λt d _=>h t d⟩
theorem uK.bind{p:aD}{α β:Type}{s:Sem α}{k:α->Sem β}{c:ax}{v:α}{u:β}(l:uK p s w v c)(m:uK p (k v) c u e):uK p (s>>=k) w u e:=by
 obtain⟨n,x,rfl,h⟩:=l;obtain⟨m,f,rfl,o⟩:=m;refine⟨n+m,f,by simp[re,zF],λt d b=>?_⟩;have g:(s>>=k).run p (re w t d)=(s.run p (re w t d)).andThen λa r=>(k a).run p r:=zI _ s k _;rw[g,h t d λi j q=>b i ah q];show(k v).run p (re x t (d+n))=_;have:=o t (d+n) λi j q=>by
  have:=b (n+i) ah q;rw[zF,this];show w.tape (w.drawn+(n+i)) q=w.tape (w.drawn+n+i) q;rw[zF]
 rw[zF]at this;exact this
section
variable (P:aD)(fs:af dK)(fx:Obj->Prop)(Hid:Loc->Prop)
def Ends{α:Type}(S:Sem α)(w W b:ax)(v:α):Prop:=∃a c,(∀es,S.runT P W es=(.ok v a,es++c))/\Rel fx Hid b a/\iS w W b a/\∀e∈c,rk Hid b.heap.size e
def pG{α:Type}(rs:ae Nat)(s S:Sem α):Prop:=∀w W,Rel fx Hid w W->(∀r,r∈rs->IT w r)->(∀v a,s.run (Lo P fs) w=.ok v a->Ends P fx Hid S w W a v/\uK (Lo P fs) s w v a)/\∀x a,s.run (Lo P fs) w=.halt x a->tF fx a
abbrev Sm{α:Type}(rs:ae Nat)(s:Sem α):Prop:=pG P fs fx Hid rs s s
def mz{α:Type}(s:Sem α):Prop:=∀w,(∀v a,s.run (Lo P fs) w≠.ok v a)/\∀fx x a,s.run (Lo P fs) w=.halt x a->tF fx w->tF fx a
def ot{α:Type}(s:Sem α):Prop:=∀fx w,tF fx w->(∀v a,s.run (Lo P fs) w=.ok v a->tF fx a)/\∀x a,s.run (Lo P fs) w=.halt x a->tF fx a
end
section
variable {P:aD}{fs:af dK}{fx:Obj->Prop}{Hid:Loc->Prop}{α β:Type}{rs:ae Nat}
theorem mz.kH{s S:Sem α}(h:mz P fs s):pG P fs fx Hid rs s S:=λw _ b _=>⟨λv a e=>absurd e ((h w).1 v a),λx a e=>(h w).2 fx x a e b.Fq⟩
theorem M4(h:Halt):mz P fs (.halt h:Sem α):=λw=>⟨λv b e=>(by cases e),λfx x b e a=>(by cases e;exact a)⟩
theorem fL(s:String):mz P fs (stuck s:Sem α):=M4 _
theorem tP(u:Unsupported):mz P fs (unsupported u:Sem α):=M4 _
theorem M3(v:ag):mz P fs (goPanic v:Sem α):=M4 _
theorem mz.bind{s:Sem α}{k:α->Sem β}(h:mz P fs s):mz P fs (s>>=k):=λw=>by
 have d:(s>>=k).run (Lo P fs) w=(s.run (Lo P fs) w).andThen λa b=>(k a).run (Lo P fs) b:=zI _ s k w;rw[d];cases hc:s.run (Lo P fs) w with
 |ok v c=>exact absurd hc ((h w).1 v c)
 |halt x c=>exact⟨λv b e=>(by cases e),λfx y b e f=>(by cases e;exact(h w).2 fx _ _ hc f)⟩
theorem Bu{s:Sem α}{k:α->Sem β}(f:ot P fs s)(h:∀v,mz P fs (k v)):mz P fs (s>>=k):=λw=>by
 have i:(s>>=k).run (Lo P fs) w=(s.run (Lo P fs) w).andThen λa b=>(k a).run (Lo P fs) b:=zI _ s k w;rw[i];cases hc:s.run (Lo P fs) w with
 |ok g d=>exact⟨λv b e=>(h g d).1 v b e,λfx y b e c=>(h g d).2 fx y b e ((f fx w c).1 _ _ hc)⟩
 |halt x d=>exact⟨λv b e=>(by cases e),λfx y b e c=>(by cases e;exact(f fx w c).2 _ _ hc)⟩
theorem uu(a:α):ot P fs (Pure.pure a:Sem α):=λfx w b=>⟨λv c e=>(by cases e;exact b),λx c e=>(by cases e)⟩
theorem VX:ot P fs program:=λfx w a=>⟨λv b e=>(by cases e;exact a),λx b e=>(by cases e)⟩
theorem tj{s:Sem α}{k:α->Sem β}(d:ot P fs s)(h:∀v,ot P fs (k v)):ot P fs (s>>=k):=λfx w c=>by
 have g:(s>>=k).run (Lo P fs) w=(s.run (Lo P fs) w).andThen λa b=>(k a).run (Lo P fs) b:=zI _ s k w;rw[g];cases hc:s.run (Lo P fs) w with
 |ok i f=>exact h i fx f ((d fx w c).1 _ _ hc)
 |halt x f=>exact⟨λv b e=>(by cases e),λy b e=>(by cases e;exact(d fx w c).2 _ _ hc)⟩
theorem mz.VW{s:Sem α}(h:mz P fs s):ot P fs s:=λfx w b=>⟨λv a e=>absurd e ((h w).1 v a),λx a e=>(h w).2 fx x a e b⟩
theorem ayR(t:aK)(c:af ag):ot P fs (newRow t c):=λfx w f=>⟨λv g e=>(by
 cases e;intro b d a;simp only[Gn]at a;split at a
 ·cases a
 ·exact f b d a),λx g e=>(by cases e)⟩
theorem ayN(q:Question):ot P fs (choose q):=λfx w b=>by
 have c:(choose q).run (Lo P fs) w=if q.forced=U then .ok 0 w else .ok (q.cut (w.tape w.drawn q)) {w with drawn:=w.drawn+1}:=by
  simp only[choose,bP]
 rw[c];split
 ·exact⟨λv a e=>(by cases e;exact b),λx a e=>(by cases e)⟩
 ·exact⟨λv a e=>(by cases e;exact b),λx a e=>(by cases e)⟩
theorem ayV(t:aK):ot P fs (underlying t):=by
 unfold underlying;refine tj VX λp=>?_;split
 ·exact uu _
 ·exact(fL _).VW
theorem ayO(t:aK):ot P fs (elemOf t):=by
 unfold elemOf;refine tj (ayV t) λp=>?_;split<;>first|exact uu _|exact(fL _).VW
theorem sB(r:RuntimeError):mz P fs (runtimePanic r:Sem α):=by
 unfold runtimePanic;refine Bu VX λp=>?_;cases r<;>first|exact M3 _|exact Bu (ayO _) λ_=>Bu (ayR _ _) λ_=>M3 _
theorem ahA(k:IntKind)(x y:Int)(c:BoundsCode):mz P fs (boundsPanic k x y c:Sem α):=by
 unfold boundsPanic;dsimp only
 split
 ·exact Bu (tj (ayN _) λ_=>uu _) λ_=>sB _
 ·exact Bu (uu _) λ_=>sB _
theorem Mj{S:Sem α}{v:α}(a:Rel fx Hid w W)(h:∀es,S.runT P W es=(.ok v W,es)):Ends P fx Hid S w W w v:=⟨W,#[],λes=>by rw[h];simp,a,iS.refl _ _,by simp⟩
theorem Eb{s S:Sem α}(c:∀w W,Rel fx Hid w W->(∀r,r∈rs->IT w r)->∀v a,s.run (Lo P fs) w=.ok v a->Ends P fx Hid S w W a v/\uK (Lo P fs) s w v a)(hh:∀w x a,s.run (Lo P fs) w=.halt x a->a=w):pG P fs fx Hid rs s S:=λw W b d=>⟨c w W b d,λx a e=>by rw[hh w x a e];exact b.Fq⟩
theorem br(a:α):Sm P fs fx Hid rs (Pure.pure a):=λw W h _=>⟨λv b e=>by
 cases e;exact⟨Mj h λ_=>rfl,AL (λ_ _=>rfl) F F⟩,λx b e=>by cases e⟩
theorem PD(h:Halt):Sm P fs fx Hid rs (Sem.halt h:Sem α):=(M4 h).kH
theorem dz(s:String):Sm P fs fx Hid rs (stuck s:Sem α):=PD _
theorem lC(u:Unsupported):Sm P fs fx Hid rs (unsupported u:Sem α):=PD _
theorem awJ(v:ag):Sm P fs fx Hid rs (goPanic v:Sem α):=PD _
theorem xT(r:RuntimeError):Sm P fs fx Hid rs (runtimePanic r:Sem α):=(sB r).kH
theorem adl(k:IntKind)(x y:Int)(c:BoundsCode):Sm P fs fx Hid rs (boundsPanic k x y c:Sem α):=(ahA k x y c).kH
theorem adj{s S:Sem α}{k K:α->Sem β}(m:pG P fs fx Hid rs s S)(D:∀v w f,s.run (Lo P fs) w=.ok v f->pG P fs fx Hid rs (k v) (K v)):pG P fs fx Hid rs (s>>=k) (S>>=K):=by
 intro w W l d;have y:(s>>=k).run (Lo P fs) w=(s.run (Lo P fs) w).andThen λa f=>(k a).run (Lo P fs) f:=zI _ s k w;have z:∀es,(S>>=K).runT P W es=_:=λes=>Sem.runT_bind' P S K W es;rw[y];cases hc:s.run (Lo P fs) w with
 |ok v c=>
  obtain⟨⟨t,L,B,A,j,J⟩,G⟩:=(m w W l d).1 v c hc;have i:=D v w c hc c t A (λr E=>j.even (d r E));refine⟨λn b e=>?_,λx b e=>i.2 x b e⟩;obtain⟨⟨u,q,p,M,g,o⟩,H⟩:=i.1 n b e;exact⟨⟨u,L++q,λes=>by rw[z,B];simp only;rw[p,Ee],M,j.trans g,λe C=>(Array.mem_append.1 C).elim (λh=>(J e h).mono g.size) (o e)⟩,G.bind H⟩
 |halt h c=>exact⟨λn b e=>(by cases e),λx b e=>(by cases e;exact(m w W l d).2 _ _ hc)⟩
theorem avJ{s S:Sem α}{k K:α->Sem β}(b:pG P fs fx Hid rs s S)(a:∀v,pG P fs fx Hid rs (k v) (K v)):pG P fs fx Hid rs (s>>=k) (S>>=K):=adj b λv _ _ _=>a v
theorem bh{s:Sem α}{k:α->Sem β}(b:Sm P fs fx Hid rs s)(a:∀v,Sm P fs fx Hid rs (k v)):Sm P fs fx Hid rs (s>>=k):=avJ b a
theorem jW{c:Prop} [Decidable c]{s t:Sem α}(a:c->Sm P fs fx Hid rs s)(b:¬c->Sm P fs fx Hid rs t):Sm P fs fx Hid rs (if c then s else t):=by
 split
 ·exact a ‹_›
 ·exact b ‹_›
theorem oc{k:aD->Sem α}(f:k (Lo P fs)=k P)(h:Sm P fs fx Hid rs (k P)):Sm P fs fx Hid rs (program>>=k):=λw W d c=>by
 have b:∀w,(program>>=k).run (Lo P fs) w=(k P).run (Lo P fs) w:=λw=>by
  show(k (Lo P fs)).run (Lo P fs) w=_;rw[f]
 rw[b];refine⟨λv a e=>?_,λx a e=>(h w W d c).2 x a e⟩;obtain⟨x,l⟩:=(h w W d c).1 v a e;exact⟨x,l.congr λ_ _=>b _⟩
theorem Co(t:aK):Sm P fs fx Hid rs (typeInfo t):=by
 refine oc F ?_;split
 ·exact br _
 ·exact dz _
theorem pZ(t:aK):Sm P fs fx Hid rs (underlying t):=by
 refine oc F ?_;split
 ·exact br _
 ·exact dz _
theorem xU(t:aK):Sm P fs fx Hid rs (sizeOf t):=bh (Co t) λ_=>br _
theorem VO(t:aK):Sm P fs fx Hid rs (zeroValue t):=bh (Co t) λi=>by
 split
 ·exact br _
 ·exact lC _
theorem adF(t:aK):Sm P fs fx Hid rs (isAgg t):=bh (pZ t) λ_=>by
 split<;>exact br _
theorem VM(t:aK):Sm P fs fx Hid rs (typeStr t):=bh (Co t) λ_=>jW (λ_=>lC _) λ_=>br _
theorem Rel.cell(h:Rel fx Hid w W)(b:w.cell? a=Z v):W.cell? a=Z v/\a.block<w.heap.size/\¬Hid (.cell a):=by
 refine⟨?_,?_,λi=>by rw[(h.m9 a i).2]at b;cases b⟩
 ·unfold fU at b⊢
  split at b
  ·rename_i c _ _ e
   obtain⟨O,f,g⟩:=h.obj _ _ e;rw[f];cases g with
   |same=>exact b
   |cut c d t k j l=>
    simp only at b⊢;split at b
    ·cases b
    ·rw[if_neg ‹_›]
     have:a.off<c.size:=(iy.1 b).1;rw[<-j _ this];exact b
  ·cases b
 ·unfold fU at b
  split at b
  ·rename_i e
   exact(iy.1 e).1
  ·cases b
theorem Rel.lt(_:Rel fx Hid w W){b:Nat}{o:Obj}(a:w.heap[b]?=Z o):b<w.heap.size:=(iy.1 a).1
theorem seen_spot(p:aD)(w:ax)(u:aK)(k:aU)(a:Bool):∃e,w.seen p ⟨0,0,Z 0⟩ u k a=.error e:=by
 unfold World.seen;rw[if_pos ba];exact⟨_,F⟩
theorem azH(p:aD)(w:ax)(u:aK)(k:aU)(a:Bool):∃e,w.viewLoad p ⟨0,0,Z 0⟩ u k a=.error e:=by
 obtain⟨e,b⟩:=seen_spot p w u k a;unfold World.viewLoad;rw[b];exact⟨_,F⟩
theorem azI(p:aD)(w:ax)(u:aK)(k:aU)(v:ag)(a:Bool):∃e,w.viewStore p ⟨0,0,Z 0⟩ u k v a=.error e:=by
 obtain⟨e,c⟩:=seen_spot p w u k a;unfold World.viewStore;by_cases b:(!tight p p.depth u)=U
 ·rw[if_pos b]
  exact⟨_,F⟩
 ·rw[if_neg b,c]
  exact⟨_,F⟩
theorem Rel.G9(h:Rel fx Hid w W)(p:aD)(b:Bool):(∀r,w.farLoad p a b≠.ok r)/\∀v r,w.farStore p a v b≠.ok r:=by
 unfold World.farLoad World.farStore;cases hb:w.heap[a.block]? with
 |none=>exact⟨λr=>ba,λv r=>ba⟩
 |some o=>
  obtain⟨O,_,d⟩:=h.obj _ _ hb;cases d with
  |same _ f=>cases o<;>first|exact f.elim|exact⟨λr=>ba,λv r=>ba⟩
  |cut=>exact⟨λr=>ba,λv r=>ba⟩
  |k8=>exact⟨λr=>ba,λv r=>ba⟩
  |view u O g=>
   refine⟨λr=>?_,λx r=>?_⟩
   ·obtain⟨e,c⟩:=azH p w u a b
    simp only[c];simp
   ·obtain⟨e,c⟩:=azI p w u a x b
    simp only[c];simp
theorem adI(a:aU):Sm P fs fx Hid rs (load a):=λw W h _=>by
 rw[run_load];cases hc:w.cell? a with
 |some x=>
  refine⟨λv b e=>?_,λx b e=>by cases e⟩;cases e;obtain⟨f,g,i⟩:=h.cell hc;exact⟨⟨W,#[⟨.cell a,Y,Y⟩],λes=>(by simp only[load,nM,f];rfl),h,iS.refl _ _,λe c=>(by simp at c;subst c;exact⟨i,g,F⟩)⟩,AL (λt d=>by rw[run_load];have:(re w t d).cell? a=Z x:=hc;rw[this]) F F⟩
 |none=>
  simp only
  cases hf:w.farLoad (Lo P fs) a (Mode.plain==Mode.atomic)with
  |ok r=>exact absurd hf ((h.G9 _ _).1 _)
  |error x=>exact⟨λv b e=>(by cases e),λx b e=>(by cases e;exact h.Fq)⟩
theorem kQ(h:w.cell? a=Z v):∃c t f,w.heap[a.block]?=Z (.cells c t f)/\a.spot=I/\a.off<c.size/\c[a.off]?=Z v:=by
 unfold fU at h;split at h
 ·rename_i c t f b
  split at h
  ·cases h
  ·rename_i d
   exact⟨c,t,f,b,by simpa using d,(iy.1 h).1,h⟩
 ·cases h
theorem heap_setCell{c:af ag}{f:Nat×Nat}(h:w.heap[a.block]?=Z (.cells c t f))(e:a.spot=I)(v:ag)(b:Nat):(w.setCell a v).heap[b]?=if b=a.block then Z (.cells (c.setIfInBounds a.off v) t f)else w.heap[b]?:=by
 unfold World.setCell;simp only[Gm];by_cases d:a.block=b
 ·subst d
  simp[h,e]
 ·simp[d,Ne.symm d]
theorem size_setCell(w:ax)(a:aU)(v:ag):(w.setCell a v).heap.size=w.heap.size:=by simp[World.setCell]
theorem ED{c:af ag}{f:Nat×Nat}(h:w.heap[a.block]?=Z (.cells c t f)):w.cell? a=if a.spot.isSome then I else c[a.off]?:=by
 simp[fU,h]
theorem zZ(h:w.cell? a=Z x)(v:ag)(b:aU):(w.setCell a v).cell? b=if b=a then Z v else w.cell? b:=by
 obtain⟨c,t,f,j,k,l,_⟩:=kQ h;have d:=heap_setCell j k v b.block;by_cases e:b=a
 ·subst e
  rw[if_pos F]at d;rw[ED d,if_pos F,k];simp[l]
 ·rw[if_neg e]
  by_cases g:b.block=a.block
  ·rw[if_pos g]at d
   rw[ED d,ED (g▸j)];by_cases i:b.spot.isSome
   ·simp[i]
   ·simp only[i]
    have:a.off≠b.off:=λm=>e (by
     cases a;cases b;simp_all)
    simp[iK this]
  ·rw[if_neg g]at d
   simp[fU,d]
theorem zp(h:w.cell? a=Z x)(v:ag)(b:Nat):(w.setCell a v).shape? b=w.shape? b:=by
 obtain⟨c,t,f,d,g,i,_⟩:=kQ h;unfold fF;rw[heap_setCell d g v b];by_cases e:b=a.block
 ·subst e;simp[d]
 ·simp[e]
theorem Rel.setCell(h:Rel fx Hid w W)(g:w.cell? a=Z x)(v:ag):Rel fx Hid (w.setCell a v) (W.setCell a v)/\iS w W (w.setCell a v) (W.setCell a v):=by
 have p:=(h.cell g).1;obtain⟨c,t,f,l,D,K,_⟩:=kQ g;obtain⟨C,T,F,A,_,G,_⟩:=kQ p;have k:=heap_setCell l D v;have m:=heap_setCell A D v;refine⟨⟨by rw[size_setCell,size_setCell];exact h.size,h.tape,h.drawn,h.os,h.output,λb o d=>?_,λb d=>?_,λr M=>?_⟩,⟨Nat.le_of_eq (size_setCell ..).symm,rfl,dt _,rfl,λb o d q=>?_,λb d s=>?_,λb _=>⟨zp g v b,zp p v b⟩,λb o d q=>?_⟩⟩
 ·rw[k]at d
  by_cases e:b=a.block
  ·subst e
   rw[if_pos rfl]at d;cases d;refine⟨_,by rw[m,if_pos rfl],?_⟩;obtain⟨O,B,H⟩:=h.obj _ _ l;rw[A]at B;cases B;cases H with
   |same _ L=>exact .same _ L
   |cut _ _ _ E J aC=>
    refine .cut _ _ _ (by simpa using E) (λi z=>?_) (by simpa using aC);simp only[ra]at z;rw[uF,uF,J i z];by_cases y:a.off=i
    ·subst y;simp[K,G]
    ·simp[y]
  ·rw[if_neg e]at d
   rw[m,if_neg e];exact h.obj b o d
 ·obtain⟨n,j⟩:=h.m9 b d
  refine⟨by rw[size_setCell];exact n,?_⟩;rw[zZ g,if_neg (λe=>by rw[e,g]at j;cases j),j]
 ·obtain⟨n,j⟩:=h.pM r M
  refine⟨by rw[size_setCell];exact n,λo u=>?_⟩;rw[k]at u;by_cases e:r=a.block
  ·subst e
   exact absurd (j _ l) (by simp[Obj.isChan])
  ·rw[if_neg e]at u
   exact j o u
 ·have e:b≠a.block:=λe=>by subst e;rw[l]at d;cases d;simp[qS]at q
  rw[k,m,if_neg e,if_neg e];exact⟨d,rfl⟩
 ·have e:b≠a:=λe=>by rw[e,g]at s;cases s
  rw[zZ g,zZ p,if_neg e,if_neg e];exact⟨s,rfl⟩
 ·rw[k]at d
  by_cases e:b=a.block
  ·subst e;rw[if_pos rfl]at d;cases d;simp[qS]at q
  ·rwa[if_neg e]at d
theorem Rel.frozen(h:Rel fx Hid w W)(g:w.cell? a=Z x):W.frozen? a=w.frozen? a:=by
 obtain⟨c,t,f,b,j,i,_⟩:=kQ g;obtain⟨O,d,e⟩:=h.obj _ _ b;unfold qj;rw[b,d];cases e<;>rfl
theorem axC(a:aU)(v:ag):Sm P fs fx Hid rs (store a v):=by
 refine Eb (λw W h _ u q e=>?_) λw x q e=>?_;by_cases b:v.oneCell'=U
 ·rw[run_store _ _ _ _ _ b]at e
  cases hc:w.cell? a with
  |some x=>
   rw[hc]at e;simp only at e;by_cases c:w.frozen? a=U
   ·rw[if_pos c]at e;cases e
   ·rw[if_neg c]at e
    cases e;obtain⟨k,l,m⟩:=h.cell hc;obtain⟨o,p⟩:=h.setCell hc v;have n:¬W.frozen? a=U:=by rw[h.frozen hc];exact c
    refine⟨⟨W.setCell a v,#[⟨.cell a,U,Y⟩],λes=>?_,o,p,λe g=>?_⟩,AL (λt d=>?_) F F⟩
    ·rw[jN,run_store _ _ _ _ _ b,events_store _ _ _ _ _ _ b,k]
     simp only[if_neg n];rfl
    ·simp at g;subst g;exact⟨m,by rw[size_setCell];exact l,F⟩
    ·rw[run_store _ _ _ _ _ b]
     have i:(re w t d).cell? a=Z x:=hc;have j:¬(re w t d).frozen? a=U:=c;rw[i];simp only[if_neg j];rfl
  |none=>
   rw[hc]at e;simp only at e;cases c:w.farStore (Lo P fs) a v (Mode.plain==Mode.atomic)with
   |ok r=>exact absurd c ((h.G9 _ _).2 _ _)
   |error x=>rw[c]at e;cases e
 ·have:∃s,(store a v).run (Lo P fs) w=.halt (.stuck s) w:=by
   cases v<;>first|exact absurd rfl b|exact⟨_,rfl⟩
  obtain⟨s,f⟩:=this;rw[f]at e;cases e
 ·by_cases b:v.oneCell'=U
  ·rw[run_store _ _ _ _ _ b]at e
   split at e
   ·split at e<;>cases e
    rfl
   ·split at e<;>cases e
    rfl
  ·have:∃s,(store a v).run (Lo P fs) w=.halt (.stuck s) w:=by
    cases v<;>first|exact absurd rfl b|exact⟨_,rfl⟩
   obtain⟨s,f⟩:=this;rw[f]at e;cases e;rfl
theorem getElem?_push(a:af Obj)(o:Obj)(b:Nat):(a.push o)[b]?=if b=a.size then Z o else a[b]?:=by
 rw[Gn]
theorem Plain.even{fx:Obj->Prop}{o:Obj}(h:Plain fx o):qS o=Y:=by
 cases o<;>first|rfl|exact h.elim
theorem Rel.push(h:Rel fx Hid w W){o:Obj}(l:Plain fx o):Rel fx Hid {w with heap:=w.heap.push o} {W with heap:=W.heap.push o}/\iS w W {w with heap:=w.heap.push o} {W with heap:=W.heap.push o}:=by
 have c:∀b,b<w.heap.size->(w.heap.push o)[b]?=w.heap[b]?:=λb a=>by rw[getElem?_push,if_neg ah]
 have f:∀b,b<w.heap.size->(W.heap.push o)[b]?=W.heap[b]?:=λb a=>by rw[getElem?_push,if_neg (by rw[<-h.size];omega)]
 refine⟨⟨by simp[h.size],h.tape,h.drawn,h.os,h.output,λb d a=>?_,λb a=>?_,λr n=>?_⟩,⟨by simp,F,dt _,F,λb d a j=>?_,λb a k=>?_,λb a=>?_,λb d a j=>?_⟩⟩
 ·simp only at a⊢
  rw[getElem?_push]at a⊢;rw[<-h.size];by_cases e:b=w.heap.size
  ·rw[if_pos e]at a⊢
   cases a;exact⟨_,F,.same _ l⟩
  ·rw[if_neg e]at a⊢
   exact h.obj b d a
 ·obtain⟨g,i⟩:=h.m9 b a
  refine⟨by simp;omega,?_⟩;unfold fU at i⊢;simp only
  rwa[c _ g]
 ·obtain⟨g,i⟩:=h.pM r n
  refine⟨by simp;omega,λd m=>i d ?_⟩;rwa[c _ g]at m
 ·have aC:=h.lt a
  exact⟨by rw[c _ aC];exact a,f _ aC⟩
 ·unfold fU at k⊢
  simp only
  rw[c _ a,f _ a];exact⟨k,F⟩
 ·unfold fF
  simp only
  rw[c _ a,f _ a];exact⟨F,F⟩
 ·simp only at a
  rw[getElem?_push]at a;by_cases e:b=w.heap.size
  ·rw[if_pos e]at a
   cases a;rw[l.even]at j;cases j
  ·rwa[if_neg e]at a
theorem AW{o:Obj}(c:Plain fx o):Sm P fs fx Hid rs (newObj o):=by
 refine Eb (λw W h _ v f e=>?_) λw x f e=>by rw[run_newObj]at e;cases e
 rw[run_newObj]at e;cases e;obtain⟨a,b⟩:=h.push c;exact⟨⟨_,#[],λes=>by rw[h.size];rfl,a,b,by simp⟩,AL (λt d=>by rw[run_newObj];rfl) F F⟩
theorem adO(t:aK)(c:af ag):Sm P fs fx Hid rs (newRow t c):=bh (AW trivial) λ_=>br _
theorem aw8(t:aK)(v:ag):Sm P fs fx Hid rs (newVar t v):=adO t _
theorem Iv(q:Question):Sm P fs fx Hid rs (choose q):=by
 refine Eb (λw W h _ v g e=>?_) λw x g e=>by rw[run_choose]at e;split at e<;>cases e
 rw[run_choose]at e;by_cases a:q.forced=U
 ·rw[if_pos a]at e
  cases e;exact⟨Mj h λes=>(by simp only[choose,nM,a,if_true]),AL (λt d=>by rw[run_choose,if_pos a]) F F⟩
 ·rw[if_neg a]at e
  cases e;refine⟨⟨{W with drawn:=W.drawn+1},#[],λes=>?_,⟨h.size,h.tape,by simp[h.drawn],h.os,h.output,h.obj,h.m9,h.pM⟩,⟨dt _,F,by simp,F,λ_ _ b _=>⟨b,F⟩,λ_ _ f=>⟨f,F⟩,λ_ _=>⟨F,F⟩,λ_ _ b _=>b⟩,by simp⟩,1,w,F,λt d c=>?_⟩;simp only[choose,nM,if_neg a,h.tape,h.drawn];simp
  ·have:=c 0 ah q
   simp only[Nat.add_zero]at this;rw[run_choose,if_neg a];show Result.ok (q.cut (t d q)) _=_;rw[this];rfl
theorem aw1:Sm P fs fx Hid rs (mark .noRoom):=Eb (hh:=λw x a e=>by cases e) λw W h _ v a e=>by
 cases e;exact⟨⟨W,#[⟨.mark .noRoom,Y,U⟩],λes=>rfl,h,iS.refl _ _,by simp[rk]⟩,AL (λ_ _=>rfl) F F⟩
theorem awZ(f:cH):Sm P fs fx Hid rs (mark (.extern f)):=Eb (hh:=λw x a e=>by cases e) λw W h _ v a e=>by
 cases e;exact⟨⟨W,#[⟨.mark (.extern f),Y,U⟩],λes=>rfl,h,iS.refl _ _,by simp[rk]⟩,AL (λ_ _=>rfl) F F⟩
theorem avT(n:Nat):Sm P fs fx Hid rs (askRoom n):=by
 unfold askRoom;exact jW (λ_=>aw1) λ_=>br _
def mK:Obj->Bool
 |.cells .. =>U
 |_=>Y
theorem awI{r:Nat}{k:Obj->Sem β}(n:∀o,Plain fx o->Sm P fs fx Hid (r::rs) (k o))(m:∀o,qS o=U->mz P fs (k o))(w W:ax)(h:Rel fx Hid w W)(j:∀r,r∈rs->IT w r)(x:Halt)(a:ax)(e:(j4 r>>=k).run (Lo P fs) w=.halt x a):tF fx a:=by
 have i:(j4 r>>=k).run (Lo P fs) w=(wP r k).run (Lo P fs) w:=rfl;rw[i]at e;unfold bP at e;cases hb:w.heap[r]? with
 |none=>rw[hb]at e;cases e;exact h.Fq
 |some o=>
  rw[hb]at e;by_cases d:mK o=U
  ·cases o<;>first|exact absurd d jL|(cases e;exact h.Fq)
  ·have f:(k o).run (Lo P fs) w=.halt x a:=by
    cases o<;>first|exact absurd rfl d|exact e
   by_cases b:qS o=U
   ·exact(m o b w).2 fx x a f h.Fq
   ·obtain⟨O,s,l⟩:=h.obj _ _ hb
    cases l with
    |cut=>exact absurd F d
    |k8=>exact absurd F b
    |view=>exact absurd F b
    |same _ p=>
     exact(n o p w W h (λq c=>by
      rcases bM.1 c with rfl|c
      ·exact⟨h.lt hb,λt g=>by rw[hb]at g;cases g;simpa using b⟩
      ·exact j q c)).2 x a f
theorem wu{r:Nat}{k:Obj->Sem β}(q:∀o,Plain fx o->Sm P fs fx Hid (r::rs) (k o))(p:∀o,qS o=U->mz P fs (k o)):Sm P fs fx Hid rs (j4 r>>=k):=by
 intro w W h n;refine⟨λv b e=>?_,λx b e=>?_⟩
 rotate_left
 ·exact awI q p w W h n x b e
 have C:(j4 r>>=k).run (Lo P fs) w=(wP r k).run (Lo P fs) w:=rfl;rw[C]at e;unfold bP at e;cases hb:w.heap[r]? with
 |none=>rw[hb]at e;cases e
 |some o=>
  rw[hb]at e;by_cases a:qS o=U
  ·have i:=(p o a w).1 v b
   cases o<;>first|exact absurd a jL|exact absurd e i
  ·obtain⟨O,E,G⟩:=h.obj _ _ hb
   cases G with
   |cut=>cases e
   |k8=>exact absurd F a
   |view=>exact absurd F a
   |same _ s=>
    have N:¬Hid (.obj r):=λK=>by
     have:=(h.pM r K).2 o hb;cases o<;>simp_all[Obj.isChan,qS]
    have A:=(q o s w W h (λM j=>by
     rcases bM.1 j with rfl|j
     ·exact⟨h.lt hb,λS u=>by rw[hb]at u;cases u;simpa using a⟩
     ·exact n M j)).1 v b
    by_cases f:mK o=U
    ·cases o<;>first|exact absurd f jL|cases e
    have B:(k o).run (Lo P fs) w=.ok v b:=by
     cases o<;>first|exact absurd rfl f|exact e
    obtain⟨⟨z,Q,H,R,m,y⟩,L⟩:=A B;have g:∀t d,(j4 r>>=k).run (Lo P fs) (re w t d)=(k o).run (Lo P fs) (re w t d):=λt d=>by
     show(wP r λo=>k o).run (Lo P fs) (re w t d)=_;have D:(re w t d).heap[r]?=Z o:=hb;simp only[bP,D];cases o<;>first|rfl|exact absurd rfl f
    have l:∀es,(j4 r>>=k).runT P W es=(k o).runT P W (es.push ⟨.obj r,Y,Y⟩):=λes=>by
     show(wP r λo=>k o).runT P W es=_;simp only[nM,E];cases o<;>first|rfl|exact absurd rfl f|exact s.elim
    refine⟨⟨z,#[⟨.obj r,Y,Y⟩]++Q,λes=>?_,R,m,λe J=>?_⟩,L.congr g⟩
    ·rw[l,H];simp
    ·rcases Array.mem_append.1 J with c|c
     ·simp at c;subst c
      exact⟨pA (h.lt hb) m.size,.inl ⟨N,rfl⟩⟩
     ·exact y e c
theorem heap_set(a:af Obj)(r:Nat)(o:Obj)(b:Nat):(a.setIfInBounds r o)[b]?=if b=r/\r<a.size then Z o else a[b]?:=by
 rw[uF];by_cases e:r=b
 ·subst e
  by_cases c:r<a.size<;>simp[c]
 ·simp[e,Ne.symm e]
theorem Ix{r:Nat}{o:Obj}(hm:r∈rs)(D:Plain fx o)(l:mK o=Y):Sm P fs fx Hid rs (setObj r o):=by
 refine Eb (λw W h X v w' e=>?_) λw x w' e=>?_
 rotate_left
 ·have k:(setObj r o).run (Lo P fs) w=match w.heap[r]? with
   |some (.cells ..)=>.halt (.stuck "setObj: a row of cells") w
   |some _=>.ok () {w with heap:=w.heap.setIfInBounds r o}
   |none=>.halt (.stuck "setObj: no such block") w:=rfl
  rw[k]at e;split at e<;>cases e<;>rfl
 have hE:=X r hm;have k:(setObj r o).run (Lo P fs) w=match w.heap[r]? with
  |some (.cells ..)=>.halt (.stuck "setObj: a row of cells") w
  |some _=>.ok () {w with heap:=w.heap.setIfInBounds r o}
  |none=>.halt (.stuck "setObj: no such block") w:=rfl
 obtain⟨f,g⟩:∃f,w.heap[r]?=Z f:=⟨_,xY hE.1⟩;have J:=hE.2 f g;obtain⟨O,C,hR⟩:=h.obj _ _ g;cases hR with
 |cut=>rw[k,g]at e;cases e
 |k8=>cases J
 |view=>cases J
 |same _ oZ=>
  by_cases m:mK f=U
  ·rw[k,g]at e
   cases f<;>first|exact absurd m jL|cases e
  ·have V:(setObj r o).run (Lo P fs) w=.ok () {w with heap:=w.heap.setIfInBounds r o}:=by
    rw[k,g];cases f<;>first|rfl|exact absurd rfl m
   have S:¬Hid (.obj r):=λi=>by
    have:=(h.pM r i).2 f g;cases f<;>simp_all[Obj.isChan,qS]
   rw[V]at e;cases e;have aC:=h.lt g;have B:r<W.heap.size:=h.size▸aC;have s1:=heap_set w.heap r o;have s2:=heap_set W.heap r o;have j:∀{b:Nat},b≠r->(w.heap.setIfInBounds r o)[b]?=w.heap[b]?:=λ{b}u=>by rw[s1,if_neg (λx=>u x.1)]
   have s:∀{b:Nat},b≠r->(W.heap.setIfInBounds r o)[b]?=W.heap[b]?:=λ{b}u=>by rw[s2,if_neg (λx=>u x.1)]
   have n:(w.heap.setIfInBounds r o)[r]?=Z o:=by rw[s1,if_pos ⟨F,aC⟩]
   have H:(W.heap.setIfInBounds r o)[r]?=Z o:=by rw[s2,if_pos ⟨F,B⟩]
   have c:∀{x:ax}{b:aU}{y:Obj},x.heap[b.block]?=Z y->mK y=Y->x.cell? b=I:=λ{x b y}E G=>by
    unfold fU;rw[E];cases y<;>first|rfl|cases G
   have q:∀{x:ax}{b:Nat}{y:Obj},x.heap[b]?=Z y->mK y=Y->x.shape? b=I:=λ{x b y}E G=>by
    unfold fF;rw[E];cases y<;>first|rfl|cases G
   have K:mK f=Y:=by simpa using m
   refine⟨⟨{W with heap:=W.heap.setIfInBounds r o},#[⟨.obj r,U,Y⟩],λes=>?_,⟨by simp[h.size],h.tape,h.drawn,h.os,h.output,λb p a=>?_,λb a=>?_,λR Q=>?_⟩,⟨by simp,rfl,dt _,rfl,λb p a i=>?_,λb a M=>?_,λb a=>?_,λb p a i=>?_⟩,λe L=>?_⟩,AL (λt d=>?_) rfl rfl⟩
   ·show(Sem.setObj r o (.pure ())).runT P W es=_
    simp only[nM,C];have T:o.isChan=Y:=by cases o<;>first|rfl|exact D.elim
    cases f<;>first|(simp only[T];rfl)|exact absurd rfl m
   ·simp only at a⊢
    by_cases e:b=r
    ·subst e
     rw[n]at a;cases a;exact⟨_,H,.same _ D⟩
    ·rw[j e]at a
     rw[s e];exact h.obj b p a
   ·obtain⟨z,A⟩:=h.m9 b a
    refine⟨by simpa using z,?_⟩;by_cases e:b.block=r
    ·exact c (by rw[e];exact n) l
    ·unfold fU at A⊢
     simp only
     rwa[j e]
   ·obtain⟨z,A⟩:=h.pM R Q
    refine⟨by simpa using z,λp N=>A p ?_⟩;have e:R≠r:=λe=>S (e▸Q);simp only at N;rwa[j e]at N
   ·have e:b≠r:=λe=>by subst e;rw[g]at a;cases a;rw[J]at i;cases i
    simp only
    rw[j e,s e];exact⟨a,F⟩
   ·by_cases e:b.block=r
    ·refine⟨c (by rw[e];exact n) l,?_⟩
     rw[c (x:={W with heap:=W.heap.setIfInBounds r o}) (by rw[e];exact H) l,c (x:=W) (by rw[e];exact C) K]
    ·unfold fU at M⊢
     simp only
     rw[j e,s e];exact⟨M,F⟩
   ·by_cases e:b=r
    ·subst e
     rw[q (x:={w with heap:=w.heap.setIfInBounds b o}) n l,q g K,q (x:={W with heap:=W.heap.setIfInBounds b o}) H l,q C K];exact⟨F,F⟩
    ·unfold fF
     simp only
     rw[j e,s e];exact⟨F,F⟩
   ·by_cases e:b=r
    ·subst e
     simp only at a;rw[n]at a;cases a;rw[D.even]at i;cases i
    ·simp only at a
     rwa[j e]at a
   ·simp at L;subst L
    exact⟨by simpa using aC,.inl ⟨S,F⟩⟩
   ·have a:(re w t d).heap[r]?=Z f:=g
    show(match(re w t d).heap[r]? with
     |some (.cells ..)=>Result.halt (.stuck "setObj: a row of cells") (re w t d)
     |some _=>.ok () {re w t d with heap:=(re w t d).heap.setIfInBounds r o}
     |none=>.halt (.stuck "setObj: no such block") (re w t d))=_
    rw[a];cases f<;>first|rfl|exact absurd rfl m
end
section
variable {P:aD}{fs:af dK}{fx:Obj->Prop}{Hid:Loc->Prop}{α β γ:Type}{X:ae Nat}
theorem adK(a:aU):∀(n i:Nat)(b:af ag),Sm P fs fx Hid X (loadCellsFrom a i n b)
 |0,_,_=>br _
 |n+1,i,_=>bh (adI _) λ_=>adK a n (i+1) _
theorem adJ(a:aU)(n:Nat):Sm P fs fx Hid X (loadCells a n):=adK a n 0 _
theorem VK(a:aU):∀(b:ae ag)(i:Nat),Sm P fs fx Hid X (storeCells a b i)
 |[],_=>br _
 |_::rest,i=>bh (axC _ _) λ_=>VK a rest (i+1)
theorem Vy(t:aK)(a:aU):Sm P fs fx Hid X (loadVar t a):=by
 unfold loadVar;refine bh (adF t) λb=>?_;split
 ·exact bh (xU t) λ_=>bh (adJ _ _) λ_=>br _
 ·exact adI a
theorem PF(t:aK)(a:aU)(v:ag):Sm P fs fx Hid X (storeVar t a v):=by
 unfold storeVar;refine bh (xU t) λn=>?_;dsimp only
 split
 ·exact(fL _).bind.kH
 ·exact VK _ _ _
theorem Vp(v:ag):Sm P fs fx Hid X (asIntOf v):=by
 unfold asIntOf;split
 ·exact br _
 ·exact lC _
 ·exact dz _
theorem Pz(v:ag):Sm P fs fx Hid X (asInt v):=bh (Vp v) λ_=>br _
theorem Vo(v:ag):Sm P fs fx Hid X (asBool v):=by
 unfold asBool;split
 ·exact br _
 ·exact dz _
theorem avR(v:ag):Sm P fs fx Hid X (asAgg v):=by
 unfold asAgg;split
 ·exact br _
 ·exact dz _
theorem axF(v:ag):Sm P fs fx Hid X (Instr.sureAddr v):=by
 unfold Instr.sureAddr;split
 ·exact br _
 ·exact dz _
theorem Vn(v:ag):Sm P fs fx Hid X (asAddr v):=by
 unfold asAddr;split
 ·exact br _
 ·exact xT _
 ·exact dz _
theorem wx(t:aK)(c:af ag)(a:Nat):Sm P fs fx Hid X (part t c a):=by
 unfold part;refine bh (adF t) λb=>?_;split
 ·exact bh (xU t) λ_=>br _
 ·split
  ·exact br _
  ·exact dz _
theorem VI{r:Nat}{k K:aj (aK×Nat)->Sem β}(j:∀e n m,n<=m->pG P fs fx Hid X (k (Z (e,n))) (K (Z (e,m))))(a:pG P fs fx Hid X (k I) (K I))(z:∀e n,0<n->pG P fs fx Hid X (k I) (K (Z (e,n)))):pG P fs fx Hid X (shape r>>=k) (shape r>>=K):=λw W h g=>by
 have q:(shape r>>=k).run (Lo P fs) w=(k (w.shape? r)).run (Lo P fs) w:=rfl;have B:∀es,(shape r>>=K).runT P W es=(K (W.shape? r)).runT P W es:=λ_=>rfl;have p:∀t d,(shape r>>=k).run (Lo P fs) (re w t d)=(k (w.shape? r)).run (Lo P fs) (re w t d):=λ_ _=>rfl;rw[q];have f:pG P fs fx Hid X (k (w.shape? r)) (K (W.shape? r)):=by
  cases hb:w.heap[r]? with
  |none=>
   have b:W.heap[r]?=I:=by
    rw[Ef]at hb⊢;rw[<-h.size];exact hb
   unfold fF;rw[hb,b];exact a
  |some o=>
   obtain⟨O,s,u⟩:=h.obj _ _ hb;unfold fF;rw[hb,s];cases u with
   |same _ E=>cases o<;>first|exact j _ _ _ (dt _)|exact a
   |cut c d t C D y=>exact j _ _ _ (Nat.le_of_lt y)
   |k8 _ _ _ _ _ _ _ i=>cases O<;>first|exact i.elim|exact z _ _ (Nat.pos_of_ne_zero i.1)|exact a
   |view _ _ b=>cases O<;>first|exact b.elim|exact a
 refine⟨λv A e=>?_,(f w W h g).2⟩;obtain⟨x,l⟩:=(f w W h g).1 v A e;exact⟨x,l.congr p⟩
theorem ady(a:aU):Sm P fs fx Hid X (frozen a):=Eb (hh:=λw x i e=>by rw[run_frozen]at e;cases e) λw W h _ v i e=>by
 have d:w.frozen? a=W.frozen? a:=by
  unfold qj;cases hb:w.heap[a.block]? with
  |none=>
   have b:W.heap[a.block]?=I:=by
    rw[Ef]at hb⊢;rw[<-h.size];exact hb
   rw[b]
  |some o=>
   obtain⟨O,f,g⟩:=h.obj _ _ hb;rw[f];cases g with
   |same _ j=>rfl
   |cut=>rfl
   |k8 _ _ _ _ _ _ _ c=>
    cases O<;>first|exact c.elim|rfl|skip
    obtain⟨_,rfl⟩:=c;simp
   |view _ _ b=>cases O<;>first|exact b.elim|rfl
 rw[run_frozen]at e;cases e;refine⟨?_,AL (λ_ _=>rfl) rfl rfl⟩;rw[d];exact Mj h λes=>rfl
def nX(r:Nat)(d:γ)(f:Obj->γ):Sem γ:=Sem.shape r λs=>if s.isSome=U then qi d else wP r λo=>qi (f o)
theorem Ou(p:aD)(x:ax)(r:Nat)(d:γ)(f:Obj->γ)(es:af dR):(nX r d f).runT p x es=match x.heap[r]? with
  |some o=>if mK o=U then(.ok d x,es)else(.ok (f o) x,es.push ⟨.obj r,Y,o.isChan⟩)
  |none=>(.halt (.stuck "getObj: no such block") x,es):=by
 unfold nX;cases h:x.heap[r]? with
 |none=>simp[nM,fF,h,-jN]
 |some o=>cases o<;>simp[nM,fF,h,mK,-jN]
theorem Vz{r:Nat}{d:γ}{f:Obj->γ}{b:γ->Sem β}(V:∀v,Sm P fs fx Hid X (b v))(H:∀O,Wk O->(∀a u,O≠.view a u)->f O=d)
  (p:(∀a u,mz P fs (b (f (.view a u))))\/∀a u,f (.view a u)=d):
  Sm P fs fx Hid X (nX r d f>>=b):=by
 intro w W h S;refine⟨λv i e=>?_,λx i e=>?_⟩
 rotate_left
 ·have G:(nX r d f>>=b).run (Lo P fs) w=((nX r d f).run (Lo P fs) w).andThen λa i=>(b a).run (Lo P fs) i:=zI _ _ b w
  rw[G]at e;have B:=Ou (Lo P fs) w r d f #[];have j:=ya (Lo P fs) (nX r d f) w #[];cases hx:(nX r d f).run (Lo P fs) w with
  |ok v1 w1=>
   rw[hx]at e j;rw[B]at j;have:w1=w:=by
    split at j
    ·split at j<;>cases j<;>rfl
    ·cases j
   subst this;exact(V v1 _ W h S).2 x i e
  |halt y w1=>
   rw[hx]at e j;rw[B]at j;cases e;split at j
   ·split at j<;>cases j
   ·cases j;exact h.Fq
 have G:(nX r d f>>=b).run (Lo P fs) w=((nX r d f).run (Lo P fs) w).andThen λa i=>(b a).run (Lo P fs) i:=zI _ _ b w;have B:=Ou (Lo P fs) w r d f #[];have e2:∀es,(nX r d f>>=b).runT P W es=_:=λes=>Sem.runT_bind' P (nX r d f) b W es;have k:=λes=>Ou P W r d f es;rw[G,<-ya _ _ w #[],B]at e;cases hw:w.heap[r]? with
 |none=>rw[hw]at e;cases e
 |some o=>
  rw[hw]at e;obtain⟨O,C,hR⟩:=h.obj _ _ hw;rw[C]at k;simp only at k e;have aC:=h.lt hw;have e4:∀t n,(nX r d f).run (Lo P fs) (re w t n)=if mK o=U then .ok d (re w t n)else .ok (f o) (re w t n):=λt n=>by
   have iV:(re w t n).heap[r]?=Z o:=hw;rw[<-ya _ _ _ #[],Ou,iV];simp only
   split<;>rfl
  have fin:∀(g:γ)(E:af dR),g=(if mK o=U then d else f o)->(∀es,(nX r d f).runT P W es=(.ok g W,es++E))->(b g).run (Lo P fs) w=.ok v i->(∀e∈E,rk Hid w.heap.size e)->Ends P fx Hid (nX r d f>>=b) w W i v/\uK (Lo P fs) (nX r d f>>=b) w v i:=λg E xm hg iT L=>by
   obtain⟨⟨W2,LP,hS,xn,Q,E9⟩,pO⟩:=(V g w W h S).1 v i iT;exact⟨⟨W2,E++LP,λes=>by rw[e2,hg];simp only;rw[hS,Ee],xn,Q,λe c=>(Array.mem_append.1 c).elim (λh=>(L e h).mono Q.size) (E9 e)⟩,pO.congr λt n=>by
    have e5:(nX r d f>>=b).run (Lo P fs) (re w t n)=((nX r d f).run (Lo P fs) (re w t n)).andThen λa i=>(b a).run (Lo P fs) i:=zI _ _ b _;rw[e5,e4,xm];split<;>rfl⟩
  cases hR with
  |same _ kC=>
   by_cases D:mK o=U
   ·simp only[if_pos D]at e k
    exact fin d #[] (by rw[if_pos D]) (λes=>by rw[k];simp) e ba
   ·simp only[if_neg D]at e k
    have M:¬Hid (.obj r):=λJ=>by
     have:=(h.pM r J).2 o hw;cases o<;>first|exact kC.elim|simp_all[Obj.isChan]
    refine fin (f o) #[⟨.obj r,Y,o.isChan⟩] (by rw[if_neg D]) (λes=>by rw[k];simp) e λe c=>?_;simp at c;subst c;exact⟨aC,by cases o<;>first|exact kC.elim|exact .inl ⟨M,rfl⟩⟩
  |cut=>exact fin d #[] (by simp[mK]) (λes=>by rw[k];simp[mK]) e ba
  |k8 m l A s q tm O T=>
   have z:∀m l A s q tm,f (.chan m l A s q tm)=d:=λm l A s q tm=>H (.chan m l A s q tm) trivial ba;have An:∀x y,f (.finalizers x y)=d:=λx y=>H (.finalizers x y) trivial ba;simp only[mK,hZ,if_false,z]at e;cases O with
   |cells=>exact fin d #[] (by simp[mK,z]) (λes=>by rw[k];simp[mK]) e ba
   |chan=>
    refine fin d #[⟨.obj r,Y,U⟩] (by simp[mK,z]) (λes=>by rw[k,z];simp[mK,Obj.isChan]) e λe c=>?_;simp at c;subst c;exact⟨aC,.inr ⟨F,F⟩⟩
   |finalizers=>
    refine fin d #[⟨.obj r,Y,Y⟩] (by simp[mK,z]) (λes=>by rw[k,An];simp[mK,Obj.isChan]) e λe c=>?_;simp at c;subst c;exact⟨aC,.inl ⟨T,F⟩⟩
   |_=>exact T.elim
  |view u O R=>
   simp only[mK,hZ,if_false]at e;rcases p with p|p
   ·exact absurd e ((p _ _ w).1 v i)
   ·have M:¬Hid (.obj r):=λJ=>by
     have:=(h.pM r J).2 _ hw;cases this
    have NB:f O=d:=by
     by_cases C:∃a u,O=.view a u
     ·obtain⟨a,u,rfl⟩:=C;exact p _ _
     ·exact H O R λa u c=>C ⟨a,u,c⟩
    rw[p]at e;have K:¬mK O=U:=by cases O<;>first|exact R.elim|exact jL
    refine fin d #[⟨.obj r,Y,O.isChan⟩] (by simp[mK,p]) (λes=>by rw[k,if_neg K,NB];simp) e λe c=>?_;simp at c;subst c;refine⟨aC,?_⟩;by_cases N:O.isChan=U
    ·exact .inr ⟨F,N⟩
    ·exact .inl ⟨M,by simpa using N⟩
theorem aeJ(r:Nat):viewAt r=nX r I λ|.view a t=>Z (a,t)|_=>I:=by
 unfold viewAt nX;show Sem.shape r _=Sem.shape r _;congr 1;funext s;cases s with
 |some x=>rfl
 |none=>
  show wP r _=wP r _;congr 1;funext o;cases o<;>rfl
theorem aqF(r:Nat):numberAt r=nX r I λ|.number a t=>Z (a,t)|_=>I:=by
 unfold numberAt nX;show Sem.shape r _=Sem.shape r _;congr 1;funext s;cases s with
 |some x=>rfl
 |none=>
  show wP r _=wP r _;congr 1;funext o;cases o<;>rfl
theorem VB(a:aU):Sm P fs fx Hid X (noView a):=by
 unfold noView;rw[aeJ];refine Vz (λv=>?_) (λO c b=>?_) (.inl λa u=>?_)
 ·split
  ·exact lC _
  ·exact br _
 ·cases O<;>first|rfl|exact absurd rfl (b _ _)
 ·exact tP _
theorem adQ(r:Nat):Sm P fs fx Hid X (numberAt r):=by
 have h:Sm P fs fx Hid X (nX r I (λ|.number a t=>Z (a,t)|_=>I)>>=Pure.pure):=Vz (λv=>br v) (λO b c=>by cases O<;>first|rfl|exact b.elim) (.inr λa u=>rfl);rw[aqF];have e:∀(x:Sem (aj (aU×Bool))),(x>>=Pure.pure)=x:=λx=>Sem.bind_pure' x;rwa[e]at h
theorem Vq(n:aU):Sm P fs fx Hid X (behindNumber n):=bh (adQ _) λ_=>br _
end
def rO(w:ax)(a:aU):Bool:=w.frozen? a||match w.shape? a.block with
 |some (_,n)=>w.frozen? {block:=a.block,off:=n}
 |none=>Y
theorem ays(p:aD)(w:ax)(a:aU)(es:af dR):(stringish a).runT p w es=(.ok (rO w a) w,es):=by
 unfold stringish rO;show(Sem.frozen a _).runT p w es=_;simp only[nM];cases hf:w.frozen? a with
 |true=>rfl
 |false=>
  show(Sem.shape a.block _).runT p w es=_;simp only[nM];cases hs:w.shape? a.block with
  |none=>rfl
  |some x=>rfl
def py(w:ax)(a:aU):Bool:=(w.shape? a.block)matches Z (_,0)
theorem KZ(p:aD)(w:ax)(a b:aU)(es:af dR):(mayBeOne a b).runT p w es=(.ok ((rO w a&&rO w b)||(rO w a&&py w a)||(rO w b&&py w b)) w,es):=by
 unfold mayBeOne;have c:∀(k:Bool->Sem Bool)(x:aU),(stringish x>>=k).runT p w es=(k (rO w x)).runT p w es:=λk x=>by
  rw[show(stringish x>>=k)=(stringish x).bind k from F,Sem.runT_bind',ays]
 rw[c,c];have d:∀(k:Bool->Sem Bool)(x:aU),((do pure ((<-shape x.block)matches Z (_,0)))>>=k).runT p w es=(k (py w x)).runT p w es:=λk x=>rfl;refine(d _ a).trans ((d _ b).trans ?_);cases rO w a<;>cases rO w b<;>cases py w a<;>cases py w b<;>rfl
section
variable {P:aD}{fs:af dK}{fx:Obj->Prop}{Hid:Loc->Prop}{α β γ:Type}{X:ae Nat}
theorem Rel.blk(h:Rel fx Hid w W)(r:Nat):(w.heap[r]?=I/\W.heap[r]?=I)\/∃o O,w.heap[r]?=Z o/\W.heap[r]?=Z O/\Bj fx Hid r o O:=by
 cases hb:w.heap[r]? with
 |none=>
  refine .inl ⟨F,?_⟩;rw[Ef]at hb⊢;rw[<-h.size];exact hb
 |some o=>
  obtain⟨O,a,b⟩:=h.obj _ _ hb;exact .inr ⟨o,O,F,a,b⟩
theorem Rel.Yw(h:Rel fx Hid w W)(a:aU):w.frozen? a=W.frozen? a:=by
 unfold qj;rcases h.blk a.block with⟨b,c⟩|⟨o,O,b,c,f⟩
 ·rw[b,c]
 ·rw[b,c]
  cases f with
  |same _ g=>rfl
  |cut=>rfl
  |k8 _ _ _ _ _ _ _ d=>
   cases O<;>first|exact d.elim|rfl|skip
   obtain⟨_,rfl⟩:=d;simp
  |view _ _ e=>cases O<;>first|exact e.elim|rfl
theorem Rel.rO(h:Rel fx Hid w W)(a:aU):rO w a=rO W a:=by
 unfold Go.Proofs.YtgahemdblfapeaaGreatDoor.rO;rw[h.Yw a];congr 1;unfold fF;rcases h.blk a.block with⟨f,e⟩|⟨o,O,f,e,k⟩
 ·rw[f,e]
 ·have g:∀{x:ax}{y:af ag}{t:aK}{b n:Nat},x.heap[b]?=Z (.cells y t)->x.frozen? {block:=b,off:=n}=Y:=λ{x y t b n}l=>by
   unfold qj;simp only[l];simp
  rw[f,e];cases k with
  |same _ r=>
   cases o<;>first|rfl|exact h.Yw _
  |cut c d t m p q=>simp only[g f,g e]
  |k8 _ _ _ _ _ _ _ i=>
   cases O<;>first|exact i.elim|rfl|skip
   obtain⟨_,rfl⟩:=i;simp only[g e]
  |view _ _ j=>cases O<;>first|exact j.elim|rfl
theorem Rel.py(h:Rel fx Hid w W)(a:aU):py w a=py W a:=by
 unfold Go.Proofs.YtgahemdblfapeaaGreatDoor.py fF;rcases h.blk a.block with⟨b,e⟩|⟨o,O,b,e,k⟩
 ·rw[b,e]
 ·rw[b,e]
  cases k with
  |same _ s=>rfl
  |cut c d t p q r=>
   obtain⟨n,g⟩:∃n,c.size=n+1:=⟨c.size-1,by omega⟩;obtain⟨m,l⟩:∃m,d.size=m+1:=⟨d.size-1,by omega⟩;simp only[g,l]
  |k8 _ _ _ _ _ _ _ i=>
   cases O with
   |cells c t f=>
    obtain⟨n,g⟩:∃n,c.size=n+1:=⟨c.size-1,by have:=i.1;omega⟩;simp only[g]
   |chan=>rfl
   |finalizers=>rfl
   |_=>exact i.elim
  |view _ _ j=>cases O<;>first|exact j.elim|rfl
theorem aw2(a b:aU):Sm P fs fx Hid X (mayBeOne a b):=Eb (hh:=λw x c e=>by rw[<-ya _ _ w #[],KZ]at e;cases e) λw W h _ v c e=>by
 rw[<-ya _ _ w #[],KZ]at e;cases e;refine⟨?_,AL (λt d=>by rw[<-ya _ _ _ #[],KZ];rfl) F F⟩;rw[h.rO a,h.rO b,h.py a,h.py b];exact Mj h λes=>KZ _ _ _ _ _
theorem adW(a b:aU):Sm P fs fx Hid X (sameAddr a b):=by
 unfold sameAddr;dsimp only
 split
 ·exact br _
 ·refine bh (ady a) λx=>?_
  refine bh (ady b) λy=>?_;split
  ·exact(tP _).bind.kH
  ·refine bh (VB a) λ_=>bh (VB b) λ_=>bh (aw2 a b) λz=>?_
   split
   ·exact bh (Iv _) λ_=>br _
   ·exact br _
theorem axs(a b:aj aU):Sm P fs fx Hid X (samePointer a b):=by
 unfold samePointer;split
 ·exact adW _ _
 ·exact br _
theorem QE:∀(d:Nat)(t:aK)(a:Nat),byteOfCell (Lo P fs) d t a=byteOfCell P d t a
 |0,_,_=>rfl
 |d+1,t,a=>by
  have b:=QE d;unfold byteOfCell;simp only[b];rfl
theorem Lx(a:aU):Sm P fs fx Hid X (byteOf a):=by
 unfold byteOf;dsimp only
 split
 ·exact br _
 ·refine oc ?_ (bh (VB a) λ_=>?_)
  ·simp only[QE]
   rfl
  ·refine VI (λe n m _=>?_) (dz _) λe n _=>(fL _).kH
   dsimp only
   split
   ·exact br _
   ·split
    ·exact br _
    ·exact dz _
theorem axg(a:aU)(m n:Nat):Sm P fs fx Hid X (partAt a m n):=by
 unfold partAt;refine bh (Lx a) λ_=>bh (Lx _) λ_=>br _
theorem adu(a:aU)(f:Field):Sm P fs fx Hid X (fieldPlace a f):=by
 unfold fieldPlace;refine bh (xU _) λn=>?_;split
 ·exact axg _ _ _
 ·exact br _
theorem Qx:∀(n:Nat)(t u:aK),Program.alikeButTags (Lo P fs) n t u=Program.alikeButTags P n t u
 |0,_,_=>rfl
 |n+1,t,u=>by
  have a:=Qx n;unfold Program.alikeButTags;simp only[a]
theorem aym(t:aK):Program.stoodInHeld (Lo P fs) t=Program.stoodInHeld P t:=by
 have h:∀t,Program.stoodInAs (Lo P fs) t=Program.stoodInAs P t:=λt=>by
  unfold Program.stoodInAs;simp only[Qx];rfl
 unfold Program.stoodInHeld;rw[h]
theorem OZ(t:aK):Program.packed (Lo P fs) t=Program.packed P t:=by
 unfold Program.packed Program.packedAs;simp only[Qx];rfl
theorem S0:∀(n:Nat)(t:aK),Program.holdsPacked (Lo P fs) n t=Program.holdsPacked P n t
 |0,_=>rfl
 |n+1,t=>by
  have a:=S0 n;unfold Program.holdsPacked;simp only[a,OZ];rfl
theorem X8:∀(n:Nat)(t:aK),Program.eqGuardType (Lo P fs) n t=Program.eqGuardType P n t
 |0,_=>rfl
 |n+1,t=>by
  have a:=X8 n;unfold Program.eqGuardType;simp only[a];rfl
theorem Vv{f:γ->β->Sem (ForInStep β)}(h:∀x b,Sm P fs fx Hid X (f x b)):∀(l:ae γ)(b:β),Sm P fs fx Hid X (forIn l b f)
 |[],b=>by rw[List.forIn_nil];exact br _
 |x::l,b=>by
  rw[List.forIn_cons];refine bh (h x b) λs=>?_;cases s with
  |done b=>exact br _
  |yield b=>exact Vv h l b
theorem Vu{f:γ->β->Sem (ForInStep β)}(h:∀x b,Sm P fs fx Hid X (f x b))(l:af γ)(b:β):Sm P fs fx Hid X (forIn l b f):=by
 rw[<-Array.forIn_toList];exact Vv h _ _
theorem Vw{f:Nat->β->Sem (ForInStep β)}(h:∀x b,Sm P fs fx Hid X (f x b))(n:Nat)(b:β):Sm P fs fx Hid X (forIn [0:n] b f):=by
 rw[Std.Legacy.Range.forIn_eq_forIn_range'];exact Vv h _ _
theorem ads:∀(d:Nat)(t:aK)(x y:ag),Sm P fs fx Hid X (Op.equalIn d t x y)
 |0,_,_,_=>lC _
 |d+1,t,x,y=>by
  have c:=ads d;unfold Op.equalIn;refine bh (pZ t) λu=>?_;split<;>first|exact br _|exact dz _|exact lC _|exact axs _ _|skip
  ·split<;>first|exact br _|exact dz _
  ·refine bh (Vq _) λa=>bh (Vq _) λb=>?_
   dsimp only
   refine oc F ?_;split
   ·exact bh (Lx _) λ_=>bh (Lx _) λ_=>br _
   ·refine bh (Co _) λi=>?_
    split
    ·split<;>first|exact br _|exact lC _
    ·exact lC _
  ·split<;>first|exact br _|exact dz _
  ·split<;>first|exact br _|exact dz _
  ·refine bh (xU _) λn=>?_
   split
   ·exact adW _ _
   ·split
    ·exact br _
    ·exact bh (Iv _) λ_=>br _
  ·split
   ·exact br _
   ·refine bh (Co _) λi=>?_
    split
    ·refine oc ?_ (oc ?_ ?_)
     ·simp only[S0]
     ·rfl
     ·dsimp only
      split
      ·exact(tP _).bind.kH
      ·exact bh (VM _) λ_=>xT _
    ·exact c _ _ _
  ·refine oc ?_ ?_
   ·simp only[aym]
   ·dsimp only
    split
    ·exact(tP _).bind.kH
    ·refine bh (Vu (λf b=>?_) _ _) λr=>?_
     ·split
      ·refine bh (wx _ _ _) λ_=>bh (wx _ _ _) λ_=>bh (c _ _ _) λ_=>?_
       split<;>exact br _
      ·exact br _
     ·split<;>exact br _
  ·refine bh (xU _) λn=>?_
   refine bh (Vw (λf b=>?_) _ _) λr=>?_
   ·refine bh (wx _ _ _) λ_=>bh (wx _ _ _) λ_=>bh (c _ _ _) λ_=>?_
    split<;>exact br _
   ·dsimp only
    split<;>exact br _
theorem adr(t:aK)(x y:ag):Sm P fs fx Hid X (Op.equal t x y):=ads _ t x y
theorem Vs:∀(d:Nat)(t:aK)(x y:ag),Sm P fs fx Hid X (Op.eqGuardIn d t x y)
 |0,_,_,_=>lC _
 |d+1,t,x,y=>by
  have a:=Vs d;unfold Op.eqGuardIn;refine bh (pZ t) λu=>?_;split
  ·exact br _
  ·refine bh (Vu (λf b=>?_) _ _) λr=>?_
   ·split
    ·refine bh (wx _ _ _) λ_=>bh (wx _ _ _) λ_=>bh (a _ _ _) λ_=>?_
     split<;>exact br _
    ·exact br _
   ·dsimp only
    split<;>exact br _
  ·refine bh (xU _) λn=>?_
   refine bh (Vw (λf b=>?_) _ _) λr=>?_
   ·refine bh (wx _ _ _) λ_=>bh (wx _ _ _) λ_=>bh (a _ _ _) λ_=>?_
    split<;>exact br _
   ·dsimp only
    split<;>exact br _
  ·exact br _
theorem awm(c:BinOp)(t:aK)(x y:iP)(a b:ag):Sm P fs fx Hid X (lF c t x y a b):=by
 unfold lF;refine jW (λ_=>br _) λ_=>?_;split
 ·refine jW (λ_=>br _) λ_=>?_
  exact bh (Vs _ _ _ _) λ_=>jW (λ_=>lC _) λ_=>br _
 ·refine oc ?_ (oc ?_ ?_)
  ·simp only[X8]
  ·rfl
  ·refine jW (λ_=>br _) λ_=>?_
   exact bh (Vs _ _ _ _) λ_=>jW (λ_=>lC _) λ_=>br _
 ·exact br _
end
theorem c6{p:Prop}(h:p:=by repeat'(first|with_reducible(first|refine oc rfl ?_|exact br .. |exact dz .. |exact lC .. |exact xT .. |exact Iv .. |exact Vo .. |exact Pz .. |exact Vp .. |exact xU .. |exact Co .. |exact pZ .. |exact VO .. |exact adl .. |exact awG .. |exact awE .. |exact awF .. |exact avZ .. |exact awd .. |exact av7 .. |exact awb .. |exact av3 .. |exact av5 .. |exact Ly .. |exact av4 .. |exact awa .. |exact awc .. |exact Lx .. |exact axH .. |exact axM .. |exact Vq .. |exact avS .. |exact adQ .. |exact axw .. |exact awN .. |exact awQ .. |exact awO .. |exact awP .. |exact av8 .. |exact axE .. |exact adr .. |exact aw7 .. |exact aw6 .. |exact avO .. |exact avM .. |exact avN .. |exact wx .. |exact VM .. |exact ado .. |exact awC .. |exact awR .. |exact axu (by simp)|exact axt (by simp)|exact axv (by simp)|exact VK .. |exact aw8 .. |exact PF .. |exact axF .. |exact Vy .. |exact adu .. |exact axz .. |exact axA .. |exact Vn .. |exact axx .. |exact avR .. |exact avT .. |exact adO .. |exact adJ .. |exact awT .. |exact awD .. |exact axk .. |exact VF .. |exact axB .. |exact Vt .. |exact adS .. |exact awJ .. |exact axd .. |exact axL .. |exact axc .. |exact awK .. |exact adz .. |exact Vx .. |exact aw5 .. |exact adR .. |exact VA .. |exact awe .. |exact awh .. |exact awi .. |exact VL .. |exact VJ .. |exact VD .. |exact adA .. |exact adp .. |exact PG .. |exact adX .. |refine bh ?_ λ_=>?_|refine jW (λ_=>?_) λ_=>?_)|split|dsimp only)):p:=h
section
variable {P:aD}{fs:af dK}{fx:Obj->Prop}{Hid:Loc->Prop}{α β γ:Type}{X:ae Nat}
theorem awN(a:BinOp)(k:IntKind)(x y:Int):Sm P fs fx Hid X (Op.intArith a k x y):=by
 unfold Op.intArith;exact c6
theorem awP(a:BinOp)(x y:Int):Sm P fs fx Hid X (Op.intCmp a x y):=by
 unfold Op.intCmp;exact c6
theorem awQ(a:BinOp)(k:IntKind)(x y:Int):Sm P fs fx Hid X (Op.intDiv a k x y):=by
 unfold Op.intDiv;exact c6
theorem awO(a:BinOp)(k:IntKind)(x y:Int):Sm P fs fx Hid X (Op.intBits a k x y):=by
 unfold Op.intBits;exact c6
theorem axw(a:BinOp)(k:IntKind)(x:Int)(j:IntKind)(y:Int):Sm P fs fx Hid X (Op.shift a k x j y):=by
 unfold Op.shift;exact c6
theorem axE(a:BinOp)(x y:ByteArray):Sm P fs fx Hid X (Op.stringOp a x y):=by
 unfold Op.stringOp;exact c6
theorem awF(a:BinOp)(k:FloatKind)(x y:Nat):Sm P fs fx Hid X (Op.floatCmp a k x y):=by
 unfold Op.floatCmp;exact c6
theorem awE(a:BinOp)(k:FloatKind)(x y:Nat):Sm P fs fx Hid X (Op.floatArith a k x y):=by
 unfold Op.floatArith;exact c6
theorem awG(k:FloatKind)(x:Nat)(d:FloatKind):Sm P fs fx Hid X (Conv.floatToFloat k x d):=by
 unfold Conv.floatToFloat;exact c6
theorem awH(k:FloatKind)(x:Nat)(d:IntKind):Sm P fs fx Hid X (Conv.floatToInt k x d):=by
 unfold Conv.floatToInt;exact c6
theorem Ly(a:BinOp)(k:FloatKind)(x y:Nat):Sm P fs fx Hid X (Op.Complex.arith a k x y):=by
 unfold Op.Complex.arith;exact c6
theorem av3(a:BinOp)(k:FloatKind)(x y:Nat):Sm P fs fx Hid X (Op.Complex.cmp a k x y):=by
 unfold Op.Complex.cmp;exact c6
theorem av4(k:FloatKind)(x:Nat)(d:FloatKind):Sm P fs fx Hid X (Op.Complex.conv k x d):=by
 unfold Op.Complex.conv;exact c6
theorem avZ(x y:Nat):Sm P fs fx Hid X (Op.Complex.add x y):=Ly _ _ _ _
theorem awd(x y:Nat):Sm P fs fx Hid X (Op.Complex.sub x y):=Ly _ _ _ _
theorem av7(x y:Nat):Sm P fs fx Hid X (Op.Complex.mul x y):=Ly _ _ _ _
theorem awb(x y:Nat):Sm P fs fx Hid X (Op.Complex.quo x y):=Ly _ _ _ _
theorem awa(a b c d:Nat):Sm P fs fx Hid X (Op.Complex.product a b c d):=by
 unfold Op.Complex.product;exact c6
theorem av5(s a b c d:Nat):Sm P fs fx Hid X (Op.Complex.corrected s a b c d):=by
 unfold Op.Complex.corrected;exact c6
theorem awc(a b c d:Nat):Sm P fs fx Hid X (Op.Complex.quotient a b c d):=by
 unfold Op.Complex.quotient;exact c6
theorem av8(e:BinOp)(k:FloatKind)(a b c d:Nat):Sm P fs fx Hid X (Op.complexOp e k a b c d):=by
 unfold Op.complexOp;exact c6
end
section
variable {P:aD}{fs:af dK}{fx:Obj->Prop}{Hid:Loc->Prop}{α β γ:Type}{X:ae Nat}
theorem axH(a b:aU):Sm P fs fx Hid X (Op.twoPlaces a b):=by
 unfold Op.twoPlaces;refine oc F ?_;exact c6
theorem avO(k:IntKind)(a b:aU):Sm P fs fx Hid X (Op.addrSub k a b):=by
 unfold Op.addrSub;exact c6
theorem avM(c:BinOp)(a b:aU):Sm P fs fx Hid X (Op.addrCmp c a b):=by
 unfold Op.addrCmp;exact c6
theorem avK{k K:aD->Sem α}(h:pG P fs fx Hid X (k (Lo P fs)) (K P)):pG P fs fx Hid X (program>>=k) (program>>=K):=λw W c b=>⟨λv a e=>by
 obtain⟨x,l⟩:=(h w W c b).1 v a e;exact⟨x,l.congr λ_ _=>rfl⟩,λx a e=>(h w W c b).2 x a e⟩
theorem avN(k:IntKind)(a:aU)(n:Int):Sm P fs fx Hid X (Op.addrMod k a n):=by
 unfold Op.addrMod;refine VI (λe n m _=>?_) (lC _) λe n _=>(tP _).kH;dsimp only
 exact c6
theorem avS(a:aU)(b:Bool):Sm P fs fx Hid X (asNumber a b):=bh (AW trivial) λ_=>br _
theorem Xq:∀(d:Nat)(t:aK)(a:Nat),cellOfByte (Lo P fs) d t a=cellOfByte P d t a
 |0,_,_=>rfl
 |d+1,t,a=>by
  have b:=Xq d;unfold cellOfByte;simp only[b];rfl
theorem agR(d:Nat)(e:aK)(n a:Nat)(b:Int):cellAtBytes (Lo P fs) d e n a b=cellAtBytes P d e n a b:=by
 unfold cellAtBytes;simp only[QE,Xq];rfl
theorem agS{p:aD}{d:Nat}{e:aK}{n m c:Nat}{b:Int}(h:n<=m){r:Nat}(a:cellAtBytes p d e n c b=Z r):cellAtBytes p d e m c b=Z r:=by
 unfold cellAtBytes at a⊢;dsimp only at a⊢;split at a
 ·cases a
 ·rename_i g
  rw[if_neg g];cases hb:byteOfCell p d e (c%p.cellsOf e)with
  |none=>rw[hb]at a;cases a
  |some x=>
   rw[hb]at a;simp only[Option.bind_eq_bind,wN]at a⊢;split at a
   ·cases a
   ·rename_i f
    rw[if_neg]
    ·exact a
    ·simp only[Bool.or_eq_true,decide_eq_true_eq,not_or,Int.not_lt,ge_iff_le,Int.not_le]at f⊢
     refine⟨f.1,Int.lt_of_lt_of_le f.2 ?_⟩;exact Int.ofNat_le.2 (Nat.mul_le_mul_right _ h)
theorem axM(a:af aK)(t:aK)(b:af ag):Sm P fs fx Hid X (Builtin.unsafeAdd_ a t b):=by
 obtain⟨l⟩:=b;rcases l with _|⟨x,_|⟨y,_|⟨z,l⟩⟩⟩
 ·exact dz _
 ·exact dz _
 ·by_cases f:∃p,x=.pointer p
  ·obtain⟨ptr,rfl⟩:=f
   refine bh (Pz _) λc=>?_;refine jW (λ_=>?_) λ_=>?_
   ·cases ptr with
    |none=>exact(tP _).bind.kH
    |some a=>
     dsimp only
     rw[aeJ];refine Vz (λv=>jW (λ_=>(tP _).bind.kH) λ_=>br _) (λO k i=>?_) (.inl λa u=>?_)
     ·cases O<;>first|rfl|exact absurd rfl (i _ _)
     ·exact(tP _).bind
   ·refine jW (λ_=>(tP _).bind.kH) λ_=>?_
    cases ptr with
    |none=>exact lC _
    |some a=>
     refine VI (λe n m h=>?_) (lC _) λe n _=>(tP _).kH;refine avK ?_;have g:∀r,cellAtBytes P P.depth e (n/P.cellsOf e) a.off c=Z r->cellAtBytes P P.depth e (m/P.cellsOf e) a.off c=Z r:=λr=>agS (Nat.div_le_div_right h);simp only[agR];show pG P fs fx Hid X (match cellAtBytes P P.depth e (n/P.cellsOf e) a.off c with|some d=>_|none=>_) (match cellAtBytes P P.depth e (m/P.cellsOf e) a.off c with|some d=>_|none=>_);split
     ·rename_i r j
      rw[g r j];exact br _
     ·exact(tP _).kH
  ·cases x<;>first|exact dz _|exact absurd ⟨_,rfl⟩ f
 ·exact dz _
theorem aw6(t:aK)(x y:ag):Sm P fs fx Hid X (movedNumber t x y):=by
 unfold movedNumber;exact c6
theorem aw7(t:aK)(x y:ag):Sm P fs fx Hid X (movedPointer t x y):=by
 unfold movedPointer;exact c6
theorem avV(a:BinOp)(t:aK)(x y:ag):Sm P fs fx Hid X (binOp a t x y):=by
 unfold binOp;exact c6
theorem axK(a:UnOp)(x:ag):Sm P fs fx Hid X (Op.unary a x):=by
 unfold Op.unary;exact c6
theorem ado(b:Bool):∀(n:Nat)(t:aK)(v:ag),Sm P fs fx Hid X (Instr.checkKey b n t v)
 |0,_,_=>lC _
 |n+1,t,v=>by
  have a:=ado b n;unfold Instr.checkKey;refine bh (pZ _) λu=>?_;split
  ·refine bh (Co _) λi=>jW (λ_=>jW (λ_=>(sB _).bind.kH) λ_=>?_) λ_=>a _ _
   exact bh (VM _) λ_=>(sB _).bind.kH
  ·exact bh (Vw (λx b=>bh (xU _) λ_=>bh (wx _ _ _) λ_=>bh (a _ _) λ_=>br _) _ _) λ_=>br _
  ·exact bh (Vu (λx b=>jW (λ_=>bh (wx _ _ _) λ_=>bh (a _ _) λ_=>br _) λ_=>br _) _ _) λ_=>br _
  all_goals first|exact br _|exact dz _
theorem adv(t:aK)(k:ag):∀(l:ae MapEntry)(i:Nat),Sm P fs fx Hid X (Instr.findAsking t k l i)
 |[],_=>br _
 |e::l,i=>by
  unfold Instr.findAsking;exact bh (adr _ _ _) λ_=>jW (λ_=>br _) λ_=>adv t k l _
theorem awC(t:aK)(k:ag)(l:ae MapEntry):Sm P fs fx Hid X (Instr.findKey t k l):=by
 unfold Instr.findKey;refine bh (pZ _) λu=>?_;split
 ·exact br _
 ·exact adv _ _ _ _
theorem vF{k:Obj->Sem α}(g:∀a b c d e f,mz P fs (k (.chan a b c d e f)))(i:∀a u,mz P fs (k (.view a u))):∀o,qS o=U->mz P fs (k o):=λo h=>by
 cases o<;>first|exact g _ _ _ _ _ _|exact i _ _|exact absurd h jL
theorem awV(t:aK)(x i:ag)(a:Bool):Sm P fs fx Hid X (Instr.lookup t x i a):=by
 unfold Instr.lookup;refine bh (pZ _) λu=>?_;split
 ·cases x with
  |map r=>
   cases r with
   |none=>
    dsimp only
    exact c6
   |some r=>
    refine wu (λo b=>?_) (vF (λ_ _ _ _ _ _=>fL _) λ_ _=>fL _);cases o<;>exact c6
  |_=>exact dz _
 ·exact dz _
end
section
variable {P:aD}{fs:af dK}{fx:Obj->Prop}{Hid:Loc->Prop}{α β γ:Type}{X:ae Nat}
theorem axu{r:Nat}{m:af MapEntry}{c:Nat}(a:r∈X):Sm P fs fx Hid X (setObj r (.map m c)):=Ix a trivial rfl
theorem axt{r:Nat}{m:aj Nat}{a:Nat}{b:af Nat}{c:Nat}(d:r∈X):Sm P fs fx Hid X (setObj r (.mapIter m a b c)):=Ix d trivial rfl
theorem axv{r:Nat}{s:ByteArray}{a:Nat}(b:r∈X):Sm P fs fx Hid X (setObj r (.stringIter s a)):=Ix b trivial rfl
theorem zr{a:γ}{k:γ->Sem β}(h:Sm P fs fx Hid X (k a)):Sm P fs fx Hid X (Pure.pure a>>=k):=h
theorem awR(a b:ag):Sm P fs fx Hid X (Instr.keyThatStays a b):=by
 unfold Instr.keyThatStays;exact c6
theorem adM(t:aK)(m k v:ag):Sm P fs fx Hid X (Instr.mapUpdate t m k v):=by
 unfold Instr.mapUpdate;refine bh (pZ _) λu=>?_;split
 ·cases m with
  |map r=>
   cases r with
   |none=>exact xT _
   |some r=>
    refine wu (λo a=>?_) (vF (λ_ _ _ _ _ _=>fL _) λ_ _=>fL _);cases o<;>exact c6
  |_=>exact dz _
 ·exact dz _
theorem awg(a:af aK)(t:aK)(b:af ag):Sm P fs fx Hid X (Builtin.delete_ a t b):=by
 unfold Builtin.delete_;split
 ·refine bh (pZ _) λu=>?_
  split
  ·split
   ·exact c6
   ·refine wu (λo c=>?_) (vF (λ_ _ _ _ _ _=>fL _) λ_ _=>fL _)
    cases o<;>exact c6
   ·exact c6
  ·exact dz _
 ·exact dz _
theorem av6(a:af aK)(t:aK)(b:af ag):Sm P fs fx Hid X (Builtin.clear_ a t b):=by
 unfold Builtin.clear_;split
 ·refine bh (pZ _) λu=>?_
  split
  ·exact c6
  ·exact c6
  ·exact c6
  ·refine wu (λo c=>?_) (vF (λ_ _ _ _ _ _=>fL _) λ_ _=>fL _)
   cases o<;>exact c6
  ·exact c6
  ·exact c6
 ·exact dz _
theorem axh(t:aK)(x:ag):Sm P fs fx Hid X (Instr.range t x):=by
 unfold Instr.range;refine bh (pZ _) λu=>?_;split
 ·exact zr (bh (AW trivial) λ_=>br _)
 ·exact zr (bh (AW trivial) λ_=>br _)
 ·refine wu (λo a=>?_) (vF (λ_ _ _ _ _ _=>(fL _).bind) λ_ _=>(fL _).bind)
  cases o<;>first|exact zr (bh (AW trivial) λ_=>br _)|exact(fL _).bind.kH
 ·exact(fL _).bind.kH
theorem aw9(i:ag)(b:Bool)(t:aK):Sm P fs fx Hid X (Instr.next i b t):=by
 unfold Instr.next;dsimp only
 split
 ·refine wu (λo d=>?_) (vF (λ_ _ _ _ _ _=>fL _) λ_ _=>fL _)
  cases o with
  |stringIter s p=>
   cases b with
   |true=>
    show Sm P fs fx Hid _ (if p<s.size then _ else _);refine jW (λ_=>?_) λ_=>br _;exact c6
   |false=>exact dz _
  |mapIter m a seen c=>
   cases b with
   |true=>cases m<;>exact dz _
   |false=>
    cases m with
    |none=>exact br _
    |some m=>
     refine wu (λo d=>?_) (vF (λ_ _ _ _ _ _=>fL _) λ_ _=>fL _);cases o<;>exact c6
  |_=>exact dz _
 ·exact dz _
theorem awl(i:ag):Sm P fs fx Hid X (Instr.entry i):=by
 unfold Instr.entry;split
 ·refine wu (λo c=>?_) (vF (λ_ _ _ _ _ _=>fL _) λ_ _=>fL _)
  cases o with
  |mapIter m a seen b=>
   cases m with
   |none=>exact dz _
   |some m=>
    dsimp only
    split
    ·refine wu (λo c=>?_) (vF (λ_ _ _ _ _ _=>fL _) λ_ _=>fL _)
     cases o<;>exact c6
    ·exact dz _
  |_=>exact dz _
 ·exact dz _
theorem awX(t:aK)(r:aj ag):Sm P fs fx Hid X (Instr.makeMap t r):=by
 unfold Instr.makeMap;cases r with
 |none=>exact bh (AW trivial) λ_=>br _
 |some h=>
  refine bh (pZ _) λu=>?_;split
  ·exact bh (Pz _) λ_=>bh (AW trivial) λ_=>br _
  ·exact(fL _).bind.kH
theorem avW(t:aK)(v:ag):Sm P fs fx Hid X (Instr.box t v):=by
 unfold Instr.box;exact c6
theorem avP(t:aK)(b:Bool)(v:ag):Sm P fs fx Hid X (Instr.alloc t b v):=by
 unfold Instr.alloc;exact c6
theorem awU(t:aK)(v:ag):Sm P fs fx Hid X (uG t v):=by
 unfold uG;exact c6
theorem axD(t:aK)(a v:ag):Sm P fs fx Hid X (Instr.storeAt t a v):=by
 unfold Instr.storeAt;exact c6
theorem awB(t:aK)(a:ag)(i:Nat):Sm P fs fx Hid X (tn t a i):=by
 unfold tn;exact c6
theorem awM(t:aK)(a i:ag):Sm P fs fx Hid X (Instr.indexAt t a i):=by
 unfold Instr.indexAt;exact c6
theorem axz(x:ag)(y:Nat)(c:BoundsCode):Sm P fs fx Hid X (Instr.sliceBound x y c):=by
 unfold Instr.sliceBound;exact c6
theorem axA(b:Bool)(l c:Nat)(x y z:aj ag):Sm P fs fx Hid X (Instr.sliceBounds b l c x y z):=by
 unfold Instr.sliceBounds;exact c6
theorem axx(t:aK)(x:ag)(l h m:aj ag):Sm P fs fx Hid X (Instr.slice t x l h m):=by
 unfold Instr.slice;exact c6
theorem axy(t:aK)(x:ag)(l h m:aj ag):Sm P fs fx Hid X (Instr.sliceAt t x l h m):=by
 unfold Instr.sliceAt;exact c6
theorem awA(t:aK)(x:ag)(i:Nat):Sm P fs fx Hid X (Instr.field t x i):=by
 unfold Instr.field;exact c6
theorem awL(t:aK)(x i:ag):Sm P fs fx Hid X (Instr.index t x i):=by
 unfold Instr.index;exact c6
theorem awz(t:ag)(i:Nat):Sm P fs fx Hid X (Instr.extract t i):=by
 unfold Instr.extract;exact c6
theorem awW(t:aK)(x:ag):Sm P fs fx Hid X (Instr.makeInterface t x):=by
 unfold Instr.makeInterface;exact c6
theorem axI(x:ag)(t u:aK)(b:Bool):Sm P fs fx Hid X (Instr.typeAssert x t u b):=by
 unfold Instr.typeAssert;exact c6
theorem awY(t:aK)(l c:ag):Sm P fs fx Hid X (Instr.makeSlice t l c):=by
 unfold Instr.makeSlice;exact c6
theorem avY(t:aK)(n:Nat)(p:af (Nat×ag)):Sm P fs fx Hid X (Instr.buildSlice t n p):=by
 unfold Instr.buildSlice;exact c6
theorem awD(s n:Nat)(x:ag):Sm P fs fx Hid X (Builtin.firstCells s n x):=by
 unfold Builtin.firstCells;exact c6
theorem awT(x:ag):Sm P fs fx Hid X (Builtin.lenOf x):=by
 unfold Builtin.lenOf;exact c6
theorem aw4(x y:ag):Sm P fs fx Hid X (Builtin.min2 x y):=by
 unfold Builtin.min2;exact c6
theorem adw{f:β->γ->Sem β}(h:∀a b,Sm P fs fx Hid X (f a b)):∀(l:ae γ)(a:β),Sm P fs fx Hid X (l.foldlM f a)
 |[],a=>by rw[List.foldlM_nil];exact br _
 |x::l,a=>by
  rw[List.foldlM_cons];exact bh (h a x) λb=>adw h l b
theorem aw3(a:af aK)(t:aK)(b:af ag):Sm P fs fx Hid X (Builtin.min_ a t b):=by
 unfold Builtin.min_;split
 ·exact dz _
 ·exact adw aw4 _ _
theorem azx(p:aD)(t:aK)(w:ax)(es:af dR):(underlying t).runT p w es=match p.underlying t with
  |some d=>(.ok d w,es)
  |none=>(.halt (.stuck "no such type") w,es):=by
 show(match p.underlying t with|some d=>(pure d:Sem TypeDesc)|none=>stuck "no such type").runT p w es=_;cases p.underlying t<;>rfl
theorem VN{k:TypeDesc->Sem β}(h:∀d,P.underlying t=Z d->Sm P fs fx Hid X (k d)):Sm P fs fx Hid X (underlying t>>=k):=by
 refine adj (pZ t) λv w b e=>h v ?_;rw[<-ya _ _ w #[],azx]at e;have a:(Lo P fs).underlying t=P.underlying t:=rfl;rw[a]at e;cases hu:P.underlying t with
 |none=>rw[hu]at e;cases e
 |some d=>rw[hu]at e;cases e;rfl
theorem awS{a:af aK}(t:aK)(b:af ag)(g:∀x d e,a[0]?=Z x->P.underlying x≠Z (.chan d e)):Sm P fs fx Hid X (Builtin.len_ a t b):=by
 unfold Builtin.len_;split
 ·rename_i u x c
  have f:=(Prod.mk.inj c).1;refine VN λd h=>?_;split
  ·exact br _
  ·exact br _
  ·refine bh (pZ _) λu=>?_
   split<;>first|exact br _|exact dz _
  ·exact br _
  ·exact br _
  ·exact br _
  ·refine wu (λo i=>?_) (vF (λ_ _ _ _ _ _=>fL _) λ_ _=>fL _)
   cases o<;>first|exact br _|exact dz _
  ·exact absurd h (g _ _ _ f)
  ·exact dz _
 ·exact dz _
theorem ayP(m:Mark):ot P fs (mark m):=λfx w a=>⟨λv b e=>(by cases e;exact a),λx b e=>(by cases e)⟩
theorem ayT(r:Nat):ot P fs (shape r):=λfx w a=>⟨λv b e=>(by cases e;exact a),λx b e=>(by cases e)⟩
theorem aeo(a:aU):ot P fs (frozen a):=λfx w b=>⟨λv c e=>(by cases e;exact b),λx c e=>(by cases e)⟩
theorem PW(a:aU)(n:Nat):ot P fs (Builtin.holdsCells a n):=by
 unfold Builtin.holdsCells;exact tj (ayT _) λ_=>by repeat'(first|exact uu _|split)
theorem ayQ(b d n:Nat)(base:aj aU)(x:ag):ot P fs (Builtin.mayShare b d n base x):=by
 unfold Builtin.mayShare;have c:∀(t:Bool)(y:Sem Bool),ot P fs y->ot P fs (if(!t)=U then pure U else y):=λt y e=>by
  split
  ·exact uu _
  ·exact e
 cases base with
 |none=>
  split
  ·exact tj (uu _) λt=>c t _ (tj (PW _ _) λ_=>uu _)
  ·exact tj (uu _) λt=>c t _ (uu _)
 |some a=>
  split
  ·exact tj (PW _ _) λ_=>tj (aeo _) λ_=>tj (uu _) λt=>c t _ (tj (PW _ _) λ_=>uu _)
  ·exact tj (PW _ _) λ_=>tj (aeo _) λ_=>tj (uu _) λt=>c t _ (uu _)
theorem axk(a b n:Nat)(base:aj aU)(x:ag)(u:Unsupported):Sm P fs fx Hid X (Builtin.mayShare a b n base x>>=λs=>if(!s)=U then(mark .noRoom>>=λ_=>(unsupported u:Sem Unit))else unsupported u):=(Bu (ayQ _ _ _ _ _) λs=>by split<;>first|exact Bu (ayP _) λ_=>tP _|exact tP _).kH
theorem avQ(a:af aK)(t:aK)(b:af ag):Sm P fs fx Hid X (Builtin.append_ a t b):=by
 unfold Builtin.append_;split
 ·refine bh (pZ _) λu=>?_
  split
  ·split
   ·refine bh (xU _) λc=>?_
    dsimp only
    exact c6
   ·exact dz _
  ·exact dz _
 ·exact dz _
end
section
variable {P:aD}{fs:af dK}{fx:Obj->Prop}{Hid:Loc->Prop}{α β γ:Type}{X:ae Nat}
theorem adH{f:γ->Sem β}(h:∀x,Sm P fs fx Hid X (f x)):∀l:ae γ,Sm P fs fx Hid X (l.mapM f)
 |[]=>by rw[List.mapM_nil];exact br _
 |x::l=>by
  rw[List.mapM_cons];exact bh (h x) λ_=>bh (adH h l) λ_=>br _
theorem adk{f:γ->Sem β}(h:∀x,Sm P fs fx Hid X (f x))(l:af γ):Sm P fs fx Hid X (l.mapM f):=by
 rw[Array.mapM_eq_mapM_toList];exact bh (adH h _) λ_=>br _
theorem avX(t:aK)(p:af (Nat×ag)):Sm P fs fx Hid X (Instr.build t p):=by
 unfold Instr.build;refine bh (VO _) λz=>bh (pZ _) λu=>?_;split
 ·refine bh (adk (λf=>bh (xU _) λ_=>br _) _) λa=>?_
  exact c6
 ·exact c6
 ·exact dz _
theorem av9{c b:aK}(x:ag)(h:∃j k,P.underlying c=Z (.int j)/\P.underlying b=Z (.int k)):Sm P fs fx Hid X (convert c b x):=by
 obtain⟨j,k,i,l⟩:=h;unfold convert;refine VN λd f=>VN λe g=>?_;rw[i]at f;rw[l]at g;cases f;cases g;cases x<;>first|exact br _|exact lC _|exact awH _ _ _|skip
 rename_i a;cases a<;>exact lC _
theorem axe(f:ag)(a:af ag):Sm P fs fx Hid X (Eg f a):=by
 unfold Eg;exact c6
theorem axj(ρ:iP->ag)(c:Call)(t:aK):Sm P fs fx Hid X (resolve ρ c t):=by
 unfold resolve;dsimp only
 split
 ·exact br _
 ·exact br _
 ·exact axe _ _
theorem ayU(c:Sys):ot P fs (sys c):=λfx w o=>by
 have l:(sys c).run (Lo P fs) w=.ok (w.sys c).1 (w.sys c).2:=rfl;have m:∀{β:Type}(x:Ask β)(w:ax),(w.ask x).2.heap=w.heap:=λ{β}x=>by
  induction x with
  |done a=>intro w;rfl
  |ask j f k i=>
   intro w;unfold World.ask;dsimp only
   split
   ·exact i _ _
   ·exact i _ _
 have n:(w.sys c).2.heap=w.heap:=by
  unfold World.sys;have:=m (Kernel.perform c w.os) w;split
  ·rfl
  ·rename_i h
   rw[h]at this;exact this
 rw[l];exact⟨λv p e=>(by cases e;intro b d g;rw[n]at g;exact o b d g),λx p e=>(by cases e)⟩
theorem ayS:ot P fs Instr.panicnil:=by
 unfold Instr.panicnil;refine tj (ayU _) λv=>?_;split
 ·exact tj VX λ_=>uu _
 ·exact(fL _).VW
theorem ahB(x:ag):mz P fs (Instr.panic x):=by
 unfold Instr.panic;split
 ·exact M3 _
 ·refine Bu ayS λ_=>?_
  split
  ·exact M3 _
  ·exact sB _
 ·exact fL _
theorem VF(t:aK)(x:Place):Sm P fs fx Hid X (Place.get t x):=by
 unfold Place.get;exact c6
theorem MK{p:Prop}(h:p:=by first|with_reducible exact br _|with_reducible exact dz _|with_reducible exact lC _|with_reducible exact xT _|with_reducible exact Iv _|with_reducible exact Vo _|with_reducible exact Pz _|with_reducible exact Vp _|with_reducible exact xU _|with_reducible exact Co _|with_reducible exact pZ _|with_reducible exact VO _|with_reducible exact adl _ _ _ _):p:=h
theorem Vt:∀(l:ae FieldStep)(t:aK)(x:Place),Sm P fs fx Hid X (follow l t x)
 |[],_,_=>br _
 |s::rest,t,x=>by
  have a:=Vt rest;unfold follow
  repeat'(first|exact MK|with_reducible exact VF _ _|with_reducible exact Vn _|with_reducible exact adu _ _|with_reducible exact wx _ _ _|with_reducible exact a _ _|with_reducible refine bh ?_ λ_=>?_|with_reducible refine jW (λ_=>?_) λ_=>?_|split|dsimp only)
end
def xw(P:aD)(f:cH):Bool:=(P.funcs[f]?).any (·.name== "(*sync.Mutex).Unlock")
def rH(P:aD)(f:cH):Bool:=(P.funcs[f]?).any λg=>["(*sync.Mutex).Lock","(*sync.Mutex).Unlock","(*sync.WaitGroup).Wait","(*mvstore/mv.Store).start","(mvstore/mv.worker).do"].contains g.name
def qT(P:aD):Op->Bool
 |.ready _|.waits _|.makeChan .. |.sliceToArrayPointer .. |.mapEntry .. |.entryStore .. |.go _|.send .. |.recv .. |.select .. =>Y
 |.defer c=>match c.callee with
  |.value (.func f)=>xw P f
  |_=>Y
 |.convert b a _=>(P.underlying b matches Z (.int _))&&(P.underlying a matches Z (.int _))
 |.call c=>match c.callee with
  |.builtin .append|.builtin .min|.builtin .delete|.builtin .clear=>U
  |.builtin .len=>match c.argTypes[0]? with
   |some t=>!(P.underlying t matches Z (.chan ..))
   |none=>U
  |.builtin _=>Y
  |_=>U
 |_=>U
section
variable {P:aD}{fs:af dK}{fx:Obj->Prop}{Hid:Loc->Prop}{α β γ:Type}{rs:ae Nat}
theorem axB(a:af aK)(t:aK)(b:af ag):Sm P fs fx Hid rs (Builtin.ssaWrapNilChk_ a t b):=by
 obtain⟨l⟩:=b;rcases l with _|⟨x,_|⟨y,_|⟨z,_|⟨u,l⟩⟩⟩⟩
 ·exact dz _
 ·exact dz _
 ·exact dz _
 ·cases y<;>first|exact dz _|skip
  cases z<;>first|exact dz _|skip
  cases x<;>first|exact dz _|skip
  rename_i p;cases p with
  |some a=>exact br _
  |none=>
   refine bh (Iv _) λn=>jW (λ_=>(sB _).bind.kH) λ_=>?_;exact c6
 ·exact dz _
theorem adS(t:aK)(x:Place)(b:Bool)(w:aj String):Sm P fs fx Hid rs (receiverAt t x b w):=by
 unfold receiverAt;exact c6
theorem axi(t:aK)(x:ag)(p:af FieldStep)(b:Bool):Sm P fs fx Hid rs (receiverVia t x p b):=by
 unfold receiverVia;exact c6
theorem adN:∀(n:Nat)(t:aK)(v:ag)(a:String),Sm P fs fx Hid rs (method n t v a)
 |0,_,_,_=>lC _
 |n+1,t,v,a=>by
  have b:=adN n;unfold method
  repeat'(first|exact MK|with_reducible exact Vt _ _ _|with_reducible exact adS _ _ _ _|with_reducible exact VF _ _|with_reducible exact b _ _ _|with_reducible refine bh ?_ λ_=>?_|with_reducible refine jW (λ_=>?_) λ_=>?_|split|dsimp only)
theorem adx:∀(l:ae FieldStep)(t:aK)(x:aj ag),Sm P fs fx Hid rs (followBlind l t x)
 |[],_,_=>br _
 |s::rest,t,x=>by
  have a:=adx rest;unfold followBlind
  repeat'(first|exact MK|with_reducible exact a _ _|with_reducible exact wx _ _ _|with_reducible refine bh ?_ λ_=>?_|with_reducible refine jW (λ_=>?_) λ_=>?_|split|dsimp only)
theorem adP:∀(n:Nat)(t:aK)(v:ag)(a:String),Sm P fs fx Hid rs (nilAhead n t v a)
 |0,_,_,_=>br _
 |n+1,t,v,a=>by
  have b:=adP n;unfold nilAhead
  repeat'(first|exact MK|with_reducible exact b _ _ _|with_reducible exact adx _ _ _|with_reducible refine bh ?_ λ_=>?_|with_reducible refine jW (λ_=>?_) λ_=>?_|split|dsimp only)
theorem Iw(l:Nat){k:Loop->Sem β}(h:∀r,fx (.loop r)->Sm P fs fx Hid (l::rs) (k r)):Sm P fs fx Hid rs (Instr.getLoop l>>=k):=by
 unfold Instr.getLoop;rw[bind_assoc];refine wu (λo a=>?_) (vF (λ_ _ _ _ _ _=>(fL _).bind) λ_ _=>(fL _).bind);cases o<;>first|exact zr (h _ a)|exact(fL _).bind.kH
theorem axN(l:Nat)(a:af ag):Sm P fs fx Hid rs (Instr.yield l a):=by
 unfold Instr.yield;refine Iw l λr _=>?_;exact jW (λ_=>(fL _).bind.kH) λ_=>br _
def Bd(P:aD)(fs:af dK)(fx:Obj->Prop)(Hid:Loc->Prop):Prop:=∀rs f a,Sm P fs fx Hid rs (gC f a)
theorem adm(H:Bd P fs fx Hid)(v:ag)(b:String)(a:af ag):Sm P fs fx Hid rs (callMethod v b a):=by
 unfold callMethod;split
 ·refine oc F (bh (adN _ _ _ _) λr=>?_)
  exact H _ _ _
 ·exact xT _
 ·exact dz _
theorem adB(H:Bd P fs fx Hid)(f:Fn)(c:af ag)(a:af ag):Sm P fs fx Hid rs (invoke (.fn f c) a):=by
 unfold invoke;cases f with
 |func f=>exact H _ _ _
 |method d=>
  dsimp only
  split
  ·exact adm H _ _ _
  ·exact dz _
 |methodOf t d=>
  dsimp only
  split
  ·refine bh (pZ _) λu=>?_
   split<;>exact adm H _ _ _
  ·exact dz _
 |via t p f b=>
  dsimp only
  split
  ·exact bh (axi _ _ _ _) λ_=>H _ _ _
  ·exact dz _
 |yield l=>exact axN _ _
theorem kZ{x:Sem ag}(h:Sm P fs fx Hid rs x):Sm P fs fx Hid rs (do pure (mR (<-x))):=bh h λ_=>br _
theorem Vr{x:Sem Unit}(h:Sm P fs fx Hid rs x):Sm P fs fx Hid rs (do x;pure Next.skip):=bh h λ_=>br _
theorem adn(H:Bd P fs fx Hid)(ρ:iP->ag)(c:Call)(k:aK)(a:qT P (.call c)=U):Sm P fs fx Hid rs (do let d<-resolve ρ c k;invoke d.target d.args):=by
 unfold resolve;cases hc:c.callee with
 |builtin b=>
  simp only[qT,hc]at a;refine zr ?_;unfold invoke builtin;cases b<;>first|exact absurd a jL|skip
  ·exact kZ (avQ _ _ _)
  ·exact kZ (av6 _ _ _)
  ·exact kZ (awg _ _ _)
  ·refine kZ (awS _ _ λx d e j i=>?_)
   dsimp only at a;rw[j]at a;simp only[i]at a;exact absurd a ba
  ·exact kZ (aw3 _ _ _)
 |invoke h g=>
  refine zr ?_;exact adB H _ _ _
 |value f=>
  dsimp only
  unfold Eg;split
  ·exact zr (adB H _ _ _)
  ·refine zr ?_
   unfold invoke;exact xT _
  ·exact(fL _).bind.kH
theorem axa(v:ag):Sm P fs fx Hid rs (match v with
  |.pointer I|.nilIface|.nilFunc=>runtimePanic .nilDeref
  |.func (.method b) first a=>
   match(first[0]?:aj ag)with
   |some .nilIface=>runtimePanic .nilDeref
   |some (.iface t w)=>do
    if(<-nilAhead ((<-program).types.size+Made.depth) t w b)!=Z Y then unsupported (.noEntry "op/nilCheck.the method's receiver behind this interface value is a nil pointer, or cannot be seen to be none, and the arguments act or may panic (ledger 612)")
    pure (.value (.func (.method b) first a))
   |_=>pure (.value (.func (.method b) first a))
  |x=>pure (.value x):Sem Next):=by
 split
 ·exact xT _
 ·exact xT _
 ·exact xT _
 ·split
  ·exact xT _
  ·refine oc F (bh (adP _ _ _ _) λr=>jW (λ_=>(tP _).bind.kH) λ_=>br _)
  ·exact br _
 ·exact br _
theorem adt(H:Bd P fs fx Hid)(ρ:iP->ag)(o:bq)(d:qT P o.op=U):Sm P fs fx Hid rs (cN ρ o):=by
 unfold cN;dsimp only
 cases ho:o.op with
 |move x=>exact br _
 |assign x=>exact br _
 |pick c a b=>exact bh (Vo _) λ_=>br _
 |alloc e=>exact kZ (avP _ _ _)
 |box e x=>exact kZ (avW _ _)
 |build t p=>exact kZ (avX _ _)
 |buildSlice t n p=>exact kZ (avY _ _ _)
 |load t x=>exact kZ (awU _ _)
 |store t a x=>exact Vr (axD _ _ _)
 |nilCheck x=>exact axa _
 |binOp q t x y v=>exact kZ (bh (awm _ _ _ _ _ _) λ_=>avV _ _ _ _)
 |unOp q t x=>exact kZ (axK _ _)
 |convert s j x=>
  rw[ho]at d;refine kZ (av9 _ ?_);simp only[qT,gT]at d;obtain⟨g,h⟩:=d;split at g
  ·split at h
   ·exact⟨_,_,‹_›,‹_›⟩
   ·cases h
  ·cases g
 |makeInterface t x=>exact kZ (awW _ _)
 |makeFunc f a b=>exact kZ (br _)
 |makeMap t r=>exact kZ (awX _ _)
 |makeSlice t l c=>exact kZ (awY _ _ _)
 |slice t x a b c=>exact kZ (axy _ _ _ _ _)
 |fieldAddr t x i=>exact kZ (awB _ _ _)
 |field t x i=>exact kZ (awA _ _ _)
 |indexAddr t x i=>exact kZ (awM _ _ _)
 |index t x i=>exact kZ (awL _ _ _)
 |lookup t x i b=>exact kZ (awV _ _ _ _)
 |mapUpdate t m k x=>exact Vr (adM _ _ _ _)
 |insert t m k x=>exact Vr (adM _ _ _ _)
 |range t x=>exact kZ (axh _ _)
 |next i b=>exact kZ (aw9 _ _ _)
 |entry i=>exact kZ (awl _)
 |typeAssert x t u b=>exact kZ (axI _ _ _ _)
 |extract x i=>exact kZ (awz _ _)
 |call c=>exact adn H _ _ _ (ho▸d)
 |defer c=>exact bh (axj _ _ _) λ_=>br _
 |panic x=>exact kZ ((ahB _).kH)
 |_=>rw[ho]at d;exact absurd d jL
end
def jl(P:aD):bH->Bool
 |.region _ c _=>c.all λo=>qT P o.op
 |.seq a b=>jl P a&&jl P b
 |.cond _ a b=>jl P a&&jl P b
 |.block _ b|.loop b|.scope b=>jl P b
 |.rangeFunc _ _ a b=>jl P a&&jl P b
 |_=>U
def lV(P:aD)(d:cz):Prop:=
 match d.target with
 |.fn (.func f) _=>xw P f=U
 |.collected _=>True
 |_=>False
def bS(P:aD):Obj->Prop
 |.loop l=>jl P l.assign=U/\jl P l.body=U/\(∀c,l.pending=Z c->jl P c=U)/\rH P l.fn=Y
 |.deferred (Z a)=>∀d∈a,lV P d
 |_=>True
structure nO(P:aD)(fn:cH)(kind:dQ)(defers:ae cz):Prop where
 kind:kind=.normal\/(kind=.deferred/\xw P fn=U)
 defers:∀d∈defers,lV P d
 ne:rH P fn=Y
abbrev Wh:=cH×Nat×aj Nat
section
variable (P:aD)(Spec:ae aJ->ae aJ->bH->bH->Prop)
inductive vu:ae aJ->ae aJ->bH->bH->Prop
 |same {k' k:ae aJ} (c:bH) (h:jl P c=U):vu k' k c c
 |seq {k' k:ae aJ} {a b a' b':bH} (ha:vu (.code b'::k') (.code b::k) a' a) (hb:vu k' k b' b):vu k' k (.seq a' b') (.seq a b)
 |cond {k' k:ae aJ} {a b a' b':bH} (x:iP) (ha:vu k' k a' a) (hb:vu k' k b' b):vu k' k (.cond x a' b') (.cond x a b)
 |spec {k' k:ae aJ} {a a':bH} (h:Spec k' k a' a):vu k' k a' a
inductive Bg:ae aJ->ae aJ->aJ->aJ->Prop
 |code {k' k:ae aJ} {c' c:bH} (h:vu P Spec k' k c' c):Bg k' k (.code c') (.code c)
 |inBlock {k' k:ae aJ} (id:Nat):Bg k' k (.inBlock id) (.inBlock id)
 |inLoop {k' k:ae aJ} (b:bH) (h:jl P b=U):Bg k' k (.inLoop b) (.inLoop b)
 |inScope {k' k:ae aJ} (b:bH) (h:jl P b=U):Bg k' k (.inScope b) (.inScope b)
 |inRegion {k' k:ae aJ} (ops:af bq) (l:ae Nat) (h:(ops.all λo=>qT P o.op)=U):Bg k' k (.inRegion ops l) (.inRegion ops l)
 |inRangeFunc {k' k:ae aJ} (l:Nat):Bg k' k (.inRangeFunc l) (.inRangeFunc l)
 |endRangeFunc {k' k:ae aJ} (l:Nat):Bg k' k (.endRangeFunc l) (.endRangeFunc l)
 |beginRound {k' k:ae aJ}:Bg k' k .beginRound .beginRound
inductive nP:ae aJ->ae aJ->Prop
 |nil:nP [] []
 |cons {i' i:aJ} {k' k:ae aJ} (h:Bg P Spec k' k i' i) (hk:nP k' k):nP (i'::k') (i::k)
end
section
variable (P:aD)(Spec:Wh->ae aJ->ae aJ->bH->bH->Prop)
def fG(b a:aA):Prop:=∃t,b={a with todo:=t}/\nP P (Spec (a.fn,a.tmps.size,a.roundOf)) t a.todo/\nO P a.fn a.kind a.defers/\(a.mode=.run\/a.mode=.returning)
end
section
variable {P:aD}{X:ae aJ->ae aJ->bH->bH->Prop}{Spec:Wh->ae aJ->ae aJ->bH->bH->Prop}
theorem ai9:∀(c)(l)(r),jl P c=U->findLabel c l=Z r->jl P r=U:=by
 intro c;induction c with
 |seq a b e f=>
  intro l r d h;simp only[jl,gT]at d;simp only[findLabel]at h;split at h
  ·rename_i x g
   cases h;simp only[jl,gT];exact⟨e l x d.1 g,d.2⟩
  ·exact f l r d.2 h
 |label m=>
  intro l r _ h;simp only[findLabel]at h;split at h
  ·cases h;rfl
  ·cases h
 |_=>intro l r _ h;simp[findLabel]at h
theorem Yh{id}:∀{a k},nP P X a k->(exitTo id a=I/\exitTo id k=I)\/∃c r,exitTo id a=Z c/\exitTo id k=Z r/\nP P X c r:=by
 intro a k h;induction h with
 |nil=>exact .inl ⟨F,F⟩
 |cons h e b=>
  cases h with
  |inBlock d=>
   simp only[exitTo];split
   ·simp_all
   ·exact b
  |_=>simpa only[exitTo]using b
theorem YM{l}:∀{a k},nP P X a k->(gotoIn l a=I/\gotoIn l k=I)\/∃e r,gotoIn l a=Z e/\gotoIn l k=Z r/\nP P X e r:=by
 intro a k h;induction h with
 |nil=>exact .inl ⟨F,F⟩
 |cons h f d=>
  cases h with
  |inScope b c=>
   simp only[gotoIn];split
   ·rename_i x g
    exact .inr ⟨_,_,F,F,.cons (.code (.same _ (ai9 _ _ _ c g))) (.cons (.inScope b c) f)⟩
   ·exact d
  |_=>simpa only[gotoIn]using d
theorem ajc(f)(a)(d)(i)(l)(k)(e)(c)(b)(g)(v):(jw ⟨f,a,.inRegion d (i::l)::k,e,c,b,g⟩ v).tmps.size=a.size:=by
 simp only[jw];split<;>simp
theorem fG.finish{fr' fr}(h:fG P Spec fr' fr)(v):fG P Spec (fr'.finish v) (fr.finish v):=by
 obtain⟨t,rfl,u,c,d⟩:=h;obtain⟨o,m,s,a,j,g,q⟩:=fr;cases u with
 |nil=>exact⟨[],F,.nil,c,d⟩
 |@cons _ _ w k h f=>
  cases h with
  |code h=>exact⟨_,F,.cons (.code h) f,c,d⟩
  |inBlock id=>exact⟨_,F,.cons (.inBlock _) f,c,d⟩
  |inLoop b p=>exact⟨_,F,.cons (.inLoop b p) f,c,d⟩
  |inScope b p=>exact⟨_,F,.cons (.inScope b p) f,c,d⟩
  |inRegion n l r=>
   cases l with
   |nil=>exact⟨_,F,.cons (.inRegion _ _ r) f,c,d⟩
   |cons i rest=>
    refine⟨_,F,?_,c,d⟩;have e:=ajc o m n i rest k a j g q v;show nP P (Spec (o,(jw ⟨o,m,.inRegion n (i::rest)::k,a,j,g,q⟩ v).tmps.size,q)) ..;rw[e];exact .cons (.inRegion _ _ r) f
  |inRangeFunc l=>exact⟨_,F,.cons (.endRangeFunc l) f,c,d⟩
  |endRangeFunc l=>exact⟨_,F,.cons (.endRangeFunc l) f,c,d⟩
  |beginRound=>exact⟨_,F,f,c,d⟩
theorem nO.cons{c}{b}{a}(h:nO P c b a){d}(f:lV P d):nO P c b (d::a):=⟨h.kind,λx g=>(bM.1 g).elim (λe=>e▸f) (h.defers x),h.ne⟩
end
def hasB(fs:af dK)(f:cH):Bool:=(fs[f]?).any (·.body.isSome)
def Ql(fs:af dK):Next->Bool
 |.value _|.skip=>U
 |.enter f _=>hasB fs f
 |_=>Y
def NK(P:aD)(fs:af dK):Next->Prop
 |.round _ f _ a b=>jl P a=U/\jl P b=U/\rH P f=Y
 |.defer d=>lV P d
 |n=>Ql fs n=U
section
variable {P:aD}{fs:af dK}{Hid:Loc->Prop}{α β γ:Type}
def eB(P:aD)(fs:af dK)(s:Sem Next):Prop:=∀w n a,s.run (Lo P fs) w=.ok n a->Ql fs n=U
def KN(P:aD)(fs:af dK)(Hid:Loc->Prop)(s:Sem Next):Prop:=∀w W,Rel (bS P) Hid w W->∀n a,s.run (Lo P fs) w=.ok n a->NK P fs n
theorem eB.kn{s}(h:eB P fs s):KN P fs Hid s:=λw _ _ n a e=>by
 have:=h w n _ e;cases n<;>first|exact this|exact absurd this jL
theorem sU{s}{k:γ->Sem Next}(h:∀v,eB P fs (k v)):eB P fs (s>>=k):=λw n b e=>by
 have c:(s>>=k).run (Lo P fs) w=(s.run (Lo P fs) w).andThen λa b=>(k a).run (Lo P fs) b:=zI _ s k w;rw[c]at e;cases hc:s.run (Lo P fs) w with
 |ok v d=>rw[hc]at e;exact h v _ n _ e
 |halt x d=>rw[hc]at e;cases e
theorem vQ{n}(h:Ql fs n=U):eB P fs (Pure.pure n):=λw m a e=>by cases e;exact h
theorem qN{s}(h:mz P fs s):eB P fs s:=λw n a e=>absurd e ((h w).1 n _)
theorem aar{x}:eB P fs (do pure (mR (<-x))):=sU λ_=>vQ F
theorem KI{x}:eB P fs (do x;pure Next.skip):=sU λ_=>vQ F
theorem aoc{c} [Decidable c]{s t}(a:eB P fs s)(b:eB P fs t):eB P fs (if c then s else t):=by split<;>assumption
def Bc(P:aD)(fs:af dK):Prop:=∀f a,eB P fs (gC f a)
theorem Oi(H:Bc P fs)(v)(b)(a):eB P fs (callMethod v b a):=by
 unfold callMethod;split
 ·exact sU λ_=>sU λr=>H _ _
 ·exact qN (sB _)
 ·exact qN (fL _)
theorem KM{a}{k:γ->Sem Next}(h:KN P fs Hid (k a)):KN P fs Hid (Pure.pure a>>=k):=h
theorem aok(l)(a):KN P fs Hid (Instr.yield l a):=λw W i n j e=>by
 unfold Instr.yield Instr.getLoop at e;rw[bind_assoc]at e;have g:∀k:Obj->Sem Next,(j4 l>>=k).run (Lo P fs) w=(wP l k).run (Lo P fs) w:=λ_=>rfl;rw[g]at e;unfold bP at e;cases hb:w.heap[l]? with
 |none=>rw[hb]at e;cases e
 |some o=>
  rw[hb]at e;obtain⟨O,_,h⟩:=i.obj _ _ hb;cases h with
  |same _ d=>
   cases o with
   |loop r=>
    have f:jl P r.assign=U/\jl P r.body=U/\rH P r.fn=Y:=⟨d.1,d.2.1,d.2.2.2⟩;have c:(if a.size≠r.params.size then stuck "yield: the wrong number of arguments">>=λ_=>(pure (Next.round l r.fn ((r.params.zip a).foldl (λb(t,a)=>b.setIfInBounds t a) r.tmps) r.assign r.body))else pure (Next.round l r.fn ((r.params.zip a).foldl (λb(t,a)=>b.setIfInBounds t a) r.tmps) r.assign r.body)).run (Lo P fs) w=.ok n j:=e;split at c
    ·cases c
    ·cases c
     exact f
   |_=>cases e
  |cut=>cases e
  |k8=>cases e
  |view=>cases e
theorem aaA(H:Bc P fs)(f)(c)(a):KN P fs Hid (invoke (.fn f c) a):=by
 unfold invoke;cases f with
 |func f=>exact eB.kn (H _ _)
 |method d=>
  dsimp only
  split
  ·exact eB.kn (Oi H _ _ _)
  ·exact eB.kn (qN (fL _))
 |methodOf t d=>
  dsimp only
  split
  ·refine eB.kn (sU λu=>?_)
   split<;>exact Oi H _ _ _
  ·exact eB.kn (qN (fL _))
 |via t p f b=>
  dsimp only
  split
  ·exact eB.kn (sU λ_=>H _ _)
  ·exact eB.kn (qN (fL _))
 |yield l=>
  exact aok l _
theorem aay(H:Bc P fs)(ρ)(c)(h)(a:qT P (.call c)=U):KN P fs Hid (do let d<-resolve ρ c h;invoke d.target d.args):=by
 unfold resolve;cases hc:c.callee with
 |builtin b=>
  simp only[qT,hc]at a;refine KM ?_;cases b<;>first|exact absurd a jL|exact eB.kn aar
 |invoke g e=>
  refine KM ?_;exact aaA H _ _ _
 |value f=>
  dsimp only
  unfold Eg;split
  ·refine KM ?_
   exact aaA H _ _ _
  ·refine KM ?_
   unfold invoke;exact eB.kn (qN (sB _))
  ·exact eB.kn (qN (fL _).bind)
theorem aoi{ρ}(h:∀f,ρ (.func f)=.func (.func f) #[] #[])(c)(i)(a:qT P (.defer c)=U):KN P fs Hid (do pure (Next.defer (<-resolve ρ c i))):=by
 unfold resolve;simp only[qT]at a;cases hc:c.callee with
 |builtin b=>simp[hc]at a
 |invoke g d=>simp[hc]at a
 |value x=>
  cases x<;>rw[hc]at a<;>first|exact absurd a jL|skip
  dsimp only at a⊢;rw[h];intro w W j n k e;cases e;exact a
theorem aaz(H:Bc P fs){ρ}(e:∀f,ρ (.func f)=.func (.func f) #[] #[])(o)(d:qT P o.op=U):KN P fs Hid (cN ρ o):=by
 unfold cN;cases ho:o.op with
 |move x=>exact eB.kn (vQ F)
 |assign x=>exact eB.kn (vQ F)
 |pick c a b=>exact eB.kn (sU λ_=>vQ F)
 |nilCheck x=>
  dsimp only
  split
  ·exact eB.kn (qN (sB _))
  ·exact eB.kn (qN (sB _))
  ·exact eB.kn (qN (sB _))
  ·split
   ·exact eB.kn (qN (sB _))
   ·exact eB.kn (sU λ_=>sU λ_=>aoc (sU λ_=>vQ F) (vQ F))
   ·exact eB.kn (vQ F)
  ·exact eB.kn (vQ F)
 |call c=>exact aay H _ _ _ (ho▸d)
 |defer c=>exact aoi e _ _ (ho▸d)
 |store t a x=>exact eB.kn KI
 |mapUpdate t m k x=>exact eB.kn KI
 |insert t m k x=>exact eB.kn KI
 |go c=>rw[ho]at d;exact absurd d jL
 |send c x=>rw[ho]at d;exact absurd d jL
 |recv c x b=>rw[ho]at d;exact absurd d jL
 |select c b=>rw[ho]at d;exact absurd d jL
 |ready g=>exact eB.kn KI
 |entryStore t m s x=>exact eB.kn KI
 |_=>exact eB.kn aar
end
section
open Go.Conc (G)
def Je:ae aJ->Bool
 |.inRegion _ (_::_)::_|.beginRound::_|.inRangeFunc _::_=>U
 |_=>Y
section
variable {P:aD}{fs:af dK}{Hid:Loc->Prop}{Spec:Wh->ae aJ->ae aJ->bH->bH->Prop}{T:aA->aA->Prop}
abbrev dZ(b:aA)(a:ae aA)(w:ax)(es:af dR):GStep:=.go {frame:=b,callers:=a,status:=.running,dying:=I} w es
def Mh(g:aH):Prop:=(g.status=.blocked/\g.offers=I)\/(g.status=.waiting/\g.offers=I)\/(g.status=.running/\∃d f,g.dying=Z d/\d.calling=Y/\d.fatal=Z f)
def Shape(s:GStep):Prop:=(∃t c w es,s=dZ t c w es)\/(∃o w es,s=.ended o w es)\/∃g w es,s=.go g w es/\Mh g
abbrev kf(a:aA):dQ×cH:=(a.kind,a.fn)
structure Qp(P:aD)(Spec:Wh->ae aJ->ae aJ->bH->bH->Prop)(Hid:Loc->Prop)(T:aA->aA->Prop)(fr' fr:aA)(cs' cs:ae aA)(w W:ax)(dF:aA)(dw:ae aA)(w1:ax)(top:aA)(iC:ae aA)(W1:ax)(us:af dR):Prop where
 V1:T dF top
 cs:(dw=cs'/\iC=cs/\top.roundOf=fr.roundOf/\kf top=kf fr)\/(dw=fr'::cs'/\iC=fr::cs)
 rel:Rel (bS P) Hid w1 W1
 keep:iS w W w1 W1
 Bw:∀e∈us,rk Hid w1.heap.size e
def CQ(p:aD)(a:aA)(c:ae aA):Next->aj (aA×ae aA)
 |.value v=>Z (a.finish v,c)
 |.skip=>Z (a.finish aB,c)
 |.enter f b=>Z (bO p f b .normal,a::c)
 |.defer d=>Z ({a with defers:=d::a.defers}.finish aB,c)
 |.round l f tm x y=>Z (Frame.round l f tm x y .normal,a::c)
 |_=>I
theorem NK.after(h:NK P fs n)(p:aD)(b:aA)(a:ae aA):∃t c,CQ p b a n=Z (t,c):=by
 cases n<;>first|exact⟨_,_,rfl⟩|exact absurd (show Y=U from h) jL
theorem MJ{p:aD}{fr:aA}{f:ae aA}{t:aA}{c:ae aA}(d:Je fr.todo=U)(o:CQ p fr f n=Z (t,c))(h:s.run p w=.ok n e):∃es,iA p U fr f I s w=dZ t c e es:=by
 have m:s.runT p w #[]=(.ok n e,s.events p w #[]):=by rw[jN,h]
 obtain⟨q,l,a,b,j,g,r⟩:=fr;simp only at d;cases a with
 |nil=>exact absurd d jL
 |cons i k=>
  cases i<;>first|exact absurd d jL|(unfold iA;simp only[if_true,m];cases n<;>cases o<;>exact⟨_,rfl⟩)
def Bh(p:aD)(e:aA)(b:ae aA)(w:ax)(t:aA)(c:ae aA)(f:ax):Prop:=∃n a,f=re a w.tape (w.drawn+n)/\∀τ d,(∀i,i<n->∀q,τ (d+i) q=w.tape (w.drawn+i) q)->∃es,aE p U (G e b) (re w τ d)=dZ t c (re a τ (d+n)) es
theorem aph{p:aD}{a:aA}{b:ae aA}{t:aA}{c:ae aA}{es:af dR}(g:Je a.todo=U)(u:NK P fs n)(v:uK p s w n e)(h:s.run p w=.ok n e)(k:∀x,aE p U (G a b) x=iA p U a b I s x)(o:iA p U a b I s w=dZ t c e es):Bh p a b w t c e:=by
 obtain⟨C,B,i⟩:=u.after p a b;obtain⟨A,f⟩:=MJ g i h;rw[o]at f;cases f;obtain⟨m,z,q,r⟩:=v;refine⟨m,z,q,λτ d y=>?_⟩;obtain⟨j,l⟩:=MJ g i (r τ d y);exact⟨j,(k _).trans l⟩
theorem ac5(C:∀a b,fG P Spec a b->T a b)(hE:∀f j,hasB fs f=U->T (bO (Lo P fs) f j .normal) (bO P f j .normal)){B:Sem Next}
  (hs:pG P fs (bS P) Hid [] B s)(hn:KN P fs Hid B){q u:aA}{cs' cs:ae aA}(Q:fG P Spec q u)(J:Je u.todo=U)(hr:Rel (bS P) Hid w W){A:ax}
  (M:B.run (Lo P fs) w=.ok n A):
  ∃X dw fP E iC H G,iA (Lo P fs) U q cs' I B w=dZ X dw A fP/\iA P U u cs I s W=dZ E iC H G/\Qp P Spec Hid T q u cs' cs w W X dw A E iC H G:=by
 obtain⟨⟨H,G,hS,p,o,qL⟩,_⟩:=(hs w W hr ba).1 n A M;have R:B.runT (Lo P fs) w #[]=(.ok n A,B.events (Lo P fs) w #[]):=by rw[jN,M]
 have S:s.runT P W #[]=(.ok n H,G):=by rw[hS];simp
 have m:=hn w W hr n A M;have r:∀(N:cH)(c:Prop) [Decidable c](e:dR),e∈seen P N (if c then#[]else G)->rk Hid A.heap.size e:=λN c _ e h=>by
  have O:=Cz h;split at O
  ·simp at O
  ·exact qL e O
 have kA:=Q.finish;have z:∀(v:ag),T (q.finish v) (u.finish v):=λv=>C _ _ (kA v);have L:∀(d:cz),lV P d->T ({q with defers:=d::q.defers}.finish aB) ({u with defers:=d::u.defers}.finish aB):=λd hd=>by
  obtain⟨t,rfl,K,V,hm⟩:=Q;exact C _ _ (fG.finish (fr':={u with todo:=t,defers:=d::u.defers}) (fr:={u with defers:=d::u.defers}) ⟨t,F,K,V.cons hd,hm⟩ aB)
 obtain⟨t,rfl,K,V,hm⟩:=Q;obtain⟨N,δ,D,k,γ,β,ro⟩:=u;simp only at J K;cases K with
 |nil=>exact absurd J jL
 |cons h hk=>
  cases h with
  |inRegion ε l ho=>
   cases l with
   |nil=>exact absurd J jL
   |cons i l=>
    unfold iA;simp only[if_true,R,S];cases n with
    |value v=>exact⟨_,_,_,_,_,_,_,F,F,z v,.inl ⟨F,F,F,F⟩,p,o,λe g=>r _ _ e (by simpa using g)⟩
    |skip=>exact⟨_,_,_,_,_,_,_,F,F,z aB,.inl ⟨F,F,F,F⟩,p,o,λe g=>r _ _ e (by simpa using g)⟩
    |enter f j=>exact⟨_,_,_,_,_,_,_,F,F,hE f j m,.inr ⟨F,F⟩,p,o,λe g=>r _ _ e (by simpa using g)⟩
    |defer d=>exact⟨_,_,_,_,_,_,_,F,F,L d m,.inl ⟨F,F,F,F⟩,p,o,λe g=>r _ _ e (by simpa using g)⟩
    |round l f tm x y=>
     exact⟨_,_,_,_,_,_,_,F,F,C _ _ ⟨_,F,.cons (.code (.same _ m.1)) (.cons .beginRound (.cons (.code (.same _ m.2.1)) .nil)),⟨.inl F,by simp[Frame.round],m.2.2⟩,.inl F⟩,.inr ⟨F,F⟩,p,o,λe g=>r _ _ e (by simpa using g)⟩
    |_=>exact absurd (show Y=U from m) jL
  |beginRound=>
   unfold iA;simp only[if_true,R,S];cases n with
   |value v=>exact⟨_,_,_,_,_,_,_,F,F,z v,.inl ⟨F,F,F,F⟩,p,o,λe g=>r _ _ e (by simpa using g)⟩
   |skip=>exact⟨_,_,_,_,_,_,_,F,F,z aB,.inl ⟨F,F,F,F⟩,p,o,λe g=>r _ _ e (by simpa using g)⟩
   |enter f j=>exact⟨_,_,_,_,_,_,_,F,F,hE f j m,.inr ⟨F,F⟩,p,o,λe g=>r _ _ e (by simpa using g)⟩
   |defer d=>exact⟨_,_,_,_,_,_,_,F,F,L d m,.inl ⟨F,F,F,F⟩,p,o,λe g=>r _ _ e (by simpa using g)⟩
   |round l f tm x y=>
    exact⟨_,_,_,_,_,_,_,F,F,C _ _ ⟨_,F,.cons (.code (.same _ m.1)) (.cons .beginRound (.cons (.code (.same _ m.2.1)) .nil)),⟨.inl F,by simp[Frame.round],m.2.2⟩,.inl F⟩,.inr ⟨F,F⟩,p,o,λe g=>r _ _ e (by simpa using g)⟩
   |_=>exact absurd (show Y=U from m) jL
  |inRangeFunc l0=>
   unfold iA;simp only[if_true,R,S];cases n with
   |value v=>exact⟨_,_,_,_,_,_,_,F,F,z v,.inl ⟨F,F,F,F⟩,p,o,λe g=>r _ _ e (by simpa using g)⟩
   |skip=>exact⟨_,_,_,_,_,_,_,F,F,z aB,.inl ⟨F,F,F,F⟩,p,o,λe g=>r _ _ e (by simpa using g)⟩
   |enter f j=>exact⟨_,_,_,_,_,_,_,F,F,hE f j m,.inr ⟨F,F⟩,p,o,λe g=>r _ _ e (by simpa using g)⟩
   |defer d=>exact⟨_,_,_,_,_,_,_,F,F,L d m,.inl ⟨F,F,F,F⟩,p,o,λe g=>r _ _ e (by simpa using g)⟩
   |round l f tm x y=>
    exact⟨_,_,_,_,_,_,_,F,F,C _ _ ⟨_,F,.cons (.code (.same _ m.1)) (.cons .beginRound (.cons (.code (.same _ m.2.1)) .nil)),⟨.inl F,by simp[Frame.round],m.2.2⟩,.inl F⟩,.inr ⟨F,F⟩,p,o,λe g=>r _ _ e (by simpa using g)⟩
   |_=>exact absurd (show Y=U from m) jL
  |_=>exact absurd J jL
end
end
section
open Go.ConcR (DC0)
def fR{α:Type}(P:aD):Sem α->aj α
 |.pure a=>Z a
 |.program k=>fR P (k P)
 |_=>I
theorem Ch{α:Type}:∀{s:Sem α}{a:α},fR P s=Z a->∀w es,s.runT P w es=(.ok a w,es):=by
 intro s;induction s with
 |pure x=>intro a h w es;cases h;rfl
 |program k b=>intro a h w es;exact b P h w es
 |_=>intro a h;cases h
def oM(P:aD)(g:aH):aj aH:=
 match g with
 |⟨⟨p,j,r,e,.run,h,I⟩,q,.running,I,I⟩=>
  let n (t:ae aJ):aj aH:=Z ⟨⟨p,j,t,e,.run,h,I⟩,q,.running,I,I⟩;let u (t:ae aJ):aj aH:=Z ⟨⟨p,j,t,e,.returning,h,I⟩,q,.running,I,I⟩
  match r with
  |[]=>u []
  |.code .ret::k=>u (.code .ret::k)
  |.code .skip::k=>n k
  |.code (.label _)::k=>n k
  |.inBlock _::k=>n k
  |.inScope _::k=>n k
  |.code (.seq a b)::k=>n (.code a::.code b::k)
  |.code (.cond c w x)::k=>
   match bR ⟨p,j,[],e,.run,h,I⟩ c with
   |.bool U=>n (.code w::k)
   |.bool Y=>n (.code x::k)
   |_=>I
  |.code (.block id l)::k=>n (.code l::.inBlock id::k)
  |.code (.loop l)::k=>n (.code l::.inLoop l::k)
  |.inLoop l::k=>n (.code l::.inLoop l::k)
  |.code (.scope l)::k=>n (.code l::.inScope l::k)
  |.code (.exit id)::k=>(exitTo id k).bind n
  |.code (.region _ m Y)::k=>n (.inRegion m (qh m.size)::k)
  |.inRegion _ []::k=>n k
  |.inRegion m (i::rest)::k=>
   match m[i]? with
   |none=>I
   |some o=>
    if wO o (yielded m j)then
     match h with
     |.early=>I
     |_=>
      match fR P (cN (bR ⟨p,j,[],e,.run,h,I⟩) o)with
      |some (.value v)=>Z ⟨jw ⟨p,j,.inRegion m (i::rest)::k,e,.run,h,I⟩ v,q,.running,I,I⟩
      |some .skip=>Z ⟨jw ⟨p,j,.inRegion m (i::rest)::k,e,.run,h,I⟩ aB,q,.running,I,I⟩
      |some (.enter f s)=>Z ⟨bO P f s .normal,⟨p,j,.inRegion m (i::rest)::k,e,.run,h,I⟩::q,.running,I,I⟩
      |some (.defer d)=>Z ⟨jw ⟨p,j,.inRegion m (i::rest)::k,d::e,.run,h,I⟩ aB,q,.running,I,I⟩
      |_=>I
    else Z ⟨jw ⟨p,j,.inRegion m (i::rest)::k,e,.run,h,I⟩ aB,q,.running,I,I⟩
  |_=>I
 |⟨⟨p,j,r,[],.returning,h,y⟩,a::q,.running,I,I⟩=>
  match P.funcs[p]? with
  |none=>I
  |some f=>
   match fR P (results f j),h,a.mode with
   |some v,.normal,.run=>Z ⟨a.finish v,q,.running,I,I⟩
   |some _,.deferred,.returning=>Z ⟨a,q,.running,I,I⟩
   |_,_,_=>I
 |_=>I
theorem D4{main:Bool}{C:aH}(h:oM P g=Z C):g.status=.running/\∀w,aE P main g w=.go C w #[]:=by
 obtain⟨⟨j,e,l,b,G,d,M⟩,s,R,Q,L⟩:=g;unfold oM at h;split at h
 ·rename_i j e l b d s m
  cases m;refine⟨F,λw=>?_⟩;dsimp only at h;split at h
  ·cases h;simp[aE,cf]
  ·cases h;simp[aE,cf]
  ·cases h;simp[aE,cf]
  ·cases h;simp[aE,cf]
  ·cases h;simp[aE,cf]
  ·cases h;simp[aE,cf]
  ·cases h;simp[aE,cf]
  ·rename_i c N O k
   have t:∀H,bR ⟨j,e,H,b,.run,d,I⟩ c=bR ⟨j,e,[],b,.run,d,I⟩ c:=λH=>by cases c<;>rfl
   split at h
   ·rename_i u;cases h;simp[aE,cf,t,u]
   ·rename_i u;cases h;simp[aE,cf,t,u]
   ·cases h
  ·cases h;simp[aE,cf]
  ·cases h;simp[aE,cf]
  ·cases h;simp[aE,cf]
  ·cases h;simp[aE,cf]
  ·rename_i id k
   cases he:exitTo id k with
   |none=>rw[he]at h;cases h
   |some r=>rw[he]at h;cases h;simp[aE,cf,he]
  ·cases h;simp[aE,cf]
  ·cases h;simp[aE,cf]
  ·rename_i p i rest k
   split at h
   ·cases h
   ·rename_i o y
    have t:bR ⟨j,e,.inRegion p (i::rest)::k,b,.run,d,I⟩=bR ⟨j,e,[],b,.run,d,I⟩:=funext λx=>by cases x<;>rfl
    split at h
    ·rename_i A
     have step:aE P main ⟨⟨j,e,.inRegion p (i::rest)::k,b,.run,d,I⟩,s,.running,I,I⟩ w=iA P U ⟨j,e,.inRegion p (i::rest)::k,b,.run,d,I⟩ s I (cN (bR ⟨j,e,[],b,.run,d,I⟩) o) w:=by
      simp only[aE,cf,y,jE,A,rV,if_true];unfold stepG.oper;simp only[Frame.oper?,y,t]
     rw[step];have B:∀n,fR P (cN (bR ⟨j,e,[],b,.run,d,I⟩) o)=Z n->(cN (bR ⟨j,e,[],b,.run,d,I⟩) o).runT P w #[]=(.ok n w,#[]):=λn J=>Ch J w #[];cases d<;>dsimp only at h
     all_goals first
      |(cases h;done)
      |(split at h<;>first
         |(cases h;done)
         |(rename_i K
           have q:=B _ K;cases h;unfold iA;simp only[if_true,q];simp[seen_none,mx]))
    ·rename_i A
     cases h;simp[aE,cf,y,A]
  ·cases h
 ·rename_i j e l d M a s m
  cases m;refine⟨rfl,λw=>?_⟩;split at h
  ·cases h
  ·rename_i f D
   split at h
   ·rename_i v z E
    cases h;have q:=Ch z w #[];simp only[aE,lT,D,q,rW];simp[seen_none,mx]
   ·rename_i v z E
    cases h;have q:=Ch z w #[];simp only[aE,lT,D,q,rW,E];simp[seen_none,mx]
   ·cases h
 ·cases h
def aN(P:aD):Nat->aH->aH
 |0,g=>g
 |n+1,g=>match oM P g with
  |some a=>aN P n a
  |none=>g
theorem ac4{a:Bool}{Next:aH->Prop}:∀(n:Nat)(g:aH),Next (aN P n g)->Qn P a Next n g:=by
 intro n;induction n with
 |zero=>intro g h;exact Goes.stop λ_ _=>h
 |succ n e=>
  intro g h;unfold aN at h;cases hq:oM P g with
  |none=>rw[hq]at h;exact Goes.stop λ_ _=>h
  |some b=>
   rw[hq]at h;obtain⟨c,d⟩:=D4 (main:=a) hq;refine Goes.step c λw _=>?_;rw[d w];exact⟨⟨F,F⟩,Goes.rely (λ_ _ _ _ _=>trivial) (e b h) trivial⟩
inductive iR where
 |ev (e:dR)
 |shape (r:Nat)
 |frozen (a:aU)
def su{α:Type}(P:aD)(b:aj (aK×Nat)):Sem α->ag->aj (α×ag×ae iR)
 |.pure a,v=>Z (a,v,[])
 |.program k,v=>su P b (k P) v
 |.load m a k,v=>(su P b (k v) v).map λr=>(r.1,r.2.1,.ev ⟨.cell a,Y,m==.atomic⟩::r.2.2)
 |.store m a x k,_=>match x with
  |.agg _|.tuple _=>I
  |x=>(su P b k x).map λr=>(r.1,r.2.1,.ev ⟨.cell a,U,m==.atomic⟩::r.2.2)
 |.frozen a k,v=>(su P b (k Y) v).map λx=>(x.1,x.2.1,.frozen a::x.2.2)
 |.shape r k,v=>(su P b (k b) v).map λx=>(x.1,x.2.1,.shape r::x.2.2)
 |.mark m k,v=>(su P b k v).map λr=>(r.1,r.2.1,.ev ⟨.mark m,Y,U⟩::r.2.2)
 |_,_=>I
def dm:ae iR->ae dR
 |[]=>[]
 |.ev e::l=>e::dm l
 |.shape _::l=>dm l
 |.frozen _::l=>dm l
def eN(a:aU):ae iR->Prop
 |[]=>True
 |.ev ⟨.cell b,_,_⟩::l=>b=a/\eN a l
 |.ev _::l=>eN a l
 |.shape r::l=>r=a.block/\eN a l
 |.frozen b::l=>b=a/\eN a l
theorem U9(h:w.cell? a=Z v)(b:w.frozen? a=Y):(w.setCell a x).cell? a=Z x/\(w.setCell a x).frozen? a=Y/\(w.setCell a x).shape? a.block=w.shape? a.block:=by
 refine⟨by rw[zZ h,if_pos F],?_,zp h x _⟩;obtain⟨c,t,f,e,g,i,_⟩:=kQ h;have d:=heap_setCell e g x a.block;rw[if_pos F]at d;unfold qj at b⊢;rw[d];rw[e]at b;exact b
theorem ID{a b:ax}(c:a.heap=b.heap)(d:a.tape=b.tape)(e:a.drawn=b.drawn)(f:a.os=b.os)(g:a.output=b.output):a=b:=by
 cases a;cases b;simp_all
theorem Pu(h:w.cell? a=Z v)(x y:ag):(w.setCell a x).setCell a y=w.setCell a y:=by
 obtain⟨c,t,f,g,d,j,_⟩:=kQ h;have i:=heap_setCell g d x a.block;rw[if_pos F]at i;refine ID (zB λb=>?_) F F F F;rw[heap_setCell i d,heap_setCell g d,heap_setCell g d];by_cases e:b=a.block
 ·simp[e]
 ·simp[e]
theorem xQ(h:w.cell? a=Z v):w.setCell a v=w:=by
 obtain⟨c,t,f,g,k,j,l⟩:=kQ h;refine ID (zB λb=>?_) F F F F;rw[heap_setCell g k];by_cases e:b=a.block
 ·subst e
  rw[if_pos F,g];congr 2;apply zB;intro i;rw[uF];by_cases d:a.off=i
  ·subst d;rw[if_pos F,if_pos j,l]
  ·simp[d]
 ·rw[if_neg e]
theorem agT{α:Type}{u:aj (aK×Nat)}:∀{s:Sem α}{v:ag}{n:α}{o:ag}{l:ae iR},su P u s v=Z (n,o,l)->eN a l->∀w es,w.cell? a=Z v->w.frozen? a=Y->w.shape? a.block=u->s.runT P w es=(.ok n (w.setCell a o),es++(dm l).toArray):=by
 intro s;induction s with
 |pure x=>
  intro v n o l h c w es d e f;cases h;rw[xQ d];simp[nM,dm]
 |program k j=>intro v n o l h c w es d e f;exact j P h c w es d e f
 |load m b k j=>
  intro v n o l h c w es d e f;simp only[su]at h;obtain⟨⟨q,t,p⟩,g,i⟩:=fX.1 h;cases i;obtain⟨rfl,c⟩:=c;simp only[nM,d];rw[j v g c w _ d e f];simp[dm]
 |store m b x k j=>
  intro v n o l h c w es d e f;have C:∃r,su P u k x=Z r/\(r.1,r.2.1,iR.ev ⟨.cell b,U,m==.atomic⟩::r.2.2)=(n,o,l)/\x.oneCell'=U:=by
   cases x<;>first
    |(simp only[su]at h;cases h;done)
    |(simp only[su]at h
      obtain⟨r,g,i⟩:=fX.1 h;exact⟨r,g,i,rfl⟩)
  obtain⟨⟨q,t,p⟩,g,i,y⟩:=C;cases i;obtain⟨rfl,c⟩:=c;obtain⟨z,A,c3⟩:=U9 (x:=x) d e;have B:(Sem.store m b x k).runT P w es=k.runT P (w.setCell b x) (es.push ⟨.cell b,U,m==.atomic⟩):=by
   cases x<;>first|(cases y;done)|(simp only[nM,d,e];rfl)
  rw[B,j g c _ _ z A (c3.trans f),Pu d];simp[dm]
 |shape r k j=>
  intro v n o l h c w es d e f;simp only[su]at h;obtain⟨⟨q,t,p⟩,g,i⟩:=fX.1 h;cases i;obtain⟨rfl,c⟩:=c;simp only[nM,f];rw[j _ g c w _ d e f];simp[dm]
 |frozen b k j=>
  intro v n o l h c w es d e f;simp only[su]at h;obtain⟨⟨q,t,p⟩,g,i⟩:=fX.1 h;cases i;obtain⟨rfl,c⟩:=c;simp only[nM,e];rw[j _ g c w _ d e f];simp[dm]
 |mark m k j=>
  intro v n o l h c w es d e f;simp only[su]at h;obtain⟨⟨q,t,p⟩,g,i⟩:=fX.1 h;cases i;simp only[nM];rw[j g c w _ d e f];simp[dm]
 |_=>intro v n o l h;simp only[su]at h;cases h
def eV(P:aD)(g:aH):aj (Sem Next):=
 match g with
 |⟨⟨e,c,.inRegion d (i::_)::_,a,.run,b,I⟩,_,.running,I,I⟩=>
  match b with
  |.early=>I
  |_=>
   match d[i]? with
   |some o=>if wO o (yielded d c)then Z (cN (bR ⟨e,c,[],a,.run,b,I⟩) o)else I
   |none=>I
 |_=>I
theorem ze(h:eV P g=Z s):∃e c d i rest k a b f o,g=⟨⟨e,c,.inRegion d (i::rest)::k,a,.run,b,I⟩,f,.running,I,I⟩/\b≠.early/\d[i]?=Z o/\wO o (yielded d c)=U/\cN (bR ⟨e,c,[],a,.run,b,I⟩) o=s:=by
 unfold eV at h;split at h
 ·split at h
  ·cases h
  ·split at h
   ·split at h
    ·exact⟨_,_,_,_,_,_,_,_,_,_,F,by simpa using‹_›,‹_›,‹_›,ee h⟩
    ·cases h
   ·cases h
 ·cases h
def mj(P:aD)(g:aH)(n:Next):aj aH:=(CQ P g.frame g.callers n).map λr=>{g with frame:=r.1,callers:=r.2}
def nY(P:aD)(b:aj (aK×Nat))(v:ag)(g:aH):aj (aH×ag×ae iR):=(eV P g).bind λs=>(su P b s v).bind λr=>(mj P g r.1).map λa=>(a,r.2.1,r.2.2)
theorem xA{main:Bool}{A:aj (aK×Nat)}{B:ag}{q:aH}{l:ae iR}(h:nY P A v g=Z (q,B,l))(N:eN a l):g.status=.running/\∀w,w.cell? a=Z v->w.frozen? a=Y->w.shape? a.block=A->aE P main g w=.go q (w.setCell a B) (seen P g.frame.fn (dm l).toArray):=by
 unfold nY at h;obtain⟨s,m,r⟩:=nj.1 h;obtain⟨⟨n,V,T⟩,Q,u⟩:=nj.1 r;obtain⟨S,O,J⟩:=fX.1 u;clear h r u;obtain⟨j,e,f,i,rest,k,b,d,p,o,rfl,E,z,R,m⟩:=ze m;cases J;obtain⟨⟨t,c⟩,y,L⟩:=fX.1 O;cases L;refine⟨F,λw K M H=>?_⟩;have D:=agT Q N w #[] K M H;have G:bR ⟨j,e,.inRegion f (i::rest)::k,b,.run,d,I⟩=bR ⟨j,e,[],b,.run,d,I⟩:=funext λx=>by cases x<;>rfl
 have step:aE P main ⟨⟨j,e,.inRegion f (i::rest)::k,b,.run,d,I⟩,p,.running,I,I⟩ w=iA P U ⟨j,e,.inRegion f (i::rest)::k,b,.run,d,I⟩ p I s w:=by
  simp only[aE,cf,z,jE,R,rV,if_true];unfold stepG.oper;simp only[Frame.oper?,z,G,m]
 rw[step];have C:(d==CallKind.early)=Y:=by simpa using E
 unfold iA;simp only[if_true,D];cases n<;>simp only[CQ,gB,fN,reduceCtorEq]at y<;>obtain⟨rfl,rfl⟩:=y<;>simp[mx,C]
end
section
open Go.ConcN (sumTo upd sumTo_upd upd_ne upd_same)
def stage(P:aD)(a:aj (aK×Nat))(v:ag)(g:aH):aj (aH×ag×ae iR):=nY P a v (aN P 400 g)
def gZ(P:aD)(a:aj (aK×Nat))(v:ag)(g:aH):aH:=match stage P a v g with
 |some r=>r.1
 |none=>default
def xV(P:aD)(g:aH)(l:ae iR):af dR:=seen P (aN P 400 g).frame.fn (dm l).toArray
theorem Cp{P}{a}{v b}{g}{l}(h:(stage P a v g).map (λr=>r.2)=Z (b,l)):stage P a v g=Z (gZ P a v g,b,l):=by
 unfold gZ;cases hs:stage P a v g with
 |none=>rw[hs]at h;cases h
 |some r=>grind
def lH(A:aU->Prop)(X:Loc->Prop)(B:Nat)(e:dR):Prop:=
 match e.loc with
 |.cell b=>A b/\(e.sync=U\/¬X (.cell b))/\b.block<B
 |.mark (.read b)|.mark (.write b)=>A b/\b.block<B
 |.mark (.acquire b)|.mark (.release b)|.mark (.releaseMerge b)=>b.block<B
 |.mark _=>True
 |_=>False
structure Gate(St:Nat->Loc->Prop)(ao:Nat->aj YS)(A:aU->Prop):Prop where
 out:∀b,A b->∀g,¬St g (.cell b)
 keep:∀b,A b->∀i y,ao i=Z y->∀w v,y.K w->y.K (w.setCell b v)
section
variable {P:aD}{St At:Nat->Loc->Prop}{X:Loc->Prop}{ao:Nat->aj YS}{h d B:Nat}{T:ed}{W:af aH}{w:ax}{q:Nat->Nat}{A:aU->Prop}
theorem Aa{a}{v x}(k:w.cell? a=Z x){c g s r:Nat}{b}{i tm}(n:w.heap[c]?=Z (.chan g b i s r tm)):(w.setCell a v).heap[c]?=w.heap[c]?:=by
 obtain⟨m,t,f,j,l,o,_⟩:=kQ k;rw[heap_setCell j l];by_cases e:c=a.block
 ·simp_all
 ·rw[if_neg e]
theorem Q1(i:Gate St ao A){e}(f:lH A X B e):(∀x,(gI e).touch?=Z x->Bo St X x)/\(gI e).low B:=by
 obtain⟨j,r,l⟩:=e;cases j with
 |cell b=>
  obtain⟨k,p,n⟩:=f;refine⟨λx a=>?_,?_⟩
  ·cases l with
   |true=>
    simp only[gI,lS,gB]at a;subst a;exact⟨λg c=>absurd c (i.out b k g),λ_=>by simp⟩
   |false=>
    have o:¬X (.cell b):=by simpa using p
    simp only[gI,lS,gB]at a;subst a;exact⟨λg c=>absurd c (i.out b k g),λc=>absurd c o⟩
  ·cases l<;>exact n
 |mark m=>
  cases m with
  |read b=>
   refine⟨λx a=>?_,f.2⟩;simp only[gI,lS,gB]at a;subst a;exact⟨λg c=>absurd c (i.out b f.1 g),λ_=>by simp⟩
  |write b=>
   refine⟨λx a=>?_,f.2⟩;simp only[gI,lS,gB]at a;subst a;exact⟨λg c=>absurd c (i.out b f.1 g),λ_=>by simp⟩
  |acquire b=>exact⟨λx a=>by simp[gI,lS]at a,f⟩
  |release b=>exact⟨λx a=>by simp[gI,lS]at a,f⟩
  |releaseMerge b=>exact⟨λx a=>by simp[gI,lS]at a,f⟩
  |_=>exact⟨λx a=>by simp[gI,lS]at a,trivial⟩
 |_=>exact f.elim
theorem YH.stage(C:YH P St At X ao h d B T W w q)(s:Gate St ao A){a}(jQ:A a){g}{sl}(M:W[h]?=Z g){b}{v v'}{l}
  (u:(YtgahemdblfapeaaGreatDoor.stage P b v g).map (λr=>r.2)=Z (v',l))(R:eN a l)(K:∀e∈dm l,lH A X B e)(p:w.cell? a=Z v)(O:w.frozen? a=Y)(J:w.shape? a.block=b):
  mX P St At X ao h B W.size (crowd W w sl) T λd' f w'=>d'=ia d (xV P g l)/\f=gZ P b v g/\AtRel (w.setCell a v') w':=by
 refine(Wv _ T _ w q _ g (λf=>f=aN P 400 g) C M (ac4 _ g F)).then λm6 w1 jV T1 q1 d1 a1 z V n⟨E,G,H⟩=>?_
 subst E G;obtain⟨t,rfl⟩:=H;have Q:=Cp u;obtain⟨x,L⟩:=xA Q R;rw[<-z];refine n.told V x λo=>⟨gZ P b v g,(((w.at t).at o)).setCell a v',xV P g l,L _ p O J,⟨λi y c j S=>?_,λi y j m=>s.keep a jQ i y j _ _ m,λe N=>?_⟩,F,F,⟨o,F⟩⟩
 ·obtain⟨k,m⟩:=n.yd.chans i y c j S
  have D:=m;exact Aa p D
 ·have:=mem_seen N
  exact Q1 s (K e (by simpa using this))
end
end

section
open Go.ConcN (sumTo upd sumTo_upd upd_ne upd_same)
theorem AO{P:aD}{main:Bool}{g g':aH}{n:Next}{w w1:ax}{es:af dR}(f:eV P g=Z s)(C:mj P g n=Z g')(D:s.runT P w #[]=(.ok n w1,es)):g.status=.running/\aE P main g w=.go g' w1 (seen P g.frame.fn es):=by
 obtain⟨fn,R,e,i,rest,k,b,V,cs,o,rfl,u,p,E,f⟩:=ze f;obtain⟨⟨t,c⟩,j,z⟩:=fX.1 C;cases z;refine⟨F,?_⟩;have y:bR ⟨fn,R,.inRegion e (i::rest)::k,b,.run,V,I⟩=bR ⟨fn,R,[],b,.run,V,I⟩:=funext λx=>by cases x<;>rfl
 have step:aE P main ⟨⟨fn,R,.inRegion e (i::rest)::k,b,.run,V,I⟩,cs,.running,I,I⟩ w=iA P U ⟨fn,R,.inRegion e (i::rest)::k,b,.run,V,I⟩ cs I s w:=by
  simp only[aE,cf,p,jE,E,rV,if_true];unfold stepG.oper;simp only[Frame.oper?,p,y,f]
 rw[step];have r:(V==CallKind.early)=Y:=by simpa using u
 unfold iA;simp only[if_true,D];cases n<;>simp only[CQ,gB,fN,reduceCtorEq]at j<;>obtain⟨rfl,rfl⟩:=j<;>simp[mx,r]
def O7(P:aD)(g:aH)(n:Next):aH:=(mj P g n).getD default
theorem asf{P:aD}{g:aH}{n:Next}(h:(mj P g n).isSome=U):mj P g n=Z (O7 P g n):=by
 unfold O7;cases e:mj P g n with
 |none=>rw[e]at h;cases h
 |some x=>rfl
structure eQ(w:ax)(a:aU)(v:ag)(sh:aj (aK×Nat)):Prop where
 cell:w.cell? a=Z v
 free:w.frozen? a=Y
 shape:w.shape? a.block=sh
def yq(a:aU)(v:ag)(w b:ax):Prop:=AtRel (w.setCell a v) b
theorem eQ.upd{w b:ax}{a:aU}{v v':ag}{sh:aj (aK×Nat)}(h:eQ w a v sh)(f:yq a v' w b):eQ b a v' sh:=by
 obtain⟨d,rfl⟩:=f;obtain⟨c,e,c3⟩:=U9 (x:=v') h.cell h.free;exact⟨c,e,c3.trans h.shape⟩
theorem eQ.at{w b:ax}{a:aU}{v:ag}{sh:aj (aK×Nat)}(h:eQ w a v sh)(c:AtRel w b):eQ b a v sh:=by
 obtain⟨d,rfl⟩:=c;exact⟨h.cell,h.free,h.shape⟩
theorem yq.trans{w f i:ax}{a:aU}{v e b:ag}(o:w.cell? a=Z v)(j:yq a e w f)(k:yq a b f i):yq a b w i:=by
 obtain⟨p,rfl⟩:=j;obtain⟨c,rfl⟩:=k;refine⟨c,?_⟩;show(((w.setCell a e).setCell a b).at c)=_;rw[Pu o]
theorem yq.at{w b c:ax}{a:aU}{v:ag}(e:yq a v w b)(f:AtRel b c):yq a v w c:=atRel_trans _ _ _ e f
section
variable {P:aD}{Q At:Nat->Loc->Prop}{W:Loc->Prop}{O:Nat->aj YS}{h d B n:Nat}{T:ed}{L:af aH}{w:ax}{q:Nat->Nat}{A:aU->Prop}
theorem YH.quiet(C:YH P Q At W O h d B T L w q)(k:Nat){g g':aH}{sl:aj (Nat×Nat)}(c:L[h]?=Z g)(e:aN P k g=g'):mX P Q At W O h B L.size (crowd L w sl) T λd' b f=>d'=d/\b=g'/\AtRel w f:=
 Wv k T L w q sl g (λb=>b=g') C c (ac4 k g e)
theorem YH.LC(C:YH P Q At W O h d B T L w q){g:aH}{sl:aj (Nat×Nat)}(p:L[h]?=Z g){n:Next}(x:eV P (aN P 400 g)=Z s)(r:(mj P (aN P 400 g) n).isSome=U)
  (u:∀b,s.runT P (w.at b) #[]=(.ok n (w.at b),#[])):
  mX P Q At W O h B L.size (crowd L w sl) T λd' f z=>d'=d/\f=O7 P (aN P 400 g) n/\AtRel w z:=by
 refine(C.quiet (sl:=sl) 400 p F).then λJ N jV D K H G i y e⟨j,k,o⟩=>?_
 subst j k;obtain⟨E,rfl⟩:=o;rw[<-i];have c:=λb=>AO (main:=h==0) x (asf r) (u b);refine e.told y (c 0).1 λb=>⟨_,_,_,(c b).2,?_,?_,F,⟨b,F⟩⟩
 ·exact DZ.still (by simp[seen_none])
 ·simp[seen_none,ia]
def jm(P:aD)(Q At:Nat->Loc->Prop)(W:Loc->Prop)(O:Nat->aj YS)(h B n:Nat)(a:aU)(w0:ax)(m:fT)(T:ed)(d:Nat)(v:ag)(g:aH):Prop:=mX P Q At W O h B n m T λd' b c=>d'=d/\b=g/\yq a v w0 c
section
variable {m:fT}{a:aU}{w0:ax}{v0 v v':ag}{sh:aj (aK×Nat)}{g g':aH}{d':Nat}
theorem jm.begin{sl:aj (Nat×Nat)}(C:YH P Q At W O h d B T L w q)(b:L[h]?=Z g)(c:eQ w a v sh):jm P Q At W O h B L.size a w (crowd L w sl) T d v g:=IW C b ⟨F,F,⟨w.drawn,by rw[xQ c.cell];rfl⟩⟩
theorem jm.stage(H:jm P Q At W O h B n a w0 m T d v g)(f:eQ w0 a v0 sh)(C:Gate Q O A)(G:A a){l:ae iR}(o:(YtgahemdblfapeaaGreatDoor.stage P sh v g).map (λr=>r.2)=Z (v',l))(D:eN a l)(y:∀e∈dm l,lH A W B e)(z:ia d (xV P g l)=d'):jm P Q At W O h B n a w0 m T d' v' (gZ P sh v g):=by
 refine mX.then H λm6 w1 jV T1 q1 d1 a1 p E i⟨u,x,c⟩=>?_;subst u x;have b:=f.upd c;have:=YH.stage i C G (sl:=jV) E o D y b.cell b.free b.shape;rw[p]at this;obtain⟨N,K,w2,J,j,q2,s,k,k1,k2,k3,k4,k5,k6,k7⟩:=this;exact⟨N,K,w2,J,j,q2,s,k,k1,k2,k3,k4,k5.trans z,k6,yq.trans f.cell c k7⟩
theorem jm.LC(H:jm P Q At W O h B n a w0 m T d v g)(u:eQ w0 a v0 sh){x:Next}(C:eV P (aN P 400 g)=Z s)(y:(mj P (aN P 400 g) x).isSome=U)(z:∀w,eQ w a v sh->s.runT P w #[]=(.ok x w,#[])):jm P Q At W O h B n a w0 m T d v (O7 P (aN P 400 g) x):=by
 refine mX.then H λm6 w1 jV T1 q1 d1 a1 i D c⟨o,p,b⟩=>?_;subst o p;have r:=u.upd b;have:=YH.LC c (sl:=jV) D C y λk=>z _ (r.at ⟨k,F⟩);rw[i]at this;obtain⟨N,G,w2,E,e,q2,j,f,J,K,k3,k4,k5,k6,k7⟩:=this;exact⟨N,G,w2,E,e,q2,j,f,J,K,k3,k4,k5,k6,b.at k7⟩
theorem jm.quiet(H:jm P Q At W O h B n a w0 m T d v g)(k:Nat)(r:aN P k g=g'):jm P Q At W O h B n a w0 m T d v g':=by
 refine mX.then H λm6 w1 jV T1 q1 d1 a1 f s b⟨j,o,p⟩=>?_;subst j o;have:=YH.quiet b (sl:=jV) k s r;rw[f]at this;obtain⟨N,x,w2,u,c,K,i,e,y,z,C,D,E,G,J⟩:=this;exact⟨N,x,w2,u,c,K,i,e,y,z,C,D,E,G,p.at J⟩
end
end
theorem V5{P:aD}{t u e:aK}{w:ax}{a:aU}{v:ag}{sh:aj (aK×Nat)}(r:P.underlying t=Z (.pointer e))(s:P.underlying u=Z .unsafePointer)(b:(P.info? e).map (λi=>i.size !=0)=Z U)(o:eQ w a v sh):(convert t u (.pointer (Z a))>>=λv=>pure (mR v)).runT P w #[]=(.ok (.value (.pointer (Z a))) w,#[]):=by
 obtain⟨c,x,f,k,z,y,C⟩:=kQ o.cell;obtain⟨i,p,b⟩:=fX.1 b;have j:i.size≠0:=by simpa using b
 have sP:w.shape? a.block=Z (x,c.size):=by unfold fF;rw[k]
 have aC:¬(c.size<=a.off):=by omega
 simp[convert,Conv.unsafePointer,Conv.seenAt,viewAt,cellsIn,underlying,typeInfo,sizeOf,r,s,p,j,sP,aC]
abbrev i32(n:Int):ag:=.int .i32 n
abbrev ptr(S X:Nat):ag:=.pointer (Z ⟨S,X,I⟩)
section
variable {Q At:Nat->Loc->Prop}{W:Loc->Prop}{O:Nat->aj YS}{h B n:Nat}{T:ed}{w:ax}{A:aU->Prop}{m:fT}{S X t l:Nat}
variable {fn:cH}{R:af ag}{M:ae aJ}{ds:ae cz}{V:dQ}{ro:aj Nat}{cs:ae aA}
def bI(n:Nat)(t:Nat->ag)(l:ae ag):af ag:=⟨(qh n).map t++l⟩
noncomputable def C7(f:cH)(n:Nat)(t:Nat->ag)(l:ae ag)(V:dQ):aA:=⟨f,bI n t l,[.code (((Tryz.prog.funcs[f]?).bind (·.body)).getD .skip)],[],.run,V,I⟩
def dc(t:Nat->ag)(p:ag):Nat->ag:=λi=>match i with
 |0=>p
 |i+1=>t i
def IA(t:Nat->ag)(p q:ag):Nat->ag:=λi=>match i with
 |0=>p
 |1=>q
 |i+2=>t i
section
variable {xs:Nat->ag}{xl:ae ag}
theorem api(f:Gate Q O A)(c:A ⟨S,X,I⟩)(i:S<B)(b:eQ w ⟨S,X,I⟩ (i32 0) (Z (t,l)))
  (H:jm ak Q At W O h B n ⟨S,X,I⟩ w m T 0 (i32 0) (aN ak 1 (G (C7 43 6 (dc xs (ptr S X)) xl .normal) (⟨fn,R,M,ds,.run,V,ro⟩::cs)))):
  jm ak Q At W O h B n ⟨S,X,I⟩ w m T 0 (i32 1) (G (jw ⟨fn,R,M,ds,.run,V,ro⟩ (.tuple #[])) cs):=by
 have j:=H.stage b f c (v':=i32 0) (l:=[.ev ⟨.mark (.extern 74),Y,U⟩,.ev ⟨.mark .disable,Y,U⟩]) (d':=1) al (by simp[eN]) (by simp[dm,lH]) al;have k:=j.stage b f c (v':=i32 1) (l:=[.ev ⟨.mark (.extern 110),Y,U⟩,.shape S,.frozen ⟨S,X,I⟩,.ev ⟨.cell ⟨S,X,I⟩,Y,U⟩,.ev ⟨.cell ⟨S,X,I⟩,U,U⟩]) (d':=1) al (by simp[eN]) (by simp[dm,lH,c,i]) al;have o:=k.stage b f c (v':=i32 1) (l:=[.ev ⟨.mark (.extern 76),Y,U⟩,.ev ⟨.mark .enable,Y,U⟩]) (d':=0) al (by simp[eN]) (by simp[dm,lH]) al;have p:=o.LC b (s:=convert 210 169 (ptr S X)>>=λv=>pure (.value v)) (x:=.value (ptr S X)) al al (λw=>V5 (e:=92) al al al);have r:=p.stage b f c (v':=i32 1) (l:=[.ev ⟨.mark (.extern 77),Y,U⟩,.ev ⟨.mark (.acquire ⟨S,X,I⟩),Y,U⟩]) (d':=0) al (by simp[eN]) (by simp[dm,lH,i]) al;exact r.quiet 6 al
theorem azA(f:Gate Q O A)(b:A ⟨S,X,I⟩)(y:¬W (.cell ⟨S,X,I⟩))(i:S<B)(c:eQ w ⟨S,X,I⟩ (i32 1) (Z (t,l)))
  (H:jm ak Q At W O h B n ⟨S,X,I⟩ w m T 0 (i32 1) (aN ak 1 (G (C7 44 6 (dc xs (ptr S X)) xl .normal) (⟨fn,R,M,ds,.run,V,ro⟩::cs)))):
  jm ak Q At W O h B n ⟨S,X,I⟩ w m T 0 (i32 0) (G (jw ⟨fn,R,M,ds,.run,V,ro⟩ (.tuple #[])) cs):=by
 have j:=H.stage c f b (v':=i32 1) (l:=[.ev ⟨.cell ⟨S,X,I⟩,Y,Y⟩]) (d':=0) al (by simp[eN]) (by simp[dm,lH,b,i,y]) al;have k:=j.LC c (s:=convert 210 169 (ptr S X)>>=λv=>pure (.value v)) (x:=.value (ptr S X)) al al (λw=>V5 (e:=92) al al al);have o:=k.stage c f b (v':=i32 1) (l:=[.ev ⟨.mark (.extern 112),Y,U⟩,.ev ⟨.mark (.releaseMerge ⟨S,X,I⟩),Y,U⟩]) (d':=0) al (by simp[eN]) (by simp[dm,lH,i]) al;have p:=o.stage c f b (v':=i32 1) (l:=[.ev ⟨.mark (.extern 74),Y,U⟩,.ev ⟨.mark .disable,Y,U⟩]) (d':=1) al (by simp[eN]) (by simp[dm,lH]) al;have r:=p.stage c f b (v':=i32 0) (l:=[.ev ⟨.mark (.extern 113),Y,U⟩,.ev ⟨.cell ⟨S,X,I⟩,Y,U⟩,.ev ⟨.cell ⟨S,X,I⟩,U,U⟩]) (d':=1) al (by simp[eN]) (by simp[dm,lH,b,i]) al;have u:=r.stage c f b (v':=i32 0) (l:=[.ev ⟨.mark (.extern 76),Y,U⟩,.ev ⟨.mark .enable,Y,U⟩]) (d':=0) al (by simp[eN]) (by simp[dm,lH]) al;exact u.quiet 6 al
theorem azz(f:Gate Q O A)(b:A ⟨S,X,I⟩)(y:¬W (.cell ⟨S,X,I⟩))(i:S<B)(c:eQ w ⟨S,X,I⟩ (i32 1) (Z (t,l)))
  (H:jm ak Q At W O h B n ⟨S,X,I⟩ w m T 0 (i32 1) (aN ak 1 (G (C7 44 6 (dc xs (ptr S X)) xl .deferred) (⟨fn,R,M,ds,.returning,V,ro⟩::cs)))):
  jm ak Q At W O h B n ⟨S,X,I⟩ w m T 0 (i32 0) (G ⟨fn,R,M,ds,.returning,V,ro⟩ cs):=by
 have j:=H.stage c f b (v':=i32 1) (l:=[.ev ⟨.cell ⟨S,X,I⟩,Y,Y⟩]) (d':=0) al (by simp[eN]) (by simp[dm,lH,b,i,y]) al;have k:=j.LC c (s:=convert 210 169 (ptr S X)>>=λv=>pure (.value v)) (x:=.value (ptr S X)) al al (λw=>V5 (e:=92) al al al);have o:=k.stage c f b (v':=i32 1) (l:=[.ev ⟨.mark (.extern 112),Y,U⟩,.ev ⟨.mark (.releaseMerge ⟨S,X,I⟩),Y,U⟩]) (d':=0) al (by simp[eN]) (by simp[dm,lH,i]) al;have p:=o.stage c f b (v':=i32 1) (l:=[.ev ⟨.mark (.extern 74),Y,U⟩,.ev ⟨.mark .disable,Y,U⟩]) (d':=1) al (by simp[eN]) (by simp[dm,lH]) al;have r:=p.stage c f b (v':=i32 0) (l:=[.ev ⟨.mark (.extern 113),Y,U⟩,.ev ⟨.cell ⟨S,X,I⟩,Y,U⟩,.ev ⟨.cell ⟨S,X,I⟩,U,U⟩]) (d':=1) al (by simp[eN]) (by simp[dm,lH,b,i]) al;have u:=r.stage c f b (v':=i32 0) (l:=[.ev ⟨.mark (.extern 76),Y,U⟩,.ev ⟨.mark .enable,Y,U⟩]) (d':=0) al (by simp[eN]) (by simp[dm,lH]) al;exact u.quiet 6 al
end
end
end
def zT(c:Region.Mode)(b:af bq):Nat->af Bool->ae (ae Nat)
 |0,_=>[[]]
 |a+1,listed=>match nK c b listed with
  |[]=>[[]]
  |r=>r.flatMap λi=>(zT c b a (listed.setIfInBounds i U)).map (i::·)
theorem ajK(c)(b):∀(a t)(listed),Region.linearise.go c b a t listed []∈zT c b a listed:=by
 intro a;induction a with
 |zero=>intro t listed;simp[Region.linearise.go,zT]
 |succ a e=>
  intro t listed;simp only[Region.linearise.go];change (match(nK c b listed)[t%(nK c b listed).length]? with
   |some i=>Region.linearise.go c b a (t/(nK c b listed).length) (listed.setIfInBounds i U) [i]
   |none=>[].reverse)∈_
  unfold zT;cases hr:nK c b listed with
  |nil=>simp
  |cons x d=>
   have aC:t%(x::d).length<(x::d).length:=Nat.mod_lt _ ba;rw[eI aC];simp only[];rw[linearise_go_acc,List.reverse_singleton,List.singleton_append];exact List.mem_flatMap.2 ⟨_,List.getElem_mem aC,og.2 ⟨_,e .. ,F⟩⟩
theorem Ps(a)(t):tp U a t∈zT .any a a.size (qa a.size Y):=by
 exact ajK ..
theorem G5{P}{main}(a:P.follows .mixedOrders=U){fn}{tmps}{k}{defers}{kind}{cs}{id}{ops}(w):aE P main ⟨⟨fn,tmps,.code (.region id ops U)::k,defers,.run,kind,I⟩,cs,.running,I,I⟩ w=.go ⟨⟨fn,tmps,.inRegion ops (tp U ops ((Question.order fn id).cut (w.tape w.drawn (.order fn id))))::k,defers,.run,kind,I⟩,cs,.running,I,I⟩ (w.at (w.drawn+1)) #[]:=by
 simp[aE,cf,a,Question.forced,World.at]
def OS(a:aj Tmp)(b:Op):bq:={dst:=a,op:=b,type:=0,pos:= "",after:=#[],guard:=I}
def aP(d:Tmp)(a:Op):bq:=OS (Z d) a
def ep(a:Op):bq:=OS I a
def Uy(o:bq)(a:Op):bq:={o with op:=a}
abbrev tm(t:Tmp):iP:=.tmp t
abbrev kc(v:ag):iP:=.const v
def bw:Nat:=8
def dO:Nat:=10
abbrev gN:ag:=.chan (Z bw)
abbrev sM:ag:=.chan (Z dO)
noncomputable def c7(f:dK):dK:={f with name:= "no",origin:= "",body:=I}
noncomputable def Up:dK:={(default:dK)with name:= "no",body:=I}
noncomputable def JG(f:dK)(c:bH):dK:={f with body:=Z c}
noncomputable def reg(a:af bq):bH:=.region 0 a Y
noncomputable def xE(n m:Int):bH:=.seq (reg #[aP 1 (.load 21 (tm 0)),aP 2 (.binOp .lss 21 (tm 1) (kc (.int .i32 (n+1))) 21),aP 3 (.binOp .gtr 21 (tm 1) (kc (.int .i32 (n-1))) 21)])
 (.seq (.cond (tm 2) .skip (.refuse "")) (.seq (.cond (tm 3) .skip (.refuse "")) (.seq (reg #[ep (.store 21 (tm 0) (kc (.int .i32 m)))]) .ret)))
noncomputable def TB:dK:=JG Tryz.f43 (xE 0 1)
noncomputable def KO:dK:=JG Tryz.f44 (xE 1 0)
noncomputable def l46:dK:=JG Tryz.f46 (.refuse "")
def zg(s:iP)(a b c:Tmp):af bq:=#[aP a (.fieldAddr 109 s 8),aP a (.load 99 (tm a)),aP a (.fieldAddr 146 (tm a) 3),aP a (.fieldAddr 142 (tm a) 0),aP a (.load 139 (tm a)),
 aP b (.recv 139 (tm a) Y),ep (.send (tm a) (tm b)),aP a (.field 142 (tm b) 0),aP b (.recv 100 (tm a) Y),aP c (.field 50 (tm b) 0),aP c (.binOp .eql 39 (tm c) s 39)]
noncomputable def D5:bH:=match Tryz.f38.body with
 |some (.seq _ (.seq _ (.seq r _)))=>r
 |_=>.skip
noncomputable def lO:af bq:=match D5 with
 |.region _ a _=>a
 |_=>#[]
noncomputable def mn:af bq:=(lO.setIfInBounds 4 (Uy (lO.getD 4 default) (.makeChan 100 (kc (.int .i64 2))))).setIfInBounds 5 (Uy (lO.getD 5 default)
 (.build 178 #[(0,kc (.int .i32 0)),(1,kc (.int .u32 0)),(2,tm 33),(3,kc (.slice I 0 0)),(4,tm 34),(5,kc (.int .i64 0)),(6,tm 35),(7,kc (.slice I 0 0)),(8,kc (.slice I 0 0)),(9,kc (.pointer I))]))
noncomputable def Il:af bq:=#[aP 35 (.binOp .lss 3 (tm 2) (kc (.int .i64 1000001)) 3),aP 36 (.binOp .lss 3 (tm 0) (kc (.int .i64 9)) 3),aP 37 (.binOp .gtr 3 (tm 0) (kc (.int .i64 0)) 3)]
noncomputable def sX:af bq:=#[aP 37 (.build 50 #[(0,tm 8),(1,kc (.int .i64 0)),(2,kc (.bool Y))]),ep (.send (tm 36) (tm 37)),
 aP 37 (.recv 100 (kc sM) Y),ep (.send (kc sM) (tm 36)),
 aP 37 (.recv 100 (kc gN) Y),aP 37 (.makeInterface 3 (tm 37)),ep (.send (kc gN) (tm 37)),aP 37 (.build 109 #[(1,tm 33),(3,tm 34),(5,tm 35),(9,tm 36)])]
noncomputable def UR:bH:=.seq (.region 3 mn U) (reg sX)
noncomputable def Lj:bH:=.seq (.cond (tm 37) .skip (.refuse "")) UR
noncomputable def F5:bH:=.seq (reg Il) (.seq (.cond (tm 36) .skip (.refuse "")) Lj)
noncomputable def On:dK:=match Tryz.f38.body with
 |some (.seq a (.seq b (.seq _ d)))=>{Tryz.f38 with body:=Z (.seq a (.seq b (.seq F5 d)))}
 |_=>Up
noncomputable def Cl:bH:=match Tryz.f57.body with
 |some (.seq _ (.seq _ (.seq _ (.seq _ (.seq (.seq r _) _)))))=>r
 |_=>.skip
noncomputable def Im:bH:=.seq (reg (#[aP 19 (.fieldAddr 109 (tm 0) 11),aP 18 (.move (tm 0)),aP 19 (.nilCheck (tm 18))]++zg (tm 19) 20 21 22)) (.seq (.cond (tm 22) .skip (.refuse ""))
 (reg #[ep (.send (tm 20) (tm 21)),aP 20 (.fieldAddr 109 (tm 19) 11),aP 21 (.field 50 (tm 21) 2),aP 22 (.unOp .not 4 (tm 21))]))
noncomputable def Oo:dK:=match Tryz.f57.body with
 |some (.seq a (.seq b (.seq c (.seq d (.seq (.seq _ e) f)))))=>{Tryz.f57 with body:=Z (.seq a (.seq b (.seq c (.seq d (.seq (.seq Im e) f)))))}
 |_=>Up
noncomputable def pq:bH:=match Tryz.f30.body with
 |some (.seq _ (.seq _ r))=>r
 |_=>.skip
noncomputable def Cj:bH:=.seq (reg (#[aP 12 (.recv 100 (kc gN) Y),ep (.send (kc gN) (tm 12)),aP 11 (.fieldAddr 109 (tm 0) 11),aP 9 (.move (tm 0)),aP 10 (.nilCheck (tm 9))]++zg (tm 10) 22 23 21)) (.seq (.cond (tm 21) .skip (.refuse ""))
 (.seq (reg #[aP 12 (.field 50 (tm 23) 2),aP 13 (.unOp .not 4 (tm 12))]) (.seq (.cond (tm 13)
   (reg #[aP 24 (.recv 100 (kc gN) Y),aP 24 (.typeAssert (tm 24) 20 3 Y),ep (.send (kc gN) (tm 24)),aP 24 (.field 50 (tm 23) 1),aP 23 (.build 50 #[(0,tm 10),(1,tm 24),(2,kc (.bool U))]),ep (.send (tm 22) (tm 23)),aP 14 (.move (tm 0)),aP 15 (.nilCheck (tm 14)),aP 16 (.fieldAddr 109 (tm 15) 11),aP 17 (.move (tm 0)),aP 18 (.nilCheck (tm 17)),aP 19 (.fieldAddr 109 (tm 18) 9),aP 20 (.move (tm 22))])
   (reg #[ep (.send (tm 22) (tm 23))]))
   (reg #[aP 21 (.move (tm 0)),aP 22 (.nilCheck (tm 21)),aP 23 (.fieldAddr 109 (tm 22) 10),aP 24 (.assign (kc (.tuple #[])))]))))
noncomputable def Om:dK:=match Tryz.f30.body with
 |some (.seq a (.seq b _))=>{Tryz.f30 with body:=Z (.seq a (.seq b Cj))}
 |_=>Up
noncomputable def vZ:af bq:=match Tryz.f55.body with
 |some (.seq _ (.seq (.region _ a _) _))=>a
 |_=>#[]
noncomputable def zV(i:Nat)(a:Op):bq:=Uy (vZ.getD i default) a
noncomputable def FI:dK:=JG Tryz.f55 (.seq (reg #[aP 7 (.recv 100 (kc gN) Y),ep (.send (kc gN) (tm 7)),aP 9 (.recv 100 (kc sM) Y),ep (.send (kc sM) (kc (.chan I))),aP 8 (.binOp .eql 100 (tm 9) (kc (.chan I)) 100)])
 (.seq (.cond (tm 8) (reg (zg (tm 0) 9 10 11)) (reg #[aP 12 (.fieldAddr 109 (tm 0) 8),aP 12 (.load 99 (tm 12)),aP 10 (.recv 100 (tm 9) Y),aP 11 (.field 50 (tm 10) 0),aP 11 (.binOp .eql 39 (tm 11) (tm 0) 39)]))
 (.seq (.cond (tm 11) .skip (.refuse ""))
 (.seq (reg #[aP 8 (.field 50 (tm 10) 2),aP 7 (.field 50 (tm 10) 1),aP 11 (.binOp .lss 3 (tm 7) (kc (.int .i64 9)) 3),aP 7 (.binOp .add 3 (tm 7) (kc (.int .i64 1)) 3),aP 10 (.build 50 #[(0,tm 0),(1,tm 7),(2,kc (.bool Y))]),ep (.send (tm 9) (tm 10))])
 (.seq (.cond (tm 8) (.refuse "") .skip)
 (.seq (.cond (tm 11) .skip (.refuse ""))
 (.seq (reg #[aP 1 (.makeChan 100 (kc (.int .i64 4))),aP 2 (.alloc 142)])
 (.seq (.region 1 #[zV 0 (.makeChan 139 (kc (.int .i64 1))),zV 1 (.makeChan 140 (kc (.int .i64 3))),zV 2 (.build 142 #[(0,tm 4),(1,tm 5)]),zV 3 (.makeChan 100 (kc (.int .i64 4))),zV 4 (.move (tm 6))] U)
 (.seq (reg #[aP 8 (.build 142 #[(0,tm 9),(1,tm 5)]),ep (.send (tm 4) (tm 8)),ep (.store 142 (tm 2) (tm 6))]) .ret)))))))))
noncomputable def XH:af bq:=#[aP 2 (.makeChan 100 (kc (.int .i64 4))),aP 9 (.build 109 #[(0,tm 0)]),aP 3 (.recv 100 (kc gN) Y),aP 5 (.field 142 (tm 0) 0),aP 6 (.field 142 (tm 0) 1),aP 7 (.recv 139 (tm 5) Y),ep (.send (tm 5) (tm 7)),aP 8 (.field 142 (tm 7) 0),
 aP 10 (.recv 100 (tm 8) Y),ep (.send (tm 8) (tm 10)),aP 7 (.field 142 (tm 7) 1),aP 9 (.binOp .eql 140 (tm 7) (tm 6) 140),aP 7 (.field 50 (tm 10) 2)]
noncomputable def XF:bH:=.seq (.cond (tm 9) .skip (.refuse "")) (.seq (.cond (tm 7) (.refuse "") .skip)
 (.seq (reg #[aP 4 (.call {callee:=.value (tm 1),args:=#[],argTypes:=#[]}),ep (.send (kc gN) (tm 3))]) .ret))
noncomputable def FJ:dK:=JG Tryz.f66 (.seq (reg XH) XF)
noncomputable def fs:af dK:=#[c7 Tryz.f0,c7 Tryz.f1,c7 Tryz.f2,Tryz.f3,Tryz.f4,Tryz.f5,Tryz.f6,Tryz.f7,Tryz.f8,Tryz.f9,Tryz.f10,Tryz.f11,Tryz.f12,Tryz.f13,Tryz.f14,
 Tryz.f15,Tryz.f16,Tryz.f17,Tryz.f18,Tryz.f19,Tryz.f20,Tryz.f21,Tryz.f22,Tryz.f23,Tryz.f24,Tryz.f25,Tryz.f26,Tryz.f27,Tryz.f28,Tryz.f29,
 Om,Tryz.f31,Tryz.f32,Tryz.f33,Tryz.f34,Tryz.f35,Tryz.f36,Tryz.f37,On,Tryz.f39,Tryz.f40,Tryz.f41,Tryz.f42,TB,KO,
 Tryz.f45,l46,Tryz.f47,Tryz.f48,Tryz.f49,Tryz.f50,Tryz.f51,Tryz.f52,Tryz.f53,Tryz.f54,FI,Tryz.f56,Oo,Tryz.f58,Tryz.f59,
 Tryz.f60,Tryz.f61,Tryz.f62,Tryz.f63,Tryz.f64,Tryz.f65,FJ,Tryz.f67,Tryz.f68,Tryz.f69,c7 Tryz.f70,c7 Tryz.f71,Tryz.f72,Tryz.f73,c7 Tryz.f74,
 c7 Tryz.f75,c7 Tryz.f76,c7 Tryz.f77,c7 Tryz.f78,c7 Tryz.f79,c7 Tryz.f80,c7 Tryz.f81,c7 Tryz.f82,c7 Tryz.f83,Tryz.f84,Tryz.f85,Tryz.f86,Tryz.f87,Tryz.f88,Tryz.f89,
 Tryz.f90,Tryz.f91,Tryz.f92,c7 Tryz.f93,c7 Tryz.f94,c7 Tryz.f95,Tryz.f96,Tryz.f97,Tryz.f98,Tryz.f99,Tryz.f100,Tryz.f101,Tryz.f102,Tryz.f103,Tryz.f104,
 Tryz.f105,Tryz.f106,Tryz.f107,Tryz.f108,Tryz.f109,c7 Tryz.f110,c7 Tryz.f111,c7 Tryz.f112,c7 Tryz.f113,c7 Tryz.f114,Tryz.f115,Tryz.f116,c7 Tryz.f117,c7 Tryz.f118,Tryz.f119,
 Tryz.f120,c7 Tryz.f121,c7 Tryz.f122,c7 Tryz.f123,c7 Tryz.f124,c7 Tryz.f125,c7 Tryz.f126,c7 Tryz.f127,Tryz.f128,Tryz.f129,Tryz.f130,Tryz.f131,Tryz.f132,Tryz.f133,Tryz.f134,
 Tryz.f135,Tryz.f136,Tryz.f137,Tryz.f138,Tryz.f139,Tryz.f140,Tryz.f141,c7 Tryz.f142,c7 Tryz.f143,c7 Tryz.f144,c7 Tryz.f145,c7 Tryz.f146,c7 Tryz.f147,c7 Tryz.f148,c7 Tryz.f149,
 c7 Tryz.f150,c7 Tryz.f151,Tryz.f152,Tryz.f153,Tryz.f154,Tryz.f155,Tryz.f156,Tryz.f157,Tryz.f158,Tryz.f159,Tryz.f160,Tryz.f161,Tryz.f162,Tryz.f163,Tryz.f164,
 Tryz.f165,Tryz.f166,Tryz.f167,Tryz.f168,Tryz.f169,Tryz.f170,Tryz.f171,Tryz.f172,Tryz.f173,Tryz.f174,Tryz.f175,Tryz.f176,Tryz.f177,Tryz.f178,Tryz.f179,
 Tryz.f180,c7 Tryz.f181,c7 Tryz.f182,c7 Tryz.f183,c7 Tryz.f184,c7 Tryz.f185,c7 Tryz.f186,c7 Tryz.f187,c7 Tryz.f188,c7 Tryz.f189,c7 Tryz.f190,c7 Tryz.f191,c7 Tryz.f192,c7 Tryz.f193,c7 Tryz.f194,
 Tryz.f195,c7 Tryz.f196,c7 Tryz.f197,c7 Tryz.f198,c7 Tryz.f199,c7 Tryz.f200,c7 Tryz.f201,c7 Tryz.f202,Tryz.f203,Tryz.f204,Tryz.f205,Tryz.f206,c7 Tryz.f207,c7 Tryz.f208,c7 Tryz.f209,
 Tryz.f210,c7 Tryz.f211,c7 Tryz.f212,c7 Tryz.f213,c7 Tryz.f214,c7 Tryz.f215,c7 Tryz.f216,c7 Tryz.f217,c7 Tryz.f218,c7 Tryz.f219,c7 Tryz.f220,c7 Tryz.f221,c7 Tryz.f222,c7 Tryz.f223,c7 Tryz.f224]
section
open Go.Conc (G)
section
variable {P:aD}{fs:af dK}{Hid:Loc->Prop}{Spec:Wh->ae aJ->ae aJ->bH->bH->Prop}{T:aA->aA->Prop}
def stays(k:ae aJ):bH->Bool
 |.ret=>Y
 |.exit id=>(exitTo id k).isSome
 |.goto l=>(gotoIn l k).isSome
 |_=>U
def ri(P:aD)(fs:af dK)(Spec:Wh->ae aJ->ae aJ->bH->bH->Prop)(Hid:Loc->Prop)(T:aA->aA->Prop)(O:Bool)(a h:aA)(R M:ae aA)(w W:ax):Prop:=Shape (aE (Lo P fs) U (G a R) w)/\∀c d f l,aE (Lo P fs) U (G a R) w=dZ c d f l->(∃k,c=a.raise k/\(∀e∈k,e.recovered=Y)/\d=R/\tF (bS P) f)\/(Bh (Lo P fs) a R w c d f/\∃b i g j,aE P O (G h M) W=dZ b i g j/\Qp P Spec Hid T a h R M w W c d f b i g j)
theorem TS{p:aD}{a t:aA}{M c:ae aA}(h:∀x,aE p U (G a M) x=dZ t c x #[])(w:ax):Bh p a M w t c w:=⟨0,w,F,λτ d _=>⟨#[],h _⟩⟩
theorem zo{t:aA}{c:ae aA}{w:ax}{es:af dR}{s:GStep}(h:s=dZ t c w es):Shape s:=.inl ⟨_,_,_,_,h⟩
variable {O:Bool}{Q:cH}{V:af ag}{X:ae cz}{S:dQ}{N:aj Nat}{R M:ae aA}{w W:ax}
theorem sj(i:∀a b,fG P Spec a b->T a b)(f:nO P Q S X)(k:Rel (bS P) Hid w W){e t d u:ae aJ}
  (c:∀w,aE (Lo P fs) U (G ⟨Q,V,e,X,.run,S,N⟩ R) w=dZ ⟨Q,V,d,X,.run,S,N⟩ R w #[])
  (g:aE P O (G ⟨Q,V,t,X,.run,S,N⟩ M) W=dZ ⟨Q,V,u,X,.run,S,N⟩ M W #[])(l:nP P (Spec (Q,V.size,N)) d u):
  ri P fs Spec Hid T O ⟨Q,V,e,X,.run,S,N⟩ ⟨Q,V,t,X,.run,S,N⟩ R M w W:=by
 refine⟨zo (c w),λm n p o h=>?_⟩;have j:=TS c w;rw[c]at h;cases h;exact .inr ⟨j,_,_,_,_,g,i _ _ ⟨d,F,l,f,.inl F⟩,.inl ⟨F,F,F,F⟩,k,iS.refl _ _,by simp⟩
def u6:GStep->Bool
 |.ended .. =>U
 |_=>Y
theorem AU{s:GStep}(h:u6 s=U):Shape s:=by
 cases s<;>first|exact absurd h jL|exact .inr (.inl ⟨_,_,_,rfl⟩)
theorem GO{a c:aA}(b:u6 (aE (Lo P fs) U (G a R) w)=U):ri P fs Spec Hid T O a c R M w W:=⟨AU b,λd e g f h=>by
 rw[h]at b;cases b⟩
theorem MG(j:Rel (bS P) Hid w W){a b g' g:aA}(c:∀w,aE (Lo P fs) U (G a R) w=dZ g' R w #[])(e:aE P O (G b M) W=dZ g M W #[])(f:T g' g)(d:g.roundOf=b.roundOf/\kf g=kf b):ri P fs Spec Hid T O a b R M w W:=by
 refine⟨zo (c w),λk l n m h=>?_⟩;have i:=TS c w;rw[c]at h;cases h;exact .inr ⟨i,_,_,_,_,e,f,.inl ⟨F,F,d.1,d.2⟩,j,iS.refl _ _,by simp⟩
theorem WX(i:∀a b,fG P Spec a b->T a b)(h:nO P Q S X)(l:Rel (bS P) Hid w W){f a g b:bH}{x:iP}{e k:ae aJ}(n:vu P (Spec (Q,V.size,N)) e k f a)(o:vu P (Spec (Q,V.size,N)) e k g b)(j:nP P (Spec (Q,V.size,N)) e k):ri P fs Spec Hid T O ⟨Q,V,.code (.cond x f g)::e,X,.run,S,N⟩ ⟨Q,V,.code (.cond x a b)::k,X,.run,S,N⟩ R M w W:=by
 have d:∀m,bR ⟨Q,V,m,X,.run,S,N⟩ x=bR ⟨Q,V,[],X,.run,S,N⟩ x:=λm=>by cases x<;>rfl
 by_cases c:∃v,bR ⟨Q,V,[],X,.run,S,N⟩ x=.bool v
 ·obtain⟨v,c⟩:=c
  cases v with
  |true=>exact sj i h l (λ_=>by simp[G,aE,cf,d,c]) (by simp[G,aE,cf,d,c]) (.cons (.code n) j)
  |false=>exact sj i h l (λ_=>by simp[G,aE,cf,d,c]) (by simp[G,aE,cf,d,c]) (.cons (.code o) j)
 ·refine GO ?_
  simp only[G,aE,cf,d];split
  ·exact absurd ⟨_,‹_›⟩ c
  ·rfl
theorem ac6(j:∀a b,fG P Spec a b->T a b)(i:nO P Q S X)(o:Rel (bS P) Hid w W){B c:bH}{v k:ae aJ}(y:vu P (Spec (Q,V.size,N)) v k B c)(jA:¬Spec (Q,V.size,N) v k B c)(m:nP P (Spec (Q,V.size,N)) v k)(K:N=I\/stays k c=U)
  (Kp:∀f H a b,c≠.rangeFunc f H a b):
  ri P fs Spec Hid T O ⟨Q,V,.code B::v,X,.run,S,N⟩ ⟨Q,V,.code c::k,X,.run,S,N⟩ R M w W:=by
 cases y with
 |spec h=>exact absurd h jA
 |seq A E=>exact sj j i o (λ_=>by simp[G,aE,cf]) (by simp[G,aE,cf]) (.cons (.code A) (.cons (.code E) m))
 |cond x A E=>
  exact WX j i o A E m
 |same _ p=>
  cases B with
  |skip=>exact sj j i o (λ_=>by simp[G,aE,cf]) (by simp[G,aE,cf]) m
  |label l=>exact sj j i o (λ_=>by simp[G,aE,cf]) (by simp[G,aE,cf]) m
  |seq a b=>
   simp only[jl,gT]at p;exact sj j i o (λ_=>by simp[G,aE,cf]) (by simp[G,aE,cf]) (.cons (.code (.same _ p.1)) (.cons (.code (.same _ p.2)) m))
  |block id b=>exact sj j i o (λ_=>by simp[G,aE,cf]) (by simp[G,aE,cf]) (.cons (.code (.same b p)) (.cons (.inBlock id) m))
  |loop b=>exact sj j i o (λ_=>by simp[G,aE,cf]) (by simp[G,aE,cf]) (.cons (.code (.same b p)) (.cons (.inLoop b p) m))
  |scope b=>exact sj j i o (λ_=>by simp[G,aE,cf]) (by simp[G,aE,cf]) (.cons (.code (.same b p)) (.cons (.inScope b p) m))
  |refuse s=>exact GO (by simp[G,aE,cf,u6])
  |rangeFunc f H a b=>exact absurd F (Kp f H a b)
  |cond x a b=>
   simp only[jl,gT]at p;exact WX j i o (.same _ p.1) (.same _ p.2) m
  |ret=>
   obtain rfl:N=I:=K.elim (λh=>h) λh=>absurd h (by simp[stays]);exact MG (g':=⟨Q,V,.code .ret::v,X,.returning,S,I⟩) (g:=⟨Q,V,.code .ret::k,X,.returning,S,I⟩) o (λ_=>by simp[G,aE,cf]) (by simp[G,aE,cf]) (j _ _ ⟨.code .ret::v,F,.cons (.code (.same _ F)) m,i,.inr F⟩) ⟨F,F⟩
  |exit id=>
   rcases Yh (id:=id) m with⟨q,u⟩|⟨r',r,q,u,D⟩
   ·obtain rfl:N=I:=K.elim (λh=>h) λh=>absurd h (by simp[stays,u])
    exact GO (by simp[G,aE,cf,q,u6])
   ·exact sj j i o (λ_=>by simp[G,aE,cf,q]) (by simp[G,aE,cf,u]) D
  |goto l=>
   rcases YM (l:=l) m with⟨q,u⟩|⟨r',r,q,u,D⟩
   ·obtain rfl:N=I:=K.elim (λh=>h) λh=>absurd h (by simp[stays,u])
    exact GO (by simp[G,aE,cf,q,u6])
   ·exact sj j i o (λ_=>by simp[G,aE,cf,q]) (by simp[G,aE,cf,u]) D
  |region id e z=>
   cases z with
   |false=>exact sj j i o (λ_=>by simp[G,aE,cf]) (by simp[G,aE,cf]) (.cons (.inRegion e (qh e.size) p) m)
   |true=>
    have cP:=Iv (P:=P) (fs:=fs) (fx:=bS P) (Hid:=Hid) (rs:=[]) (.order Q id) w W o ba;cases y:(choose (.order Q id)).run (Lo P fs) w with
    |halt x C=>exact GO (by simp only[G,aE,cf,y];rfl)
    |ok t C=>
     obtain⟨⟨L,us,hS,eF,dx,qL⟩,n,w0,ju,pO⟩:=cP.1 t C y;have hC:(choose (.order Q id)).run P W=.ok t L:=by rw[<-ya P _ W #[],hS]
     have q:∀x J,(choose (.order Q id)).run (Lo P fs) x=.ok t J->aE (Lo P fs) U (G ⟨Q,V,.code (.region id e U)::v,X,.run,S,N⟩ R) x=dZ ⟨Q,V,.inRegion e (tp (P.follows .mixedOrders) e t)::v,X,.run,S,N⟩ R J #[]:=λx J hx=>by
      simp only[G,aE,cf,hx];rfl
     refine⟨zo (q w C y),λdF dw w2 fP h=>?_⟩;have u:aE P O (G ⟨Q,V,.code (.region id e U)::k,X,.run,S,N⟩ M) W=dZ ⟨Q,V,.inRegion e (tp (P.follows .mixedOrders) e t)::k,X,.run,S,N⟩ M L #[]:=by
      simp only[G,aE,cf,hC];rfl
     rw[q w C y]at h;cases h;exact .inr ⟨⟨n,w0,ju,λτ d A=>⟨_,q _ _ (pO τ d A)⟩⟩,_,_,_,_,u,j _ _ ⟨_,F,.cons (.inRegion e _ p) m,i,.inl F⟩,.inl ⟨F,F,F,F⟩,eF,dx,by simp⟩
end
end
section
open Go.Conc (G)
section
variable {P:aD}{fs:af dK}{Hid:Loc->Prop}{Spec:Wh->ae aJ->ae aJ->bH->bH->Prop}{T:aA->aA->Prop}
structure yn(P:aD)(fs:af dK):Prop where
 step:∀g,(Lo P fs).stepOf g=I
 ahead:P.follows .staticDataAhead=U
theorem XY{fr:aA}{cs:ae aA}{g:Nat}{w:ax}(h:yn P fs):u6 (early (Lo P fs) fr cs I g w)=U:=by
 have e:(Lo P fs).follows .staticDataAhead=U:=h.ahead;unfold early;simp only[h.step,e];rfl
theorem aim{c:aA}{cs:ae aA}{w:ax}{p:aD}{e:ax}{es:af dR}(h:endFatal p c cs I m w=.go g e es):g.dying.isSome=U:=by
 have b:∀r:Result (ae (ByteArray×String)×ae ByteArray),(match r with
   |.ok (a,f) w=>dieOf c (panicPieces a++f) m U w
   |.halt (.unsupported u) w=>GStep.ended (.unsupported u "") w
   |.halt _ w=>.ended (.stuck "the report of a panic" "") w)=.go g e es->g.dying.isSome=U:=λr d=>by
  cases r with
  |ok x w=>cases x;cases d;rfl
  |halt x w=>cases x<;>cases d
 exact b _ h
theorem Va{es:af dR}{s:GStep}(h:Shape s):Shape (mx es s):=by
 rcases h with⟨t,c,w,a,rfl⟩|⟨o,w,a,rfl⟩|⟨g,w,a,rfl,b⟩
 ·exact .inl ⟨_,_,_,_,rfl⟩
 ·exact .inr (.inl ⟨_,_,_,rfl⟩)
 ·exact .inr (.inr ⟨_,_,_,rfl,b⟩)
theorem ac3{a:aA}{l:ae ByteArray}{b:Bool}{w:ax}:Shape (dieOf a l m b w):=.inr (.inr ⟨_,_,_,F,.inr (.inr ⟨F,_,_,F,F,F⟩)⟩)
theorem au4{p:aD}{e:aA}{cs:ae aA}{w:ax}:Shape (endFatal p e cs I m w):=by
 have d:∀r:Result (ae (ByteArray×String)×ae ByteArray),Shape (match r with
   |.ok (c,f) w=>dieOf e (panicPieces c++f) m U w
   |.halt (.unsupported u) w=>GStep.ended (.unsupported u "") w
   |.halt _ w=>.ended (.stuck "the report of a panic" "") w):=λr=>by
  cases r with
  |ok x w=>obtain⟨a,b⟩:=x;exact ac3
  |halt x w=>cases x<;>exact AU F
 exact d _
theorem Px{a:Sem Next}{fr':aA}{cs':ae aA}{w b:ax}{x:Halt}(d:yn P fs)(c:a.run (Lo P fs) w=.halt x b):Shape (iA (Lo P fs) U fr' cs' I a w):=by
 have e:a.runT (Lo P fs) w #[]=(.halt x b,a.events (Lo P fs) w #[]):=by rw[jN,c]
 unfold iA;simp only[if_true,e];apply Va;cases x with
 |panic v=>exact .inl ⟨_,_,_,_,F⟩
 |goexit=>exact .inl ⟨_,_,_,_,F⟩
 |blocked=>exact .inr (.inr ⟨_,_,_,F,.inl ⟨F,F⟩⟩)
 |waiting=>exact .inr (.inr ⟨_,_,_,F,.inr (.inl ⟨F,F⟩)⟩)
 |fatal m=>exact au4
 |throw m=>exact ac3
 |unsupported u=>cases u<;>first|exact AU (XY d)|exact AU rfl
 |_=>exact AU F
theorem NF{c:Sem Next}{a:aA}{cs':ae aA}{w b:ax}{x:Halt}(l:yn P fs)(k:c.run (Lo P fs) w=.halt x b){d:aA}{f:ae aA}{j:ax}{n:af dR}(h:iA (Lo P fs) U a cs' I c w=dZ d f j n):∃i,d=a.raise i/\(∀e∈i,e.recovered=Y)/\f=cs'/\j=b:=by
 have o:c.runT (Lo P fs) w #[]=(.halt x b,c.events (Lo P fs) w #[]):=by rw[jN,k]
 unfold iA at h;simp only[if_true,o]at h;cases x with
 |panic v=>
  cases h;exact⟨_,F,by simp[goexitEntry],F,F⟩
 |goexit=>
  cases h;exact⟨_,F,by simp[goexitEntry],F,F⟩
 |unsupported u=>
  cases u with
  |initOrder g=>
   have:=XY (fr:=a) (cs:=cs') (g:=g) (w:=b) l;simp only at h;revert h this;cases early (Lo P fs) a cs' I g b<;>intro h this<;>first|(cases this;done)|cases h
  |_=>cases h
 |fatal m=>
  simp only at h;revert h;cases he:endFatal (Lo P fs) a cs' I m b<;>intro h<;>first|(cases h;done)|skip
  have:=aim he;cases h;cases this
 |_=>cases h
variable {O:Bool}{Q:cH}{V:af ag}{X:ae cz}{S:dQ}{R:aj Nat}{cs' cs:ae aA}{w W:ax}
theorem WW(N:∀a b,fG P Spec a b->T a b)(hE:∀f d,hasB fs f=U->T (bO (Lo P fs) f d .normal) (bO P f d .normal))(u:yn P fs){s':Sem Next}
  (q:pG P fs (bS P) Hid [] s' s)(y:KN P fs Hid s'){c g:aA}(v:fG P Spec c g)(j:Je g.todo=U)(o:Rel (bS P) Hid w W)
  (m:∀w,aE (Lo P fs) U (G c cs') w=iA (Lo P fs) U c cs' I s' w)(L:aE P O (G g cs) W=iA P U g cs I s W):ri P fs Spec Hid T O c g cs' cs w W:=by
 have K:Je c.todo=U:=by
  obtain⟨t,rfl,z,_⟩:=v;cases Fx:g.todo with
  |nil=>rw[Fx]at j;exact absurd j jL
  |cons i k=>
   rw[Fx]at z j;cases z with
   |cons h hk=>
    cases h<;>first|exact absurd j jL|rfl|skip
    rename_i l ho;cases l<;>first|exact absurd j jL|rfl
 cases e:s'.run (Lo P fs) w with
 |halt x r=>exact⟨m w▸Px u e,λA B w1 H h=>by rw[m]at h;obtain⟨vs,C,D,E,rfl⟩:=NF u e h;exact .inl ⟨vs,C,D,E,(q w W o ba).2 _ _ e⟩⟩
 |ok n r=>
  obtain⟨t',zY,Bv,t,c1,W1,us,p,J,M⟩:=ac5 N hE q y v j o e (cs':=cs') (cs:=cs);refine⟨zo ((m w).trans p),λA B w1 H h=>?_⟩;rw[m,p]at h;cases h;exact .inr ⟨aph K (y w W o n r e) ((q w W o ba).1 n r e).2 e m p,_,_,_,_,L.trans J,M⟩
def DW(R:aj Nat)(ρ:iP->ag)(o:bq):Sem Next:=
 match R,o.op with
 |some l,.defer c=>do Instr.deferInRound l (<-resolve ρ c o.type);pure .skip
 |_,_=>cN ρ o
theorem acH{ρ:iP->ag}(h:∀f,ρ (.func f)=.func (.func f) #[] #[])(c:Call)(i:aK)(a:qT P (.defer c)=U):∃d,resolve ρ c i=pure d/\lV P d:=by
 unfold resolve;simp only[qT]at a;cases hc:c.callee with
 |builtin b=>simp[hc]at a
 |invoke g e=>simp[hc]at a
 |value x=>
  cases x<;>rw[hc]at a<;>first|exact absurd a jL|skip
  dsimp only at a⊢;rw[h];exact⟨_,rfl,a⟩
theorem awf{f:ae Nat}(l:Nat){d:cz}(c:lV P d):Sm P fs (bS P) Hid f (Instr.deferInRound l d):=by
 unfold Instr.deferInRound;refine Iw l λr g=>wu (λo e=>?_) (vF (λ_ _ _ _ _ _=>fL _) λ_ _=>fL _);cases o<;>first|exact dz _|skip
 rename_i a;cases a with
 |none=>exact PD _
 |some a=>
  refine Ix ba (show∀x∈d::a,lV P x fromλx b=>?_) F;rcases bM.1 b with rfl|b
  ·exact c
  ·exact(show∀x∈a,lV P x from e) x b
theorem axf{i:ae Nat}(H:Bd P fs (bS P) Hid){ρ:iP->ag}(h:∀f,ρ (.func f)=.func (.func f) #[] #[])(R:aj Nat)(o:bq)(a:qT P o.op=U):Sm P fs (bS P) Hid i (DW R ρ o):=by
 unfold DW;split
 ·rename_i l c b
  rw[b]at a;obtain⟨d,e,g⟩:=acH h c o.type a;rw[e];exact zr (bh (awf l g) λ_=>br _)
 ·exact adt H ρ o a
theorem aoj(H:Bc P fs){ρ:iP->ag}(b:∀f,ρ (.func f)=.func (.func f) #[] #[])(R:aj Nat)(o:bq)(a:qT P o.op=U):KN P fs Hid (DW R ρ o):=by
 unfold DW;split
 ·rename_i l c g
  rw[g]at a;obtain⟨d,e,h⟩:=acH b c o.type a;rw[e];exact KM (eB.kn (sU λ_=>vQ F))
 ·exact aaz H b o a
theorem avk(j:∀a b,fG P Spec a b->T a b)(v:nO P Q S X)(hE:∀f e,hasB fs f=U->T (bO (Lo P fs) f e .normal) (bO P f e .normal))(D:yn P fs)
  (H:Bd P fs (bS P) Hid)(C:Bc P fs)(n:Rel (bS P) Hid w W){d:af bq}{l:ae Nat}{h k:ae aJ}(A:(d.all λo=>qT P o.op)=U)(z:nP P (Spec (Q,V.size,R)) h k):
  ri P fs Spec Hid T O ⟨Q,V,.inRegion d l::h,X,.run,S,R⟩ ⟨Q,V,.inRegion d l::k,X,.run,S,R⟩ cs' cs w W:=by
 have r:fG P Spec ⟨Q,V,.inRegion d l::h,X,.run,S,R⟩ ⟨Q,V,.inRegion d l::k,X,.run,S,R⟩:=⟨_,F,.cons (.inRegion d l A) z,v,.inl F⟩;cases l with
 |nil=>exact sj j v n (λ_=>by simp[G,aE,cf]) (by simp[G,aE,cf]) z
 |cons i l=>
  cases hi:d[i]? with
  |none=>exact MG (g':=jw ⟨Q,V,.inRegion d (i::l)::h,X,.run,S,R⟩ aB) (g:=jw ⟨Q,V,.inRegion d (i::l)::k,X,.run,S,R⟩ aB) n (λ_=>by simp[G,aE,cf,hi]) (by simp[G,aE,cf,hi]) (j _ _ (r.finish aB)) ⟨F,F⟩
  |some o=>
   by_cases t:wO o (yielded d V)=U
   ·have y:qT P o.op=U:=by
     have:=Array.all_eq_true'.1 A o (Array.mem_of_getElem? hi);simpa using this
    have J:=Array.mem_of_getElem? hi;have E:∀B u:ae aJ,bR ⟨Q,V,B,X,.run,S,R⟩=bR ⟨Q,V,u,X,.run,S,R⟩:=λB u=>funext λx=>by cases x<;>rfl
    have step:∀(p:aD)(m:Bool)(q:ae aJ)(c:ae aA)(x:ax),aE p m (G ⟨Q,V,.inRegion d (i::l)::q,X,.run,S,R⟩ c) x=iA p U ⟨Q,V,.inRegion d (i::l)::q,X,.run,S,R⟩ c I (DW R (bR ⟨Q,V,.inRegion d (i::l)::q,X,.run,S,R⟩) o) x:=λp m q c x=>by
     simp only[G,aE,cf,hi,jE,t,rV,if_true];unfold stepG.oper DW;simp only[Frame.oper?,hi];cases R with
     |none=>rfl
     |some K=>cases aO:o.op<;>rfl
    refine WW j hE D (s':=DW R (bR ⟨Q,V,.inRegion d (i::l)::h,X,.run,S,R⟩) o) (s:=DW R (bR ⟨Q,V,.inRegion d (i::l)::h,X,.run,S,R⟩) o) (axf H (λ_=>rfl) R o y) (aoj C (λ_=>rfl) R o y) r F n ?_ ?_
    ·exactλ_=>step _ _ _ _ _
    ·rw[E _ (.inRegion d (i::l)::k)]
     exact step _ _ _ _ _
   ·exact MG (g':=jw ⟨Q,V,.inRegion d (i::l)::h,X,.run,S,R⟩ aB) (g:=jw ⟨Q,V,.inRegion d (i::l)::k,X,.run,S,R⟩ aB) n (λ_=>by simp[G,aE,cf,hi,t]) (by simp[G,aE,cf,hi,t]) (j _ _ (r.finish aB)) ⟨F,F⟩
end
end
section
open Go.Conc (G)
section
variable {P:aD}{fs:af dK}{Hid:Loc->Prop}{Spec:Wh->ae aJ->ae aJ->bH->bH->Prop}{T:aA->aA->Prop}
variable {Q:Bool}{R:cH}{S:af ag}{X:ae cz}{V:dQ}{N:aj Nat}{M K:ae aA}{w W:ax}{L k:ae aJ}
theorem avc(d:∀a b,fG P Spec a b->T a b)(c:nO P R V X)(f:Rel (bS P) Hid w W)(id)(e:nP P (Spec (R,S.size,N)) L k):ri P fs Spec Hid T Q ⟨R,S,.inBlock id::L,X,.run,V,N⟩ ⟨R,S,.inBlock id::k,X,.run,V,N⟩ M K w W:=
 sj d c f (λ_=>by rfl) (by rfl) e
theorem avf(d:∀a b,fG P Spec a b->T a b)(c:nO P R V X)(f:Rel (bS P) Hid w W)(b)(e:nP P (Spec (R,S.size,N)) L k):ri P fs Spec Hid T Q ⟨R,S,.inScope b::L,X,.run,V,N⟩ ⟨R,S,.inScope b::k,X,.run,V,N⟩ M K w W:=
 sj d c f (λ_=>by rfl) (by rfl) e
theorem avd(e:∀a b,fG P Spec a b->T a b)(d:nO P R V X)(g:Rel (bS P) Hid w W)(b)(c:jl P b=U)(f:nP P (Spec (R,S.size,N)) L k):ri P fs Spec Hid T Q ⟨R,S,.inLoop b::L,X,.run,V,N⟩ ⟨R,S,.inLoop b::k,X,.run,V,N⟩ M K w W:=
 sj e d g (λ_=>by rfl) (by rfl) (.cons (.code (.same b c)) (.cons (.inLoop b c) f))
theorem ave(l):ri P fs Spec Hid T Q ⟨R,S,.inRangeFunc l::L,X,.run,V,N⟩ ⟨R,S,.inRangeFunc l::k,X,.run,V,N⟩ M K w W:=
 GO (by rfl)
theorem avi(d:∀a b,fG P Spec a b->T a b)(c:nO P R V X)(e:Rel (bS P) Hid w W):ri P fs Spec Hid T Q ⟨R,S,[],X,.run,V,I⟩ ⟨R,S,[],X,.run,V,I⟩ M K w W:=
 MG (g:=⟨R,S,[],X,.returning,V,I⟩) e (λ_=>by rfl) (by rfl) (d _ _ ⟨[],F,.nil,c,.inr F⟩) ⟨F,F⟩
theorem VH{a}{r}{l}(c:r∈a)(b:bS P (.loop l)):Sm P fs (bS P) Hid a (setObj r (.loop l)):=Ix c b F
theorem avU{b}(l):Sm P fs (bS P) Hid b (Instr.beginRound l):=by
 refine Iw l λr a=>bh (VH ba a) λ_=>?_;split<;>first|exact br _|exact xT _
theorem awj{rs}(l)(j)(b:∀c,j=Z c->jl P c=U):Sm P fs (bS P) Hid rs (xZ l j):=by
 exact Iw l λr a=>bh (VH ba ⟨a.1,a.2.1,b,a.2.2.2⟩) λ_=>br _
theorem adq{rs}(l):Sm P fs (bS P) Hid rs (wF l):=by
 refine Iw l λr a=>jW (λ_=>(sB _).bind.kH) λ_=>?_;exact bh (VH ba a) λ_=>br _
theorem ain{l}{c}{f}(j:Rel (bS P) Hid w W)(e:(wF l).run (Lo P fs) w=.ok (Z c) f):jl P c=U:=by
 unfold wF Instr.getLoop at e;rw[bind_assoc]at e;have g:∀k:Obj->Sem (aj bH),(j4 l>>=k).run (Lo P fs) w=(wP l k).run (Lo P fs) w:=λ_=>rfl;rw[g]at e;unfold bP at e;cases hb:w.heap[l]? with
 |none=>rw[hb]at e;cases e
 |some o=>
  rw[hb]at e;obtain⟨O,_,h⟩:=j.obj _ _ hb;cases h with
  |same _ i=>
   cases o with
   |loop r=>
    by_cases d:r.state=.busy
    ·exfalso
     cases hx:(runtimePanic (.error "range function recovered a loop body panic and did not resume panicking"):Sem Unit).run (Lo P fs) w with
     |ok u b=>exact(sB .. ).1 _ _ hx
     |halt y b=>simp[d,hx]at e
    ·have a:(setObj l (.loop {r with state:=.exhausted})>>=λ_=>(pure r.pending)).run (Lo P fs) w=.ok (Z c) f:=by
      simpa[d]using e
     rw[oh]at a;cases hx:(setObj l (.loop {r with state:=.exhausted})).run (Lo P fs) w with
     |ok u b=>rw[hx]at a;simp only[Result.andThen_ok,Sem.run_pure,Result.ok.injEq]at a;exact i.2.2.1 c a.1
     |halt y b=>simp_all
   |_=>cases e
  |cut=>cases e
  |k8=>cases e
  |view=>cases e
theorem au8(g:∀a b,fG P Spec a b->T a b)(e:nO P R V X)(hE:∀f c,hasB fs f=U->T (bO (Lo P fs) f c .normal) (bO P f c .normal))(d:yn P fs)(i:Rel (bS P) Hid w W)(h:nP P (Spec (R,S.size,N)) L k):ri P fs Spec Hid T Q ⟨R,S,.beginRound::L,X,.run,V,N⟩ ⟨R,S,.beginRound::k,X,.run,V,N⟩ M K w W:=by
 have j:Sm P fs (bS P) Hid [] (do N.elim (stuck "beginRound: no round") Instr.beginRound;pure Next.skip):=by
  cases N with
  |none=>exact(fL _).bind.kH
  |some l=>exact bh (avU l) λ_=>br _
 exact WW g hE d j (eB.kn (sU λ_=>vQ F)) ⟨_,F,.cons .beginRound h,e,.inl F⟩ F i (λ_=>by rfl) (by rfl)
theorem avb(D:∀a b,fG P Spec a b->T a b)(t:nO P R V X)(i:Rel (bS P) Hid w W)(l)(q:nP P (Spec (R,S.size,N)) L k):ri P fs Spec Hid T Q ⟨R,S,.endRangeFunc l::L,X,.run,V,N⟩ ⟨R,S,.endRangeFunc l::k,X,.run,V,N⟩ M K w W:=by
 have p:∀x j g,(wF l).run (Lo P fs) x=.ok j g->∃es,aE (Lo P fs) U (G ⟨R,S,.endRangeFunc l::L,X,.run,V,N⟩ M) x=dZ ⟨R,S,(j.map Item.code).toList++L,X,.run,V,N⟩ M g es:=λx j g J=>by
  have f:(wF l).runT (Lo P fs) x #[]=(.ok j g,(wF l).events (Lo P fs) x #[]):=by rw[jN,J]
  simp only[G,aE,cf,f];exact⟨_,F⟩
 cases aL:(wF l).run (Lo P fs) w with
 |halt x s=>
  have f:(wF l).runT (Lo P fs) w #[]=(.halt x s,(wF l).events (Lo P fs) w #[]):=by rw[jN,aL]
  refine⟨?_,λu y w1 B h=>?_⟩
  ·simp only[G,aE,cf,f]
   apply Va;cases x<;>first|exact .inl ⟨_,_,_,_,rfl⟩|exact AU rfl
  ·simp only[G,aE,cf,f]at h
   cases x with
   |panic v=>cases h;exact .inl ⟨_,F,by simp,F,(adq (rs:=[]) l w W i ba).2 _ _ aL⟩
   |_=>cases h
 |ok j s=>
  obtain⟨⟨m,r,C,A,z,qL⟩,n,w0,O,pO⟩:=(adq (rs:=[]) l w W i ba).1 j _ aL;have sL:(wF l).runT P W #[]=(.ok j m,r):=by rw[C];simp
  obtain⟨Jz,o⟩:=p w j _ aL;refine⟨zo o,λu y w1 B h=>?_⟩;rw[o]at h;cases h;refine .inr ⟨⟨n,w0,O,λτ d E=>p _ _ _ (pO _ d E)⟩,⟨R,S,(j.map Item.code).toList++k,X,.run,V,N⟩,K,m,seen P R r,by simp only[G,aE,cf,sL];simp[mx],⟨D _ _ ⟨_,F,?_,t,.inl F⟩,.inl ⟨F,F,F,F⟩,A,z,λe H=>qL e (Cz H)⟩⟩;cases j with
  |none=>exact q
  |some c=>exact .cons (.code (.same _ (ain i aL))) q
end
end
section
open Go.Conc (G)
def pI(X:dQ)(a:aA)(v:ag):aA:=if X=.normal then a.finish v else a
theorem M6{p:aD}{R:Bool}{fr a:aA}{l:ae aA}{v:ag}{w:ax}(c:fr.kind=.normal\/fr.kind=.deferred)(b:a.mode=.run\/a.mode=.returning):rW p R fr (a::l) I v w=dZ (pI fr.kind a v) l w #[]:=by
 unfold rW pI;rcases c with c|c<;>rw[c]
 ·rfl
 ·rcases b with b|b<;>simp[b]
section
variable {P:aD}{fs:af dK}{fx:Obj->Prop}{Hid:Loc->Prop}{Spec:Wh->ae aJ->ae aJ->bH->bH->Prop}{T:aA->aA->Prop}
theorem adT{rs:ae Nat}(f:dK)(V:af ag):Sm P fs fx Hid rs (results f V):=by
 unfold results;refine bh (adk (λr=>?_) _) λa=>br _;split
 ·exact br _
 ·exact bh (Vn _) λ_=>Vy _ _
variable {R:Bool}{M O:ae aA}{w W:ax}
theorem nO.kinds{Q:cH}{X:dQ}{a:ae cz}(h:nO P Q X a):X=.normal\/X=.deferred:=h.kind.imp id (·.1)
def IN(P:aD)(fs:af dK)(Hid:Loc->Prop)(R:Bool)(X:dQ)(b n d a:aA)(f l:ae aA)(w W:ax):Prop:=Shape (aE (Lo P fs) U (G b (d::f)) w)/\∀h i c m,aE (Lo P fs) U (G b (d::f)) w=dZ h i c m->Bh (Lo P fs) b (d::f) w h i c/\∃v g j,h=pI X d v/\i=f/\aE P R (G n (a::l)) W=dZ (pI X a v) l g j/\Rel (bS P) Hid c g/\iS w W c g/\∀e∈j,rk Hid c.heap.size e
theorem avl{p c b a:aA}{i l:ae aA}(gz:b.mode=.run\/b.mode=.returning)(C:a.mode=.run\/a.mode=.returning)(hr:Rel (bS P) Hid w W)
  (iZ:fG P Spec p c)(hm:c.mode=.returning)(hd:c.defers=[])
  (o:(fs[c.fn]?=I/\P.funcs[c.fn]?=I)\/∃g f,fs[c.fn]?=Z g/\P.funcs[c.fn]?=Z f/\g.results=f.results):IN P fs Hid R c.kind p c b a i l w W:=by
 obtain⟨t,rfl,ht,A,_⟩:=iZ;obtain⟨Q,V,s,S,β,X,r⟩:=c;simp only at o hm hd A;subst hm hd;have E:∀(v:ag)(w:ax),rW (Lo P fs) U ⟨Q,V,t,[],.returning,X,r⟩ (b::i) I v w=dZ (pI X b v) i w #[]:=λv w=>M6 A.kinds gz;have H:∀(v:ag)(w:ax),rW P R ⟨Q,V,s,[],.returning,X,r⟩ (a::l) I v w=dZ (pI X a v) l w #[]:=λv w=>M6 A.kinds C;rcases o with⟨o,B⟩|⟨g,f,o,B,Fu⟩
 ·have u:(Lo P fs).funcs[Q]?=I:=o
  have j:∀x,aE (Lo P fs) U (G ⟨Q,V,t,[],.returning,X,r⟩ (b::i)) x=dZ (pI X b (V.getD 0 aB)) i x #[]:=λx=>by simp only[G,aE,lT,u,E]
  refine⟨zo (j w),λJ K w1 L h=>?_⟩;have q:=TS j w;rw[j]at h;cases h;exact⟨q,_,W,#[],F,F,by simp only[G,aE,lT,B,H],hr,iS.refl _ _,by simp⟩
 have vM:results g V=results f V:=by unfold results;rw[Fu]
 have u:(Lo P fs).funcs[Q]?=Z g:=o;have j:∀x v z,(results f V).run (Lo P fs) x=.ok v z->∃es,aE (Lo P fs) U (G ⟨Q,V,t,[],.returning,X,r⟩ (b::i)) x=dZ (pI X b v) i z es:=λx v z hx=>by
  have q:(results g V).runT (Lo P fs) x #[]=(.ok v z,(results g V).events (Lo P fs) x #[]):=by rw[jN,vM,hx]
  simp only[G,aE,lT,u,q,E];exact⟨_,F⟩
 cases aL:(results f V).run (Lo P fs) w with
 |halt x y=>
  have q:(results g V).runT (Lo P fs) w #[]=(.halt x y,(results g V).events (Lo P fs) w #[]):=by rw[jN,vM,aL]
  have m:u6 (aE (Lo P fs) U (G ⟨Q,V,t,[],.returning,X,r⟩ (b::i)) w)=U:=by
   simp only[G,aE,lT,u,q];cases x<;>rfl
  refine⟨AU m,λJ K w1 L h=>?_⟩;rw[h]at m;cases m
 |ok v y=>
  obtain⟨⟨D,us,hS,eF,dx,qL⟩,n,w0,ju,pO⟩:=(adT (rs:=[]) f V w W hr ba).1 v y aL;have sL:(results f V).runT P W #[]=(.ok v D,us):=by rw[hS];simp
  obtain⟨Jz,m⟩:=j w v y aL;refine⟨zo m,λJ K w1 L h=>?_⟩;rw[m]at h;cases h;refine⟨⟨n,w0,ju,λτ d C=>j _ _ _ (pO τ d C)⟩,v,D,seen P Q us,F,F,?_,eF,dx,λe he=>qL e (Cz he)⟩;simp only[G,aE,lT,B,sL,H];simp[mx]
def oH(p:aD)(R:Bool)(a:aA)(O:ae aA)(b:Nat)(j:aj bH)(w:ax):GStep:=
 let(r,es):=(xZ b j).runT p w #[]
 mx (seen p a.fn es)<|match r with
 |.ok v w=>rW p R a O I v w
 |.halt _ w=>.ended (.stuck "range over a function: no such loop" (a.pos p)) w
theorem MH{fr' fr b a:aA}{g l:ae aA}{l0:Nat}{j:aj bH}(L:∀c,j=Z c->jl P c=U)
  (H:b.mode=.run\/b.mode=.returning)(o:a.mode=.run\/a.mode=.returning)(hr:Rel (bS P) Hid w W)(r:fr.kind=.normal\/fr.kind=.deferred)(s:fr'.kind=fr.kind)
  (t:∀w,aE (Lo P fs) U (G fr' (b::g)) w=oH (Lo P fs) U fr' (b::g) l0 j w)(C:aE P R (G fr (a::l)) W=oH P R fr (a::l) l0 j W):IN P fs Hid R fr.kind fr' fr b a g l w W:=by
 have u:∀x v m,(xZ l0 j).run (Lo P fs) x=.ok v m->∃es,aE (Lo P fs) U (G fr' (b::g)) x=dZ (pI fr'.kind b v) g m es:=λx v m hx=>by
  have p:(xZ l0 j).runT (Lo P fs) x #[]=(.ok v m,(xZ l0 j).events (Lo P fs) x #[]):=by rw[jN,hx]
  rw[t];simp only[oH,p,M6 (fr:=fr') (s▸r) H];exact⟨_,F⟩
 cases aL:(xZ l0 j).run (Lo P fs) w with
 |halt x i=>
  have p:(xZ l0 j).runT (Lo P fs) w #[]=(.halt x i,(xZ l0 j).events (Lo P fs) w #[]):=by rw[jN,aL]
  have f:u6 (aE (Lo P fs) U (G fr' (b::g)) w)=U:=by
   rw[t];simp only[oH,p];rfl
  refine⟨AU f,λz B w1 E h=>?_⟩;rw[h]at f;cases f
 |ok v i=>
  obtain⟨⟨q,y,J,D,A,qL⟩,n,w0,ju,pO⟩:=(awj (rs:=[]) l0 j L w W hr ba).1 v i aL;have sL:(xZ l0 j).runT P W #[]=(.ok v q,y):=by rw[J];simp
  obtain⟨Jz,f⟩:=u w v i aL;refine⟨zo f,λz B w1 E h=>?_⟩;rw[f]at h;cases h;refine⟨⟨n,w0,ju,λτ d o=>u _ _ _ (pO τ d o)⟩,v,q,seen P fr.fn y,by rw[s],F,?_,D,A,λe K=>qL e (Cz K)⟩;rw[C];simp only[oH,sL,M6 r o];simp[mx]
variable {Q:cH}{V:af ag}{S:ae cz}{X:dQ}{N k:ae aJ}
theorem avg{g a:aA}{s l:ae aA}(h:nO P Q X S)
  (i:g.mode=.run\/g.mode=.returning)(m:a.mode=.run\/a.mode=.returning)(o:Rel (bS P) Hid w W){c:bH}(n:stays k c=Y)(p:nP P (Spec (Q,V.size,Z b)) N k):
  IN P fs Hid R X ⟨Q,V,.code c::N,S,.run,X,Z b⟩ ⟨Q,V,.code c::k,S,.run,X,Z b⟩ g a s l w W:=by
 cases c<;>first|exact absurd n.symm jL|skip
 ·rename_i id
  rcases Yh (id:=id) p with⟨f,d⟩|⟨t,r,f,d,q⟩
  ·exact MH (fr':=⟨Q,V,_,S,.run,X,Z b⟩) (fr:=⟨Q,V,_,S,.run,X,Z b⟩) (l0:=b) (j:=Z (.exit id)) (λc e=>by cases e;rfl) i m o h.kinds rfl (λ_=>by simp[G,aE,cf,f,oH]<;>rfl) (by simp[G,aE,cf,d,oH]<;>rfl)
  ·simp[stays,d]at n
 ·rename_i id
  rcases YM (l:=id) p with⟨f,d⟩|⟨t,r,f,d,q⟩
  ·exact MH (fr':=⟨Q,V,_,S,.run,X,Z b⟩) (fr:=⟨Q,V,_,S,.run,X,Z b⟩) (l0:=b) (j:=Z (.goto id)) (λc e=>by cases e;rfl) i m o h.kinds rfl (λ_=>by simp[G,aE,cf,f,oH]<;>rfl) (by simp[G,aE,cf,d,oH]<;>rfl)
  ·simp[stays,d]at n
 ·exact MH (fr':=⟨Q,V,_,S,.run,X,Z b⟩) (fr:=⟨Q,V,_,S,.run,X,Z b⟩) (l0:=b) (j:=Z .ret) (λc e=>by cases e;rfl) i m o h.kinds rfl (λ_=>by simp[G,aE,cf,oH]<;>rfl) (by simp[G,aE,cf,oH]<;>rfl)
theorem avm{d a:aA}{m l:ae aA}(f:nO P Q X S)
  (g:d.mode=.run\/d.mode=.returning)(h:a.mode=.run\/a.mode=.returning)(i:Rel (bS P) Hid w W):
  IN P fs Hid R X ⟨Q,V,[],S,.run,X,Z b⟩ ⟨Q,V,[],S,.run,X,Z b⟩ d a m l w W:=
 MH (fr':=⟨Q,V,_,S,.run,X,Z b⟩) (fr:=⟨Q,V,_,S,.run,X,Z b⟩) (l0:=b) (j:=I) (λc e=>by cases e) g h i f.kinds F (λ_=>by simp[G,aE,cf,oH]<;>rfl) (by simp[G,aE,cf,oH]<;>rfl)
end
end
section
open Go.Conc (G)
section
variable {P:aD}{fs:af dK}{Hid:Loc->Prop}{Spec:Wh->ae aJ->ae aJ->bH->bH->Prop}{T:aA->aA->Prop}
variable {M:Bool}{N L:ae aA}{w W:ax}
variable {R:cH}{X:af ag}{V:ae cz}{S:dQ}{Q:aj Nat}{K k:ae aJ}
theorem awk{rs:ae Nat}(f:cH)(t:af ag)(m:af Tmp)(a b:bH)(Q:aj Nat)(h:jl P a=U)(i:jl P b=U)(g:rH P f=Y):Sm P fs (bS P) Hid rs (qb f t m a b Q):=by
 unfold qb;cases Q with
 |some l=>exact Iw l λ_ _=>zr (bh (AW (show bS P (.loop _)from⟨h,i,(λc e=>by cases e),g⟩)) λ_=>br _)
 |none=>exact bh (AW (show bS P (.deferred (Z []))fromλd j=>by cases j)) λr=>zr (bh (AW (show bS P (.loop _)from⟨h,i,(λc e=>by cases e),g⟩)) λ_=>br _)
theorem aiC{f:cH}{t:af ag}{e:af Tmp}{a b:bH}{Q:aj Nat}{p:aD}{x:Nat×ae cz}{g:ax}(h:(qb f t e a b Q).run p w=.ok x g):∀d∈x.2,lV P d:=by
 unfold qb at h;cases Q with
 |some l=>
  dsimp only at h;rw[oh]at h;cases hy:(Instr.getLoop l).run p w with
  |halt y i=>rw[hy]at h;cases h
  |ok r i=>
   rw[hy]at h;cases h;intro d c;cases c
 |none=>
  cases h;intro d c;simp only[my]at c;subst c;exact trivial
def Me(P:aD)(fs:af dK)(Spec:Wh->ae aJ->ae aJ->bH->bH->Prop)(Hid:Loc->Prop)(T:aA->aA->Prop)(M:Bool)(b h:aA)(N L:ae aA)(w W:ax):Prop:=Shape (aE (Lo P fs) U (G b N) w)/\∀f g i o,aE (Lo P fs) U (G b N) w=dZ f g i o->(∃c a n,fG P Spec c a/\f=c.raise n/\(∀e∈n,e.recovered=Y)/\g=N/\tF (bS P) i)\/Bh (Lo P fs) b N w f g i/\∃c a d l j m,aE P M (G h L) W=dZ d l j m/\fG P Spec c a/\a.roundOf=h.roundOf/\kf a=kf h/\a.mode=h.mode/\Qp P Spec Hid T c a N L w W f g i d l j m
theorem ri.uy{a b:aA}(h:ri P fs Spec Hid T M a b N L w W)(g:fG P Spec a b):Me P fs Spec Hid T M a b N L w W:=⟨h.1,λj l r m e=>
 (h.2 j l r m e).imp (λ⟨q,c,d⟩=>⟨_,_,q,g,c,d⟩) λ⟨n,f,o,i,p,c,d⟩=>⟨n,a,b,f,o,i,p,c,g,F,F,F,d⟩⟩
theorem avj(hT:∀a b,fG P Spec a b->T a b)(hE:∀f g,hasB fs f=U->T (bO (Lo P fs) f g .normal) (bO P f g .normal))(Wz:yn P fs)
  (H:Bd P fs (bS P) Hid)(HK:Bc P fs)(O:nO P R S V)(hr:Rel (bS P) Hid w W){f:iP}{j:af Tmp}{a b:bH}(ha:jl P a=U)(hb:jl P b=U)(hk:nP P (Spec (R,X.size,Q)) K k):
  Me P fs Spec Hid T M ⟨R,X,.code (.rangeFunc f j a b)::K,V,.run,S,Q⟩ ⟨R,X,.code (.rangeFunc f j a b)::k,V,.run,S,Q⟩ N L w W:=by
 have ev:∀td LJ:ae aJ,bR ⟨R,X,td,V,.run,S,Q⟩=bR ⟨R,X,LJ,V,.run,S,Q⟩:=λtd LJ=>funext λx=>by cases x<;>rfl
 have step:∀(p:aD)(m:Bool)(B:ae aJ)(c:ae aA)(x:ax),aE p m (G ⟨R,X,.code (.rangeFunc f j a b)::B,V,.run,S,Q⟩ c) x=
   mx (seen p R ((qb R X j a b Q).runT p x #[]).2) (match((qb R X j a b Q).runT p x #[]).1 with
   |.ok (l,mark) o=>iA p U ⟨R,X,.inRangeFunc l::B,mark++V,.run,S,Q⟩ c I (do let d<-resolve (bR ⟨R,X,[],V,.run,S,Q⟩) {callee:=.value f,args:=#[.const (.func (.yield l) #[] #[])],argTypes:=#[]} 0;invoke d.target d.args) o
   |.halt _ o=>.ended (.stuck "range over a function: no such loop" (Frame.pos p ⟨R,X,.code (.rangeFunc f j a b)::B,V,.run,S,Q⟩)) o):=λp m B c x=>by
  simp only[G,aE,cf];rw[<-ev (.code (.rangeFunc f j a b)::B) []];rfl
 cases aL:(qb R X j a b Q).run (Lo P fs) w with
 |halt x r=>
  have hl:(qb R X j a b Q).runT (Lo P fs) w #[]=(.halt x r,(qb R X j a b Q).events (Lo P fs) w #[]):=by rw[jN,aL]
  have z:u6 (aE (Lo P fs) U (G ⟨R,X,.code (.rangeFunc f j a b)::K,V,.run,S,Q⟩ N) w)=U:=by
   rw[step,hl];rfl
  refine⟨AU z,λdF dw w2 JA h=>?_⟩;rw[h]at z;cases z
 |ok v r=>
  have Kc:=aiC (P:=P) aL;obtain⟨⟨J,us,hS,eF,dx,qL⟩,u,γ,y,ZG⟩:=(awk (rs:=[]) R X j a b Q ha hb O.ne w W hr ba).1 v r aL;obtain⟨l,mark⟩:=v;have sL:(qb R X j a b Q).runT P W #[]=(.ok (l,mark) J,us):=by rw[hS];simp
  have gX:∀x o,(qb R X j a b Q).run (Lo P fs) x=.ok (l,mark) o->aE (Lo P fs) U (G ⟨R,X,.code (.rangeFunc f j a b)::K,V,.run,S,Q⟩ N) x=mx (seen (Lo P fs) R ((qb R X j a b Q).events (Lo P fs) x #[])) (iA (Lo P fs) U ⟨R,X,.inRangeFunc l::K,mark++V,.run,S,Q⟩ N I (do let d<-resolve (bR ⟨R,X,[],V,.run,S,Q⟩) {callee:=.value f,args:=#[.const (.func (.yield l) #[] #[])],argTypes:=#[]} 0;invoke d.target d.args) o):=λx o hx=>by
   have hl:(qb R X j a b Q).runT (Lo P fs) x #[]=(.ok (l,mark) o,(qb R X j a b Q).events (Lo P fs) x #[]):=by rw[jN,hx]
   rw[step,hl]
  have dP:nO P R S (mark++V):=⟨O.kind,λd hd=>(pz.1 hd).elim (Kc d) (O.defers d),O.ne⟩;have BJ:fG P Spec ⟨R,X,.inRangeFunc l::K,mark++V,.run,S,Q⟩ ⟨R,X,.inRangeFunc l::k,mark++V,.run,S,Q⟩:=⟨_,F,.cons (.inRangeFunc l) hk,dP,.inl F⟩;have D:=adn (rs:=[]) H (bR ⟨R,X,[],V,.run,S,Q⟩) {callee:=.value f,args:=#[.const (.func (.yield l) #[] #[])],argTypes:=#[]} 0 F;have sN:=aay (Hid:=Hid) HK (bR ⟨R,X,[],V,.run,S,Q⟩) {callee:=.value f,args:=#[.const (.func (.yield l) #[] #[])],argTypes:=#[]} 0 F;generalize β:(do let d<-resolve (bR ⟨R,X,[],V,.run,S,Q⟩) {callee:=.value f,args:=#[.const (.func (.yield l) #[] #[])],argTypes:=#[]} 0;invoke d.target d.args:Sem Next)=qW at D sN gX;cases Ay:qW.run (Lo P fs) r with
  |halt x C=>
   refine⟨by rw[gX w r aL];exact Va (Px Wz Ay),λdF dw w2 JA h=>?_⟩;rw[gX w r aL]at h;cases tU:iA (Lo P fs) U ⟨R,X,.inRangeFunc l::K,mark++V,.run,S,Q⟩ N I qW r<;>rw[tU]at h<;>first|(cases h;done)|skip
   cases h;obtain⟨vs,e1,e2,e3,rfl⟩:=NF Wz Ay tU;exact .inl ⟨_,_,vs,BJ,e1,e2,e3,(D r J eF ba).2 _ _ Ay⟩
  |ok n C=>
   obtain⟨t',zY,Bv,t,c1,W3,LP,z,g2,s⟩:=ac5 hT hE D sN BJ F eF Ay (cs':=N) (cs:=L);have lh:=sN r J eF n C Ay;have E:=((D r J eF ba).1 n C Ay).2;have g3:∀x o x2,(qb R X j a b Q).run (Lo P fs) x=.ok (l,mark) o->qW.run (Lo P fs) o=.ok n x2->∃es,aE (Lo P fs) U (G ⟨R,X,.code (.rangeFunc f j a b)::K,V,.run,S,Q⟩ N) x=dZ t' zY x2 es:=λx o x2 h1 h2=>by
    obtain⟨t2,c2,vO⟩:=lh.after (Lo P fs) ⟨R,X,.inRangeFunc l::K,mark++V,.run,S,Q⟩ N;obtain⟨JA,e2⟩:=MJ (fr:=⟨R,X,.inRangeFunc l::K,mark++V,.run,S,Q⟩) F vO Ay;rw[z]at e2;cases e2;obtain⟨Yc,e3⟩:=MJ (fr:=⟨R,X,.inRangeFunc l::K,mark++V,.run,S,Q⟩) F vO h2;rw[gX x o h1,e3];exact⟨_,F⟩
   obtain⟨Jz,g4⟩:=g3 w r C aL Ay;refine⟨zo g4,λdF dw w2 JA h=>?_⟩;rw[g4]at h;cases h;refine .inr ⟨?_,_,_,t,c1,W3,seen P R us++LP,?_,BJ,F,F,F,⟨s.V1,s.cs,s.rel,dx.trans s.keep,λe A=>?_⟩⟩
   ·
    have δ:uK (Lo P fs) (qb R X j a b Q>>=λ_=>qW) w n C:=uK.bind ⟨u,γ,y,ZG⟩ E;subst y;obtain⟨n2,V9,rfl,E⟩:=E;refine⟨u+n2,V9,by simp[re,zF],λτ d kV=>?_⟩;have q1:=ZG τ d λi hi q=>kV i ah q;have q2:=E τ (d+u) λi hi q=>by
     have:=kV (u+i) ah q;rw[zF,this];show w.tape (w.drawn+(u+i)) q=w.tape (w.drawn+u+i) q;rw[zF]
    rw[zF]at q2;exact g3 _ _ _ q1 q2
   ·rw[step,sL]
    simp only[β,g2];rfl
   ·rcases Array.mem_append.1 A with A|A
    ·exact(qL e (Cz A)).mono s.keep.size
    ·exact s.Bw e A
theorem axG{rs:ae Nat}(b:Nat):Sm P fs (bS P) Hid rs (qd b):=by
 unfold qd;refine wu (λo c=>?_) (vF (λ_ _ _ _ _ _=>fL _) λ_ _=>fL _);cases o<;>first|exact dz _|skip
 rename_i a;cases a with
 |none=>exact dz _
 |some a=>exact(bh (Ix ba (show bS P (.deferred I)from trivial) F) λ_=>br _)
theorem ayM{b:Nat}{c:ae cz}{f:ax}(j:Rel (bS P) Hid w W)(e:(qd b).run (Lo P fs) w=.ok c f):∀d∈c,lV P d:=by
 unfold qd at e;have g:∀k:Obj->Sem (ae cz),(j4 b>>=k).run (Lo P fs) w=(wP b k).run (Lo P fs) w:=λ_=>rfl;rw[g]at e;unfold bP at e;cases hb:w.heap[b]? with
 |none=>rw[hb]at e;cases e
 |some o=>
  rw[hb]at e;obtain⟨O,_,h⟩:=j.obj _ _ hb;cases h with
  |same _ i=>
   cases o with
   |deferred r=>
    cases r with
    |none=>cases e
    |some L=>
     have a:(setObj b (.deferred I)>>=λ_=>(pure L:Sem (ae cz))).run (Lo P fs) w=.ok c f:=e;rw[oh]at a;cases hx:(setObj b (.deferred I)).run (Lo P fs) w with
     |ok u l=>
      rw[hx]at a;simp only[Result.andThen_ok,Sem.run_pure,Result.ok.injEq]at a;exact a.1▸i
     |halt y l=>rw[hx]at a;cases a
   |_=>cases e
  |cut=>cases e
  |k8=>cases e
  |view=>cases e
theorem au9{f:ae cz}{b:Nat}{i:af ag}{l c:ae aJ}(E:∀a b,fG P Spec a b->T a b)(t:Rel (bS P) Hid w W)(p:nO P R S ({target:=.collected b,args:=i}::f))(O:nP P (Spec (R,X.size,Q)) l c):ri P fs Spec Hid T M ⟨R,X,l,{target:=.collected b,args:=i}::f,.returning,S,Q⟩ ⟨R,X,c,{target:=.collected b,args:=i}::f,.returning,S,Q⟩ N L w W:=by
 have s:∀x v o,(qd b).run (Lo P fs) x=.ok v o->∃es,aE (Lo P fs) U (G ⟨R,X,l,{target:=.collected b,args:=i}::f,.returning,S,Q⟩ N) x=dZ ⟨R,X,l,v++f,.returning,S,Q⟩ N o es:=λx v o hx=>by
  have q:(qd b).runT (Lo P fs) x #[]=(.ok v o,(qd b).events (Lo P fs) x #[]):=by rw[jN,hx]
  simp only[G,aE,lT,q];exact⟨_,F⟩
 cases aL:(qd b).run (Lo P fs) w with
 |halt x m=>
  have q:(qd b).runT (Lo P fs) w #[]=(.halt x m,(qd b).events (Lo P fs) w #[]):=by rw[jN,aL]
  have g:u6 (aE (Lo P fs) U (G ⟨R,X,l,{target:=.collected b,args:=i}::f,.returning,S,Q⟩ N) w)=U:=by
   simp only[G,aE,lT,q];rfl
  refine⟨AU g,λy z w1 C h=>?_⟩;rw[h]at g;cases g
 |ok v m=>
  obtain⟨⟨r,u,D,B,A,qL⟩,n,w0,ju,pO⟩:=(axG (rs:=[]) b w W t ba).1 v m aL;have sL:(qd b).runT P W #[]=(.ok v r,u):=by rw[D];simp
  obtain⟨Jz,g⟩:=s w v m aL;refine⟨zo g,λy z w1 C h=>?_⟩;rw[g]at h;cases h;refine .inr ⟨⟨n,w0,ju,λτ d H=>s _ _ _ (pO τ d H)⟩,⟨R,X,c,v++f,.returning,S,Q⟩,L,r,seen P R u,by simp only[G,aE,lT,sL];simp[mx],⟨E _ _ ⟨_,F,O,⟨p.kind,λd j=>?_,p.ne⟩,.inr F⟩,.inl ⟨F,F,F,F⟩,B,A,λe J=>qL e (Cz J)⟩⟩;rcases pz.1 j with j|j
  ·exact ayM t aL d j
  ·exact p.defers d (eK _ j)
theorem ava{f:cH}{a c:af ag}{g:ae cz}{i b:ae aJ}(hE:∀x,T (bO (Lo P fs) f x .deferred) (bO P f x .deferred))(u:Rel (bS P) Hid w W)
  (j:nO P R S ({target:=.fn (.func f) c,args:=a}::g))(t:nP P (Spec (R,X.size,Q)) i b)
  (n:∀p,p=Lo P fs\/p=P->∀x(w:ax),(gC f x).runT p w #[]=(.ok (.enter f x) w,#[])):
  Me P fs Spec Hid T M ⟨R,X,i,{target:=.fn (.func f) c,args:=a}::g,.returning,S,Q⟩ ⟨R,X,b,{target:=.fn (.func f) c,args:=a}::g,.returning,S,Q⟩ N L w W:=by
 have q:=n P (.inr F) (a++c) W;have l:∀x,∃es,aE (Lo P fs) U (G ⟨R,X,i,{target:=.fn (.func f) c,args:=a}::g,.returning,S,Q⟩ N) x=dZ (bO (Lo P fs) f (a++c) .deferred) (⟨R,X,i,g,.returning,S,Q⟩::N) x es:=λx=>by
  have o:=n (Lo P fs) (.inl F) (a++c) x;simp only[G,aE,lT,callDeferred,invoke,o];exact⟨_,F⟩
 obtain⟨v,m⟩:=l w;refine⟨zo m,λy z B A h=>?_⟩;rw[m]at h;cases h;refine .inr ⟨⟨0,w,F,λτ d _=>l _⟩,⟨R,X,i,g,.returning,S,Q⟩,⟨R,X,b,g,.returning,S,Q⟩,bO P f (a++c) .deferred,_,W,seen P R #[],?_,⟨_,F,t,⟨j.kind,λd r=>j.defers d (eK _ r),j.ne⟩,.inr F⟩,F,F,F,⟨hE _,.inr ⟨F,F⟩,u,iS.refl _ _,λe s=>?_⟩⟩
 ·simp only[G,aE,lT,callDeferred,invoke,q]
  simp[mx]
 ·have:=Cz s
  simp at this
end
end
section
open Go.Conc (G)
def Qh(P:aD)(fs:af dK)(a:dQ)(c d:aA):Prop:=∃f b,rH P f=U/\c=bO (Lo P fs) f b a/\d=bO P f b a/\(a=.deferred->xw P f=U)
def GL(P:aD)(fs:af dK)(Spec:Wh->ae aJ->ae aJ->bH->bH->Prop)(b:dQ)(a c:aA):Prop:=fG P Spec a c\/Qh P fs b a c
structure Qo(P:aD)(fs:af dK)(Spec:Wh->ae aJ->ae aJ->bH->bH->Prop)(Hid:Loc->Prop):Prop where
 early:yn P fs
 calls:Bd P fs (bS P) Hid
 kinds:Bc P fs
 enter:∀f args,hasB fs f=U->GL P fs Spec .normal (bO (Lo P fs) f args .normal) (bO P f args .normal)
 aiw:∀f args,xw P f=U->GL P fs Spec .deferred (bO (Lo P fs) f args .deferred) (bO P f args .deferred)
 agN:∀f,xw P f=U->∀p,p=Lo P fs\/p=P->∀x(w:ax),(gC f x).runT p w #[]=(.ok (.enter f x) w,#[])
 res:∀fn:cH,(fs[fn]?=I/\P.funcs[fn]?=I)\/∃f' f,fs[fn]?=Z f'/\P.funcs[fn]?=Z f/\f'.results=f.results
def inner(f:cH):Bool:=[2,30,38,43,44,46,55,57,66].contains f
inductive mW(P:aD)(Spec:Wh->ae aJ->ae aJ->bH->bH->Prop)(c0:aA)(E:aA->ae aA->aA->ae aA->Prop):aA->ae aA->aA->ae aA->Prop
 |CX {fr' fr:aA} (h:fG P Spec fr' fr) (yV:fr.roundOf=I) (hk:fr.kind=.normal) (hb:inner fr.fn=Y):mW P Spec c0 E fr' [c0] fr []
 |under {fr' fr a' a:aA} {l' l:ae aA} (h:fG P Spec fr' fr) (hs:mW P Spec c0 E a' l' a l):mW P Spec c0 E fr' (a'::l') fr (a::l)
 |bound {fr' fr a' a:aA} {l' l:ae aA} (h:fG P Spec fr' fr) (hk:fr.kind=.normal) (hE:E a' l' a l):mW P Spec c0 E fr' (a'::l') fr (a::l)
theorem at6(a:aA)(v:ag):(a.finish v).roundOf=a.roundOf/\kf (a.finish v)=kf a:=by
 unfold jw;split<;>first|exact⟨rfl,rfl⟩|(split<;>exact⟨rfl,rfl⟩)
theorem Xc(k:dQ)(a:aA)(v:ag):(pI k a v).roundOf=a.roundOf/\kf (pI k a v)=kf a:=by
 unfold pI;split
 ·exact at6 a v
 ·exact⟨F,F⟩
section
variable {P:aD}{fs:af dK}{Hid:Loc->Prop}{Spec:Wh->ae aJ->ae aJ->bH->bH->Prop}{c0:aA}{E:aA->ae aA->aA->ae aA->Prop}
variable {main:Bool}{X V:ae aA}{w W:ax}
theorem mW.fr{a b:aA}(h:mW P Spec c0 E a X b V):fG P Spec a b:=by cases h<;>assumption
theorem fG.ne{a b:aA}(h:fG P Spec a b):rH P b.fn=Y:=h.choose_spec.2.2.1.ne
theorem fG.mode{b a:aA}(h:fG P Spec b a):a.mode=.run\/a.mode=.returning:=h.choose_spec.2.2.2
theorem fG.ap7{a b:aA}(h:fG P Spec a b):a.mode=.run\/a.mode=.returning:=by
 obtain⟨t,rfl,_,_,c⟩:=h;exact c
theorem fG.pI{a b:aA}(h:fG P Spec a b)(k:dQ)(v:ag):fG P Spec (pI k a v) (pI k b v):=by
 unfold YtgahemdblfapeaaGreatDoor.pI;split
 ·exact h.finish v
 ·exact h
theorem mW.bX{b a f g:aA}(h:mW P Spec c0 E b X a V)(d:fG P Spec f g)(i:g.roundOf=a.roundOf)(c:kf g=kf a):mW P Spec c0 E f X g V:=by
 cases h with
 |CX h l e j=>exact .CX d (i.trans l) ((congrArg Prod.fst c).trans e) (by rw[show g.fn=a.fn from congrArg Prod.snd c];exact j)
 |under h k=>exact .under d k
 |bound h e hE=>exact .bound d ((congrArg Prod.fst c).trans e) hE
theorem mW.back{b a:aA}(h:mW P Spec c0 E b X a V)(k:dQ)(v:ag):mW P Spec c0 E (pI k b v) X (pI k a v) V:=h.bX (h.fr.pI k v) (Xc k a v).1 (Xc k a v).2
def GM(P:aD)(fs:af dK)(Spec:Wh->ae aJ->ae aJ->bH->bH->Prop)(c0:aA)(E:aA->ae aA->aA->ae aA->Prop)(e:aA)(f:ae aA)(c:aA)(g:ae aA):Prop:=mW P Spec c0 E e f c g\/(∃d a v,E d f a g/\e=d.finish v/\c=a.finish v)\/∃b d h a l,Qh P fs b e c/\f=d::h/\g=a::l/\mW P Spec c0 E d h a l/\((b=.normal/\a.mode=.run)\/(b=.deferred/\a.mode=.returning))
def LB(Spec:Wh->ae aJ->ae aJ->bH->bH->Prop)(b a:aA):Prop:=a.mode=.run/\∃d c e k,b.todo=.code d::e/\a.todo=.code c::k/\Spec (a.fn,a.tmps.size,a.roundOf) e k d c
def over(a:aA)(V:ae aA):Prop:=V=[]/\a.mode=.returning/\a.defers=[]
theorem ac7(z:Qo P fs Spec Hid)(γ:∀H S a l,E H S a l->H.mode=.run/\a.mode=.run){i B:aA}(hs:mW P Spec c0 E i X B V)(s:Rel (bS P) Hid w W)(jA:¬LB Spec i B)(cL:¬over B V):Shape (aE (Lo P fs) U (G i X) w)/\∀n o j J,aE (Lo P fs) U (G i X) w=dZ n o j J->(∃Q fp vs,fG P Spec Q fp/\n=Q.raise vs/\(∀e∈vs,e.recovered=Y)/\o=X/\tF (bS P) j)\/Bh (Lo P fs) i X w n o j/\∃m N q y,aE P main (G B V) W=dZ m N q y/\GM P fs Spec c0 E n o m N/\Rel (bS P) Hid j q/\iS w W j q/\∀e∈y,rk Hid j.heap.size e:=by
 have D:∀g,((g=.normal/\B.mode=.run)\/(g=.deferred/\B.mode=.returning))->Me P fs Spec Hid (GL P fs Spec g) main i B X V w W->(Shape (aE (Lo P fs) U (G i X) w)/\∀n o j J,aE (Lo P fs) U (G i X) w=dZ n o j J->(∃Q fp vs,fG P Spec Q fp/\n=Q.raise vs/\(∀e∈vs,e.recovered=Y)/\o=X/\tF (bS P) j)\/
   Bh (Lo P fs) i X w n o j/\∃m N q y,aE P main (G B V) W=dZ m N q y/\GM P fs Spec c0 E n o m N/\Rel (bS P) Hid j q/\iS w W j q/\∀e∈y,rk Hid j.heap.size e):=λg aV hA=>by
  refine⟨hA.1,λn o j J aF=>?_⟩;rcases hA.2 n o j J aF with h|⟨hl,Q,fp,m,N,q,y,h1,BJ,uY,δ,ε,hR⟩
  ·exact .inl h
  ·have R:=hs.bX BJ uY δ
   refine .inr ⟨hl,m,N,q,y,h1,?_,hR.rel,hR.keep,hR.Bw⟩;rcases hR.cs with⟨O,A,e3,e4⟩|⟨O,A⟩
   ·subst O A
    rcases hR.V1 with L|⟨f,ζ,qM,_,rfl,_⟩
    ·exact .inl (R.bX L e3 e4)
    ·exfalso
     have az:=R.fr.ne;have e5:f=fp.fn:=congrArg Prod.snd e4;rw[<-e5,qM]at az;cases az
   ·subst O A
    rcases hR.V1 with L|L
    ·exact .inl (.under L R)
    ·exact .inr (.inr ⟨g,_,_,_,_,L,rfl,rfl,R,by rw[ε];exact aV⟩)
 have xz:(∀{H a:aA}{S l:ae aA},X=H::S->V=a::l->(H.mode=.run\/H.mode=.returning)->(a.mode=.run\/a.mode=.returning)->IN P fs Hid main B.kind i B H a S l w W)->(∃H S,X=H::S)->V≠[]->(Shape (aE (Lo P fs) U (G i X) w)/\∀n o j J,aE (Lo P fs) U (G i X) w=dZ n o j J->(∃Q fp vs,fG P Spec Q fp/\n=Q.raise vs/\(∀e∈vs,e.recovered=Y)/\o=X/\tF (bS P) j)\/
   Bh (Lo P fs) i X w n o j/\∃m N q y,aE P main (G B V) W=dZ m N q y/\GM P fs Spec c0 E n o m N/\Rel (bS P) Hid j q/\iS w W j q/\∀e∈y,rk Hid j.heap.size e):=λhA _ az=>by
  cases hs with
  |CX=>exact absurd F az
  |under h R=>
   obtain⟨fD,Rx⟩:=hA F F R.fr.ap7 R.fr.mode;refine⟨fD,λn o j J aF=>?_⟩;obtain⟨hl,v,q,y,rfl,rfl,A,h3,h4,h5⟩:=Rx n o j J aF;exact .inr ⟨hl,_,_,q,y,A,.inl (R.back _ v),h3,h4,h5⟩
  |bound h C hE=>
   obtain⟨m1,m2⟩:=γ _ _ _ _ hE;obtain⟨fD,Rx⟩:=hA F F (.inl m1) (.inl m2);refine⟨fD,λn o j J aF=>?_⟩;obtain⟨hl,v,q,y,rfl,rfl,A,h3,h4,h5⟩:=Rx n o j J aF;exact .inr ⟨hl,_,_,q,y,A,.inr (.inl ⟨_,_,v,hE,by rw[C];rfl,by rw[C];rfl⟩),h3,h4,h5⟩
 have R4:V=[]->B.roundOf=I:=λe=>by cases hs with
  |CX _ h _ _=>exact h
  |under=>cases e
  |bound=>cases e
 have Sd:∃H S,X=H::S:=by cases hs<;>exact⟨_,_,F⟩
 have K:∀g a b,fG P Spec a b->GL P fs Spec g a b:=λ_ _ _ h=>.inl h;have u:=hs.fr;obtain⟨t,rfl,L,r,hm⟩:=u;obtain⟨fn,M,β,p,T,g,ro⟩:=B;simp only at L r hm R4;have u:fG P Spec ⟨fn,M,t,p,T,g,ro⟩ ⟨fn,M,β,p,T,g,ro⟩:=⟨t,F,L,r,hm⟩;rcases hm with rfl|rfl
 ·
  cases L with
  |nil=>
   cases ro with
   |none=>exact D .normal (.inl ⟨F,F⟩) ((avi (K .normal) r s).uy u)
   |some l0=>exact xz (λO A m1 m2=>by subst O A;exact avm r m1 m2 s) Sd (λe=>by have:=R4 e;cases this)
  |cons h C=>
   cases h with
   |inBlock id=>exact D .normal (.inl ⟨F,F⟩) ((avc (K .normal) r s id C).uy u)
   |inLoop b hb=>exact D .normal (.inl ⟨F,F⟩) ((avd (K .normal) r s b hb C).uy u)
   |inScope b hb=>exact D .normal (.inl ⟨F,F⟩) ((avf (K .normal) r s b C).uy u)
   |inRegion η l ho=>exact D .normal (.inl ⟨F,F⟩) ((avk (K .normal) r z.enter z.early z.calls z.kinds s ho C).uy u)
   |inRangeFunc l=>exact D .normal (.inl ⟨F,F⟩) ((ave l).uy u)
   |endRangeFunc l=>exact D .normal (.inl ⟨F,F⟩) ((avb (K .normal) r s l C).uy u)
   |beginRound=>exact D .normal (.inl ⟨F,F⟩) ((au8 (K .normal) r z.enter z.early s C).uy u)
   |@code c' c hc=>
    have N9:¬Spec (fn,M.size,ro) _ _ c' c:=λh=>jA ⟨F,_,_,_,_,F,F,h⟩;rename_i k' k;by_cases Kp:∃f ps a b,c=.rangeFunc f ps a b
    ·obtain⟨f,ps,a,b,rfl⟩:=Kp
     cases hc with
     |spec h=>exact absurd h N9
     |same _ ho=>
      simp only[jl,gT]at ho;exact D .normal (.inl ⟨F,F⟩) (avj (K .normal) z.enter z.early z.calls z.kinds r s ho.1 ho.2 C)
    ·by_cases HG:stays k c=U
     ·exact D .normal (.inl ⟨F,F⟩) ((ac6 (K .normal) r s hc N9 C (.inr HG) (λf ps a b e=>Kp ⟨f,ps,a,b,e⟩)).uy u)
     ·cases ro with
      |none=>exact D .normal (.inl ⟨F,F⟩) ((ac6 (K .normal) r s hc N9 C (.inl F) (λf ps a b e=>Kp ⟨f,ps,a,b,e⟩)).uy u)
      |some l0=>
       have Ku:stays k c=Y:=by simpa using HG
       obtain rfl:c'=c:=by
        cases hc with
        |same=>rfl
        |seq=>exact absurd Ku (by simp[stays])
        |cond=>exact absurd Ku (by simp[stays])
        |spec h=>exact absurd h N9
       exact xz (λO A m1 m2=>by subst O A;exact avg r m1 m2 s Ku C) Sd (λe=>by have:=R4 e;cases this)
 ·
  cases p with
  |nil=>
   exact xz (λO A m1 m2=>by subst O A;exact avl m1 m2 s u F F (z.res fn)) Sd (λe=>cL ⟨e,F,F⟩)
  |cons d ds=>
   have hd:=r.defers d ba;obtain⟨tg,ar⟩:=d;cases tg with
   |fn f c=>
    cases f with
    |func f=>exact D .deferred (.inr ⟨F,F⟩) (ava (λx=>z.aiw f x hd) s r L (z.agN f hd))
    |_=>exact absurd hd (by simp[lV])
   |collected b=>exact D .deferred (.inr ⟨F,F⟩) ((au9 (K .deferred) s r L).uy u)
   |_=>exact absurd hd (by simp[lV])
end
end
section
open Go.Conc (G)
def hY(p:aD):aA:={fn:=p.funcs.size,tmps:=#[aB],todo:=[.call {target:=.nil,args:=#[]} Y "fmt's door: none" #[]],defers:=[],mode:=.run,kind:=.normal}
theorem aA7:Extern.next "fmt's door: none"=I:=al
structure ik where
 fr:aA
 cs:ae aA
 w:ax
def ik.on(x:ik)(t:Nat->Question->Nat)(d:Nat):fT:=lone x.fr x.cs (re x.w t d)
def wW(L:aD)(R:ag->ax->Prop)(m:fT):Prop:=∃a w v,m=lone a [hY L] w/\a.leaving L w (.returned v)/\R v w
def Reach(L:aD)(R:ag->ax->Prop)(m:fT):Prop:=∃n a,dG L n m=.next a/\wW L R a
theorem wc{L}{a}{m c}(h:dG L a m=.next c)(b):dG L (a+b) m=dG L b c:=by rw[runN_add,h]
theorem runN_ended{L}{a}{m}{o}{w}(h:dG L a m=.ended o w)(b):dG L (a+b) m=.ended o w:=by rw[runN_add,h]
theorem ayj{L}{w}{v}:∃o a,step L (lone ((hY L).finish v) [] w)=.ended o a:=by
 have h:(aE L U {frame:=(hY L).finish v,callers:=[],status:=.running,dying:=I} w).bare=.ended (.stuck ("no extern row "++ "fmt's door: none") (((hY L).finish v).pos L)) w:=by
  simp only[hY];rfl
 exact⟨_,_,step_lone_ended h⟩
theorem wW.ends{L}{R}{m}(h:wW L R m):∃b w o a,dG L 1 m=.next (lone b [] w)/\dG L 2 m=.ended o a:=by
 obtain⟨b,w,v,rfl,f,_⟩:=h;obtain⟨o,a,e⟩:=ayj (L:=L) (w:=w) (v:=v);have d:=step_leave_returned (c:=hY L) (cs:=[]) f;exact⟨(hY L).finish v,w,o,a,by simp only[dG,d],by simp only[dG,d,e]⟩
def ku(L:aD)(x y:ik)(k n:Nat)(a:Nat->Question->Nat):Prop:=∀t d,(∀i,i<n->∀q,t (d+i) q=a i q)->dG L k (x.on t d)=.next (y.on t (d+n))
def Mn(L:aD)(R:ag->ax->Prop)(x:ik)(a:Nat->Question->Nat):Prop:=∃t d,(∀i q,t (d+i) q=a i q)/\Reach L R (x.on t d)
def WC(L:aD)(x y:ik)(k n:Nat):Prop:=∀t d,(∀i,i<n->∀q,t (d+i) q=x.w.tape (x.w.drawn+i) q)->dG L k (x.on t d)=.next (y.on t (d+n))
def afk(L:aD)(R:ag->ax->Prop)(x:ik):Prop:=∃t d,(∀i q,t (d+i) q=x.w.tape (x.w.drawn+i) q)/\Reach L R (x.on t d)
section
variable {σ:Type}{L:aD}{R:ag->ax->Prop}{Inv Fin:σ->Prop}{cu:σ->ik}{Real:σ->σ->Prop}{x0:ik}
structure IY(L:aD)(Inv:σ->Prop)(cu:σ->ik)(Real:σ->σ->Prop)(x0:ik)(s0:σ)where
 s:σ
 k:Nat
 n:Nat
 yQ:Nat->Question->Nat
 inv:Inv s
 real:Real s0 s
 run:∀t,(∀i,i<n->∀q,t i q=yQ i q)->dG L k (x0.on t 0)=.next ((cu s).on t n)
theorem IY.sF{B}(h:IY L Inv cu Real x0 B)(z:∀s,Inv s->(cu s).cs≠[])(p:∀t d,Reach L R (x0.on t d))(a):Mn L R (cu h.s) a:=by
 let t:=λi q=>if i<h.n then h.yQ i q else a (i-h.n) q
 have y:∀i,i<h.n->∀q,t i q=h.yQ i q:=λi v q=>by simp[t,v]
 have j:∀i q,t (h.n+i) q=a i q:=λi q=>by
  grind
 refine⟨t,h.n,j,?_⟩;have c:=h.run t y;obtain⟨n,A,e,g⟩:=p t 0;have x:h.k<=n:=by
  refine Nat.le_of_not_lt λaC=>?_;obtain⟨C,w,o,D,k,l⟩:=g.ends;by_cases u:h.k=n+1
  ·rw[u,wc e,k]at c
   have f:(cu h.s).cs=[]:=by
    have:=congrArg (λm:fT=>(m.gs[0]?).map (·.callers)) (Stepped.next.inj c);simpa[ik.on,lone]using this.symm
   exact z _ h.inv f
  ·obtain⟨b,r⟩:∃b,h.k=n+2+b:=⟨h.k-(n+2),by omega⟩
   rw[r,runN_ended]at c
   ·cases c
   ·rw[wc e,l]
 obtain⟨b,rfl⟩:∃b,n=h.k+b:=⟨n-h.k,by omega⟩;rw[wc c]at e;exact⟨b,A,e,g⟩
theorem avh(f)(refl:Real f f)(trans:∀a b,Real f a->Real a b->Real f b)(V:∀s,Inv s->(cu s).cs≠[])
  (p:Inv f)(S:cu f=x0)(x:∀t d,Reach L R (x0.on t d))
  (H:∀s,Inv s->¬Fin s->(∀a,Mn L R (cu s) a)->∃r k n a,Inv r/\Real s r/\0<k/\ku L (cu s) (cu r) k n a):
  ∃s,Real f s/\Inv s/\Fin s/\∀a,Mn L R (cu s) a:=by
 refine Classical.byContradiction λE=>?_;have next:∀h:IY L Inv cu Real x0 f,∃v:IY L Inv cu Real x0 f,h.k<v.k/\h.n<=v.n/\∀i,i<h.n->∀q,v.yQ i q=h.yQ i q:=λh=>by
  have z:=h.sF V x;have m:¬Fin h.s:=λm=>E ⟨h.s,h.real,h.inv,m,z⟩;obtain⟨r,k,n,a,J,M,O,K⟩:=H _ h.inv m z;let C:Nat->Question->Nat:=λi q=>if i<h.n then h.yQ i q else a (i-h.n) q
  refine⟨⟨r,h.k+k,h.n+n,C,J,trans _ _ h.real M,λt ha=>?_⟩,by simp_all,by simp,λi p q=>by simp[C,p]⟩;have u:=h.run t λi p q=>by grind
  rw[wc u];exact K t _ λi p q=>by
   grind
 let nx:=λh=>Classical.choose (next h);have O:=λh=>(Classical.choose_spec (next h)).1;have hn:=λh=>(Classical.choose_spec (next h)).2.1;have hh:=λh=>(Classical.choose_spec (next h)).2.2;let e:Nat->IY L Inv cu Real x0 f:=λi=>Nat.rec ⟨f,0,0,λ_ _=>0,p,refl,λt _=>by rw[S];rfl⟩ (λ_ h=>nx h) i;have sk:∀i,i<=(e i).k:=λi=>by
  induction i with
  |zero=>exact gJ _
  |succ i T=>grind
 have l:∀a b,(e a).n<=(e (a+b)).n/\∀i,i<(e a).n->∀q,(e (a+b)).yQ i q=(e a).yQ i q:=λa b=>by
  induction b with
  |zero=>simp
  |succ b T=>grind
 let t:Nat->Question->Nat:=λj q=>@dite _ (∃i,j<(e i).n) (Classical.propDecidable _) (λh=>(e (Classical.choose h)).yQ j q) (λ_=>0);have Q:∀i j,j<(e i).n->∀q,t j q=(e i).yQ j q:=λi j A q=>by
  have g:∃i,j<(e i).n:=⟨i,A⟩;have u:t j q=(e (Classical.choose g)).yQ j q:=by
   simp only[t];rw[dif_pos g]
  rw[u];have y:=Classical.choose_spec g;generalize Classical.choose g=c at y;by_cases P:c<=i
  ·obtain⟨b,rfl⟩:∃b,i=c+b:=⟨i-c,by omega⟩
   exact((l c b).2 j y q).symm
  ·obtain⟨b,rfl⟩:∃b,c=i+b:=⟨c-i,by omega⟩
   exact(l i b).2 j A q
 obtain⟨n,m',D,m⟩:=x t 0;obtain⟨X,w,o,W,u,G⟩:=m.ends;have B:=(e (n+2)).run t (Q (n+2));obtain⟨b,N⟩:∃b,(e (n+2)).k=n+2+b:=⟨(e (n+2)).k-(n+2),by simp_all⟩;rw[N,runN_ended (o:=o) (w:=W)]at B
 ·cases B
 ·rw[wc D,G]
end
end
section
open Go.Conc (G)
def lu(g:aH)(w:ax):fT:={world:=w,gs:=#[g],rest:={timers:=#[],alone:=I,slice:=I}}
section
variable {L:aD}{R:ag->ax->Prop}
theorem ad9{w:ax}(h:g.status=.blocked):∃o d,step L (lu g w)=.ended o d:=by
 have b:∃a c,move L (lu g w)=(match endWith c 2 (bytes ("fatal error: "++a++ "\n")) (.fatal a)with
   |.ended o w _=>.machine (.ended o w)
   |_=>.machine (.ended (.stuck "" "") default)):=by
  refine⟨ "all goroutines are asleep - deadlock!",w,?_⟩;simp[move,ask,askOn,lu,runnable_eq,due,ahead,Goroutine.canRun,List.range_succ,pure,bP,h];rfl
 obtain⟨a,c,b⟩:=b;unfold step stepT;rw[b];cases endWith c 2 (bytes ("fatal error: "++a++ "\n")) (.fatal a)<;>exact⟨_,_,F⟩
theorem ayk{w:ax}(h:g.status=.waiting):step L (lu g w)=.next (lu g w):=by
 have a:move L (lu g w)=.machine (.next (lu g w)):=by
  simp[move,ask,askOn,lu,runnable_eq,due,ahead,Goroutine.canRun,List.range_succ,pure,bP,h]
 unfold step stepT;rw[a]
theorem abj{w:ax}(h:g.status=.running):move L (lu g w)=.goroutine (lu g w) 0:=by
 simp[move,ask,askOn,lu,runnable_eq,due,ahead,Goroutine.canRun,List.range_succ,choose,pure,bP,Question.forced,h]
theorem LG{a:aH}{w b:ax}{es:af dR}(h:g.status=.running)(c:aE L U g w=.go a b es)(d:a.status≠.finished):step L (lu g w)=.next (lu a b):=by
 rw[step,stepT,abj h];simp[runT,lu,Array.swapAt!,c]
theorem aea{w a:ax}{o:Outcome}{es:af dR}(h:g.status=.running)(b:aE L U g w=.ended o a es):step L (lu g w)=.ended o a:=by
 rw[step,stepT,abj h];simp[runT,lu,Array.swapAt!,b]
theorem ah5{w:ax}(h:Mh g):(∃o e,step L (lu g w)=.ended o e)\/∃i e,Mh i/\step L (lu g w)=.next (lu i e):=by
 rcases h with⟨h,_⟩|⟨h,l⟩|⟨h,d,f,j,b,k⟩
 ·exact .inl (ad9 h)
 ·exact .inr ⟨g,w,.inr (.inl ⟨h,l⟩),ayk h⟩
 ·have a:aE L U g w=writeOn L g.frame d f w:=by
   obtain⟨v,q,A,s,m⟩:=g;obtain⟨B,C,p,pe,z,y,t⟩:=d;simp only at j b k;subst j b k;unfold aE;simp only[die]
  unfold writeOn at a;cases hp:f.pieces with
  |nil=>
   simp only[hp]at a;exact .inl ⟨_,_,aea h a⟩
  |cons c rest=>
   simp only[hp]at a;revert a;generalize (nM L _ w #[]:Result Unit×af dR)=r;intro a;obtain⟨r,es⟩:=r;cases r with
   |ok u n=>exact .inr ⟨_,_,.inr (.inr ⟨F,{d with fatal:=Z {f with pieces:=rest,begun:=U}},_,F,b,F⟩),LG h a ba⟩
   |halt x n=>
    cases x with
    |blocked=>exact .inr ⟨_,_,.inl ⟨F,F⟩,LG h a ba⟩
    |_=>exact .inl ⟨_,_,aea h a⟩
theorem QS{w:ax}(h:Mh g):¬Reach L R (lu g w):=by
 rintro⟨n,p,a,b,q,v,rfl,_⟩;induction n generalizing g w with
 |zero=>
  simp only[dG,yc]at a;have i:g={frame:=b,callers:=[hY L],status:=.running,dying:=I}:=by
   have:=congrArg (λm:fT=>m.gs[0]?) a;simpa[lu,lone]using this
  subst i;rcases h with⟨h,_⟩|⟨h,_⟩|⟨_,d,f,h,_⟩<;>cases h
 |succ n j=>
  simp only[dG]at a;rcases ah5 (L:=L) (w:=w) h with⟨o,k,e⟩|⟨l,k,c,e⟩
  ·rw[e]at a;cases a
  ·rw[e]at a
   exact j c a
def OF:ae aJ->Bool
 |.call .. ::_=>Y
 |_=>U
structure tw(P:aD)(fr:aA):Prop where
 defers:∀d∈fr.defers,lV P d
 head:OF fr.todo=U
 chain:∀ch,fr.mode=.panicking ch->∀e∈ch,e.recovered=Y
inductive Below(P L:aD):ae aA->Prop
 |last:Below P L [hY L]
 |cons {a:aA} {l:ae aA} (h:tw P a) (hl:Below P L l):Below P L (a::l)
inductive IP(P L:aD):aA->ae aA->Prop
 |top {fr:aA} {cs:ae aA} (h:tw P fr) (hm:∃ch,fr.mode=.panicking ch) (hl:Below P L cs):IP P L fr cs
 |out {ch:ae PanicEntry}:IP P L ((hY L).raise ch) []
def iW(P:aD)(w:ax):Prop:=∀(b:Nat)(a:ae cz),w.heap[b]?=Z (.deferred (Z a))->∀d∈a,lV P d
def Jc(P L:aD)(R:ag->ax->Prop):Prop:=∀f,xw P f=U->(∀x(w:ax),(gC f x).runT L w #[]=(.ok (.enter f x) w,#[]))/\
 ∀b a l w n c,tw P a->(∃i,a.mode=.panicking i)->Below P L l->iW P w->dG L n (lone (bO L f b .deferred) (a::l) w)=.next c->wW L R c->∃e d g h,e<=n/\dG L e (lone d g h)=.next c/\IP P L d g/\iW P h
variable {P:aD}
theorem Rel.tY{Hid:Loc->Prop}{w W:ax}(h:Rel (bS P) Hid w W):iW P w:=λb g c d e=>by
 obtain⟨O,_,a⟩:=h.obj _ _ c;cases a with
 |same _ f=>exact f d e
theorem raise_mode(b:aA)(c:ae PanicEntry):∃a,(b.raise c).mode=.panicking a:=by
 unfold Frame.raise;split<;>exact⟨_,F⟩
theorem tw.raise{b:aA}(h:tw P b){d:ae PanicEntry}(c:∀e∈d,e.recovered=Y):tw P (b.raise d):=by
 unfold Frame.raise;split
 ·rename_i a g
  exact⟨h.defers,h.head,λf e=>by cases e;exactλx i=>(pz.1 i).elim (c x) (h.chain _ g x)⟩
 ·exact⟨h.defers,h.head,λf e=>by cases e;exact c⟩
theorem fe{fr t:aA}{cs c:ae aA}{w w':ax}{es:af dR}(h:aE L U (G fr cs) w=dZ t c w' es):step L (lone fr cs w)=.next (lone t c w'):=step_lone_go (by
                                                                                                                                  have:aE L U {frame:=fr,callers:=cs,status:=.running,dying:=I} w=dZ t c w' es:=h;rw[this];rfl)
theorem Cq{fr:aA}{cs:ae aA}{w:ax}(h:u6 (aE L U (G fr cs) w)=U):∃o a,step L (lone fr cs w)=.ended o a:=by
 cases hs:aE L U (G fr cs) w<;>rw[hs]at h<;>first|exact absurd h jL|skip
 rename_i o a es;exact⟨o,a,step_lone_ended (by
  have:aE L U {frame:=fr,callers:=cs,status:=.running,dying:=I} w=.ended o a es:=hs;rw[this];rfl)⟩
theorem ayL{c:ae cz}{w f:ax}(h:iW P w)(e:(qd b).run L w=.ok c f):(∀d∈c,lV P d)/\iW P f:=by
 unfold qd at e;have j:∀k:Obj->Sem (ae cz),(j4 b>>=k).run L w=(wP b k).run L w:=λ_=>rfl;rw[j]at e;unfold bP at e;cases hb:w.heap[b]? with
 |none=>rw[hb]at e;cases e
 |some o=>
  rw[hb]at e;cases o<;>first|(cases e;done)|skip
  rename_i r;cases r with
  |none=>cases e
  |some m=>
   have g:(Sem.setObj b (.deferred I) (.pure m)).run L w=.ok c f:=e;simp only[bP,hb]at g;cases g;refine⟨h b _ hb,λi l a=>?_⟩;simp only[uF]at a;split at a
   ·split at a<;>cases a
   ·exact h i l a
theorem QB(hU:Jc P L R):∀(n:Nat)(r:aA)(p:ae aA)(w:ax)(M:fT),IP P L r p->iW P w->dG L n (lone r p w)=.next M->¬wW L R M:=by
 intro n;induction n using Nat.strongRecOn with
 |_ n Q=>
 intro r p w M hb O B C;cases n with
 |zero=>
  simp only[dG,yc]at B;subst B;obtain⟨fp,E,v,he,K,_⟩:=C;have iZ:r=fp:=by
   have:=congrArg (λm:fT=>(m.gs[0]?).map (·.frame)) he;simpa[lone]using this
  subst iZ;have D:=K.1;cases hb with
  |top h N7 _=>obtain⟨k,z⟩:=N7;rw[z]at D;cases D
  |out=>obtain⟨T,z⟩:=raise_mode (hY L) ‹_›;rw[z]at D;cases D
 |succ n=>
  simp only[dG]at B;have next:∀{t:aA}{c:ae aA}{s:ax},step L (lone r p w)=.next (lone t c s)->dG L n (lone t c s)=.next M:=λ{t c s}e=>by rw[e]at B;exact B
  have q:(∃o s,step L (lone r p w)=.ended o s)->False:=λ⟨o,s,e⟩=>by rw[e]at B;cases B
  cases hb with
  |out=>
   rename_i k;refine q (Cq ?_);obtain⟨T,z⟩:=raise_mode (hY L) k;have e1:((hY L).raise k).defers=[]:=by unfold Frame.raise;split<;>rfl
   have e2:((hY L).raise k).catches L=U:=by
    have:((hY L).raise k).fn=L.funcs.size/\((hY L).raise k).todo=(hY L).todo:=by unfold Frame.raise;split<;>exact⟨F,F⟩
    unfold Frame.catches;rw[this.1,this.2];simp[hY]
   simp only[G,aE,z,lT,e1,e2,if_true];rfl
  |top h D K=>
   obtain⟨k,z⟩:=D;obtain⟨fn,i,j,u,β,g,y⟩:=r;simp only at z;subst z;have JV:Frame.catches L ⟨fn,i,j,[],.panicking k,g,y⟩=Y:=by
    unfold Frame.catches;simp only
    split
    ·have:=h.head;cases this
    ·rfl
   cases u with
   |nil=>
    cases K with
    |last=>
     have e:=fe (L:=L) (fr:=⟨fn,i,j,[],.panicking k,g,y⟩) (cs:=[hY L]) (w:=w) (t:=(hY L).raise k) (c:=[]) (w':=w) (es:=#[]) (by simp only[G,aE,lT,JV];rfl);exact Q n ah _ _ _ _ .out O (next e) C
    |@cons a l ha N=>
     have e:=fe (L:=L) (fr:=⟨fn,i,j,[],.panicking k,g,y⟩) (cs:=a::l) (w:=w) (t:=a.raise k) (c:=l) (w':=w) (es:=#[]) (by simp only[G,aE,lT,JV];rfl);exact Q n ah _ _ _ _ (.top (ha.raise (h.chain k F)) (raise_mode _ _) N) O (next e) C
   |cons d A=>
    have V:=h.defers d ba;have fH:∀x∈A,lV P x:=λx W=>h.defers x (eK _ W);obtain⟨tg,J⟩:=d;cases tg with
    |fn f c=>
     cases f with
     |func f=>
      obtain⟨S,H⟩:=hU f V;have e:=fe (L:=L) (fr:=⟨fn,i,j,{target:=.fn (.func f) c,args:=J}::A,.panicking k,g,y⟩) (cs:=p) (w:=w) (t:=bO L f (J++c) .deferred) (c:=⟨fn,i,j,A,.panicking k,g,y⟩::p) (w':=w)
       (es:=seen L fn #[]) (by simp only[G,aE,lT,callDeferred,invoke,S (J++c) w];simp[mx])
      obtain⟨n',fp,uO,E,γ,xn,X,dP⟩:=H (J++c) ⟨fn,i,j,A,.panicking k,g,y⟩ p w n M ⟨fH,h.head,h.chain⟩ ⟨_,F⟩ K O (next e) C;exact Q n' ah _ _ _ _ X dP xn C
     |_=>exact absurd V (by simp[lV])
    |collected b=>
     cases H:(qd b).run L w with
     |halt x E=>
      have N:(qd b).runT L w #[]=(.halt x E,(qd b).events L w #[]):=by rw[jN,H]
      exact q (Cq (by simp only[G,aE,lT,N];rfl))
     |ok v E=>
      have N:(qd b).runT L w #[]=(.ok v E,(qd b).events L w #[]):=by rw[jN,H]
      obtain⟨h1,h2⟩:=ayL O H;have e:=fe (L:=L) (fr:=⟨fn,i,j,{target:=.collected b,args:=J}::A,.panicking k,g,y⟩) (cs:=p) (w:=w) (t:=⟨fn,i,j,v++A,.panicking k,g,y⟩) (c:=p) (w':=E)
       (es:=seen L fn ((qd b).events L w #[])) (by simp only[G,aE,lT,N];simp[mx])
      have X:tw P ⟨fn,i,j,v++A,.panicking k,g,y⟩:=⟨λx W=>(pz.1 W).elim (h1 x) (fH x),h.head,h.chain⟩;exact Q n ah _ _ _ _ (.top X ⟨_,F⟩ K) h2 (next e) C
    |_=>exact absurd V (by simp[lV])
end
end
end
end Go.Proofs.YtgahemdblfapeaaGreatDoor
