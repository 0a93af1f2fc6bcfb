/- Helper lemmas, part 1: what the steps of the program do in the model; each holds under its own hypotheses. -/
import Derived.ChangeArms
import Derived.ChangeBook
import Derived.ChangeOld
import Derived.ChangeSame
import Derived.ChangeShapes
import Derived.ChangeStays
import Derived.Conc.Events
import Derived.Conc.HoldsTime
import Derived.Conc.Listed
import Derived.Conc.LoneCalls
import Derived.Conc.Own
import Derived.Conc.Pipeline3
import Derived.Conc.Token
import Derived.Conc.TokenWalk
import Derived.Conc.WgGenN3
import Derived.Control
import Derived.Deep.AppendLies
import Derived.Deep.Frames
import Derived.Defers
import Derived.Handed
import Derived.KernelRfl
import Derived.LaidEql
import Derived.LaidHandle
import Derived.LaidLaws
import Derived.Laws.MakeOwn
import Derived.Laws.Sem
import Derived.Laws.World
import Derived.Orders
import Derived.OrdersHeld
import Derived.RangeFuncRecord
import Derived.RunNT
import Derived.SevenTiedAt
import Derived.Shelf.SortM.Plain
import Derived.Shelf.SortM.SortNone
import Derived.SizedLaws
import Derived.Sort.OwnSortedInts
import Derived.StepT
import Derived.StillTail
import Derived.Stop.Asserts
import Derived.Stop.Joined
import Derived.Test.YtgahemdblfapeaaGreatDoorCards
import Derived.Test.YtgahemdblfapeaaGreatDoorChecked
import Derived.Test.YtgahemdblfapeaaGreatDoorTie
import Derived.WalkKit
set_option maxRecDepth 100000
set_option maxHeartbeats 4000000
set_option linter.all false
namespace Go.Proofs.YtgahemdblfapeaaGreatDoor
open Go.Conc
open _root_.Array renaming append_assoc→Da,ext_getElem?→yI,getElem?_eq_getElem→wZ,getElem?_eq_none_iff→Aa,getElem?_eq_some_iff→gG,getElem?_map→yJ,getElem?_modify→Fs,getElem?_push→Ft,getElem?_setIfInBounds→tJ,getElem?_setIfInBounds_ne→ie,getElem?_setIfInBounds_self_of_lt→kC,replicate→pG,size_setIfInBounds→pH
open _root_.Bool renaming and_eq_true→ig,false→Y,false_eq_true→kg,false_ne_true→jQ,true→U
open _root_.Classical renaming byContradiction→Ko
open Go renaming Addr→aR,CallKind→dD,Code→bl,Deferred→bV,Event→cX,Frame→az,Func→dF,FuncId→bA,Goroutine→aH,Item→aK,Machine→fg,Oper→bh,Operand→gU,Program→aA,Trace→dJ,TypeId→aJ,Value→ag,World→au,callFunc→gz,commResult→qp,deafBehind→gW,doReturn→rh,eqGuard→kX,execOp→cu,getObj→jZ,runN→di,runNT→iz,stepG→aG,undef→aC,unwind→lU
open Go.Conc renaming Deaf→dU,Deaf_other→mX,getElem?_append_cases→kY,heap_setChan_ne→mM,heap_setChan_self→oE,lt_size_of_getElem?→HB,mem_ofEvents→jY,mem_seen→BF,offersAt_of_not_blocked→sM,runNT_then→kG,runT_crowd_go→vJ,served→jz,touchAt_of→sN,touch_of→nR,woken→eM
open Go.Deferred renaming ofValue→Db
open Go.Frame renaming enter→bG,eval→bJ,finish→jd
open Go.GStep renaming after→kF
open Go.Instr renaming endLoop→uv,endRound→vE,enterLoop→pI,fieldAt→sH,loadAt→sI,sliceAt→vF,sliceBound→xa,takeDeferred→pJ
open Go.MemAct renaming ofEvent→gy,touch?→lS
open Go.MemOp renaming ofEvents→db
open Go.Next renaming value→lT
open Go.Proofs.Tryz renaming prog→ak
open Go.Region renaming ready→nq,schedule→sL,wanted→vH
open Go.Sem renaming getObj→vI,pure→ayU,run→bx,runT→nt,runT_eq→jR,runT_fst→xe,run_bind→oD,run_bind'→yQ
open Go.Stepped.next renaming injEq→xf
open Go.World renaming cell?→fR,frozen?→pN,shape?→fD
open Go.stepG renaming apply→ik,exec→bE
open _root_.List renaming getElem?_eq_getElem→dq,mem_append→Ad,mem_cons→bQ,mem_cons_of_mem→eK,mem_map→ox,mem_singleton→yL,mem_toArray→jA,not_mem_nil→gk,range→oz
open _root_.Nat renaming add_assoc→yO,le_refl→df,le_trans→sK,lt_of_lt_of_le→ayS,zero_le→je
open _root_.Option renaming bind_eq_some_iff→m4,bind_some→vG,getD_some→pM,map_eq_some_iff→gV,map_some→iy,none→I,some→Z
open _root_.Option.some renaming inj→dQ,injEq→ij
open _root_.Prod.mk renaming injEq→fK
section
variable {b:Nat}{n:Next}{p:Prop}{s:Sem Next}{m:String}{P:aA}{g:aH}{t:aJ}{a:aR}{v x z:ag}{W e w:au}
abbrev ae.{u} (a:Type u):=List a
abbrev af.{u} (a:Type u):=Array a
abbrev aj.{u} (a:Type u):=Option a
theorem F.{u} {a:Sort u} {b:a}:b=b:=rfl
theorem ai(h:p:=by omega):p:=h
theorem av(h:p:=by kernel_rfl):p:=h
theorem aX(h:p:=by decide):p:=h
theorem aZ(h:p:=by simp):p:=h
structure eu(St:Nat->Loc->Prop)(Shun:Loc->Prop)(At:Nat->Loc->Prop)(Mem kl:Nat->Prop)(B:Nat)(Kn:Nat->Prop)(t:dJ):Prop where
 clean:∀said,¬Race said t
 known:∀i a,touchAt t i=Z a->a.loc.isMemory=U->Kn i\/(a.write=Y/\∃g,t.g? i=Z g/\kl g/\St g a.loc)\/(Shun a.loc/\a.kind=.atomic/\¬t.heard i)
 wrote:∀i a,touchAt t i=Z a->a.write=U->∀g,Mem g->St g a.loc->Knows t g i
 hears:∀g,Mem g->dU t g=0
 seen:∀op∈t,op.act.low B
 apart:∀g l,St g l->¬Shun l
 plain:∀i a,touchAt t i=Z a->a.kind=.plain->a.loc.isMemory=U->Shun a.loc->∀g,At g a.loc->Knows t g i
section
variable {St HT:Nat->Loc->Prop}{Shun X:Loc->Prop}{At Oh:Nat->Loc->Prop}{Mem Mem' kl W:Nat->Prop}{B h j:Nat}{Kn vO:Nat->Prop}{t u:dJ}
theorem eu.mono{a}(H:eu St Shun At Mem kl B Kn t)(c:B<=a):eu St Shun At Mem kl a Kn t:=⟨H.clean,H.known,H.wrote,H.hears,λd b=>MemAct.low_mono c (H.seen _ b),H.apart,H.plain⟩
theorem eu.fewer(H:eu St Shun At Mem kl B Kn t)(c:∀g,Mem' g->Mem g):eu St Shun At Mem' kl B Kn t:=⟨H.clean,H.known,λi a e f g b d=>H.wrote i a e f g (c g b) d,λg b=>H.hears g (c g b),H.seen,H.apart,H.plain⟩
theorem eu.loosen(H:eu St Shun At Mem kl B Kn t)(b:∀g,kl g->W g):eu St Shun At Mem W B Kn t:=⟨H.clean,λi a c f=>(H.known i a c f).imp id (.imp (λ⟨x,g,d,e,k⟩=>⟨x,g,d,b g e,k⟩) id),H.wrote,H.hears,H.seen,H.apart,H.plain⟩
theorem eu.places(H:eu St Shun At Mem kl B Kn t)(v:∀g l,kl g->St g l->HT g l)(A:∀g,Mem g->∀l,HT g l->St g l\/∀i a,touchAt t i=Z a->a.write=U->a.loc=l->Knows t g i)(d:∀l,Shun l->X l)(y:∀g l,HT g l->¬X l)(s:∀g l,Oh g l->X l->At g l/\Shun l):eu HT X Oh Mem kl B Kn t:=
 ⟨H.clean,λi a c e=>(H.known i a c e).imp id (.imp (λ⟨x,g,b,k,f⟩=>⟨x,g,b,k,v g _ k f⟩) λ⟨p,q,r⟩=>⟨d _ p,q,r⟩),
  λi a c m g b w=>(A g b _ w).elim (H.wrote i a c m g b) λC=>C i a c m F,H.hears,H.seen,y,λi a c z e f g b=>let⟨n,o⟩:=s g _ b f;H.plain i a c z e o g n⟩
theorem eu.old_known(H:eu St Shun At Mem kl B Kn t)(d:∀i,Kn i->vO i){i}{a}{x}(b:t[i]?=Z x)(c:x.act.touch?=Z a)(k:a.loc.isMemory=U):vO i\/(a.write=Y/\∃g,(t++u).g? i=Z g/\kl g/\St g a.loc)\/(Shun a.loc/\a.kind=.atomic/\¬(t++u).heard i):=
 (H.known i a (by rw[sN b];exact c) k).imp (d i) (.imp (λ⟨p,g,e,f,l⟩=>⟨p,g,by rw[g?_old (HB b)];exact e,f,l⟩)
   λ⟨p,q,r⟩=>⟨p,q,by rw[heard_old (HB b)];exact r⟩)
theorem eu.old_hears{g}(H:eu St Shun At Mem kl B Kn t)(d:∀f∈u,f.g=g)(c:Mem g->dU (t++u) g=dU t g):∀a,Mem a->dU (t++u) a=0:=λa b=>by
 by_cases e:a=g
 ·subst e;exact(c b).trans (H.hears _ b)
 ·exact(mX t (λx=>e x.symm) u d).trans (H.hears _ b)
theorem eu.JM(H:eu St Shun At Mem kl B Kn t)(q:∀o∈u,∀b,o.act.touch?=Z b->Shun b.loc->b.kind≠.plain):∀i a,touchAt (t++u) i=Z a->a.kind=.plain->a.loc.isMemory=U->Shun a.loc->∀g,At g a.loc->Knows (t++u) g i:=λi a e l k m g f=>by
 obtain⟨x,n,d⟩:=nR e;rcases kY n with⟨_,c⟩|⟨_,p⟩
 ·exact(H.plain i a (by rw[sN c];exact d) l k m g f).app u
 ·grind
theorem eu.mute(H:eu St Shun At Mem kl B Kn t)(n:∀i,Kn i->vO i)(s:∀c∈u,c.act.touch?=I)(p:∀g,Mem g->dU (t++u) g=0)(q:∀c∈u,c.act.low B):eu St Shun At Mem kl B vO (t++u):=by
 refine⟨λl=>noRace_appendMute (H.clean _) s,λi a f r=>?_,λi a f v z w o=>?_,p,seen_app H.seen q,H.apart,H.JM λc y b A=>by simp_all⟩
 ·obtain⟨x,k,e⟩:=nR f
  rcases kY k with⟨_,d⟩|⟨_,m⟩
  ·exact H.old_known n d e r
  ·simp_all
 ·obtain⟨x,k,e⟩:=nR f
  rcases kY k with⟨_,d⟩|⟨_,m⟩
  ·exact(H.wrote i a (by rw[sN d];exact e) v _ w o).app u
  ·simp_all
theorem eu.appMute{g}(H:eu St Shun At Mem kl B Kn t)(b:∀i,Kn i->vO i)(f:∀a∈u,a.g=g)(e:∀a∈u,a.act.touch?=I)(c:Mem g->dU (t++u) g=dU t g)(d:∀a∈u,a.act.low B):eu St Shun At Mem kl B vO (t++u):=H.mute b e (H.old_hears f c) d
theorem eu.appRead{g}(H:eu St Shun At Mem kl B Kn t)(v:∀i,Kn i->vO i)(C:Mem g)(w:kl g)(p:∀c∈u,c.g=g)(k:∀c∈u,∀b,c.act.touch?=Z b->b.write=Y/\St g b.loc)(A:dU (t++u) g=dU t g)(D:∀c∈u,c.act.low B):eu St Shun At Mem kl B vO (t++u):=by
 refine⟨λr=>noRace_append (H.clean _) p λi a e c m b o q=>?_,λi a e E=>?_,λi a e J L K y=>?_,H.old_hears p (λ_=>A),seen_app H.seen D,H.apart,H.JM λc m b o G=>absurd G (H.apart g _ (k _ m b o).2)⟩
 ·obtain⟨z,s⟩:=k _ m b o
  rcases q.2.2.1 with x|x
  ·exact H.wrote i a e x g C (q.1▸s)
  ·simp_all
 ·obtain⟨x,l,d⟩:=nR e
  rcases kY l with⟨_,n⟩|⟨_,f⟩
  ·exact H.old_known v n d E
  ·exact .inr (.inl ⟨(k x f a d).1,g,by rw[g?_of l,p x f],w,(k x f a d).2⟩)
 ·obtain⟨x,l,d⟩:=nR e
  rcases kY l with⟨_,n⟩|⟨_,f⟩
  ·exact(H.wrote i a (by rw[sN n];exact d) J _ K y).app u
  ·grind
def As(St:Nat->Loc->Prop)(Shun:Loc->Prop)(b:Touch):Prop:=(∀g,St g b.loc->b.write=Y)/\(Shun b.loc->b.kind≠.plain)
theorem BO(H:eu St Shun At Mem kl B (Knows t h) t)(v:∀c∈u,c.g=h)(p:∀c∈u,∀b,c.act.touch?=Z b->As St Shun b)(y:Mem h->dU (t++u) h=dU t h)(C:∀c∈u,c.act.low B):eu St Shun At Mem kl B (Knows (t++u) h) (t++u):=by
 refine⟨λw=>noRace_append (H.clean _) v λi a e c m b o k=>?_,λi a e D=>?_,λi a e l g z d=>?_,H.old_hears v y,seen_app H.seen C,H.apart,H.JM λc m b o=>(p _ m b o).2⟩
 ·rcases H.known i a e k.2.1 with A|⟨l,g,_,_,d⟩|⟨d,E,_⟩
  ·exact A
  ·have f:=(p _ m b o).1 g (k.1▸d)
   rcases k.2.2.1 with x|x
   ·rw[l]at x;cases x
   ·simp_all
  ·have f:=(p _ m b o).2 (k.1▸d)
   rcases k.2.2.2 with x|x|⟨_,x,_⟩
   ·simp_all
   ·exact absurd x f
   ·simp_all
 ·obtain⟨x,q,n⟩:=nR e
  rcases kY q with⟨_,r⟩|⟨_,s⟩
  ·exact H.old_known (λi=>Knows.app u) r n D
  ·have:=knows_own q
   rw[v x s]at this;exact .inl this
 ·obtain⟨x,q,n⟩:=nR e
  rcases kY q with⟨_,r⟩|⟨_,s⟩
  ·exact(H.wrote i a (by rw[sN r];exact n) l g z d).app u
  ·rw[(p x s a n).1 g d]at l;cases l
theorem eu.give(H:eu St Shun At Mem kl B (Knows t h) t)(K:Mem h)(L:Mem j)(f)(ph)(l)(m){c}(k d)(J:c<B):eu St Shun At Mem (λg=>kl g/\g≠j) B (Knows (t++met h j f ph l m c k d) j) (t++met h j f ph l m c k d):=by
 have O:=met_mute h j f ph l m c k d;have z:=met_quiet h j f ph l m c k d;have v:(t++met h j f ph l m c k d)[t.size]?=Z {g:=h,fn:=f,pos:=ph,act:=.send c k}:=by simp[met]
 have w:(t++met h j f ph l m c k d)[t.size+3]?=Z {g:=j,fn:=l,pos:=m,act:=.recvDone c k}:=by simp[met]
 have D:HappensBefore (t++met h j f ph l m c k d) t.size (t.size+3):=Relation.TransGen.single (.inr ⟨.handOver (act?_of v) (act?_of w),⟨h,g?_of v,by rw[deaf_old (df _)];exact H.hears h K⟩,⟨j,g?_of w,by rw[deaf_quiet (z j) 3 (by simp[met])];exact H.hears j L⟩⟩);refine⟨λC=>noRace_appendMute (H.clean _) O,λi a y N=>?_,λi a y P g n G=>?_,λg n=>(Deaf_quiet (z g)).trans (H.hears g n),seen_app H.seen λQ q=>?_,H.apart,H.JM λQ q b R=>by simp_all⟩
 ·obtain⟨x,o,s⟩:=nR y
  rcases kY o with⟨S,r⟩|⟨_,E⟩
  ·rcases H.old_known (u:=met h j f ph l m c k d) (λ_ x=>x) r s N with M|⟨p,g,n,T,A⟩|A
   ·exact .inl ⟨t.size+3,_,w,rfl,.inr ((M.hb_new (df _) v rfl).trans D)⟩
   ·by_cases e:g=j
    ·subst e
     have:=knows_own o;rw[show x.g=g from by have:=g?_of o;rw[n]at this;exact(dQ this).symm]at this;exact .inl this
    ·simp_all
   ·exact .inr (.inr A)
  ·simp_all
 ·obtain⟨x,o,s⟩:=nR y
  rcases kY o with⟨_,r⟩|⟨_,E⟩
  ·exact(H.wrote i a (by rw[sN r];exact s) P g n G).app _
  ·simp_all
 ·simp only[met,jA,bQ,gk,or_false]at q
  rcases q with rfl|rfl|rfl|rfl<;>exact J
theorem eu.hire{c}{Sc Ac:Loc->Prop}(H:eu St Shun At Mem kl B (Knows t h) t)(R:Mem h)(P:¬Mem c)(Q:∀l,St c l->Sc l)(K:dU t c=0)(O:∀l,Sc l->¬Shun l)(hw:∀i a,touchAt t i=Z a->a.write=U->Sc a.loc->Knows t h i)(V:∀i a,touchAt t i=Z a->a.kind=.plain->a.loc.isMemory=U->Shun a.loc->Knows t h i)(A)(ph)(z):eu (λg l=>if g=c then Sc l else St g l) Shun (λg l=>if g=c then Ac l else At g l) (λg=>Mem g\/g=c) (λg=>kl g\/g=c) B (Knows (t++#[{g:=h,fn:=A,pos:=ph,act:=.go c},{g:=c,fn:=z,pos:=ph,act:=.start}]) h) (t++#[{g:=h,fn:=A,pos:=ph,act:=.go c},{g:=c,fn:=z,pos:=ph,act:=.start}]):=by
 generalize m:(#[{g:=h,fn:=A,pos:=ph,act:=.go c},{g:=c,fn:=z,pos:=ph,act:=.start}]:dJ)=u;have T:∀n∈u,n.act.touch?=I:=by
  intro n b;subst m;simp only[jA,bQ,gk,or_false]at b;rcases b with rfl|rfl<;>rfl
 have J:∀g,∀n∈u,∀d,deafStep g d n=d:=by
  intro g n b d;subst m;simp only[jA,bQ,gk,or_false]at b;rcases b with rfl|rfl<;>rfl
 have y:(t++u)[t.size]?=Z {g:=h,fn:=A,pos:=ph,act:=.go c}:=by subst m;simp
 have r:(t++u)[t.size+1]?=Z {g:=c,fn:=z,pos:=ph,act:=.start}:=by subst m;simp
 have E:HappensBefore (t++u) t.size (t.size+1):=Relation.TransGen.single (.inr ⟨.spawn (act?_of y) (act?_of r) (g?_of r),⟨h,g?_of y,by rw[deaf_old (df _)];exact H.hears h R⟩,⟨c,g?_of r,by rw[deaf_quiet (J c) 1 (by subst m;simp)];exact K⟩⟩);refine⟨λM=>noRace_appendMute (H.clean _) T,λi a v C=>?_,λi a v L g f k=>?_,λg f=>(Deaf_quiet (J g)).trans (f.elim (H.hears g) λe=>e▸K),seen_app H.seen λn b=>?_,λg l k=>?_,λi a v N C D g f=>?_⟩
 ·obtain⟨x,w,q⟩:=nR v
  rcases kY w with⟨_,o⟩|⟨_,G⟩
  ·refine(H.old_known (λi=>Knows.app u) o q C).imp id (.imp (λ⟨p,g,f,S,D⟩=>⟨p,g,f,.inl S,?_⟩) id)
   show if g=c then Sc a.loc else St g a.loc
   by_cases e:g=c
   ·simp_all
   ·simp_all
  ·simp_all
 ·obtain⟨x,w,q⟩:=nR v
  rcases kY w with⟨_,o⟩|⟨_,G⟩
  ·have s:touchAt t i=Z a:=by rw[sN o];exact q
   by_cases e:g=c
   ·subst e
    rw[if_pos rfl]at k;exact⟨t.size+1,_,r,rfl,.inr (((hw i a s L k).hb_new (df _) y rfl).trans E)⟩
   ·rw[if_neg e]at k
    exact(H.wrote i a s L g (f.resolve_right e) k).app u
  ·simp_all
 ·subst m
  simp only[jA,bQ,gk,or_false]at b;rcases b with rfl|rfl<;>trivial
 ·by_cases e:g=c
  ·simp_all
  ·rw[if_neg e]at k;exact H.apart g l k
 ·obtain⟨x,w,q⟩:=nR v
  rcases kY w with⟨_,o⟩|⟨_,G⟩
  ·have s:touchAt t i=Z a:=by rw[sN o];exact q
   by_cases e:g=c
   ·subst e
    exact⟨t.size+1,_,r,rfl,.inr (((V i a s N C D).hb_new (df _) y rfl).trans E)⟩
   ·rw[if_neg e]at f
    exact(H.plain i a s N C D g f).app u
  ·simp_all
theorem eu.adv{g}(H:eu St Shun At Mem kl B Kn t)(A:∀i,Kn i->vO i)(v:∀c∈u,c.g=g)(s:∀c∈u,∀b,c.act.touch?=Z b->b.kind=.atomic/\Shun b.loc/\At g b.loc)(L:∀i x,t.size<=i->(t++u)[i]?=Z x->x.act.touch?≠I->¬(t++u).heard i)(C:¬Mem g)(D:∀c∈u,c.act.low B):eu St Shun At Mem kl B vO (t++u):=by
 refine⟨λw=>noRace_append (H.clean _) v λi a d c n b r f=>?_,λi a d l=>?_,λi a d E J G q=>?_,H.old_hears v (λl=>absurd l C),seen_app H.seen D,H.apart,H.JM λc n b r _=>by grind⟩
 ·obtain⟨p,y,z⟩:=s _ n b r
  rcases f.2.2.2 with x|x|⟨_,_,x⟩
  ·exact H.plain i a d x f.2.1 (f.1▸y) g (f.1▸z)
  ·rw[p]at x;cases x
  ·rw[p]at x;cases x
 ·obtain⟨x,m,e⟩:=nR d
  rcases kY m with⟨_,k⟩|⟨K,o⟩
  ·exact H.old_known A k e l
  ·grind
 ·obtain⟨x,m,e⟩:=nR d
  rcases kY m with⟨_,k⟩|⟨_,o⟩
  ·exact(H.wrote i a (by rw[sN k];exact e) E _ G q).app u
  ·exact absurd (s x o a e).2.1 (H.apart _ _ q)
end
section
open Go.ConcN (sumTo upd sumTo_upd upd_ne upd_same)
structure YS where
 s:Seat
 own:Nat
 K:au->Prop
 St:Loc->Prop
 B:Nat
def YS.HL(y:YS):Prop:=(∀w d,y.K w->y.K (w.at d))/\∀w c f e g a b tm,(∃o,w.heap[c]?=Z o/\o.isChan=U)->y.K w->y.K (w.setChan c f e g a b tm)
def Ot(P:aA)(T:dJ)(i n:Nat)(g:aH):aj YS->Prop
 |none=>0<i/\QuitsD P n (dU T i) g
 |some y=>Sits P (i==0) y.K y.St y.B y.s n g
structure Yd(P:aA)(St At:Nat->Loc->Prop)(Shun:Loc->Prop)(Mem Lo:Nat->Prop)(ax:Nat->aj YS)(Sp:Nat->Prop)(B:Nat)(Kn:dJ->Nat->Prop)(T:dJ)(gs:af aH)(w:au)(q:Nat->Nat):Prop where
 idle:∀i g,¬Sp i->gs[i]?=Z g->Ot P T i (q i) g (ax i)
 chans:∀i y c,ax i=Z y->y.s.has c->∃k,w.heap[c]?=Z (.chan 0 #[] Y k k Y)
 wf:∀i y,ax i=Z y->y.s.Wf/\y.s.has y.own/\y.HL
 inj:∀i i' y y',ax i=Z y->ax i'=Z y'->y'.s.has y.own->i=i'
 above:∀j,gs.size<=j->dU T j=0
 lt:∀i,ax i≠I->i<gs.size
 mem:∀i y,ax i=Z y->(Sp i\/Mem i)/\(∀c,y.s.has c->c<B)/\y.B<=B
 nomem:∀i,Mem i->ax i≠I\/Sp i
 lo:∀i y,¬Sp i->ax i=Z y->Lo i
 past:eu St Shun At Mem Lo B (Kn T) T
 keep:∀i y,ax i=Z y->y.K w
 places:∀i y l,ax i=Z y->y.St l->St i l
 fresh:∀j l,gs.size<=j->¬St j l/\¬At j l
section
variable {P:aA}{St At:Nat->Loc->Prop}{Shun:Loc->Prop}{Mem Lo:Nat->Prop}{ax:Nat->aj YS}{Sp:Nat->Prop}{B:Nat}{Kn:dJ->Nat->Prop}{T:dJ}{gs:af aH}{w:au}{q:Nat->Nat}
theorem Yd.Iw(C:Yd P St At Shun Mem Lo ax Sp B Kn T gs w q){j}(m:∀i y,ax i=Z y->y.K j)(n:∀i y c,ax i=Z y->y.s.has c->∃f d a b tm,j.heap[c]?=Z (.chan f d Y a b tm)){x}{g}(o:¬Sp x)(l:gs[x]?=Z g):g.again j=g:=by
 have h:=C.idle x g o l;cases e:ax x with
 |none=>rw[e]at h;exact again_of_running h.2.status _
 |some y=>rw[e]at h;exact Sits.again (m x y e) h (C.wf x y e).1 λc k=>n x y c e k
theorem Yd.fixed(C:Yd P St At Shun Mem Lo ax Sp B Kn T gs w q){x}{g}(e:¬Sp x)(b:gs[x]?=Z g):g.again w=g:=C.Iw C.keep (λi y c d a=>by obtain⟨k,h⟩:=C.chans i y c d a;exact⟨_,_,_,_,_,h⟩) e b
theorem Yd.noSend(C:Yd P St At Shun Mem Lo ax Sp B Kn T gs w q){x}{g}(i:¬Sp x)(d:gs[x]?=Z g)(c):offersAt g c U=[]:=by
 have h:=C.idle x g i d;cases e:ax x with
 |none=>
  rw[e]at h;exact sM (λa=>by rcases h.2.status with z|z<;>rw[z]at a<;>cases a) c _
 |some y=>
  rw[e]at h;rcases h with⟨k,l,f,j⟩|⟨_,_,o,rfl,_⟩
  ·have:=(Sits.status (C.keep x y e) (.inl ⟨k,l,f,j⟩)).elim (·.1) (λz=>by omega)
   exact sM (λa=>by simp_all) c _
  ·exact offersAt_parked_sends (λn b=>by obtain⟨m,p,rfl⟩:=(C.wf x y e).1.recvs _ b;rfl) _
theorem Yd.Zk(C:Yd P St At Shun Mem Lo ax Sp B Kn T gs w q){j}{b}(m:ax j=Z b){x}{g}(o:¬Sp x)(d:x≠j)(l:gs[x]?=Z g):offersAt g b.own Y=[]:=by
 have h:=C.idle x g o l;cases e:ax x with
 |none=>
  rw[e]at h;exact sM (λa=>by rcases h.2.status with z|z<;>rw[z]at a<;>cases a) ..
 |some y=>
  rw[e]at h;rcases h with⟨k,r,n,p⟩|⟨_,_,t,rfl,_⟩
  ·have:=(Sits.status (C.keep x y e) (.inl ⟨k,r,n,p⟩)).elim (·.1) (λz=>by omega)
   exact sM (λa=>by simp_all) ..
  ·refine offersAt_parked_off (λs c f=>?_) _
   obtain⟨i,u,rfl⟩:=(C.wf x y e).1.recvs _ c;have:i=b.own:=by simpa[rcase]using f
   subst this;exact d (C.inj j x _ y m e (Seat.has_of_mem c)).symm
theorem Yd.at(C:Yd P St At Shun Mem Lo ax Sp B Kn T gs w q)(d):Yd P St At Shun Mem Lo ax Sp B Kn T gs (w.at d) q:=⟨C.idle,C.chans,C.wf,C.inj,C.above,C.lt,C.mem,C.nomem,C.lo,C.past,λi y e=>(C.wf i y e).2.2.1 w d (C.keep i y e),C.places,C.fresh⟩
theorem Yd.put(C:Yd P St At Shun Mem Lo ax Sp B Kn T gs w q){i k}{f}{a:af MemOp}{b}(aE:i<gs.size)(p:b.size=gs.size)(n:∀x,x≠i->b[x]?=gs[x]?)(u:b[i]?=Z f)(d:∀v∈a,v.g=i)(o:¬Sp i->Ot P (T++a) i k f (ax i))(m:eu St Shun At Mem Lo B (Kn (T++a)) (T++a)):Yd P St At Shun Mem Lo ax Sp B Kn (T++a) b w (upd q i k):=by
 refine⟨λx y g c=>?_,C.chans,C.wf,C.inj,λj t=>?_,λi r=>by rw[p];exact C.lt i r,C.mem,C.nomem,C.lo,m,C.keep,C.places,λj l t=>C.fresh j l ai⟩
 ·by_cases e:x=i
  ·subst e
   rw[u]at c;obtain rfl:=dQ c;rw[upd_same];exact o g
  ·rw[n x e]at c
   rw[upd_ne q _ e];have h:=C.idle x y g c;cases es:ax x with
   |none=>rw[es]at h;exact⟨h.1,by rw[mX T (λz=>e z.symm) _ d];exact h.2⟩
   |some s=>rw[es]at h;exact h
 ·rw[mX T ai _ d]
  exact C.above j ai
theorem Yd.by_step(ID:∀t u i,Kn t i->Kn (t++u) i)(C:Yd P St At Shun Mem Lo ax Sp B Kn T gs w q){i}{g}{sl}(J:gs[i]?=Z g)(N:¬Sp i)(V:g.status=.running)
  (nI:∀x v,Sp x->gs[x]?=Z v->v.again w=v)
  (zy:∀y l,ax i=Z y->AtIn P (i==0) y.K y.St y.B y.s g l->∀x v c,Sp x->gs[x]?=Z v->y.s.has c->offersAt v c U=[]):
  ∃(L:af aH)(E:af MemOp)(n:Nat),runT P (crowd gs w sl) i=(.next (crowd L w sl),E)/\L.size=gs.size/\(∀x,x≠i->L[x]?=gs[x]?)/\n<q i/\(∀f∈E,f.g=i/\∀b,f.act.touch?=Z b->b.write=Y)/\(∀y,ax i=Z y->n=0->∃l,AtIn P (i==0) y.K y.St y.B y.s g l)/\Yd P St At Shun Mem Lo ax Sp B Kn (T++E) L w (upd q i n):=by
 have aE:=(gG.1 J).1;have β:∀(a r)(x)(y),gs[x]?=Z y->eM P a r w y=y:=λa r x y G=>woken_of_again (by
  by_cases m:Sp x
  ·exact nI x y m G
  ·exact C.fixed m G)
 have K:∀(r j)(x),x≠i->((gs.map (eM P g r w)).setIfInBounds i j)[x]?=gs[x]?:=by
  intro r j x m;rw[ie (λe=>m e.symm),yJ];cases e:gs[x]? with
  |none=>rfl
  |some y=>grind
 have jw:∀(r j),((gs.map (eM P g r w)).setIfInBounds i j)[i]?=Z j:=λr j=>kC (by simpa using aE);have M:=C.idle i g N J;cases e:ax i with
 |none=>
  rw[e]at M;obtain⟨wo,O⟩:=M;have gu:(i==0)=Y:=by simp;omega
  cases S:q i with
  |zero=>rw[S]at O;rw[O.1]at V;cases V
  |succ k=>
   rw[S]at O;rcases O with⟨hf,_⟩|⟨_,j,es,X,xZ,QS⟩
   ·simp_all
   have o:∀f∈db i g.frame.fn g.frame.place es,f.g=i:=λf d=>by obtain⟨e,_,rfl⟩:=jY d;rfl
   refine⟨_,_,k,vJ J (by rw[gu];exact xZ w),by simp,λx m=>K _ _ x m,Nat.lt_succ_self k,λf d=>⟨o _ d,λb A=>by obtain⟨e,H,rfl⟩:=jY d;rw[touch_mute (X e H)]at A;cases A⟩,λ_ G=>(by cases G),?_⟩;refine C.put aE aZ (K _ _) (jw .. ) o (λ_=>by rw[e];exact⟨wo,by rw[Deaf_own];exact QS⟩) ?_;exact C.past.appMute (ID T _) o (λf d=>by obtain⟨e,H,rfl⟩:=jY d;exact touch_mute (X e H)) (λW=>((C.nomem i W).elim (λz=>absurd e z) (λz=>absurd z N))) (λf d=>by obtain⟨e,H,rfl⟩:=jY d;exact low_mute (X e H) B)
 |some y=>
  rw[e]at M;obtain⟨W,_,Jl⟩:=C.mem i y e;have R:=C.keep i y e;have Iv:∀es:af cX,(∀e∈es,EvC y.St y.B e)->(∀f∈db i g.frame.fn g.frame.place es,f.g=i)/\(∀f∈db i g.frame.fn g.frame.place es,f.g=i/\∀b,f.act.touch?=Z b->b.write=Y)/\eu St Shun At Mem Lo B (Kn (T++db i g.frame.fn g.frame.place es)) (T++db i g.frame.fn g.frame.place es):=λes s=>by
   obtain⟨o,hr,hl,hd⟩:=evC_ops s;exact⟨o,λf d=>⟨o _ d,λb A=>(hr _ d b A).1⟩,C.past.appRead (ID T _) (W.resolve_left N) (C.lo i y N e) o (λf d b A=>⟨(hr _ d b A).1,C.places i y _ e (hr _ d b A).2⟩) (hd T) λf d=>MemAct.low_mono Jl (hl _ d)⟩
  obtain⟨k,w₀,S,hg⟩:∃k w₀,q i=k+1/\Goes P (i==0) (RK y.K) (DS y.St y.B) (λg _=>∃l,AtIn P (i==0) y.K y.St y.B y.s g l) k g w₀:=by
   rcases M with h|⟨_,_,l,rfl,_⟩
   ·exact h
   ·cases V
  have zp:(∃l,AtIn P (i==0) y.K y.St y.B y.s g l)\/∃D j es,k=D+1/\aG P (i==0) g w=.go j w es/\(∀e∈es,EvC y.St y.B e)/\Goes P (i==0) (RK y.K) (DS y.St y.B) (λg _=>∃l,AtIn P (i==0) y.K y.St y.B y.s g l) D j w:=by
   cases k with
   |zero=>exact .inl (hg w R)
   |succ D=>
    rcases hg with Jc|⟨_,gR⟩
    ·exact .inl (Jc w R)
    ·have Q:=gR w R
     cases p:aG P (i==0) g w with
     |go j w' es=>
      rw[p,goes_go]at Q;obtain⟨⟨rfl,s⟩,rK⟩:=Q;exact .inr ⟨D,j,es,F,F,s,rK⟩
     |_=>rw[p]at Q;exact Q.elim
  rcases zp with⟨l,cH⟩|⟨D,j,es,rfl,p,s,rK⟩
  ·obtain⟨_,_,_,_,_,es,s,xZ⟩:=id cH
   obtain⟨o,zu,hp⟩:=Iv _ s;have hw:∀cc∈y.s.cases,NoWays w (gs.setIfInBounds i ph) cc:=by
    intro cc hY;obtain⟨c,z,rfl⟩:=(C.wf i y e).1.recvs _ hY;have jv:=Seat.has_of_mem hY;obtain⟨kk,hc⟩:=C.chans i y c e jv;refine ways_recv_none hc (partners_nil λx v G=>?_);rcases getElem?_stand _ i x _ G with⟨_,rfl⟩|⟨m,rX⟩
    ·exact offersAt_ph ..
    ·by_cases hS:Sp x
     ·grind
     ·exact C.noSend hS rX _
   refine⟨_,_,0,crowd_waits J (xZ w R) hw,by simp,λx m=>ie (λz=>m z.symm),by omega,zu,λy' rX _=>⟨l,(by simp_all)⟩,?_⟩;exact C.put aE aZ (λx m=>ie (λz=>m z.symm)) (kC aE) o (λ_=>by rw[e];exact .inr ⟨rfl,g,l,rfl,cH⟩) hp
  ·obtain⟨o,zu,hp⟩:=Iv _ s
   refine⟨_,_,D+1,vJ J p,by simp,λx m=>K _ _ x m,by omega,zu,λ_ _ h0=>ai,?_⟩;exact C.put aE aZ (K _ _) (jw .. ) o (λ_=>by rw[e];exact .inl ⟨D,w,rfl,rK⟩) hp
end
end
section
open Go.ConcN (sumTo upd sumTo_upd upd_ne upd_same)
def fe(P:aA)(St At:Nat->Loc->Prop)(Shun:Loc->Prop)(ax:Nat->aj YS)(h B:Nat)(T:dJ)(X:af aH)(w:au)(q:Nat->Nat):Prop:=Yd P St At Shun (λg=>ax g≠I\/g=h) (λg=>g≠h/\ax g≠I) ax (·=h) B (λt=>Knows t h) T X w q
def BN(St:Nat->Loc->Prop)(Shun:Loc->Prop)(B:Nat)(e:cX):Prop:=(∀x,(gy e).touch?=Z x->As St Shun x)/\e.loc≠.mark .disable/\e.loc≠.mark .enable/\(gy e).low B
section
variable {P:aA}{St At:Nat->Loc->Prop}{Shun:Loc->Prop}{ax:Nat->aj YS}{h B:Nat}{T:dJ}{X:af aH}{w:au}{q:Nat->Nat}
theorem Iu{St}{i}{fn}{pos}{es}(d:∀e∈es,BN St Shun B e):(∀a∈db i fn pos es,a.g=i)/\(∀a∈db i fn pos es,∀b,a.act.touch?=Z b->As St Shun b)/\(∀a∈db i fn pos es,a.act.low B)/\∀t:dJ,dU (t++db i fn pos es) i=dU t i:=
 ⟨λa c=>by obtain⟨e,_,rfl⟩:=jY c;rfl,λa c b f=>by obtain⟨e,h,rfl⟩:=jY c;exact(d e h).1 b f,λa c=>by obtain⟨e,h,rfl⟩:=jY c;exact(d e h).2.2.2,
  λt=>by rw[Deaf_own];exact deafBehind_still (λe h=>⟨(d e h).2.1,(d e h).2.2.1⟩) _⟩
structure DY(St:Nat->Loc->Prop)(ax:Nat->aj YS)(Shun:Loc->Prop)(B:Nat)(w w':au)(es:af cX):Prop where
 chan:∀i y c,ax i=Z y->y.s.has c->w'.heap[c]?=w.heap[c]?
 keep:∀i y,ax i=Z y->y.K w->y.K w'
 AA:∀e∈es,BN St Shun B e
theorem fe.own(C:fe P St At Shun ax h B T X w q){m}(p:B<=m){a a'}{b}{es}(E:X[h]?=Z a)(r:DY St ax Shun m w b es):fe P St At Shun ax h m (T++db h a.frame.fn a.frame.place es) ((X.map (eM P a a' b)).setIfInBounds h a') b q/\((X.map (eM P a a' b)).setIfInBounds h a')[h]?=Z a'/\((X.map (eM P a a' b)).setIfInBounds h a').size=X.size/\∀x,x≠h->((X.map (eM P a a' b)).setIfInBounds h a')[x]?=X[x]?:=by
 have aE:=(gG.1 E).1;obtain⟨o,J,H,L⟩:=Iu r.AA;have D:∀i y c,ax i=Z y->y.s.has c->∃k,b.heap[c]?=Z (.chan 0 #[] Y k k Y):=λi y c e g=>by
  obtain⟨k,G⟩:=C.chans i y c e g;exact⟨k,by rw[r.chan i y c e g];exact G⟩
 have A:=λi y e=>r.keep i y e (C.keep i y e);have v:∀x,x≠h->((X.map (eM P a a' b)).setIfInBounds h a')[x]?=X[x]?:=λx f=>by
  rw[ie (λe=>f e.symm),yJ];cases e:X[x]? with
  |none=>rfl
  |some y=>
   have:=woken_of_again (P:=P) (x:=a) (x':=a') (C.Iw A (λi y c e g=>by grind) f e);simp[this]
 have K:((X.map (eM P a a' b)).setIfInBounds h a')[h]?=Z a':=kC (by simpa using aE);have n:((X.map (eM P a a' b)).setIfInBounds h a').size=X.size:=by simp
 refine⟨⟨λx y f u=>?_,D,C.wf,C.inj,λj t=>?_,λi d=>by rw[n];exact C.lt i d,λi y e=>?_,C.nomem,C.lo,?_,A,C.places,λj l t=>C.fresh j l (by omega)⟩,K,n,v⟩
 ·rw[v x f]at u
  have d:=C.idle x y f u;cases nD:ax x with
  |none=>rw[nD]at d;exact⟨d.1,by rw[mX T (λz=>f z.symm) _ o];exact d.2⟩
  |some s=>rw[nD]at d;exact d
 ·rw[n]at t
  rw[mX T ai _ o];exact C.above j t
 ·obtain⟨M,N,O⟩:=C.mem i y e
  exact⟨M,λc g=>ayS (N c g) p,sK O p⟩
 ·exact BO (C.past.mono p) o J (λ_=>L T) H
theorem fe.awake(C:fe P St At Shun ax h B T X w q){a}(d:X[h]?=Z a)(j:a.status=.running\/a.status=.blocked):∀g∈X,awake g:=by
 intro g f;obtain⟨i,c,rfl⟩:=Array.mem_iff_getElem.1 f;by_cases e:i=h
 ·subst e
  have:X[i]=a:=by simpa[wZ c]using d
  rw[this];exact awake_of (j.elim .inl λx=>.inr (.inl x))
 ·have b:=C.idle i _ e (wZ c)
  cases es:ax i with
  |none=>rw[es]at b;exact awake_of (b.2.status.elim .inl λx=>.inr (.inr x))
  |some s=>rw[es]at b;exact awake_of ((Sits.status (C.keep i s es) b).elim (λx=>.inl x.1) λx=>.inr (.inl x.1))
theorem fe.ready:∀(μ)(T)(X)(w)(q)(f),sumTo X.size q=μ->fe P St At Shun ax h B T X w q->∀a,X[h]?=Z a->a.status=.running->∃N m o b d p q',iz P N (crowd X w f) T=(.next m,o)/\stepT P m=runT P (crowd b (w.at d) p) h/\b.size=X.size/\b[h]?=Z a/\fe P St At Shun ax h B o b (w.at d) q'/\∃w0 G,m=crowd b w0 G:=by
 intro μ;induction μ using Nat.strongRecOn with
 |_ μ W=>
 intro T X w q f S C a l j;obtain⟨i,g,d,p,A,zq,v⟩:=crowd_pick (P:=P) (w:=w) (sl:=f) (C.awake l (.inl j)) ⟨h,a,l,j⟩;have s:=Yd.at C d;by_cases e:i=h
 ·subst e
  exact⟨0,crowd X w f,T,X,d,p,q,F,v,F,l,s,_,_,F⟩
 ·obtain⟨b,β,n,R,z,ja,hn,_,_,D⟩:=s.by_step (sl:=p) (λt u i=>Knows.app u) A e zq
   (λx J r k=>by subst r;rw[l]at k;obtain rfl:=dQ k;exact again_of_running (.inl j) _)
   (λy _ _ _ x J c r k _=>by subst r;rw[l]at k;obtain rfl:=dQ k;exact sM (by rw[j];simp) .. )
  have aE:=(gG.1 A).1;have E:sumTo b.size (upd q i n)<μ:=by
   rw[z,<-S];have:sumTo X.size (upd q i n)+q i=sumTo X.size q+n:=sumTo_upd q n id aE;omega
  obtain⟨N,m,o,V,H,jx,q2,K,L,M,O,Q⟩:=W _ E _ _ _ _ _ F D a (by grind) j;refine⟨N+1,m,o,V,H,jx,q2,?_,L,M.trans z,O,Q⟩;simp only[iz,v,R];exact K
end
end
section
open Go.ConcN (sumTo upd sumTo_upd upd_ne upd_same)
section
variable {P:aA}{St At:Nat->Loc->Prop}{Shun:Loc->Prop}{ax:Nat->aj YS}{h j B:Nat}{T:dJ}{gs X:af aH}{w:au}{q:Nat->Nat}
theorem ao4(C:fe P St At Shun ax h B T gs w q){y:YS}(a:ax j=Z y):y.own<B:=(C.mem j y a).2.1 _ (C.wf j y a).2.1
theorem fe.pass(C:fe P St At Shun ax h B T gs w q){y m:YS}(M:j≠h)(f:ax j=Z y)(v:ax h=Z m){k:Nat}(A:w.heap[y.own]?=Z (.chan 0 #[] Y k k Y)){gh gj:aH}
  (z:X.size=gs.size)(J:∀x,x≠h->x≠j->X[x]?=gs[x]?)(t:X[h]?=Z gh)(N:X[j]?=Z gj){u:Nat}(L:Sits P (h==0) m.K m.St m.B m.s u gh)(n:bA)(ph:String)(o:bA)(r:String):
  fe P St At Shun ax j B (T++met h j n ph o r y.own k 0) X (w.setChan y.own 0 #[] Y (k+1) (k+1) Y) (upd q h u):=by
 have D:∀g,dU (T++met h j n ph o r y.own k 0) g=dU T g:=λg=>Deaf_quiet (met_quiet h j n ph o r y.own k 0 g);have G:=eu.give C.past (.inl (by rw[v];simp)) (.inl (by rw[f];simp)) n ph o r k 0 (ao4 C f);refine⟨λx g p b=>?_,λi d c a H=>?_,C.wf,C.inj,λx p=>by rw[D];exact C.above x ai,λi a=>by rw[z];exact C.lt i a,λi d e=>⟨.inr (.inl (by rw[e];simp)),(C.mem i d e).2⟩,
  λx p=>p.imp id id,λi d a e=>⟨a,by rw[e];simp⟩,?_,λi d e=>(C.wf i d e).2.2.2 _ _ _ _ _ _ _ _ ⟨_,A,F⟩ (C.keep i d e),C.places,λj l f=>C.fresh j l (by rw[z]at f;exact f)⟩
 ·by_cases e:x=h
  ·subst e
   rw[t]at b;obtain rfl:=dQ b;rw[upd_same,v];exact L
  ·rw[J x e p]at b
   rw[upd_ne q u e];have a:=C.idle x g e b;cases es:ax x with
   |none=>rw[es]at a;exact⟨a.1,by rw[D];exact a.2⟩
   |some s=>rw[es]at a;exact a
 ·obtain⟨K,E⟩:=C.chans i d c a H
  by_cases e:y.own=c
  ·subst e;exact⟨k+1,oE w A _ _ _ _ _ _⟩
  ·exact⟨K,by rw[mM w _ _ _ _ _ _ e];exact E⟩
 ·refine((G.fewer (Mem':=λg=>ax g≠I\/g=j) λg b=>?_)).loosen λg b=>⟨b.2,b.1.2⟩
  exact b.elim .inl λe=>.inl (by rw[e,f];simp)
structure HI(P:aA)(St At:Nat->Loc->Prop)(Shun:Loc->Prop)(ax:Nat->aj YS)(j B:Nat)(y:YS)(kk:Nat)(v:ag)(n:Nat)(w:au)(m:fg)(T:dJ):Prop where ex:∃(gs:af aH)(g₂:aH)(d k:Nat)(sl:aj (Nat×Nat))(q:Nat->Nat),m=crowd gs ((w.at d).setChan y.own 0 #[] Y (k+1) (k+1) Y) sl/\gs.size=n/\w.heap[y.own]?=Z (.chan 0 #[] Y k k Y)/\gs[j]?=Z (jz g₂ (qp y.s.cases y.s.shape kk v U))/\y.s.home g₂/\fe P St At Shun ax j B T gs ((w.at d).setChan y.own 0 #[] Y (k+1) (k+1) Y) q
theorem aha{l:aH}{y Q:YS}{z':ag}{H nh:Nat}(uV:j≠h)(a:ax j=Z y)(hk:y.s.cases[H]?=Z (rcase y.own z))(Bd:ax h=Z Q)(rU:Sits P (h==0) Q.K Q.St Q.B Q.s nh (jz l aC)):∀(μ:Nat)(T:dJ)(gs:af aH)(w:au)(q:Nat->Nat)(J:aj (Nat×Nat)),sumTo gs.size q=μ->fe P St At Shun ax h B T gs w q->gs[h]?=Z (parked l #[scase y.own v z'] .send)->(∃g,gs[j]?=Z g/\g.status=.running)->∃N m' R,iz P N (crowd gs w J) T=(.next m',R)/\HI P St At Shun ax j B y H v gs.size w m' R:=by
 intro μ;induction μ using Nat.strongRecOn with
 |_ μ ih=>
 intro T gs w q J hμ C A ⟨gj,wi,IZ⟩;obtain⟨i,g,d,M,E,zq,aF⟩:=crowd_pick (P:=P) (w:=w) (sl:=J) (C.awake A (.inr F)) ⟨j,gj,wi,IZ⟩;have f:=Yd.at C d;have D:i≠h:=λe=>by subst e;rw[A]at E;obtain rfl:=dQ E;cases zq
 obtain⟨k,bY⟩:=C.chans j y y.own a (C.wf j y a).2.1;have Ec:(w.at d).heap[y.own]?=Z (.chan 0 #[] Y k k Y):=bY;have XE:∀c,c≠y.own->offersAt (parked l #[scase y.own v z'] .send) c U=[]:=λc hc=>by rw[offersAt_parked_send,if_neg (λe=>hc e.symm)]
 by_cases K:i=j/\∃p,AtIn P (j==0) y.K y.St y.B y.s g p
 ·obtain⟨rfl,p,K⟩:=K
  obtain⟨_,jM,dI,η,Ef,es,fS,xZ⟩:=id K;have ε:=f.keep i y a;obtain⟨hM,_,Jl⟩:=f.mem i y a;obtain⟨cI,hr,hl,hd⟩:=evC_ops (i:=i) (fn:=g.frame.fn) (pos:=g.frame.place) fS;have aE:i<gs.size:=(gG.1 E).1;have δ:h<gs.size:=(gG.1 A).1;have C1:fe P St At Shun ax h B (T++db i g.frame.fn g.frame.place es) gs (w.at d) (upd q i (q i)):=Yd.put f aE F (λ_ _=>rfl) E cI (λhs=>by
   have:=f.idle i g hs E;rw[a]at this⊢;exact this) (f.past.appRead (λ_=>Knows.app _) (hM.resolve_left D) (f.lo i y D a) cI (λop S b hb=>⟨(hr op S b hb).1,f.places i y _ a (hr op S b hb).2⟩) (hd T) λop S=>MemAct.low_mono Jl (hl op S))
  have I5:partners (gs.setIfInBounds i ph) y.own U=[(h,0)]:=by
   rw[partners_one (j:=h) (g:=parked l #[scase y.own v z'] .send) (stand_get (λe=>D e.symm) A)]
   ·rw[offersAt_parked_send,if_pos F];rfl
   ·intro x L G o
    rcases getElem?_stand gs i x L o with⟨_,rfl⟩|⟨_,O⟩
    ·exact offersAt_ph _ _
    ·exact f.noSend G O _
  have de:∀(m:Nat)(V:CommCase),m≠H->y.s.cases[m]?=Z V->NoWays (w.at d) (gs.setIfInBounds i ph) V:=by
   intro m V hm nE;obtain⟨c,zc,rfl⟩:=(C.wf i y a).1.recvs V (Array.mem_of_getElem? nE);have aD:c≠y.own:=λe=>hm ((C.wf i y a).1.apart m H y.own zc z (e▸nE) hk);obtain⟨kc,hY⟩:=f.chans i y c a ⟨m,zc,nE⟩;refine ways_recv_none hY (partners_nil λx L o=>?_);rcases getElem?_stand gs i x L o with⟨_,rfl⟩|⟨_,O⟩
   ·exact offersAt_ph _ _
   ·by_cases ex:x=h
    ·subst ex;rw[A]at O;obtain rfl:=dQ O;exact XE c aD
    ·exact f.noSend ex O _
  have QC:=crowd_sel_recv_meets (P:=P) (sl:=M) (gs:=gs) (i:=i) (j:=h) (w:=w.at d) (cap:=0) (closed:=Y) (s:=k) (r:=k) (tm:=Y) E (xZ (w.at d) ε) hk de Ec (λe=>D e.symm) A I5;refine⟨1,crowd ((gs.setIfInBounds h (jz l aC)).setIfInBounds i (jz p (qp y.s.cases y.s.shape H v U))) ((w.at d).setChan y.own 0 #[] Y (k+1) (k+1) Y) M,T++db i g.frame.fn g.frame.place es++met h i l.frame.fn l.frame.place p.frame.fn p.frame.place y.own k 0,?_,⟨(gs.setIfInBounds h (jz l aC)).setIfInBounds i (jz p (qp y.s.cases y.s.shape H v U)),p,d,k,M,upd (upd q i (q i)) h nh,rfl,?_,bY,?_,Ef,?_⟩⟩
  ·simp only[iz,aF,QC,met,Da]
   rfl
  ·simp
  ·rw[kC (by simpa using aE)]
  ·refine C1.pass uV a Bd Ec aZ (λx G qN=>?_) (gh:=jz l aC) ?_ (kC (by simpa using aE)) rU _ _ _ _
   ·rw[ie (λe=>qN e.symm),ie (λe=>G e.symm)]
   ·rw[ie D,kC δ]
 ·obtain⟨X,ζ,n,hr,bH,ja,hn,_,I7,C'⟩:=f.by_step (sl:=M) (λt u i=>Knows.app u) E D zq
   (λx L G o=>by subst G;rw[A]at o;obtain rfl:=dQ o;exact again_send_open Ec)
   (λy' p rX β x L c G o hc=>by
     subst G;rw[A]at o;obtain rfl:=dQ o;refine XE c λe=>?_;subst e;have pf:j=i:=C.inj j i y y' a rX hc;subst pf;rw[a]at rX;obtain rfl:=dQ rX;exact K ⟨rfl,p,β⟩)
  have aE:i<gs.size:=(gG.1 E).1;have GD:sumTo X.size (upd q i n)<μ:=by
   rw[bH,<-hμ];have:sumTo gs.size (upd q i n)+q i=sumTo gs.size q+n:=sumTo_upd q n id aE;omega
  have γ:∃g,X[j]?=Z g/\g.status=.running:=by
   by_cases e:i=j
   ·subst e
    have Qx:i<X.size:=by omega
    obtain⟨W,nG⟩:∃W,X[i]?=Z W:=⟨_,wZ Qx⟩;have bU:=C'.idle i W D nG;rw[a]at bU;refine⟨W,nG,?_⟩;rcases Sits.status (C'.keep i y a) bU with hs|⟨_,h0⟩
    ·exact hs.1
    ·rw[upd_same]at h0
     exact absurd ⟨rfl,I7 y a h0⟩ K
   ·exact⟨gj,by rw[ja j (λx=>e x.symm)];exact wi,IZ⟩
  obtain⟨N,m',R,h1,⟨iZ,g2,d2,k2,jx,q2,e1,e2,e3,e4,e5,e6⟩⟩:=ih _ GD (T++ζ) X (w.at d) (upd q i n) M rfl C' (by rw[ja h (λz=>D z.symm)];exact A) γ;refine⟨N+1,m',R,?_,⟨iZ,g2,d2,k2,jx,q2,e1,e2.trans bH,e3,e4,e5,e6⟩⟩;simp only[iz,aF,hr];exact h1
theorem fe.Wu{m0:fg}{a d:aH}{y D:YS}{S:ag}{kk nh:Nat}{es:af cX}{l:aj (Nat×Nat)}(C:fe P St At Shun ax h B T gs w q)(aF:stepT P m0=runT P (crowd gs w l) h)(n:j≠h)(b:ax j=Z y)(E:y.s.cases[kk]?=Z (rcase y.own z))(V:ax h=Z D)
  (G:gs[h]?=Z a)(zz:aG P (h==0) a w=.comm d #[scase y.own v S] U .send w es)(fS:∀e∈es,BN St Shun B e)
  (rU:Sits P (h==0) D.K D.St D.B D.s nh (jz d aC)):
  ∃N m' T',iz P N m0 T=(.next m',T')/\HI P St At Shun ax j B y kk v gs.size w m' T':=by
 obtain⟨M,hs,hl,kN⟩:=Iu (i:=h) (fn:=a.frame.fn) (pos:=a.frame.place) fS;have aE:h<gs.size:=(gG.1 G).1;have L:j<gs.size:=C.lt j (by rw[b];simp);obtain⟨k,bY⟩:=C.chans j y y.own b (C.wf j y b).2.1;have J:w.heap[y.own]?=Z (.chan 0 #[] Y k k Y):=bY;obtain⟨t,u⟩:∃t,gs[j]?=Z t:=⟨_,wZ L⟩;have Xq:=C.idle j t n u;rw[b]at Xq;have W:eu St Shun At (λg=>ax g≠I\/g=h) (λg=>g≠h/\ax g≠I) B (Knows (T++db h a.frame.fn a.frame.place es) h) (T++db h a.frame.fn a.frame.place es):=BO C.past M hs (λ_=>kN T) hl;rcases Xq with MH|⟨_,g₀,o,rfl,cH⟩
 ·
  have IZ:t.status=.running:=(Sits.status (C.keep j y b) (.inl MH)).elim (·.1) λx=>by obtain⟨k',w',hq,_⟩:=MH;omega
  have K:partners (gs.setIfInBounds h ph) y.own Y=[]:=partners_nil λx Q O=>by
   rcases getElem?_stand gs h x Q O with⟨_,rfl⟩|⟨f,A⟩
   ·exact offersAt_ph _ _
   ·by_cases e:x=j
    ·subst e;rw[u]at A;obtain rfl:=dQ A;exact sM (by rw[IZ];simp) _ _
    ·exact C.Zk b f e A
  have I7:=crowd_waits (P:=P) (sl:=l) (gs:=gs) (i:=h) (w:=w) G zz (λp hY=>by
   have:p=scase y.own v S:=by simpa using hY
   subst this;exact ways_send_none J aZ K)
  have H:fe P St At Shun ax h B (T++db h a.frame.fn a.frame.place es) (gs.setIfInBounds h (parked d #[scase y.own v S] .send)) w (upd q h (q h)):=Yd.put C aE aZ (λx f=>ie (λe=>f e.symm)) (kC aE) M (λR=>absurd rfl R) W;obtain⟨N2,m2,T2,AX,⟨iZ,g2,d2,k2,jx,q2,e1,e2,e3,e4,e5,e6⟩⟩:=aha n b E V rU _ _ _ _ _ l rfl H (kC aE) ⟨t,by rw[ie (λe=>n e.symm)];exact u,IZ⟩;refine⟨1+N2,m2,T2,?_,⟨iZ,g2,d2,k2,jx,q2,e1,by rw[e2];simp,e3,e4,e5,e6⟩⟩;exact kG (runNT_succ_of (N:=0) rfl (by rw[aF,I7])) AX
 ·
  have nY:∀(m:Nat)(p:CommCase),m≠kk->y.s.cases[m]?=Z p->p.chan≠.chan (Z y.own):=λm p hm hc e=>by
   obtain⟨c,zc,rfl⟩:=(C.wf j y b).1.recvs p (Array.mem_of_getElem? hc);have:c=y.own:=by simpa[rcase]using e
   subst this;exact hm ((C.wf j y b).1.apart m kk _ _ _ hc E)
  have K:partners (gs.setIfInBounds h ph) y.own Y=[(j,kk)]:=by
   rw[partners_one (j:=j) (g:=parked o y.s.cases y.s.shape) (stand_get n u)]
   ·rw[offersAt_parked_at E nY];rfl
   ·intro x Q f O
    rcases getElem?_stand gs h x Q O with⟨_,rfl⟩|⟨Jk,A⟩
    ·exact offersAt_ph _ _
    ·exact C.Zk b Jk f A
  have QC:=crowd_send_meets_sel (P:=P) (sl:=l) (gs:=gs) (i:=h) (w:=w) (cap:=0) (buf:=#[]) (s:=k) (r:=k) (tm:=Y) G zz J n u E K;have H:fe P St At Shun ax h B (T++db h a.frame.fn a.frame.place es) gs w (upd q h (q h)):=Yd.put C aE rfl (λx f=>rfl) G M (λR=>absurd rfl R) W;obtain⟨_,_,_,_,Ef,_⟩:=cH;refine⟨1,crowd ((gs.setIfInBounds j (jz o (qp y.s.cases y.s.shape kk v U))).setIfInBounds h (jz d aC)) (w.setChan y.own 0 #[] Y (k+1) (k+1) Y) l,
   T++db h a.frame.fn a.frame.place es++met h j d.frame.fn d.frame.place o.frame.fn o.frame.place y.own k 0,?_,
   ⟨(gs.setIfInBounds j (jz o (qp y.s.cases y.s.shape kk v U))).setIfInBounds h (jz d aC),o,w.drawn,k,l,upd (upd q h (q h)) h nh,rfl,by simp,bY,?_,Ef,?_⟩⟩
  ·rw[Da]
   exact runNT_succ_of (N:=0) rfl (by rw[aF,QC];rfl)
  ·rw[ie (λe=>n e.symm),kC L]
  ·refine H.pass n b V J aZ (λx f Q9=>?_) (gh:=jz d aC) (gj:=jz o (qp y.s.cases y.s.shape kk v U)) (kC (by simpa using aE)) ?_ rU _ _ _ _
   ·rw[ie (λe=>f e.symm),ie (λe=>Q9 e.symm)]
   ·rw[ie (λe=>n e.symm),kC L]
theorem fe.give{a f:aH}{y b:YS}{z':ag}{kk W:Nat}{es:af cX}{sl:aj (Nat×Nat)}(C:fe P St At Shun ax h B T gs w q)(uV:j≠h)(L:ax j=Z y)(M:y.s.cases[kk]?=Z (rcase y.own z))(i:ax h=Z b)
  (K:gs[h]?=Z a)(o:a.status=.running)(zz:∀d,aG P (h==0) a (w.at d)=.comm f #[scase y.own v z'] U .send (w.at d) es)(G:∀e∈es,BN St Shun B e)
  (rU:Sits P (h==0) b.K b.St b.B b.s W (jz f aC)):
  ∃N g c,iz P N (crowd gs w sl) T=(.next g,c)/\HI P St At Shun ax j B y kk v gs.size w g c:=by
 obtain⟨N,m1,T1,mr,d,jP,q1,E,n,p,S,k,_⟩:=C.ready _ T gs w q sl F a K o;obtain⟨l,V,m,J,⟨O,H,r,R,Q,q2,s,t,u,x,A,D⟩⟩:=k.Wu n uV L M i S (zz d) G rU;exact⟨N+l,V,m,kG E J,⟨O,H,r,R,Q,q2,s,t.trans p,u,x,A,D⟩⟩
end
end
section
open Go.ConcN (sumTo upd sumTo_upd upd_ne upd_same)
section
variable {P:aA}{W At:Nat->Loc->Prop}{Shun Ar:Loc->Prop}{ax:Nat->aj YS}{h j B:Nat}{T:dJ}{X V:af aH}{w:au}{q:Nat->Nat}
def nP(ax:Nat->aj YS)(c:Nat)(y:aj YS):Nat->aj YS:=λx=>if x=c then y else ax x
theorem qk{c:Nat}{y:aj YS}:nP ax c y c=y:=if_pos F
theorem j9{c x:Nat}{y:aj YS}(a:x≠c):nP ax c y x=ax x:=if_neg a
theorem fe.mono{f:Nat}(C:fe P W At Shun ax h B T X w q)(d:B<=f):fe P W At Shun ax h f T X w q:=⟨C.idle,C.chans,C.wf,C.inj,C.above,C.lt,λi y e=>let⟨a,b,c⟩:=C.mem i y e;⟨a,λx g=>ayS (b x g) d,sK c d⟩,C.nomem,C.lo,C.past.mono d,C.keep,C.places,C.fresh⟩
theorem fe.mI(C:fe P W At Shun ax h B T X w q)(d:∀l,Shun l->Ar l)(c:∀g l,W g l->¬Ar l)(b:∀g l,At g l->Shun l):fe P W At Ar ax h B T X w q:=⟨C.idle,C.chans,C.wf,C.inj,C.above,C.lt,C.mem,C.nomem,C.lo,eu.places C.past (λ_ _ _ a=>a) (λ_ _ _ a=>.inl a) d c (λg l h _=>⟨h,b g l h⟩),C.keep,C.places,C.fresh⟩
structure FM(Shun:Loc->Prop)(ax:Nat->aj YS)(x B:Nat)(w:au)(y:YS):Prop where
 wf:y.s.Wf/\y.s.has y.own/\y.HL
 chans:∀c,y.s.has c->∃k,w.heap[c]?=Z (.chan 0 #[] Y k k Y)
 fresh:∀i y',i≠x->ax i=Z y'->¬y'.s.has y.own/\¬y.s.has y'.own
 low:(∀c,y.s.has c->c<B)/\y.B<=B
 keep:y.K w
 mem:∀l,y.St l->l.isMemory=U/\¬Shun l
theorem FM.inj{x:Nat}{y:YS}(N:FM Shun ax x B w y)(l:∀i a y k,ax i=Z y->ax a=Z k->k.s.has y.own->i=a):∀i a z d,nP ax x (Z y) i=Z z->nP ax x (Z y) a=Z d->d.s.has z.own->i=a:=λi a z d e b g=>by
 by_cases f:i=x
 ·by_cases c:a=x
  ·exact f.trans c.symm
  ·rw[f,qk]at e
   rw[j9 c]at b;obtain rfl:=dQ e;exact absurd g (N.fresh a d c b).1
 ·rw[j9 f]at e
  by_cases c:a=x
  ·rw[c,qk]at b
   obtain rfl:=dQ b;exact absurd g (N.fresh i z f e).2
  ·rw[j9 c]at b
   exact l i a z d e b g
theorem fe.acy(C:fe P W At Shun ax h B T X w q){i:Nat}{a:Touch}(d:touchAt T i=Z a)(k:a.write=U)(f:a.loc.isMemory=U)(g:¬Shun a.loc):Knows T h i:=by
 rcases C.past.known i a d f with e|⟨b,_⟩|⟨c,_⟩
 ·exact e
 ·rw[k]at b;cases b
 ·exact absurd c g
theorem fe.apl(C:fe P W At Shun ax h B T X w q){i:Nat}{a:Touch}(d:touchAt T i=Z a)(k:a.kind=.plain)(f:a.loc.isMemory=U)(c:Shun a.loc):Knows T h i:=by
 rcases C.past.known i a d f with e|⟨_,g,_,_,l⟩|⟨_,b,_⟩
 ·exact e
 ·exact absurd c (C.past.apart g _ l)
 ·rw[k]at b;cases b
def add1(W:Nat->Loc->Prop)(c:Nat)(S:Loc->Prop):Nat->Loc->Prop:=λg l=>W g l\/(g=c/\S l)
theorem fe.reseat(C:fe P W At Shun ax h B T X w q)(aE:h<X.size){y:YS}(N:FM Shun ax h B w y):fe P (add1 W h y.St) At Shun (nP ax h (Z y)) h B T X w q:=by
 have u:∀g,nP ax h (Z y) g≠I\/g=h↔ax g≠I\/g=h:=λg=>by
  by_cases e:g=h
  ·simp[e]
  ·rw[j9 e]
 refine⟨λi g d k=>by rw[j9 d];exact C.idle i g d k,λi z c e r=>?_,λi z e=>?_,N.inj C.inj,C.above,λi d=>?_,λi z e=>⟨.inr (.inl (by rw[e];simp)),?_⟩,λi d=>?_,λi z d e=>⟨d,by rw[e];simp⟩,?_,λi z e=>?_,λi z l e t=>?_,λj l s=>⟨λf=>f.elim (C.fresh j l s).1 λn=>by omega,(C.fresh j l s).2⟩⟩
 ·by_cases b:i=h
  ·rw[b,qk]at e;obtain rfl:=dQ e;exact N.chans c r
  ·rw[j9 b]at e;exact C.chans i z c e r
 ·by_cases b:i=h
  ·rw[b,qk]at e;obtain rfl:=dQ e;exact N.wf
  ·rw[j9 b]at e;exact C.wf i z e
 ·by_cases b:i=h
  ·exact b▸aE
  ·rw[j9 b]at d;exact C.lt i d
 ·by_cases b:i=h
  ·rw[b,qk]at e;obtain rfl:=dQ e;exact N.low
  ·rw[j9 b]at e;exact(C.mem i z e).2
 ·exact d
 ·have x:=eu.places C.past (HT:=add1 W h y.St) (Oh:=At) (λg l _ f=>.inl f) (λg _ l f=>f.imp id λ⟨v,p⟩i a o A m=>by
   obtain⟨D,E⟩:=N.mem l p;rw[v];exact C.acy o A (by rw[m];exact D) (by rw[m];exact E)) (λl p=>p) (λg l f=>f.elim (C.past.apart g l) λn=>(N.mem l n.2).2) (λg l o n=>⟨o,n⟩)
  exact(x.fewer (Mem':=λg=>nP ax h (Z y) g≠I\/g=h) λg k=>(u g).1 k).loosen λg k=>⟨k.1,by rw[j9 k.1];exact k.2⟩
 ·by_cases b:i=h
  ·rw[b,qk]at e;obtain rfl:=dQ e;exact N.keep
  ·rw[j9 b]at e;exact C.keep i z e
 ·by_cases b:i=h
  ·rw[b,qk]at e;obtain rfl:=dQ e;exact .inr ⟨b,t⟩
  ·rw[j9 b]at e;exact .inl (C.places i z l e t)
theorem fe.axe(C:fe P W At Shun ax h B T X w q):fe P W At Shun (nP ax h I) h B T X w q:=by
 have a:∀i z,nP ax h I i=Z z->i≠h/\ax i=Z z:=λi z e=>by
  by_cases f:i=h
  ·rw[f,qk]at e;cases e
  ·rw[j9 f]at e;exact⟨f,e⟩
 refine⟨λi g b d=>by rw[j9 b];exact C.idle i g b d,λi z c e o=>C.chans i z c (a i z e).2 o,λi z e=>C.wf i z (a i z e).2,λi k z m e n p=>C.inj i k z m (a i z e).2 (a k m n).2 p,C.above,λi b=>?_,λi z e=>⟨.inr (.inl (by rw[e];simp)),(C.mem i z (a i z e).2).2⟩,
  λi b=>b,λi z b e=>⟨b,by rw[e];simp⟩,?_,λi z e=>C.keep i z (a i z e).2,λi z l e s=>C.places i z l (a i z e).2 s,C.fresh⟩
 ·obtain⟨z,e⟩:=Option.ne_none_iff_exists'.1 b
  exact C.lt i (by rw[(a i z e).2];simp)
 ·refine(C.past.fewer (Mem':=λg=>nP ax h I g≠I\/g=h) λg d=>d.imp (λr=>?_) id).loosen λg d=>⟨d.1,by rw[j9 d.1];exact d.2⟩
  obtain⟨z,e⟩:=Option.ne_none_iff_exists'.1 r;rw[(a g z e).2];simp
def tA(W:Nat->Loc->Prop)(c:Nat)(S:Loc->Prop):Nat->Loc->Prop:=λg l=>if g=c then S l else W g l
theorem fe.hire{a t f:aH}{es:af cX}{sl:aj (Nat×Nat)}{y:YS}{Ac:Loc->Prop}{n:Nat}(C:fe P W At Shun ax h B T X w q)(ha:X[h]?=Z a)(aQ:a.status=.running)
  (β:∀d,aG P (h==0) a (w.at d)=.spawn t f (w.at d) es)(fS:∀e∈es,BN W Shun B e)(N:FM Shun ax X.size B w y)(h0:0<X.size)(rU:Sits P Y y.K y.St y.B y.s n f):
  ∃N' T' V d jG q',iz P N' (crowd X w sl) T=(.next (crowd V (w.at d) jG),T')/\V.size=X.size+1/\V[h]?=Z t/\fe P (tA W X.size y.St) (tA At X.size Ac) Shun (nP ax X.size (Z y)) h B T' V (w.at d) q':=by
 obtain⟨N1,m1,D,A,d,jP,O,ez,aF,K,kL,C1,_⟩:=C.ready _ T X w q sl F a ha aQ;obtain⟨cI,hs,G,kN⟩:=Iu (i:=h) (fn:=a.frame.fn) (pos:=a.frame.place) fS;have aE:h<A.size:=(gG.1 kL).1;have Cq:eu W Shun At (λg=>ax g≠I\/g=h) (λg=>g≠h/\ax g≠I) B (Knows (D++db h a.frame.fn a.frame.place es) h) (D++db h a.frame.fn a.frame.place es):=BO C1.past cI hs (λ_=>kN D) G;have k:fe P W At Shun ax h B (D++db h a.frame.fn a.frame.place es) A (w.at d) (upd O h (O h)):=Yd.put C1 aE F (λx v=>rfl) kL cI (λhn=>absurd F hn) Cq;generalize P2:D++db h a.frame.fn a.frame.place es=J at k;have R:ax X.size=I:=by
  cases e:ax X.size with
  |none=>rfl
  |some z=>exact absurd (C.lt X.size (by rw[e];simp)) (Nat.lt_irrefl _)
 have l6:dU J X.size=0:=k.above _ ai;have Q:h≠X.size:=by omega
 have gN:=runT_crowd_spawn (P:=P) (sl:=jP) kL (β d);have M:=eu.hire (c:=X.size) (Sc:=y.St) (Ac:=Ac) k.past (.inr F) (λx=>x.elim (λx=>x R) (λe=>Q e.symm)) (λl G=>absurd G (k.fresh _ l ai).1) l6 (λl G=>(N.mem l G).2)
  (λi b hb hw L=>k.acy hb hw (N.mem _ L).1 (N.mem _ L).2) (λi b hb M hm L=>k.apl hb M hm L) a.frame.fn a.frame.place f.frame.fn
 generalize hu:(#[{g:=h,fn:=a.frame.fn,pos:=a.frame.place,act:=.go X.size},{g:=X.size,fn:=f.frame.fn,pos:=a.frame.place,act:=.start}]:dJ)=u at M;have hq:∀g,∀op∈u,∀d,deafStep g d op=d:=by
  intro g op aT d;subst hu;simp only[jA,bQ,gk,or_false]at aT;rcases aT with rfl|rfl<;>rfl
 have xN:∀g,dU (J++u) g=dU J g:=λg=>Deaf_quiet (hq g);have wo:X.size≠0:=by omega
 have S:((A.setIfInBounds h t).push f)[X.size]?=Z f:=by
  rw[Ft];simp[K]
 have Xl:∀x,x≠X.size->((A.setIfInBounds h t).push f)[x]?=(A.setIfInBounds h t)[x]?:=λx v=>by
  rw[Ft,if_neg (by simp[K];exact v)]
 refine⟨N1+1,J++u,(A.setIfInBounds h t).push f,d,jP,upd (upd O h (O h)) X.size n,?_,by simp[K],?_,?_⟩
 ·rw[<-P2,Da]
  refine runNT_succ_of ez ?_;rw[aF,gN,K,<-hu];refine Prod.ext F ?_;apply Array.ext';simp
 ·rw[Xl h Q,kC aE]
 ·have H:∀i z,nP ax X.size (Z y) i=Z z->(i=X.size/\z=y)\/(i≠X.size/\ax i=Z z):=λi z e=>by
   by_cases m:i=X.size
   ·rw[m,qk]at e;exact .inl ⟨m,(dQ e).symm⟩
   ·rw[j9 m]at e;exact .inr ⟨m,e⟩
  refine⟨λi g r p=>?_,λi z c e hc=>?_,λi z e=>?_,N.inj k.inj,λx v=>?_,λi r=>?_,λi z e=>⟨.inr (.inl (by rw[e];simp)),?_⟩,λi r=>r,λi z r e=>⟨r,by rw[e];simp⟩,?_,λi z e=>?_,λi z l e hz=>?_,λx l v=>?_⟩
  ·by_cases m:i=X.size
   ·subst m
    rw[S]at p;obtain rfl:=dQ p;rw[qk,upd_same];have:(X.size==0)=Y:=by simpa using wo
    show Sits P (X.size==0) y.K y.St y.B y.s n f;rw[this];exact rU
   ·rw[Xl i m,ie (λe=>r e.symm)]at p
    rw[j9 m,upd_ne _ _ m];have E:=k.idle i g r p;cases nD:ax i with
    |none=>rw[nD]at E;exact⟨E.1,by rw[xN];exact E.2⟩
    |some z=>rw[nD]at E;exact E
  ·rcases H i z e with⟨_,rfl⟩|⟨_,o⟩
   ·exact N.chans c hc
   ·exact k.chans i z c o hc
  ·rcases H i z e with⟨_,rfl⟩|⟨_,o⟩
   ·exact N.wf
   ·exact k.wf i z o
  ·simp only[Array.size_push,pH]at v
   rw[xN];exact k.above x ai
  ·simp only[Array.size_push,pH]
   by_cases m:i=X.size
   ·omega
   ·rw[j9 m]at r
    have:=k.lt i r;omega
  ·rcases H i z e with⟨_,rfl⟩|⟨_,o⟩
   ·exact N.low
   ·exact(k.mem i z o).2
  ·refine(M.fewer (Mem':=λg=>nP ax X.size (Z y) g≠I\/g=h) λg p=>?_).loosen λg p=>?_
   ·by_cases s:g=X.size
    ·exact .inr s
    ·rw[j9 s]at p;exact .inl p
   ·by_cases s:g=X.size
    ·exact⟨λe=>Q (e.symm.trans s),by rw[s,qk];simp⟩
    ·rw[j9 s];exact p.resolve_right s
  ·rcases H i z e with⟨_,rfl⟩|⟨_,o⟩
   ·exact N.wf.2.2.1 w d N.keep
   ·exact k.keep i z o
  ·show tA W X.size y.St i l
   unfold tA;rcases H i z e with⟨m,rfl⟩|⟨m,o⟩
   ·rw[if_pos m];exact hz
   ·rw[if_neg m];exact k.places i z l o hz
  ·simp only[Array.size_push,pH]at v
   have aD:x≠X.size:=by omega
   unfold tA;rw[if_neg aD,if_neg aD];exact k.fresh x l ai
end
end
section
open Go.ConcR (DC0)
open Go.ConcN (sumTo upd sumTo_upd upd_ne upd_same)
def Oz(P:aA)(a:Bool)(Next:aH->Prop)(n:Nat)(g:aH):Prop:=Goes P a (λ_ _=>True) DC0 (λg _=>Next g) n g default
structure YH(P:aA)(St At:Nat->Loc->Prop)(Shun:Loc->Prop)(ax:Nat->aj YS)(h d B:Nat)(T:dJ)(gs:af aH)(w:au)(q:Nat->Nat):Prop where
 yd:Yd P St At Shun (λg=>(ax g≠I/\g≠h)\/(g=h/\d=0)) (λg=>g≠h/\ax g≠I) ax (·=h) B (λt=>Knows t h) T gs w q
 deaf:dU T h=d
 wrote:∀i a,touchAt T i=Z a->a.write=U->St h a.loc->Knows T h i
section
variable {P:aA}{St At:Nat->Loc->Prop}{Shun:Loc->Prop}{ax:Nat->aj YS}{h d B:Nat}{T:dJ}{gs:af aH}{w:au}{q:Nat->Nat}
theorem fe.BB(C:fe P St At Shun ax h B T gs w q):YH P St At Shun ax h 0 B T gs w q:=⟨⟨C.idle,C.chans,C.wf,C.inj,C.above,C.lt,λi y e=>⟨by by_cases b:i=h;exact .inl b;exact .inr (.inl ⟨by rw[e];simp,b⟩),(C.mem i y e).2⟩,λi b=>b.imp (·.1) (·.1),C.lo,C.past.fewer λg f=>f.imp (·.1) (·.1),C.keep,C.places,C.fresh⟩,
                                                                                     C.past.hears h (.inr F),λi a b j c=>C.past.wrote i a b j h (.inr F) c⟩
theorem YH.wX(C:YH P St At Shun ax h 0 B T gs w q):fe P St At Shun ax h B T gs w q:=⟨C.yd.idle,C.yd.chans,C.yd.wf,C.yd.inj,C.yd.above,C.yd.lt,λi y e=>⟨.inr (.inl (by rw[e];simp)),(C.yd.mem i y e).2⟩,λi a=>a,C.yd.lo,
                                                                                     C.yd.past.fewer λg b=>by by_cases a:g=h;exact .inr ⟨a,F⟩;exact .inl ⟨b.resolve_right a,a⟩,C.yd.keep,C.yd.places,C.yd.fresh⟩
structure DZ(St:Nat->Loc->Prop)(ax:Nat->aj YS)(Shun:Loc->Prop)(B:Nat)(w w':au)(es:af cX):Prop where
 chan:∀i y c,ax i=Z y->y.s.has c->w'.heap[c]?=w.heap[c]?
 keep:∀i y,ax i=Z y->y.K w->y.K w'
 AA:∀e∈es,(∀x,(gy e).touch?=Z x->As St Shun x)/\(gy e).low B
theorem DZ.still{es:af cX}(h:es=#[]):DZ St ax Shun B w w es:=⟨λ_ _ _ _ _=>rfl,λ_ _ _ b=>b,λe a=>by subst h;simp at a⟩
theorem YH.own(C:YH P St At Shun ax h d B T gs w q){a a':aH}{m:au}{es:af cX}(ha:gs[h]?=Z a)(H:DZ St ax Shun B w m es):YH P St At Shun ax h (gW d es) B (T++db h a.frame.fn a.frame.place es) ((gs.map (eM P a a' m)).setIfInBounds h a') m q/\((gs.map (eM P a a' m)).setIfInBounds h a')[h]?=Z a'/\((gs.map (eM P a a' m)).setIfInBounds h a').size=gs.size:=by
 have aE:h<gs.size:=(gG.1 ha).1;have J:∀p∈db h a.frame.fn a.frame.place es,p.g=h:=λp v=>by obtain⟨e,_,rfl⟩:=jY v;rfl
 have O:∀p∈db h a.frame.fn a.frame.place es,∀b,p.act.touch?=Z b->As St Shun b:=λp v b K=>by obtain⟨e,h,rfl⟩:=jY v;exact(H.AA e h).1 b K
 have hl:∀p∈db h a.frame.fn a.frame.place es,p.act.low B:=λp v=>by obtain⟨e,h,rfl⟩:=jY v;exact(H.AA e h).2
 have M:∀i y c,ax i=Z y->y.s.has c->∃k,m.heap[c]?=Z (.chan 0 #[] Y k k Y):=λi y c e G=>by
  obtain⟨k,L⟩:=C.yd.chans i y c e G;exact⟨k,by rw[H.chan i y c e G];exact L⟩
 have W:∀i y,ax i=Z y->y.K m:=λi y e=>H.keep i y e (C.yd.keep i y e);have ja:∀x,x≠h->((gs.map (eM P a a' m)).setIfInBounds h a')[x]?=gs[x]?:=λx o=>by
  rw[ie (λe=>o e.symm),yJ];cases e:gs[x]? with
  |none=>rfl
  |some y=>
   have:=woken_of_again (P:=P) (x:=a) (x':=a') (C.yd.Iw W (λi y c e G=>by obtain⟨k,L⟩:=M i y c e G;exact⟨_,_,_,_,_,L⟩) o e);simp[this]
 have jw:((gs.map (eM P a a' m)).setIfInBounds h a')[h]?=Z a':=kC (by simpa using aE);have E:((gs.map (eM P a a' m)).setIfInBounds h a').size=gs.size:=by simp
 have V:dU (T++db h a.frame.fn a.frame.place es) h=gW d es:=by rw[Deaf_own,C.deaf]
 have S:∀i a',touchAt (T++db h a.frame.fn a.frame.place es) i=Z a'->a'.write=U->St h a'.loc->Knows (T++db h a.frame.fn a.frame.place es) h i:=λi b K u A=>by
  obtain⟨x,o,N⟩:=nR K;rcases kY o with⟨_,X⟩|⟨_,fA⟩
  ·exact(C.wrote i b (by rw[sN X];exact N) u A).app _
  ·rw[(O x fA b N).1 h A]at u;cases u
 refine⟨⟨⟨λx y o R=>?_,M,C.yd.wf,C.yd.inj,λj D=>?_,λi f=>by rw[E];exact C.yd.lt i f,λi y e=>⟨by by_cases f:i=h;exact .inl f;exact .inr (.inl ⟨by rw[e];simp,f⟩),(C.yd.mem i y e).2⟩,λi f=>f.imp (·.1) (·.1),C.yd.lo,?_,W,C.yd.places,λj l D=>C.yd.fresh j l (by rw[E]at D;exact D)⟩,V,S⟩,jw,E⟩
 ·rw[ja x o]at R
  have f:=C.yd.idle x y o R;cases nD:ax x with
  |none=>rw[nD]at f;exact⟨f.1,by rw[mX T (λz=>o z.symm) _ J];exact f.2⟩
  |some s=>rw[nD]at f;exact f
 ·rw[E]at D
  rw[mX T (g':=h) ai _ J];exact C.yd.above j D
 ·have r:=BO (C.yd.past.fewer (Mem':=λg=>ax g≠Option.none/\g≠h) λg n=>.inl n) J O (λhm=>absurd F hm.2) hl
  refine⟨r.clean,r.known,λi t Q u g n A=>?_,λg n=>?_,r.seen,r.apart,r.plain⟩
  ·rcases n with n|⟨rfl,_⟩
   ·exact r.wrote i t Q u g n A
   ·exact S i t Q u A
  ·rcases n with n|⟨rfl,nF⟩
   ·exact r.hears g n
   ·rw[V];exact nF
theorem YH.awake(C:YH P St At Shun ax h d B T gs w q){a:aH}(f:gs[h]?=Z a)(k:a.status=.running\/a.status=.blocked):∀g∈gs,awake g:=by
 intro g j;obtain⟨i,c,rfl⟩:=Array.mem_iff_getElem.1 j;by_cases e:i=h
 ·subst e
  have:gs[i]=a:=by simpa[wZ c]using f
  rw[this];exact awake_of (k.elim .inl λx=>.inr (.inl x))
 ·have b:=C.yd.idle i _ e (wZ c)
  cases es:ax i with
  |none=>rw[es]at b;exact awake_of (b.2.status.elim .inl λx=>.inr (.inr x))
  |some s=>rw[es]at b;exact awake_of ((Sits.status (C.yd.keep i s es) b).elim (λx=>.inl x.1) λx=>.inr (.inl x.1))
theorem YH.ready:∀(μ:Nat)(T:dJ)(gs:af aH)(w:au)(q:Nat->Nat)(m:aj (Nat×Nat)),sumTo gs.size q=μ->YH P St At Shun ax h d B T gs w q->∀a,gs[h]?=Z a->a.status=.running->∃N D v j k s q',iz P N (crowd gs w m) T=(.next D,v)/\stepT P D=runT P (crowd j (w.at k) s) h/\j.size=gs.size/\j[h]?=Z a/\YH P St At Shun ax h d B v j (w.at k) q':=by
 intro μ;induction μ using Nat.strongRecOn with
 |_ μ ih=>
 intro T gs w q m hμ C a l o;obtain⟨i,g,k,s,M,zq,J⟩:=crowd_pick (P:=P) (w:=w) (sl:=m) (C.awake l (.inl o)) ⟨h,a,l,o⟩;have G:=Yd.at C.yd k;by_cases e:i=h
 ·subst e
  exact⟨0,crowd gs w m,T,gs,k,s,q,F,J,F,l,⟨G,C.deaf,C.wrote⟩⟩
 ·obtain⟨j,f,n,hr,K,ja,hn,H,_,O⟩:=G.by_step (sl:=s) (λt u i=>Knows.app u) M e zq
   (λx X r p=>by subst r;rw[l]at p;obtain rfl:=dQ p;exact again_of_running (.inl o) _)
   (λy _ _ _ x X c r p _=>by subst r;rw[l]at p;obtain rfl:=dQ p;exact sM (by rw[o];simp) _ _)
  have aE:i<gs.size:=(gG.1 M).1;have Q:sumTo j.size (upd q i n)<μ:=by
   rw[K,<-hμ];have:sumTo gs.size (upd q i n)+q i=sumTo gs.size q+n:=sumTo_upd q n id aE;omega
  have kN:dU (T++f) h=d:=by rw[mX T e f λop R=>(H op R).1];exact C.deaf
  have rW:∀A b,touchAt (T++f) A=Z b->b.write=U->St h b.loc->Knows (T++f) h A:=λA b hb E hS=>by
   obtain⟨x,r,L⟩:=nR hb;rcases kY r with⟨_,V⟩|⟨_,W⟩
   ·exact(C.wrote A b (by rw[sN V];exact L) E hS).app _
   ·rw[(H x W).2 b L]at E;cases E
  obtain⟨N,D,v,iZ,S,jx,q2,h1,h2,h3,h4,h5⟩:=ih _ Q (T++f) j (w.at k) (upd q i n) s rfl ⟨O,kN,rW⟩ a (by rw[ja h (λz=>e z.symm)];exact l) o;refine⟨N+1,D,v,iZ,S,jx,q2,?_,h2,h3.trans K,h4,h5⟩;simp only[iz,J,hr];exact h1
def mP(P:aA)(St At:Nat->Loc->Prop)(Shun:Loc->Prop)(ax:Nat->aj YS)(h B n:Nat)(m:fg)(T:dJ)(Q:Nat->aH->au->Prop):Prop:=∃N gs w c b q d a,iz P N m T=(.next (crowd gs w c),b)/\gs.size=n/\gs[h]?=Z a/\YH P St At Shun ax h d B b gs w q/\Q d a w
theorem mP.then{n:Nat}{m:fg}{Q e:Nat->aH->au->Prop}(s:mP P St At Shun ax h B n m T Q)(t:∀gs w c b q d a,gs.size=n->gs[h]?=Z a->YH P St At Shun ax h d B b gs w q->Q d a w->mP P St At Shun ax h B n (crowd gs w c) b e):mP P St At Shun ax h B n m T e:=by
 obtain⟨N,gs,w,c,b,q,d,a,k,l,o,p,r⟩:=s;obtain⟨f,u,E,v,g,D,j,i,x,y,z,A,C⟩:=t gs w c b q d a l o p r;exact⟨N+f,u,E,v,g,D,j,i,kG k x,y,z,A,C⟩
theorem HH(C:YH P St At Shun ax h d B T gs w q){a:aH}{sl:aj (Nat×Nat)}(b:gs[h]?=Z a){Q:Nat->aH->au->Prop}(c:Q d a w):mP P St At Shun ax h B gs.size (crowd gs w sl) T Q:=⟨0,gs,w,sl,T,q,d,a,F,F,b,C,c⟩
theorem YH.told(C:YH P St At Shun ax h d B T gs w q){a:aH}{sl:aj (Nat×Nat)}(r:gs[h]?=Z a)(m:a.status=.running){Q:Nat->aH->au->Prop}(t:∀e,∃b c es,aG P (h==0) a (w.at e)=.go b c es/\DZ St ax Shun B (w.at e) c es/\Q (gW d es) b c):mP P St At Shun ax h B gs.size (crowd gs w sl) T Q:=by
 obtain⟨N,y,x,z,e,jP,v,o,l,n,f,g⟩:=C.ready _ T gs w q sl F a r m;obtain⟨b,c,es,p,k,s⟩:=t e;obtain⟨i,u,j⟩:=g.own (a':=b) f k;exact⟨N+1,_,c,jP,_,v,_,b,runNT_succ_of o (by rw[l,vJ (sl:=jP) f p]),j.trans n,u,i,s⟩
theorem Ux:∀(n:Nat)(T:dJ)(gs:af aH)(w:au)(q:Nat->Nat)(c:aj (Nat×Nat))(a:aH)(Next:aH->Prop),YH P St At Shun ax h d B T gs w q->gs[h]?=Z a->Oz P (h==0) Next n a->mP P St At Shun ax h B gs.size (crowd gs w c) T λg f e=>g=d/\Next f/\AtRel w e:=by
 intro n;induction n with
 |zero=>intro T gs w q c a Next C j b;exact HH C j ⟨F,b default trivial,atRel_refl w⟩
 |succ n K=>
  intro T gs w q c a Next C j b;rcases b with b|⟨v,b⟩
  ·exact HH C j ⟨rfl,b default trivial,atRel_refl w⟩
  ·refine(C.told (sl:=c) j v (Q:=λg f e=>g=d/\Oz P (h==0) Next n f/\AtRel w e) λi=>?_).then λJ O L t M y u x m o H=>?_
   ·have k:=b (w.at i) trivial
    cases hgo:aG P (h==0) a (w.at i)with
    |go E e es=>
     rw[hgo,goes_go]at k;obtain⟨⟨rfl,rfl⟩,N⟩:=k;exact⟨E,w.at i,#[],F,DZ.still F,F,Goes.rely (λ_ _ _ _ _=>trivial) N trivial,⟨i,F⟩⟩
    |_=>rw[hgo]at k;exact k.elim
   ·obtain⟨rfl,s,G⟩:=H
    have:=K t J O M L u Next o m s;rw[x]at this;exact this.then λS w3 r V q3 X W l R p⟨z,A,D⟩=>by
     have:=HH (sl:=r) p R (Q:=λg f e=>g=y/\Next f/\AtRel w e) ⟨z,A,atRel_trans _ _ _ G D⟩;rw[l]at this;exact this
end
end
abbrev Lo(P:aA)(fs:af dF):aA:={P with funcs:=fs}
def OF(Hid:Loc->Prop)(b:Nat):Obj->Prop
 |.chan .. =>True
 |.cells c _ f=>c.size≠0/\f=(0,0)
 |.finalizers .. =>¬Hid (.obj b)
 |_=>False
def Uh:Obj->Prop
 |.number .. |.cells .. =>False
 |_=>True
def Plain(fx:Obj->Prop):Obj->Prop
 |.view .. |.chan .. |.pending .. =>False
 |.loop l=>fx (.loop l)
 |.deferred d=>fx (.deferred d)
 |_=>True
inductive Ao(fx:Obj->Prop)(Hid:Loc->Prop)(b:Nat):Obj->Obj->Prop
 |same (o:Obj) (h:Plain fx o):Ao fx Hid b o o
 |cut (c d:af ag) (t:aJ) (h0:0<c.size) (h:∀i,i<c.size->c[i]?=d[i]?) (hl:c.size<d.size):Ao fx Hid b (.cells c t) (.cells d t)
 |kR (cap:Nat) (buf:af ag) (cl:Bool) (s r:Nat) (tm:Bool) (O:Obj) (h:OF Hid b O):Ao fx Hid b (.chan cap buf cl s r tm) O
 |view (u:aJ) (O:Obj) (h:Uh O):Ao fx Hid b (.view ⟨0,0,Z 0⟩ u) O
def qd:Obj->Bool
 |.chan .. |.view .. =>U
 |_=>Y
structure Rel(fx:Obj->Prop)(Hid:Loc->Prop)(w W:au):Prop where
 size:w.heap.size=W.heap.size
 tape:w.tape=W.tape
 drawn:w.drawn=W.drawn
 os:w.os=W.os
 output:w.output=W.output
 obj:∀(b:Nat)(o:Obj),w.heap[b]?=Z o->∃O,W.heap[b]?=Z O/\Ao fx Hid b o O
 mT:∀a,Hid (.cell a)->a.block<w.heap.size/\w.cell? a=I
 pd:∀(r:Nat),Hid (.obj r)->r<w.heap.size/\∀o,w.heap[r]?=Z o->o.isChan=U
def HF(w:au)(r:Nat):Prop:=r<w.heap.size/\∀o,w.heap[r]?=Z o->qd o=Y
def sS(fx:Obj->Prop)(w:au):Prop:=∀(b:Nat)(d:aj (ae bV)),w.heap[b]?=Z (.deferred d)->fx (.deferred d)
theorem Rel.El{fx:Obj->Prop}{Hid:Loc->Prop}(h:Rel fx Hid w W):sS fx w:=λb d c=>by
 obtain⟨O,_,a⟩:=h.obj _ _ c;cases a with
 |same _ e=>exact e
structure iS(w W w' W':au):Prop where
 size:w.heap.size<=w'.heap.size
 tape:w'.tape=w.tape
 drawn:w.drawn<=w'.drawn
 os:w'.os=w.os
 chan:∀(b:Nat)(o:Obj),w.heap[b]?=Z o->qd o=U->w'.heap[b]?=Z o/\W'.heap[b]?=W.heap[b]?
 cell:∀a,a.block<w.heap.size->w.cell? a=I->w'.cell? a=I/\W'.cell? a=W.cell? a
 shape:∀b,b<w.heap.size->w'.shape? b=w.shape? b/\W'.shape? b=W.shape? b
 M3:∀(b:Nat)(o:Obj),w'.heap[b]?=Z o->qd o=U->w.heap[b]?=Z o
theorem iS.refl(w W:au):iS w W w W:=⟨df _,F,df _,F,λ_ _ h _=>⟨h,F⟩,λ_ _ h=>⟨h,F⟩,λ_ _=>⟨F,F⟩,λ_ _ h _=>h⟩
theorem iS.trans{n j p l:au}(h:iS w W n j)(k:iS n j p l):iS w W p l:=by
 refine⟨sK h.size k.size,k.tape.trans h.tape,sK h.drawn k.drawn,k.os.trans h.os,λb o i e=>?_,λa m q=>?_,λb i=>?_,λb o c e=>h.M3 b o (k.M3 b o c e) e⟩
 ·obtain⟨d,c⟩:=h.chan b o i e
  obtain⟨f,g⟩:=k.chan b o d e;exact⟨f,g.trans c⟩
 ·obtain⟨d,c⟩:=h.cell a m q
  obtain⟨f,g⟩:=k.cell a (ayS m h.size) d;exact⟨f,g.trans c⟩
 ·obtain⟨d,c⟩:=h.shape b i
  obtain⟨f,g⟩:=k.shape b (ayS i h.size);exact⟨f.trans d,g.trans c⟩
theorem iS.even{c d:au}(h:iS w W c d){r:Nat}(b:HF w r):HF c r:=⟨ayS b.1 h.size,λo e=>by
                                                                    by_cases a:qd o=U
                                                                    ·rw[b.2 o (h.M3 r o e a)]at a;cases a
                                                                    ·simpa using a⟩
def qt(Hid:Loc->Prop)(B:Nat)(e:cX):Prop:=
 match e.loc with
 |.cell a=>¬Hid (.cell a)/\a.block<B/\e.sync=Y
 |.obj r=>r<B/\((¬Hid (.obj r)/\e.sync=Y)\/(e.write=Y/\e.sync=U))
 |.mark (.extern _)|.mark .noRoom=>True
 |_=>False
theorem qt.mono{Hid:Loc->Prop}{B C:Nat}{e:cX}(h:qt Hid B e)(c:B<=C):qt Hid C e:=by
 obtain⟨b,f,d⟩:=e;cases b with
 |cell a=>exact⟨h.1,ayS h.2.1 c,h.2.2⟩
 |obj r=>exact⟨ayS h.1 c,h.2⟩
 |mark m=>cases m<;>exact h
 |output=>exact h
 |goroutines=>exact h
def re(w:au)(t:Nat->Question->Nat)(d:Nat):au:={w with tape:=t,drawn:=d}
def tN(p:aA){α:Type}(s:Sem α)(w:au)(v:α)(b:au):Prop:=∃n a,b=re a w.tape (w.drawn+n)/\∀t d,(∀i,i<n->∀q,t (d+i) q=w.tape (w.drawn+i) q)->s.run p (re w t d)=.ok v (re a t (d+n))
theorem tN.congr{p:aA}{α:Type}{s s2:Sem α}{a:au}{v:α}(h:∀t d,s.run p (re w t d)=s2.run p (re w t d))(l:tN p s2 w v a):tN p s w v a:=by
 obtain⟨n,f,b,c⟩:=l;exact⟨n,f,b,λt d e=>(h t d).trans (c t d e)⟩
theorem zG{p:aA}{α:Type}{s:Sem α}{a:au}{v:α}(h:∀t d,s.run p (re w t d)=.ok v (re a t d))(c:a.tape=w.tape)(b:a.drawn=w.drawn):tN p s w v a:=⟨0,a,by rw[<-c,Nat.add_zero,<-b];rfl,λt d _=>h t d⟩
theorem tN.bind{p:aA}{α β:Type}{s:Sem α}{k:α->Sem β}{c:au}{v:α}{u:β}(l:tN p s w v c)(m:tN p (k v) c u e):tN p (s>>=k) w u e:=by
 obtain⟨n,x,rfl,h⟩:=l;obtain⟨m,f,rfl,o⟩:=m;refine⟨n+m,f,by simp[re,yO],λt d b=>?_⟩;have g:(s>>=k).run p (re w t d)=(s.run p (re w t d)).andThen λa r=>(k a).run p r:=yQ _ s k _;rw[g,h t d λi j q=>b i ai q];show(k v).run p (re x t (d+n))=_;have:=o t (d+n) λi j q=>by
  have:=b (n+i) ai q;rw[yO,this];show w.tape (w.drawn+(n+i)) q=w.tape (w.drawn+n+i) q;rw[yO]
 rw[yO]at this;exact this
section
variable (P:aA)(fs:af dF)(fx:Obj->Prop)(Hid:Loc->Prop)
def Ends{α:Type}(S:Sem α)(w W b:au)(v:α):Prop:=∃a c,(∀es,S.runT P W es=(.ok v a,es++c))/\Rel fx Hid b a/\iS w W b a/\∀e∈c,qt Hid b.heap.size e
def oX{α:Type}(rs:ae Nat)(s S:Sem α):Prop:=∀w W,Rel fx Hid w W->(∀r,r∈rs->HF w r)->(∀v a,s.run (Lo P fs) w=.ok v a->Ends P fx Hid S w W a v/\tN (Lo P fs) s w v a)/\∀x a,s.run (Lo P fs) w=.halt x a->sS fx a
abbrev Sm{α:Type}(rs:ae Nat)(s:Sem α):Prop:=oX P fs fx Hid rs s s
def mj{α:Type}(s:Sem α):Prop:=∀w,(∀v a,s.run (Lo P fs) w≠.ok v a)/\∀fx x a,s.run (Lo P fs) w=.halt x a->sS fx w->sS fx a
def nU{α:Type}(s:Sem α):Prop:=∀fx w,sS fx w->(∀v a,s.run (Lo P fs) w=.ok v a->sS fx a)/\∀x a,s.run (Lo P fs) w=.halt x a->sS fx a
end
section
variable {P:aA}{fs:af dF}{fx:Obj->Prop}{Hid:Loc->Prop}{α β:Type}{rs:ae Nat}
theorem mj.kA{s S:Sem α}(h:mj P fs s):oX P fs fx Hid rs s S:=λw _ b _=>⟨λv a e=>absurd e ((h w).1 v a),λx a e=>(h w).2 fx x a e b.El⟩
theorem Lj(h:Halt):mj P fs (.halt h:Sem α):=λw=>⟨λv b e=>(by cases e),λfx x b e a=>(by cases e;exact a)⟩
theorem fJ(s:String):mj P fs (stuck s:Sem α):=Lj _
theorem s9(u:Unsupported):mj P fs (unsupported u:Sem α):=Lj _
theorem Li(v:ag):mj P fs (goPanic v:Sem α):=Lj _
theorem mj.bind{s:Sem α}{k:α->Sem β}(h:mj P fs s):mj P fs (s>>=k):=λw=>by
 have d:(s>>=k).run (Lo P fs) w=(s.run (Lo P fs) w).andThen λa b=>(k a).run (Lo P fs) b:=yQ _ s k w;rw[d];cases hc:s.run (Lo P fs) w with
 |ok v c=>exact absurd hc ((h w).1 v c)
 |halt x c=>exact⟨λv b e=>(by cases e),λfx y b e f=>(by cases e;exact(h w).2 fx _ _ hc f)⟩
theorem Az{s:Sem α}{k:α->Sem β}(f:nU P fs s)(h:∀v,mj P fs (k v)):mj P fs (s>>=k):=λw=>by
 have i:(s>>=k).run (Lo P fs) w=(s.run (Lo P fs) w).andThen λa b=>(k a).run (Lo P fs) b:=yQ _ s k w;rw[i];cases hc:s.run (Lo P fs) w with
 |ok g d=>exact⟨λv b e=>(h g d).1 v b e,λfx y b e c=>(h g d).2 fx y b e ((f fx w c).1 _ _ hc)⟩
 |halt x d=>exact⟨λv b e=>(by cases e),λfx y b e c=>(by cases e;exact(f fx w c).2 _ _ hc)⟩
theorem tD(a:α):nU P fs (Pure.pure a:Sem α):=λfx w b=>⟨λv c e=>(by cases e;exact b),λx c e=>(by cases e)⟩
theorem TW:nU P fs program:=λfx w a=>⟨λv b e=>(by cases e;exact a),λx b e=>(by cases e)⟩
theorem sD{s:Sem α}{k:α->Sem β}(d:nU P fs s)(h:∀v,nU P fs (k v)):nU P fs (s>>=k):=λfx w c=>by
 have g:(s>>=k).run (Lo P fs) w=(s.run (Lo P fs) w).andThen λa b=>(k a).run (Lo P fs) b:=yQ _ s k w;rw[g];cases hc:s.run (Lo P fs) w with
 |ok i f=>exact h i fx f ((d fx w c).1 _ _ hc)
 |halt x f=>exact⟨λv b e=>(by cases e),λy b e=>(by cases e;exact(d fx w c).2 _ _ hc)⟩
theorem mj.TV{s:Sem α}(h:mj P fs s):nU P fs s:=λfx w b=>⟨λv a e=>absurd e ((h w).1 v a),λx a e=>(h w).2 fx x a e b⟩
theorem awG(t:aJ)(c:af ag):nU P fs (newRow t c):=λfx w f=>⟨λv g e=>(by
 cases e;intro b d a;simp only[Ft]at a;split at a
 ·cases a
 ·exact f b d a),λx g e=>(by cases e)⟩
theorem awC(q:Question):nU P fs (choose q):=λfx w b=>by
 have c:(choose q).run (Lo P fs) w=if q.forced=U then .ok 0 w else .ok (q.cut (w.tape w.drawn q)) {w with drawn:=w.drawn+1}:=by
  simp only[choose,bx]
 rw[c];split
 ·exact⟨λv a e=>(by cases e;exact b),λx a e=>(by cases e)⟩
 ·exact⟨λv a e=>(by cases e;exact b),λx a e=>(by cases e)⟩
theorem awK(t:aJ):nU P fs (underlying t):=by
 unfold underlying;refine sD TW λp=>?_;split
 ·exact tD _
 ·exact(fJ _).TV
theorem awD(t:aJ):nU P fs (elemOf t):=by
 unfold elemOf;refine sD (awK t) λp=>?_;split<;>first|exact tD _|exact(fJ _).TV
theorem rB(r:RuntimeError):mj P fs (runtimePanic r:Sem α):=by
 unfold runtimePanic;refine Az TW λp=>?_;cases r<;>first|exact Li _|exact Az (awD _) λ_=>Az (awG _ _) λ_=>Li _
theorem afg(k:IntKind)(x y:Int)(c:BoundsCode):mj P fs (boundsPanic k x y c:Sem α):=by
 unfold boundsPanic;dsimp only
 split
 ·exact Az (sD (awC _) λ_=>tD _) λ_=>rB _
 ·exact Az (tD _) λ_=>rB _
theorem Ku{S:Sem α}{v:α}(a:Rel fx Hid w W)(h:∀es,S.runT P W es=(.ok v W,es)):Ends P fx Hid S w W w v:=⟨W,#[],λes=>by rw[h];simp,a,iS.refl _ _,by simp⟩
theorem CZ{s S:Sem α}(c:∀w W,Rel fx Hid w W->(∀r,r∈rs->HF w r)->∀v a,s.run (Lo P fs) w=.ok v a->Ends P fx Hid S w W a v/\tN (Lo P fs) s w v a)(hh:∀w x a,s.run (Lo P fs) w=.halt x a->a=w):oX P fs fx Hid rs s S:=λw W b d=>⟨c w W b d,λx a e=>by rw[hh w x a e];exact b.El⟩
theorem br(a:α):Sm P fs fx Hid rs (Pure.pure a):=λw W h _=>⟨λv b e=>by
 cases e;exact⟨Ku h λ_=>rfl,zG (λ_ _=>rfl) F F⟩,λx b e=>by cases e⟩
theorem NO(h:Halt):Sm P fs fx Hid rs (Sem.halt h:Sem α):=(Lj h).kA
theorem dm(s:String):Sm P fs fx Hid rs (stuck s:Sem α):=NO _
theorem lA(u:Unsupported):Sm P fs fx Hid rs (unsupported u:Sem α):=NO _
theorem aut(v:ag):Sm P fs fx Hid rs (goPanic v:Sem α):=NO _
theorem wU(r:RuntimeError):Sm P fs fx Hid rs (runtimePanic r:Sem α):=(rB r).kA
theorem aaQ(k:IntKind)(x y:Int)(c:BoundsCode):Sm P fs fx Hid rs (boundsPanic k x y c:Sem α):=(afg k x y c).kA
theorem aaO{s S:Sem α}{k K:α->Sem β}(m:oX P fs fx Hid rs s S)(E:∀v w f,s.run (Lo P fs) w=.ok v f->oX P fs fx Hid rs (k v) (K v)):oX P fs fx Hid rs (s>>=k) (S>>=K):=by
 intro w W l d;have z:(s>>=k).run (Lo P fs) w=(s.run (Lo P fs) w).andThen λa f=>(k a).run (Lo P fs) f:=yQ _ s k w;have A:∀es,(S>>=K).runT P W es=_:=λes=>Sem.runT_bind' P S K W es;rw[z];cases hc:s.run (Lo P fs) w with
 |ok v c=>
  obtain⟨⟨u,M,C,B,j,L⟩,H⟩:=(m w W l d).1 v c hc;have i:=E v w c hc c u B (λr G=>j.even (d r G));refine⟨λn b e=>?_,λx b e=>i.2 x b e⟩;obtain⟨⟨y,q,t,o,g,p⟩,J⟩:=i.1 n b e;exact⟨⟨y,M++q,λes=>by rw[A,C];simp only;rw[t,Da],o,j.trans g,λe D=>(Array.mem_append.1 D).elim (λh=>(L e h).mono g.size) (p e)⟩,H.bind J⟩
 |halt h c=>exact⟨λn b e=>(by cases e),λx b e=>(by cases e;exact(m w W l d).2 _ _ hc)⟩
theorem atk{s S:Sem α}{k K:α->Sem β}(b:oX P fs fx Hid rs s S)(a:∀v,oX P fs fx Hid rs (k v) (K v)):oX P fs fx Hid rs (s>>=k) (S>>=K):=aaO b λv _ _ _=>a v
theorem bf{s:Sem α}{k:α->Sem β}(b:Sm P fs fx Hid rs s)(a:∀v,Sm P fs fx Hid rs (k v)):Sm P fs fx Hid rs (s>>=k):=atk b a
theorem jX{c:Prop} [Decidable c]{s t:Sem α}(a:c->Sm P fs fx Hid rs s)(b:¬c->Sm P fs fx Hid rs t):Sm P fs fx Hid rs (if c then s else t):=by
 split
 ·exact a ‹_›
 ·exact b ‹_›
theorem nO{k:aA->Sem α}(f:k (Lo P fs)=k P)(h:Sm P fs fx Hid rs (k P)):Sm P fs fx Hid rs (program>>=k):=λw W d c=>by
 have b:∀w,(program>>=k).run (Lo P fs) w=(k P).run (Lo P fs) w:=λw=>by
  show(k (Lo P fs)).run (Lo P fs) w=_;rw[f]
 rw[b];refine⟨λv a e=>?_,λx a e=>(h w W d c).2 x a e⟩;obtain⟨x,l⟩:=(h w W d c).1 v a e;exact⟨x,l.congr λ_ _=>b _⟩
theorem Bz(t:aJ):Sm P fs fx Hid rs (typeInfo t):=by
 refine nO F ?_;split
 ·exact br _
 ·exact dm _
theorem pD(t:aJ):Sm P fs fx Hid rs (underlying t):=by
 refine nO F ?_;split
 ·exact br _
 ·exact dm _
theorem wV(t:aJ):Sm P fs fx Hid rs (sizeOf t):=bf (Bz t) λ_=>br _
theorem TL(t:aJ):Sm P fs fx Hid rs (zeroValue t):=bf (Bz t) λi=>by
 split
 ·exact br _
 ·exact lA _
theorem aa8(t:aJ):Sm P fs fx Hid rs (isAgg t):=bf (pD t) λ_=>by
 split<;>exact br _
theorem TJ(t:aJ):Sm P fs fx Hid rs (typeStr t):=bf (Bz t) λ_=>jX (λ_=>lA _) λ_=>br _
theorem Rel.cell(h:Rel fx Hid w W)(b:w.cell? a=Z v):W.cell? a=Z v/\a.block<w.heap.size/\¬Hid (.cell a):=by
 refine⟨?_,?_,λi=>by rw[(h.mT a i).2]at b;cases b⟩
 ·unfold fR at b⊢
  split at b
  ·rename_i c _ _ e
   obtain⟨O,f,g⟩:=h.obj _ _ e;rw[f];cases g with
   |same=>exact b
   |cut c d t k j l=>
    simp only at b⊢;split at b
    ·cases b
    ·rw[if_neg ‹_›]
     have:a.off<c.size:=(gG.1 b).1;rw[<-j _ this];exact b
  ·cases b
 ·unfold fR at b
  split at b
  ·rename_i e
   exact(gG.1 e).1
  ·cases b
theorem Rel.lt(_:Rel fx Hid w W){b:Nat}{o:Obj}(a:w.heap[b]?=Z o):b<w.heap.size:=(gG.1 a).1
theorem seen_spot(p:aA)(w:au)(u:aJ)(k:aR)(a:Bool):∃e,w.seen p ⟨0,0,Z 0⟩ u k a=.error e:=by
 unfold World.seen;rw[if_pos aZ];exact⟨_,F⟩
theorem axm(p:aA)(w:au)(u:aJ)(k:aR)(a:Bool):∃e,w.viewLoad p ⟨0,0,Z 0⟩ u k a=.error e:=by
 obtain⟨e,b⟩:=seen_spot p w u k a;unfold World.viewLoad;rw[b];exact⟨_,F⟩
theorem axn(p:aA)(w:au)(u:aJ)(k:aR)(v:ag)(a:Bool):∃e,w.viewStore p ⟨0,0,Z 0⟩ u k v a=.error e:=by
 obtain⟨e,c⟩:=seen_spot p w u k a;unfold World.viewStore;by_cases b:(!tight p p.depth u)=U
 ·rw[if_pos b]
  exact⟨_,F⟩
 ·rw[if_neg b,c]
  exact⟨_,F⟩
theorem Rel.Gb(h:Rel fx Hid w W)(p:aA)(b:Bool):(∀r,w.farLoad p a b≠.ok r)/\∀v r,w.farStore p a v b≠.ok r:=by
 unfold World.farLoad World.farStore;cases hb:w.heap[a.block]? with
 |none=>exact⟨λr=>aZ,λv r=>aZ⟩
 |some o=>
  obtain⟨O,_,d⟩:=h.obj _ _ hb;cases d with
  |same _ f=>cases o<;>first|exact f.elim|exact⟨λr=>aZ,λv r=>aZ⟩
  |cut=>exact⟨λr=>aZ,λv r=>aZ⟩
  |kR=>exact⟨λr=>aZ,λv r=>aZ⟩
  |view u O g=>
   refine⟨λr=>?_,λx r=>?_⟩
   ·obtain⟨e,c⟩:=axm p w u a b
    simp only[c];simp
   ·obtain⟨e,c⟩:=axn p w u a x b
    simp only[c];simp
theorem aba(a:aR):Sm P fs fx Hid rs (load a):=λw W h _=>by
 rw[run_load];cases hc:w.cell? a with
 |some x=>
  refine⟨λv b e=>?_,λx b e=>by cases e⟩;cases e;obtain⟨f,g,i⟩:=h.cell hc;exact⟨⟨W,#[⟨.cell a,Y,Y⟩],λes=>(by simp only[load,nt,f];rfl),h,iS.refl _ _,λe c=>(by simp at c;subst c;exact⟨i,g,F⟩)⟩,zG (λt d=>by rw[run_load];have:(re w t d).cell? a=Z x:=hc;rw[this]) F F⟩
 |none=>
  simp only
  cases hf:w.farLoad (Lo P fs) a (Mode.plain==Mode.atomic)with
  |ok r=>exact absurd hf ((h.Gb _ _).1 _)
  |error x=>exact⟨λv b e=>(by cases e),λx b e=>(by cases e;exact h.El)⟩
theorem kK(h:w.cell? a=Z v):∃c t f,w.heap[a.block]?=Z (.cells c t f)/\a.spot=I/\a.off<c.size/\c[a.off]?=Z v:=by
 unfold fR at h;split at h
 ·rename_i c t f b
  split at h
  ·cases h
  ·rename_i d
   exact⟨c,t,f,b,by simpa using d,(gG.1 h).1,h⟩
 ·cases h
theorem heap_setCell{c:af ag}{f:Nat×Nat}(h:w.heap[a.block]?=Z (.cells c t f))(e:a.spot=I)(v:ag)(b:Nat):(w.setCell a v).heap[b]?=if b=a.block then Z (.cells (c.setIfInBounds a.off v) t f)else w.heap[b]?:=by
 unfold World.setCell;simp only[Fs];by_cases d:a.block=b
 ·subst d
  simp[h,e]
 ·simp[d,Ne.symm d]
theorem size_setCell(w:au)(a:aR)(v:ag):(w.setCell a v).heap.size=w.heap.size:=by simp[World.setCell]
theorem DC{c:af ag}{f:Nat×Nat}(h:w.heap[a.block]?=Z (.cells c t f)):w.cell? a=if a.spot.isSome then I else c[a.off]?:=by
 simp[fR,h]
theorem za(h:w.cell? a=Z x)(v:ag)(b:aR):(w.setCell a v).cell? b=if b=a then Z v else w.cell? b:=by
 obtain⟨c,t,f,j,k,l,_⟩:=kK h;have d:=heap_setCell j k v b.block;by_cases e:b=a
 ·subst e
  rw[if_pos F]at d;rw[DC d,if_pos F,k];simp[l]
 ·rw[if_neg e]
  by_cases g:b.block=a.block
  ·rw[if_pos g]at d
   rw[DC d,DC (g▸j)];by_cases i:b.spot.isSome
   ·simp[i]
   ·simp only[i]
    have:a.off≠b.off:=λm=>e (by
     cases a;cases b;simp_all)
    simp[ie this]
  ·rw[if_neg g]at d
   simp[fR,d]
theorem yw(h:w.cell? a=Z x)(v:ag)(b:Nat):(w.setCell a v).shape? b=w.shape? b:=by
 obtain⟨c,t,f,d,g,i,_⟩:=kK h;unfold fD;rw[heap_setCell d g v b];by_cases e:b=a.block
 ·subst e;simp[d]
 ·simp[e]
theorem Rel.setCell(h:Rel fx Hid w W)(g:w.cell? a=Z x)(v:ag):Rel fx Hid (w.setCell a v) (W.setCell a v)/\iS w W (w.setCell a v) (W.setCell a v):=by
 have p:=(h.cell g).1;obtain⟨c,t,f,l,D,K,_⟩:=kK g;obtain⟨C,T,F,A,_,G,_⟩:=kK p;have k:=heap_setCell l D v;have m:=heap_setCell A D v;refine⟨⟨by rw[size_setCell,size_setCell];exact h.size,h.tape,h.drawn,h.os,h.output,λb o d=>?_,λb d=>?_,λr M=>?_⟩,⟨Nat.le_of_eq (size_setCell ..).symm,rfl,df _,rfl,λb o d q=>?_,λb d s=>?_,λb _=>⟨yw g v b,yw p v b⟩,λb o d q=>?_⟩⟩
 ·rw[k]at d
  by_cases e:b=a.block
  ·subst e
   rw[if_pos rfl]at d;cases d;refine⟨_,by rw[m,if_pos rfl],?_⟩;obtain⟨O,B,H⟩:=h.obj _ _ l;rw[A]at B;cases B;cases H with
   |same _ L=>exact .same _ L
   |cut _ _ _ E J aE=>
    refine .cut _ _ _ (by simpa using E) (λi z=>?_) (by simpa using aE);simp only[pH]at z;rw[tJ,tJ,J i z];by_cases y:a.off=i
    ·subst y;simp[K,G]
    ·simp[y]
  ·rw[if_neg e]at d
   rw[m,if_neg e];exact h.obj b o d
 ·obtain⟨n,j⟩:=h.mT b d
  refine⟨by rw[size_setCell];exact n,?_⟩;rw[za g,if_neg (λe=>by rw[e,g]at j;cases j),j]
 ·obtain⟨n,j⟩:=h.pd r M
  refine⟨by rw[size_setCell];exact n,λo u=>?_⟩;rw[k]at u;by_cases e:r=a.block
  ·subst e
   exact absurd (j _ l) (by simp[Obj.isChan])
  ·rw[if_neg e]at u
   exact j o u
 ·have e:b≠a.block:=λe=>by subst e;rw[l]at d;cases d;simp[qd]at q
  rw[k,m,if_neg e,if_neg e];exact⟨d,rfl⟩
 ·have e:b≠a:=λe=>by rw[e,g]at s;cases s
  rw[za g,za p,if_neg e,if_neg e];exact⟨s,rfl⟩
 ·rw[k]at d
  by_cases e:b=a.block
  ·subst e;rw[if_pos rfl]at d;cases d;simp[qd]at q
  ·rwa[if_neg e]at d
theorem Rel.frozen(h:Rel fx Hid w W)(g:w.cell? a=Z x):W.frozen? a=w.frozen? a:=by
 obtain⟨c,t,f,b,j,i,_⟩:=kK g;obtain⟨O,d,e⟩:=h.obj _ _ b;unfold pN;rw[b,d];cases e<;>rfl
theorem avo(a:aR)(v:ag):Sm P fs fx Hid rs (store a v):=by
 refine CZ (λw W h _ v' q e=>?_) λw x q e=>?_;by_cases b:v.oneCell'=U
 ·rw[run_store _ _ _ _ _ b]at e
  cases hc:w.cell? a with
  |some x=>
   rw[hc]at e;simp only at e;by_cases c:w.frozen? a=U
   ·rw[if_pos c]at e;cases e
   ·rw[if_neg c]at e
    cases e;obtain⟨k,l,m⟩:=h.cell hc;obtain⟨o,p⟩:=h.setCell hc v;have n:¬W.frozen? a=U:=by rw[h.frozen hc];exact c
    refine⟨⟨W.setCell a v,#[⟨.cell a,U,Y⟩],λes=>?_,o,p,λe g=>?_⟩,zG (λt d=>?_) F F⟩
    ·rw[jR,run_store _ _ _ _ _ b,events_store _ _ _ _ _ _ b,k]
     simp only[if_neg n];rfl
    ·simp at g;subst g;exact⟨m,by rw[size_setCell];exact l,F⟩
    ·rw[run_store _ _ _ _ _ b]
     have i:(re w t d).cell? a=Z x:=hc;have j:¬(re w t d).frozen? a=U:=c;rw[i];simp only[if_neg j];rfl
  |none=>
   rw[hc]at e;simp only at e;cases c:w.farStore (Lo P fs) a v (Mode.plain==Mode.atomic)with
   |ok r=>exact absurd c ((h.Gb _ _).2 _ _)
   |error x=>rw[c]at e;cases e
 ·have:∃s,(store a v).run (Lo P fs) w=.halt (.stuck s) w:=by
   cases v<;>first|exact absurd rfl b|exact⟨_,rfl⟩
  obtain⟨s,f⟩:=this;rw[f]at e;cases e
 ·by_cases b:v.oneCell'=U
  ·rw[run_store _ _ _ _ _ b]at e
   split at e
   ·split at e<;>cases e
    rfl
   ·split at e<;>cases e
    rfl
  ·have:∃s,(store a v).run (Lo P fs) w=.halt (.stuck s) w:=by
    cases v<;>first|exact absurd rfl b|exact⟨_,rfl⟩
   obtain⟨s,f⟩:=this;rw[f]at e;cases e;rfl
theorem getElem?_push(a:af Obj)(o:Obj)(b:Nat):(a.push o)[b]?=if b=a.size then Z o else a[b]?:=by
 rw[Ft]
theorem Plain.even{fx:Obj->Prop}{o:Obj}(h:Plain fx o):qd o=Y:=by
 cases o<;>first|rfl|exact h.elim
theorem Rel.push(h:Rel fx Hid w W){o:Obj}(l:Plain fx o):Rel fx Hid {w with heap:=w.heap.push o} {W with heap:=W.heap.push o}/\iS w W {w with heap:=w.heap.push o} {W with heap:=W.heap.push o}:=by
 have c:∀b,b<w.heap.size->(w.heap.push o)[b]?=w.heap[b]?:=λb a=>by rw[getElem?_push,if_neg ai]
 have f:∀b,b<w.heap.size->(W.heap.push o)[b]?=W.heap[b]?:=λb a=>by rw[getElem?_push,if_neg (by rw[<-h.size];omega)]
 refine⟨⟨by simp[h.size],h.tape,h.drawn,h.os,h.output,λb d a=>?_,λb a=>?_,λr n=>?_⟩,⟨by simp,F,df _,F,λb d a j=>?_,λb a k=>?_,λb a=>?_,λb d a j=>?_⟩⟩
 ·simp only at a⊢
  rw[getElem?_push]at a⊢;rw[<-h.size];by_cases e:b=w.heap.size
  ·rw[if_pos e]at a⊢
   cases a;exact⟨_,F,.same _ l⟩
  ·rw[if_neg e]at a⊢
   exact h.obj b d a
 ·obtain⟨g,i⟩:=h.mT b a
  refine⟨by simp;omega,?_⟩;unfold fR at i⊢;simp only
  rwa[c _ g]
 ·obtain⟨g,i⟩:=h.pd r n
  refine⟨by simp;omega,λd m=>i d ?_⟩;rwa[c _ g]at m
 ·have aE:=h.lt a
  exact⟨by rw[c _ aE];exact a,f _ aE⟩
 ·unfold fR at k⊢
  simp only
  rw[c _ a,f _ a];exact⟨k,F⟩
 ·unfold fD
  simp only
  rw[c _ a,f _ a];exact⟨F,F⟩
 ·simp only at a
  rw[getElem?_push]at a;by_cases e:b=w.heap.size
  ·rw[if_pos e]at a
   cases a;rw[l.even]at j;cases j
  ·rwa[if_neg e]at a
theorem zU{o:Obj}(c:Plain fx o):Sm P fs fx Hid rs (newObj o):=by
 refine CZ (λw W h _ v f e=>?_) λw x f e=>by rw[run_newObj]at e;cases e
 rw[run_newObj]at e;cases e;obtain⟨a,b⟩:=h.push c;exact⟨⟨_,#[],λes=>by rw[h.size];rfl,a,b,by simp⟩,zG (λt d=>by rw[run_newObj];rfl) F F⟩
theorem abf(t:aJ)(c:af ag):Sm P fs fx Hid rs (newRow t c):=bf (zU trivial) λ_=>br _
theorem auT(t:aJ)(v:ag):Sm P fs fx Hid rs (newVar t v):=abf t _
theorem Hm(q:Question):Sm P fs fx Hid rs (choose q):=by
 refine CZ (λw W h _ v g e=>?_) λw x g e=>by rw[run_choose]at e;split at e<;>cases e
 rw[run_choose]at e;by_cases a:q.forced=U
 ·rw[if_pos a]at e
  cases e;exact⟨Ku h λes=>(by simp only[choose,nt,a,if_true]),zG (λt d=>by rw[run_choose,if_pos a]) F F⟩
 ·rw[if_neg a]at e
  cases e;refine⟨⟨{W with drawn:=W.drawn+1},#[],λes=>?_,⟨h.size,h.tape,by simp[h.drawn],h.os,h.output,h.obj,h.mT,h.pd⟩,⟨df _,F,by simp,F,λ_ _ b _=>⟨b,F⟩,λ_ _ f=>⟨f,F⟩,λ_ _=>⟨F,F⟩,λ_ _ b _=>b⟩,by simp⟩,1,w,F,λt d c=>?_⟩;simp only[choose,nt,if_neg a,h.tape,h.drawn];simp
  ·have:=c 0 ai q
   simp only[Nat.add_zero]at this;rw[run_choose,if_neg a];show Result.ok (q.cut (t d q)) _=_;rw[this];rfl
theorem auM:Sm P fs fx Hid rs (mark .noRoom):=CZ (hh:=λw x a e=>by cases e) λw W h _ v a e=>by
 cases e;exact⟨⟨W,#[⟨.mark .noRoom,Y,U⟩],λes=>rfl,h,iS.refl _ _,by simp[qt]⟩,zG (λ_ _=>rfl) F F⟩
theorem auK(f:bA):Sm P fs fx Hid rs (mark (.extern f)):=CZ (hh:=λw x a e=>by cases e) λw W h _ v a e=>by
 cases e;exact⟨⟨W,#[⟨.mark (.extern f),Y,U⟩],λes=>rfl,h,iS.refl _ _,by simp[qt]⟩,zG (λ_ _=>rfl) F F⟩
theorem atw(n:Nat):Sm P fs fx Hid rs (askRoom n):=by
 unfold askRoom;exact jX (λ_=>auM) λ_=>br _
def mz:Obj->Bool
 |.cells .. =>U
 |_=>Y
theorem aus{r:Nat}{k:Obj->Sem β}(n:∀o,Plain fx o->Sm P fs fx Hid (r::rs) (k o))(m:∀o,qd o=U->mj P fs (k o))(w W:au)(h:Rel fx Hid w W)(j:∀r,r∈rs->HF w r)(x:Halt)(a:au)(e:(jZ r>>=k).run (Lo P fs) w=.halt x a):sS fx a:=by
 have i:(jZ r>>=k).run (Lo P fs) w=(vI r k).run (Lo P fs) w:=rfl;rw[i]at e;unfold bx at e;cases hb:w.heap[r]? with
 |none=>rw[hb]at e;cases e;exact h.El
 |some o=>
  rw[hb]at e;by_cases c:mz o=U
  ·cases o<;>first|exact absurd c jQ|(cases e;exact h.El)
  ·have f:(k o).run (Lo P fs) w=.halt x a:=by
    cases o<;>first|exact absurd rfl c|exact e
   by_cases b:qd o=U
   ·exact(m o b w).2 fx x a f h.El
   ·obtain⟨O,s,l⟩:=h.obj _ _ hb
    cases l with
    |cut=>exact absurd F c
    |kR=>exact absurd F b
    |view=>exact absurd F b
    |same _ p=>
     exact(n o p w W h (λq d=>by
      rcases bQ.1 d with rfl|d
      ·exact⟨h.lt hb,λt g=>by rw[hb]at g;cases g;simpa using b⟩
      ·exact j q d)).2 x a f
theorem vu{r:Nat}{k:Obj->Sem β}(q:∀o,Plain fx o->Sm P fs fx Hid (r::rs) (k o))(p:∀o,qd o=U->mj P fs (k o)):Sm P fs fx Hid rs (jZ r>>=k):=by
 intro w W h n;refine⟨λv b e=>?_,λx b e=>?_⟩
 rotate_left
 ·exact aus q p w W h n x b e
 have D:(jZ r>>=k).run (Lo P fs) w=(vI r k).run (Lo P fs) w:=rfl;rw[D]at e;unfold bx at e;cases hb:w.heap[r]? with
 |none=>rw[hb]at e;cases e
 |some o=>
  rw[hb]at e;by_cases a:qd o=U
  ·have i:=(p o a w).1 v b
   cases o<;>first|exact absurd a jQ|exact absurd e i
  ·obtain⟨O,G,H⟩:=h.obj _ _ hb
   cases H with
   |cut=>cases e
   |kR=>exact absurd F a
   |view=>exact absurd F a
   |same _ s=>
    have Q:¬Hid (.obj r):=λL=>by
     have:=(h.pd r L).2 o hb;cases o<;>simp_all[Obj.isChan,qd]
    have B:=(q o s w W h (λN j=>by
     rcases bQ.1 j with rfl|j
     ·exact⟨h.lt hb,λS u=>by rw[hb]at u;cases u;simpa using a⟩
     ·exact n N j)).1 v b
    by_cases f:mz o=U
    ·cases o<;>first|exact absurd f jQ|cases e
    have C:(k o).run (Lo P fs) w=.ok v b:=by
     cases o<;>first|exact absurd rfl f|exact e
    obtain⟨⟨A,R,J,y,m,z⟩,M⟩:=B C;have g:∀t d,(jZ r>>=k).run (Lo P fs) (re w t d)=(k o).run (Lo P fs) (re w t d):=λt d=>by
     show(vI r λo=>k o).run (Lo P fs) (re w t d)=_;have E:(re w t d).heap[r]?=Z o:=hb;simp only[bx,E];cases o<;>first|rfl|exact absurd rfl f
    have l:∀es,(jZ r>>=k).runT P W es=(k o).runT P W (es.push ⟨.obj r,Y,Y⟩):=λes=>by
     show(vI r λo=>k o).runT P W es=_;simp only[nt,G];cases o<;>first|rfl|exact absurd rfl f|exact s.elim
    refine⟨⟨A,#[⟨.obj r,Y,Y⟩]++R,λes=>?_,y,m,λe K=>?_⟩,M.congr g⟩
    ·rw[l,J];simp
    ·rcases Array.mem_append.1 K with c|c
     ·simp at c;subst c
      exact⟨ayS (h.lt hb) m.size,.inl ⟨Q,rfl⟩⟩
     ·exact z e c
theorem heap_set(a:af Obj)(r:Nat)(o:Obj)(b:Nat):(a.setIfInBounds r o)[b]?=if b=r/\r<a.size then Z o else a[b]?:=by
 rw[tJ];by_cases e:r=b
 ·subst e
  by_cases c:r<a.size<;>simp[c]
 ·simp[e,Ne.symm e]
theorem Ho{r:Nat}{o:Obj}(hm:r∈rs)(E:Plain fx o)(m:mz o=Y):Sm P fs fx Hid rs (setObj r o):=by
 refine CZ (λw W h X v w' e=>?_) λw x w' e=>?_
 rotate_left
 ·have k:(setObj r o).run (Lo P fs) w=match w.heap[r]? with
   |some (.cells ..)=>.halt (.stuck "setObj: a row of cells") w
   |some _=>.ok () {w with heap:=w.heap.setIfInBounds r o}
   |none=>.halt (.stuck "setObj: no such block") w:=rfl
  rw[k]at e;split at e<;>cases e<;>rfl
 have hE:=X r hm;have k:(setObj r o).run (Lo P fs) w=match w.heap[r]? with
  |some (.cells ..)=>.halt (.stuck "setObj: a row of cells") w
  |some _=>.ok () {w with heap:=w.heap.setIfInBounds r o}
  |none=>.halt (.stuck "setObj: no such block") w:=rfl
 obtain⟨f,g⟩:∃f,w.heap[r]?=Z f:=⟨_,wZ hE.1⟩;have K:=hE.2 f g;obtain⟨O,D,hR⟩:=h.obj _ _ g;cases hR with
 |cut=>rw[k,g]at e;cases e
 |kR=>cases K
 |view=>cases K
 |same _ tX=>
  by_cases l:mz f=U
  ·rw[k,g]at e
   cases f<;>first|exact absurd l jQ|cases e
  ·have V:(setObj r o).run (Lo P fs) w=.ok () {w with heap:=w.heap.setIfInBounds r o}:=by
    rw[k,g];cases f<;>first|rfl|exact absurd rfl l
   have S:¬Hid (.obj r):=λi=>by
    have:=(h.pd r i).2 f g;cases f<;>simp_all[Obj.isChan,qd]
   rw[V]at e;cases e;have aE:=h.lt g;have C:r<W.heap.size:=h.size▸aE;have s1:=heap_set w.heap r o;have s2:=heap_set W.heap r o;have j:∀{b:Nat},b≠r->(w.heap.setIfInBounds r o)[b]?=w.heap[b]?:=λ{b}z=>by rw[s1,if_neg (λx=>z x.1)]
   have s:∀{b:Nat},b≠r->(W.heap.setIfInBounds r o)[b]?=W.heap[b]?:=λ{b}z=>by rw[s2,if_neg (λx=>z x.1)]
   have n:(w.heap.setIfInBounds r o)[r]?=Z o:=by rw[s1,if_pos ⟨F,aE⟩]
   have J:(W.heap.setIfInBounds r o)[r]?=Z o:=by rw[s2,if_pos ⟨F,C⟩]
   have c:∀{x:au}{b:aR}{y:Obj},x.heap[b.block]?=Z y->mz y=Y->x.cell? b=I:=λ{x b y}G H=>by
    unfold fR;rw[G];cases y<;>first|rfl|cases H
   have q:∀{x:au}{b:Nat}{y:Obj},x.heap[b]?=Z y->mz y=Y->x.shape? b=I:=λ{x b y}G H=>by
    unfold fD;rw[G];cases y<;>first|rfl|cases H
   have u:mz f=Y:=by simpa using l
   refine⟨⟨{W with heap:=W.heap.setIfInBounds r o},#[⟨.obj r,U,Y⟩],λes=>?_,⟨by simp[h.size],h.tape,h.drawn,h.os,h.output,λb p a=>?_,λb a=>?_,λR Q=>?_⟩,⟨by simp,rfl,df _,rfl,λb p a i=>?_,λb a M=>?_,λb a=>?_,λb p a i=>?_⟩,λe L=>?_⟩,zG (λt d=>?_) rfl rfl⟩
   ·show(Sem.setObj r o (.pure ())).runT P W es=_
    simp only[nt,D];have T:o.isChan=Y:=by cases o<;>first|rfl|exact E.elim
    cases f<;>first|(simp only[T];rfl)|exact absurd rfl l
   ·simp only at a⊢
    by_cases e:b=r
    ·subst e
     rw[n]at a;cases a;exact⟨_,J,.same _ E⟩
    ·rw[j e]at a
     rw[s e];exact h.obj b p a
   ·obtain⟨A,B⟩:=h.mT b a
    refine⟨by simpa using A,?_⟩;by_cases e:b.block=r
    ·exact c (by rw[e];exact n) m
    ·unfold fR at B⊢
     simp only
     rwa[j e]
   ·obtain⟨A,B⟩:=h.pd R Q
    refine⟨by simpa using A,λp N=>B p ?_⟩;have e:R≠r:=λe=>S (e▸Q);simp only at N;rwa[j e]at N
   ·have e:b≠r:=λe=>by subst e;rw[g]at a;cases a;rw[K]at i;cases i
    simp only
    rw[j e,s e];exact⟨a,F⟩
   ·by_cases e:b.block=r
    ·refine⟨c (by rw[e];exact n) m,?_⟩
     rw[c (x:={W with heap:=W.heap.setIfInBounds r o}) (by rw[e];exact J) m,c (x:=W) (by rw[e];exact D) u]
    ·unfold fR at M⊢
     simp only
     rw[j e,s e];exact⟨M,F⟩
   ·by_cases e:b=r
    ·subst e
     rw[q (x:={w with heap:=w.heap.setIfInBounds b o}) n m,q g u,q (x:={W with heap:=W.heap.setIfInBounds b o}) J m,q D u];exact⟨F,F⟩
    ·unfold fD
     simp only
     rw[j e,s e];exact⟨F,F⟩
   ·by_cases e:b=r
    ·subst e
     simp only at a;rw[n]at a;cases a;rw[E.even]at i;cases i
    ·simp only at a
     rwa[j e]at a
   ·simp at L;subst L
    exact⟨by simpa using aE,.inl ⟨S,F⟩⟩
   ·have a:(re w t d).heap[r]?=Z f:=g
    show(match(re w t d).heap[r]? with
     |some (.cells ..)=>Result.halt (.stuck "setObj: a row of cells") (re w t d)
     |some _=>.ok () {re w t d with heap:=(re w t d).heap.setIfInBounds r o}
     |none=>.halt (.stuck "setObj: no such block") (re w t d))=_
    rw[a];cases f<;>first|rfl|exact absurd rfl l
end
section
variable {P:aA}{fs:af dF}{fx:Obj->Prop}{X:Loc->Prop}{α β γ:Type}{V:ae Nat}
theorem abc(a:aR):∀(n i:Nat)(b:af ag),Sm P fs fx X V (loadCellsFrom a i n b)
 |0,_,_=>br _
 |n+1,i,_=>bf (aba _) λ_=>abc a n (i+1) _
theorem abb(a:aR)(n:Nat):Sm P fs fx X V (loadCells a n):=abc a n 0 _
theorem TH(a:aR):∀(b:ae ag)(i:Nat),Sm P fs fx X V (storeCells a b i)
 |[],_=>br _
 |_::rest,i=>bf (avo _ _) λ_=>TH a rest (i+1)
theorem Tu(t:aJ)(a:aR):Sm P fs fx X V (loadVar t a):=by
 unfold loadVar;refine bf (aa8 t) λb=>?_;split
 ·exact bf (wV t) λ_=>bf (abb _ _) λ_=>br _
 ·exact aba a
theorem NQ(t:aJ)(a:aR)(v:ag):Sm P fs fx X V (storeVar t a v):=by
 unfold storeVar;refine bf (wV t) λn=>?_;dsimp only
 split
 ·exact(fJ _).bind.kA
 ·exact TH _ _ _
theorem Tj(v:ag):Sm P fs fx X V (asIntOf v):=by
 unfold asIntOf;split
 ·exact br _
 ·exact lA _
 ·exact dm _
theorem NN(v:ag):Sm P fs fx X V (asInt v):=bf (Tj v) λ_=>br _
theorem Ti(v:ag):Sm P fs fx X V (asBool v):=by
 unfold asBool;split
 ·exact br _
 ·exact dm _
theorem atu(v:ag):Sm P fs fx X V (asAgg v):=by
 unfold asAgg;split
 ·exact br _
 ·exact dm _
theorem avr(v:ag):Sm P fs fx X V (Instr.sureAddr v):=by
 unfold Instr.sureAddr;split
 ·exact br _
 ·exact dm _
theorem Tg(v:ag):Sm P fs fx X V (asAddr v):=by
 unfold asAddr;split
 ·exact br _
 ·exact wU _
 ·exact dm _
theorem vw(t:aJ)(c:af ag)(a:Nat):Sm P fs fx X V (part t c a):=by
 unfold part;refine bf (aa8 t) λb=>?_;split
 ·exact bf (wV t) λ_=>br _
 ·split
  ·exact br _
  ·exact dm _
theorem TF{r:Nat}{k K:aj (aJ×Nat)->Sem β}(j:∀e n m,n<=m->oX P fs fx X V (k (Z (e,n))) (K (Z (e,m))))(a:oX P fs fx X V (k I) (K I))(z:∀e n,0<n->oX P fs fx X V (k I) (K (Z (e,n)))):oX P fs fx X V (shape r>>=k) (shape r>>=K):=λw W h g=>by
 have q:(shape r>>=k).run (Lo P fs) w=(k (w.shape? r)).run (Lo P fs) w:=rfl;have B:∀es,(shape r>>=K).runT P W es=(K (W.shape? r)).runT P W es:=λ_=>rfl;have p:∀t d,(shape r>>=k).run (Lo P fs) (re w t d)=(k (w.shape? r)).run (Lo P fs) (re w t d):=λ_ _=>rfl;rw[q];have f:oX P fs fx X V (k (w.shape? r)) (K (W.shape? r)):=by
  cases hb:w.heap[r]? with
  |none=>
   have b:W.heap[r]?=I:=by
    rw[Aa]at hb⊢;rw[<-h.size];exact hb
   unfold fD;rw[hb,b];exact a
  |some o=>
   obtain⟨O,s,u⟩:=h.obj _ _ hb;unfold fD;rw[hb,s];cases u with
   |same _ E=>cases o<;>first|exact j _ _ _ (df _)|exact a
   |cut c d t C D y=>exact j _ _ _ (Nat.le_of_lt y)
   |kR _ _ _ _ _ _ _ i=>cases O<;>first|exact i.elim|exact z _ _ (Nat.pos_of_ne_zero i.1)|exact a
   |view _ _ b=>cases O<;>first|exact b.elim|exact a
 refine⟨λv A e=>?_,(f w W h g).2⟩;obtain⟨x,l⟩:=(f w W h g).1 v A e;exact⟨x,l.congr p⟩
theorem aa4(a:aR):Sm P fs fx X V (frozen a):=CZ (hh:=λw x i e=>by rw[run_frozen]at e;cases e) λw W h _ v i e=>by
 have d:w.frozen? a=W.frozen? a:=by
  unfold pN;cases hb:w.heap[a.block]? with
  |none=>
   have b:W.heap[a.block]?=I:=by
    rw[Aa]at hb⊢;rw[<-h.size];exact hb
   rw[b]
  |some o=>
   obtain⟨O,f,g⟩:=h.obj _ _ hb;rw[f];cases g with
   |same _ j=>rfl
   |cut=>rfl
   |kR _ _ _ _ _ _ _ c=>
    cases O<;>first|exact c.elim|rfl|skip
    obtain⟨_,rfl⟩:=c;simp
   |view _ _ b=>cases O<;>first|exact b.elim|rfl
 rw[run_frozen]at e;cases e;refine⟨?_,zG (λ_ _=>rfl) rfl rfl⟩;rw[d];exact Ku h λes=>rfl
def nJ(r:Nat)(d:γ)(f:Obj->γ):Sem γ:=Sem.shape r λs=>if s.isSome=U then ayU d else vI r λo=>ayU (f o)
theorem MS(p:aA)(x:au)(r:Nat)(d:γ)(f:Obj->γ)(es:af cX):(nJ r d f).runT p x es=match x.heap[r]? with
  |some o=>if mz o=U then(.ok d x,es)else(.ok (f o) x,es.push ⟨.obj r,Y,o.isChan⟩)
  |none=>(.halt (.stuck "getObj: no such block") x,es):=by
 unfold nJ;cases h:x.heap[r]? with
 |none=>simp[nt,fD,h,-jR]
 |some o=>cases o<;>simp[nt,fD,h,mz,-jR]
theorem Tv{r:Nat}{d:γ}{f:Obj->γ}{b:γ->Sem β}(hp:∀v,Sm P fs fx X V (b v))(H:∀O,Uh O->(∀a u,O≠.view a u)->f O=d)
  (p:(∀a u,mj P fs (b (f (.view a u))))\/∀a u,f (.view a u)=d):
  Sm P fs fx X V (nJ r d f>>=b):=by
 intro w W h S;refine⟨λv i e=>?_,λx i e=>?_⟩
 rotate_left
 ·have G:(nJ r d f>>=b).run (Lo P fs) w=((nJ r d f).run (Lo P fs) w).andThen λa i=>(b a).run (Lo P fs) i:=yQ _ _ b w
  rw[G]at e;have B:=MS (Lo P fs) w r d f #[];have j:=xe (Lo P fs) (nJ r d f) w #[];cases hx:(nJ r d f).run (Lo P fs) w with
  |ok v1 w1=>
   rw[hx]at e j;rw[B]at j;have:w1=w:=by
    split at j
    ·split at j<;>cases j<;>rfl
    ·cases j
   subst this;exact(hp v1 _ W h S).2 x i e
  |halt y w1=>
   rw[hx]at e j;rw[B]at j;cases e;split at j
   ·split at j<;>cases j
   ·cases j;exact h.El
 have G:(nJ r d f>>=b).run (Lo P fs) w=((nJ r d f).run (Lo P fs) w).andThen λa i=>(b a).run (Lo P fs) i:=yQ _ _ b w;have B:=MS (Lo P fs) w r d f #[];have e2:∀es,(nJ r d f>>=b).runT P W es=_:=λes=>Sem.runT_bind' P (nJ r d f) b W es;have k:=λes=>MS P W r d f es;rw[G,<-xe _ _ w #[],B]at e;cases hw:w.heap[r]? with
 |none=>rw[hw]at e;cases e
 |some o=>
  rw[hw]at e;obtain⟨O,C,hR⟩:=h.obj _ _ hw;rw[C]at k;simp only at k e;have aE:=h.lt hw;have e4:∀t n,(nJ r d f).run (Lo P fs) (re w t n)=if mz o=U then .ok d (re w t n)else .ok (f o) (re w t n):=λt n=>by
   have Bb:(re w t n).heap[r]?=Z o:=hw;rw[<-xe _ _ _ #[],MS,Bb];simp only
   split<;>rfl
  have fin:∀(g:γ)(E:af cX),g=(if mz o=U then d else f o)->(∀es,(nJ r d f).runT P W es=(.ok g W,es++E))->(b g).run (Lo P fs) w=.ok v i->(∀e∈E,qt X w.heap.size e)->Ends P fx X (nJ r d f>>=b) w W i v/\tN (Lo P fs) (nJ r d f>>=b) w v i:=λg E uU hg xW L=>by
   obtain⟨⟨W2,Kh,hS,AX,Q,IP⟩,pq⟩:=(hp g w W h S).1 v i xW;exact⟨⟨W2,E++Kh,λes=>by rw[e2,hg];simp only;rw[hS,Da],AX,Q,λe c=>(Array.mem_append.1 c).elim (λh=>(L e h).mono Q.size) (IP e)⟩,pq.congr λt n=>by
    have e5:(nJ r d f>>=b).run (Lo P fs) (re w t n)=((nJ r d f).run (Lo P fs) (re w t n)).andThen λa i=>(b a).run (Lo P fs) i:=yQ _ _ b _;rw[e5,e4,uU];split<;>rfl⟩
  cases hR with
  |same _ tu=>
   by_cases D:mz o=U
   ·simp only[if_pos D]at e k
    exact fin d #[] (by rw[if_pos D]) (λes=>by rw[k];simp) e aZ
   ·simp only[if_neg D]at e k
    have M:¬X (.obj r):=λJ=>by
     have:=(h.pd r J).2 o hw;cases o<;>first|exact tu.elim|simp_all[Obj.isChan]
    refine fin (f o) #[⟨.obj r,Y,o.isChan⟩] (by rw[if_neg D]) (λes=>by rw[k];simp) e λe c=>?_;simp at c;subst c;exact⟨aE,by cases o<;>first|exact tu.elim|exact .inl ⟨M,rfl⟩⟩
  |cut=>exact fin d #[] (by simp[mz]) (λes=>by rw[k];simp[mz]) e aZ
  |kR m l A s q tm O T=>
   have z:∀m l A s q tm,f (.chan m l A s q tm)=d:=λm l A s q tm=>H (.chan m l A s q tm) trivial aZ;have IS:∀x y,f (.finalizers x y)=d:=λx y=>H (.finalizers x y) trivial aZ;simp only[mz,kg,if_false,z]at e;cases O with
   |cells=>exact fin d #[] (by simp[mz,z]) (λes=>by rw[k];simp[mz]) e aZ
   |chan=>
    refine fin d #[⟨.obj r,Y,U⟩] (by simp[mz,z]) (λes=>by rw[k,z];simp[mz,Obj.isChan]) e λe c=>?_;simp at c;subst c;exact⟨aE,.inr ⟨F,F⟩⟩
   |finalizers=>
    refine fin d #[⟨.obj r,Y,Y⟩] (by simp[mz,z]) (λes=>by rw[k,IS];simp[mz,Obj.isChan]) e λe c=>?_;simp at c;subst c;exact⟨aE,.inl ⟨T,F⟩⟩
   |_=>exact T.elim
  |view u O R=>
   simp only[mz,kg,if_false]at e;rcases p with p|p
   ·exact absurd e ((p _ _ w).1 v i)
   ·have M:¬X (.obj r):=λJ=>by
     have:=(h.pd r J).2 _ hw;cases this
    have LX:f O=d:=by
     by_cases C:∃a u,O=.view a u
     ·obtain⟨a,u,rfl⟩:=C;exact p _ _
     ·exact H O R λa u c=>C ⟨a,u,c⟩
    rw[p]at e;have K:¬mz O=U:=by cases O<;>first|exact R.elim|exact jQ
    refine fin d #[⟨.obj r,Y,O.isChan⟩] (by simp[mz,p]) (λes=>by rw[k,if_neg K,LX];simp) e λe c=>?_;simp at c;subst c;refine⟨aE,?_⟩;by_cases N:O.isChan=U
    ·exact .inr ⟨F,N⟩
    ·exact .inl ⟨M,by simpa using N⟩
theorem aci(r:Nat):viewAt r=nJ r I λ|.view a t=>Z (a,t)|_=>I:=by
 unfold viewAt nJ;show Sem.shape r _=Sem.shape r _;congr 1;funext s;cases s with
 |some x=>rfl
 |none=>
  show vI r _=vI r _;congr 1;funext o;cases o<;>rfl
theorem aoj(r:Nat):numberAt r=nJ r I λ|.number a t=>Z (a,t)|_=>I:=by
 unfold numberAt nJ;show Sem.shape r _=Sem.shape r _;congr 1;funext s;cases s with
 |some x=>rfl
 |none=>
  show vI r _=vI r _;congr 1;funext o;cases o<;>rfl
theorem Ty(a:aR):Sm P fs fx X V (noView a):=by
 unfold noView;rw[aci];refine Tv (λv=>?_) (λO c b=>?_) (.inl λa u=>?_)
 ·split
  ·exact lA _
  ·exact br _
 ·cases O<;>first|rfl|exact absurd rfl (b _ _)
 ·exact s9 _
theorem abh(r:Nat):Sm P fs fx X V (numberAt r):=by
 have h:Sm P fs fx X V (nJ r I (λ|.number a t=>Z (a,t)|_=>I)>>=Pure.pure):=Tv (λv=>br v) (λO b c=>by cases O<;>first|rfl|exact b.elim) (.inr λa u=>rfl);rw[aoj];have e:∀(x:Sem (aj (aR×Bool))),(x>>=Pure.pure)=x:=λx=>Sem.bind_pure' x;rwa[e]at h
theorem Tk(n:aR):Sm P fs fx X V (behindNumber n):=bf (abh _) λ_=>br _
end
def qX(w:au)(a:aR):Bool:=w.frozen? a||match w.shape? a.block with
 |some (_,n)=>w.frozen? {block:=a.block,off:=n}
 |none=>Y
theorem awp(p:aA)(w:au)(a:aR)(es:af cX):(stringish a).runT p w es=(.ok (qX w a) w,es):=by
 unfold stringish qX;show(Sem.frozen a _).runT p w es=_;simp only[nt];cases hf:w.frozen? a with
 |true=>rfl
 |false=>
  show(Sem.shape a.block _).runT p w es=_;simp only[nt];cases hs:w.shape? a.block with
  |none=>rfl
  |some x=>rfl
def oT(w:au)(a:aR):Bool:=(w.shape? a.block)matches Z (_,0)
theorem JB(p:aA)(w:au)(a b:aR)(es:af cX):(mayBeOne a b).runT p w es=(.ok ((qX w a&&qX w b)||(qX w a&&oT w a)||(qX w b&&oT w b)) w,es):=by
 unfold mayBeOne;have c:∀(k:Bool->Sem Bool)(x:aR),(stringish x>>=k).runT p w es=(k (qX w x)).runT p w es:=λk x=>by
  rw[show(stringish x>>=k)=(stringish x).bind k from F,Sem.runT_bind',awp]
 rw[c,c];have d:∀(k:Bool->Sem Bool)(x:aR),((do pure ((<-shape x.block)matches Z (_,0)))>>=k).runT p w es=(k (oT w x)).runT p w es:=λk x=>rfl;refine(d _ a).trans ((d _ b).trans ?_);cases qX w a<;>cases qX w b<;>cases oT w a<;>cases oT w b<;>rfl
section
variable {P:aA}{fs:af dF}{fx:Obj->Prop}{X:Loc->Prop}{α β γ:Type}{V:ae Nat}
theorem Rel.blk(h:Rel fx X w W)(r:Nat):(w.heap[r]?=I/\W.heap[r]?=I)\/∃o O,w.heap[r]?=Z o/\W.heap[r]?=Z O/\Ao fx X r o O:=by
 cases hb:w.heap[r]? with
 |none=>
  refine .inl ⟨F,?_⟩;rw[Aa]at hb⊢;rw[<-h.size];exact hb
 |some o=>
  obtain⟨O,a,b⟩:=h.obj _ _ hb;exact .inr ⟨o,O,F,a,b⟩
theorem Rel.Wi(h:Rel fx X w W)(a:aR):w.frozen? a=W.frozen? a:=by
 unfold pN;rcases h.blk a.block with⟨b,c⟩|⟨o,O,b,c,f⟩
 ·rw[b,c]
 ·rw[b,c]
  cases f with
  |same _ g=>rfl
  |cut=>rfl
  |kR _ _ _ _ _ _ _ d=>
   cases O<;>first|exact d.elim|rfl|skip
   obtain⟨_,rfl⟩:=d;simp
  |view _ _ e=>cases O<;>first|exact e.elim|rfl
theorem Rel.qX(h:Rel fx X w W)(a:aR):qX w a=qX W a:=by
 unfold Go.Proofs.YtgahemdblfapeaaGreatDoor.qX;rw[h.Wi a];congr 1;unfold fD;rcases h.blk a.block with⟨f,e⟩|⟨o,O,f,e,k⟩
 ·rw[f,e]
 ·have g:∀{x:au}{y:af ag}{t:aJ}{b n:Nat},x.heap[b]?=Z (.cells y t)->x.frozen? {block:=b,off:=n}=Y:=λ{x y t b n}l=>by
   unfold pN;simp only[l];simp
  rw[f,e];cases k with
  |same _ r=>
   cases o<;>first|rfl|exact h.Wi _
  |cut c d t m p q=>simp only[g f,g e]
  |kR _ _ _ _ _ _ _ i=>
   cases O<;>first|exact i.elim|rfl|skip
   obtain⟨_,rfl⟩:=i;simp only[g e]
  |view _ _ j=>cases O<;>first|exact j.elim|rfl
theorem Rel.oT(h:Rel fx X w W)(a:aR):oT w a=oT W a:=by
 unfold Go.Proofs.YtgahemdblfapeaaGreatDoor.oT fD;rcases h.blk a.block with⟨b,e⟩|⟨o,O,b,e,k⟩
 ·rw[b,e]
 ·rw[b,e]
  cases k with
  |same _ s=>rfl
  |cut c d t p q r=>
   obtain⟨n,g⟩:∃n,c.size=n+1:=⟨c.size-1,by omega⟩;obtain⟨m,l⟩:∃m,d.size=m+1:=⟨d.size-1,by omega⟩;simp only[g,l]
  |kR _ _ _ _ _ _ _ i=>
   cases O with
   |cells c t f=>
    obtain⟨n,g⟩:∃n,c.size=n+1:=⟨c.size-1,by have:=i.1;omega⟩;simp only[g]
   |chan=>rfl
   |finalizers=>rfl
   |_=>exact i.elim
  |view _ _ j=>cases O<;>first|exact j.elim|rfl
theorem auN(a b:aR):Sm P fs fx X V (mayBeOne a b):=CZ (hh:=λw x c e=>by rw[<-xe _ _ w #[],JB]at e;cases e) λw W h _ v c e=>by
 rw[<-xe _ _ w #[],JB]at e;cases e;refine⟨?_,zG (λt d=>by rw[<-xe _ _ _ #[],JB];rfl) F F⟩;rw[h.qX a,h.qX b,h.oT a,h.oT b];exact Ku h λes=>JB _ _ _ _ _
theorem abn(a b:aR):Sm P fs fx X V (sameAddr a b):=by
 unfold sameAddr;dsimp only
 split
 ·exact br _
 ·refine bf (aa4 a) λx=>?_
  refine bf (aa4 b) λy=>?_;split
  ·exact(s9 _).bind.kA
  ·refine bf (Ty a) λ_=>bf (Ty b) λ_=>bf (auN a b) λz=>?_
   split
   ·exact bf (Hm _) λ_=>br _
   ·exact br _
theorem ave(a b:aj aR):Sm P fs fx X V (samePointer a b):=by
 unfold samePointer;split
 ·exact abn _ _
 ·exact br _
theorem OR:∀(d:Nat)(t:aJ)(a:Nat),byteOfCell (Lo P fs) d t a=byteOfCell P d t a
 |0,_,_=>rfl
 |d+1,t,a=>by
  have b:=OR d;unfold byteOfCell;simp only[b];rfl
theorem J5(a:aR):Sm P fs fx X V (byteOf a):=by
 unfold byteOf;dsimp only
 split
 ·exact br _
 ·refine nO ?_ (bf (Ty a) λ_=>?_)
  ·simp only[OR]
   rfl
  ·refine TF (λe n m _=>?_) (dm _) λe n _=>(fJ _).kA
   dsimp only
   split
   ·exact br _
   ·split
    ·exact br _
    ·exact dm _
theorem au2(a:aR)(m n:Nat):Sm P fs fx X V (partAt a m n):=by
 unfold partAt;refine bf (J5 a) λ_=>bf (J5 _) λ_=>br _
theorem aaZ(a:aR)(f:Field):Sm P fs fx X V (fieldPlace a f):=by
 unfold fieldPlace;refine bf (wV _) λn=>?_;split
 ·exact au2 _ _ _
 ·exact br _
theorem OJ:∀(n:Nat)(t u:aJ),Program.alikeButTags (Lo P fs) n t u=Program.alikeButTags P n t u
 |0,_,_=>rfl
 |n+1,t,u=>by
  have a:=OJ n;unfold Program.alikeButTags;simp only[a]
theorem awf(t:aJ):Program.stoodInHeld (Lo P fs) t=Program.stoodInHeld P t:=by
 have h:∀t,Program.stoodInAs (Lo P fs) t=Program.stoodInAs P t:=λt=>by
  unfold Program.stoodInAs;simp only[OJ];rfl
 unfold Program.stoodInHeld;rw[h]
theorem Ni(t:aJ):Program.packed (Lo P fs) t=Program.packed P t:=by
 unfold Program.packed Program.packedAs;simp only[OJ];rfl
theorem QM:∀(n:Nat)(t:aJ),Program.holdsPacked (Lo P fs) n t=Program.holdsPacked P n t
 |0,_=>rfl
 |n+1,t=>by
  have a:=QM n;unfold Program.holdsPacked;simp only[a,Ni];rfl
theorem VU:∀(n:Nat)(t:aJ),Program.eqGuardType (Lo P fs) n t=Program.eqGuardType P n t
 |0,_=>rfl
 |n+1,t=>by
  have a:=VU n;unfold Program.eqGuardType;simp only[a];rfl
theorem Tq{f:γ->β->Sem (ForInStep β)}(h:∀x b,Sm P fs fx X V (f x b)):∀(l:ae γ)(b:β),Sm P fs fx X V (forIn l b f)
 |[],b=>by rw[List.forIn_nil];exact br _
 |x::l,b=>by
  rw[List.forIn_cons];refine bf (h x b) λs=>?_;cases s with
  |done b=>exact br _
  |yield b=>exact Tq h l b
theorem Tp{f:γ->β->Sem (ForInStep β)}(h:∀x b,Sm P fs fx X V (f x b))(l:af γ)(b:β):Sm P fs fx X V (forIn l b f):=by
 rw[<-Array.forIn_toList];exact Tq h _ _
theorem Tr{f:Nat->β->Sem (ForInStep β)}(h:∀x b,Sm P fs fx X V (f x b))(n:Nat)(b:β):Sm P fs fx X V (forIn [0:n] b f):=by
 rw[Std.Legacy.Range.forIn_eq_forIn_range'];exact Tq h _ _
theorem aaX:∀(d:Nat)(t:aJ)(x y:ag),Sm P fs fx X V (Op.equalIn d t x y)
 |0,_,_,_=>lA _
 |d+1,t,x,y=>by
  have c:=aaX d;unfold Op.equalIn;refine bf (pD t) λu=>?_;split<;>first|exact br _|exact dm _|exact lA _|exact ave _ _|skip
  ·split<;>first|exact br _|exact dm _
  ·refine bf (Tk _) λa=>bf (Tk _) λb=>?_
   dsimp only
   refine nO F ?_;split
   ·exact bf (J5 _) λ_=>bf (J5 _) λ_=>br _
   ·refine bf (Bz _) λi=>?_
    split
    ·split<;>first|exact br _|exact lA _
    ·exact lA _
  ·split<;>first|exact br _|exact dm _
  ·split<;>first|exact br _|exact dm _
  ·refine bf (wV _) λn=>?_
   split
   ·exact abn _ _
   ·split
    ·exact br _
    ·exact bf (Hm _) λ_=>br _
  ·split
   ·exact br _
   ·refine bf (Bz _) λi=>?_
    split
    ·refine nO ?_ (nO ?_ ?_)
     ·simp only[QM]
     ·rfl
     ·dsimp only
      split
      ·exact(s9 _).bind.kA
      ·exact bf (TJ _) λ_=>wU _
    ·exact c _ _ _
  ·refine nO ?_ ?_
   ·simp only[awf]
   ·dsimp only
    split
    ·exact(s9 _).bind.kA
    ·refine bf (Tp (λf b=>?_) _ _) λr=>?_
     ·split
      ·refine bf (vw _ _ _) λ_=>bf (vw _ _ _) λ_=>bf (c _ _ _) λ_=>?_
       split<;>exact br _
      ·exact br _
     ·split<;>exact br _
  ·refine bf (wV _) λn=>?_
   refine bf (Tr (λf b=>?_) _ _) λr=>?_
   ·refine bf (vw _ _ _) λ_=>bf (vw _ _ _) λ_=>bf (c _ _ _) λ_=>?_
    split<;>exact br _
   ·dsimp only
    split<;>exact br _
theorem aaW(t:aJ)(x y:ag):Sm P fs fx X V (Op.equal t x y):=aaX _ t x y
theorem Tn:∀(d:Nat)(t:aJ)(x y:ag),Sm P fs fx X V (Op.eqGuardIn d t x y)
 |0,_,_,_=>lA _
 |d+1,t,x,y=>by
  have a:=Tn d;unfold Op.eqGuardIn;refine bf (pD t) λu=>?_;split
  ·exact br _
  ·refine bf (Tp (λf b=>?_) _ _) λr=>?_
   ·split
    ·refine bf (vw _ _ _) λ_=>bf (vw _ _ _) λ_=>bf (a _ _ _) λ_=>?_
     split<;>exact br _
    ·exact br _
   ·dsimp only
    split<;>exact br _
  ·refine bf (wV _) λn=>?_
   refine bf (Tr (λf b=>?_) _ _) λr=>?_
   ·refine bf (vw _ _ _) λ_=>bf (vw _ _ _) λ_=>bf (a _ _ _) λ_=>?_
    split<;>exact br _
   ·dsimp only
    split<;>exact br _
  ·exact br _
theorem at4(c:BinOp)(t:aJ)(x y:gU)(a b:ag):Sm P fs fx X V (kX c t x y a b):=by
 unfold kX;refine jX (λ_=>br _) λ_=>?_;split
 ·refine jX (λ_=>br _) λ_=>?_
  exact bf (Tn _ _ _ _) λ_=>jX (λ_=>lA _) λ_=>br _
 ·refine nO ?_ (nO ?_ ?_)
  ·simp only[VU]
  ·rfl
  ·refine jX (λ_=>br _) λ_=>?_
   exact bf (Tn _ _ _ _) λ_=>jX (λ_=>lA _) λ_=>br _
 ·exact br _
end
theorem cP{p:Prop}(h:p:=by repeat'(first|with_reducible(first|refine nO rfl ?_|exact br .. |exact dm .. |exact lA .. |exact wU .. |exact Hm .. |exact Ti .. |exact NN .. |exact Tj .. |exact wV .. |exact Bz .. |exact pD .. |exact TL .. |exact aaQ .. |exact auq .. |exact auo .. |exact aup .. |exact atC .. |exact atT .. |exact atL .. |exact atP .. |exact atH .. |exact atJ .. |exact J6 .. |exact atI .. |exact atO .. |exact atQ .. |exact J5 .. |exact avt .. |exact avy .. |exact Tk .. |exact atv .. |exact abh .. |exact avi .. |exact auy .. |exact auB .. |exact auz .. |exact auA .. |exact atM .. |exact avq .. |exact aaW .. |exact auS .. |exact auR .. |exact atp .. |exact atn .. |exact ato .. |exact vw .. |exact TJ .. |exact aaT .. |exact aum .. |exact auC .. |exact avg (by simp)|exact avf (by simp)|exact avh (by simp)|exact TH .. |exact auT .. |exact NQ .. |exact avr .. |exact Tu .. |exact aaZ .. |exact avl .. |exact avm .. |exact Tg .. |exact avj .. |exact atu .. |exact atw .. |exact abf .. |exact abb .. |exact auE .. |exact aun .. |exact au6 .. |exact TC .. |exact avn .. |exact To .. |exact abj .. |exact aut .. |exact auZ .. |exact avx .. |exact auY .. |exact auu .. |exact aa5 .. |exact Tt .. |exact auQ .. |exact abi .. |exact Tx .. |exact atU .. |exact atY .. |exact atZ .. |exact TI .. |exact TG .. |exact TA .. |exact aa6 .. |exact aaU .. |exact NR .. |exact abo .. |refine bf ?_ λ_=>?_|refine jX (λ_=>?_) λ_=>?_)|split|dsimp only)):p:=h
section
variable {P:aA}{fs:af dF}{fx:Obj->Prop}{X:Loc->Prop}{α β γ:Type}{W:ae Nat}
theorem auy(a:BinOp)(k:IntKind)(x y:Int):Sm P fs fx X W (Op.intArith a k x y):=by
 unfold Op.intArith;exact cP
theorem auA(a:BinOp)(x y:Int):Sm P fs fx X W (Op.intCmp a x y):=by
 unfold Op.intCmp;exact cP
theorem auB(a:BinOp)(k:IntKind)(x y:Int):Sm P fs fx X W (Op.intDiv a k x y):=by
 unfold Op.intDiv;exact cP
theorem auz(a:BinOp)(k:IntKind)(x y:Int):Sm P fs fx X W (Op.intBits a k x y):=by
 unfold Op.intBits;exact cP
theorem avi(a:BinOp)(k:IntKind)(x:Int)(j:IntKind)(y:Int):Sm P fs fx X W (Op.shift a k x j y):=by
 unfold Op.shift;exact cP
theorem avq(a:BinOp)(x y:ByteArray):Sm P fs fx X W (Op.stringOp a x y):=by
 unfold Op.stringOp;exact cP
theorem aup(a:BinOp)(k:FloatKind)(x y:Nat):Sm P fs fx X W (Op.floatCmp a k x y):=by
 unfold Op.floatCmp;exact cP
theorem auo(a:BinOp)(k:FloatKind)(x y:Nat):Sm P fs fx X W (Op.floatArith a k x y):=by
 unfold Op.floatArith;exact cP
theorem auq(k:FloatKind)(x:Nat)(d:FloatKind):Sm P fs fx X W (Conv.floatToFloat k x d):=by
 unfold Conv.floatToFloat;exact cP
theorem aur(k:FloatKind)(x:Nat)(d:IntKind):Sm P fs fx X W (Conv.floatToInt k x d):=by
 unfold Conv.floatToInt;exact cP
theorem J6(a:BinOp)(k:FloatKind)(x y:Nat):Sm P fs fx X W (Op.Complex.arith a k x y):=by
 unfold Op.Complex.arith;exact cP
theorem atH(a:BinOp)(k:FloatKind)(x y:Nat):Sm P fs fx X W (Op.Complex.cmp a k x y):=by
 unfold Op.Complex.cmp;exact cP
theorem atI(k:FloatKind)(x:Nat)(d:FloatKind):Sm P fs fx X W (Op.Complex.conv k x d):=by
 unfold Op.Complex.conv;exact cP
theorem atC(x y:Nat):Sm P fs fx X W (Op.Complex.add x y):=J6 _ _ _ _
theorem atT(x y:Nat):Sm P fs fx X W (Op.Complex.sub x y):=J6 _ _ _ _
theorem atL(x y:Nat):Sm P fs fx X W (Op.Complex.mul x y):=J6 _ _ _ _
theorem atP(x y:Nat):Sm P fs fx X W (Op.Complex.quo x y):=J6 _ _ _ _
theorem atO(a b c d:Nat):Sm P fs fx X W (Op.Complex.product a b c d):=by
 unfold Op.Complex.product;exact cP
theorem atJ(s a b c d:Nat):Sm P fs fx X W (Op.Complex.corrected s a b c d):=by
 unfold Op.Complex.corrected;exact cP
theorem atQ(a b c d:Nat):Sm P fs fx X W (Op.Complex.quotient a b c d):=by
 unfold Op.Complex.quotient;exact cP
theorem atM(e:BinOp)(k:FloatKind)(a b c d:Nat):Sm P fs fx X W (Op.complexOp e k a b c d):=by
 unfold Op.complexOp;exact cP
end
section
variable {P:aA}{fs:af dF}{fx:Obj->Prop}{X:Loc->Prop}{α β γ:Type}{V:ae Nat}
theorem avt(a b:aR):Sm P fs fx X V (Op.twoPlaces a b):=by
 unfold Op.twoPlaces;refine nO F ?_;exact cP
theorem atp(k:IntKind)(a b:aR):Sm P fs fx X V (Op.addrSub k a b):=by
 unfold Op.addrSub;exact cP
theorem atn(c:BinOp)(a b:aR):Sm P fs fx X V (Op.addrCmp c a b):=by
 unfold Op.addrCmp;exact cP
theorem atl{k K:aA->Sem α}(h:oX P fs fx X V (k (Lo P fs)) (K P)):oX P fs fx X V (program>>=k) (program>>=K):=λw W c b=>⟨λv a e=>by
 obtain⟨x,l⟩:=(h w W c b).1 v a e;exact⟨x,l.congr λ_ _=>rfl⟩,λx a e=>(h w W c b).2 x a e⟩
theorem ato(k:IntKind)(a:aR)(n:Int):Sm P fs fx X V (Op.addrMod k a n):=by
 unfold Op.addrMod;refine TF (λe n m _=>?_) (lA _) λe n _=>(s9 _).kA;dsimp only
 exact cP
theorem atv(a:aR)(b:Bool):Sm P fs fx X V (asNumber a b):=bf (zU trivial) λ_=>br _
theorem Vi:∀(d:Nat)(t:aJ)(a:Nat),cellOfByte (Lo P fs) d t a=cellOfByte P d t a
 |0,_,_=>rfl
 |d+1,t,a=>by
  have b:=Vi d;unfold cellOfByte;simp only[b];rfl
theorem aex(d:Nat)(e:aJ)(n a:Nat)(b:Int):cellAtBytes (Lo P fs) d e n a b=cellAtBytes P d e n a b:=by
 unfold cellAtBytes;simp only[OR,Vi];rfl
theorem aey{p:aA}{d:Nat}{e:aJ}{n m c:Nat}{b:Int}(h:n<=m){r:Nat}(a:cellAtBytes p d e n c b=Z r):cellAtBytes p d e m c b=Z r:=by
 unfold cellAtBytes at a⊢;dsimp only at a⊢;split at a
 ·cases a
 ·rename_i g
  rw[if_neg g];cases hb:byteOfCell p d e (c%p.cellsOf e)with
  |none=>rw[hb]at a;cases a
  |some x=>
   rw[hb]at a;simp only[Option.bind_eq_bind,vG]at a⊢;split at a
   ·cases a
   ·rename_i f
    rw[if_neg]
    ·exact a
    ·simp only[Bool.or_eq_true,decide_eq_true_eq,not_or,Int.not_lt,ge_iff_le,Int.not_le]at f⊢
     refine⟨f.1,Int.lt_of_lt_of_le f.2 ?_⟩;exact Int.ofNat_le.2 (Nat.mul_le_mul_right _ h)
theorem avy(a:af aJ)(t:aJ)(b:af ag):Sm P fs fx X V (Builtin.unsafeAdd_ a t b):=by
 obtain⟨l⟩:=b;rcases l with _|⟨x,_|⟨y,_|⟨z,l⟩⟩⟩
 ·exact dm _
 ·exact dm _
 ·by_cases f:∃p,x=.pointer p
  ·obtain⟨ptr,rfl⟩:=f
   refine bf (NN _) λc=>?_;refine jX (λ_=>?_) λ_=>?_
   ·cases ptr with
    |none=>exact(s9 _).bind.kA
    |some a=>
     dsimp only
     rw[aci];refine Tv (λv=>jX (λ_=>(s9 _).bind.kA) λ_=>br _) (λO k i=>?_) (.inl λa u=>?_)
     ·cases O<;>first|rfl|exact absurd rfl (i _ _)
     ·exact(s9 _).bind
   ·refine jX (λ_=>(s9 _).bind.kA) λ_=>?_
    cases ptr with
    |none=>exact lA _
    |some a=>
     refine TF (λe n m h=>?_) (lA _) λe n _=>(s9 _).kA;refine atl ?_;have g:∀r,cellAtBytes P P.depth e (n/P.cellsOf e) a.off c=Z r->cellAtBytes P P.depth e (m/P.cellsOf e) a.off c=Z r:=λr=>aey (Nat.div_le_div_right h);simp only[aex];show oX P fs fx X V (match cellAtBytes P P.depth e (n/P.cellsOf e) a.off c with|some d=>_|none=>_) (match cellAtBytes P P.depth e (m/P.cellsOf e) a.off c with|some d=>_|none=>_);split
     ·rename_i r j
      rw[g r j];exact br _
     ·exact(s9 _).kA
  ·cases x<;>first|exact dm _|exact absurd ⟨_,rfl⟩ f
 ·exact dm _
theorem auR(t:aJ)(x y:ag):Sm P fs fx X V (movedNumber t x y):=by
 unfold movedNumber;exact cP
theorem auS(t:aJ)(x y:ag):Sm P fs fx X V (movedPointer t x y):=by
 unfold movedPointer;exact cP
theorem aty(a:BinOp)(t:aJ)(x y:ag):Sm P fs fx X V (binOp a t x y):=by
 unfold binOp;exact cP
theorem avw(a:UnOp)(x:ag):Sm P fs fx X V (Op.unary a x):=by
 unfold Op.unary;exact cP
theorem aaT(b:Bool):∀(n:Nat)(t:aJ)(v:ag),Sm P fs fx X V (Instr.checkKey b n t v)
 |0,_,_=>lA _
 |n+1,t,v=>by
  have a:=aaT b n;unfold Instr.checkKey;refine bf (pD _) λu=>?_;split
  ·refine bf (Bz _) λi=>jX (λ_=>jX (λ_=>(rB _).bind.kA) λ_=>?_) λ_=>a _ _
   exact bf (TJ _) λ_=>(rB _).bind.kA
  ·exact bf (Tr (λx b=>bf (wV _) λ_=>bf (vw _ _ _) λ_=>bf (a _ _) λ_=>br _) _ _) λ_=>br _
  ·exact bf (Tp (λx b=>jX (λ_=>bf (vw _ _ _) λ_=>bf (a _ _) λ_=>br _) λ_=>br _) _ _) λ_=>br _
  all_goals first|exact br _|exact dm _
theorem aa0(t:aJ)(k:ag):∀(l:ae MapEntry)(i:Nat),Sm P fs fx X V (Instr.findAsking t k l i)
 |[],_=>br _
 |e::l,i=>by
  unfold Instr.findAsking;exact bf (aaW _ _ _) λ_=>jX (λ_=>br _) λ_=>aa0 t k l _
theorem aum(t:aJ)(k:ag)(l:ae MapEntry):Sm P fs fx X V (Instr.findKey t k l):=by
 unfold Instr.findKey;refine bf (pD _) λu=>?_;split
 ·exact br _
 ·exact aa0 _ _ _ _
theorem uK{k:Obj->Sem α}(g:∀a b c d e f,mj P fs (k (.chan a b c d e f)))(i:∀a u,mj P fs (k (.view a u))):∀o,qd o=U->mj P fs (k o):=λo h=>by
 cases o<;>first|exact g _ _ _ _ _ _|exact i _ _|exact absurd h jQ
theorem auG(t:aJ)(x i:ag)(a:Bool):Sm P fs fx X V (Instr.lookup t x i a):=by
 unfold Instr.lookup;refine bf (pD _) λu=>?_;split
 ·cases x with
  |map r=>
   cases r with
   |none=>
    dsimp only
    exact cP
   |some r=>
    refine vu (λo b=>?_) (uK (λ_ _ _ _ _ _=>fJ _) λ_ _=>fJ _);cases o<;>exact cP
  |_=>exact dm _
 ·exact dm _
end
section
variable {P:aA}{fs:af dF}{fx:Obj->Prop}{X:Loc->Prop}{α β γ:Type}{W:ae Nat}
theorem avg{r:Nat}{m:af MapEntry}{c:Nat}(a:r∈W):Sm P fs fx X W (setObj r (.map m c)):=Ho a trivial rfl
theorem avf{r:Nat}{m:aj Nat}{a:Nat}{b:af Nat}{c:Nat}(d:r∈W):Sm P fs fx X W (setObj r (.mapIter m a b c)):=Ho d trivial rfl
theorem avh{r:Nat}{s:ByteArray}{a:Nat}(b:r∈W):Sm P fs fx X W (setObj r (.stringIter s a)):=Ho b trivial rfl
theorem yy{a:γ}{k:γ->Sem β}(h:Sm P fs fx X W (k a)):Sm P fs fx X W (Pure.pure a>>=k):=h
theorem auC(a b:ag):Sm P fs fx X W (Instr.keyThatStays a b):=by
 unfold Instr.keyThatStays;exact cP
theorem abd(t:aJ)(m k v:ag):Sm P fs fx X W (Instr.mapUpdate t m k v):=by
 unfold Instr.mapUpdate;refine bf (pD _) λu=>?_;split
 ·cases m with
  |map r=>
   cases r with
   |none=>exact wU _
   |some r=>
    refine vu (λo a=>?_) (uK (λ_ _ _ _ _ _=>fJ _) λ_ _=>fJ _);cases o<;>exact cP
  |_=>exact dm _
 ·exact dm _
theorem atX(a:af aJ)(t:aJ)(b:af ag):Sm P fs fx X W (Builtin.delete_ a t b):=by
 unfold Builtin.delete_;split
 ·refine bf (pD _) λu=>?_
  split
  ·split
   ·exact cP
   ·refine vu (λo c=>?_) (uK (λ_ _ _ _ _ _=>fJ _) λ_ _=>fJ _)
    cases o<;>exact cP
   ·exact cP
  ·exact dm _
 ·exact dm _
theorem atK(a:af aJ)(t:aJ)(b:af ag):Sm P fs fx X W (Builtin.clear_ a t b):=by
 unfold Builtin.clear_;split
 ·refine bf (pD _) λu=>?_
  split
  ·exact cP
  ·exact cP
  ·exact cP
  ·refine vu (λo c=>?_) (uK (λ_ _ _ _ _ _=>fJ _) λ_ _=>fJ _)
   cases o<;>exact cP
  ·exact cP
  ·exact cP
 ·exact dm _
theorem au3(t:aJ)(x:ag):Sm P fs fx X W (Instr.range t x):=by
 unfold Instr.range;refine bf (pD _) λu=>?_;split
 ·exact yy (bf (zU trivial) λ_=>br _)
 ·exact yy (bf (zU trivial) λ_=>br _)
 ·refine vu (λo a=>?_) (uK (λ_ _ _ _ _ _=>(fJ _).bind) λ_ _=>(fJ _).bind)
  cases o<;>first|exact yy (bf (zU trivial) λ_=>br _)|exact(fJ _).bind.kA
 ·exact(fJ _).bind.kA
theorem auU(i:ag)(b:Bool)(t:aJ):Sm P fs fx X W (Instr.next i b t):=by
 unfold Instr.next;dsimp only
 split
 ·refine vu (λo d=>?_) (uK (λ_ _ _ _ _ _=>fJ _) λ_ _=>fJ _)
  cases o with
  |stringIter s p=>
   cases b with
   |true=>
    show Sm P fs fx X _ (if p<s.size then _ else _);refine jX (λ_=>?_) λ_=>br _;exact cP
   |false=>exact dm _
  |mapIter m a seen c=>
   cases b with
   |true=>cases m<;>exact dm _
   |false=>
    cases m with
    |none=>exact br _
    |some m=>
     refine vu (λo d=>?_) (uK (λ_ _ _ _ _ _=>fJ _) λ_ _=>fJ _);cases o<;>exact cP
  |_=>exact dm _
 ·exact dm _
theorem at3(i:ag):Sm P fs fx X W (Instr.entry i):=by
 unfold Instr.entry;split
 ·refine vu (λo c=>?_) (uK (λ_ _ _ _ _ _=>fJ _) λ_ _=>fJ _)
  cases o with
  |mapIter m a seen b=>
   cases m with
   |none=>exact dm _
   |some m=>
    dsimp only
    split
    ·refine vu (λo c=>?_) (uK (λ_ _ _ _ _ _=>fJ _) λ_ _=>fJ _)
     cases o<;>exact cP
    ·exact dm _
  |_=>exact dm _
 ·exact dm _
theorem auI(t:aJ)(r:aj ag):Sm P fs fx X W (Instr.makeMap t r):=by
 unfold Instr.makeMap;cases r with
 |none=>exact bf (zU trivial) λ_=>br _
 |some h=>
  refine bf (pD _) λu=>?_;split
  ·exact bf (NN _) λ_=>bf (zU trivial) λ_=>br _
  ·exact(fJ _).bind.kA
theorem atz(t:aJ)(v:ag):Sm P fs fx X W (Instr.box t v):=by
 unfold Instr.box;exact cP
theorem atq(t:aJ)(b:Bool)(v:ag):Sm P fs fx X W (Instr.alloc t b v):=by
 unfold Instr.alloc;exact cP
theorem auF(t:aJ)(v:ag):Sm P fs fx X W (sI t v):=by
 unfold sI;exact cP
theorem avp(t:aJ)(a v:ag):Sm P fs fx X W (Instr.storeAt t a v):=by
 unfold Instr.storeAt;exact cP
theorem aul(t:aJ)(a:ag)(i:Nat):Sm P fs fx X W (sH t a i):=by
 unfold sH;exact cP
theorem auw(t:aJ)(a i:ag):Sm P fs fx X W (Instr.indexAt t a i):=by
 unfold Instr.indexAt;exact cP
theorem avl(x:ag)(y:Nat)(c:BoundsCode):Sm P fs fx X W (xa x y c):=by
 unfold xa;exact cP
theorem avm(b:Bool)(l c:Nat)(x y z:aj ag):Sm P fs fx X W (Instr.sliceBounds b l c x y z):=by
 unfold Instr.sliceBounds;exact cP
theorem avj(t:aJ)(x:ag)(l h m:aj ag):Sm P fs fx X W (Instr.slice t x l h m):=by
 unfold Instr.slice;exact cP
theorem avk(t:aJ)(x:ag)(l h m:aj ag):Sm P fs fx X W (vF t x l h m):=by
 unfold vF;exact cP
theorem auk(t:aJ)(x:ag)(i:Nat):Sm P fs fx X W (Instr.field t x i):=by
 unfold Instr.field;exact cP
theorem auv(t:aJ)(x i:ag):Sm P fs fx X W (Instr.index t x i):=by
 unfold Instr.index;exact cP
theorem auj(t:ag)(i:Nat):Sm P fs fx X W (Instr.extract t i):=by
 unfold Instr.extract;exact cP
theorem auH(t:aJ)(x:ag):Sm P fs fx X W (Instr.makeInterface t x):=by
 unfold Instr.makeInterface;exact cP
theorem avu(x:ag)(t u:aJ)(b:Bool):Sm P fs fx X W (Instr.typeAssert x t u b):=by
 unfold Instr.typeAssert;exact cP
theorem auJ(t:aJ)(l c:ag):Sm P fs fx X W (Instr.makeSlice t l c):=by
 unfold Instr.makeSlice;exact cP
theorem atB(t:aJ)(n:Nat)(p:af (Nat×ag)):Sm P fs fx X W (Instr.buildSlice t n p):=by
 unfold Instr.buildSlice;exact cP
theorem aun(s n:Nat)(x:ag):Sm P fs fx X W (Builtin.firstCells s n x):=by
 unfold Builtin.firstCells;exact cP
theorem auE(x:ag):Sm P fs fx X W (Builtin.lenOf x):=by
 unfold Builtin.lenOf;exact cP
theorem auP(x y:ag):Sm P fs fx X W (Builtin.min2 x y):=by
 unfold Builtin.min2;exact cP
theorem aa1{f:β->γ->Sem β}(h:∀a b,Sm P fs fx X W (f a b)):∀(l:ae γ)(a:β),Sm P fs fx X W (l.foldlM f a)
 |[],a=>by rw[List.foldlM_nil];exact br _
 |x::l,a=>by
  rw[List.foldlM_cons];exact bf (h a x) λb=>aa1 h l b
theorem auO(a:af aJ)(t:aJ)(b:af ag):Sm P fs fx X W (Builtin.min_ a t b):=by
 unfold Builtin.min_;split
 ·exact dm _
 ·exact aa1 auP _ _
theorem axa(p:aA)(t:aJ)(w:au)(es:af cX):(underlying t).runT p w es=match p.underlying t with
  |some d=>(.ok d w,es)
  |none=>(.halt (.stuck "no such type") w,es):=by
 show(match p.underlying t with|some d=>(pure d:Sem TypeDesc)|none=>stuck "no such type").runT p w es=_;cases p.underlying t<;>rfl
theorem TK{k:TypeDesc->Sem β}(h:∀d,P.underlying t=Z d->Sm P fs fx X W (k d)):Sm P fs fx X W (underlying t>>=k):=by
 refine aaO (pD t) λv w b e=>h v ?_;rw[<-xe _ _ w #[],axa]at e;have a:(Lo P fs).underlying t=P.underlying t:=rfl;rw[a]at e;cases hu:P.underlying t with
 |none=>rw[hu]at e;cases e
 |some d=>rw[hu]at e;cases e;rfl
theorem auD{a:af aJ}(t:aJ)(b:af ag)(g:∀x d e,a[0]?=Z x->P.underlying x≠Z (.chan d e)):Sm P fs fx X W (Builtin.len_ a t b):=by
 unfold Builtin.len_;split
 ·rename_i u x c
  have f:=(Prod.mk.inj c).1;refine TK λd h=>?_;split
  ·exact br _
  ·exact br _
  ·refine bf (pD _) λu=>?_
   split<;>first|exact br _|exact dm _
  ·exact br _
  ·exact br _
  ·exact br _
  ·refine vu (λo i=>?_) (uK (λ_ _ _ _ _ _=>fJ _) λ_ _=>fJ _)
   cases o<;>first|exact br _|exact dm _
  ·exact absurd h (g _ _ _ f)
  ·exact dm _
 ·exact dm _
theorem awE(m:Mark):nU P fs (mark m):=λfx w a=>⟨λv b e=>(by cases e;exact a),λx b e=>(by cases e)⟩
theorem awI(r:Nat):nU P fs (shape r):=λfx w a=>⟨λv b e=>(by cases e;exact a),λx b e=>(by cases e)⟩
theorem ab0(a:aR):nU P fs (frozen a):=λfx w b=>⟨λv c e=>(by cases e;exact b),λx c e=>(by cases e)⟩
theorem N7(a:aR)(n:Nat):nU P fs (Builtin.holdsCells a n):=by
 unfold Builtin.holdsCells;exact sD (awI _) λ_=>by repeat'(first|exact tD _|split)
theorem awF(b d n:Nat)(base:aj aR)(x:ag):nU P fs (Builtin.mayShare b d n base x):=by
 unfold Builtin.mayShare;have c:∀(t:Bool)(y:Sem Bool),nU P fs y->nU P fs (if(!t)=U then pure U else y):=λt y e=>by
  split
  ·exact tD _
  ·exact e
 cases base with
 |none=>
  split
  ·exact sD (tD _) λt=>c t _ (sD (N7 _ _) λ_=>tD _)
  ·exact sD (tD _) λt=>c t _ (tD _)
 |some a=>
  split
  ·exact sD (N7 _ _) λ_=>sD (ab0 _) λ_=>sD (tD _) λt=>c t _ (sD (N7 _ _) λ_=>tD _)
  ·exact sD (N7 _ _) λ_=>sD (ab0 _) λ_=>sD (tD _) λt=>c t _ (tD _)
theorem au6(a b n:Nat)(base:aj aR)(x:ag)(u:Unsupported):Sm P fs fx X W (Builtin.mayShare a b n base x>>=λs=>if(!s)=U then(mark .noRoom>>=λ_=>(unsupported u:Sem Unit))else unsupported u):=(Az (awF _ _ _ _ _) λs=>by split<;>first|exact Az (awE _) λ_=>s9 _|exact s9 _).kA
theorem att(a:af aJ)(t:aJ)(b:af ag):Sm P fs fx X W (Builtin.append_ a t b):=by
 unfold Builtin.append_;split
 ·refine bf (pD _) λu=>?_
  split
  ·split
   ·refine bf (wV _) λc=>?_
    dsimp only
    exact cP
   ·exact dm _
  ·exact dm _
 ·exact dm _
end
section
variable {P:aA}{fs:af dF}{fx:Obj->Prop}{X:Loc->Prop}{α β γ:Type}{W:ae Nat}
theorem aa9{f:γ->Sem β}(h:∀x,Sm P fs fx X W (f x)):∀l:ae γ,Sm P fs fx X W (l.mapM f)
 |[]=>by rw[List.mapM_nil];exact br _
 |x::l=>by
  rw[List.mapM_cons];exact bf (h x) λ_=>bf (aa9 h l) λ_=>br _
theorem aaP{f:γ->Sem β}(h:∀x,Sm P fs fx X W (f x))(l:af γ):Sm P fs fx X W (l.mapM f):=by
 rw[Array.mapM_eq_mapM_toList];exact bf (aa9 h _) λ_=>br _
theorem atA(t:aJ)(p:af (Nat×ag)):Sm P fs fx X W (Instr.build t p):=by
 unfold Instr.build;refine bf (TL _) λz=>bf (pD _) λu=>?_;split
 ·refine bf (aaP (λf=>bf (wV _) λ_=>br _) _) λa=>?_
  exact cP
 ·exact cP
 ·exact dm _
theorem atN{c b:aJ}(x:ag)(h:∃j k,P.underlying c=Z (.int j)/\P.underlying b=Z (.int k)):Sm P fs fx X W (convert c b x):=by
 obtain⟨j,k,i,l⟩:=h;unfold convert;refine TK λd f=>TK λe g=>?_;rw[i]at f;rw[l]at g;cases f;cases g;cases x<;>first|exact br _|exact lA _|exact aur _ _ _|skip
 rename_i a;cases a<;>exact lA _
theorem au0(f:ag)(a:af ag):Sm P fs fx X W (Db f a):=by
 unfold Db;exact cP
theorem au5(ρ:gU->ag)(c:Call)(t:aJ):Sm P fs fx X W (resolve ρ c t):=by
 unfold resolve;dsimp only
 split
 ·exact br _
 ·exact br _
 ·exact au0 _ _
theorem awJ(c:Sys):nU P fs (sys c):=λfx w o=>by
 have l:(sys c).run (Lo P fs) w=.ok (w.sys c).1 (w.sys c).2:=rfl;have m:∀{β:Type}(x:Ask β)(w:au),(w.ask x).2.heap=w.heap:=λ{β}x=>by
  induction x with
  |done a=>intro w;rfl
  |ask j f k i=>
   intro w;unfold World.ask;dsimp only
   split
   ·exact i _ _
   ·exact i _ _
 have n:(w.sys c).2.heap=w.heap:=by
  unfold World.sys;have:=m (Kernel.perform c w.os) w;split
  ·rfl
  ·rename_i h
   rw[h]at this;exact this
 rw[l];exact⟨λv p e=>(by cases e;intro b d g;rw[n]at g;exact o b d g),λx p e=>(by cases e)⟩
theorem awH:nU P fs Instr.panicnil:=by
 unfold Instr.panicnil;refine sD (awJ _) λv=>?_;split
 ·exact sD TW λ_=>tD _
 ·exact(fJ _).TV
theorem afh(x:ag):mj P fs (Instr.panic x):=by
 unfold Instr.panic;split
 ·exact Li _
 ·refine Az awH λ_=>?_
  split
  ·exact Li _
  ·exact rB _
 ·exact fJ _
theorem TC(t:aJ)(x:Place):Sm P fs fx X W (Place.get t x):=by
 unfold Place.get;exact cP
theorem KZ{p:Prop}(h:p:=by first|with_reducible exact br _|with_reducible exact dm _|with_reducible exact lA _|with_reducible exact wU _|with_reducible exact Hm _|with_reducible exact Ti _|with_reducible exact NN _|with_reducible exact Tj _|with_reducible exact wV _|with_reducible exact Bz _|with_reducible exact pD _|with_reducible exact TL _|with_reducible exact aaQ _ _ _ _):p:=h
theorem To:∀(l:ae FieldStep)(t:aJ)(x:Place),Sm P fs fx X W (follow l t x)
 |[],_,_=>br _
 |s::rest,t,x=>by
  have a:=To rest;unfold follow
  repeat'(first|exact KZ|with_reducible exact TC _ _|with_reducible exact Tg _|with_reducible exact aaZ _ _|with_reducible exact vw _ _ _|with_reducible exact a _ _|with_reducible refine bf ?_ λ_=>?_|with_reducible refine jX (λ_=>?_) λ_=>?_|split|dsimp only)
end
def wx(P:aA)(f:bA):Bool:=(P.funcs[f]?).any (·.name== "(*sync.Mutex).Unlock")
def qO(P:aA)(f:bA):Bool:=(P.funcs[f]?).any λg=>["(*sync.Mutex).Lock","(*sync.Mutex).Unlock","(*sync.WaitGroup).Wait","(*mvstore/mv.Store).start","(mvstore/mv.worker).do"].contains g.name
def qe(P:aA):Op->Bool
 |.ready _|.waits _|.makeChan .. |.sliceToArrayPointer .. |.mapEntry .. |.entryStore .. |.go _|.send .. |.recv .. |.select .. =>Y
 |.defer c=>match c.callee with
  |.value (.func f)=>wx P f
  |_=>Y
 |.convert b a _=>(P.underlying b matches Z (.int _))&&(P.underlying a matches Z (.int _))
 |.call c=>match c.callee with
  |.builtin .append|.builtin .min|.builtin .delete|.builtin .clear=>U
  |.builtin .len=>match c.argTypes[0]? with
   |some t=>!(P.underlying t matches Z (.chan ..))
   |none=>U
  |.builtin _=>Y
  |_=>U
 |_=>U
section
variable {P:aA}{fs:af dF}{fx:Obj->Prop}{X:Loc->Prop}{α β γ:Type}{rs:ae Nat}
theorem avn(a:af aJ)(t:aJ)(b:af ag):Sm P fs fx X rs (Builtin.ssaWrapNilChk_ a t b):=by
 obtain⟨l⟩:=b;rcases l with _|⟨x,_|⟨y,_|⟨z,_|⟨u,l⟩⟩⟩⟩
 ·exact dm _
 ·exact dm _
 ·exact dm _
 ·cases y<;>first|exact dm _|skip
  cases z<;>first|exact dm _|skip
  cases x<;>first|exact dm _|skip
  rename_i p;cases p with
  |some a=>exact br _
  |none=>
   refine bf (Hm _) λn=>jX (λ_=>(rB _).bind.kA) λ_=>?_;exact cP
 ·exact dm _
theorem abj(t:aJ)(x:Place)(b:Bool)(w:aj String):Sm P fs fx X rs (receiverAt t x b w):=by
 unfold receiverAt;exact cP
theorem au4(t:aJ)(x:ag)(p:af FieldStep)(b:Bool):Sm P fs fx X rs (receiverVia t x p b):=by
 unfold receiverVia;exact cP
theorem abe:∀(n:Nat)(t:aJ)(v:ag)(a:String),Sm P fs fx X rs (method n t v a)
 |0,_,_,_=>lA _
 |n+1,t,v,a=>by
  have b:=abe n;unfold method
  repeat'(first|exact KZ|with_reducible exact To _ _ _|with_reducible exact abj _ _ _ _|with_reducible exact TC _ _|with_reducible exact b _ _ _|with_reducible refine bf ?_ λ_=>?_|with_reducible refine jX (λ_=>?_) λ_=>?_|split|dsimp only)
theorem aa3:∀(l:ae FieldStep)(t:aJ)(x:aj ag),Sm P fs fx X rs (followBlind l t x)
 |[],_,_=>br _
 |s::rest,t,x=>by
  have a:=aa3 rest;unfold followBlind
  repeat'(first|exact KZ|with_reducible exact a _ _|with_reducible exact vw _ _ _|with_reducible refine bf ?_ λ_=>?_|with_reducible refine jX (λ_=>?_) λ_=>?_|split|dsimp only)
theorem abg:∀(n:Nat)(t:aJ)(v:ag)(a:String),Sm P fs fx X rs (nilAhead n t v a)
 |0,_,_,_=>br _
 |n+1,t,v,a=>by
  have b:=abg n;unfold nilAhead
  repeat'(first|exact KZ|with_reducible exact b _ _ _|with_reducible exact aa3 _ _ _|with_reducible refine bf ?_ λ_=>?_|with_reducible refine jX (λ_=>?_) λ_=>?_|split|dsimp only)
theorem Hn(l:Nat){k:Loop->Sem β}(h:∀r,fx (.loop r)->Sm P fs fx X (l::rs) (k r)):Sm P fs fx X rs (Instr.getLoop l>>=k):=by
 unfold Instr.getLoop;rw[bind_assoc];refine vu (λo a=>?_) (uK (λ_ _ _ _ _ _=>(fJ _).bind) λ_ _=>(fJ _).bind);cases o<;>first|exact yy (h _ a)|exact(fJ _).bind.kA
theorem avz(l:Nat)(a:af ag):Sm P fs fx X rs (Instr.yield l a):=by
 unfold Instr.yield;refine Hn l λr _=>?_;exact jX (λ_=>(fJ _).bind.kA) λ_=>br _
def Ai(P:aA)(fs:af dF)(fx:Obj->Prop)(X:Loc->Prop):Prop:=∀rs f a,Sm P fs fx X rs (gz f a)
theorem aaR(H:Ai P fs fx X)(v:ag)(b:String)(a:af ag):Sm P fs fx X rs (callMethod v b a):=by
 unfold callMethod;split
 ·refine nO F (bf (abe _ _ _ _) λr=>?_)
  exact H _ _ _
 ·exact wU _
 ·exact dm _
theorem aa7(H:Ai P fs fx X)(f:Fn)(c:af ag)(a:af ag):Sm P fs fx X rs (invoke (.fn f c) a):=by
 unfold invoke;cases f with
 |func f=>exact H _ _ _
 |method d=>
  dsimp only
  split
  ·exact aaR H _ _ _
  ·exact dm _
 |methodOf t d=>
  dsimp only
  split
  ·refine bf (pD _) λu=>?_
   split<;>exact aaR H _ _ _
  ·exact dm _
 |via t p f b=>
  dsimp only
  split
  ·exact bf (au4 _ _ _ _) λ_=>H _ _ _
  ·exact dm _
 |yield l=>exact avz _ _
theorem kQ{x:Sem ag}(h:Sm P fs fx X rs x):Sm P fs fx X rs (do pure (lT (<-x))):=bf h λ_=>br _
theorem Tm{x:Sem Unit}(h:Sm P fs fx X rs x):Sm P fs fx X rs (do x;pure Next.skip):=bf h λ_=>br _
theorem aaS(H:Ai P fs fx X)(ρ:gU->ag)(c:Call)(k:aJ)(a:qe P (.call c)=U):Sm P fs fx X rs (do let d<-resolve ρ c k;invoke d.target d.args):=by
 unfold resolve;cases hc:c.callee with
 |builtin b=>
  simp only[qe,hc]at a;refine yy ?_;unfold invoke builtin;cases b<;>first|exact absurd a jQ|skip
  ·exact kQ (att _ _ _)
  ·exact kQ (atK _ _ _)
  ·exact kQ (atX _ _ _)
  ·refine kQ (auD _ _ λx d e j i=>?_)
   dsimp only at a;rw[j]at a;simp only[i]at a;exact absurd a aZ
  ·exact kQ (auO _ _ _)
 |invoke h g=>
  refine yy ?_;exact aa7 H _ _ _
 |value f=>
  dsimp only
  unfold Db;split
  ·exact yy (aa7 H _ _ _)
  ·refine yy ?_
   unfold invoke;exact wU _
  ·exact(fJ _).bind.kA
theorem auV(v:ag):Sm P fs fx X rs (match v with
  |.pointer I|.nilIface|.nilFunc=>runtimePanic .nilDeref
  |.func (.method b) first a=>
   match(first[0]?:aj ag)with
   |some .nilIface=>runtimePanic .nilDeref
   |some (.iface t w)=>do
    if(<-nilAhead ((<-program).types.size+Made.depth) t w b)!=Z Y then unsupported (.noEntry "op/nilCheck.the method's receiver behind this interface value is a nil pointer, or cannot be seen to be none, and the arguments act or may panic (ledger 612)")
    pure (.value (.func (.method b) first a))
   |_=>pure (.value (.func (.method b) first a))
  |x=>pure (.value x):Sem Next):=by
 split
 ·exact wU _
 ·exact wU _
 ·exact wU _
 ·split
  ·exact wU _
  ·refine nO F (bf (abg _ _ _ _) λr=>jX (λ_=>(s9 _).bind.kA) λ_=>br _)
  ·exact br _
 ·exact br _
theorem aaY(H:Ai P fs fx X)(ρ:gU->ag)(o:bh)(d:qe P o.op=U):Sm P fs fx X rs (cu ρ o):=by
 unfold cu;dsimp only
 cases ho:o.op with
 |move x=>exact br _
 |assign x=>exact br _
 |pick c a b=>exact bf (Ti _) λ_=>br _
 |alloc e=>exact kQ (atq _ _ _)
 |box e x=>exact kQ (atz _ _)
 |build t p=>exact kQ (atA _ _)
 |buildSlice t n p=>exact kQ (atB _ _ _)
 |load t x=>exact kQ (auF _ _)
 |store t a x=>exact Tm (avp _ _ _)
 |nilCheck x=>exact auV _
 |binOp q t x y v=>exact kQ (bf (at4 _ _ _ _ _ _) λ_=>aty _ _ _ _)
 |unOp q t x=>exact kQ (avw _ _)
 |convert s j x=>
  rw[ho]at d;refine kQ (atN _ ?_);simp only[qe,ig]at d;obtain⟨g,h⟩:=d;split at g
  ·split at h
   ·exact⟨_,_,‹_›,‹_›⟩
   ·cases h
  ·cases g
 |makeInterface t x=>exact kQ (auH _ _)
 |makeFunc f a b=>exact kQ (br _)
 |makeMap t r=>exact kQ (auI _ _)
 |makeSlice t l c=>exact kQ (auJ _ _ _)
 |slice t x a b c=>exact kQ (avk _ _ _ _ _)
 |fieldAddr t x i=>exact kQ (aul _ _ _)
 |field t x i=>exact kQ (auk _ _ _)
 |indexAddr t x i=>exact kQ (auw _ _ _)
 |index t x i=>exact kQ (auv _ _ _)
 |lookup t x i b=>exact kQ (auG _ _ _ _)
 |mapUpdate t m k x=>exact Tm (abd _ _ _ _)
 |insert t m k x=>exact Tm (abd _ _ _ _)
 |range t x=>exact kQ (au3 _ _)
 |next i b=>exact kQ (auU _ _ _)
 |entry i=>exact kQ (at3 _)
 |typeAssert x t u b=>exact kQ (avu _ _ _ _)
 |extract x i=>exact kQ (auj _ _)
 |call c=>exact aaS H _ _ _ (ho▸d)
 |defer c=>exact bf (au5 _ _ _) λ_=>br _
 |panic x=>exact kQ ((afh _).kA)
 |_=>rw[ho]at d;exact absurd d jQ
end
def jf(P:aA):bl->Bool
 |.region _ c _=>c.all λo=>qe P o.op
 |.seq a b=>jf P a&&jf P b
 |.cond _ a b=>jf P a&&jf P b
 |.block _ b|.loop b|.scope b=>jf P b
 |.rangeFunc _ _ a b=>jf P a&&jf P b
 |_=>U
def lV(P:aA)(d:bV):Prop:=
 match d.target with
 |.fn (.func f) _=>wx P f=U
 |.collected _=>True
 |_=>False
def bN(P:aA):Obj->Prop
 |.loop l=>jf P l.assign=U/\jf P l.body=U/\(∀c,l.pending=Z c->jf P c=U)/\qO P l.fn=Y
 |.deferred (Z a)=>∀d∈a,lV P d
 |_=>True
structure nv(P:aA)(fn:bA)(kind:dD)(defers:ae bV):Prop where
 kind:kind=.normal\/(kind=.deferred/\wx P fn=U)
 defers:∀d∈defers,lV P d
 ne:qO P fn=Y
abbrev Wh:=bA×Nat×aj Nat
section
variable (P:aA)(Spec:ae aK->ae aK->bl->bl->Prop)
inductive uz:ae aK->ae aK->bl->bl->Prop
 |same {k' k:ae aK} (c:bl) (h:jf P c=U):uz k' k c c
 |seq {k' k:ae aK} {a b a' b':bl} (ha:uz (.code b'::k') (.code b::k) a' a) (hb:uz k' k b' b):uz k' k (.seq a' b') (.seq a b)
 |cond {k' k:ae aK} {a b a' b':bl} (x:gU) (ha:uz k' k a' a) (hb:uz k' k b' b):uz k' k (.cond x a' b') (.cond x a b)
 |spec {k' k:ae aK} {a a':bl} (h:Spec k' k a' a):uz k' k a' a
inductive Al:ae aK->ae aK->aK->aK->Prop
 |code {k' k:ae aK} {c' c:bl} (h:uz P Spec k' k c' c):Al k' k (.code c') (.code c)
 |inBlock {k' k:ae aK} (id:Nat):Al k' k (.inBlock id) (.inBlock id)
 |inLoop {k' k:ae aK} (b:bl) (h:jf P b=U):Al k' k (.inLoop b) (.inLoop b)
 |inScope {k' k:ae aK} (b:bl) (h:jf P b=U):Al k' k (.inScope b) (.inScope b)
 |inRegion {k' k:ae aK} (ops:af bh) (l:ae Nat) (h:(ops.all λo=>qe P o.op)=U):Al k' k (.inRegion ops l) (.inRegion ops l)
 |inRangeFunc {k' k:ae aK} (l:Nat):Al k' k (.inRangeFunc l) (.inRangeFunc l)
 |endRangeFunc {k' k:ae aK} (l:Nat):Al k' k (.endRangeFunc l) (.endRangeFunc l)
 |beginRound {k' k:ae aK}:Al k' k .beginRound .beginRound
inductive ny:ae aK->ae aK->Prop
 |nil:ny [] []
 |cons {i' i:aK} {k' k:ae aK} (h:Al P Spec k' k i' i) (hk:ny k' k):ny (i'::k') (i::k)
end
section
variable (P:aA)(Spec:Wh->ae aK->ae aK->bl->bl->Prop)
def fE(b a:az):Prop:=∃t,b={a with todo:=t}/\ny P (Spec (a.fn,a.tmps.size,a.roundOf)) t a.todo/\nv P a.fn a.kind a.defers/\(a.mode=.run\/a.mode=.returning)
end
section
variable {P:aA}{X:ae aK->ae aK->bl->bl->Prop}{Spec:Wh->ae aK->ae aK->bl->bl->Prop}
theorem agI:∀(c)(l)(r),jf P c=U->findLabel c l=Z r->jf P r=U:=by
 intro c;induction c with
 |seq a b e f=>
  intro l r d h;simp only[jf,ig]at d;simp only[findLabel]at h;split at h
  ·rename_i x g
   cases h;simp only[jf,ig];exact⟨e l x d.1 g,d.2⟩
  ·exact f l r d.2 h
 |label m=>
  intro l r _ h;simp only[findLabel]at h;split at h
  ·cases h;rfl
  ·cases h
 |_=>intro l r _ h;simp[findLabel]at h
theorem V2{id}:∀{a k},ny P X a k->(exitTo id a=I/\exitTo id k=I)\/∃c r,exitTo id a=Z c/\exitTo id k=Z r/\ny P X c r:=by
 intro a k h;induction h with
 |nil=>exact .inl ⟨F,F⟩
 |cons h e b=>
  cases h with
  |inBlock d=>
   simp only[exitTo];split
   ·simp_all
   ·exact b
  |_=>simpa only[exitTo]using b
theorem Wx{l}:∀{a k},ny P X a k->(gotoIn l a=I/\gotoIn l k=I)\/∃e r,gotoIn l a=Z e/\gotoIn l k=Z r/\ny P X e r:=by
 intro a k h;induction h with
 |nil=>exact .inl ⟨F,F⟩
 |cons h f d=>
  cases h with
  |inScope b c=>
   simp only[gotoIn];split
   ·rename_i x g
    exact .inr ⟨_,_,F,F,.cons (.code (.same _ (agI _ _ _ c g))) (.cons (.inScope b c) f)⟩
   ·exact d
  |_=>simpa only[gotoIn]using d
theorem agL(f)(a)(d)(i)(l)(k)(e)(c)(b)(g)(v):(jd ⟨f,a,.inRegion d (i::l)::k,e,c,b,g⟩ v).tmps.size=a.size:=by
 simp only[jd];split<;>simp
theorem fE.finish{fr' fr}(h:fE P Spec fr' fr)(v):fE P Spec (fr'.finish v) (fr.finish v):=by
 obtain⟨t,rfl,u,c,d⟩:=h;obtain⟨o,m,s,a,j,g,q⟩:=fr;cases u with
 |nil=>exact⟨[],F,.nil,c,d⟩
 |@cons _ _ w k h f=>
  cases h with
  |code h=>exact⟨_,F,.cons (.code h) f,c,d⟩
  |inBlock id=>exact⟨_,F,.cons (.inBlock _) f,c,d⟩
  |inLoop b p=>exact⟨_,F,.cons (.inLoop b p) f,c,d⟩
  |inScope b p=>exact⟨_,F,.cons (.inScope b p) f,c,d⟩
  |inRegion n l r=>
   cases l with
   |nil=>exact⟨_,F,.cons (.inRegion _ _ r) f,c,d⟩
   |cons i rest=>
    refine⟨_,F,?_,c,d⟩;have e:=agL o m n i rest k a j g q v;show ny P (Spec (o,(jd ⟨o,m,.inRegion n (i::rest)::k,a,j,g,q⟩ v).tmps.size,q)) ..;rw[e];exact .cons (.inRegion _ _ r) f
  |inRangeFunc l=>exact⟨_,F,.cons (.endRangeFunc l) f,c,d⟩
  |endRangeFunc l=>exact⟨_,F,.cons (.endRangeFunc l) f,c,d⟩
  |beginRound=>exact⟨_,F,f,c,d⟩
theorem nv.cons{c}{b}{a}(h:nv P c b a){d}(f:lV P d):nv P c b (d::a):=⟨h.kind,λx g=>(bQ.1 g).elim (λe=>e▸f) (h.defers x),h.ne⟩
end
def hasB(fs:af dF)(f:bA):Bool:=(fs[f]?).any (·.body.isSome)
def Ow(fs:af dF):Next->Bool
 |.value _|.skip=>U
 |.enter f _=>hasB fs f
 |_=>Y
def NK(P:aA)(fs:af dF):Next->Prop
 |.round _ f _ a b=>jf P a=U/\jf P b=U/\qO P f=Y
 |.defer d=>lV P d
 |n=>Ow fs n=U
section
variable {P:aA}{fs:af dF}{Hid:Loc->Prop}{α β γ:Type}
def dZ(P:aA)(fs:af dF)(s:Sem Next):Prop:=∀w n a,s.run (Lo P fs) w=.ok n a->Ow fs n=U
def KN(P:aA)(fs:af dF)(Hid:Loc->Prop)(s:Sem Next):Prop:=∀w W,Rel (bN P) Hid w W->∀n a,s.run (Lo P fs) w=.ok n a->NK P fs n
theorem dZ.kn{s}(h:dZ P fs s):KN P fs Hid s:=λw _ _ n a e=>by
 have:=h w n _ e;cases n<;>first|exact this|exact absurd this jQ
theorem rZ{s}{k:γ->Sem Next}(h:∀v,dZ P fs (k v)):dZ P fs (s>>=k):=λw n b e=>by
 have c:(s>>=k).run (Lo P fs) w=(s.run (Lo P fs) w).andThen λa b=>(k a).run (Lo P fs) b:=yQ _ s k w;rw[c]at e;cases hc:s.run (Lo P fs) w with
 |ok v d=>rw[hc]at e;exact h v _ n _ e
 |halt x d=>rw[hc]at e;cases e
theorem u6{n}(h:Ow fs n=U):dZ P fs (Pure.pure n):=λw m a e=>by cases e;exact h
theorem p9{s}(h:mj P fs s):dZ P fs s:=λw n a e=>absurd e ((h w).1 n _)
theorem Ye{x}:dZ P fs (do pure (lT (<-x))):=rZ λ_=>u6 F
theorem Jq{x}:dZ P fs (do x;pure Next.skip):=rZ λ_=>u6 F
theorem alE{c} [Decidable c]{s t}(a:dZ P fs s)(b:dZ P fs t):dZ P fs (if c then s else t):=by split<;>assumption
def Ah(P:aA)(fs:af dF):Prop:=∀f a,dZ P fs (gz f a)
theorem MJ(H:Ah P fs)(v)(b)(a):dZ P fs (callMethod v b a):=by
 unfold callMethod;split
 ·exact rZ λ_=>rZ λr=>H _ _
 ·exact p9 (rB _)
 ·exact p9 (fJ _)
theorem Jt{a}{k:γ->Sem Next}(h:KN P fs Hid (k a)):KN P fs Hid (Pure.pure a>>=k):=h
theorem alN(l)(a):KN P fs Hid (Instr.yield l a):=λw W i n j e=>by
 unfold Instr.yield Instr.getLoop at e;rw[bind_assoc]at e;have g:∀k:Obj->Sem Next,(jZ l>>=k).run (Lo P fs) w=(vI l k).run (Lo P fs) w:=λ_=>rfl;rw[g]at e;unfold bx at e;cases hb:w.heap[l]? with
 |none=>rw[hb]at e;cases e
 |some o=>
  rw[hb]at e;obtain⟨O,_,h⟩:=i.obj _ _ hb;cases h with
  |same _ d=>
   cases o with
   |loop r=>
    have f:jf P r.assign=U/\jf P r.body=U/\qO P r.fn=Y:=⟨d.1,d.2.1,d.2.2.2⟩;have c:(if a.size≠r.params.size then stuck "yield: the wrong number of arguments">>=λ_=>(pure (Next.round l r.fn ((r.params.zip a).foldl (λb(t,a)=>b.setIfInBounds t a) r.tmps) r.assign r.body))else pure (Next.round l r.fn ((r.params.zip a).foldl (λb(t,a)=>b.setIfInBounds t a) r.tmps) r.assign r.body)).run (Lo P fs) w=.ok n j:=e;split at c
    ·cases c
    ·cases c
     exact f
   |_=>cases e
  |cut=>cases e
  |kR=>cases e
  |view=>cases e
theorem Yl(H:Ah P fs)(f)(c)(a):KN P fs Hid (invoke (.fn f c) a):=by
 unfold invoke;cases f with
 |func f=>exact dZ.kn (H _ _)
 |method d=>
  dsimp only
  split
  ·exact dZ.kn (MJ H _ _ _)
  ·exact dZ.kn (p9 (fJ _))
 |methodOf t d=>
  dsimp only
  split
  ·refine dZ.kn (rZ λu=>?_)
   split<;>exact MJ H _ _ _
  ·exact dZ.kn (p9 (fJ _))
 |via t p f b=>
  dsimp only
  split
  ·exact dZ.kn (rZ λ_=>H _ _)
  ·exact dZ.kn (p9 (fJ _))
 |yield l=>
  exact alN l _
theorem Yj(H:Ah P fs)(ρ)(c)(h)(a:qe P (.call c)=U):KN P fs Hid (do let d<-resolve ρ c h;invoke d.target d.args):=by
 unfold resolve;cases hc:c.callee with
 |builtin b=>
  simp only[qe,hc]at a;refine Jt ?_;cases b<;>first|exact absurd a jQ|exact dZ.kn Ye
 |invoke g e=>
  refine Jt ?_;exact Yl H _ _ _
 |value f=>
  dsimp only
  unfold Db;split
  ·refine Jt ?_
   exact Yl H _ _ _
  ·refine Jt ?_
   unfold invoke;exact dZ.kn (p9 (rB _))
  ·exact dZ.kn (p9 (fJ _).bind)
theorem alK{ρ}(h:∀f,ρ (.func f)=.func (.func f) #[] #[])(c)(i)(a:qe P (.defer c)=U):KN P fs Hid (do pure (Next.defer (<-resolve ρ c i))):=by
 unfold resolve;simp only[qe]at a;cases hc:c.callee with
 |builtin b=>simp[hc]at a
 |invoke g d=>simp[hc]at a
 |value x=>
  cases x<;>rw[hc]at a<;>first|exact absurd a jQ|skip
  dsimp only at a⊢;rw[h];intro w W j n k e;cases e;exact a
theorem Yk(H:Ah P fs){ρ}(e:∀f,ρ (.func f)=.func (.func f) #[] #[])(o)(d:qe P o.op=U):KN P fs Hid (cu ρ o):=by
 unfold cu;cases ho:o.op with
 |move x=>exact dZ.kn (u6 F)
 |assign x=>exact dZ.kn (u6 F)
 |pick c a b=>exact dZ.kn (rZ λ_=>u6 F)
 |nilCheck x=>
  dsimp only
  split
  ·exact dZ.kn (p9 (rB _))
  ·exact dZ.kn (p9 (rB _))
  ·exact dZ.kn (p9 (rB _))
  ·split
   ·exact dZ.kn (p9 (rB _))
   ·exact dZ.kn (rZ λ_=>rZ λ_=>alE (rZ λ_=>u6 F) (u6 F))
   ·exact dZ.kn (u6 F)
  ·exact dZ.kn (u6 F)
 |call c=>exact Yj H _ _ _ (ho▸d)
 |defer c=>exact alK e _ _ (ho▸d)
 |store t a x=>exact dZ.kn Jq
 |mapUpdate t m k x=>exact dZ.kn Jq
 |insert t m k x=>exact dZ.kn Jq
 |go c=>rw[ho]at d;exact absurd d jQ
 |send c x=>rw[ho]at d;exact absurd d jQ
 |recv c x b=>rw[ho]at d;exact absurd d jQ
 |select c b=>rw[ho]at d;exact absurd d jQ
 |ready g=>exact dZ.kn Jq
 |entryStore t m s x=>exact dZ.kn Jq
 |_=>exact dZ.kn Ye
end
section
open Go.Conc (G)
def HX:ae aK->Bool
 |.inRegion _ (_::_)::_|.beginRound::_|.inRangeFunc _::_=>U
 |_=>Y
section
variable {P:aA}{fs:af dF}{Hid:Loc->Prop}{Spec:Wh->ae aK->ae aK->bl->bl->Prop}{T:az->az->Prop}
abbrev dO(b:az)(a:ae az)(w:au)(es:af cX):GStep:=.go {frame:=b,callers:=a,status:=.running,dying:=I} w es
def Ks(g:aH):Prop:=(g.status=.blocked/\g.offers=I)\/(g.status=.waiting/\g.offers=I)\/(g.status=.running/\∃d f,g.dying=Z d/\d.calling=Y/\d.fatal=Z f)
def Shape(s:GStep):Prop:=(∃t c w es,s=dO t c w es)\/(∃o w es,s=.ended o w es)\/∃g w es,s=.go g w es/\Ks g
abbrev kf(a:az):dD×bA:=(a.kind,a.fn)
structure OB(P:aA)(Spec:Wh->ae aK->ae aK->bl->bl->Prop)(Hid:Loc->Prop)(T:az->az->Prop)(fr' fr:az)(cs' cs:ae az)(w W:au)(dn:az)(dg:ae az)(w1:au)(top:az)(ir:ae az)(W1:au)(us:af cX):Prop where
 TZ:T dn top
 cs:(dg=cs'/\ir=cs/\top.roundOf=fr.roundOf/\kf top=kf fr)\/(dg=fr'::cs'/\ir=fr::cs)
 rel:Rel (bN P) Hid w1 W1
 keep:iS w W w1 W1
 AA:∀e∈us,qt Hid w1.heap.size e
def BV(p:aA)(a:az)(c:ae az):Next->aj (az×ae az)
 |.value v=>Z (a.finish v,c)
 |.skip=>Z (a.finish aC,c)
 |.enter f b=>Z (bG p f b .normal,a::c)
 |.defer d=>Z ({a with defers:=d::a.defers}.finish aC,c)
 |.round l f tm x y=>Z (Frame.round l f tm x y .normal,a::c)
 |_=>I
theorem NK.after(h:NK P fs n)(p:aA)(b:az)(a:ae az):∃t c,BV p b a n=Z (t,c):=by
 cases n<;>first|exact⟨_,_,rfl⟩|exact absurd (show Y=U from h) jQ
theorem KY{p:aA}{fr:az}{f:ae az}{t:az}{c:ae az}(d:HX fr.todo=U)(o:BV p fr f n=Z (t,c))(h:s.run p w=.ok n e):∃es,ik p U fr f I s w=dO t c e es:=by
 have m:s.runT p w #[]=(.ok n e,s.events p w #[]):=by rw[jR,h]
 obtain⟨q,l,a,b,j,g,r⟩:=fr;simp only at d;cases a with
 |nil=>exact absurd d jQ
 |cons i k=>
  cases i<;>first|exact absurd d jQ|(unfold ik;simp only[if_true,m];cases n<;>cases o<;>exact⟨_,rfl⟩)
def Am(p:aA)(e:az)(b:ae az)(w:au)(t:az)(c:ae az)(f:au):Prop:=∃n a,f=re a w.tape (w.drawn+n)/\∀τ d,(∀i,i<n->∀q,τ (d+i) q=w.tape (w.drawn+i) q)->∃es,aG p U (G e b) (re w τ d)=dO t c (re a τ (d+n)) es
theorem amP{p:aA}{a:az}{b:ae az}{t:az}{c:ae az}{es:af cX}(g:HX a.todo=U)(u:NK P fs n)(v:tN p s w n e)(h:s.run p w=.ok n e)(k:∀x,aG p U (G a b) x=ik p U a b I s x)(o:ik p U a b I s w=dO t c e es):Am p a b w t c e:=by
 obtain⟨C,B,i⟩:=u.after p a b;obtain⟨A,f⟩:=KY g i h;rw[o]at f;cases f;obtain⟨m,z,q,r⟩:=v;refine⟨m,z,q,λτ d y=>?_⟩;obtain⟨j,l⟩:=KY g i (r τ d y);exact⟨j,(k _).trans l⟩
theorem aaD(C:∀a b,fE P Spec a b->T a b)(hE:∀f j,hasB fs f=U->T (bG (Lo P fs) f j .normal) (bG P f j .normal)){B:Sem Next}
  (hs:oX P fs (bN P) Hid [] B s)(hn:KN P fs Hid B){q u:az}{cs' cs:ae az}(Q:fE P Spec q u)(J:HX u.todo=U)(hr:Rel (bN P) Hid w W){A:au}
  (M:B.run (Lo P fs) w=.ok n A):
  ∃dn X fM E ir H G,ik (Lo P fs) U q cs' I B w=dO dn X A fM/\ik P U u cs I s W=dO E ir H G/\OB P Spec Hid T q u cs' cs w W dn X A E ir H G:=by
 obtain⟨⟨H,G,hS,p,o,pY⟩,_⟩:=(hs w W hr aZ).1 n A M;have R:B.runT (Lo P fs) w #[]=(.ok n A,B.events (Lo P fs) w #[]):=by rw[jR,M]
 have S:s.runT P W #[]=(.ok n H,G):=by rw[hS];simp
 have m:=hn w W hr n A M;have r:∀(N:bA)(c:Prop) [Decidable c](e:cX),e∈seen P N (if c then#[]else G)->qt Hid A.heap.size e:=λN c _ e h=>by
  have O:=BF h;split at O
  ·simp at O
  ·exact pY e O
 have kv:=Q.finish;have z:∀(v:ag),T (q.finish v) (u.finish v):=λv=>C _ _ (kv v);have L:∀(d:bV),lV P d->T ({q with defers:=d::q.defers}.finish aC) ({u with defers:=d::u.defers}.finish aC):=λd hd=>by
  obtain⟨t,rfl,K,V,hm⟩:=Q;exact C _ _ (fE.finish (fr':={u with todo:=t,defers:=d::u.defers}) (fr:={u with defers:=d::u.defers}) ⟨t,F,K,V.cons hd,hm⟩ aC)
 obtain⟨t,rfl,K,V,hm⟩:=Q;obtain⟨N,δ,D,k,γ,β,ro⟩:=u;simp only at J K;cases K with
 |nil=>exact absurd J jQ
 |cons h hk=>
  cases h with
  |inRegion ε l ho=>
   cases l with
   |nil=>exact absurd J jQ
   |cons i l=>
    unfold ik;simp only[if_true,R,S];cases n with
    |value v=>exact⟨_,_,_,_,_,_,_,F,F,z v,.inl ⟨F,F,F,F⟩,p,o,λe g=>r _ _ e (by simpa using g)⟩
    |skip=>exact⟨_,_,_,_,_,_,_,F,F,z aC,.inl ⟨F,F,F,F⟩,p,o,λe g=>r _ _ e (by simpa using g)⟩
    |enter f j=>exact⟨_,_,_,_,_,_,_,F,F,hE f j m,.inr ⟨F,F⟩,p,o,λe g=>r _ _ e (by simpa using g)⟩
    |defer d=>exact⟨_,_,_,_,_,_,_,F,F,L d m,.inl ⟨F,F,F,F⟩,p,o,λe g=>r _ _ e (by simpa using g)⟩
    |round l f tm x y=>
     exact⟨_,_,_,_,_,_,_,F,F,C _ _ ⟨_,F,.cons (.code (.same _ m.1)) (.cons .beginRound (.cons (.code (.same _ m.2.1)) .nil)),⟨.inl F,by simp[Frame.round],m.2.2⟩,.inl F⟩,.inr ⟨F,F⟩,p,o,λe g=>r _ _ e (by simpa using g)⟩
    |_=>exact absurd (show Y=U from m) jQ
  |beginRound=>
   unfold ik;simp only[if_true,R,S];cases n with
   |value v=>exact⟨_,_,_,_,_,_,_,F,F,z v,.inl ⟨F,F,F,F⟩,p,o,λe g=>r _ _ e (by simpa using g)⟩
   |skip=>exact⟨_,_,_,_,_,_,_,F,F,z aC,.inl ⟨F,F,F,F⟩,p,o,λe g=>r _ _ e (by simpa using g)⟩
   |enter f j=>exact⟨_,_,_,_,_,_,_,F,F,hE f j m,.inr ⟨F,F⟩,p,o,λe g=>r _ _ e (by simpa using g)⟩
   |defer d=>exact⟨_,_,_,_,_,_,_,F,F,L d m,.inl ⟨F,F,F,F⟩,p,o,λe g=>r _ _ e (by simpa using g)⟩
   |round l f tm x y=>
    exact⟨_,_,_,_,_,_,_,F,F,C _ _ ⟨_,F,.cons (.code (.same _ m.1)) (.cons .beginRound (.cons (.code (.same _ m.2.1)) .nil)),⟨.inl F,by simp[Frame.round],m.2.2⟩,.inl F⟩,.inr ⟨F,F⟩,p,o,λe g=>r _ _ e (by simpa using g)⟩
   |_=>exact absurd (show Y=U from m) jQ
  |inRangeFunc l0=>
   unfold ik;simp only[if_true,R,S];cases n with
   |value v=>exact⟨_,_,_,_,_,_,_,F,F,z v,.inl ⟨F,F,F,F⟩,p,o,λe g=>r _ _ e (by simpa using g)⟩
   |skip=>exact⟨_,_,_,_,_,_,_,F,F,z aC,.inl ⟨F,F,F,F⟩,p,o,λe g=>r _ _ e (by simpa using g)⟩
   |enter f j=>exact⟨_,_,_,_,_,_,_,F,F,hE f j m,.inr ⟨F,F⟩,p,o,λe g=>r _ _ e (by simpa using g)⟩
   |defer d=>exact⟨_,_,_,_,_,_,_,F,F,L d m,.inl ⟨F,F,F,F⟩,p,o,λe g=>r _ _ e (by simpa using g)⟩
   |round l f tm x y=>
    exact⟨_,_,_,_,_,_,_,F,F,C _ _ ⟨_,F,.cons (.code (.same _ m.1)) (.cons .beginRound (.cons (.code (.same _ m.2.1)) .nil)),⟨.inl F,by simp[Frame.round],m.2.2⟩,.inl F⟩,.inr ⟨F,F⟩,p,o,λe g=>r _ _ e (by simpa using g)⟩
   |_=>exact absurd (show Y=U from m) jQ
  |_=>exact absurd J jQ
end
end
section
open Go.ConcR (DC0)
def fQ{α:Type}(P:aA):Sem α->aj α
 |.pure a=>Z a
 |.program k=>fQ P (k P)
 |_=>I
theorem Bs{α:Type}:∀{s:Sem α}{a:α},fQ P s=Z a->∀w es,s.runT P w es=(.ok a w,es):=by
 intro s;induction s with
 |pure x=>intro a h w es;cases h;rfl
 |program k b=>intro a h w es;exact b P h w es
 |_=>intro a h;cases h
def om(P:aA)(g:aH):aj aH:=
 match g with
 |⟨⟨p,j,r,e,.run,h,I⟩,q,.running,I,I⟩=>
  let n (t:ae aK):aj aH:=Z ⟨⟨p,j,t,e,.run,h,I⟩,q,.running,I,I⟩;let u (t:ae aK):aj aH:=Z ⟨⟨p,j,t,e,.returning,h,I⟩,q,.running,I,I⟩
  match r with
  |[]=>u []
  |.code .ret::k=>u (.code .ret::k)
  |.code .skip::k=>n k
  |.code (.label _)::k=>n k
  |.inBlock _::k=>n k
  |.inScope _::k=>n k
  |.code (.seq a b)::k=>n (.code a::.code b::k)
  |.code (.cond c w x)::k=>
   match bJ ⟨p,j,[],e,.run,h,I⟩ c with
   |.bool U=>n (.code w::k)
   |.bool Y=>n (.code x::k)
   |_=>I
  |.code (.block id l)::k=>n (.code l::.inBlock id::k)
  |.code (.loop l)::k=>n (.code l::.inLoop l::k)
  |.inLoop l::k=>n (.code l::.inLoop l::k)
  |.code (.scope l)::k=>n (.code l::.inScope l::k)
  |.code (.exit id)::k=>(exitTo id k).bind n
  |.code (.region _ m Y)::k=>n (.inRegion m (oz m.size)::k)
  |.inRegion _ []::k=>n k
  |.inRegion m (i::rest)::k=>
   match m[i]? with
   |none=>I
   |some o=>
    if vH o (yielded m j)then
     match h with
     |.early=>I
     |_=>
      match fQ P (cu (bJ ⟨p,j,[],e,.run,h,I⟩) o)with
      |some (.value v)=>Z ⟨jd ⟨p,j,.inRegion m (i::rest)::k,e,.run,h,I⟩ v,q,.running,I,I⟩
      |some .skip=>Z ⟨jd ⟨p,j,.inRegion m (i::rest)::k,e,.run,h,I⟩ aC,q,.running,I,I⟩
      |some (.enter f s)=>Z ⟨bG P f s .normal,⟨p,j,.inRegion m (i::rest)::k,e,.run,h,I⟩::q,.running,I,I⟩
      |some (.defer d)=>Z ⟨jd ⟨p,j,.inRegion m (i::rest)::k,d::e,.run,h,I⟩ aC,q,.running,I,I⟩
      |_=>I
    else Z ⟨jd ⟨p,j,.inRegion m (i::rest)::k,e,.run,h,I⟩ aC,q,.running,I,I⟩
  |_=>I
 |⟨⟨p,j,r,[],.returning,h,y⟩,a::q,.running,I,I⟩=>
  match P.funcs[p]? with
  |none=>I
  |some f=>
   match fQ P (results f j),h,a.mode with
   |some v,.normal,.run=>Z ⟨a.finish v,q,.running,I,I⟩
   |some _,.deferred,.returning=>Z ⟨a,q,.running,I,I⟩
   |_,_,_=>I
 |_=>I
theorem CO{main:Bool}{C:aH}(h:om P g=Z C):g.status=.running/\∀w,aG P main g w=.go C w #[]:=by
 obtain⟨⟨j,e,l,b,G,d,M⟩,s,R,Q,L⟩:=g;unfold om at h;split at h
 ·rename_i j e l b d s m
  cases m;refine⟨F,λw=>?_⟩;dsimp only at h;split at h
  ·cases h;simp[aG,bE]
  ·cases h;simp[aG,bE]
  ·cases h;simp[aG,bE]
  ·cases h;simp[aG,bE]
  ·cases h;simp[aG,bE]
  ·cases h;simp[aG,bE]
  ·cases h;simp[aG,bE]
  ·rename_i c N O k
   have t:∀H,bJ ⟨j,e,H,b,.run,d,I⟩ c=bJ ⟨j,e,[],b,.run,d,I⟩ c:=λH=>by cases c<;>rfl
   split at h
   ·rename_i u;cases h;simp[aG,bE,t,u]
   ·rename_i u;cases h;simp[aG,bE,t,u]
   ·cases h
  ·cases h;simp[aG,bE]
  ·cases h;simp[aG,bE]
  ·cases h;simp[aG,bE]
  ·cases h;simp[aG,bE]
  ·rename_i id k
   cases he:exitTo id k with
   |none=>rw[he]at h;cases h
   |some r=>rw[he]at h;cases h;simp[aG,bE,he]
  ·cases h;simp[aG,bE]
  ·cases h;simp[aG,bE]
  ·rename_i p i rest k
   split at h
   ·cases h
   ·rename_i o y
    have t:bJ ⟨j,e,.inRegion p (i::rest)::k,b,.run,d,I⟩=bJ ⟨j,e,[],b,.run,d,I⟩:=funext λx=>by cases x<;>rfl
    split at h
    ·rename_i A
     have step:aG P main ⟨⟨j,e,.inRegion p (i::rest)::k,b,.run,d,I⟩,s,.running,I,I⟩ w=ik P U ⟨j,e,.inRegion p (i::rest)::k,b,.run,d,I⟩ s I (cu (bJ ⟨j,e,[],b,.run,d,I⟩) o) w:=by
      simp only[aG,bE,y,iy,A,pM,if_true];unfold stepG.oper;simp only[Frame.oper?,y,t]
     rw[step];have B:∀n,fQ P (cu (bJ ⟨j,e,[],b,.run,d,I⟩) o)=Z n->(cu (bJ ⟨j,e,[],b,.run,d,I⟩) o).runT P w #[]=(.ok n w,#[]):=λn J=>Bs J w #[];cases d<;>dsimp only at h
     all_goals first
      |(cases h;done)
      |(split at h<;>first
         |(cases h;done)
         |(rename_i K
           have q:=B _ K;cases h;unfold ik;simp only[if_true,q];simp[seen_none,kF]))
    ·rename_i A
     cases h;simp[aG,bE,y,A]
  ·cases h
 ·rename_i j e l d M a s m
  cases m;refine⟨rfl,λw=>?_⟩;split at h
  ·cases h
  ·rename_i f D
   split at h
   ·rename_i v z E
    cases h;have q:=Bs z w #[];simp only[aG,lU,D,q,rh];simp[seen_none,kF]
   ·rename_i v z E
    cases h;have q:=Bs z w #[];simp only[aG,lU,D,q,rh,E];simp[seen_none,kF]
   ·cases h
 ·cases h
def aN(P:aA):Nat->aH->aH
 |0,g=>g
 |n+1,g=>match om P g with
  |some a=>aN P n a
  |none=>g
theorem aaC{a:Bool}{Next:aH->Prop}:∀(n:Nat)(g:aH),Next (aN P n g)->Oz P a Next n g:=by
 intro n;induction n with
 |zero=>intro g h;exact Goes.stop λ_ _=>h
 |succ n e=>
  intro g h;unfold aN at h;cases hq:om P g with
  |none=>rw[hq]at h;exact Goes.stop λ_ _=>h
  |some b=>
   rw[hq]at h;obtain⟨c,d⟩:=CO (main:=a) hq;refine Goes.step c λw _=>?_;rw[d w];exact⟨⟨F,F⟩,Goes.rely (λ_ _ _ _ _=>trivial) (e b h) trivial⟩
inductive iR where
 |ev (e:cX)
 |shape (r:Nat)
 |frozen (a:aR)
def ry{α:Type}(P:aA)(b:aj (aJ×Nat)):Sem α->ag->aj (α×ag×ae iR)
 |.pure a,v=>Z (a,v,[])
 |.program k,v=>ry P b (k P) v
 |.load m a k,v=>(ry P b (k v) v).map λr=>(r.1,r.2.1,.ev ⟨.cell a,Y,m==.atomic⟩::r.2.2)
 |.store m a x k,_=>match x with
  |.agg _|.tuple _=>I
  |x=>(ry P b k x).map λr=>(r.1,r.2.1,.ev ⟨.cell a,U,m==.atomic⟩::r.2.2)
 |.frozen a k,v=>(ry P b (k Y) v).map λx=>(x.1,x.2.1,.frozen a::x.2.2)
 |.shape r k,v=>(ry P b (k b) v).map λx=>(x.1,x.2.1,.shape r::x.2.2)
 |.mark m k,v=>(ry P b k v).map λr=>(r.1,r.2.1,.ev ⟨.mark m,Y,U⟩::r.2.2)
 |_,_=>I
def dc:ae iR->ae cX
 |[]=>[]
 |.ev e::l=>e::dc l
 |.shape _::l=>dc l
 |.frozen _::l=>dc l
def eH(a:aR):ae iR->Prop
 |[]=>True
 |.ev ⟨.cell b,_,_⟩::l=>b=a/\eH a l
 |.ev _::l=>eH a l
 |.shape r::l=>r=a.block/\eH a l
 |.frozen b::l=>b=a/\eH a l
theorem S2(h:w.cell? a=Z v)(b:w.frozen? a=Y):(w.setCell a x).cell? a=Z x/\(w.setCell a x).frozen? a=Y/\(w.setCell a x).shape? a.block=w.shape? a.block:=by
 refine⟨by rw[za h,if_pos F],?_,yw h x _⟩;obtain⟨c,t,f,e,g,i,_⟩:=kK h;have d:=heap_setCell e g x a.block;rw[if_pos F]at d;unfold pN at b⊢;rw[d];rw[e]at b;exact b
theorem Hx{a b:au}(c:a.heap=b.heap)(d:a.tape=b.tape)(e:a.drawn=b.drawn)(f:a.os=b.os)(g:a.output=b.output):a=b:=by
 cases a;cases b;simp_all
theorem NI(h:w.cell? a=Z v)(x y:ag):(w.setCell a x).setCell a y=w.setCell a y:=by
 obtain⟨c,t,f,g,d,j,_⟩:=kK h;have i:=heap_setCell g d x a.block;rw[if_pos F]at i;refine Hx (yI λb=>?_) F F F F;rw[heap_setCell i d,heap_setCell g d,heap_setCell g d];by_cases e:b=a.block
 ·simp[e]
 ·simp[e]
theorem wR(h:w.cell? a=Z v):w.setCell a v=w:=by
 obtain⟨c,t,f,g,k,j,l⟩:=kK h;refine Hx (yI λb=>?_) F F F F;rw[heap_setCell g k];by_cases e:b=a.block
 ·subst e
  rw[if_pos F,g];congr 2;apply yI;intro i;rw[tJ];by_cases d:a.off=i
  ·subst d;rw[if_pos F,if_pos j,l]
  ·simp[d]
 ·rw[if_neg e]
theorem aez{α:Type}{t:aj (aJ×Nat)}:∀{s:Sem α}{v:ag}{n:α}{v':ag}{l:ae iR},ry P t s v=Z (n,v',l)->eH a l->∀w es,w.cell? a=Z v->w.frozen? a=Y->w.shape? a.block=t->s.runT P w es=(.ok n (w.setCell a v'),es++(dc l).toArray):=by
 intro s;induction s with
 |pure x=>
  intro v n v' l h c w es d e f;cases h;rw[wR d];simp[nt,dc]
 |program k j=>intro v n v' l h c w es d e f;exact j P h c w es d e f
 |load m b k j=>
  intro v n v' l h c w es d e f;simp only[ry]at h;obtain⟨⟨p,q,o⟩,g,i⟩:=gV.1 h;cases i;obtain⟨rfl,c⟩:=c;simp only[nt,d];rw[j v g c w _ d e f];simp[dc]
 |store m b x k j=>
  intro v n v' l h c w es d e f;have B:∃r,ry P t k x=Z r/\(r.1,r.2.1,iR.ev ⟨.cell b,U,m==.atomic⟩::r.2.2)=(n,v',l)/\x.oneCell'=U:=by
   cases x<;>first
    |(simp only[ry]at h;cases h;done)
    |(simp only[ry]at h
      obtain⟨r,g,i⟩:=gV.1 h;exact⟨r,g,i,rfl⟩)
  obtain⟨⟨p,q,o⟩,g,i,u⟩:=B;cases i;obtain⟨rfl,c⟩:=c;obtain⟨y,z,c3⟩:=S2 (x:=x) d e;have A:(Sem.store m b x k).runT P w es=k.runT P (w.setCell b x) (es.push ⟨.cell b,U,m==.atomic⟩):=by
   cases x<;>first|(cases u;done)|(simp only[nt,d,e];rfl)
  rw[A,j g c _ _ y z (c3.trans f),NI d];simp[dc]
 |shape r k j=>
  intro v n v' l h c w es d e f;simp only[ry]at h;obtain⟨⟨p,q,o⟩,g,i⟩:=gV.1 h;cases i;obtain⟨rfl,c⟩:=c;simp only[nt,f];rw[j _ g c w _ d e f];simp[dc]
 |frozen b k j=>
  intro v n v' l h c w es d e f;simp only[ry]at h;obtain⟨⟨p,q,o⟩,g,i⟩:=gV.1 h;cases i;obtain⟨rfl,c⟩:=c;simp only[nt,e];rw[j _ g c w _ d e f];simp[dc]
 |mark m k j=>
  intro v n v' l h c w es d e f;simp only[ry]at h;obtain⟨⟨p,q,o⟩,g,i⟩:=gV.1 h;cases i;simp only[nt];rw[j g c w _ d e f];simp[dc]
 |_=>intro v n v' l h;simp only[ry]at h;cases h
def eU(P:aA)(g:aH):aj (Sem Next):=
 match g with
 |⟨⟨e,c,.inRegion d (i::_)::_,a,.run,b,I⟩,_,.running,I,I⟩=>
  match b with
  |.early=>I
  |_=>
   match d[i]? with
   |some o=>if vH o (yielded d c)then Z (cu (bJ ⟨e,c,[],a,.run,b,I⟩) o)else I
   |none=>I
 |_=>I
theorem yk(h:eU P g=Z s):∃e c d i rest k a b f o,g=⟨⟨e,c,.inRegion d (i::rest)::k,a,.run,b,I⟩,f,.running,I,I⟩/\b≠.early/\d[i]?=Z o/\vH o (yielded d c)=U/\cu (bJ ⟨e,c,[],a,.run,b,I⟩) o=s:=by
 unfold eU at h;split at h
 ·split at h
  ·cases h
  ·split at h
   ·split at h
    ·exact⟨_,_,_,_,_,_,_,_,_,_,F,by simpa using‹_›,‹_›,‹_›,dQ h⟩
    ·cases h
   ·cases h
 ·cases h
def mg(P:aA)(g:aH)(n:Next):aj aH:=(BV P g.frame g.callers n).map λr=>{g with frame:=r.1,callers:=r.2}
def nK(P:aA)(b:aj (aJ×Nat))(v:ag)(g:aH):aj (aH×ag×ae iR):=(eU P g).bind λs=>(ry P b s v).bind λr=>(mg P g r.1).map λa=>(a,r.2.1,r.2.2)
theorem wB{main:Bool}{A:aj (aJ×Nat)}{v':ag}{q:aH}{l:ae iR}(h:nK P A v g=Z (q,v',l))(L:eH a l):g.status=.running/\∀w,w.cell? a=Z v->w.frozen? a=Y->w.shape? a.block=A->aG P main g w=.go q (w.setCell a v') (seen P g.frame.fn (dc l).toArray):=by
 unfold nK at h;obtain⟨s,m,r⟩:=m4.1 h;obtain⟨⟨n,T,S⟩,N,u⟩:=m4.1 r;obtain⟨R,M,G⟩:=gV.1 u;clear h r u;obtain⟨j,e,f,i,rest,k,b,d,p,o,rfl,C,z,O,m⟩:=yk m;cases G;obtain⟨⟨t,c⟩,y,J⟩:=gV.1 M;cases J;refine⟨F,λw H K E=>?_⟩;have B:=aez N L w #[] H K E;have D:bJ ⟨j,e,.inRegion f (i::rest)::k,b,.run,d,I⟩=bJ ⟨j,e,[],b,.run,d,I⟩:=funext λx=>by cases x<;>rfl
 have step:aG P main ⟨⟨j,e,.inRegion f (i::rest)::k,b,.run,d,I⟩,p,.running,I,I⟩ w=ik P U ⟨j,e,.inRegion f (i::rest)::k,b,.run,d,I⟩ p I s w:=by
  simp only[aG,bE,z,iy,O,pM,if_true];unfold stepG.oper;simp only[Frame.oper?,z,D,m]
 rw[step];have Q:(d==CallKind.early)=Y:=by simpa using C
 unfold ik;simp only[if_true,B];cases n<;>simp only[BV,ij,fK,reduceCtorEq]at y<;>obtain⟨rfl,rfl⟩:=y<;>simp[kF,Q]
end
section
open Go.ConcN (sumTo upd sumTo_upd upd_ne upd_same)
def stage(P:aA)(a:aj (aJ×Nat))(v:ag)(g:aH):aj (aH×ag×ae iR):=nK P a v (aN P 400 g)
def gT(P:aA)(a:aj (aJ×Nat))(v:ag)(g:aH):aH:=match stage P a v g with
 |some r=>r.1
 |none=>default
def wW(P:aA)(g:aH)(l:ae iR):af cX:=seen P (aN P 400 g).frame.fn (dc l).toArray
theorem BA{P}{a}{v v'}{g}{l}(h:(stage P a v g).map (λr=>r.2)=Z (v',l)):stage P a v g=Z (gT P a v g,v',l):=by
 unfold gT;cases hs:stage P a v g with
 |none=>rw[hs]at h;cases h
 |some r=>grind
def lC(A:aR->Prop)(X:Loc->Prop)(B:Nat)(e:cX):Prop:=
 match e.loc with
 |.cell b=>A b/\(e.sync=U\/¬X (.cell b))/\b.block<B
 |.mark (.read b)|.mark (.write b)=>A b/\b.block<B
 |.mark (.acquire b)|.mark (.release b)|.mark (.releaseMerge b)=>b.block<B
 |.mark _=>True
 |_=>False
structure Gate(St:Nat->Loc->Prop)(ax:Nat->aj YS)(A:aR->Prop):Prop where
 out:∀b,A b->∀g,¬St g (.cell b)
 keep:∀b,A b->∀i y,ax i=Z y->∀w v,y.K w->y.K (w.setCell b v)
section
variable {P:aA}{St At:Nat->Loc->Prop}{X:Loc->Prop}{ax:Nat->aj YS}{h d B:Nat}{T:dJ}{W:af aH}{w:au}{q:Nat->Nat}{A:aR->Prop}
theorem zb{a}{v x}(k:w.cell? a=Z x){c g s r:Nat}{b}{i tm}(n:w.heap[c]?=Z (.chan g b i s r tm)):(w.setCell a v).heap[c]?=w.heap[c]?:=by
 obtain⟨m,t,f,j,l,o,_⟩:=kK k;rw[heap_setCell j l];by_cases e:c=a.block
 ·simp_all
 ·rw[if_neg e]
theorem Pb(i:Gate St ax A){e}(f:lC A X B e):(∀x,(gy e).touch?=Z x->As St X x)/\(gy e).low B:=by
 obtain⟨j,r,l⟩:=e;cases j with
 |cell b=>
  obtain⟨k,p,n⟩:=f;refine⟨λx a=>?_,?_⟩
  ·cases l with
   |true=>
    simp only[gy,lS,ij]at a;subst a;exact⟨λg c=>absurd c (i.out b k g),λ_=>by simp⟩
   |false=>
    have o:¬X (.cell b):=by simpa using p
    simp only[gy,lS,ij]at a;subst a;exact⟨λg c=>absurd c (i.out b k g),λc=>absurd c o⟩
  ·cases l<;>exact n
 |mark m=>
  cases m with
  |read b=>
   refine⟨λx a=>?_,f.2⟩;simp only[gy,lS,ij]at a;subst a;exact⟨λg c=>absurd c (i.out b f.1 g),λ_=>by simp⟩
  |write b=>
   refine⟨λx a=>?_,f.2⟩;simp only[gy,lS,ij]at a;subst a;exact⟨λg c=>absurd c (i.out b f.1 g),λ_=>by simp⟩
  |acquire b=>exact⟨λx a=>by simp[gy,lS]at a,f⟩
  |release b=>exact⟨λx a=>by simp[gy,lS]at a,f⟩
  |releaseMerge b=>exact⟨λx a=>by simp[gy,lS]at a,f⟩
  |_=>exact⟨λx a=>by simp[gy,lS]at a,trivial⟩
 |_=>exact f.elim
theorem YH.stage(C:YH P St At X ax h d B T W w q)(s:Gate St ax A){a}(V:A a){g}{sl}(M:W[h]?=Z g){b}{v v'}{l}
  (u:(YtgahemdblfapeaaGreatDoor.stage P b v g).map (λr=>r.2)=Z (v',l))(R:eH a l)(K:∀e∈dc l,lC A X B e)(p:w.cell? a=Z v)(O:w.frozen? a=Y)(J:w.shape? a.block=b):
  mP P St At X ax h B W.size (crowd W w sl) T λd' f w'=>d'=gW d (wW P g l)/\f=gT P b v g/\AtRel (w.setCell a v') w':=by
 refine(Ux _ T _ w q _ g (λf=>f=aN P 400 g) C M (aaC _ g F)).then λmr w1 jP T1 q1 d1 a1 z kL n⟨E,G,H⟩=>?_
 subst E G;obtain⟨t,rfl⟩:=H;have Q:=BA u;obtain⟨x,L⟩:=wB Q R;rw[<-z];refine n.told kL x λo=>⟨gT P b v g,(((w.at t).at o)).setCell a v',wW P g l,L _ p O J,⟨λi y c j S=>?_,λi y j m=>s.keep a V i y j _ _ m,λe N=>?_⟩,F,F,⟨o,F⟩⟩
 ·obtain⟨k,m⟩:=n.yd.chans i y c j S
  have D:=m;exact zb p D
 ·have:=mem_seen N
  exact Pb s (K e (by simpa using this))
end
end

section
open Go.ConcN (sumTo upd sumTo_upd upd_ne upd_same)
theorem zL{P:aA}{main:Bool}{g g':aH}{n:Next}{w w1:au}{es:af cX}(f:eU P g=Z s)(z:mg P g n=Z g')(C:s.runT P w #[]=(.ok n w1,es)):g.status=.running/\aG P main g w=.go g' w1 (seen P g.frame.fn es):=by
 obtain⟨fn,R,e,i,rest,k,b,V,cs,o,rfl,r,p,D,f⟩:=yk f;obtain⟨⟨t,c⟩,j,y⟩:=gV.1 z;cases y;refine⟨F,?_⟩;have u:bJ ⟨fn,R,.inRegion e (i::rest)::k,b,.run,V,I⟩=bJ ⟨fn,R,[],b,.run,V,I⟩:=funext λx=>by cases x<;>rfl
 have step:aG P main ⟨⟨fn,R,.inRegion e (i::rest)::k,b,.run,V,I⟩,cs,.running,I,I⟩ w=ik P U ⟨fn,R,.inRegion e (i::rest)::k,b,.run,V,I⟩ cs I s w:=by
  simp only[aG,bE,p,iy,D,pM,if_true];unfold stepG.oper;simp only[Frame.oper?,p,u,f]
 rw[step];have E:(V==CallKind.early)=Y:=by simpa using r
 unfold ik;simp only[if_true,C];cases n<;>simp only[BV,ij,fK,reduceCtorEq]at j<;>obtain⟨rfl,rfl⟩:=j<;>simp[kF,E]
def Nm(P:aA)(g:aH)(n:Next):aH:=(mg P g n).getD default
theorem apC{P:aA}{g:aH}{n:Next}(h:(mg P g n).isSome=U):mg P g n=Z (Nm P g n):=by
 unfold Nm;cases e:mg P g n with
 |none=>rw[e]at h;cases h
 |some x=>rfl
structure eC(w:au)(a:aR)(v:ag)(sh:aj (aJ×Nat)):Prop where
 cell:w.cell? a=Z v
 free:w.frozen? a=Y
 shape:w.shape? a.block=sh
def xr(a:aR)(v:ag)(w b:au):Prop:=AtRel (w.setCell a v) b
theorem eC.upd{w b:au}{a:aR}{v v':ag}{sh:aj (aJ×Nat)}(h:eC w a v sh)(f:xr a v' w b):eC b a v' sh:=by
 obtain⟨d,rfl⟩:=f;obtain⟨c,e,c3⟩:=S2 (x:=v') h.cell h.free;exact⟨c,e,c3.trans h.shape⟩
theorem eC.at{w b:au}{a:aR}{v:ag}{sh:aj (aJ×Nat)}(h:eC w a v sh)(c:AtRel w b):eC b a v sh:=by
 obtain⟨d,rfl⟩:=c;exact⟨h.cell,h.free,h.shape⟩
theorem xr.trans{w f i:au}{a:aR}{v e b:ag}(o:w.cell? a=Z v)(j:xr a e w f)(k:xr a b f i):xr a b w i:=by
 obtain⟨p,rfl⟩:=j;obtain⟨c,rfl⟩:=k;refine⟨c,?_⟩;show(((w.setCell a e).setCell a b).at c)=_;rw[NI o]
theorem xr.at{w b c:au}{a:aR}{v:ag}(e:xr a v w b)(f:AtRel b c):xr a v w c:=atRel_trans _ _ _ e f
section
variable {P:aA}{Q At:Nat->Loc->Prop}{W:Loc->Prop}{O:Nat->aj YS}{h d B n:Nat}{T:dJ}{L:af aH}{w:au}{q:Nat->Nat}{A:aR->Prop}
theorem YH.quiet(C:YH P Q At W O h d B T L w q)(k:Nat){g g':aH}{sl:aj (Nat×Nat)}(c:L[h]?=Z g)(e:aN P k g=g'):mP P Q At W O h B L.size (crowd L w sl) T λd' b f=>d'=d/\b=g'/\AtRel w f:=
 Ux k T L w q sl g (λb=>b=g') C c (aaC k g e)
theorem YH.J9(C:YH P Q At W O h d B T L w q){g:aH}{sl:aj (Nat×Nat)}(p:L[h]?=Z g){n:Next}(x:eU P (aN P 400 g)=Z s)(r:(mg P (aN P 400 g) n).isSome=U)
  (u:∀b,s.runT P (w.at b) #[]=(.ok n (w.at b),#[])):
  mP P Q At W O h B L.size (crowd L w sl) T λd' f z=>d'=d/\f=Nm P (aN P 400 g) n/\AtRel w z:=by
 refine(C.quiet (sl:=sl) 400 p F).then λJ N jP D K H G i y e⟨j,k,o⟩=>?_
 subst j k;obtain⟨E,rfl⟩:=o;rw[<-i];have c:=λb=>zL (main:=h==0) x (apC r) (u b);refine e.told y (c 0).1 λb=>⟨_,_,_,(c b).2,?_,?_,F,⟨b,F⟩⟩
 ·exact DZ.still (by simp[seen_none])
 ·simp[seen_none,gW]
def ji(P:aA)(Q At:Nat->Loc->Prop)(W:Loc->Prop)(O:Nat->aj YS)(h B n:Nat)(a:aR)(w0:au)(m:fg)(T:dJ)(d:Nat)(v:ag)(g:aH):Prop:=mP P Q At W O h B n m T λd' b c=>d'=d/\b=g/\xr a v w0 c
section
variable {m:fg}{a:aR}{w0:au}{v0 v v':ag}{sh:aj (aJ×Nat)}{g g':aH}{d':Nat}
theorem ji.begin{sl:aj (Nat×Nat)}(C:YH P Q At W O h d B T L w q)(b:L[h]?=Z g)(c:eC w a v sh):ji P Q At W O h B L.size a w (crowd L w sl) T d v g:=HH C b ⟨F,F,⟨w.drawn,by rw[wR c.cell];rfl⟩⟩
theorem ji.stage(H:ji P Q At W O h B n a w0 m T d v g)(f:eC w0 a v0 sh)(C:Gate Q O A)(G:A a){l:ae iR}(o:(YtgahemdblfapeaaGreatDoor.stage P sh v g).map (λr=>r.2)=Z (v',l))(D:eH a l)(y:∀e∈dc l,lC A W B e)(z:gW d (wW P g l)=d'):ji P Q At W O h B n a w0 m T d' v' (gT P sh v g):=by
 refine mP.then H λmr w1 jP T1 q1 d1 a1 p kL i⟨u,x,c⟩=>?_;subst u x;have b:=f.upd c;have:=YH.stage i C G (sl:=jP) kL o D y b.cell b.free b.shape;rw[p]at this;obtain⟨N,E,w2,J,j,q2,s,k,K,k2,k3,k4,k5,k6,k7⟩:=this;exact⟨N,E,w2,J,j,q2,s,k,K,k2,k3,k4,k5.trans z,k6,xr.trans f.cell c k7⟩
theorem ji.J9(H:ji P Q At W O h B n a w0 m T d v g)(u:eC w0 a v0 sh){x:Next}(C:eU P (aN P 400 g)=Z s)(y:(mg P (aN P 400 g) x).isSome=U)(z:∀w,eC w a v sh->s.runT P w #[]=(.ok x w,#[])):ji P Q At W O h B n a w0 m T d v (Nm P (aN P 400 g) x):=by
 refine mP.then H λmr w1 jP T1 q1 d1 a1 i kL c⟨o,p,b⟩=>?_;subst o p;have r:=u.upd b;have:=YH.J9 c (sl:=jP) kL C y λk=>z _ (r.at ⟨k,F⟩);rw[i]at this;obtain⟨N,D,w2,E,e,q2,j,f,G,J,K,k4,k5,k6,k7⟩:=this;exact⟨N,D,w2,E,e,q2,j,f,G,J,K,k4,k5,k6,b.at k7⟩
theorem ji.quiet(H:ji P Q At W O h B n a w0 m T d v g)(k:Nat)(r:aN P k g=g'):ji P Q At W O h B n a w0 m T d v g':=by
 refine mP.then H λmr w1 jP T1 q1 d1 a1 f J b⟨j,o,p⟩=>?_;subst j o;have:=YH.quiet b (sl:=jP) k J r;rw[f]at this;obtain⟨N,s,w2,u,c,K,i,e,x,y,z,C,D,E,G⟩:=this;exact⟨N,s,w2,u,c,K,i,e,x,y,z,C,D,E,p.at G⟩
end
end
theorem T7{P:aA}{t u e:aJ}{w:au}{a:aR}{v:ag}{sh:aj (aJ×Nat)}(r:P.underlying t=Z (.pointer e))(s:P.underlying u=Z .unsafePointer)(b:(P.info? e).map (λi=>i.size !=0)=Z U)(o:eC w a v sh):(convert t u (.pointer (Z a))>>=λv=>pure (lT v)).runT P w #[]=(.ok (.value (.pointer (Z a))) w,#[]):=by
 obtain⟨c,x,f,k,z,y,C⟩:=kK o.cell;obtain⟨i,p,b⟩:=gV.1 b;have j:i.size≠0:=by simpa using b
 have rT:w.shape? a.block=Z (x,c.size):=by unfold fD;rw[k]
 have aE:¬(c.size<=a.off):=by omega
 simp[convert,Conv.unsafePointer,Conv.seenAt,viewAt,cellsIn,underlying,typeInfo,sizeOf,r,s,p,j,rT,aE]
abbrev i32(n:Int):ag:=.int .i32 n
abbrev ptr(S X:Nat):ag:=.pointer (Z ⟨S,X,I⟩)
section
variable {Q At:Nat->Loc->Prop}{W:Loc->Prop}{O:Nat->aj YS}{h B n:Nat}{T:dJ}{w:au}{A:aR->Prop}{m:fg}{S X t l:Nat}
variable {fn:bA}{R:af ag}{M:ae aK}{ds:ae bV}{V:dD}{ro:aj Nat}{cs:ae az}
def bO(n:Nat)(t:Nat->ag)(l:ae ag):af ag:=⟨(oz n).map t++l⟩
noncomputable def B6(f:bA)(n:Nat)(t:Nat->ag)(l:ae ag)(V:dD):az:=⟨f,bO n t l,[.code (((Tryz.prog.funcs[f]?).bind (·.body)).getD .skip)],[],.run,V,I⟩
def cN(t:Nat->ag)(p:ag):Nat->ag:=λi=>match i with
 |0=>p
 |i+1=>t i
def Ht(t:Nat->ag)(p q:ag):Nat->ag:=λi=>match i with
 |0=>p
 |1=>q
 |i+2=>t i
section
variable {xs:Nat->ag}{xl:ae ag}
theorem amQ(f:Gate Q O A)(c:A ⟨S,X,I⟩)(i:S<B)(b:eC w ⟨S,X,I⟩ (i32 0) (Z (t,l)))
  (H:ji ak Q At W O h B n ⟨S,X,I⟩ w m T 0 (i32 0) (aN ak 1 (G (B6 43 6 (cN xs (ptr S X)) xl .normal) (⟨fn,R,M,ds,.run,V,ro⟩::cs)))):
  ji ak Q At W O h B n ⟨S,X,I⟩ w m T 0 (i32 1) (G (jd ⟨fn,R,M,ds,.run,V,ro⟩ (.tuple #[])) cs):=by
 have j:=H.stage b f c (v':=i32 0) (l:=[.ev ⟨.mark (.extern 74),Y,U⟩,.ev ⟨.mark .disable,Y,U⟩]) (d':=1) av (by simp[eH]) (by simp[dc,lC]) av;have k:=j.stage b f c (v':=i32 1) (l:=[.ev ⟨.mark (.extern 110),Y,U⟩,.shape S,.frozen ⟨S,X,I⟩,.ev ⟨.cell ⟨S,X,I⟩,Y,U⟩,.ev ⟨.cell ⟨S,X,I⟩,U,U⟩]) (d':=1) av (by simp[eH]) (by simp[dc,lC,c,i]) av;have o:=k.stage b f c (v':=i32 1) (l:=[.ev ⟨.mark (.extern 76),Y,U⟩,.ev ⟨.mark .enable,Y,U⟩]) (d':=0) av (by simp[eH]) (by simp[dc,lC]) av;have p:=o.J9 b (s:=convert 210 169 (ptr S X)>>=λv=>pure (.value v)) (x:=.value (ptr S X)) av av (λw=>T7 (e:=92) av av av);have r:=p.stage b f c (v':=i32 1) (l:=[.ev ⟨.mark (.extern 77),Y,U⟩,.ev ⟨.mark (.acquire ⟨S,X,I⟩),Y,U⟩]) (d':=0) av (by simp[eH]) (by simp[dc,lC,i]) av;exact r.quiet 6 av
theorem axd(f:Gate Q O A)(b:A ⟨S,X,I⟩)(y:¬W (.cell ⟨S,X,I⟩))(i:S<B)(c:eC w ⟨S,X,I⟩ (i32 1) (Z (t,l)))
  (H:ji ak Q At W O h B n ⟨S,X,I⟩ w m T 0 (i32 1) (aN ak 1 (G (B6 44 6 (cN xs (ptr S X)) xl .normal) (⟨fn,R,M,ds,.run,V,ro⟩::cs)))):
  ji ak Q At W O h B n ⟨S,X,I⟩ w m T 0 (i32 0) (G (jd ⟨fn,R,M,ds,.run,V,ro⟩ (.tuple #[])) cs):=by
 have j:=H.stage c f b (v':=i32 1) (l:=[.ev ⟨.cell ⟨S,X,I⟩,Y,Y⟩]) (d':=0) av (by simp[eH]) (by simp[dc,lC,b,i,y]) av;have k:=j.J9 c (s:=convert 210 169 (ptr S X)>>=λv=>pure (.value v)) (x:=.value (ptr S X)) av av (λw=>T7 (e:=92) av av av);have o:=k.stage c f b (v':=i32 1) (l:=[.ev ⟨.mark (.extern 112),Y,U⟩,.ev ⟨.mark (.releaseMerge ⟨S,X,I⟩),Y,U⟩]) (d':=0) av (by simp[eH]) (by simp[dc,lC,i]) av;have p:=o.stage c f b (v':=i32 1) (l:=[.ev ⟨.mark (.extern 74),Y,U⟩,.ev ⟨.mark .disable,Y,U⟩]) (d':=1) av (by simp[eH]) (by simp[dc,lC]) av;have r:=p.stage c f b (v':=i32 0) (l:=[.ev ⟨.mark (.extern 113),Y,U⟩,.ev ⟨.cell ⟨S,X,I⟩,Y,U⟩,.ev ⟨.cell ⟨S,X,I⟩,U,U⟩]) (d':=1) av (by simp[eH]) (by simp[dc,lC,b,i]) av;have u:=r.stage c f b (v':=i32 0) (l:=[.ev ⟨.mark (.extern 76),Y,U⟩,.ev ⟨.mark .enable,Y,U⟩]) (d':=0) av (by simp[eH]) (by simp[dc,lC]) av;exact u.quiet 6 av
theorem axc(f:Gate Q O A)(b:A ⟨S,X,I⟩)(y:¬W (.cell ⟨S,X,I⟩))(i:S<B)(c:eC w ⟨S,X,I⟩ (i32 1) (Z (t,l)))
  (H:ji ak Q At W O h B n ⟨S,X,I⟩ w m T 0 (i32 1) (aN ak 1 (G (B6 44 6 (cN xs (ptr S X)) xl .deferred) (⟨fn,R,M,ds,.returning,V,ro⟩::cs)))):
  ji ak Q At W O h B n ⟨S,X,I⟩ w m T 0 (i32 0) (G ⟨fn,R,M,ds,.returning,V,ro⟩ cs):=by
 have j:=H.stage c f b (v':=i32 1) (l:=[.ev ⟨.cell ⟨S,X,I⟩,Y,Y⟩]) (d':=0) av (by simp[eH]) (by simp[dc,lC,b,i,y]) av;have k:=j.J9 c (s:=convert 210 169 (ptr S X)>>=λv=>pure (.value v)) (x:=.value (ptr S X)) av av (λw=>T7 (e:=92) av av av);have o:=k.stage c f b (v':=i32 1) (l:=[.ev ⟨.mark (.extern 112),Y,U⟩,.ev ⟨.mark (.releaseMerge ⟨S,X,I⟩),Y,U⟩]) (d':=0) av (by simp[eH]) (by simp[dc,lC,i]) av;have p:=o.stage c f b (v':=i32 1) (l:=[.ev ⟨.mark (.extern 74),Y,U⟩,.ev ⟨.mark .disable,Y,U⟩]) (d':=1) av (by simp[eH]) (by simp[dc,lC]) av;have r:=p.stage c f b (v':=i32 0) (l:=[.ev ⟨.mark (.extern 113),Y,U⟩,.ev ⟨.cell ⟨S,X,I⟩,Y,U⟩,.ev ⟨.cell ⟨S,X,I⟩,U,U⟩]) (d':=1) av (by simp[eH]) (by simp[dc,lC,b,i]) av;have u:=r.stage c f b (v':=i32 0) (l:=[.ev ⟨.mark (.extern 76),Y,U⟩,.ev ⟨.mark .enable,Y,U⟩]) (d':=0) av (by simp[eH]) (by simp[dc,lC]) av;exact u.quiet 6 av
end
end
end
def yX(c:Region.Mode)(b:af bh):Nat->af Bool->ae (ae Nat)
 |0,_=>[[]]
 |a+1,listed=>match nq c b listed with
  |[]=>[[]]
  |r=>r.flatMap λi=>(yX c b a (listed.setIfInBounds i U)).map (i::·)
theorem ahk(c)(b):∀(a t)(listed),Region.linearise.go c b a t listed []∈yX c b a listed:=by
 intro a;induction a with
 |zero=>intro t listed;simp[Region.linearise.go,yX]
 |succ a e=>
  intro t listed;simp only[Region.linearise.go];change (match(nq c b listed)[t%(nq c b listed).length]? with
   |some i=>Region.linearise.go c b a (t/(nq c b listed).length) (listed.setIfInBounds i U) [i]
   |none=>[].reverse)∈_
  unfold yX;cases hr:nq c b listed with
  |nil=>simp
  |cons x d=>
   have aE:t%(x::d).length<(x::d).length:=Nat.mod_lt _ aZ;rw[dq aE];simp only[];rw[linearise_go_acc,List.reverse_singleton,List.singleton_append];exact List.mem_flatMap.2 ⟨_,List.getElem_mem aE,ox.2 ⟨_,e .. ,F⟩⟩
theorem NH(a)(t):sL U a t∈yX .any a a.size (pG a.size Y):=by
 exact ahk ..
theorem F8{P}{main}(a:P.follows .mixedOrders=U){fn}{tmps}{k}{defers}{kind}{cs}{id}{ops}(w):aG P main ⟨⟨fn,tmps,.code (.region id ops U)::k,defers,.run,kind,I⟩,cs,.running,I,I⟩ w=.go ⟨⟨fn,tmps,.inRegion ops (sL U ops ((Question.order fn id).cut (w.tape w.drawn (.order fn id))))::k,defers,.run,kind,I⟩,cs,.running,I,I⟩ (w.at (w.drawn+1)) #[]:=by
 simp[aG,bE,a,Question.forced,World.at]
def Nb(a:aj Tmp)(b:Op):bh:={dst:=a,op:=b,type:=0,pos:= "",after:=#[],guard:=I}
def aO(d:Tmp)(a:Op):bh:=Nb (Z d) a
def dR(a:Op):bh:=Nb I a
def Sr(o:bh)(a:Op):bh:={o with op:=a}
abbrev tm(t:Tmp):gU:=.tmp t
abbrev kc(v:ag):gU:=.const v
def bq:Nat:=8
def dx:Nat:=10
abbrev gL:ag:=.chan (Z bq)
abbrev rO:ag:=.chan (Z dx)
noncomputable def cS(f:dF):dF:={f with name:= "no",origin:= "",body:=I}
noncomputable def Sd:dF:={(default:dF)with name:= "no",body:=I}
noncomputable def Ix(f:dF)(c:bl):dF:={f with body:=Z c}
noncomputable def reg(a:af bh):bl:=.region 0 a Y
noncomputable def wF(n m:Int):bl:=.seq (reg #[aO 1 (.load 21 (tm 0)),aO 2 (.binOp .lss 21 (tm 1) (kc (.int .i32 (n+1))) 21),aO 3 (.binOp .gtr 21 (tm 1) (kc (.int .i32 (n-1))) 21)])
 (.seq (.cond (tm 2) .skip (.refuse "")) (.seq (.cond (tm 3) .skip (.refuse "")) (.seq (reg #[dR (.store 21 (tm 0) (kc (.int .i32 m)))]) .ret)))
noncomputable def Rj:dF:=Ix Tryz.f43 (wF 0 1)
noncomputable def Ju:dF:=Ix Tryz.f44 (wF 1 0)
noncomputable def Yo:dF:=Ix Tryz.f46 (.refuse "")
def yl(s:gU)(a b c:Tmp):af bh:=#[aO a (.fieldAddr 109 s 8),aO a (.load 99 (tm a)),aO a (.fieldAddr 146 (tm a) 3),aO a (.fieldAddr 142 (tm a) 0),aO a (.load 139 (tm a)),
 aO b (.recv 139 (tm a) Y),dR (.send (tm a) (tm b)),aO a (.field 142 (tm b) 0),aO b (.recv 100 (tm a) Y),aO c (.field 50 (tm b) 0),aO c (.binOp .eql 39 (tm c) s 39)]
noncomputable def CP:bl:=match Tryz.f38.body with
 |some (.seq _ (.seq _ (.seq r _)))=>r
 |_=>.skip
noncomputable def lO:af bh:=match CP with
 |.region _ a _=>a
 |_=>#[]
noncomputable def mh:af bh:=(lO.setIfInBounds 4 (Sr (lO.getD 4 default) (.makeChan 100 (kc (.int .i64 2))))).setIfInBounds 5 (Sr (lO.getD 5 default)
 (.build 178 #[(0,kc (.int .i32 0)),(1,kc (.int .u32 0)),(2,tm 33),(3,kc (.slice I 0 0)),(4,tm 34),(5,kc (.int .i64 0)),(6,tm 35),(7,kc (.slice I 0 0)),(8,kc (.slice I 0 0)),(9,kc (.pointer I))]))
noncomputable def He:af bh:=#[aO 35 (.binOp .lss 3 (tm 2) (kc (.int .i64 1000001)) 3),aO 36 (.binOp .lss 3 (tm 0) (kc (.int .i64 9)) 3),aO 37 (.binOp .gtr 3 (tm 0) (kc (.int .i64 0)) 3)]
noncomputable def sj:af bh:=#[aO 37 (.build 50 #[(0,tm 8),(1,kc (.int .i64 0)),(2,kc (.bool Y))]),dR (.send (tm 36) (tm 37)),
 aO 37 (.recv 100 (kc rO) Y),dR (.send (kc rO) (tm 36)),
 aO 37 (.recv 100 (kc gL) Y),aO 37 (.makeInterface 3 (tm 37)),dR (.send (kc gL) (tm 37)),aO 37 (.build 109 #[(1,tm 33),(3,tm 34),(5,tm 35),(9,tm 36)])]
noncomputable def SF:bl:=.seq (.region 3 mh U) (reg sj)
noncomputable def JS:bl:=.seq (.cond (tm 37) .skip (.refuse "")) SF
noncomputable def E7:bl:=.seq (reg He) (.seq (.cond (tm 36) .skip (.refuse "")) JS)
noncomputable def MN:dF:=match Tryz.f38.body with
 |some (.seq a (.seq b (.seq _ d)))=>{Tryz.f38 with body:=Z (.seq a (.seq b (.seq E7 d)))}
 |_=>Sd
noncomputable def Bv:bl:=match Tryz.f57.body with
 |some (.seq _ (.seq _ (.seq _ (.seq _ (.seq (.seq r _) _)))))=>r
 |_=>.skip
noncomputable def Hf:bl:=.seq (reg (#[aO 19 (.fieldAddr 109 (tm 0) 11),aO 18 (.move (tm 0)),aO 19 (.nilCheck (tm 18))]++yl (tm 19) 20 21 22)) (.seq (.cond (tm 22) .skip (.refuse ""))
 (reg #[dR (.send (tm 20) (tm 21)),aO 20 (.fieldAddr 109 (tm 19) 11),aO 21 (.field 50 (tm 21) 2),aO 22 (.unOp .not 4 (tm 21))]))
noncomputable def MO:dF:=match Tryz.f57.body with
 |some (.seq a (.seq b (.seq c (.seq d (.seq (.seq _ e) f)))))=>{Tryz.f57 with body:=Z (.seq a (.seq b (.seq c (.seq d (.seq (.seq Hf e) f)))))}
 |_=>Sd
noncomputable def oQ:bl:=match Tryz.f30.body with
 |some (.seq _ (.seq _ r))=>r
 |_=>.skip
noncomputable def Bu:bl:=.seq (reg (#[aO 12 (.recv 100 (kc gL) Y),dR (.send (kc gL) (tm 12)),aO 11 (.fieldAddr 109 (tm 0) 11),aO 9 (.move (tm 0)),aO 10 (.nilCheck (tm 9))]++yl (tm 10) 22 23 21)) (.seq (.cond (tm 21) .skip (.refuse ""))
 (.seq (reg #[aO 12 (.field 50 (tm 23) 2),aO 13 (.unOp .not 4 (tm 12))]) (.seq (.cond (tm 13)
   (reg #[aO 24 (.recv 100 (kc gL) Y),aO 24 (.typeAssert (tm 24) 20 3 Y),dR (.send (kc gL) (tm 24)),aO 24 (.field 50 (tm 23) 1),aO 23 (.build 50 #[(0,tm 10),(1,tm 24),(2,kc (.bool U))]),dR (.send (tm 22) (tm 23)),aO 14 (.move (tm 0)),aO 15 (.nilCheck (tm 14)),aO 16 (.fieldAddr 109 (tm 15) 11),aO 17 (.move (tm 0)),aO 18 (.nilCheck (tm 17)),aO 19 (.fieldAddr 109 (tm 18) 9),aO 20 (.move (tm 22))])
   (reg #[dR (.send (tm 22) (tm 23))]))
   (reg #[aO 21 (.move (tm 0)),aO 22 (.nilCheck (tm 21)),aO 23 (.fieldAddr 109 (tm 22) 10),aO 24 (.assign (kc (.tuple #[])))]))))
noncomputable def MM:dF:=match Tryz.f30.body with
 |some (.seq a (.seq b _))=>{Tryz.f30 with body:=Z (.seq a (.seq b Bu))}
 |_=>Sd
noncomputable def vi:af bh:=match Tryz.f55.body with
 |some (.seq _ (.seq (.region _ a _) _))=>a
 |_=>#[]
noncomputable def y7(i:Nat)(a:Op):bh:=Sr (vi.getD i default) a
noncomputable def EE:dF:=Ix Tryz.f55 (.seq (reg #[aO 7 (.recv 100 (kc gL) Y),dR (.send (kc gL) (tm 7)),aO 9 (.recv 100 (kc rO) Y),dR (.send (kc rO) (kc (.chan I))),aO 8 (.binOp .eql 100 (tm 9) (kc (.chan I)) 100)])
 (.seq (.cond (tm 8) (reg (yl (tm 0) 9 10 11)) (reg #[aO 12 (.fieldAddr 109 (tm 0) 8),aO 12 (.load 99 (tm 12)),aO 10 (.recv 100 (tm 9) Y),aO 11 (.field 50 (tm 10) 0),aO 11 (.binOp .eql 39 (tm 11) (tm 0) 39)]))
 (.seq (.cond (tm 11) .skip (.refuse ""))
 (.seq (reg #[aO 8 (.field 50 (tm 10) 2),aO 7 (.field 50 (tm 10) 1),aO 11 (.binOp .lss 3 (tm 7) (kc (.int .i64 9)) 3),aO 7 (.binOp .add 3 (tm 7) (kc (.int .i64 1)) 3),aO 10 (.build 50 #[(0,tm 0),(1,tm 7),(2,kc (.bool Y))]),dR (.send (tm 9) (tm 10))])
 (.seq (.cond (tm 8) (.refuse "") .skip)
 (.seq (.cond (tm 11) .skip (.refuse ""))
 (.seq (reg #[aO 1 (.makeChan 100 (kc (.int .i64 4))),aO 2 (.alloc 142)])
 (.seq (.region 1 #[y7 0 (.makeChan 139 (kc (.int .i64 1))),y7 1 (.makeChan 140 (kc (.int .i64 3))),y7 2 (.build 142 #[(0,tm 4),(1,tm 5)]),y7 3 (.makeChan 100 (kc (.int .i64 4))),y7 4 (.move (tm 6))] U)
 (.seq (reg #[aO 8 (.build 142 #[(0,tm 9),(1,tm 5)]),dR (.send (tm 4) (tm 8)),dR (.store 142 (tm 2) (tm 6))]) .ret)))))))))
noncomputable def Vv:af bh:=#[aO 2 (.makeChan 100 (kc (.int .i64 4))),aO 9 (.build 109 #[(0,tm 0)]),aO 3 (.recv 100 (kc gL) Y),aO 5 (.field 142 (tm 0) 0),aO 6 (.field 142 (tm 0) 1),aO 7 (.recv 139 (tm 5) Y),dR (.send (tm 5) (tm 7)),aO 8 (.field 142 (tm 7) 0),
 aO 10 (.recv 100 (tm 8) Y),dR (.send (tm 8) (tm 10)),aO 7 (.field 142 (tm 7) 1),aO 9 (.binOp .eql 140 (tm 7) (tm 6) 140),aO 7 (.field 50 (tm 10) 2)]
noncomputable def Vt:bl:=.seq (.cond (tm 9) .skip (.refuse "")) (.seq (.cond (tm 7) (.refuse "") .skip)
 (.seq (reg #[aO 4 (.call {callee:=.value (tm 1),args:=#[],argTypes:=#[]}),dR (.send (kc gL) (tm 3))]) .ret))
noncomputable def EF:dF:=Ix Tryz.f66 (.seq (reg Vv) Vt)
noncomputable def fs:af dF:=#[cS Tryz.f0,cS Tryz.f1,cS Tryz.f2,Tryz.f3,Tryz.f4,Tryz.f5,Tryz.f6,Tryz.f7,Tryz.f8,Tryz.f9,Tryz.f10,Tryz.f11,Tryz.f12,Tryz.f13,Tryz.f14,
 Tryz.f15,Tryz.f16,Tryz.f17,Tryz.f18,Tryz.f19,Tryz.f20,Tryz.f21,Tryz.f22,Tryz.f23,Tryz.f24,Tryz.f25,Tryz.f26,Tryz.f27,Tryz.f28,Tryz.f29,
 MM,Tryz.f31,Tryz.f32,Tryz.f33,Tryz.f34,Tryz.f35,Tryz.f36,Tryz.f37,MN,Tryz.f39,Tryz.f40,Tryz.f41,Tryz.f42,Rj,Ju,
 Tryz.f45,Yo,Tryz.f47,Tryz.f48,Tryz.f49,Tryz.f50,Tryz.f51,Tryz.f52,Tryz.f53,Tryz.f54,EE,Tryz.f56,MO,Tryz.f58,Tryz.f59,
 Tryz.f60,Tryz.f61,Tryz.f62,Tryz.f63,Tryz.f64,Tryz.f65,EF,Tryz.f67,Tryz.f68,Tryz.f69,cS Tryz.f70,cS Tryz.f71,Tryz.f72,Tryz.f73,cS Tryz.f74,
 cS Tryz.f75,cS Tryz.f76,cS Tryz.f77,cS Tryz.f78,cS Tryz.f79,cS Tryz.f80,cS Tryz.f81,cS Tryz.f82,cS Tryz.f83,Tryz.f84,Tryz.f85,Tryz.f86,Tryz.f87,Tryz.f88,Tryz.f89,
 Tryz.f90,Tryz.f91,Tryz.f92,cS Tryz.f93,cS Tryz.f94,cS Tryz.f95,Tryz.f96,Tryz.f97,Tryz.f98,Tryz.f99,Tryz.f100,Tryz.f101,Tryz.f102,Tryz.f103,Tryz.f104,
 Tryz.f105,Tryz.f106,Tryz.f107,Tryz.f108,Tryz.f109,cS Tryz.f110,cS Tryz.f111,cS Tryz.f112,cS Tryz.f113,cS Tryz.f114,Tryz.f115,Tryz.f116,cS Tryz.f117,cS Tryz.f118,Tryz.f119,
 Tryz.f120,cS Tryz.f121,cS Tryz.f122,cS Tryz.f123,cS Tryz.f124,cS Tryz.f125,cS Tryz.f126,cS Tryz.f127,Tryz.f128,Tryz.f129,Tryz.f130,Tryz.f131,Tryz.f132,Tryz.f133,Tryz.f134,
 Tryz.f135,Tryz.f136,Tryz.f137,Tryz.f138,Tryz.f139,Tryz.f140,Tryz.f141,cS Tryz.f142,cS Tryz.f143,cS Tryz.f144,cS Tryz.f145,cS Tryz.f146,cS Tryz.f147,cS Tryz.f148,cS Tryz.f149,
 cS Tryz.f150,cS Tryz.f151,Tryz.f152,Tryz.f153,Tryz.f154,Tryz.f155,Tryz.f156,Tryz.f157,Tryz.f158,Tryz.f159,Tryz.f160,Tryz.f161,Tryz.f162,Tryz.f163,Tryz.f164,
 Tryz.f165,Tryz.f166,Tryz.f167,Tryz.f168,Tryz.f169,Tryz.f170,Tryz.f171,Tryz.f172,Tryz.f173,Tryz.f174,Tryz.f175,Tryz.f176,Tryz.f177,Tryz.f178,Tryz.f179,
 Tryz.f180,cS Tryz.f181,cS Tryz.f182,cS Tryz.f183,cS Tryz.f184,cS Tryz.f185,cS Tryz.f186,cS Tryz.f187,cS Tryz.f188,cS Tryz.f189,cS Tryz.f190,cS Tryz.f191,cS Tryz.f192,cS Tryz.f193,cS Tryz.f194,
 Tryz.f195,cS Tryz.f196,cS Tryz.f197,cS Tryz.f198,cS Tryz.f199,cS Tryz.f200,cS Tryz.f201,cS Tryz.f202,Tryz.f203,Tryz.f204,Tryz.f205,Tryz.f206,cS Tryz.f207,cS Tryz.f208,cS Tryz.f209,
 Tryz.f210,cS Tryz.f211,cS Tryz.f212,cS Tryz.f213,cS Tryz.f214,cS Tryz.f215,cS Tryz.f216,cS Tryz.f217,cS Tryz.f218,cS Tryz.f219,cS Tryz.f220,cS Tryz.f221,cS Tryz.f222,cS Tryz.f223,cS Tryz.f224]
section
open Go.Conc (G)
section
variable {P:aA}{fs:af dF}{M:Loc->Prop}{Spec:Wh->ae aK->ae aK->bl->bl->Prop}{T:az->az->Prop}
def stays(k:ae aK):bl->Bool
 |.ret=>Y
 |.exit id=>(exitTo id k).isSome
 |.goto l=>(gotoIn l k).isSome
 |_=>U
def qq(P:aA)(fs:af dF)(Spec:Wh->ae aK->ae aK->bl->bl->Prop)(M:Loc->Prop)(T:az->az->Prop)(O:Bool)(a h:az)(R L:ae az)(w W:au):Prop:=Shape (aG (Lo P fs) U (G a R) w)/\∀d c f l,aG (Lo P fs) U (G a R) w=dO d c f l->(∃k,d=a.raise k/\(∀e∈k,e.recovered=Y)/\c=R/\sS (bN P) f)\/(Am (Lo P fs) a R w d c f/\∃b i g j,aG P O (G h L) W=dO b i g j/\OB P Spec M T a h R L w W d c f b i g j)
theorem RE{p:aA}{a t:az}{L c:ae az}(h:∀x,aG p U (G a L) x=dO t c x #[])(w:au):Am p a L w t c w:=⟨0,w,F,λτ d _=>⟨#[],h _⟩⟩
theorem yv{t:az}{c:ae az}{w:au}{es:af cX}{s:GStep}(h:s=dO t c w es):Shape s:=.inl ⟨_,_,_,_,h⟩
variable {O:Bool}{Q:bA}{V:af ag}{X:ae bV}{S:dD}{N:aj Nat}{R L:ae az}{w W:au}
theorem rq(i:∀a b,fE P Spec a b->T a b)(f:nv P Q S X)(k:Rel (bN P) M w W){e t d u:ae aK}
  (c:∀w,aG (Lo P fs) U (G ⟨Q,V,e,X,.run,S,N⟩ R) w=dO ⟨Q,V,d,X,.run,S,N⟩ R w #[])
  (g:aG P O (G ⟨Q,V,t,X,.run,S,N⟩ L) W=dO ⟨Q,V,u,X,.run,S,N⟩ L W #[])(l:ny P (Spec (Q,V.size,N)) d u):
  qq P fs Spec M T O ⟨Q,V,e,X,.run,S,N⟩ ⟨Q,V,t,X,.run,S,N⟩ R L w W:=by
 refine⟨yv (c w),λn m p o h=>?_⟩;have j:=RE c w;rw[c]at h;cases h;exact .inr ⟨j,_,_,_,_,g,i _ _ ⟨d,F,l,f,.inl F⟩,.inl ⟨F,F,F,F⟩,k,iS.refl _ _,by simp⟩
def rY:GStep->Bool
 |.ended .. =>U
 |_=>Y
theorem zS{s:GStep}(h:rY s=U):Shape s:=by
 cases s<;>first|exact absurd h jQ|exact .inr (.inl ⟨_,_,_,rfl⟩)
theorem FT{a c:az}(b:rY (aG (Lo P fs) U (G a R) w)=U):qq P fs Spec M T O a c R L w W:=⟨zS b,λe d g f h=>by
 rw[h]at b;cases b⟩
theorem KU(j:Rel (bN P) M w W){a b g' g:az}(c:∀w,aG (Lo P fs) U (G a R) w=dO g' R w #[])(e:aG P O (G b L) W=dO g L W #[])(f:T g' g)(d:g.roundOf=b.roundOf/\kf g=kf b):qq P fs Spec M T O a b R L w W:=by
 refine⟨yv (c w),λl k n m h=>?_⟩;have i:=RE c w;rw[c]at h;cases h;exact .inr ⟨i,_,_,_,_,e,f,.inl ⟨F,F,d.1,d.2⟩,j,iS.refl _ _,by simp⟩
theorem UR(i:∀a b,fE P Spec a b->T a b)(h:nv P Q S X)(l:Rel (bN P) M w W){f a g b:bl}{x:gU}{e k:ae aK}(n:uz P (Spec (Q,V.size,N)) e k f a)(o:uz P (Spec (Q,V.size,N)) e k g b)(j:ny P (Spec (Q,V.size,N)) e k):qq P fs Spec M T O ⟨Q,V,.code (.cond x f g)::e,X,.run,S,N⟩ ⟨Q,V,.code (.cond x a b)::k,X,.run,S,N⟩ R L w W:=by
 have d:∀m,bJ ⟨Q,V,m,X,.run,S,N⟩ x=bJ ⟨Q,V,[],X,.run,S,N⟩ x:=λm=>by cases x<;>rfl
 by_cases c:∃v,bJ ⟨Q,V,[],X,.run,S,N⟩ x=.bool v
 ·obtain⟨v,c⟩:=c
  cases v with
  |true=>exact rq i h l (λ_=>by simp[G,aG,bE,d,c]) (by simp[G,aG,bE,d,c]) (.cons (.code n) j)
  |false=>exact rq i h l (λ_=>by simp[G,aG,bE,d,c]) (by simp[G,aG,bE,d,c]) (.cons (.code o) j)
 ·refine FT ?_
  simp only[G,aG,bE,d];split
  ·exact absurd ⟨_,‹_›⟩ c
  ·rfl
theorem aaE(j:∀a b,fE P Spec a b->T a b)(i:nv P Q S X)(o:Rel (bN P) M w W){B c:bl}{v k:ae aK}(y:uz P (Spec (Q,V.size,N)) v k B c)(ju:¬Spec (Q,V.size,N) v k B c)(m:ny P (Spec (Q,V.size,N)) v k)(K:N=I\/stays k c=U)
  (I8:∀f H a b,c≠.rangeFunc f H a b):
  qq P fs Spec M T O ⟨Q,V,.code B::v,X,.run,S,N⟩ ⟨Q,V,.code c::k,X,.run,S,N⟩ R L w W:=by
 cases y with
 |spec h=>exact absurd h ju
 |seq A E=>exact rq j i o (λ_=>by simp[G,aG,bE]) (by simp[G,aG,bE]) (.cons (.code A) (.cons (.code E) m))
 |cond x A E=>
  exact UR j i o A E m
 |same _ p=>
  cases B with
  |skip=>exact rq j i o (λ_=>by simp[G,aG,bE]) (by simp[G,aG,bE]) m
  |label l=>exact rq j i o (λ_=>by simp[G,aG,bE]) (by simp[G,aG,bE]) m
  |seq a b=>
   simp only[jf,ig]at p;exact rq j i o (λ_=>by simp[G,aG,bE]) (by simp[G,aG,bE]) (.cons (.code (.same _ p.1)) (.cons (.code (.same _ p.2)) m))
  |block id b=>exact rq j i o (λ_=>by simp[G,aG,bE]) (by simp[G,aG,bE]) (.cons (.code (.same b p)) (.cons (.inBlock id) m))
  |loop b=>exact rq j i o (λ_=>by simp[G,aG,bE]) (by simp[G,aG,bE]) (.cons (.code (.same b p)) (.cons (.inLoop b p) m))
  |scope b=>exact rq j i o (λ_=>by simp[G,aG,bE]) (by simp[G,aG,bE]) (.cons (.code (.same b p)) (.cons (.inScope b p) m))
  |refuse s=>exact FT (by simp[G,aG,bE,rY])
  |rangeFunc f H a b=>exact absurd F (I8 f H a b)
  |cond x a b=>
   simp only[jf,ig]at p;exact UR j i o (.same _ p.1) (.same _ p.2) m
  |ret=>
   obtain rfl:N=I:=K.elim (λh=>h) λh=>absurd h (by simp[stays]);exact KU (g':=⟨Q,V,.code .ret::v,X,.returning,S,I⟩) (g:=⟨Q,V,.code .ret::k,X,.returning,S,I⟩) o (λ_=>by simp[G,aG,bE]) (by simp[G,aG,bE]) (j _ _ ⟨.code .ret::v,F,.cons (.code (.same _ F)) m,i,.inr F⟩) ⟨F,F⟩
  |exit id=>
   rcases V2 (id:=id) m with⟨q,u⟩|⟨r',r,q,u,D⟩
   ·obtain rfl:N=I:=K.elim (λh=>h) λh=>absurd h (by simp[stays,u])
    exact FT (by simp[G,aG,bE,q,rY])
   ·exact rq j i o (λ_=>by simp[G,aG,bE,q]) (by simp[G,aG,bE,u]) D
  |goto l=>
   rcases Wx (l:=l) m with⟨q,u⟩|⟨r',r,q,u,D⟩
   ·obtain rfl:N=I:=K.elim (λh=>h) λh=>absurd h (by simp[stays,u])
    exact FT (by simp[G,aG,bE,q,rY])
   ·exact rq j i o (λ_=>by simp[G,aG,bE,q]) (by simp[G,aG,bE,u]) D
  |region id e z=>
   cases z with
   |false=>exact rq j i o (λ_=>by simp[G,aG,bE]) (by simp[G,aG,bE]) (.cons (.inRegion e (oz e.size) p) m)
   |true=>
    have bY:=Hm (P:=P) (fs:=fs) (fx:=bN P) (Hid:=M) (rs:=[]) (.order Q id) w W o aZ;cases y:(choose (.order Q id)).run (Lo P fs) w with
    |halt x C=>exact FT (by simp only[G,aG,bE,y];rfl)
    |ok t C=>
     obtain⟨⟨W1,us,hS,ez,ey,pY⟩,n,w0,jN,pq⟩:=bY.1 t C y;have hC:(choose (.order Q id)).run P W=.ok t W1:=by rw[<-xe P _ W #[],hS]
     have q:∀x J,(choose (.order Q id)).run (Lo P fs) x=.ok t J->aG (Lo P fs) U (G ⟨Q,V,.code (.region id e U)::v,X,.run,S,N⟩ R) x=dO ⟨Q,V,.inRegion e (sL (P.follows .mixedOrders) e t)::v,X,.run,S,N⟩ R J #[]:=λx J hx=>by
      simp only[G,aG,bE,hx];rfl
     refine⟨yv (q w C y),λdn dg w2 fM h=>?_⟩;have u:aG P O (G ⟨Q,V,.code (.region id e U)::k,X,.run,S,N⟩ L) W=dO ⟨Q,V,.inRegion e (sL (P.follows .mixedOrders) e t)::k,X,.run,S,N⟩ L W1 #[]:=by
      simp only[G,aG,bE,hC];rfl
     rw[q w C y]at h;cases h;exact .inr ⟨⟨n,w0,jN,λτ d A=>⟨_,q _ _ (pq τ d A)⟩⟩,_,_,_,_,u,j _ _ ⟨_,F,.cons (.inRegion e _ p) m,i,.inl F⟩,.inl ⟨F,F,F,F⟩,ez,ey,by simp⟩
end
end
section
open Go.Conc (G)
section
variable {P:aA}{fs:af dF}{Q:Loc->Prop}{Spec:Wh->ae aK->ae aK->bl->bl->Prop}{T:az->az->Prop}
structure xq(P:aA)(fs:af dF):Prop where
 step:∀g,(Lo P fs).stepOf g=I
 ahead:P.follows .staticDataAhead=U
theorem VK{fr:az}{cs:ae az}{g:Nat}{w:au}(h:xq P fs):rY (early (Lo P fs) fr cs I g w)=U:=by
 have e:(Lo P fs).follows .staticDataAhead=U:=h.ahead;unfold early;simp only[h.step,e];rfl
theorem af2{c:az}{cs:ae az}{w:au}{p:aA}{e:au}{es:af cX}(h:endFatal p c cs I m w=.go g e es):g.dying.isSome=U:=by
 have b:∀r:Result (ae (ByteArray×String)×ae ByteArray),(match r with
   |.ok (a,f) w=>dieOf c (panicPieces a++f) m U w
   |.halt (.unsupported u) w=>GStep.ended (.unsupported u "") w
   |.halt _ w=>.ended (.stuck "the report of a panic" "") w)=.go g e es->g.dying.isSome=U:=λr d=>by
  cases r with
  |ok x w=>cases x;cases d;rfl
  |halt x w=>cases x<;>cases d
 exact b _ h
theorem S4{es:af cX}{s:GStep}(h:Shape s):Shape (kF es s):=by
 rcases h with⟨t,c,w,a,rfl⟩|⟨o,w,a,rfl⟩|⟨g,w,a,rfl,b⟩
 ·exact .inl ⟨_,_,_,_,rfl⟩
 ·exact .inr (.inl ⟨_,_,_,rfl⟩)
 ·exact .inr (.inr ⟨_,_,_,rfl,b⟩)
theorem aaB{a:az}{l:ae ByteArray}{b:Bool}{w:au}:Shape (dieOf a l m b w):=.inr (.inr ⟨_,_,_,F,.inr (.inr ⟨F,_,_,F,F,F⟩)⟩)
theorem asI{p:aA}{e:az}{cs:ae az}{w:au}:Shape (endFatal p e cs I m w):=by
 have d:∀r:Result (ae (ByteArray×String)×ae ByteArray),Shape (match r with
   |.ok (c,f) w=>dieOf e (panicPieces c++f) m U w
   |.halt (.unsupported u) w=>GStep.ended (.unsupported u "") w
   |.halt _ w=>.ended (.stuck "the report of a panic" "") w):=λr=>by
  cases r with
  |ok x w=>obtain⟨a,b⟩:=x;exact aaB
  |halt x w=>cases x<;>exact zS F
 exact d _
theorem NL{a:Sem Next}{fr':az}{cs':ae az}{w b:au}{x:Halt}(c:xq P fs)(d:a.run (Lo P fs) w=.halt x b):Shape (ik (Lo P fs) U fr' cs' I a w):=by
 have e:a.runT (Lo P fs) w #[]=(.halt x b,a.events (Lo P fs) w #[]):=by rw[jR,d]
 unfold ik;simp only[if_true,e];apply S4;cases x with
 |panic v=>exact .inl ⟨_,_,_,_,F⟩
 |goexit=>exact .inl ⟨_,_,_,_,F⟩
 |blocked=>exact .inr (.inr ⟨_,_,_,F,.inl ⟨F,F⟩⟩)
 |waiting=>exact .inr (.inr ⟨_,_,_,F,.inr (.inl ⟨F,F⟩)⟩)
 |fatal m=>exact asI
 |throw m=>exact aaB
 |unsupported u=>cases u<;>first|exact zS (VK c)|exact zS rfl
 |_=>exact zS F
theorem LZ{c:Sem Next}{a:az}{cs':ae az}{w b:au}{x:Halt}(k:xq P fs)(l:c.run (Lo P fs) w=.halt x b){f:az}{d:ae az}{j:au}{n:af cX}(h:ik (Lo P fs) U a cs' I c w=dO f d j n):∃i,f=a.raise i/\(∀e∈i,e.recovered=Y)/\d=cs'/\j=b:=by
 have o:c.runT (Lo P fs) w #[]=(.halt x b,c.events (Lo P fs) w #[]):=by rw[jR,l]
 unfold ik at h;simp only[if_true,o]at h;cases x with
 |panic v=>
  cases h;exact⟨_,F,by simp[goexitEntry],F,F⟩
 |goexit=>
  cases h;exact⟨_,F,by simp[goexitEntry],F,F⟩
 |unsupported u=>
  cases u with
  |initOrder g=>
   have:=VK (fr:=a) (cs:=cs') (g:=g) (w:=b) k;simp only at h;revert h this;cases early (Lo P fs) a cs' I g b<;>intro h this<;>first|(cases this;done)|cases h
  |_=>cases h
 |fatal m=>
  simp only at h;revert h;cases he:endFatal (Lo P fs) a cs' I m b<;>intro h<;>first|(cases h;done)|skip
  have:=af2 he;cases h;cases this
 |_=>cases h
variable {N:Bool}{O:bA}{V:af ag}{X:ae bV}{S:dD}{R:aj Nat}{cs' cs:ae az}{w W:au}
theorem UQ(hT:∀a b,fE P Spec a b->T a b)(hE:∀f d,hasB fs f=U->T (bG (Lo P fs) f d .normal) (bG P f d .normal))(u:xq P fs){s':Sem Next}
  (q:oX P fs (bN P) Q [] s' s)(y:KN P fs Q s'){c g:az}(v:fE P Spec c g)(j:HX g.todo=U)(o:Rel (bN P) Q w W)
  (m:∀w,aG (Lo P fs) U (G c cs') w=ik (Lo P fs) U c cs' I s' w)(L:aG P N (G g cs) W=ik P U g cs I s W):qq P fs Spec Q T N c g cs' cs w W:=by
 have K:HX c.todo=U:=by
  obtain⟨t,rfl,z,_⟩:=v;cases XX:g.todo with
  |nil=>rw[XX]at j;exact absurd j jQ
  |cons i k=>
   rw[XX]at z j;cases z with
   |cons h hk=>
    cases h<;>first|exact absurd j jQ|rfl|skip
    rename_i l ho;cases l<;>first|exact absurd j jQ|rfl
 cases e:s'.run (Lo P fs) w with
 |halt x r=>exact⟨m w▸NL u e,λB A w1 H h=>by rw[m]at h;obtain⟨vs,C,D,E,rfl⟩:=LZ u e h;exact .inl ⟨vs,C,D,E,(q w W o aZ).2 _ _ e⟩⟩
 |ok n r=>
  obtain⟨t',xw,Ig,t,c1,W1,us,p,J,M⟩:=aaD hT hE q y v j o e (cs':=cs') (cs:=cs);refine⟨yv ((m w).trans p),λB A w1 H h=>?_⟩;rw[m,p]at h;cases h;exact .inr ⟨amP K (y w W o n r e) ((q w W o aZ).1 n r e).2 e m p,_,_,_,_,L.trans J,M⟩
def CN(R:aj Nat)(ρ:gU->ag)(o:bh):Sem Next:=
 match R,o.op with
 |some l,.defer c=>do Instr.deferInRound l (<-resolve ρ c o.type);pure .skip
 |_,_=>cu ρ o
theorem aad{ρ:gU->ag}(h:∀f,ρ (.func f)=.func (.func f) #[] #[])(c:Call)(i:aJ)(a:qe P (.defer c)=U):∃d,resolve ρ c i=pure d/\lV P d:=by
 unfold resolve;simp only[qe]at a;cases hc:c.callee with
 |builtin b=>simp[hc]at a
 |invoke g e=>simp[hc]at a
 |value x=>
  cases x<;>rw[hc]at a<;>first|exact absurd a jQ|skip
  dsimp only at a⊢;rw[h];exact⟨_,rfl,a⟩
theorem atV{f:ae Nat}(l:Nat){d:bV}(c:lV P d):Sm P fs (bN P) Q f (Instr.deferInRound l d):=by
 unfold Instr.deferInRound;refine Hn l λr g=>vu (λo e=>?_) (uK (λ_ _ _ _ _ _=>fJ _) λ_ _=>fJ _);cases o<;>first|exact dm _|skip
 rename_i a;cases a with
 |none=>exact NO _
 |some a=>
  refine Ho aZ (show∀x∈d::a,lV P x fromλx b=>?_) F;rcases bQ.1 b with rfl|b
  ·exact c
  ·exact(show∀x∈a,lV P x from e) x b
theorem au1{i:ae Nat}(H:Ai P fs (bN P) Q){ρ:gU->ag}(h:∀f,ρ (.func f)=.func (.func f) #[] #[])(R:aj Nat)(o:bh)(a:qe P o.op=U):Sm P fs (bN P) Q i (CN R ρ o):=by
 unfold CN;split
 ·rename_i l c b
  rw[b]at a;obtain⟨d,e,g⟩:=aad h c o.type a;rw[e];exact yy (bf (atV l g) λ_=>br _)
 ·exact aaY H ρ o a
theorem alM(H:Ah P fs){ρ:gU->ag}(b:∀f,ρ (.func f)=.func (.func f) #[] #[])(R:aj Nat)(o:bh)(a:qe P o.op=U):KN P fs Q (CN R ρ o):=by
 unfold CN;split
 ·rename_i l c g
  rw[g]at a;obtain⟨d,e,h⟩:=aad b c o.type a;rw[e];exact Jt (dZ.kn (rZ λ_=>u6 F))
 ·exact Yk H b o a
theorem asZ(j:∀a b,fE P Spec a b->T a b)(y:nv P O S X)(hE:∀f e,hasB fs f=U->T (bG (Lo P fs) f e .normal) (bG P f e .normal))(D:xq P fs)
  (H:Ai P fs (bN P) Q)(C:Ah P fs)(n:Rel (bN P) Q w W){d:af bh}{l:ae Nat}{h k:ae aK}(A:(d.all λo=>qe P o.op)=U)(z:ny P (Spec (O,V.size,R)) h k):
  qq P fs Spec Q T N ⟨O,V,.inRegion d l::h,X,.run,S,R⟩ ⟨O,V,.inRegion d l::k,X,.run,S,R⟩ cs' cs w W:=by
 have r:fE P Spec ⟨O,V,.inRegion d l::h,X,.run,S,R⟩ ⟨O,V,.inRegion d l::k,X,.run,S,R⟩:=⟨_,F,.cons (.inRegion d l A) z,y,.inl F⟩;cases l with
 |nil=>exact rq j y n (λ_=>by simp[G,aG,bE]) (by simp[G,aG,bE]) z
 |cons i l=>
  cases hi:d[i]? with
  |none=>exact KU (g':=jd ⟨O,V,.inRegion d (i::l)::h,X,.run,S,R⟩ aC) (g:=jd ⟨O,V,.inRegion d (i::l)::k,X,.run,S,R⟩ aC) n (λ_=>by simp[G,aG,bE,hi]) (by simp[G,aG,bE,hi]) (j _ _ (r.finish aC)) ⟨F,F⟩
  |some o=>
   by_cases t:vH o (yielded d V)=U
   ·have v:qe P o.op=U:=by
     have:=Array.all_eq_true'.1 A o (Array.mem_of_getElem? hi);simpa using this
    have J:=Array.mem_of_getElem? hi;have E:∀B u:ae aK,bJ ⟨O,V,B,X,.run,S,R⟩=bJ ⟨O,V,u,X,.run,S,R⟩:=λB u=>funext λx=>by cases x<;>rfl
    have step:∀(p:aA)(m:Bool)(q:ae aK)(c:ae az)(x:au),aG p m (G ⟨O,V,.inRegion d (i::l)::q,X,.run,S,R⟩ c) x=ik p U ⟨O,V,.inRegion d (i::l)::q,X,.run,S,R⟩ c I (CN R (bJ ⟨O,V,.inRegion d (i::l)::q,X,.run,S,R⟩) o) x:=λp m q c x=>by
     simp only[G,aG,bE,hi,iy,t,pM,if_true];unfold stepG.oper CN;simp only[Frame.oper?,hi];cases R with
     |none=>rfl
     |some K=>cases aT:o.op<;>rfl
    refine UQ j hE D (s':=CN R (bJ ⟨O,V,.inRegion d (i::l)::h,X,.run,S,R⟩) o) (s:=CN R (bJ ⟨O,V,.inRegion d (i::l)::h,X,.run,S,R⟩) o) (au1 H (λ_=>rfl) R o v) (alM C (λ_=>rfl) R o v) r F n ?_ ?_
    ·exactλ_=>step _ _ _ _ _
    ·rw[E _ (.inRegion d (i::l)::k)]
     exact step _ _ _ _ _
   ·exact KU (g':=jd ⟨O,V,.inRegion d (i::l)::h,X,.run,S,R⟩ aC) (g:=jd ⟨O,V,.inRegion d (i::l)::k,X,.run,S,R⟩ aC) n (λ_=>by simp[G,aG,bE,hi,t]) (by simp[G,aG,bE,hi,t]) (j _ _ (r.finish aC)) ⟨F,F⟩
end
end
section
open Go.Conc (G)
section
variable {P:aA}{fs:af dF}{R:Loc->Prop}{Spec:Wh->ae aK->ae aK->bl->bl->Prop}{T:az->az->Prop}
variable {N:Bool}{Q:bA}{S:af ag}{X:ae bV}{V:dD}{M:aj Nat}{L J:ae az}{w W:au}{K k:ae aK}
theorem asR(d:∀a b,fE P Spec a b->T a b)(c:nv P Q V X)(f:Rel (bN P) R w W)(id)(e:ny P (Spec (Q,S.size,M)) K k):qq P fs Spec R T N ⟨Q,S,.inBlock id::K,X,.run,V,M⟩ ⟨Q,S,.inBlock id::k,X,.run,V,M⟩ L J w W:=
 rq d c f (λ_=>by rfl) (by rfl) e
theorem asU(d:∀a b,fE P Spec a b->T a b)(c:nv P Q V X)(f:Rel (bN P) R w W)(b)(e:ny P (Spec (Q,S.size,M)) K k):qq P fs Spec R T N ⟨Q,S,.inScope b::K,X,.run,V,M⟩ ⟨Q,S,.inScope b::k,X,.run,V,M⟩ L J w W:=
 rq d c f (λ_=>by rfl) (by rfl) e
theorem asS(e:∀a b,fE P Spec a b->T a b)(d:nv P Q V X)(g:Rel (bN P) R w W)(b)(c:jf P b=U)(f:ny P (Spec (Q,S.size,M)) K k):qq P fs Spec R T N ⟨Q,S,.inLoop b::K,X,.run,V,M⟩ ⟨Q,S,.inLoop b::k,X,.run,V,M⟩ L J w W:=
 rq e d g (λ_=>by rfl) (by rfl) (.cons (.code (.same b c)) (.cons (.inLoop b c) f))
theorem asT(l):qq P fs Spec R T N ⟨Q,S,.inRangeFunc l::K,X,.run,V,M⟩ ⟨Q,S,.inRangeFunc l::k,X,.run,V,M⟩ L J w W:=
 FT (by rfl)
theorem asX(d:∀a b,fE P Spec a b->T a b)(c:nv P Q V X)(e:Rel (bN P) R w W):qq P fs Spec R T N ⟨Q,S,[],X,.run,V,I⟩ ⟨Q,S,[],X,.run,V,I⟩ L J w W:=
 KU (g:=⟨Q,S,[],X,.returning,V,I⟩) e (λ_=>by rfl) (by rfl) (d _ _ ⟨[],F,.nil,c,.inr F⟩) ⟨F,F⟩
theorem TE{a}{r}{l}(c:r∈a)(b:bN P (.loop l)):Sm P fs (bN P) R a (setObj r (.loop l)):=Ho c b F
theorem atx{b}(l):Sm P fs (bN P) R b (Instr.beginRound l):=by
 refine Hn l λr a=>bf (TE aZ a) λ_=>?_;split<;>first|exact br _|exact wU _
theorem at0{rs}(l)(j)(b:∀c,j=Z c->jf P c=U):Sm P fs (bN P) R rs (vE l j):=by
 exact Hn l λr a=>bf (TE aZ ⟨a.1,a.2.1,b,a.2.2.2⟩) λ_=>br _
theorem aaV{rs}(l):Sm P fs (bN P) R rs (uv l):=by
 refine Hn l λr a=>jX (λ_=>(rB _).bind.kA) λ_=>?_;exact bf (TE aZ a) λ_=>br _
theorem af3{l}{c}{f}(j:Rel (bN P) R w W)(e:(uv l).run (Lo P fs) w=.ok (Z c) f):jf P c=U:=by
 unfold uv Instr.getLoop at e;rw[bind_assoc]at e;have g:∀k:Obj->Sem (aj bl),(jZ l>>=k).run (Lo P fs) w=(vI l k).run (Lo P fs) w:=λ_=>rfl;rw[g]at e;unfold bx at e;cases hb:w.heap[l]? with
 |none=>rw[hb]at e;cases e
 |some o=>
  rw[hb]at e;obtain⟨O,_,h⟩:=j.obj _ _ hb;cases h with
  |same _ i=>
   cases o with
   |loop r=>
    by_cases d:r.state=.busy
    ·exfalso
     cases hx:(runtimePanic (.error "range function recovered a loop body panic and did not resume panicking"):Sem Unit).run (Lo P fs) w with
     |ok u b=>exact(rB .. ).1 _ _ hx
     |halt y b=>simp[d,hx]at e
    ·have a:(setObj l (.loop {r with state:=.exhausted})>>=λ_=>(pure r.pending)).run (Lo P fs) w=.ok (Z c) f:=by
      simpa[d]using e
     rw[oD]at a;cases hx:(setObj l (.loop {r with state:=.exhausted})).run (Lo P fs) w with
     |ok u b=>rw[hx]at a;simp only[Result.andThen_ok,Sem.run_pure,Result.ok.injEq]at a;exact i.2.2.1 c a.1
     |halt y b=>simp_all
   |_=>cases e
  |cut=>cases e
  |kR=>cases e
  |view=>cases e
theorem asN(g:∀a b,fE P Spec a b->T a b)(e:nv P Q V X)(hE:∀f c,hasB fs f=U->T (bG (Lo P fs) f c .normal) (bG P f c .normal))(d:xq P fs)(i:Rel (bN P) R w W)(h:ny P (Spec (Q,S.size,M)) K k):qq P fs Spec R T N ⟨Q,S,.beginRound::K,X,.run,V,M⟩ ⟨Q,S,.beginRound::k,X,.run,V,M⟩ L J w W:=by
 have j:Sm P fs (bN P) R [] (do M.elim (stuck "beginRound: no round") Instr.beginRound;pure Next.skip):=by
  cases M with
  |none=>exact(fJ _).bind.kA
  |some l=>exact bf (atx l) λ_=>br _
 exact UQ g hE d j (dZ.kn (rZ λ_=>u6 F)) ⟨_,F,.cons .beginRound h,e,.inl F⟩ F i (λ_=>by rfl) (by rfl)
theorem asQ(D:∀a b,fE P Spec a b->T a b)(t:nv P Q V X)(i:Rel (bN P) R w W)(l)(q:ny P (Spec (Q,S.size,M)) K k):qq P fs Spec R T N ⟨Q,S,.endRangeFunc l::K,X,.run,V,M⟩ ⟨Q,S,.endRangeFunc l::k,X,.run,V,M⟩ L J w W:=by
 have p:∀x j g,(uv l).run (Lo P fs) x=.ok j g->∃es,aG (Lo P fs) U (G ⟨Q,S,.endRangeFunc l::K,X,.run,V,M⟩ L) x=dO ⟨Q,S,(j.map Item.code).toList++K,X,.run,V,M⟩ L g es:=λx j g O=>by
  have f:(uv l).runT (Lo P fs) x #[]=(.ok j g,(uv l).events (Lo P fs) x #[]):=by rw[jR,O]
  simp only[G,aG,bE,f];exact⟨_,F⟩
 cases aQ:(uv l).run (Lo P fs) w with
 |halt x s=>
  have f:(uv l).runT (Lo P fs) w #[]=(.halt x s,(uv l).events (Lo P fs) w #[]):=by rw[jR,aQ]
  refine⟨?_,λy u w1 B h=>?_⟩
  ·simp only[G,aG,bE,f]
   apply S4;cases x<;>first|exact .inl ⟨_,_,_,_,rfl⟩|exact zS rfl
  ·simp only[G,aG,bE,f]at h
   cases x with
   |panic v=>cases h;exact .inl ⟨_,F,by simp,F,(aaV (rs:=[]) l w W i aZ).2 _ _ aQ⟩
   |_=>cases h
 |ok j s=>
  obtain⟨⟨m,r,C,A,z,pY⟩,n,w0,jN,pq⟩:=(aaV (rs:=[]) l w W i aZ).1 j _ aQ;have rM:(uv l).runT P W #[]=(.ok j m,r):=by rw[C];simp
  obtain⟨Iq,o⟩:=p w j _ aQ;refine⟨yv o,λy u w1 B h=>?_⟩;rw[o]at h;cases h;refine .inr ⟨⟨n,w0,jN,λτ d E=>p _ _ _ (pq _ d E)⟩,⟨Q,S,(j.map Item.code).toList++k,X,.run,V,M⟩,J,m,seen P Q r,by simp only[G,aG,bE,rM];simp[kF],⟨D _ _ ⟨_,F,?_,t,.inl F⟩,.inl ⟨F,F,F,F⟩,A,z,λe H=>pY e (BF H)⟩⟩;cases j with
  |none=>exact q
  |some c=>exact .cons (.code (.same _ (af3 i aQ))) q
end
end
section
open Go.Conc (G)
def oY(X:dD)(a:az)(v:ag):az:=if X=.normal then a.finish v else a
theorem Lk{p:aA}{R:Bool}{fr a:az}{l:ae az}{v:ag}{w:au}(c:fr.kind=.normal\/fr.kind=.deferred)(b:a.mode=.run\/a.mode=.returning):rh p R fr (a::l) I v w=dO (oY fr.kind a v) l w #[]:=by
 unfold rh oY;rcases c with c|c<;>rw[c]
 ·rfl
 ·rcases b with b|b<;>simp[b]
section
variable {P:aA}{fs:af dF}{fx:Obj->Prop}{Hid:Loc->Prop}{Spec:Wh->ae aK->ae aK->bl->bl->Prop}{T:az->az->Prop}
theorem abk{rs:ae Nat}(f:dF)(V:af ag):Sm P fs fx Hid rs (results f V):=by
 unfold results;refine bf (aaP (λr=>?_) _) λa=>br _;split
 ·exact br _
 ·exact bf (Tg _) λ_=>Tu _ _
variable {R:Bool}{M O:ae az}{w W:au}
theorem nv.kinds{Q:bA}{X:dD}{a:ae bV}(h:nv P Q X a):X=.normal\/X=.deferred:=h.kind.imp id (·.1)
def HC(P:aA)(fs:af dF)(Hid:Loc->Prop)(R:Bool)(X:dD)(b n d a:az)(f l:ae az)(w W:au):Prop:=Shape (aG (Lo P fs) U (G b (d::f)) w)/\∀i h c m,aG (Lo P fs) U (G b (d::f)) w=dO i h c m->Am (Lo P fs) b (d::f) w i h c/\∃v g j,i=oY X d v/\h=f/\aG P R (G n (a::l)) W=dO (oY X a v) l g j/\Rel (bN P) Hid c g/\iS w W c g/\∀e∈j,qt Hid c.heap.size e
theorem as0{p c b a:az}{i l:ae az}(gq:b.mode=.run\/b.mode=.returning)(C:a.mode=.run\/a.mode=.returning)(hr:Rel (bN P) Hid w W)
  (jM:fE P Spec p c)(hm:c.mode=.returning)(hd:c.defers=[])
  (o:(fs[c.fn]?=I/\P.funcs[c.fn]?=I)\/∃g f,fs[c.fn]?=Z g/\P.funcs[c.fn]?=Z f/\g.results=f.results):HC P fs Hid R c.kind p c b a i l w W:=by
 obtain⟨t,rfl,ht,A,_⟩:=jM;obtain⟨Q,V,s,S,β,X,r⟩:=c;simp only at o hm hd A;subst hm hd;have E:∀(v:ag)(w:au),rh (Lo P fs) U ⟨Q,V,t,[],.returning,X,r⟩ (b::i) I v w=dO (oY X b v) i w #[]:=λv w=>Lk A.kinds gq;have H:∀(v:ag)(w:au),rh P R ⟨Q,V,s,[],.returning,X,r⟩ (a::l) I v w=dO (oY X a v) l w #[]:=λv w=>Lk A.kinds C;rcases o with⟨o,B⟩|⟨g,f,o,B,QU⟩
 ·have u:(Lo P fs).funcs[Q]?=I:=o
  have j:∀x,aG (Lo P fs) U (G ⟨Q,V,t,[],.returning,X,r⟩ (b::i)) x=dO (oY X b (V.getD 0 aC)) i x #[]:=λx=>by simp only[G,aG,lU,u,E]
  refine⟨yv (j w),λK J w1 L h=>?_⟩;have q:=RE j w;rw[j]at h;cases h;exact⟨q,_,W,#[],F,F,by simp only[G,aG,lU,B,H],hr,iS.refl _ _,by simp⟩
 have we:results g V=results f V:=by unfold results;rw[QU]
 have u:(Lo P fs).funcs[Q]?=Z g:=o;have j:∀x v z,(results f V).run (Lo P fs) x=.ok v z->∃es,aG (Lo P fs) U (G ⟨Q,V,t,[],.returning,X,r⟩ (b::i)) x=dO (oY X b v) i z es:=λx v z hx=>by
  have q:(results g V).runT (Lo P fs) x #[]=(.ok v z,(results g V).events (Lo P fs) x #[]):=by rw[jR,we,hx]
  simp only[G,aG,lU,u,q,E];exact⟨_,F⟩
 cases aQ:(results f V).run (Lo P fs) w with
 |halt x y=>
  have q:(results g V).runT (Lo P fs) w #[]=(.halt x y,(results g V).events (Lo P fs) w #[]):=by rw[jR,we,aQ]
  have m:rY (aG (Lo P fs) U (G ⟨Q,V,t,[],.returning,X,r⟩ (b::i)) w)=U:=by
   simp only[G,aG,lU,u,q];cases x<;>rfl
  refine⟨zS m,λK J w1 L h=>?_⟩;rw[h]at m;cases m
 |ok v y=>
  obtain⟨⟨D,us,hS,ez,ey,pY⟩,n,w0,jN,pq⟩:=(abk (rs:=[]) f V w W hr aZ).1 v y aQ;have rM:(results f V).runT P W #[]=(.ok v D,us):=by rw[hS];simp
  obtain⟨Iq,m⟩:=j w v y aQ;refine⟨yv m,λK J w1 L h=>?_⟩;rw[m]at h;cases h;refine⟨⟨n,w0,jN,λτ d C=>j _ _ _ (pq τ d C)⟩,v,D,seen P Q us,F,F,?_,ez,ey,λe he=>pY e (BF he)⟩;simp only[G,aG,lU,B,rM,H];simp[kF]
def od(p:aA)(R:Bool)(a:az)(O:ae az)(b:Nat)(j:aj bl)(w:au):GStep:=
 let(r,es):=(vE b j).runT p w #[]
 kF (seen p a.fn es)<|match r with
 |.ok v w=>rh p R a O I v w
 |.halt _ w=>.ended (.stuck "range over a function: no such loop" (a.pos p)) w
theorem KV{fr' fr b a:az}{g l:ae az}{l0:Nat}{j:aj bl}(L:∀c,j=Z c->jf P c=U)
  (H:b.mode=.run\/b.mode=.returning)(o:a.mode=.run\/a.mode=.returning)(hr:Rel (bN P) Hid w W)(s:fr.kind=.normal\/fr.kind=.deferred)(t:fr'.kind=fr.kind)
  (r:∀w,aG (Lo P fs) U (G fr' (b::g)) w=od (Lo P fs) U fr' (b::g) l0 j w)(C:aG P R (G fr (a::l)) W=od P R fr (a::l) l0 j W):HC P fs Hid R fr.kind fr' fr b a g l w W:=by
 have u:∀x v m,(vE l0 j).run (Lo P fs) x=.ok v m->∃es,aG (Lo P fs) U (G fr' (b::g)) x=dO (oY fr'.kind b v) g m es:=λx v m hx=>by
  have p:(vE l0 j).runT (Lo P fs) x #[]=(.ok v m,(vE l0 j).events (Lo P fs) x #[]):=by rw[jR,hx]
  rw[r];simp only[od,p,Lk (fr:=fr') (t▸s) H];exact⟨_,F⟩
 cases aQ:(vE l0 j).run (Lo P fs) w with
 |halt x i=>
  have p:(vE l0 j).runT (Lo P fs) w #[]=(.halt x i,(vE l0 j).events (Lo P fs) w #[]):=by rw[jR,aQ]
  have f:rY (aG (Lo P fs) U (G fr' (b::g)) w)=U:=by
   rw[r];simp only[od,p];rfl
  refine⟨zS f,λB A w1 E h=>?_⟩;rw[h]at f;cases f
 |ok v i=>
  obtain⟨⟨q,y,J,D,z,pY⟩,n,w0,jN,pq⟩:=(at0 (rs:=[]) l0 j L w W hr aZ).1 v i aQ;have rM:(vE l0 j).runT P W #[]=(.ok v q,y):=by rw[J];simp
  obtain⟨Iq,f⟩:=u w v i aQ;refine⟨yv f,λB A w1 E h=>?_⟩;rw[f]at h;cases h;refine⟨⟨n,w0,jN,λτ d o=>u _ _ _ (pq τ d o)⟩,v,q,seen P fr.fn y,by rw[t],F,?_,D,z,λe K=>pY e (BF K)⟩;rw[C];simp only[od,rM,Lk s o];simp[kF]
variable {Q:bA}{V:af ag}{S:ae bV}{X:dD}{N k:ae aK}
theorem asV{g a:az}{s l:ae az}(h:nv P Q X S)
  (i:g.mode=.run\/g.mode=.returning)(m:a.mode=.run\/a.mode=.returning)(o:Rel (bN P) Hid w W){c:bl}(n:stays k c=Y)(p:ny P (Spec (Q,V.size,Z b)) N k):
  HC P fs Hid R X ⟨Q,V,.code c::N,S,.run,X,Z b⟩ ⟨Q,V,.code c::k,S,.run,X,Z b⟩ g a s l w W:=by
 cases c<;>first|exact absurd n.symm jQ|skip
 ·rename_i id
  rcases V2 (id:=id) p with⟨f,d⟩|⟨t,r,f,d,q⟩
  ·exact KV (fr':=⟨Q,V,_,S,.run,X,Z b⟩) (fr:=⟨Q,V,_,S,.run,X,Z b⟩) (l0:=b) (j:=Z (.exit id)) (λc e=>by cases e;rfl) i m o h.kinds rfl (λ_=>by simp[G,aG,bE,f,od]<;>rfl) (by simp[G,aG,bE,d,od]<;>rfl)
  ·simp[stays,d]at n
 ·rename_i id
  rcases Wx (l:=id) p with⟨f,d⟩|⟨t,r,f,d,q⟩
  ·exact KV (fr':=⟨Q,V,_,S,.run,X,Z b⟩) (fr:=⟨Q,V,_,S,.run,X,Z b⟩) (l0:=b) (j:=Z (.goto id)) (λc e=>by cases e;rfl) i m o h.kinds rfl (λ_=>by simp[G,aG,bE,f,od]<;>rfl) (by simp[G,aG,bE,d,od]<;>rfl)
  ·simp[stays,d]at n
 ·exact KV (fr':=⟨Q,V,_,S,.run,X,Z b⟩) (fr:=⟨Q,V,_,S,.run,X,Z b⟩) (l0:=b) (j:=Z .ret) (λc e=>by cases e;rfl) i m o h.kinds rfl (λ_=>by simp[G,aG,bE,od]<;>rfl) (by simp[G,aG,bE,od]<;>rfl)
theorem as1{d a:az}{m l:ae az}(f:nv P Q X S)
  (g:d.mode=.run\/d.mode=.returning)(h:a.mode=.run\/a.mode=.returning)(i:Rel (bN P) Hid w W):
  HC P fs Hid R X ⟨Q,V,[],S,.run,X,Z b⟩ ⟨Q,V,[],S,.run,X,Z b⟩ d a m l w W:=
 KV (fr':=⟨Q,V,_,S,.run,X,Z b⟩) (fr:=⟨Q,V,_,S,.run,X,Z b⟩) (l0:=b) (j:=I) (λc e=>by cases e) g h i f.kinds F (λ_=>by simp[G,aG,bE,od]<;>rfl) (by simp[G,aG,bE,od]<;>rfl)
end
end
section
open Go.Conc (G)
section
variable {P:aA}{fs:af dF}{M:Loc->Prop}{Spec:Wh->ae aK->ae aK->bl->bl->Prop}{T:az->az->Prop}
variable {L:Bool}{N K:ae az}{w W:au}
variable {R:bA}{X:af ag}{V:ae bV}{S:dD}{Q:aj Nat}{J k:ae aK}
theorem at1{rs:ae Nat}(f:bA)(t:af ag)(m:af Tmp)(a b:bl)(Q:aj Nat)(h:jf P a=U)(i:jf P b=U)(g:qO P f=Y):Sm P fs (bN P) M rs (pI f t m a b Q):=by
 unfold pI;cases Q with
 |some l=>exact Hn l λ_ _=>yy (bf (zU (show bN P (.loop _)from⟨h,i,(λc e=>by cases e),g⟩)) λ_=>br _)
 |none=>exact bf (zU (show bN P (.deferred (Z []))fromλd j=>by cases j)) λr=>yy (bf (zU (show bN P (.loop _)from⟨h,i,(λc e=>by cases e),g⟩)) λ_=>br _)
theorem agd{f:bA}{t:af ag}{e:af Tmp}{a b:bl}{Q:aj Nat}{p:aA}{x:Nat×ae bV}{g:au}(h:(pI f t e a b Q).run p w=.ok x g):∀d∈x.2,lV P d:=by
 unfold pI at h;cases Q with
 |some l=>
  dsimp only at h;rw[oD]at h;cases hy:(Instr.getLoop l).run p w with
  |halt y i=>rw[hy]at h;cases h
  |ok r i=>
   rw[hy]at h;cases h;intro d c;cases c
 |none=>
  cases h;intro d c;simp only[yL]at c;subst c;exact trivial
def Kq(P:aA)(fs:af dF)(Spec:Wh->ae aK->ae aK->bl->bl->Prop)(M:Loc->Prop)(T:az->az->Prop)(L:Bool)(b h:az)(N K:ae az)(w W:au):Prop:=Shape (aG (Lo P fs) U (G b N) w)/\∀g f i o,aG (Lo P fs) U (G b N) w=dO g f i o->(∃c a n,fE P Spec c a/\g=c.raise n/\(∀e∈n,e.recovered=Y)/\f=N/\sS (bN P) i)\/Am (Lo P fs) b N w g f i/\∃c a d l j m,aG P L (G h K) W=dO d l j m/\fE P Spec c a/\a.roundOf=h.roundOf/\kf a=kf h/\a.mode=h.mode/\OB P Spec M T c a N K w W g f i d l j m
theorem qq.tF{a b:az}(h:qq P fs Spec M T L a b N K w W)(g:fE P Spec a b):Kq P fs Spec M T L a b N K w W:=⟨h.1,λl j r m e=>
 (h.2 l j r m e).imp (λ⟨q,c,d⟩=>⟨_,_,q,g,c,d⟩) λ⟨n,f,o,i,p,c,d⟩=>⟨n,a,b,f,o,i,p,c,g,F,F,F,d⟩⟩
theorem asY(hT:∀a b,fE P Spec a b->T a b)(hE:∀f g,hasB fs f=U->T (bG (Lo P fs) f g .normal) (bG P f g .normal))(UB:xq P fs)
  (H:Ai P fs (bN P) M)(HK:Ah P fs)(O:nv P R S V)(hr:Rel (bN P) M w W){f:gU}{j:af Tmp}{a b:bl}(ha:jf P a=U)(hb:jf P b=U)(hk:ny P (Spec (R,X.size,Q)) J k):
  Kq P fs Spec M T L ⟨R,X,.code (.rangeFunc f j a b)::J,V,.run,S,Q⟩ ⟨R,X,.code (.rangeFunc f j a b)::k,V,.run,S,Q⟩ N K w W:=by
 have ev:∀td Kd:ae aK,bJ ⟨R,X,td,V,.run,S,Q⟩=bJ ⟨R,X,Kd,V,.run,S,Q⟩:=λtd Kd=>funext λx=>by cases x<;>rfl
 have step:∀(p:aA)(m:Bool)(A:ae aK)(c:ae az)(x:au),aG p m (G ⟨R,X,.code (.rangeFunc f j a b)::A,V,.run,S,Q⟩ c) x=
   kF (seen p R ((pI R X j a b Q).runT p x #[]).2) (match((pI R X j a b Q).runT p x #[]).1 with
   |.ok (l,mark) o=>ik p U ⟨R,X,.inRangeFunc l::A,mark++V,.run,S,Q⟩ c I (do let d<-resolve (bJ ⟨R,X,[],V,.run,S,Q⟩) {callee:=.value f,args:=#[.const (.func (.yield l) #[] #[])],argTypes:=#[]} 0;invoke d.target d.args) o
   |.halt _ o=>.ended (.stuck "range over a function: no such loop" (Frame.pos p ⟨R,X,.code (.rangeFunc f j a b)::A,V,.run,S,Q⟩)) o):=λp m A c x=>by
  simp only[G,aG,bE];rw[<-ev (.code (.rangeFunc f j a b)::A) []];rfl
 cases aQ:(pI R X j a b Q).run (Lo P fs) w with
 |halt x r=>
  have hl:(pI R X j a b Q).runT (Lo P fs) w #[]=(.halt x r,(pI R X j a b Q).events (Lo P fs) w #[]):=by rw[jR,aQ]
  have y:rY (aG (Lo P fs) U (G ⟨R,X,.code (.rangeFunc f j a b)::J,V,.run,S,Q⟩ N) w)=U:=by
   rw[step,hl];rfl
  refine⟨zS y,λdn dg w2 Ir h=>?_⟩;rw[h]at y;cases y
 |ok v r=>
  have AQ:=agd (P:=P) aQ;obtain⟨⟨E,us,hS,ez,ey,pY⟩,u,γ,XY,Xx⟩:=(at1 (rs:=[]) R X j a b Q ha hb O.ne w W hr aZ).1 v r aQ;obtain⟨l,mark⟩:=v;have rM:(pI R X j a b Q).runT P W #[]=(.ok (l,mark) E,us):=by rw[hS];simp
  have gR:∀x o,(pI R X j a b Q).run (Lo P fs) x=.ok (l,mark) o->aG (Lo P fs) U (G ⟨R,X,.code (.rangeFunc f j a b)::J,V,.run,S,Q⟩ N) x=kF (seen (Lo P fs) R ((pI R X j a b Q).events (Lo P fs) x #[])) (ik (Lo P fs) U ⟨R,X,.inRangeFunc l::J,mark++V,.run,S,Q⟩ N I (do let d<-resolve (bJ ⟨R,X,[],V,.run,S,Q⟩) {callee:=.value f,args:=#[.const (.func (.yield l) #[] #[])],argTypes:=#[]} 0;invoke d.target d.args) o):=λx o hx=>by
   have hl:(pI R X j a b Q).runT (Lo P fs) x #[]=(.ok (l,mark) o,(pI R X j a b Q).events (Lo P fs) x #[]):=by rw[jR,hx]
   rw[step,hl]
  have dT:nv P R S (mark++V):=⟨O.kind,λd hd=>(Ad.1 hd).elim (AQ d) (O.defers d),O.ne⟩;have AL:fE P Spec ⟨R,X,.inRangeFunc l::J,mark++V,.run,S,Q⟩ ⟨R,X,.inRangeFunc l::k,mark++V,.run,S,Q⟩:=⟨_,F,.cons (.inRangeFunc l) hk,dT,.inl F⟩;have C:=aaS (rs:=[]) H (bJ ⟨R,X,[],V,.run,S,Q⟩) {callee:=.value f,args:=#[.const (.func (.yield l) #[] #[])],argTypes:=#[]} 0 F;have rQ:=Yj (Hid:=M) HK (bJ ⟨R,X,[],V,.run,S,Q⟩) {callee:=.value f,args:=#[.const (.func (.yield l) #[] #[])],argTypes:=#[]} 0 F;generalize β:(do let d<-resolve (bJ ⟨R,X,[],V,.run,S,Q⟩) {callee:=.value f,args:=#[.const (.func (.yield l) #[] #[])],argTypes:=#[]} 0;invoke d.target d.args:Sem Next)=qi at C rQ gR;cases zx:qi.run (Lo P fs) r with
  |halt x B=>
   refine⟨by rw[gR w r aQ];exact S4 (NL UB zx),λdn dg w2 Ir h=>?_⟩;rw[gR w r aQ]at h;cases th:ik (Lo P fs) U ⟨R,X,.inRangeFunc l::J,mark++V,.run,S,Q⟩ N I qi r<;>rw[th]at h<;>first|(cases h;done)|skip
   cases h;obtain⟨vs,e1,e2,e3,rfl⟩:=LZ UB zx th;exact .inl ⟨_,_,vs,AL,e1,e2,e3,(C r E ez aZ).2 _ _ zx⟩
  |ok n B=>
   obtain⟨t',xw,Ig,t,c1,W3,Kh,y,g2,s⟩:=aaD hT hE C rQ AL F ez zx (cs':=N) (cs:=K);have lf:=rQ r E ez n B zx;have D:=((C r E ez aZ).1 n B zx).2;have g3:∀x o x2,(pI R X j a b Q).run (Lo P fs) x=.ok (l,mark) o->qi.run (Lo P fs) o=.ok n x2->∃es,aG (Lo P fs) U (G ⟨R,X,.code (.rangeFunc f j a b)::J,V,.run,S,Q⟩ N) x=dO t' xw x2 es:=λx o x2 h1 h2=>by
    obtain⟨t2,c2,uY⟩:=lf.after (Lo P fs) ⟨R,X,.inRangeFunc l::J,mark++V,.run,S,Q⟩ N;obtain⟨Ir,e2⟩:=KY (fr:=⟨R,X,.inRangeFunc l::J,mark++V,.run,S,Q⟩) F uY zx;rw[y]at e2;cases e2;obtain⟨VY,e3⟩:=KY (fr:=⟨R,X,.inRangeFunc l::J,mark++V,.run,S,Q⟩) F uY h2;rw[gR x o h1,e3];exact⟨_,F⟩
   obtain⟨Iq,g4⟩:=g3 w r B aQ zx;refine⟨yv g4,λdn dg w2 Ir h=>?_⟩;rw[g4]at h;cases h;refine .inr ⟨?_,_,_,t,c1,W3,seen P R us++Kh,?_,AL,F,F,F,⟨s.TZ,s.cs,s.rel,ey.trans s.keep,λe z=>?_⟩⟩
   ·
    have δ:tN (Lo P fs) (pI R X j a b Q>>=λ_=>qi) w n B:=tN.bind ⟨u,γ,XY,Xx⟩ D;subst XY;obtain⟨n2,Ua,rfl,D⟩:=D;refine⟨u+n2,Ua,by simp[re,yO],λτ d kM=>?_⟩;have q1:=Xx τ d λi hi q=>kM i ai q;have q2:=D τ (d+u) λi hi q=>by
     have:=kM (u+i) ai q;rw[yO,this];show w.tape (w.drawn+(u+i)) q=w.tape (w.drawn+u+i) q;rw[yO]
    rw[yO]at q2;exact g3 _ _ _ q1 q2
   ·rw[step,rM]
    simp only[β,g2];rfl
   ·rcases Array.mem_append.1 z with z|z
    ·exact(pY e (BF z)).mono s.keep.size
    ·exact s.AA e z
theorem avs{rs:ae Nat}(b:Nat):Sm P fs (bN P) M rs (pJ b):=by
 unfold pJ;refine vu (λo c=>?_) (uK (λ_ _ _ _ _ _=>fJ _) λ_ _=>fJ _);cases o<;>first|exact dm _|skip
 rename_i a;cases a with
 |none=>exact dm _
 |some a=>exact(bf (Ho aZ (show bN P (.deferred I)from trivial) F) λ_=>br _)
theorem awB{b:Nat}{c:ae bV}{f:au}(j:Rel (bN P) M w W)(e:(pJ b).run (Lo P fs) w=.ok c f):∀d∈c,lV P d:=by
 unfold pJ at e;have g:∀k:Obj->Sem (ae bV),(jZ b>>=k).run (Lo P fs) w=(vI b k).run (Lo P fs) w:=λ_=>rfl;rw[g]at e;unfold bx at e;cases hb:w.heap[b]? with
 |none=>rw[hb]at e;cases e
 |some o=>
  rw[hb]at e;obtain⟨O,_,h⟩:=j.obj _ _ hb;cases h with
  |same _ i=>
   cases o with
   |deferred r=>
    cases r with
    |none=>cases e
    |some K=>
     have a:(setObj b (.deferred I)>>=λ_=>(pure K:Sem (ae bV))).run (Lo P fs) w=.ok c f:=e;rw[oD]at a;cases hx:(setObj b (.deferred I)).run (Lo P fs) w with
     |ok u l=>
      rw[hx]at a;simp only[Result.andThen_ok,Sem.run_pure,Result.ok.injEq]at a;exact a.1▸i
     |halt y l=>rw[hx]at a;cases a
   |_=>cases e
  |cut=>cases e
  |kR=>cases e
  |view=>cases e
theorem asO{f:ae bV}{b:Nat}{i:af ag}{l c:ae aK}(E:∀a b,fE P Spec a b->T a b)(t:Rel (bN P) M w W)(p:nv P R S ({target:=.collected b,args:=i}::f))(hk:ny P (Spec (R,X.size,Q)) l c):qq P fs Spec M T L ⟨R,X,l,{target:=.collected b,args:=i}::f,.returning,S,Q⟩ ⟨R,X,c,{target:=.collected b,args:=i}::f,.returning,S,Q⟩ N K w W:=by
 have s:∀x v o,(pJ b).run (Lo P fs) x=.ok v o->∃es,aG (Lo P fs) U (G ⟨R,X,l,{target:=.collected b,args:=i}::f,.returning,S,Q⟩ N) x=dO ⟨R,X,l,v++f,.returning,S,Q⟩ N o es:=λx v o hx=>by
  have q:(pJ b).runT (Lo P fs) x #[]=(.ok v o,(pJ b).events (Lo P fs) x #[]):=by rw[jR,hx]
  simp only[G,aG,lU,q];exact⟨_,F⟩
 cases aQ:(pJ b).run (Lo P fs) w with
 |halt x m=>
  have q:(pJ b).runT (Lo P fs) w #[]=(.halt x m,(pJ b).events (Lo P fs) w #[]):=by rw[jR,aQ]
  have g:rY (aG (Lo P fs) U (G ⟨R,X,l,{target:=.collected b,args:=i}::f,.returning,S,Q⟩ N) w)=U:=by
   simp only[G,aG,lU,q];rfl
  refine⟨zS g,λz y w1 C h=>?_⟩;rw[h]at g;cases g
 |ok v m=>
  obtain⟨⟨r,u,D,B,A,pY⟩,n,w0,jN,pq⟩:=(avs (rs:=[]) b w W t aZ).1 v m aQ;have rM:(pJ b).runT P W #[]=(.ok v r,u):=by rw[D];simp
  obtain⟨Iq,g⟩:=s w v m aQ;refine⟨yv g,λz y w1 C h=>?_⟩;rw[g]at h;cases h;refine .inr ⟨⟨n,w0,jN,λτ d H=>s _ _ _ (pq τ d H)⟩,⟨R,X,c,v++f,.returning,S,Q⟩,K,r,seen P R u,by simp only[G,aG,lU,rM];simp[kF],⟨E _ _ ⟨_,F,hk,⟨p.kind,λd j=>?_,p.ne⟩,.inr F⟩,.inl ⟨F,F,F,F⟩,B,A,λe O=>pY e (BF O)⟩⟩;rcases Ad.1 j with j|j
  ·exact awB t aQ d j
  ·exact p.defers d (eK _ j)
theorem asP{f:bA}{a c:af ag}{g:ae bV}{i b:ae aK}(hE:∀x,T (bG (Lo P fs) f x .deferred) (bG P f x .deferred))(u:Rel (bN P) M w W)
  (j:nv P R S ({target:=.fn (.func f) c,args:=a}::g))(t:ny P (Spec (R,X.size,Q)) i b)
  (n:∀p,p=Lo P fs\/p=P->∀x(w:au),(gz f x).runT p w #[]=(.ok (.enter f x) w,#[])):
  Kq P fs Spec M T L ⟨R,X,i,{target:=.fn (.func f) c,args:=a}::g,.returning,S,Q⟩ ⟨R,X,b,{target:=.fn (.func f) c,args:=a}::g,.returning,S,Q⟩ N K w W:=by
 have q:=n P (.inr F) (a++c) W;have l:∀x,∃es,aG (Lo P fs) U (G ⟨R,X,i,{target:=.fn (.func f) c,args:=a}::g,.returning,S,Q⟩ N) x=dO (bG (Lo P fs) f (a++c) .deferred) (⟨R,X,i,g,.returning,S,Q⟩::N) x es:=λx=>by
  have o:=n (Lo P fs) (.inl F) (a++c) x;simp only[G,aG,lU,callDeferred,invoke,o];exact⟨_,F⟩
 obtain⟨v,m⟩:=l w;refine⟨yv m,λz y B A h=>?_⟩;rw[m]at h;cases h;refine .inr ⟨⟨0,w,F,λτ d _=>l _⟩,⟨R,X,i,g,.returning,S,Q⟩,⟨R,X,b,g,.returning,S,Q⟩,bG P f (a++c) .deferred,_,W,seen P R #[],?_,⟨_,F,t,⟨j.kind,λd r=>j.defers d (eK _ r),j.ne⟩,.inr F⟩,F,F,F,⟨hE _,.inr ⟨F,F⟩,u,iS.refl _ _,λe s=>?_⟩⟩
 ·simp only[G,aG,lU,callDeferred,invoke,q]
  simp[kF]
 ·have:=BF s
  simp at this
end
end
section
open Go.Conc (G)
def Oq(P:aA)(fs:af dF)(a:dD)(c d:az):Prop:=∃f b,qO P f=U/\c=bG (Lo P fs) f b a/\d=bG P f b a/\(a=.deferred->wx P f=U)
def FP(P:aA)(fs:af dF)(Spec:Wh->ae aK->ae aK->bl->bl->Prop)(b:dD)(a c:az):Prop:=fE P Spec a c\/Oq P fs b a c
structure OA(P:aA)(fs:af dF)(Spec:Wh->ae aK->ae aK->bl->bl->Prop)(Hid:Loc->Prop):Prop where
 early:xq P fs
 calls:Ai P fs (bN P) Hid
 kinds:Ah P fs
 enter:∀f args,hasB fs f=U->FP P fs Spec .normal (bG (Lo P fs) f args .normal) (bG P f args .normal)
 af7:∀f args,wx P f=U->FP P fs Spec .deferred (bG (Lo P fs) f args .deferred) (bG P f args .deferred)
 aeu:∀f,wx P f=U->∀p,p=Lo P fs\/p=P->∀x(w:au),(gz f x).runT p w #[]=(.ok (.enter f x) w,#[])
 res:∀fn:bA,(fs[fn]?=I/\P.funcs[fn]?=I)\/∃f' f,fs[fn]?=Z f'/\P.funcs[fn]?=Z f/\f'.results=f.results
def inner(f:bA):Bool:=[2,30,38,43,44,46,55,57,66].contains f
inductive mO(P:aA)(Spec:Wh->ae aK->ae aK->bl->bl->Prop)(c0:az)(E:az->ae az->az->ae az->Prop):az->ae az->az->ae az->Prop
 |BZ {fr' fr:az} (h:fE P Spec fr' fr) (xY:fr.roundOf=I) (hk:fr.kind=.normal) (hb:inner fr.fn=Y):mO P Spec c0 E fr' [c0] fr []
 |under {fr' fr a' a:az} {l' l:ae az} (h:fE P Spec fr' fr) (hs:mO P Spec c0 E a' l' a l):mO P Spec c0 E fr' (a'::l') fr (a::l)
 |bound {fr' fr a' a:az} {l' l:ae az} (h:fE P Spec fr' fr) (hk:fr.kind=.normal) (hE:E a' l' a l):mO P Spec c0 E fr' (a'::l') fr (a::l)
theorem arC(a:az)(v:ag):(a.finish v).roundOf=a.roundOf/\kf (a.finish v)=kf a:=by
 unfold jd;split<;>first|exact⟨rfl,rfl⟩|(split<;>exact⟨rfl,rfl⟩)
theorem U3(k:dD)(a:az)(v:ag):(oY k a v).roundOf=a.roundOf/\kf (oY k a v)=kf a:=by
 unfold oY;split
 ·exact arC a v
 ·exact⟨F,F⟩
section
variable {P:aA}{fs:af dF}{Hid:Loc->Prop}{Spec:Wh->ae aK->ae aK->bl->bl->Prop}{c0:az}{E:az->ae az->az->ae az->Prop}
variable {main:Bool}{X V:ae az}{w W:au}
theorem mO.fr{a b:az}(h:mO P Spec c0 E a X b V):fE P Spec a b:=by cases h<;>assumption
theorem fE.ne{a b:az}(h:fE P Spec a b):qO P b.fn=Y:=h.choose_spec.2.2.1.ne
theorem fE.mode{b a:az}(h:fE P Spec b a):a.mode=.run\/a.mode=.returning:=h.choose_spec.2.2.2
theorem fE.anI{a b:az}(h:fE P Spec a b):a.mode=.run\/a.mode=.returning:=by
 obtain⟨t,rfl,_,_,c⟩:=h;exact c
theorem fE.oY{a b:az}(h:fE P Spec a b)(k:dD)(v:ag):fE P Spec (oY k a v) (oY k b v):=by
 unfold YtgahemdblfapeaaGreatDoor.oY;split
 ·exact h.finish v
 ·exact h
theorem mO.eo{b a f g:az}(h:mO P Spec c0 E b X a V)(d:fE P Spec f g)(i:g.roundOf=a.roundOf)(c:kf g=kf a):mO P Spec c0 E f X g V:=by
 cases h with
 |BZ h l e j=>exact .BZ d (i.trans l) ((congrArg Prod.fst c).trans e) (by rw[show g.fn=a.fn from congrArg Prod.snd c];exact j)
 |under h k=>exact .under d k
 |bound h e hE=>exact .bound d ((congrArg Prod.fst c).trans e) hE
theorem mO.back{b a:az}(h:mO P Spec c0 E b X a V)(k:dD)(v:ag):mO P Spec c0 E (oY k b v) X (oY k a v) V:=h.eo (h.fr.oY k v) (U3 k a v).1 (U3 k a v).2
def FQ(P:aA)(fs:af dF)(Spec:Wh->ae aK->ae aK->bl->bl->Prop)(c0:az)(E:az->ae az->az->ae az->Prop)(f:az)(e:ae az)(c:az)(g:ae az):Prop:=mO P Spec c0 E f e c g\/(∃d a v,E d e a g/\f=d.finish v/\c=a.finish v)\/∃b d h a l,Oq P fs b f c/\e=d::h/\g=a::l/\mO P Spec c0 E d h a l/\((b=.normal/\a.mode=.run)\/(b=.deferred/\a.mode=.returning))
def J8(Spec:Wh->ae aK->ae aK->bl->bl->Prop)(b a:az):Prop:=a.mode=.run/\∃d c e k,b.todo=.code d::e/\a.todo=.code c::k/\Spec (a.fn,a.tmps.size,a.roundOf) e k d c
def over(a:az)(V:ae az):Prop:=V=[]/\a.mode=.returning/\a.defers=[]
theorem aaF(z:OA P fs Spec Hid)(γ:∀H S a l,E H S a l->H.mode=.run/\a.mode=.run){i B:az}(hs:mO P Spec c0 E i X B V)(s:Rel (bN P) Hid w W)(ju:¬J8 Spec i B)(de:¬over B V):Shape (aG (Lo P fs) U (G i X) w)/\∀o n j J,aG (Lo P fs) U (G i X) w=dO o n j J->(∃Q ee vs,fE P Spec Q ee/\o=Q.raise vs/\(∀e∈vs,e.recovered=Y)/\n=X/\sS (bN P) j)\/Am (Lo P fs) i X w o n j/\∃m N q y,aG P main (G B V) W=dO m N q y/\FQ P fs Spec c0 E o n m N/\Rel (bN P) Hid j q/\iS w W j q/\∀e∈y,qt Hid j.heap.size e:=by
 have D:∀g,((g=.normal/\B.mode=.run)\/(g=.deferred/\B.mode=.returning))->Kq P fs Spec Hid (FP P fs Spec g) main i B X V w W->(Shape (aG (Lo P fs) U (G i X) w)/\∀o n j J,aG (Lo P fs) U (G i X) w=dO o n j J->(∃Q ee vs,fE P Spec Q ee/\o=Q.raise vs/\(∀e∈vs,e.recovered=Y)/\n=X/\sS (bN P) j)\/
   Am (Lo P fs) i X w o n j/\∃m N q y,aG P main (G B V) W=dO m N q y/\FQ P fs Spec c0 E o n m N/\Rel (bN P) Hid j q/\iS w W j q/\∀e∈y,qt Hid j.heap.size e):=λg aU hA=>by
  refine⟨hA.1,λo n j J aF=>?_⟩;rcases hA.2 o n j J aF with h|⟨hl,Q,ee,m,N,q,y,h1,AL,tY,δ,ε,hR⟩
  ·exact .inl h
  ·have R:=hs.eo AL tY δ
   refine .inr ⟨hl,m,N,q,y,h1,?_,hR.rel,hR.keep,hR.AA⟩;rcases hR.cs with⟨O,A,e3,e4⟩|⟨O,A⟩
   ·subst O A
    rcases hR.TZ with L|⟨f,ζ,pZ,_,rfl,_⟩
    ·exact .inl (R.eo L e3 e4)
    ·exfalso
     have aD:=R.fr.ne;have e5:f=ee.fn:=congrArg Prod.snd e4;rw[<-e5,pZ]at aD;cases aD
   ·subst O A
    rcases hR.TZ with L|L
    ·exact .inl (.under L R)
    ·exact .inr (.inr ⟨g,_,_,_,_,L,rfl,rfl,R,by rw[ε];exact aU⟩)
 have wz:(∀{H a:az}{S l:ae az},X=H::S->V=a::l->(H.mode=.run\/H.mode=.returning)->(a.mode=.run\/a.mode=.returning)->HC P fs Hid main B.kind i B H a S l w W)->(∃H S,X=H::S)->V≠[]->(Shape (aG (Lo P fs) U (G i X) w)/\∀o n j J,aG (Lo P fs) U (G i X) w=dO o n j J->(∃Q ee vs,fE P Spec Q ee/\o=Q.raise vs/\(∀e∈vs,e.recovered=Y)/\n=X/\sS (bN P) j)\/
   Am (Lo P fs) i X w o n j/\∃m N q y,aG P main (G B V) W=dO m N q y/\FQ P fs Spec c0 E o n m N/\Rel (bN P) Hid j q/\iS w W j q/\∀e∈y,qt Hid j.heap.size e):=λhA _ aD=>by
  cases hs with
  |BZ=>exact absurd F aD
  |under h R=>
   obtain⟨fG,PI⟩:=hA F F R.fr.anI R.fr.mode;refine⟨fG,λo n j J aF=>?_⟩;obtain⟨hl,v,q,y,rfl,rfl,A,h3,h4,h5⟩:=PI o n j J aF;exact .inr ⟨hl,_,_,q,y,A,.inl (R.back _ v),h3,h4,h5⟩
  |bound h C hE=>
   obtain⟨m1,m2⟩:=γ _ _ _ _ hE;obtain⟨fG,PI⟩:=hA F F (.inl m1) (.inl m2);refine⟨fG,λo n j J aF=>?_⟩;obtain⟨hl,v,q,y,rfl,rfl,A,h3,h4,h5⟩:=PI o n j J aF;exact .inr ⟨hl,_,_,q,y,A,.inr (.inl ⟨_,_,v,hE,by rw[C];rfl,by rw[C];rfl⟩),h3,h4,h5⟩
 have P6:V=[]->B.roundOf=I:=λe=>by cases hs with
  |BZ _ h _ _=>exact h
  |under=>cases e
  |bound=>cases e
 have Qd:∃H S,X=H::S:=by cases hs<;>exact⟨_,_,F⟩
 have K:∀g a b,fE P Spec a b->FP P fs Spec g a b:=λ_ _ _ h=>.inl h;have u:=hs.fr;obtain⟨t,rfl,L,r,hm⟩:=u;obtain⟨fn,M,β,p,T,g,ro⟩:=B;simp only at L r hm P6;have u:fE P Spec ⟨fn,M,t,p,T,g,ro⟩ ⟨fn,M,β,p,T,g,ro⟩:=⟨t,F,L,r,hm⟩;rcases hm with rfl|rfl
 ·
  cases L with
  |nil=>
   cases ro with
   |none=>exact D .normal (.inl ⟨F,F⟩) ((asX (K .normal) r s).tF u)
   |some l0=>exact wz (λO A m1 m2=>by subst O A;exact as1 r m1 m2 s) Qd (λe=>by have:=P6 e;cases this)
  |cons h C=>
   cases h with
   |inBlock id=>exact D .normal (.inl ⟨F,F⟩) ((asR (K .normal) r s id C).tF u)
   |inLoop b hb=>exact D .normal (.inl ⟨F,F⟩) ((asS (K .normal) r s b hb C).tF u)
   |inScope b hb=>exact D .normal (.inl ⟨F,F⟩) ((asU (K .normal) r s b C).tF u)
   |inRegion η l ho=>exact D .normal (.inl ⟨F,F⟩) ((asZ (K .normal) r z.enter z.early z.calls z.kinds s ho C).tF u)
   |inRangeFunc l=>exact D .normal (.inl ⟨F,F⟩) ((asT l).tF u)
   |endRangeFunc l=>exact D .normal (.inl ⟨F,F⟩) ((asQ (K .normal) r s l C).tF u)
   |beginRound=>exact D .normal (.inl ⟨F,F⟩) ((asN (K .normal) r z.enter z.early s C).tF u)
   |@code c' c hc=>
    have MA:¬Spec (fn,M.size,ro) _ _ c' c:=λh=>ju ⟨F,_,_,_,_,F,F,h⟩;rename_i k' k;by_cases I8:∃f ps a b,c=.rangeFunc f ps a b
    ·obtain⟨f,ps,a,b,rfl⟩:=I8
     cases hc with
     |spec h=>exact absurd h MA
     |same _ ho=>
      simp only[jf,ig]at ho;exact D .normal (.inl ⟨F,F⟩) (asY (K .normal) z.enter z.early z.calls z.kinds r s ho.1 ho.2 C)
    ·by_cases GC:stays k c=U
     ·exact D .normal (.inl ⟨F,F⟩) ((aaE (K .normal) r s hc MA C (.inr GC) (λf ps a b e=>I8 ⟨f,ps,a,b,e⟩)).tF u)
     ·cases ro with
      |none=>exact D .normal (.inl ⟨F,F⟩) ((aaE (K .normal) r s hc MA C (.inl F) (λf ps a b e=>I8 ⟨f,ps,a,b,e⟩)).tF u)
      |some l0=>
       have Jb:stays k c=Y:=by simpa using GC
       obtain rfl:c'=c:=by
        cases hc with
        |same=>rfl
        |seq=>exact absurd Jb (by simp[stays])
        |cond=>exact absurd Jb (by simp[stays])
        |spec h=>exact absurd h MA
       exact wz (λO A m1 m2=>by subst O A;exact asV r m1 m2 s Jb C) Qd (λe=>by have:=P6 e;cases this)
 ·
  cases p with
  |nil=>
   exact wz (λO A m1 m2=>by subst O A;exact as0 m1 m2 s u F F (z.res fn)) Qd (λe=>de ⟨e,F,F⟩)
  |cons d ds=>
   have hd:=r.defers d aZ;obtain⟨tg,ar⟩:=d;cases tg with
   |fn f c=>
    cases f with
    |func f=>exact D .deferred (.inr ⟨F,F⟩) (asP (λx=>z.af7 f x hd) s r L (z.aeu f hd))
    |_=>exact absurd hd (by simp[lV])
   |collected b=>exact D .deferred (.inr ⟨F,F⟩) ((asO (K .deferred) s r L).tF u)
   |_=>exact absurd hd (by simp[lV])
end
end
section
open Go.Conc (G)
def gQ(p:aA):az:={fn:=p.funcs.size,tmps:=#[aC],todo:=[.call {target:=.nil,args:=#[]} Y "fmt's door: none" #[]],defers:=[],mode:=.run,kind:=.normal}
theorem aof:Extern.next "fmt's door: none"=I:=av
structure il where
 fr:az
 cs:ae az
 w:au
def il.on(x:il)(t:Nat->Question->Nat)(d:Nat):fg:=lone x.fr x.cs (re x.w t d)
def vP(L:aA)(R:ag->au->Prop)(m:fg):Prop:=∃a w v,m=lone a [gQ L] w/\a.leaving L w (.returned v)/\R v w
def Reach(L:aA)(R:ag->au->Prop)(m:fg):Prop:=∃n a,di L n m=.next a/\vP L R a
theorem vn{L}{a}{m c}(h:di L a m=.next c)(b):di L (a+b) m=di L b c:=by rw[runN_add,h]
theorem runN_ended{L}{a}{m}{o}{w}(h:di L a m=.ended o w)(b):di L (a+b) m=.ended o w:=by rw[runN_add,h]
theorem abG{L}{w}{v}:∃o a,step L (lone ((gQ L).finish v) [] w)=.ended o a:=by
 have h:(aG L U {frame:=(gQ L).finish v,callers:=[],status:=.running,dying:=I} w).bare=.ended (.stuck ("no extern row "++ "fmt's door: none") (((gQ L).finish v).pos L)) w:=by
  simp only[gQ];rfl
 exact⟨_,_,step_lone_ended h⟩
theorem vP.ends{L}{R}{m}(h:vP L R m):∃b w o a,di L 1 m=.next (lone b [] w)/\di L 2 m=.ended o a:=by
 obtain⟨b,w,v,rfl,f,_⟩:=h;obtain⟨o,a,e⟩:=abG (L:=L) (w:=w) (v:=v);have d:=step_leave_returned (c:=gQ L) (cs:=[]) f;exact⟨(gQ L).finish v,w,o,a,by simp only[di,d],by simp only[di,d,e]⟩
def kj(L:aA)(x y:il)(k n:Nat)(a:Nat->Question->Nat):Prop:=∀t d,(∀i,i<n->∀q,t (d+i) q=a i q)->di L k (x.on t d)=.next (y.on t (d+n))
def KB(L:aA)(R:ag->au->Prop)(x:il)(a:Nat->Question->Nat):Prop:=∃t d,(∀i q,t (d+i) q=a i q)/\Reach L R (x.on t d)
def UE(L:aA)(x y:il)(k n:Nat):Prop:=∀t d,(∀i,i<n->∀q,t (d+i) q=x.w.tape (x.w.drawn+i) q)->di L k (x.on t d)=.next (y.on t (d+n))
def acW(L:aA)(R:ag->au->Prop)(x:il):Prop:=∃t d,(∀i q,t (d+i) q=x.w.tape (x.w.drawn+i) q)/\Reach L R (x.on t d)
section
variable {σ:Type}{L:aA}{R:ag->au->Prop}{Inv Fin:σ->Prop}{bW:σ->il}{Real:σ->σ->Prop}{x0:il}
structure HJ(L:aA)(Inv:σ->Prop)(bW:σ->il)(Real:σ->σ->Prop)(x0:il)(s0:σ)where
 s:σ
 k:Nat
 n:Nat
 xT:Nat->Question->Nat
 inv:Inv s
 real:Real s0 s
 run:∀t,(∀i,i<n->∀q,t i q=xT i q)->di L k (x0.on t 0)=.next ((bW s).on t n)
theorem HJ.rE{B}(h:HJ L Inv bW Real x0 B)(A:∀s,Inv s->(bW s).cs≠[])(p:∀t d,Reach L R (x0.on t d))(a):KB L R (bW h.s) a:=by
 let t:=λi q=>if i<h.n then h.xT i q else a (i-h.n) q
 have y:∀i,i<h.n->∀q,t i q=h.xT i q:=λi v q=>by simp[t,v]
 have g:∀i q,t (h.n+i) q=a i q:=λi q=>by
  grind
 refine⟨t,h.n,g,?_⟩;have c:=h.run t y;obtain⟨n,z,e,j⟩:=p t 0;have x:h.k<=n:=by
  refine Nat.le_of_not_lt λaE=>?_;obtain⟨C,w,o,D,k,l⟩:=j.ends;by_cases u:h.k=n+1
  ·rw[u,vn e,k]at c
   have f:(bW h.s).cs=[]:=by
    have:=congrArg (λm:fg=>(m.gs[0]?).map (·.callers)) (Stepped.next.inj c);simpa[il.on,lone]using this.symm
   exact A _ h.inv f
  ·obtain⟨b,r⟩:∃b,h.k=n+2+b:=⟨h.k-(n+2),by omega⟩
   rw[r,runN_ended]at c
   ·cases c
   ·rw[vn e,l]
 obtain⟨b,rfl⟩:∃b,n=h.k+b:=⟨n-h.k,by omega⟩;rw[vn c]at e;exact⟨b,z,e,j⟩
theorem asW(f)(refl:Real f f)(trans:∀a b,Real f a->Real a b->Real f b)(V:∀s,Inv s->(bW s).cs≠[])
  (p:Inv f)(S:bW f=x0)(x:∀t d,Reach L R (x0.on t d))
  (H:∀s,Inv s->¬Fin s->(∀a,KB L R (bW s) a)->∃r k n a,Inv r/\Real s r/\0<k/\kj L (bW s) (bW r) k n a):
  ∃s,Real f s/\Inv s/\Fin s/\∀a,KB L R (bW s) a:=by
 refine Ko λE=>?_;have next:∀h:HJ L Inv bW Real x0 f,∃v:HJ L Inv bW Real x0 f,h.k<v.k/\h.n<=v.n/\∀i,i<h.n->∀q,v.xT i q=h.xT i q:=λh=>by
  have z:=h.rE V x;have m:¬Fin h.s:=λm=>E ⟨h.s,h.real,h.inv,m,z⟩;obtain⟨r,k,n,a,J,M,O,K⟩:=H _ h.inv m z;let C:Nat->Question->Nat:=λi q=>if i<h.n then h.xT i q else a (i-h.n) q
  refine⟨⟨r,h.k+k,h.n+n,C,J,trans _ _ h.real M,λt ha=>?_⟩,by simp_all,by simp,λi p q=>by simp[C,p]⟩;have u:=h.run t λi p q=>by grind
  rw[vn u];exact K t _ λi p q=>by
   grind
 let nx:=λh=>Classical.choose (next h);have O:=λh=>(Classical.choose_spec (next h)).1;have hn:=λh=>(Classical.choose_spec (next h)).2.1;have hh:=λh=>(Classical.choose_spec (next h)).2.2;let e:Nat->HJ L Inv bW Real x0 f:=λi=>Nat.rec ⟨f,0,0,λ_ _=>0,p,refl,λt _=>by rw[S];rfl⟩ (λ_ h=>nx h) i;have sk:∀i,i<=(e i).k:=λi=>by
  induction i with
  |zero=>exact je _
  |succ i T=>grind
 have l:∀a b,(e a).n<=(e (a+b)).n/\∀i,i<(e a).n->∀q,(e (a+b)).xT i q=(e a).xT i q:=λa b=>by
  induction b with
  |zero=>simp
  |succ b T=>grind
 let t:Nat->Question->Nat:=λj q=>@dite _ (∃i,j<(e i).n) (Classical.propDecidable _) (λh=>(e (Classical.choose h)).xT j q) (λ_=>0);have Q:∀i j,j<(e i).n->∀q,t j q=(e i).xT j q:=λi j A q=>by
  have g:∃i,j<(e i).n:=⟨i,A⟩;have u:t j q=(e (Classical.choose g)).xT j q:=by
   simp only[t];rw[dif_pos g]
  rw[u];have y:=Classical.choose_spec g;generalize Classical.choose g=c at y;by_cases P:c<=i
  ·obtain⟨b,rfl⟩:∃b,i=c+b:=⟨i-c,by omega⟩
   exact((l c b).2 j y q).symm
  ·obtain⟨b,rfl⟩:∃b,c=i+b:=⟨c-i,by omega⟩
   exact(l i b).2 j A q
 obtain⟨n,m',D,m⟩:=x t 0;obtain⟨X,w,o,W,u,G⟩:=m.ends;have B:=(e (n+2)).run t (Q (n+2));obtain⟨b,N⟩:∃b,(e (n+2)).k=n+2+b:=⟨(e (n+2)).k-(n+2),by simp_all⟩;rw[N,runN_ended (o:=o) (w:=W)]at B
 ·cases B
 ·rw[vn D,G]
end
end
section
open Go.Conc (G)
def lu(g:aH)(w:au):fg:={world:=w,gs:=#[g],rest:={timers:=#[],alone:=I,slice:=I}}
section
variable {L:aA}{R:ag->au->Prop}
theorem abE{w:au}(h:g.status=.blocked):∃o d,step L (lu g w)=.ended o d:=by
 have b:∃a c,move L (lu g w)=(match endWith c 2 (bytes ("fatal error: "++a++ "\n")) (.fatal a)with
   |.ended o w _=>.machine (.ended o w)
   |_=>.machine (.ended (.stuck "" "") default)):=by
  refine⟨ "all goroutines are asleep - deadlock!",w,?_⟩;simp[move,ask,askOn,lu,runnable_eq,due,ahead,Goroutine.canRun,List.range_succ,pure,bx,h];rfl
 obtain⟨a,c,b⟩:=b;unfold step stepT;rw[b];cases endWith c 2 (bytes ("fatal error: "++a++ "\n")) (.fatal a)<;>exact⟨_,_,F⟩
theorem awd{w:au}(h:g.status=.waiting):step L (lu g w)=.next (lu g w):=by
 have a:move L (lu g w)=.machine (.next (lu g w)):=by
  simp[move,ask,askOn,lu,runnable_eq,due,ahead,Goroutine.canRun,List.range_succ,pure,bx,h]
 unfold step stepT;rw[a]
theorem Y7{w:au}(h:g.status=.running):move L (lu g w)=.goroutine (lu g w) 0:=by
 simp[move,ask,askOn,lu,runnable_eq,due,ahead,Goroutine.canRun,List.range_succ,choose,pure,bx,Question.forced,h]
theorem Kb{a:aH}{w b:au}{es:af cX}(h:g.status=.running)(c:aG L U g w=.go a b es)(d:a.status≠.finished):step L (lu g w)=.next (lu a b):=by
 rw[step,stepT,Y7 h];simp[runT,lu,Array.swapAt!,c]
theorem abF{w a:au}{o:Outcome}{es:af cX}(h:g.status=.running)(b:aG L U g w=.ended o a es):step L (lu g w)=.ended o a:=by
 rw[step,stepT,Y7 h];simp[runT,lu,Array.swapAt!,b]
theorem afL{w:au}(h:Ks g):(∃o e,step L (lu g w)=.ended o e)\/∃i e,Ks i/\step L (lu g w)=.next (lu i e):=by
 rcases h with⟨h,_⟩|⟨h,l⟩|⟨h,d,f,j,b,k⟩
 ·exact .inl (abE h)
 ·exact .inr ⟨g,w,.inr (.inl ⟨h,l⟩),awd h⟩
 ·have a:aG L U g w=writeOn L g.frame d f w:=by
   obtain⟨v,q,A,s,m⟩:=g;obtain⟨B,C,p,pe,z,y,t⟩:=d;simp only at j b k;subst j b k;unfold aG;simp only[die]
  unfold writeOn at a;cases hp:f.pieces with
  |nil=>
   simp only[hp]at a;exact .inl ⟨_,_,abF h a⟩
  |cons c rest=>
   simp only[hp]at a;revert a;generalize (nt L _ w #[]:Result Unit×af cX)=r;intro a;obtain⟨r,es⟩:=r;cases r with
   |ok u n=>exact .inr ⟨_,_,.inr (.inr ⟨F,{d with fatal:=Z {f with pieces:=rest,begun:=U}},_,F,b,F⟩),Kb h a aZ⟩
   |halt x n=>
    cases x with
    |blocked=>exact .inr ⟨_,_,.inl ⟨F,F⟩,Kb h a aZ⟩
    |_=>exact .inl ⟨_,_,abF h a⟩
theorem O4{w:au}(h:Ks g):¬Reach L R (lu g w):=by
 rintro⟨n,p,a,b,q,v,rfl,_⟩;induction n generalizing g w with
 |zero=>
  simp only[di,xf]at a;have i:g={frame:=b,callers:=[gQ L],status:=.running,dying:=I}:=by
   have:=congrArg (λm:fg=>m.gs[0]?) a;simpa[lu,lone]using this
  subst i;rcases h with⟨h,_⟩|⟨h,_⟩|⟨_,d,f,h,_⟩<;>cases h
 |succ n j=>
  simp only[di]at a;rcases afL (L:=L) (w:=w) h with⟨o,k,e⟩|⟨l,k,c,e⟩
  ·rw[e]at a;cases a
  ·rw[e]at a
   exact j c a
def M0:ae aK->Bool
 |.call .. ::_=>Y
 |_=>U
structure sO(P:aA)(fr:az):Prop where
 defers:∀d∈fr.defers,lV P d
 head:M0 fr.todo=U
 chain:∀ch,fr.mode=.panicking ch->∀e∈ch,e.recovered=Y
inductive Below(P L:aA):ae az->Prop
 |last:Below P L [gQ L]
 |cons {a:az} {l:ae az} (h:sO P a) (hl:Below P L l):Below P L (a::l)
inductive HD(P L:aA):az->ae az->Prop
 |top {fr:az} {cs:ae az} (h:sO P fr) (hm:∃ch,fr.mode=.panicking ch) (hl:Below P L cs):HD P L fr cs
 |out {ch:ae PanicEntry}:HD P L ((gQ L).raise ch) []
def iY(P:aA)(w:au):Prop:=∀(b:Nat)(a:ae bV),w.heap[b]?=Z (.deferred (Z a))->∀d∈a,lV P d
def HV(P L:aA)(R:ag->au->Prop):Prop:=∀f,wx P f=U->(∀x(w:au),(gz f x).runT L w #[]=(.ok (.enter f x) w,#[]))/\
 ∀b a l w n c,sO P a->(∃i,a.mode=.panicking i)->Below P L l->iY P w->di L n (lone (bG L f b .deferred) (a::l) w)=.next c->vP L R c->∃e d g h,e<=n/\di L e (lone d g h)=.next c/\HD P L d g/\iY P h
variable {P:aA}
theorem Rel.tk{a:Loc->Prop}{w W:au}(h:Rel (bN P) a w W):iY P w:=λb i e d f=>by
 obtain⟨O,_,c⟩:=h.obj _ _ e;cases c with
 |same _ g=>exact g d f
theorem raise_mode(b:az)(c:ae PanicEntry):∃a,(b.raise c).mode=.panicking a:=by
 unfold Frame.raise;split<;>exact⟨_,F⟩
theorem sO.raise{b:az}(h:sO P b){d:ae PanicEntry}(c:∀e∈d,e.recovered=Y):sO P (b.raise d):=by
 unfold Frame.raise;split
 ·rename_i a g
  exact⟨h.defers,h.head,λf e=>by cases e;exactλx i=>(Ad.1 i).elim (c x) (h.chain _ g x)⟩
 ·exact⟨h.defers,h.head,λf e=>by cases e;exact c⟩
theorem eY{fr t:az}{cs c:ae az}{w w':au}{es:af cX}(h:aG L U (G fr cs) w=dO t c w' es):step L (lone fr cs w)=.next (lone t c w'):=step_lone_go (by
                                                                                                                                  have:aG L U {frame:=fr,callers:=cs,status:=.running,dying:=I} w=dO t c w' es:=h;rw[this];rfl)
theorem zX{fr:az}{cs:ae az}{w:au}(h:rY (aG L U (G fr cs) w)=U):∃o a,step L (lone fr cs w)=.ended o a:=by
 cases hs:aG L U (G fr cs) w<;>rw[hs]at h<;>first|exact absurd h jQ|skip
 rename_i o a es;exact⟨o,a,step_lone_ended (by
  have:aG L U {frame:=fr,callers:=cs,status:=.running,dying:=I} w=.ended o a es:=hs;rw[this];rfl)⟩
theorem awA{c:ae bV}{w f:au}(h:iY P w)(e:(pJ b).run L w=.ok c f):(∀d∈c,lV P d)/\iY P f:=by
 unfold pJ at e;have j:∀k:Obj->Sem (ae bV),(jZ b>>=k).run L w=(vI b k).run L w:=λ_=>rfl;rw[j]at e;unfold bx at e;cases hb:w.heap[b]? with
 |none=>rw[hb]at e;cases e
 |some o=>
  rw[hb]at e;cases o<;>first|(cases e;done)|skip
  rename_i r;cases r with
  |none=>cases e
  |some l=>
   have g:(Sem.setObj b (.deferred I) (.pure l)).run L w=.ok c f:=e;simp only[bx,hb]at g;cases g;refine⟨h b _ hb,λi m a=>?_⟩;simp only[tJ]at a;split at a
   ·split at a<;>cases a
   ·exact h i m a
theorem OO(hU:HV P L R):∀(n:Nat)(r:az)(p:ae az)(w:au)(N:fg),HD P L r p->iY P w->di L n (lone r p w)=.next N->¬vP L R N:=by
 intro n;induction n using Nat.strongRecOn with
 |_ n Q=>
 intro r p w N hb O C D;cases n with
 |zero=>
  simp only[di,xf]at C;subst C;obtain⟨ee,H,v,he,M,_⟩:=D;have jM:r=ee:=by
   have:=congrArg (λm:fg=>(m.gs[0]?).map (·.frame)) he;simpa[lone]using this
  subst jM;have E:=M.1;cases hb with
  |top h Mw _=>obtain⟨k,A⟩:=Mw;rw[A]at E;cases E
  |out=>obtain⟨T,A⟩:=raise_mode (gQ L) ‹_›;rw[A]at E;cases E
 |succ n=>
  simp only[di]at C;have next:∀{t:az}{c:ae az}{u:au},step L (lone r p w)=.next (lone t c u)->di L n (lone t c u)=.next N:=λ{t c u}e=>by rw[e]at C;exact C
  have q:(∃o u,step L (lone r p w)=.ended o u)->False:=λ⟨o,u,e⟩=>by rw[e]at C;cases C
  cases hb with
  |out=>
   rename_i k;refine q (zX ?_);obtain⟨T,A⟩:=raise_mode (gQ L) k;have e1:((gQ L).raise k).defers=[]:=by unfold Frame.raise;split<;>rfl
   have e2:((gQ L).raise k).catches L=U:=by
    have:((gQ L).raise k).fn=L.funcs.size/\((gQ L).raise k).todo=(gQ L).todo:=by unfold Frame.raise;split<;>exact⟨F,F⟩
    unfold Frame.catches;rw[this.1,this.2];simp[gQ]
   simp only[G,aG,A,lU,e1,e2,if_true];rfl
  |top h E M=>
   obtain⟨k,A⟩:=E;obtain⟨fn,i,j,y,β,g,z⟩:=r;simp only at A;subst A;have IL:Frame.catches L ⟨fn,i,j,[],.panicking k,g,z⟩=Y:=by
    unfold Frame.catches;simp only
    split
    ·have:=h.head;cases this
    ·rfl
   cases y with
   |nil=>
    cases M with
    |last=>
     have e:=eY (L:=L) (fr:=⟨fn,i,j,[],.panicking k,g,z⟩) (cs:=[gQ L]) (w:=w) (t:=(gQ L).raise k) (c:=[]) (w':=w) (es:=#[]) (by simp only[G,aG,lU,IL];rfl);exact Q n ai _ _ _ _ .out O (next e) D
    |@cons a l ha s=>
     have e:=eY (L:=L) (fr:=⟨fn,i,j,[],.panicking k,g,z⟩) (cs:=a::l) (w:=w) (t:=a.raise k) (c:=l) (w':=w) (es:=#[]) (by simp only[G,aG,lU,IL];rfl);exact Q n ai _ _ _ _ (.top (ha.raise (h.chain k F)) (raise_mode _ _) s) O (next e) D
   |cons d B=>
    have V:=h.defers d aZ;have fN:∀x∈B,lV P x:=λx W=>h.defers x (eK _ W);obtain⟨tg,K⟩:=d;cases tg with
    |fn f c=>
     cases f with
     |func f=>
      obtain⟨S,J⟩:=hU f V;have e:=eY (L:=L) (fr:=⟨fn,i,j,{target:=.fn (.func f) c,args:=K}::B,.panicking k,g,z⟩) (cs:=p) (w:=w) (t:=bG L f (K++c) .deferred) (c:=⟨fn,i,j,B,.panicking k,g,z⟩::p) (w':=w)
       (es:=seen L fn #[]) (by simp only[G,aG,lU,callDeferred,invoke,S (K++c) w];simp[kF])
      obtain⟨n',ee,oH,H,γ,AX,X,dT⟩:=J (K++c) ⟨fn,i,j,B,.panicking k,g,z⟩ p w n N ⟨fN,h.head,h.chain⟩ ⟨_,F⟩ M O (next e) D;exact Q n' ai _ _ _ _ X dT AX D
     |_=>exact absurd V (by simp[lV])
    |collected b=>
     cases J:(pJ b).run L w with
     |halt x H=>
      have s:(pJ b).runT L w #[]=(.halt x H,(pJ b).events L w #[]):=by rw[jR,J]
      exact q (zX (by simp only[G,aG,lU,s];rfl))
     |ok v H=>
      have s:(pJ b).runT L w #[]=(.ok v H,(pJ b).events L w #[]):=by rw[jR,J]
      obtain⟨h1,h2⟩:=awA O J;have e:=eY (L:=L) (fr:=⟨fn,i,j,{target:=.collected b,args:=K}::B,.panicking k,g,z⟩) (cs:=p) (w:=w) (t:=⟨fn,i,j,v++B,.panicking k,g,z⟩) (c:=p) (w':=H)
       (es:=seen L fn ((pJ b).events L w #[])) (by simp only[G,aG,lU,s];simp[kF])
      have X:sO P ⟨fn,i,j,v++B,.panicking k,g,z⟩:=⟨λx W=>(Ad.1 W).elim (h1 x) (fN x),h.head,h.chain⟩;exact Q n ai _ _ _ _ (.top X ⟨_,F⟩ M) h2 (next e) D
    |_=>exact absurd V (by simp[lV])
end
end
end
end Go.Proofs.YtgahemdblfapeaaGreatDoor
