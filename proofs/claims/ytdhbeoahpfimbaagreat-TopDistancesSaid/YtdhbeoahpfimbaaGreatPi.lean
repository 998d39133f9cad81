/- Part of the proof of TopDistances. -/
import Derived.Test.YtdhbeoahpfimbaaGreatRows
import Derived.WalkKit
import Derived.WalkSpells
import Derived.WalkLawsBesides
import Derived.Deep.QuietTactic
import Derived.BigQuiet
import Derived.Deep.RegionHeld3
import Derived.StillTailTactics
import Derived.Lib.QuietBelow
import Derived.Laws.BitsAllLaws
namespace Go.Proofs.YtdhbeoahpfimbaaGreat
open Go.RowKit
theorem b6 {p:Prop} (h:p):Hid p:=h
theorem oK {W w1:World} (hb:Below W.heap.size W w1):(∀b o,b<W.heap.size->w1.cell? ⟨b,o,none⟩=W.cell? ⟨b,o,none⟩)/\(∀b o,b<W.heap.size->w1.frozen? ⟨b,o,none⟩=W.frozen? ⟨b,o,none⟩):=
 ⟨fun b o h=>hb.cell (p:=⟨b,o,none⟩) h,fun b o h=>hb.frozen (p:=⟨b,o,none⟩) h⟩
theorem AW {B:Nat} {a w:World} {n:Nat} (h:Below B a w):Below B a (w.drewN n):=⟨h.os,h.tape,h.output,h.size,h.block⟩
theorem wG {w w':World} (h:Below w.drew.heap.size w.drew w'):Below w.heap.size w w':=⟨h.os,h.tape,h.output,h.size,h.block⟩
theorem sC {w w':World} {n:Nat} (h:Below (w.drewN n).heap.size (w.drewN n) w'):Below w.heap.size w w':=⟨h.os,h.tape,h.output,h.size,h.block⟩
theorem KB {B:Nat} {a w:World} (h:Below B a w):Below B a w.drew:=h.drew
theorem cH {w X:World} (h:Below w.heap.size w X) (o:Obj):Below w.heap.size w (X.alloc o):=h.alloc h.size o
theorem o5 {w X W:World} (hb:Below X.heap.size X W) (h:Below w.heap.size w X):Below w.heap.size w W:=h.trans (hb.mono h.size)
theorem bv {N:Nat} {a b:World} (h:Below N a b:=by ((repeat (first|exact Below.refl _ _|refine AW ?_ |refine KB ?_ |refine cH ?_ _|refine Below.setCell ?_ (by (first|(simp;done)|(simp;omega)|omega)) _|refine o5 (by assumption) ?_));first|done|fail)):Below N a b:=h
theorem bw {N:Nat} {a b:World} (h:Below N a b:=by ((repeat (first|(with_reducible exact Below.refl _ _)|(with_reducible refine Below.setCell ?_ (by (first|(simp;done)|(simp;omega)|omega)) _)|(with_reducible refine cH ?_ _)|(with_reducible refine AW ?_)|(with_reducible refine KB ?_)|(with_reducible refine o5 (by assumption) ?_)));first|done|fail)):Below N a b:=h
theorem aq {α:Type} {a b:α} (h:a=b:=by (simp only [cond_true,cond_false,List.setIfInBounds_toArray,List.set_cons_zero,List.set_cons_succ];first|done|fail)):a=b:=h
theorem cq (w:World) (B k:Nat) (x:Int) (h:w.cell? ⟨B,k,none⟩=some (.int .i64 x):=by (simp [go_sem, *];first|done|fail)):w.cell? ⟨B,k,none⟩=some (.int .i64 x):=h
theorem A7 (w:World) (B k:Nat) (x:Int) (h:w.cell? ⟨B,k,none⟩=some (.int .u64 x):=by (simp [go_sem, *];first|done|fail)):w.cell? ⟨B,k,none⟩=some (.int .u64 x):=h
def CB (f:FuncId) (args:Array Value) (v:Value):Prop:=Hid (∀w,Calls Tryz.prog f args w fun e w'=>e= .returned v/\Below w.heap.size w w')
theorem CB.out {f:FuncId} {args:Array Value} {v:Value} (h:CB f args v) (w:World):Calls Tryz.prog f args w fun e w'=>e= .returned v/\Below w.heap.size w w':=h w
theorem szk {a b c:Nat} (h:a<b) (k:b<=c):a<c:=Nat.lt_of_lt_of_le h k
theorem szs {a c:Nat} (k:a+1<=c):a<c:=k
theorem sM (a b:World) (h:a.heap.size<b.heap.size:=by omega):a.heap.size<b.heap.size/\a.heap.size<b.heap.size+1:=⟨h,by omega⟩
theorem rS (a b:World) (h:a.heap.size+1<b.heap.size:=by omega):a.heap.size<b.heap.size/\a.heap.size+1<b.heap.size/\a.heap.size<b.heap.size+1:=by omega
theorem sz3 (a b:World) (h:a.heap.size+1+1<b.heap.size:=by omega):a.heap.size<b.heap.size/\a.heap.size+1<b.heap.size/\a.heap.size+1+1<b.heap.size:=by omega
theorem sz4 (a b:World) (h:a.heap.size+1+1+1<b.heap.size:=by omega):a.heap.size<b.heap.size/\a.heap.size+1<b.heap.size/\a.heap.size+1+1<b.heap.size/\a.heap.size+1+1+1<b.heap.size:=by omega
theorem nm (w:World):∃v,v=w:=⟨_,rfl⟩
theorem am {P:Program} {f:FuncId} {args:Array Value} {w:World} {v:Ending} {R:World->Prop} {Q:Ending->World->Prop} (h:Calls P f args w fun e w'=>e=v/\R w') (k:∀w',R w'->Q v w'):Calls P f args w Q:=h.mono fun _ _ ⟨he,hr⟩=>he▸k _ hr
theorem mU {Q:Prop} (h:Q:=by first|exact wG hb|exact sC hb|exact hb):Q:=h
theorem mB {Q:Prop} (h:Q:=by
 obtain ⟨hcell,hfroz⟩:=oK hb
 have hz:=hb.size
 try simp at hz
 first|have s0:=sz4 w w'|have s0:=sz3 w w'|have s0:=rS w w'|have s0:=sM w w'|have s0:=trivial
 first|have s1:=rS w1 w'|have s1:=sM w1 w'|have s1:=trivial
 first|have s2:=rS w2 w'|have s2:=sM w2 w'|have s2:=trivial
 first|have s3:=rS w3 w'|have s3:=sM w3 w'|have s3:=trivial
 first|have s4:=rS w4 w'|have s4:=sM w4 w'|have s4:=trivial
 first|have s5:=rS w5 w'|have s5:=sM w5 w'|have s5:=trivial
 first|have s6:=rS w6 w'|have s6:=sM w6 w'|have s6:=trivial
 first|have s7:=rS w7 w'|have s7:=sM w7 w'|have s7:=trivial
 first|have s8:=rS w8 w'|have s8:=sM w8 w'|have s8:=trivial
 first|have s9:=rS w9 w'|have s9:=sM w9 w'|have s9:=trivial
 have s:=And.intro s0 (And.intro s1 (And.intro s2 (And.intro s3 (And.intro s4 (And.intro s5 (And.intro s6 (And.intro s7 (And.intro s8 s9))))))))
 first|exact And.intro hcell (And.intro hfroz (And.intro hz s))|exact And.intro hcell (And.intro hfroz (And.intro trivial s))):Q:=h
theorem oH {Q:Prop} (h:Q:=by
 obtain ⟨hcell,hfroz⟩:=oK hb
 have hz:=hb.size
 try simp at hz
 first|have y9:=szs hz|have y9:=trivial
 first|have y8:=szk z9 hz|have y8:=trivial
 first|have y7:=szk z8 hz|have y7:=trivial
 first|have y6:=szk z7 hz|have y6:=trivial
 first|have s0:=sz4 w w'|have s0:=sz3 w w'|have s0:=rS w w'|have s0:=sM w w'|have s0:=trivial
 first|have s1:=rS w1 w'|have s1:=sM w1 w'|have s1:=trivial
 first|have s2:=rS w2 w'|have s2:=sM w2 w'|have s2:=trivial
 first|have s3:=rS w3 w'|have s3:=sM w3 w'|have s3:=trivial
 first|have s4:=rS w4 w'|have s4:=sM w4 w'|have s4:=trivial
 first|have s5:=rS w5 w'|have s5:=sM w5 w'|have s5:=trivial
 first|have s6:=rS w6 w'|have s6:=sM w6 w'|have s6:=trivial
 first|have s7:=rS w7 w'|have s7:=sM w7 w'|have s7:=trivial
 first|have s8:=rS w8 w'|have s8:=sM w8 w'|have s8:=trivial
 first|have s9:=rS w9 w'|have s9:=sM w9 w'|have s9:=trivial
 have s:=And.intro y6 <| And.intro y7 <| And.intro y8 <| And.intro y9 <| And.intro s0 (And.intro s1 (And.intro s2 (And.intro s3 (And.intro s4 (And.intro s5 (And.intro s6 (And.intro s7 (And.intro s8 s9))))))))
 first|exact And.intro hcell (And.intro hfroz (And.intro hz s))|exact And.intro hcell (And.intro hfroz (And.intro trivial s))):Q:=h
@[simp,go_sem] theorem a2R (n:Nat):n<n+1:=by omega
@[simp,go_sem] theorem a21 (n:Nat):n<n+1+1:=by omega
@[simp,go_sem] theorem a3d (n:Nat):n<n+1+1+1:=by omega
@[simp,go_sem] theorem a3p (n:Nat):n<n+1+1+1+1:=by omega
@[simp,go_sem] theorem a2x (n:Nat):n<n+1+1+1+1+1:=by omega
@[simp,go_sem] theorem a2K (n:Nat):n<n+1+1+1+1+1+1:=by omega
@[simp,go_sem] theorem a2B (n:Nat):n+1<n+1+1:=by omega
@[simp,go_sem] theorem a2O (n:Nat):n+1<n+1+1+1:=by omega
@[simp,go_sem] theorem a2z (n:Nat):n+1<n+1+1+1+1:=by omega
@[simp,go_sem] theorem a20 (n:Nat):n+1<n+1+1+1+1+1:=by omega
@[simp,go_sem] theorem a3a (n:Nat):n+1<n+1+1+1+1+1+1:=by omega
@[simp,go_sem] theorem a2w (n:Nat):n+1+1<n+1+1+1:=by omega
@[simp,go_sem] theorem a2W (n:Nat):n+1+1<n+1+1+1+1:=by omega
@[simp,go_sem] theorem a25 (n:Nat):n+1+1<n+1+1+1+1+1:=by omega
@[simp,go_sem] theorem a2A (n:Nat):n+1+1<n+1+1+1+1+1+1:=by omega
@[simp,go_sem] theorem a2E (n:Nat):n+1+1+1<n+1+1+1+1:=by omega
@[simp,go_sem] theorem a2y (n:Nat):n+1+1+1<n+1+1+1+1+1:=by omega
@[simp,go_sem] theorem a2Z (n:Nat):n+1+1+1<n+1+1+1+1+1+1:=by omega
@[simp,go_sem] theorem a3e (n:Nat):n+1+1+1+1<n+1+1+1+1+1:=by omega
@[simp,go_sem] theorem a3j (n:Nat):n+1+1+1+1<n+1+1+1+1+1+1:=by omega
theorem N3 {k:IntKind} {a c:Int} (h:a=c):Ending.returned (.int k a)=Ending.returned (.int k c):=by rw [h]
theorem J7 {k:IntKind} {a b c d:Int} (h:a=c/\b=d):Ending.returned (.tuple #[.int k a,.int k b])=Ending.returned (.tuple #[.int k c,.int k d]):=by
 rw [h.1,h.2]
theorem mO {a b:Bool} {n:Int} (h:a=b):Ending.returned (.tuple #[.bool a,.int .i64 n])=Ending.returned (.tuple #[.bool b,.int .i64 n]):=by rw [h]
theorem u6 {P:Program} {f:FuncId} {args:Array Value} {w:World} {n:Nat} {v:Value}
  (h:Calls P f args (w.drewN n) fun e w'=>e= .returned v/\w.drewN n=w'):Calls P f args (w.drewN n) fun e w''=>e= .returned v/\∃m,w''=w.drewN m:=
 h.mono fun _ _ ⟨he,hm⟩=>⟨he,n,hm.symm⟩
theorem lE {P:Program} {f:FuncId} {args:Array Value} {w:World} {v:Value} (h:Calls P f args w fun e w'=>e= .returned v/\w=w'):Calls P f args w fun e w'=>e= .returned v/\w'=w:=
 h.mono fun _ _ ⟨he,hm⟩=>⟨he,hm.symm⟩
theorem CQ {P:Program} {id:Nat} {Q:Exit->Act->World->Prop} {a:Act} {w:World} {l:List Oper} (n:Nat) (hm:P.follows .mixedOrders=true) (mB:Region.lexTailB .any l.toArray n=true)
  (h:wpStill P l.toArray w.drew (fun a'=>wpList P l.toArray Q (l.drop n) a' w.drew) (l.take n) a):(Code.region id l.toArray true).wp P Q a w:=wp_region_still_tail n hm mB h
@[simp,go_sem] theorem YD (w:World) (b o d:Nat) (os:Array Obj) (h:b<w.heap.size):(Go.Sort.grow (redrawn w d) os).cell? ⟨b,o,none⟩=w.cell? ⟨b,o,none⟩:=(below_regrown w d os).cell (p:=⟨b,o,none⟩) h
theorem i8 {w w':World} (h:∃p:Regrown,w'=Go.Sort.grow (redrawn w p.d) p.os):Below w.heap.size w w':=by
 obtain ⟨p,rfl⟩:=h;exact below_regrown w p.d p.os
theorem DC {P:Program} {id:Nat} {ops:Array Oper} {b:Bool} {Q:Exit->Act->World->Prop} {a:Act} {W:World} (h:∀w',Below W.heap.size W w'->(Code.region id ops b).wp P Q a w'):(Code.region id ops b).wp P Q a W:=h W (Below.refl _ _)
theorem o7 {F:World->Prop} {W:World} (h:∀w',Below W.heap.size W w'->F w'):F W:=h W (Below.refl _ _)
theorem m9 {P:Program} {c:Code} {Q:Exit->Act->World->Prop} {a:Act} {W:World} (h:∀w',Below W.heap.size W w'->c.wp P Q a w'):c.wp P Q a W:=h W (Below.refl _ _)
theorem NM {P:Program} {md:Region.Mode} {ops:Array Oper} {Q:Exit->Act->World->Prop} (Inv:Array Bool->Act->World->Prop)
  (hdone:∀L a w,Inv L a w->Region.ready md ops L=[]->Q .normal a w)
  (hstep:∀L a w i,Inv L a w->L.getD i true=false->(∀o,ops[i]? =some o->∀e∈o.after,Region.binds md e=true->L.getD e.on false=true)->
   wpOp P ops Q i (Inv (L.setIfInBounds i true)) a w):
  ∀(fuel:Nat) (L:Array Bool) (a:Act) (w:World),Inv L a w->L.toList.count false<=fuel->wpAny P md ops Q fuel L a w:=by
 have hready:∀(L:Array Bool) (i:Nat),i∈Region.ready md ops L->L.getD i true=false/\(∀o,ops[i]? =some o->∀e∈o.after,Region.binds md e=true->L.getD e.on false=true):=by
  intro L i hi
  unfold Region.ready at hi
  obtain ⟨_,h⟩:=List.mem_filter.1 hi
  simp only [Bool.and_eq_true,Bool.not_eq_true'] at h
  refine ⟨h.1,fun o ho e he hb=> ?_⟩
  have h2:=h.2
  rw [ho] at h2
  simp only [Option.map_some,Option.getD_some] at h2
  have:=Array.all_eq_true'.1 h2 e he
  rw [hb] at this
  simpa using this
 intro fuel
 induction fuel with
 |zero=>
  intro L a w h hc
  have hr:Region.ready md ops L=[]:=by
   apply List.eq_nil_iff_forall_not_mem.2
   intro i hi
   have f:=(hready L i hi).1
   have hm:false∈L.toList:=by
    rw [Array.getD_eq_getD_getElem?] at f
    cases hg:L[i]? with
    |none=>rw [hg] at f;cases f
    |some b=>
     rw [hg] at f
     simp at f
     subst f
     exact Array.mem_toList_iff.2 (Array.mem_of_getElem? hg)
   have:=List.count_pos_iff.2 hm
   omega
  exact ⟨hr,hdone L a w h hr⟩
 |succ fuel ih=>
  intro L a w h hc
  refine ⟨hdone L a w h,fun i hi=> ?_⟩
  have r:=hready L i hi
  refine wpOp_mono (fun a' w' h'=>ih _ a' w' h' ?_) (hstep L a w i h r.1 r.2)
  have f:=r.1
  rw [Array.getD_eq_getD_getElem?] at f
  cases hg:L[i]? with
  |none=>rw [hg] at f;cases f
  |some b=>
   rw [hg] at f
   simp at f
   subst f
   obtain ⟨hl,he⟩:=Array.getElem?_eq_some_iff.1 hg
   rw [Array.toList_setIfInBounds,List.count_set (by simpa using hl)]
   have e:L.toList[i]'(by simpa using hl)=false:=by simpa using he
   rw [e,if_pos (by rfl),if_neg (by decide)]
   omega
def pV (P:Program) (md:Region.Mode) (ops:Array Oper) (Q:Exit->Act->World->Prop) (Inv:Array Bool->Act->World->Prop) (L:Array Bool) (a:Act) (w:World):Nat->List Oper->Prop
 |_,[]=>True
 |k,o :: rest=>(L.getD k true=false->(∀e∈o.after,Region.binds md e=true->L.getD e.on false=true)->∀K:Act->World->Prop,(∀a w,Inv (L.setIfInBounds k true) a w->K a w)->
   if Region.wanted o (yielded ops a.tmps)=true then Oper.wp P o a w K Q else K (a.put o.dst undef) w)/\pV P md ops Q Inv L a w (k+1) rest
theorem zU {P:Program} {md:Region.Mode} {ops:Array Oper} {Q:Exit->Act->World->Prop} {Inv:Array Bool->Act->World->Prop} {L:Array Bool} {a:Act} {w:World}:
  ∀(l:List Oper) (k:Nat),pV P md ops Q Inv L a w k l->∀j o,l[j]? =some o->L.getD (k+j) true=false->(∀e∈o.after,Region.binds md e=true->L.getD e.on false=true)->
   ∀K:Act->World->Prop,(∀a w,Inv (L.setIfInBounds (k+j) true) a w->K a w)->if Region.wanted o (yielded ops a.tmps)=true then Oper.wp P o a w K Q else K (a.put o.dst undef) w:=by
 intro l
 induction l with
 |nil=>intro k _ j o h;simp at h
 |cons x rest ih=>
  intro k h j o hj
  cases j with
  |zero=>
   simp only [List.getElem?_cons_zero,Option.some.injEq] at hj
   subst hj
   exact h.1
  |succ j=>
   simp only [List.getElem?_cons_succ] at hj
   have:=ih (k+1) h.2 j o hj
   rw [show k+1+j=k+(j+1) by omega] at this
   exact this
def rE (md:Region.Mode):Nat->List Oper->Bool
 |_,[]=>true
 |k,o :: rest=>(o.after.all fun e=> !Region.binds md e||decide (e.on<k))&&rE md (k+1) rest
theorem MJ {md:Region.Mode}:∀(l:List Oper) (k:Nat),rE md k l=true->∀j o,l[j]? =some o->∀e∈o.after,Region.binds md e=true->e.on<k+j:=by
 intro l
 induction l with
 |nil=>intro k _ j o h;simp at h
 |cons x rest ih=>
  intro k h j o hj e he hb
  simp only [rE,Bool.and_eq_true] at h
  cases j with
  |zero=>
   simp only [List.getElem?_cons_zero,Option.some.injEq] at hj
   subst hj
   have:=Array.all_eq_true'.1 h.1 e he
   rw [hb] at this
   simpa using this
  |succ j=>
   simp only [List.getElem?_cons_succ] at hj
   have:=ih (k+1) h.2 j o hj e he hb
   omega
theorem FK {md:Region.Mode} {l:List Oper} {L:Array Bool} (hu:rE md 0 l=true) (hs:L.size=l.length) (hr:Region.ready md l.toArray L=[]):
  ∀i,i<l.length->L.getD i true=true:=by
 intro i
 induction i using Nat.strongRecOn with
 |ind i ih=>
  intro hi
  cases hf:L.getD i true with
  |true=>rfl
  |false=>
   exfalso
   have hm:i∈Region.ready md l.toArray L:=by
    unfold Region.ready
    rw [List.mem_filter]
    refine ⟨by simpa using hi,?_⟩
    have ho:l.toArray[i]? =some l[i]:=by simp
    rw [hf,ho]
    simp only [Bool.not_false,Bool.true_and,Option.map_some,Option.getD_some]
    rw [Array.all_eq_true']
    intro e he
    cases hb:Region.binds md e with
    |false=>rfl
    |true=>
     have h1:=MJ l 0 hu i l[i] (by simp) e he hb
     have h2:=ih e.on (by omega) (by omega)
     have h3:e.on<L.size:=by omega
     rw [Array.getD_eq_getD_getElem?,Array.getElem?_eq_getElem h3] at h2 ⊢
     simpa using h2
   rw [hr] at hm
   cases hm
theorem B8 {P:Program} {id:Nat} {l:List Oper} {Q:Exit->Act->World->Prop} {a:Act} {w:World} (Inv:Act->Array Bool->Act->World->Prop) (hm:P.follows .mixedOrders=true) (hu:rE .any 0 l=true)
  (h0:Inv a (Array.replicate l.length false) a {w with drawn:=w.drawn+1})
  (hsize:∀L a' w,Inv a L a' w->L.size=l.length)
  (hdone:∀L a' w,Inv a L a' w->(∀i,i<l.length->L.getD i true=true)->Q .normal a' w)
  (hstep:∀L a' w,Inv a L a' w->pV P .any l.toArray Q (Inv a) L a' w 0 l):(Code.region id l.toArray true).wp P Q a w:=by
 refine wp_region_any hm ?_
 refine NM (Inv a) (fun L a' w hI hr=>hdone L a' w hI (FK hu (hsize L a' w hI) hr)) (fun L a' w i hI hf ha=> ?_) _ _ _ _ (by simpa using h0) (by simp)
 have hi:i<l.length:=by
  have hs:=hsize L a' w hI
  rcases Nat.lt_or_ge i l.length with h|h
  ·exact h
  ·rw [Array.getD_eq_getD_getElem?,Array.getElem?_eq_none (by omega)] at hf
   cases hf
 have ho:l[i]? =some l[i]:=by simp
 have ho2:l.toArray[i]? =some l[i]:=by simp
 refine wpOp_step ho2 fun K hK=> ?_
 have:=zU l 0 (hstep L a' w hI) i l[i] ho (by simpa using hf) (ha l[i] ho2) K (by simpa using hK)
 exact this
def qE (w0 w:World) (B:Nat) (d:Bool) (v:Int):Prop:=
 w0.heap.size<=B/\B<w.heap.size/\w.frozen? ⟨B,0,none⟩=false/\w.frozen? ⟨B,1,none⟩=false/\∃x y,w.cell? ⟨B,0,none⟩=some x/\w.cell? ⟨B,1,none⟩=some y/\(d=true->x= .int .i64 v/\y= .int .i64 v)
theorem qE.later {w0 w w':World} {B:Nat} {d:Bool} {v:Int} (hb:Below w.heap.size w w') (h:qE w0 w B d v):qE w0 w' B d v:=by
 obtain ⟨h1,h2,h3,h4,x,y,h5,h6,h7⟩:=h
 exact ⟨h1,Nat.lt_of_lt_of_le h2 hb.size,(hb.frozen (p:=⟨B,0,none⟩) h2).trans h3,(hb.frozen (p:=⟨B,1,none⟩) h2).trans h4,x,y,(hb.cell (p:=⟨B,0,none⟩) h2).trans h5,(hb.cell (p:=⟨B,1,none⟩) h2).trans h6,h7⟩
theorem qE.other {w0 w:World} {B B':Nat} {d:Bool} {v:Int} (n:B≠B') (x y:Value) (h:qE w0 w B d v):qE w0 ((w.setCell ⟨B',0,none⟩ x).setCell ⟨B',1,none⟩ y) B d v:=by
 obtain ⟨h1,h2,h3,h4,c,e,h5,h6,h7⟩:=h
 have ne:∀p o,(⟨B',p,none⟩:Addr)≠⟨B,o,none⟩:=fun p o e=>by injection e with e;exact n e.symm
 refine ⟨h1,by simpa using h2,by simpa using h3,by simpa using h4,c,e,?_,?_,h7⟩
 ·rw [World.cell?_setCell_other _ _ _ _ (ne 1 0),World.cell?_setCell_other _ _ _ _ (ne 0 0)];exact h5
 ·rw [World.cell?_setCell_other _ _ _ _ (ne 1 1),World.cell?_setCell_other _ _ _ _ (ne 0 1)];exact h6
theorem qE.alloc {w0 w:World} (h:Below w0.heap.size w0 w) (x y:Value) (t:Nat) (d:Bool) (v:Int) (hd:d=true->false=true):qE w0 (w.alloc (Obj.cells #[x,y] t)) w.heap.size d v:=by
 refine ⟨h.size,by simp [go_sem],by simp [go_sem],by simp [go_sem],x,y,by simp [go_sem],by simp [go_sem],fun e=> ?_⟩
 have:=hd e
 cases this
theorem qE.store {w0 w:World} {B:Nat} {d:Bool} {v:Int} (u:Int) (h:qE w0 w B d v) (d':Bool):qE w0 ((w.setCell ⟨B,0,none⟩ (.int .i64 u)).setCell ⟨B,1,none⟩ (.int .i64 u)) B d' u:=by
 obtain ⟨h1,h2,h3,h4,c,e,h5,h6,h7⟩:=h
 refine ⟨h1,by simpa using h2,by simpa using h3,by simpa using h4,.int .i64 u,.int .i64 u,?_,?_,fun _=>⟨rfl,rfl⟩⟩
 ·simp [go_sem, *]
 ·simp [go_sem, *]
end Go.Proofs.YtdhbeoahpfimbaaGreat
