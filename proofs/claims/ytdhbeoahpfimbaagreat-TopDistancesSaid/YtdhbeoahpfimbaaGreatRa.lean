/- Part of the proof of TopDistances. -/
import Derived.Test.YtdhbeoahpfimbaaGreatPi
import Derived.Maps.AppendAt
import Derived.Laws.OwnMore
import Derived.Laws.StructEq
import Derived.StillTail
namespace Go.Proofs.YtdhbeoahpfimbaaGreat
open Go.RowKit
def L8 (w0 w:World) (B:Nat) (d:Bool) (v0 v1:Int):Prop:=
 w0.heap.size<=B/\B<w.heap.size/\w.frozen? ⟨B,0,none⟩=false/\w.frozen? ⟨B,1,none⟩=false/\∃x0 x1,w.cell? ⟨B,0,none⟩=some x0/\w.cell? ⟨B,1,none⟩=some x1/\(d=true->x0= .int .i64 v0/\x1= .int .i64 v1)
theorem L8.later {w0 w w':World} {B:Nat} {d:Bool} {v0 v1:Int} (hb:Below w.heap.size w w') (h:L8 w0 w B d v0 v1):L8 w0 w' B d v0 v1:=by
 obtain ⟨h1,h2,f0,f1,x0,x1,c0,c1,h7⟩:=h
 exact ⟨h1,Nat.lt_of_lt_of_le h2 hb.size,(hb.frozen (p:=⟨B,0,none⟩) h2).trans f0,(hb.frozen (p:=⟨B,1,none⟩) h2).trans f1,x0,x1,(hb.cell (p:=⟨B,0,none⟩) h2).trans c0,(hb.cell (p:=⟨B,1,none⟩) h2).trans c1,h7⟩
theorem L8.alloc {w0 w:World} (h:Below w0.heap.size w0 w) (x0 x1:Value) (t:Nat) (d:Bool) (v0 v1:Int) (hd:d=true->false=true):L8 w0 (w.alloc (Obj.cells #[x0,x1] t)) w.heap.size d v0 v1:=by
 refine ⟨h.size,by simp [go_sem],by simp [go_sem],by simp [go_sem],x0,x1,by simp [go_sem],by simp [go_sem],fun e=> ?_⟩
 have:=hd e
 cases this
theorem L8.store {w0 w:World} {B:Nat} {d:Bool} {v0 v1:Int} (u0 u1:Int) (h:L8 w0 w B d v0 v1) (d':Bool):L8 w0 ((w.setCell ⟨B,0,none⟩ (.int .i64 u0)).setCell ⟨B,1,none⟩ (.int .i64 u1)) B d' u0 u1:=by
 obtain ⟨h1,h2,f0,f1,x0,x1,c0,c1,h7⟩:=h
 refine ⟨h1,by simpa using h2,by simpa using f0,by simpa using f1,.int .i64 u0,.int .i64 u1,?_,?_,fun _=>⟨rfl,rfl⟩⟩
 ·simp [go_sem, *]
 ·simp [go_sem, *]
def oI (w0 w:World) (B:Nat) (d:Bool) (v0 v1 v2:Int):Prop:=
 w0.heap.size<=B/\B<w.heap.size/\w.frozen? ⟨B,0,none⟩=false/\w.frozen? ⟨B,1,none⟩=false/\w.frozen? ⟨B,2,none⟩=false/\∃x0 x1 x2,w.cell? ⟨B,0,none⟩=some x0/\w.cell? ⟨B,1,none⟩=some x1/\w.cell? ⟨B,2,none⟩=some x2/\(d=true->x0= .int .i64 v0/\x1= .int .i64 v1/\x2= .int .i64 v2)
theorem oI.later {w0 w w':World} {B:Nat} {d:Bool} {v0 v1 v2:Int} (hb:Below w.heap.size w w') (h:oI w0 w B d v0 v1 v2):oI w0 w' B d v0 v1 v2:=by
 obtain ⟨h1,h2,f0,f1,f2,x0,x1,x2,c0,c1,c2,h7⟩:=h
 exact ⟨h1,Nat.lt_of_lt_of_le h2 hb.size,(hb.frozen (p:=⟨B,0,none⟩) h2).trans f0,(hb.frozen (p:=⟨B,1,none⟩) h2).trans f1,(hb.frozen (p:=⟨B,2,none⟩) h2).trans f2,x0,x1,x2,(hb.cell (p:=⟨B,0,none⟩) h2).trans c0,(hb.cell (p:=⟨B,1,none⟩) h2).trans c1,(hb.cell (p:=⟨B,2,none⟩) h2).trans c2,h7⟩
theorem oI.alloc {w0 w:World} (h:Below w0.heap.size w0 w) (x0 x1 x2:Value) (t:Nat) (d:Bool) (v0 v1 v2:Int) (hd:d=true->false=true):oI w0 (w.alloc (Obj.cells #[x0,x1,x2] t)) w.heap.size d v0 v1 v2:=by
 refine ⟨h.size,by simp [go_sem],by simp [go_sem],by simp [go_sem],by simp [go_sem],x0,x1,x2,by simp [go_sem],by simp [go_sem],by simp [go_sem],fun e=> ?_⟩
 have:=hd e
 cases this
theorem oI.store {w0 w:World} {B:Nat} {d:Bool} {v0 v1 v2:Int} (u0 u1 u2:Int) (h:oI w0 w B d v0 v1 v2) (d':Bool):oI w0 (((w.setCell ⟨B,0,none⟩ (.int .i64 u0)).setCell ⟨B,1,none⟩ (.int .i64 u1)).setCell ⟨B,2,none⟩ (.int .i64 u2)) B d' u0 u1 u2:=by
 obtain ⟨h1,h2,f0,f1,f2,x0,x1,x2,c0,c1,c2,h7⟩:=h
 refine ⟨h1,by simpa using h2,by simpa using f0,by simpa using f1,by simpa using f2,.int .i64 u0,.int .i64 u1,.int .i64 u2,?_,?_,?_,fun _=>⟨rfl,rfl,rfl⟩⟩
 ·simp [go_sem, *]
 ·simp [go_sem, *]
 ·simp [go_sem, *]
def fW (W v:World) (row:Option Nat):Prop:=W.heap.size<=v.heap.size/\∀k,k<W.heap.size->some k≠row->v.heap[k]? =W.heap[k]?
theorem fW.refl (W:World) (row:Option Nat):fW W W row:=⟨Nat.le_refl _,fun _ _ _=>rfl⟩
theorem fW.below {W v v':World} {row:Option Nat} (hb:Below v.heap.size v v') (h:fW W v row):fW W v' row:=
 ⟨Nat.le_trans h.1 hb.size,fun k hk hn=>(hb.block k (Nat.lt_of_lt_of_le hk h.1)).trans (h.2 k hk hn)⟩
theorem fW.grown {W v v':World} {row:Option Nat} (hg:v.grownBy v' row) (h:fW W v row):fW W v' row:=
 ⟨Nat.le_trans h.1 hg.size,fun k hk hn=>(hg.block k (Nat.lt_of_lt_of_le hk h.1) hn).trans (h.2 k hk hn)⟩
theorem fW.cell {W v:World} {row:Option Nat} {k o:Nat} {x:Value} (h:fW W v row) (hn:some k≠row) (hc:W.cell? ⟨k,o,none⟩=some x):v.cell? ⟨k,o,none⟩=some x:=
 (World.cell?_of_block (a:=⟨k,o,none⟩) (h.2 k (World.block_lt_of_cell? _ _ hc) hn)).trans hc
theorem L8.apart {w0 w:World} {B B':Nat} {d:Bool} {v0 v1:Int} (h:L8 w0 w B d v0 v1) (hne:B≠B') (u0 u1:Value):L8 w0 ((w.setCell ⟨B',0,none⟩ u0).setCell ⟨B',1,none⟩ u1) B d v0 v1:=by
 obtain ⟨h1,h2,f0,f1,x0,x1,c0,c1,h7⟩:=h
 refine ⟨h1,by simpa using h2,by simpa using f0,by simpa using f1,x0,x1,?_,?_,h7⟩
 ·simp [go_sem, *]
 ·simp [go_sem, *]
def dF (w0 w:World) (B:Nat) (d:Bool) (v0 v1 v2 v3:Int):Prop:=
 w0.heap.size<=B/\B<w.heap.size/\w.frozen? ⟨B,0,none⟩=false/\w.frozen? ⟨B,1,none⟩=false/\w.frozen? ⟨B,2,none⟩=false/\w.frozen? ⟨B,3,none⟩=false/\∃x0 x1 x2 x3,w.cell? ⟨B,0,none⟩=some x0/\w.cell? ⟨B,1,none⟩=some x1/\w.cell? ⟨B,2,none⟩=some x2/\w.cell? ⟨B,3,none⟩=some x3/\(d=true->x0= .int .i64 v0/\x1= .int .i64 v1/\x2= .int .i64 v2/\x3= .int .i64 v3)
theorem dF.later {w0 w w':World} {B:Nat} {d:Bool} {v0 v1 v2 v3:Int} (hb:Below w.heap.size w w') (h:dF w0 w B d v0 v1 v2 v3):dF w0 w' B d v0 v1 v2 v3:=by
 obtain ⟨h1,h2,f0,f1,f2,f3,x0,x1,x2,x3,c0,c1,c2,c3,h7⟩:=h
 exact ⟨h1,Nat.lt_of_lt_of_le h2 hb.size,(hb.frozen (p:=⟨B,0,none⟩) h2).trans f0,(hb.frozen (p:=⟨B,1,none⟩) h2).trans f1,(hb.frozen (p:=⟨B,2,none⟩) h2).trans f2,(hb.frozen (p:=⟨B,3,none⟩) h2).trans f3,x0,x1,x2,x3,(hb.cell (p:=⟨B,0,none⟩) h2).trans c0,(hb.cell (p:=⟨B,1,none⟩) h2).trans c1,(hb.cell (p:=⟨B,2,none⟩) h2).trans c2,(hb.cell (p:=⟨B,3,none⟩) h2).trans c3,h7⟩
theorem dF.alloc {w0 w:World} (h:Below w0.heap.size w0 w) (x0 x1 x2 x3:Value) (t:Nat) (d:Bool) (v0 v1 v2 v3:Int) (hd:d=true->false=true):dF w0 (w.alloc (Obj.cells #[x0,x1,x2,x3] t)) w.heap.size d v0 v1 v2 v3:=by
 refine ⟨h.size,by simp [go_sem],by simp [go_sem],by simp [go_sem],by simp [go_sem],by simp [go_sem],x0,x1,x2,x3,by simp [go_sem],by simp [go_sem],by simp [go_sem],by simp [go_sem],fun e=> ?_⟩
 have:=hd e
 cases this
theorem dF.store {w0 w:World} {B:Nat} {d:Bool} {v0 v1 v2 v3:Int} (u0 u1 u2 u3:Int) (h:dF w0 w B d v0 v1 v2 v3) (d':Bool):dF w0 ((((w.setCell ⟨B,0,none⟩ (.int .i64 u0)).setCell ⟨B,1,none⟩ (.int .i64 u1)).setCell ⟨B,2,none⟩ (.int .i64 u2)).setCell ⟨B,3,none⟩ (.int .i64 u3)) B d' u0 u1 u2 u3:=by
 obtain ⟨h1,h2,f0,f1,f2,f3,x0,x1,x2,x3,c0,c1,c2,c3,h7⟩:=h
 refine ⟨h1,by simpa using h2,by simpa using f0,by simpa using f1,by simpa using f2,by simpa using f3,.int .i64 u0,.int .i64 u1,.int .i64 u2,.int .i64 u3,?_,?_,?_,?_,fun _=>⟨rfl,rfl,rfl,rfl⟩⟩
 ·simp [go_sem, *]
 ·simp [go_sem, *]
 ·simp [go_sem, *]
 ·simp [go_sem, *]
theorem GW (op:BinOp) (x y:Operand) (xs ys:Array Value) (w:World):(eqGuard op 23 x y (.agg xs) (.agg ys)).run Tryz.prog w= .ok () w:=run_eqGuard_agg w op 23 x y xs ys (by kernel_rfl)
theorem oR (x0 x1 y0 y1:Int) (w:World):(binOp .eql 23 (.agg #[.int .i64 x0,.int .i64 x1]) (.agg #[.int .i64 y0,.int .i64 y1])).run Tryz.prog w= .ok (.bool (x0==y0&&x1==y1)) w:=by
 have s:Tryz.prog.stoodInHeld 23=false:=by kernel_rfl
 simp [go_sem,Tryz.underlying23,s]
 by_cases h0:x0=y0<;>by_cases h1:x1=y1<;>simp [*]
theorem a0p (op:BinOp) (x y:Operand) (xs ys:Array Value) (w:World):(eqGuard op 180 x y (.agg xs) (.agg ys)).run Tryz.prog w= .ok () w:=run_eqGuard_agg w op 180 x y xs ys (by kernel_rfl)
theorem YU (x0 x1 x2 y0 y1 y2:Int) (w:World):(binOp .neq 180 (.agg #[.int .i64 x0,.int .i64 x1,.int .i64 x2]) (.agg #[.int .i64 y0,.int .i64 y1,.int .i64 y2])).run Tryz.prog w= .ok (.bool (!(x0==y0&&x1==y1&&x2==y2))) w:=by
 have s:Tryz.prog.stoodInHeld 180=false:=by kernel_rfl
 simp [go_sem,Tryz.underlying180,s]
 by_cases h0:x0=y0<;>by_cases h1:x1=y1<;>by_cases h2:x2=y2<;>simp [*]
open Go.RowKit Go.Sort
section
variable {P:Program} {ops:Array Oper} {md:Region.Mode} {C:World->Prop}
def lC (P:Program) (md:Region.Mode) (ops:Array Oper) (C:World->Prop) (n:Nat) (L:Array Bool->Act->Prop):Nat->Array Bool->Act->Prop
 |0,listed,a=>L listed a
 |f+1,listed,a=>Region.ready md ops listed≠[]/\∀i∈Region.ready md ops listed,i<n/\qOp P ops C i (lC P md ops C n L f (listed.setIfInBounds i true)) a
theorem gC {n g:Nat} {L:Array Bool->Act->Prop} {Q':Exit->Act->World->Prop} (hL:∀listed a w,C w->L listed a->wpAny P md ops Q' g listed a w):
  ∀(f:Nat) (listed:Array Bool) (a:Act) (w:World),C w->lC P md ops C n L f listed a->wpAny P md ops Q' (f+g) listed a w
 |0,listed,a,w,hw,h=>by rw [Nat.zero_add];exact hL _ _ _ hw h
 |f+1,listed,a,w,hw,h=>by
  rw [show f+1+g=(f+g)+1 by omega]
  exact ⟨fun h0=>absurd h0 h.1,fun i hi=>wpOp_of_qOp hw (fun a' w' hw' h'=>gC hL f _ a' w' hw' h') (h.2 i hi).2⟩
theorem rY {n i:Nat} {oi:Oper} {v:Value} {L:Array Bool->Act->Prop} (hi:ops[i]? =some oi) (hsel:∀(j:Nat) (o:Oper) cs b,ops[j]? =some o->o.op≠.select cs b)
  (hs:Region.sinkB md ops n=true) (hc:Region.chainB md ops n=true) (hn:n<ops.size) (hin:i<n)
  (hdone:∀listed a,L listed a->∀j∈Region.ready md ops listed,n<=j):
  ∀(f:Nat) (listed:Array Bool) (a:Act),HeadInv md ops n listed->
   (∀j oj,ops[j]? =some oj->j≠i->listed.getD j true=false->(∀e∈oj.after,Region.binds md e=true->e.on≠i)->oi.apart ops oj=true)->
   i∈Region.ready md ops listed->YieldsIn P ops C oi v a->
   lC P md ops C n L f (listed.setIfInBounds i true) (a.put oi.dst v)->lC P md ops C n L (f+1) listed a:=by
 intro f
 induction f with
 |zero=>
  intro listed a inv _ hr hy H
  have hun:=(mem_ready.1 hr).1
  refine ⟨fun h=>(by rw [h] at hr;cases hr),fun j hj=> ?_⟩
  have hjn:j<n:=by
   rcases Nat.lt_or_ge j n with h|h
   ·exact h
   ·exact absurd hj (tail_waits hs hc hn inv _ i rfl hin hun j h)
  refine ⟨hjn,?_⟩
  by_cases hji:j=i
  ·subst hji;exact hy.qOp hi H
  ·have:=hdone _ _ H j (ready_mono hj hji)
   omega
 |succ f ih=>
  intro listed a inv hfree hr hy H
  have hun:=(mem_ready.1 hr).1
  refine ⟨fun h=>(by rw [h] at hr;cases hr),fun j hj=> ?_⟩
  have hjn:j<n:=by
   rcases Nat.lt_or_ge j n with h|h
   ·exact h
   ·exact absurd hj (tail_waits hs hc hn inv _ i rfl hin hun j h)
  refine ⟨hjn,?_⟩
  by_cases hji:j=i
  ·subst hji;exact hy.qOp hi H
  ·have h1:=(H.2 j (ready_mono hj hji)).2
   obtain ⟨hjun,oj,hoj,hall⟩:=mem_ready.1 hj
   have hnot:∀e∈oj.after,Region.binds md e=true->e.on≠i:=fun e he hb heq=>by
    have h1:=hall e he hb
    rw [heq,getD_both hun] at h1
    cases h1
   have h2:=qOp_put hoj (hfree j oj hoj hji hjun hnot) (fun cs b=>hsel i oi cs b hi) (fun cs b=>hsel j oj cs b hoj) hy h1
   have hfree':∀k ok,ops[k]? =some ok->k≠i->(listed.setIfInBounds j true).getD k true=false->
     (∀e∈ok.after,Region.binds md e=true->e.on≠i)->oi.apart ops ok=true:=fun k ok hk hki hun hno=>by
    refine hfree k ok hk hki ?_ hno
    by_cases hjk:j=k
    ·subst hjk;exact hjun
    ·rw [getD_set_ne true hjk] at hun;exact hun
   refine qOp_mono (fun a' h3=>ih (listed.setIfInBounds j true) a' (inv.set hj hjn) hfree' (ready_mono hr (Ne.symm hji)) h3.1 ?_) h2
   rw [Array.setIfInBounds_comm _ _ hji]
   exact h3.2
theorem oF {n g:Nat} {Lq:Act->Prop} (hsel:Region.noSelect ops=true) (hs:Region.sinkB md ops n=true) (hc:Region.chainB md ops n=true) (hn:n<ops.size):
  ∀(l:List Oper) (k:Nat) (listed:Array Bool) (a:Act),(∀j,j<l.length->l[j]? =ops[k+j]?)->k+l.length=n->HeadInv md ops n listed->
  Region.lexHead md ops g l.length k listed=true->wpQuiet P ops C Lq l a->
  lC P md ops C n (fun listed' a'=>Region.seqB md ops g n listed'=true/\Lq a') l.length listed a
 |[],k,listed,a,_,hk,_,hB,h=>by
  have:k=n:=by simpa using hk
  subst this
  exact ⟨by simpa [Region.lexHead] using hB,h⟩
 |o :: l,k,listed,a,hl,hk,inv,hB,h=>by
  have h0:ops[k]? =some o:=by simpa using (hl 0 (by simp)).symm
  simp only [List.length_cons,Region.lexHead,Bool.and_eq_true] at hB
  obtain ⟨⟨hr,hf⟩,hB'⟩:=hB
  have hkn:k<n:=by simp only [List.length_cons] at hk;omega
  have hr':k∈Region.ready md ops listed:=by simpa using hr
  have hst:qOp P ops C k (wpQuiet P ops C Lq l) a:=by unfold qOp;simp only [h0];exact h
  obtain ⟨v,hy,hK⟩:=yieldsIn_of_qOp h0 hst
  exact rY h0 (Region.noSelect_spec hsel) hs hc hn hkn (fun listed' a' hL=>seqB_ready hL.1) l.length listed a inv (Region.free_spec h0 hf) hr' hy
   (oF hsel hs hc hn l (k+1) _ _ (fun j hj=>by have:=hl (j+1) (by simp;omega);simpa [Nat.add_assoc,Nat.add_comm 1 j] using this) (by simp only [List.length_cons] at hk;omega) (inv.set hr' hkn) hB' hK)
end
theorem n9 {P:Program} {id:Nat} {Q:Exit->Act->World->Prop} {a:Act} {w:World} {l:List Oper} (n:Nat) (hm:P.follows .mixedOrders=true) (hB:Region.lexTailB .any l.toArray n=true)
  (h:wpQuiet P l.toArray (fun w'=>∃p:Regrown,w'=grow (redrawn w p.d) p.os) (fun a'=>∀w',(∃p:Regrown,w'=grow (redrawn w p.d) p.os)->wpList P l.toArray Q (l.drop n) a' w') (l.take n) a):(Code.region id l.toArray true).wp P Q a w:=by
 simp only [Region.lexTailB,Bool.and_eq_true,decide_eq_true_eq] at hB
 obtain ⟨⟨⟨⟨hsel,hn⟩,hs⟩,hc⟩,hlex⟩:=hB
 have hn':n<l.length:=by simpa using hn
 have htl:(l.take n).length=n:=by simp;omega
 have hdl:(l.drop n).length=l.toArray.size-n:=by simp
 have inv0:HeadInv .any l.toArray n (Array.replicate l.toArray.size false):=
  ⟨by simp,fun j oj _ hl=>(by rw [getD_replicate_false] at hl;cases hl),fun t _ ht=>getD_in (by simpa using ht) (getD_replicate_false _ _)⟩
 have H:=oF (md:= .any) (g:=l.toArray.size-n) hsel hs hc hn (l.take n) 0 _ a (fun j hj=>by
  have hj':j<n:=by rw [htl] at hj;exact hj
  simp [hj']) (by simpa using htl) inv0 (by rw [htl];exact hlex) h
 refine wp_region_any hm ?_
 have:=gC (Q':=Q) (g:=l.toArray.size-n) (C:=fun w'=>∃p:Regrown,w'=grow (redrawn w p.d) p.os) (fun listed a' w' hw' hL=>by
  have:=wpAny_of_seq (md:= .any) (Q':=Q) (l.drop n) n listed a' w' (fun j=>by simp [List.getElem?_drop]) (by rw [hdl];exact hL.1) (hL.2 w' hw')
  rwa [hdl] at this) _ _ _ {w with drawn:=w.drawn+1} ⟨⟨w.drawn+1,#[]⟩,by rw [grow_empty];rfl⟩ H
 rw [htl,show n+(l.toArray.size-n)=l.toArray.size by omega] at this
 exact this
theorem D9 {w:World} {b i:Nat} {v:Value} (h:w.cell? ⟨b,i,none⟩=some v):w.setCell ⟨b,i,none⟩ v=w:=by
 unfold World.setCell
 cases w with
 |mk heap tape drawn os output=>
  simp only [World.mk.injEq,and_true]
  apply Array.ext
  ·simp
  ·intro k h1 h2
   simp only [Array.getElem_modify]
   split
   ·rename_i e
    subst e
    have hk:heap[b]? =some heap[b]:=by simp
    simp only [World.cell?,hk] at h
    cases hc:heap[b] with
    |cells c t f=>
     rw [hc] at h
     simp at h
     show Obj.cells (c.setIfInBounds i v) t f=Obj.cells c t f
     congr 1
     apply Array.ext_getElem?
     intro j
     rw [Array.getElem?_setIfInBounds]
     split
     ·rename_i e2
      subst e2
      split
      ·exact h.symm
      ·rename_i e3
       simp only [Array.getElem?_eq_none (Nat.le_of_not_lt e3)] at h
       cases h
     ·rfl
    |_=>rfl
   ·rfl
end Go.Proofs.YtdhbeoahpfimbaaGreat
