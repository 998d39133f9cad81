/- Part of the proof of TopDistances. -/
import Derived.Test.YtdhbeoahpfimbaaGreatPx
namespace Go.Proofs.YtdhbeoahpfimbaaGreat
open Go.RowKit
theorem II (x0 x1 y0 y1:Int) (w:World):(binOp .eql 49 (.agg #[.int .i64 x0,.int .i64 x1]) (.agg #[.int .i64 y0,.int .i64 y1])).run Tryz.prog w= .ok (.bool (x0==y0&&x1==y1)) w:=by
 have s:Tryz.prog.stoodInHeld 49=false:=by kernel_rfl
 simp [go_sem,Tryz.underlying49,s]
 by_cases h0:x0=y0<;>by_cases h1:x1=y1<;>simp [*]
set_option maxRecDepth 100000 in
set_option maxHeartbeats 8000000 in
theorem YN (a b c d:Int) (B cp:Nat) (w:World) (hne:(c==a&&d==b)=false) (h0:w.cell? ⟨B,0,none⟩=some (.int .i64 a)) (h1:w.cell? ⟨B,1,none⟩=some (.int .i64 b)) (h2:w.cell? ⟨B,2,none⟩=some (.int .i64 c)) (h3:w.cell? ⟨B,3,none⟩=some (.int .i64 d)):
  Calls Tryz.prog 165 #[.slice (some ⟨B,0,none⟩) 2 cp] w fun e w'=>e= .returned (.slice (some ⟨B,0,none⟩) 2 cp)/\Below w.heap.size w w':=by
 have EQ:=fun w=>II c d a b w
 rw [hne] at EQ
 clear hne
 have gB:B<w.heap.size:=World.block_lt_of_cell? _ _ h0
 go_enter Tryz.func165,Tryz.ntmps165
 go_wp2
 refine wp_loop_rounds 2 ?_
 rw [rounds_succ]
 go_wp2
 go_region
 go_wp2
 rw [rounds_succ]
 go_wp2
 go_ret
 exact ⟨rfl,bw⟩
theorem ZR (B cp:Nat) (ty:TypeId) (w:World) (x y:Value) (h2:w.cell? ⟨B,2,none⟩=some x) (h3:w.cell? ⟨B,3,none⟩=some y) (hf:∀o,w.frozen? ⟨B,o,none⟩=false):
  (Builtin.clear_ #[132] ty #[.slice (some ⟨B,2,none⟩) 1 cp]).run Tryz.prog w= .ok (.tuple #[]) ((w.setCell ⟨B,2,none⟩ (.int .i64 0)).setCell ⟨B,3,none⟩ (.int .i64 0)):=by
 have z:∀w,(zeroValue 49).run Tryz.prog w= .ok (.agg #[.int .i64 0,.int .i64 0]) w:=fun w=>by kernel_rfl
 have zc:(Builtin.zeroCells #[Value.int .i64 0,Value.int .i64 0] 1).toList=[.int .i64 0,.int .i64 0]:=by simp [Builtin.zeroCells];rfl
 have st:=run_storeCells_cells (P:=Tryz.prog) B 2 [.int .i64 0,.int .i64 0] 0 w (by
  intro j hj
  match j,hj with
  |0,_=>simp [h2]
  |1,_=>simp [h3]
  |n+2,hj=>exact absurd hj (by simp)) (by intro j hj;exact hf _) (by intro v hv;simp at hv;subst hv;rfl)
 have ws:w.setCells B 2 [.int .i64 0,.int .i64 0]=(w.setCell ⟨B,2,none⟩ (.int .i64 0)).setCell ⟨B,3,none⟩ (.int .i64 0):=by simp [World.setCells,go_sem]
 simp only [Nat.add_zero,ws] at st
 simp [Builtin.clear_,run_underlying Tryz.underlying132,z,go_sem]
 rw [zc,st]
 rfl
set_option maxRecDepth 100000 in
set_option maxHeartbeats 8000000 in
theorem a0w (a b:Int) (B cp:Nat) (w:World) (hc:2<=cp) (h0:w.cell? ⟨B,0,none⟩=some (.int .i64 a)) (h1:w.cell? ⟨B,1,none⟩=some (.int .i64 b)) (h2:w.cell? ⟨B,2,none⟩=some (.int .i64 a)) (h3:w.cell? ⟨B,3,none⟩=some (.int .i64 b)) (hf:∀o,w.frozen? ⟨B,o,none⟩=false):
  Calls Tryz.prog 165 #[.slice (some ⟨B,0,none⟩) 2 cp] w fun e w'=>e= .returned (.slice (some ⟨B,0,none⟩) 1 cp)/\(w'.cell? ⟨B,0,none⟩=some (.int .i64 a)/\w'.cell? ⟨B,1,none⟩=some (.int .i64 b))/\∀N,N<=B->Below N w w':=by
 have EQ:=fun w=>II a b a b w
 have CL:=fun ty w h2 h3 hf=>ZR B (cp-1) ty w (.int .i64 a) (.int .i64 b) h2 h3 hf
 have gB:B<w.heap.size:=World.block_lt_of_cell? _ _ h0
 go_enter Tryz.func165,Tryz.ntmps165
 go_wp2
 refine wp_loop_rounds 2 ?_
 rw [rounds_succ]
 go_wp2
 go_region
 go_wp2
 refine wp_loop_rounds 1 ?_
 rw [rounds_succ]
 go_wp2
 go_ret
 exact ⟨rfl,⟨by simp [go_sem, *],by simp [go_sem, *]⟩,fun N hN=>bw⟩
theorem tK (n:Nat) (la lo lb lob:Int) (w:World) (pa:W7 la lo) (pb:W7 lb lob) (hd: -10200000<=aZ (lob-lo)/\aZ (lob-lo)<=10200000) (hn:(n=2/\(lb==la&&lob==lo)=false)\/(n=1/\lb=la/\lob=lo)):
  Calls Tryz.prog 86 #[.agg #[.int .i64 la,.int .i64 lo],.agg #[.int .i64 lb,.int .i64 lob],.int .i64 5399999] w (IA n la lo lb lob w):=by
 obtain ⟨s,hs⟩:∃s,max (aZ (lob-lo)) (-aZ (lob-lo))=s:=⟨_,rfl⟩
 have X:=mV la pa.1
 have Y:=mV lb pb.1
 refine EO la lo lb lob (aZ (lob-lo)) s (rX la).1 (rX la).2 (rX lb).1 (rX lb).2 n w pa pb (by omega) (fun _=>hs) X.2.2 Y.2.2 (by omega) (pO la pa.1) (pO lb pb.1) (b6 fun w=> ?_) (b6 ?_)
 ·unfold W7 at pa pb
  exact (qA (lob-lo) _ w (by omega) (by omega) rfl).mono fun e w' h=>⟨h.1,by rw [<-h.2];exact Below.refl _ _⟩
 ·intro g cp w hc h0 h1 h2 h3 hf
  rcases hn with ⟨rfl,hne⟩|⟨rfl,rfl,rfl⟩
  ·refine (YN la lo lb lob g cp w hne h0 h1 h2 h3).mono ?_
   rintro e w' ⟨rfl,hb⟩
   have gg:=World.block_lt_of_cell? _ _ h0
   exact ⟨rfl,⟨⟨cell_later hb h0,cell_later hb h1⟩,fun _=>⟨cell_later hb h2,cell_later hb h3⟩⟩,fun N hN=>hb.mono (Nat.le_of_lt (Nat.lt_of_le_of_lt hN gg))⟩
  ·refine (a0w lb lob g cp w hc h0 h1 h2 h3 hf).mono ?_
   rintro e w' ⟨rfl,hq,hb⟩
   exact ⟨rfl,⟨hq,fun h=>absurd h (by decide)⟩,hb⟩
set_option maxRecDepth 100000 in
set_option maxHeartbeats 8000000 in
theorem NJ (la lo lb lob:Int) (w:World) (pa:W7 la lo) (PL:Hid (∀w,Calls Tryz.prog 86 #[.agg #[.int .i64 la,.int .i64 lo],.agg #[.int .i64 lb,.int .i64 lob],.int .i64 5399999] w (IA 1 la lo lb lob w))):
  Calls Tryz.prog 26 #[.agg #[.int .i64 la,.int .i64 lo],.agg #[.int .i64 lb,.int .i64 lob],.int .i64 5399999] w fun e w'=>e= .returned (.tuple #[.agg #[.int .i64 0,.int .i64 0],.int .i64 0])/\Below w.heap.size w w':=by
 have LG:=b6 fun B cp w h0 h1=>KZ la lo B cp w pa h0 h1
 clear pa
 go_enter Tryz.func26,Tryz.ntmps26
 go_wp2_with (first|(go_at_call 86;((with_reducible refine (PL.out _).mono ?_);rintro e w' ⟨g,cap,rfl,⟨⟨q0,q1⟩,qq⟩,hb⟩);replace hb:=mU;obtain ⟨hcell,hfroz,hz,z6,z7,z8,z9,_⟩:=oH;clear qq;obtain ⟨w1,rfl⟩:=nm w')|(go_at_call 87;((with_reducible refine am (LG.out _ _ _ q0 q1) ?_);intro w' hb);replace hb:=mU;obtain ⟨hcell,hfroz,hz,z6,z7,z8,z9,_⟩:=oH;obtain ⟨w2,rfl⟩:=nm w'))
 refine wp_loop_rounds 1 ?_
 rw [rounds_succ]
 go_wp2
 exact bodyPost_ret (v:= .tuple #[.agg #[.int .i64 0,.int .i64 0],.int .i64 0]) (by first|(simp only [results,Tryz.results26];go_simp;done)|simp [results,Tryz.results26,go_sem, *]) rfl ⟨rfl,bw⟩
set_option maxRecDepth 100000 in
set_option maxHeartbeats 8000000 in
theorem LK (la lo lb lob p q x y:Int) (w:World) (pa:W7 la lo) (pb:W7 lb lob) (PL:Hid (∀w,Calls Tryz.prog 86 #[.agg #[.int .i64 la,.int .i64 lo],.agg #[.int .i64 lb,.int .i64 lob],.int .i64 5399999] w (IA 2 la lo lb lob w)))
  (G:CB 17 #[.agg #[.int .i64 la,.int .i64 lo],.agg #[.int .i64 lb,.int .i64 lob]] (.tuple #[.agg #[.int .i64 p,.int .i64 q,.int .i64 x,.int .i64 y],.int .i64 0])) (AD:CB 42 #[.agg #[.int .i64 0,.int .i64 0],.agg #[.int .i64 x,.int .i64 y]] (.tuple #[.agg #[.int .i64 x,.int .i64 y],.int .i64 0])):
  Calls Tryz.prog 26 #[.agg #[.int .i64 la,.int .i64 lo],.agg #[.int .i64 lb,.int .i64 lob],.int .i64 5399999] w fun e w'=>e= .returned (.tuple #[.agg #[.int .i64 x,.int .i64 y],.int .i64 0])/\Below w.heap.size w w':=by
 have LG:=b6 fun B cp w h0 h1 h2 h3=>LC la lo lb lob p q x y B cp w pa pb h0 h1 h2 h3 G
 unfold CB at AD
 clear pa pb G
 go_enter Tryz.func26,Tryz.ntmps26
 go_upto_region 8 with (first|(go_at_call 86;((with_reducible refine (PL.out _).mono ?_);rintro e w' ⟨g,cap,rfl,⟨⟨q0,q1⟩,qq⟩,hb⟩);(obtain ⟨q2,q3⟩:=qq rfl);replace hb:=mU;obtain ⟨hcell,hfroz,hz,z6,z7,z8,z9,_⟩:=oH;clear qq;obtain ⟨w1,rfl⟩:=nm w')|(go_at_call 87;((with_reducible refine (LG.out _ _ _ q0 q1 q2 q3).mono ?_);rintro e w' ⟨gl,cl,rfl,l0,l1,l2,l3,hb⟩);replace hb:=mU;obtain ⟨hcell,hfroz,hz,z6,z7,z8,z9,_⟩:=oH;obtain ⟨w2,rfl⟩:=nm w'))
 (refine m9 ?_;intro w' hb;replace hb:=mU;obtain ⟨hcell,hfroz,hz,z6,z7,z8,z9,_⟩:=oH)
 have hw0:Below w.heap.size w w':=bw
 have n2:gl<w2.heap.size:=World.block_lt_of_cell? _ _ l0
 have n3:gl<w2.heap.size+1:=by omega
 have l0:=cq w' gl 0 p
 have l1:=cq w' gl 1 q
 have l2:=cq w' gl 2 x
 have l3:=cq w' gl 3 y
 have r0:=cq w' (w.heap.size+1+1) 0 0
 have r1:=cq w' (w.heap.size+1+1) 1 0
 have rf:∀o,w'.frozen? ⟨w.heap.size+1+1,o,none⟩=false:=by intro o;simp [go_sem, *]
 have s0:=cq w' w2.heap.size 0 0
 have s1:=cq w' w2.heap.size 1 0
 have sf:∀o,w'.frozen? ⟨w2.heap.size,o,none⟩=false:=by intro o;simp [go_sem, *]
 have n1:w.heap.size+1+1≠w2.heap.size:=by omega
 clear hcell hfroz hz hb
 obtain ⟨V0,rfl⟩:=nm w'
 have n4:w.heap.size+1+1<V0.heap.size:=World.block_lt_of_cell? _ _ r0
 have n5:w2.heap.size<V0.heap.size:=World.block_lt_of_cell? _ _ s0
 have n6:gl<V0.heap.size:=by omega
 have n7:w.heap.size<w2.heap.size:=by omega
 obtain ⟨BS,hBS⟩:∃k,w2.heap.size=k:=⟨_,rfl⟩
 rw [hBS] at s0 s1 sf n1 n2 n3 n5 n7 ⊢
 clear hBS
 go_wp2
 refine wp_loop_rounds 2 ?_
 rw [rounds_succ]
 go_upto_region 12 with (go_at_call 42;((with_reducible refine am (AD.out _) ?_);intro w' hb);replace hb:=mU;obtain ⟨hcell,hfroz,hz,z6,z7,z8,z9,_⟩:=oH;(have s0:=cq w' BS 0 0);(have s1:=cq w' BS 1 0);(have sf:∀o,w'.frozen? ⟨BS,o,none⟩=false:=by intro o;simp [go_sem, *]);(have r0:=cq w' (w.heap.size+1+1) 0 0);(have r1:=cq w' (w.heap.size+1+1) 1 0);(have rf:∀o,w'.frozen? ⟨w.heap.size+1+1,o,none⟩=false:=by intro o;simp [go_sem, *]);(have hw1:Below V0.heap.size V0 w':=bw);clear hcell hfroz hz hb;obtain ⟨w3,rfl⟩:=nm w')
 have hw2:Below w.heap.size w w3:=Below.trans hw0 (hw1.mono (show w.heap.size<=V0.heap.size by omega))
 have tt:=K4 (x:= .int .i64 x) (y:= .int .i64 y) (i:=0) (j:=1) (by decide) s0 s1
 have r0:=i9 (i:=0) (j:=1) (x:= .int .i64 x) (y:= .int .i64 y) n1 r0
 have r1:=i9 (i:=0) (j:=1) (x:= .int .i64 x) (y:= .int .i64 y) n1 r1
 have rf:∀o,((w3.setCell ⟨BS,0,none⟩ (.int .i64 x)).setCell ⟨BS,1,none⟩ (.int .i64 y)).frozen? ⟨w.heap.size+1+1,o,none⟩=false:=fun o=>by simpa using rf o
 have hw3:=(hw2.setCell (p:=⟨BS,0,none⟩) (Nat.le_of_lt n7) (.int .i64 x)).setCell (p:=⟨BS,1,none⟩) (Nat.le_of_lt n7) (.int .i64 y)
 obtain ⟨s0,s1⟩:=tt
 generalize (w3.setCell ⟨BS,0,none⟩ (.int .i64 x)).setCell ⟨BS,1,none⟩ (.int .i64 y)=V3 at*
 go_wp2
 rw [rounds_succ]
 go_wp2
 exact bodyPost_ret (v:= .tuple #[.agg #[.int .i64 x,.int .i64 y],.int .i64 0]) (by first|(simp only [results,Tryz.results26];go_simp;done)|simp [results,Tryz.results26,go_sem, *]) rfl ⟨rfl,bw⟩
end Go.Proofs.YtdhbeoahpfimbaaGreat
