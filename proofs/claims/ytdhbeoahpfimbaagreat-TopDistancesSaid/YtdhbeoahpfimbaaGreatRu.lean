/- Part of the proof of TopDistances. -/
import Derived.Test.YtdhbeoahpfimbaaGreatPu
import Derived.Test.YtdhbeoahpfimbaaGreatPt
namespace Go.Proofs.YtdhbeoahpfimbaaGreat
open Go.RowKit
set_option maxRecDepth 100000 in
set_option maxHeartbeats 8000000 in
theorem GO (a b c d g h x y p q L H:Int) (B1 B2:Nat) (w:World) (h0:w.cell? ⟨B1,0,none⟩=some (.int .i64 a)) (h1:w.cell? ⟨B1,1,none⟩=some (.int .i64 b)) (h2:w.cell? ⟨B2,0,none⟩=some (.int .i64 c)) (h3:w.cell? ⟨B2,1,none⟩=some (.int .i64 d))
  (P:Hid (∀w,w.cell? ⟨B1,0,none⟩=some (.int .i64 a)->w.cell? ⟨B1,1,none⟩=some (.int .i64 b)->w.cell? ⟨B2,0,none⟩=some (.int .i64 c)->w.cell? ⟨B2,1,none⟩=some (.int .i64 d)->Calls Tryz.prog 197 #[.int .i64 g,.pointer (some ⟨B1,0,none⟩),.pointer (some ⟨B2,0,none⟩)] w fun e w'=>e= .returned (.tuple #[.int .i64 x,.int .i64 y,.int .i64 0])/\Below w.heap.size w w'))
  (Q:Hid (∀w,w.cell? ⟨B1,0,none⟩=some (.int .i64 a)->w.cell? ⟨B1,1,none⟩=some (.int .i64 b)->w.cell? ⟨B2,0,none⟩=some (.int .i64 c)->w.cell? ⟨B2,1,none⟩=some (.int .i64 d)->Calls Tryz.prog 197 #[.int .i64 h,.pointer (some ⟨B1,0,none⟩),.pointer (some ⟨B2,0,none⟩)] w fun e w'=>e= .returned (.tuple #[.int .i64 p,.int .i64 q,.int .i64 0])/\Below w.heap.size w w'))
  (hL:min x p=L) (hH:max y q=H) (V:CB 45 #[.agg #[.int .i64 L,.int .i64 H]] (.bool true)):
  Calls Tryz.prog 196 #[.agg #[.int .i64 g,.int .i64 h],.func (.func 197) #[] #[.pointer (some ⟨B1,0,none⟩),.pointer (some ⟨B2,0,none⟩)]] w fun e w'=>e= .returned (.tuple #[.agg #[.int .i64 L,.int .i64 H],.int .i64 0])/\Below w.heap.size w w':=by
 have hB1:B1<w.heap.size:=World.block_lt_of_cell? _ _ h0
 have hB2:B1<w.heap.size+1:=by omega
 have hB3:B1<w.heap.size+1+1:=by omega
 have hB4:B1<w.heap.size+1+1+1:=by omega
 have kB1:B2<w.heap.size:=World.block_lt_of_cell? _ _ h2
 have kB2:B2<w.heap.size+1:=by omega
 have kB3:B2<w.heap.size+1+1:=by omega
 have kB4:B2<w.heap.size+1+1+1:=by omega
 have m1:min (min x x) p=L:=by omega
 have m2:max (max y y) q=H:=by omega
 go_enter Tryz.func196,Tryz.ntmps196
 have ix0:∀w,(Instr.index 261 (.agg #[.int .i64 g,.int .i64 h]) (.int .i64 0)).run Tryz.prog w= .ok (.int .i64 g) w:=fun w=>by first|rfl|kernel_rfl
 have ix1:∀w,(Instr.index 261 (.agg #[.int .i64 g,.int .i64 h]) (.int .i64 1)).run Tryz.prog w= .ok (.int .i64 h) w:=fun w=>by first|rfl|kernel_rfl
 go_wp2
 refine wp_loop_rounds 3 ?_
 rw [rounds_succ]
 go_wp2_with (go_at_call 197;((with_reducible refine (P.out _ ?hc ?hd ?he ?hf).mono ?_);(case hc=>(simp [go_sem, *];done));(case hd=>(simp [go_sem, *];done));(case he=>(simp [go_sem, *];done));(case hf=>(simp [go_sem, *];done));rintro e w' ⟨rfl,hb⟩);replace hb:=mU;obtain ⟨hcell,hfroz,hz,_⟩:=mB;(try have hB1:B1<w'.heap.size:=by omega);(try have hB2:B2<w'.heap.size:=by omega);(try have hB3:B1<w'.heap.size+1:=by omega);(try have hB4:B2<w'.heap.size+1:=by omega);obtain ⟨w1,rfl⟩:=nm w')
 refine o7 (F:=Code.rounds _ _ _ _ _) ?_
 intro w' hb
 replace hb:=mU;obtain ⟨hcell,hfroz,hz,_⟩:=mB;(try have hB1:B1<w'.heap.size:=by omega);(try have hB2:B2<w'.heap.size:=by omega);(try have hB3:B1<w'.heap.size+1:=by omega);(try have hB4:B2<w'.heap.size+1:=by omega)
 have e0:=cq w1 (w.heap.size+1+1) 0 0
 have e1:=cq w1 (w.heap.size+1+1) 1 0
 have tw:=qG (.int .i64 x) (.int .i64 y) (.int .i64 x) (.int .i64 y) e0 e1
 have gz:w.heap.size+1+1<w1.heap.size:=World.block_lt_of_cell? _ _ e0
 have o0:w'.cell? ⟨w.heap.size+1+1,0,none⟩=some (.int .i64 x):=cell_later hb tw.1
 have o1:w'.cell? ⟨w.heap.size+1+1,1,none⟩=some (.int .i64 y):=cell_later hb tw.2
 have of:∀o,w'.frozen? ⟨w.heap.size+1+1,o,none⟩=false:=by intro o;simp [go_sem, *]
 have p0:=cq w' w.heap.size 0 g
 have p1:=cq w' w.heap.size 1 h
 have r0:=cq w' (w.heap.size+1) 0 0
 have r1:=cq w' (w.heap.size+1) 1 0
 have rf:∀o,w'.frozen? ⟨w.heap.size+1,o,none⟩=false:=by intro o;simp [go_sem, *]
 have hw0:Below w.heap.size w w':=bv
 have c0:w'.cell? ⟨B1,0,none⟩=some (.int .i64 a):=cell_later hw0 h0
 have c1:w'.cell? ⟨B1,1,none⟩=some (.int .i64 b):=cell_later hw0 h1
 have c2:w'.cell? ⟨B2,0,none⟩=some (.int .i64 c):=cell_later hw0 h2
 have c3:w'.cell? ⟨B2,1,none⟩=some (.int .i64 d):=cell_later hw0 h3
 clear hcell hfroz hz hb e0 e1 tw gz h0 h1 h2 h3
 obtain ⟨V0,rfl⟩:=nm w'
 have g2:w.heap.size+1+1<V0.heap.size:=World.block_lt_of_cell? _ _ o0
 have g1:w.heap.size+1<V0.heap.size:=by omega
 have g0:w.heap.size<V0.heap.size:=by omega
 have hB1:B1<V0.heap.size:=by omega
 have kB1:B2<V0.heap.size:=by omega
 rw [rounds_succ]
 go_wp2_with (go_at_call 197;((with_reducible refine (Q.out _ ?hc ?hd ?he ?hf).mono ?_);(case hc=>(simp [go_sem, *];done));(case hd=>(simp [go_sem, *];done));(case he=>(simp [go_sem, *];done));(case hf=>(simp [go_sem, *];done));rintro e w' ⟨rfl,hb⟩);replace hb:=mU;obtain ⟨hcell,hfroz,hz,_⟩:=mB;(try have hB1:B1<w'.heap.size:=by omega);(try have hB2:B2<w'.heap.size:=by omega);(try have hB3:B1<w'.heap.size+1:=by omega);(try have hB4:B2<w'.heap.size+1:=by omega);obtain ⟨w2,rfl⟩:=nm w')
 refine o7 (F:=Code.rounds _ _ _ _ _) ?_
 intro w' hb
 replace hb:=mU;obtain ⟨hcell,hfroz,hz,_⟩:=mB;(try have hB1:B1<w'.heap.size:=by omega);(try have hB2:B2<w'.heap.size:=by omega);(try have hB3:B1<w'.heap.size+1:=by omega);(try have hB4:B2<w'.heap.size+1:=by omega)
 have e0:=cq w2 (w.heap.size+1+1) 0 x
 have e1:=cq w2 (w.heap.size+1+1) 1 y
 have tw:=eT (.int .i64 L) (.int .i64 H) e0 e1
 have k0:w'.cell? ⟨w.heap.size+1+1,0,none⟩=some (.int .i64 L):=cell_later hb tw.1
 have k1:w'.cell? ⟨w.heap.size+1+1,1,none⟩=some (.int .i64 H):=cell_later hb tw.2
 have s0:=cq w' (w.heap.size+1) 0 0
 have s1:=cq w' (w.heap.size+1) 1 0
 have sf:∀o,w'.frozen? ⟨w.heap.size+1,o,none⟩=false:=by intro o;simp [go_sem, *]
 have hw1:Below w.heap.size w w':=bv
 clear hcell hfroz hz hb e0 e1 tw c0 c1 c2 c3 o0 o1 r0 r1 p0 p1 hw0
 obtain ⟨V1,rfl⟩:=nm w'
 have g2:w.heap.size+1+1<V1.heap.size:=World.block_lt_of_cell? _ _ k0
 have g1:w.heap.size+1<V1.heap.size:=by omega
 have g0:w.heap.size<V1.heap.size:=by omega
 rw [rounds_succ]
 go_wp2_with (go_at_call 45;((with_reducible refine am (V.out _) ?_);intro w' hb);replace hb:=mU;obtain ⟨hcell,hfroz,hz,_⟩:=mB;(try have hB1:B1<w'.heap.size:=by omega);(try have hB2:B2<w'.heap.size:=by omega);(try have hB3:B1<w'.heap.size+1:=by omega);(try have hB4:B2<w'.heap.size+1:=by omega);obtain ⟨w3,rfl⟩:=nm w')
 exact bodyPost_ret (v:= .tuple #[.agg #[.int .i64 L,.int .i64 H],.int .i64 0]) (by first|(simp only [results,Tryz.results196];go_simp;done)|simp [results,Tryz.results196,go_sem, *]) rfl ⟨rfl,bw⟩
theorem tE (a b c d n x y:Int) (B1 B2:Nat) (w:World) (h0:w.cell? ⟨B1,0,none⟩=some (.int .i64 a)) (h1:w.cell? ⟨B1,1,none⟩=some (.int .i64 b)) (h2:w.cell? ⟨B2,0,none⟩=some (.int .i64 c)) (h3:w.cell? ⟨B2,1,none⟩=some (.int .i64 d))
  (S:CB 198 #[.agg #[.int .i64 a,.int .i64 b],.agg #[.int .i64 c,.int .i64 d],.int .i64 n] (.tuple #[.int .i64 x,.int .i64 y,.int .i64 0])):
  Calls Tryz.prog 197 #[.int .i64 n,.pointer (some ⟨B1,0,none⟩),.pointer (some ⟨B2,0,none⟩)] w fun e w'=>e= .returned (.tuple #[.int .i64 x,.int .i64 y,.int .i64 0])/\Below w.heap.size w w':=by
 go_enter Tryz.func197,Tryz.ntmps197
 go_wp2_with (go_at_call 198;((with_reducible refine am (S.out _) ?_);intro w' hb);replace hb:=mU;obtain ⟨hcell,hfroz,hz,_⟩:=mB)
 go_ret3
 exact ⟨rfl,bv⟩
theorem ZF (a b:Int) (w:World) (h0:a<=b) (h1: -5400000<=a) (h2:b<=5400000):
  Calls Tryz.prog 195 #[.agg #[.int .i64 a,.int .i64 b]] w fun e w'=>e= .returned (.bool true)/\Below w.heap.size w w':=by
 have V:=b6 fun w=>(by have:=G7 a b w;rw [G8 (by omega)] at this;exact this:Calls Tryz.prog 45 #[.agg #[.int .i64 a,.int .i64 b]] w fun e w'=>e= .returned (.bool true)/\Below w.heap.size w w')
 go_enter Tryz.func195,Tryz.ntmps195
 go_wp2_with (go_at_call 45;((with_reducible refine am (V.out _) ?_);intro w' hb);replace hb:=mU;obtain ⟨hcell,hfroz,hz,_⟩:=mB;obtain ⟨w1,rfl⟩:=nm w')
 go_ret
 exact ⟨rfl,bw⟩
set_option maxRecDepth 100000 in
set_option maxHeartbeats 4000000 in
theorem NE (a b g h x y L H:Int) (w:World) (hx:0<x)
  (LA:CB 195 #[.agg #[.int .i64 a,.int .i64 b]] (.bool true))
  (V:CB 45 #[.agg #[.int .i64 g,.int .i64 h]] (.bool true))
  (C:CB 124 #[.agg #[.int .i64 a,.int .i64 b]] (.tuple #[.agg #[.int .i64 x,.int .i64 y],.int .i64 0]))
  (B:Hid (∀B1 B2 w,w.cell? ⟨B1,0,none⟩=some (.int .i64 1073741824)->w.cell? ⟨B1,1,none⟩=some (.int .i64 1073741824)->w.cell? ⟨B2,0,none⟩=some (.int .i64 x)->w.cell? ⟨B2,1,none⟩=some (.int .i64 y)->
   Calls Tryz.prog 196 #[.agg #[.int .i64 g,.int .i64 h],.func (.func 197) #[] #[.pointer (some ⟨B1,0,none⟩),.pointer (some ⟨B2,0,none⟩)]] w fun e w'=>e= .returned (.tuple #[.agg #[.int .i64 L,.int .i64 H],.int .i64 0])/\Below w.heap.size w w')):
  Calls Tryz.prog 114 #[.agg #[.int .i64 a,.int .i64 b],.agg #[.int .i64 g,.int .i64 h]] w fun e w'=>e= .returned (.tuple #[.agg #[.int .i64 L,.int .i64 H],.int .i64 0])/\Below w.heap.size w w':=by
 have hx2:decide (x<=0)=false:=by simp;omega
 go_enter Tryz.func114,Tryz.ntmps114
 go_wp2_with (first|(go_at_call 195;((with_reducible refine am (LA.out _) ?_);intro w' hb);replace hb:=mU;obtain ⟨hcell,hfroz,hz,_⟩:=mB;obtain ⟨w1,rfl⟩:=nm w')|(go_at_call 45;((with_reducible refine am (V.out _) ?_);intro w' hb);replace hb:=mU;obtain ⟨hcell,hfroz,hz,_⟩:=mB;obtain ⟨w2,rfl⟩:=nm w')|(go_at_call 124;((with_reducible refine am (C.out _) ?_);intro w' hb);replace hb:=mU;obtain ⟨hcell,hfroz,hz,_⟩:=mB;obtain ⟨w3,rfl⟩:=nm w')|(go_at_call 196;((with_reducible refine (B.out _ _ _ ?c1 ?c2 ?c3 ?c4).mono ?_);(case c1=>(simp [go_sem, *];done));(case c2=>(simp [go_sem, *];done));(case c3=>(simp [go_sem, *];done));(case c4=>(simp [go_sem, *];done));rintro e w' ⟨rfl,hb⟩);replace hb:=mU;obtain ⟨hcell,hfroz,hz,_⟩:=mB;obtain ⟨w4,rfl⟩:=nm w'))
 exact bodyPost_ret (v:= .tuple #[.agg #[.int .i64 L,.int .i64 H],.int .i64 0]) (by first|(simp only [results,Tryz.results114];go_simp;done)|simp [results,Tryz.results114,go_sem, *]) rfl ⟨rfl,bw⟩
def fV (W v:World) (B:Nat):Prop:=W.heap.size<=v.heap.size/\(∀k,k<W.heap.size->k≠B->v.heap[k]? =W.heap[k]?)/\v.os=W.os/\v.tape=W.tape/\v.output=W.output
theorem fV.of_below {W v:World} {B:Nat} (h:Below W.heap.size W v):fV W v B:=⟨h.size,fun k hk _=>h.block k hk,h.os,h.tape,h.output⟩
theorem fV.trans_below {W v v':World} {B:Nat} (h:fV W v B) (hb:Below v.heap.size v v'):fV W v' B:=
 ⟨Nat.le_trans h.1 hb.size,fun k hk h1=>(hb.block k (Nat.lt_of_lt_of_le hk h.1)).trans (h.2.1 k hk h1),hb.os.trans h.2.2.1,hb.tape.trans h.2.2.2.1,hb.output.trans h.2.2.2.2⟩
theorem fV.set0 {W v:World} {B:Nat} (h:fV W v B) (i:Nat) (x:Value):fV W (v.setCell ⟨B,i,none⟩ x) B:=
 ⟨by simpa using h.1,fun k hk h1=>(show (v.setCell ⟨B,i,none⟩ x).heap[k]? =v.heap[k]? by unfold World.setCell;simp only [Array.getElem?_modify];rw [if_neg (fun e=>h1 e.symm)]).trans (h.2.1 k hk h1),h.2.2⟩
theorem A5 {w:World} {B i j k:Nat} {x y z:Value} (h1:k≠i) (h2:k≠j) (h:w.cell? ⟨B,k,none⟩=some z):((w.setCell ⟨B,i,none⟩ x).setCell ⟨B,j,none⟩ y).cell? ⟨B,k,none⟩=some z:=by simp [go_sem, *]
theorem K4 {w:World} {B i j:Nat} {x y u v:Value} (h:i≠j) (h1:w.cell? ⟨B,i,none⟩=some u) (h2:w.cell? ⟨B,j,none⟩=some v):((w.setCell ⟨B,i,none⟩ x).setCell ⟨B,j,none⟩ y).cell? ⟨B,i,none⟩=some x/\((w.setCell ⟨B,i,none⟩ x).setCell ⟨B,j,none⟩ y).cell? ⟨B,j,none⟩=some y:=by
 have a:(w.setCell ⟨B,i,none⟩ x).cell? ⟨B,i,none⟩=some x:=by simp [go_sem, *]
 have b:(w.setCell ⟨B,i,none⟩ x).cell? ⟨B,j,none⟩=some v:=by simp [go_sem, *]
 generalize w.setCell ⟨B,i,none⟩ x=W at*
 exact ⟨by simp [go_sem, *],by simp [go_sem, *]⟩
theorem i9 {w:World} {B C i j k:Nat} {x y z:Value} (h:C≠B) (h1:w.cell? ⟨C,k,none⟩=some z):((w.setCell ⟨B,i,none⟩ x).setCell ⟨B,j,none⟩ y).cell? ⟨C,k,none⟩=some z:=by simp [go_sem, *]
theorem fF {w:World} {B i j:Nat} {x y:Value} (h:∀o,w.frozen? ⟨B,o,none⟩=false):∀o,((w.setCell ⟨B,i,none⟩ x).setCell ⟨B,j,none⟩ y).frozen? ⟨B,o,none⟩=false:=fun o=>by simpa using h o
theorem PE (w:World):
  Calls Tryz.prog 194 #[.agg #[.int .i64 0,.int .i64 0,.int .i64 60000,.int .i64 60000]] w fun e w'=>e= .returned (.bool false)/\Below w.heap.size w w':=by
 have V:=b6 fun w=>(by have:=G7 0 0 w;rw [G8 (by omega)] at this;exact this:Calls Tryz.prog 45 #[.agg #[.int .i64 0,.int .i64 0]] w fun e w'=>e= .returned (.bool true)/\Below w.heap.size w w')
 go_enter Tryz.func194,Tryz.ntmps194
 go_wp2_with (go_at_call 45;((with_reducible refine am (V.out _) ?_);intro w' hb);replace hb:=mU;obtain ⟨hcell,hfroz,hz,_⟩:=mB;obtain ⟨w1,rfl⟩:=nm w')
 go_ret
 exact ⟨rfl,bw⟩
theorem a2n (B1:Nat) (w:World) (h0:w.cell? ⟨B1,0,none⟩=some (.int .i64 0)) (h1:w.cell? ⟨B1,1,none⟩=some (.int .i64 0)) (h2:w.cell? ⟨B1,2,none⟩=some (.int .i64 60000)) (h3:w.cell? ⟨B1,3,none⟩=some (.int .i64 60000)):
  Calls Tryz.prog 253 #[.slice (some ⟨B1,0,none⟩) 1 1,.func (.func 194) #[] #[]] w fun e w'=>e= .returned (.int .i64 (-1))/\Below w.heap.size w w':=by
 have R:=b6 PE
 go_enter Tryz.func253,Tryz.ntmps253
 go_wp2
 refine wp_loop_rounds 2 ?_
 rw [rounds_succ]
 go_wp2_with (go_at_call 194;((with_reducible refine am (R.out _) ?_);intro w' hb);replace hb:=mU;obtain ⟨hcell,hfroz,hz,_⟩:=mB;obtain ⟨w1,rfl⟩:=nm w')
 rw [rounds_succ]
 go_wp2
 go_ret
 exact ⟨rfl,bw⟩
theorem YY (B1:Nat) (w:World) (h0:w.cell? ⟨B1,0,none⟩=some (.int .i64 0)) (h1:w.cell? ⟨B1,1,none⟩=some (.int .i64 0)) (h2:w.cell? ⟨B1,2,none⟩=some (.int .i64 60000)) (h3:w.cell? ⟨B1,3,none⟩=some (.int .i64 60000)):
  Calls Tryz.prog 193 #[.slice (some ⟨B1,0,none⟩) 1 1,.func (.func 194) #[] #[]] w fun e w'=>e= .returned (.bool false)/\Below w.heap.size w w':=by
 have R:=b6 (a2n B1 w h0 h1 h2 h3)
 clear h0 h1 h2 h3
 go_enter Tryz.func193,Tryz.ntmps193
 go_wp2_with (go_at_call 253;((with_reducible refine am R.out ?_);intro w' hb);replace hb:=mU;obtain ⟨hcell,hfroz,hz,_⟩:=mB;obtain ⟨w1,rfl⟩:=nm w')
 go_ret
 exact ⟨rfl,bw⟩
theorem LP (B1:Nat) (w:World) (h0:w.cell? ⟨B1,0,none⟩=some (.int .i64 0)) (h1:w.cell? ⟨B1,1,none⟩=some (.int .i64 0)) (h2:w.cell? ⟨B1,2,none⟩=some (.int .i64 60000)) (h3:w.cell? ⟨B1,3,none⟩=some (.int .i64 60000)):
  Calls Tryz.prog 112 #[.slice (some ⟨B1,0,none⟩) 1 1] w fun e w'=>e= .returned (.int .i64 0)/\Below w.heap.size w w':=by
 have R:=b6 (YY B1 w h0 h1 h2 h3)
 clear h0 h1 h2 h3
 go_enter Tryz.func112,Tryz.ntmps112
 go_wp2_with (go_at_call 193;((with_reducible refine am R.out ?_);intro w' hb);replace hb:=mU;obtain ⟨hcell,hfroz,hz,_⟩:=mB;obtain ⟨w1,rfl⟩:=nm w')
 go_ret
 exact ⟨rfl,bw⟩
def a2v (BS:Nat) (w:World) (e:Ending) (w':World):Prop:=e= .returned (.int .i64 0)/\w'.cell? ⟨BS,0,none⟩=some (.int .i64 60000)/\w'.cell? ⟨BS,1,none⟩=some (.int .i64 60000)/\w'.cell? ⟨BS,2,none⟩=some (.int .i64 0)/\w'.cell? ⟨BS,3,none⟩=some (.int .i64 60000)/\w'.cell? ⟨BS,4,none⟩=some (.int .i64 0)/\w'.cell? ⟨BS,5,none⟩=some (.int .i64 0)/\w'.cell? ⟨BS,6,none⟩=some (.int .i64 0)/\w'.cell? ⟨BS,7,none⟩=some (.int .i64 0)/\fV w w' BS
set_option maxRecDepth 100000 in
set_option maxHeartbeats 8000000 in
theorem YL (BS:Nat) (w:World) (s0:w.cell? ⟨BS,0,none⟩=some (.int .i64 0)) (s1:w.cell? ⟨BS,1,none⟩=some (.int .i64 0)) (s2:w.cell? ⟨BS,2,none⟩=some (.int .i64 0)) (s3:w.cell? ⟨BS,3,none⟩=some (.int .i64 0)) (s4:w.cell? ⟨BS,4,none⟩=some (.int .i64 0)) (s5:w.cell? ⟨BS,5,none⟩=some (.int .i64 0)) (s6:w.cell? ⟨BS,6,none⟩=some (.int .i64 0)) (s7:w.cell? ⟨BS,7,none⟩=some (.int .i64 0)) (sf:∀o,w.frozen? ⟨BS,o,none⟩=false)
  (P:CB 44 #[.agg #[.int .i64 0,.int .i64 0,.int .i64 60000,.int .i64 60000]] (.tuple #[.agg #[.int .i64 60000,.int .i64 60000],.agg #[.int .i64 0,.int .i64 0],.int .i64 0])):
  Calls Tryz.prog 113 #[.pointer (some ⟨BS,0,none⟩),.agg #[.int .i64 0,.int .i64 0,.int .i64 60000,.int .i64 60000]] w (a2v BS w):=by
 have gS:BS<w.heap.size:=World.block_lt_of_cell? _ _ s0
 have m1:max (0:Int) 60000=60000:=by decide
 have m2:min (0:Int) 60000=0:=by decide
 have m3:max (0:Int) 0=0:=by decide
 have m4:min (0:Int) 0=0:=by decide
 go_enter Tryz.func113,Tryz.ntmps113
 go_upto_region 4 with (go_at_call 44;((with_reducible refine am (P.out _) ?_);intro w' hb);replace hb:=mU;obtain ⟨hcell,hfroz,hz,_⟩:=mB;obtain ⟨w8,rfl⟩:=nm w')
 (refine m9 ?_;intro w' hb;replace hb:=mU;obtain ⟨hcell,hfroz,hz,_⟩:=mB)
 have hw0:Below w.heap.size w w':=bw
 have d0:=cq w' w8.heap.size 0 60000
 have d1:=cq w' w8.heap.size 1 60000
 have d2:=cq w' (w8.heap.size+1) 0 0
 have d3:=cq w' (w8.heap.size+1) 1 0
 have s0:=cell_later hw0 s0
 have s1:=cell_later hw0 s1
 have s2:=cell_later hw0 s2
 have s3:=cell_later hw0 s3
 have s4:=cell_later hw0 s4
 have s5:=cell_later hw0 s5
 have s6:=cell_later hw0 s6
 have s7:=cell_later hw0 s7
 have sf:∀o,w'.frozen? ⟨BS,o,none⟩=false:=fun o=>(hw0.frozen (p:=⟨BS,o,none⟩) gS).trans (sf o)
 have KS:fV w w' BS:=fV.of_below hw0
 have hne0:w8.heap.size≠BS:=by omega
 have hne1:w8.heap.size+1≠BS:=by omega
 have gS:BS<w'.heap.size:=World.block_lt_of_cell? _ _ s0
 have gD1:w8.heap.size<w'.heap.size:=World.block_lt_of_cell? _ _ d0
 have gD2:w8.heap.size+1<w'.heap.size:=World.block_lt_of_cell? _ _ d2
 clear hcell hfroz hz hb hw0
 obtain ⟨Z0,rfl⟩:=nm w'
 generalize w8.heap.size=BD at*
 refine n9 20 (by kernel_rfl) (by kernel_rfl) ?_
 simp only [List.take_succ_cons,List.take_zero,List.drop_succ_cons,List.drop_zero]
 repeat (first|go_big_quiet_step (fail)|quiet_step (fail))
 refine wpQuiet_nil ?_;intro w' hw';have hb:=i8 hw';clear hw';replace hb:=mU;obtain ⟨hcell,hfroz,hz,_⟩:=mB
 have s0:=cell_later hb s0
 have s1:=cell_later hb s1
 have s2:=cell_later hb s2
 have s3:=cell_later hb s3
 have s4:=cell_later hb s4
 have s5:=cell_later hb s5
 have s6:=cell_later hb s6
 have s7:=cell_later hb s7
 have sf:∀o,w'.frozen? ⟨BS,o,none⟩=false:=fun o=>(hb.frozen (p:=⟨BS,o,none⟩) gS).trans (sf o)
 have d0:=cell_later hb d0
 have d1:=cell_later hb d1
 have d2:=cell_later hb d2
 have d3:=cell_later hb d3
 have hkS:=KS.trans_below hb
 clear KS
 have gS:BS<w'.heap.size:=World.block_lt_of_cell? _ _ s0
 have gD1:BD<w'.heap.size:=World.block_lt_of_cell? _ _ d0
 have gD2:BD+1<w'.heap.size:=World.block_lt_of_cell? _ _ d2
 clear hcell hfroz hz hb
 obtain ⟨w1,rfl⟩:=nm w'
 go_upto_region 5 with fail
 have KS:=(hkS.set0 0 (.int .i64 60000)).set0 1 (.int .i64 60000)
 have s2:=A5 (x:= .int .i64 60000) (y:= .int .i64 60000) (i:=0) (j:=1) (k:=2) (by decide) (by decide) s2
 have s3:=A5 (x:= .int .i64 60000) (y:= .int .i64 60000) (i:=0) (j:=1) (k:=3) (by decide) (by decide) s3
 have s4:=A5 (x:= .int .i64 60000) (y:= .int .i64 60000) (i:=0) (j:=1) (k:=4) (by decide) (by decide) s4
 have s5:=A5 (x:= .int .i64 60000) (y:= .int .i64 60000) (i:=0) (j:=1) (k:=5) (by decide) (by decide) s5
 have s6:=A5 (x:= .int .i64 60000) (y:= .int .i64 60000) (i:=0) (j:=1) (k:=6) (by decide) (by decide) s6
 have s7:=A5 (x:= .int .i64 60000) (y:= .int .i64 60000) (i:=0) (j:=1) (k:=7) (by decide) (by decide) s7
 have tt:=K4 (x:= .int .i64 60000) (y:= .int .i64 60000) (i:=0) (j:=1) (by decide) s0 s1
 have s0:=tt.1
 have s1:=tt.2
 have d0:=i9 (i:=0) (j:=1) (x:= .int .i64 60000) (y:= .int .i64 60000) (hne0) d0
 have d1:=i9 (i:=0) (j:=1) (x:= .int .i64 60000) (y:= .int .i64 60000) (hne0) d1
 have d2:=i9 (i:=0) (j:=1) (x:= .int .i64 60000) (y:= .int .i64 60000) (hne1) d2
 have d3:=i9 (i:=0) (j:=1) (x:= .int .i64 60000) (y:= .int .i64 60000) (hne1) d3
 have sf:=fF (i:=0) (j:=1) (x:= .int .i64 60000) (y:= .int .i64 60000) sf
 clear tt hkS gS gD1 gD2
 generalize ((w1.setCell ⟨BS,0,none⟩ (.int .i64 60000)).setCell ⟨BS,1,none⟩ (.int .i64 60000))=Z1 at*
 have gS:BS<Z1.heap.size:=World.block_lt_of_cell? _ _ s0
 have gD1:BD<Z1.heap.size:=World.block_lt_of_cell? _ _ d0
 have gD2:BD+1<Z1.heap.size:=World.block_lt_of_cell? _ _ d2
 refine n9 26 (by kernel_rfl) (by kernel_rfl) ?_
 simp only [List.take_succ_cons,List.take_zero,List.drop_succ_cons,List.drop_zero]
 repeat (first|go_big_quiet_step (fail)|quiet_step (fail))
 refine wpQuiet_nil ?_;intro w' hw';have hb:=i8 hw';clear hw';replace hb:=mU;obtain ⟨hcell,hfroz,hz,_⟩:=mB
 have s0:=cell_later hb s0
 have s1:=cell_later hb s1
 have s2:=cell_later hb s2
 have s3:=cell_later hb s3
 have s4:=cell_later hb s4
 have s5:=cell_later hb s5
 have s6:=cell_later hb s6
 have s7:=cell_later hb s7
 have sf:∀o,w'.frozen? ⟨BS,o,none⟩=false:=fun o=>(hb.frozen (p:=⟨BS,o,none⟩) gS).trans (sf o)
 have d0:=cell_later hb d0
 have d1:=cell_later hb d1
 have d2:=cell_later hb d2
 have d3:=cell_later hb d3
 have hkS:=KS.trans_below hb
 clear KS
 have gS:BS<w'.heap.size:=World.block_lt_of_cell? _ _ s0
 have gD1:BD<w'.heap.size:=World.block_lt_of_cell? _ _ d0
 have gD2:BD+1<w'.heap.size:=World.block_lt_of_cell? _ _ d2
 clear hcell hfroz hz hb
 obtain ⟨w2,rfl⟩:=nm w'
 go_upto_region 6 with fail
 have KS:=(hkS.set0 2 (.int .i64 0)).set0 3 (.int .i64 60000)
 have s0:=A5 (x:= .int .i64 0) (y:= .int .i64 60000) (i:=2) (j:=3) (k:=0) (by decide) (by decide) s0
 have s1:=A5 (x:= .int .i64 0) (y:= .int .i64 60000) (i:=2) (j:=3) (k:=1) (by decide) (by decide) s1
 have s4:=A5 (x:= .int .i64 0) (y:= .int .i64 60000) (i:=2) (j:=3) (k:=4) (by decide) (by decide) s4
 have s5:=A5 (x:= .int .i64 0) (y:= .int .i64 60000) (i:=2) (j:=3) (k:=5) (by decide) (by decide) s5
 have s6:=A5 (x:= .int .i64 0) (y:= .int .i64 60000) (i:=2) (j:=3) (k:=6) (by decide) (by decide) s6
 have s7:=A5 (x:= .int .i64 0) (y:= .int .i64 60000) (i:=2) (j:=3) (k:=7) (by decide) (by decide) s7
 have tt:=K4 (x:= .int .i64 0) (y:= .int .i64 60000) (i:=2) (j:=3) (by decide) s2 s3
 have s2:=tt.1
 have s3:=tt.2
 have d0:=i9 (i:=2) (j:=3) (x:= .int .i64 0) (y:= .int .i64 60000) (hne0) d0
 have d1:=i9 (i:=2) (j:=3) (x:= .int .i64 0) (y:= .int .i64 60000) (hne0) d1
 have d2:=i9 (i:=2) (j:=3) (x:= .int .i64 0) (y:= .int .i64 60000) (hne1) d2
 have d3:=i9 (i:=2) (j:=3) (x:= .int .i64 0) (y:= .int .i64 60000) (hne1) d3
 have sf:=fF (i:=2) (j:=3) (x:= .int .i64 0) (y:= .int .i64 60000) sf
 clear tt hkS gS gD1 gD2
 generalize ((w2.setCell ⟨BS,2,none⟩ (.int .i64 0)).setCell ⟨BS,3,none⟩ (.int .i64 60000))=Z2 at*
 have gS:BS<Z2.heap.size:=World.block_lt_of_cell? _ _ s0
 have gD1:BD<Z2.heap.size:=World.block_lt_of_cell? _ _ d0
 have gD2:BD+1<Z2.heap.size:=World.block_lt_of_cell? _ _ d2
 refine n9 22 (by kernel_rfl) (by kernel_rfl) ?_
 simp only [List.take_succ_cons,List.take_zero,List.drop_succ_cons,List.drop_zero]
 repeat (first|go_big_quiet_step (fail)|quiet_step (fail))
 refine wpQuiet_nil ?_;intro w' hw';have hb:=i8 hw';clear hw';replace hb:=mU;obtain ⟨hcell,hfroz,hz,_⟩:=mB
 have s0:=cell_later hb s0
 have s1:=cell_later hb s1
 have s2:=cell_later hb s2
 have s3:=cell_later hb s3
 have s4:=cell_later hb s4
 have s5:=cell_later hb s5
 have s6:=cell_later hb s6
 have s7:=cell_later hb s7
 have sf:∀o,w'.frozen? ⟨BS,o,none⟩=false:=fun o=>(hb.frozen (p:=⟨BS,o,none⟩) gS).trans (sf o)
 have d0:=cell_later hb d0
 have d1:=cell_later hb d1
 have d2:=cell_later hb d2
 have d3:=cell_later hb d3
 have hkS:=KS.trans_below hb
 clear KS
 have gS:BS<w'.heap.size:=World.block_lt_of_cell? _ _ s0
 have gD1:BD<w'.heap.size:=World.block_lt_of_cell? _ _ d0
 have gD2:BD+1<w'.heap.size:=World.block_lt_of_cell? _ _ d2
 clear hcell hfroz hz hb
 obtain ⟨w3,rfl⟩:=nm w'
 go_upto_region 7 with fail
 have KS:=(hkS.set0 4 (.int .i64 0)).set0 5 (.int .i64 0)
 have s0:=A5 (x:= .int .i64 0) (y:= .int .i64 0) (i:=4) (j:=5) (k:=0) (by decide) (by decide) s0
 have s1:=A5 (x:= .int .i64 0) (y:= .int .i64 0) (i:=4) (j:=5) (k:=1) (by decide) (by decide) s1
 have s2:=A5 (x:= .int .i64 0) (y:= .int .i64 0) (i:=4) (j:=5) (k:=2) (by decide) (by decide) s2
 have s3:=A5 (x:= .int .i64 0) (y:= .int .i64 0) (i:=4) (j:=5) (k:=3) (by decide) (by decide) s3
 have s6:=A5 (x:= .int .i64 0) (y:= .int .i64 0) (i:=4) (j:=5) (k:=6) (by decide) (by decide) s6
 have s7:=A5 (x:= .int .i64 0) (y:= .int .i64 0) (i:=4) (j:=5) (k:=7) (by decide) (by decide) s7
 have tt:=K4 (x:= .int .i64 0) (y:= .int .i64 0) (i:=4) (j:=5) (by decide) s4 s5
 have s4:=tt.1
 have s5:=tt.2
 have d0:=i9 (i:=4) (j:=5) (x:= .int .i64 0) (y:= .int .i64 0) (hne0) d0
 have d1:=i9 (i:=4) (j:=5) (x:= .int .i64 0) (y:= .int .i64 0) (hne0) d1
 have d2:=i9 (i:=4) (j:=5) (x:= .int .i64 0) (y:= .int .i64 0) (hne1) d2
 have d3:=i9 (i:=4) (j:=5) (x:= .int .i64 0) (y:= .int .i64 0) (hne1) d3
 have sf:=fF (i:=4) (j:=5) (x:= .int .i64 0) (y:= .int .i64 0) sf
 clear tt hkS gS gD1 gD2
 generalize ((w3.setCell ⟨BS,4,none⟩ (.int .i64 0)).setCell ⟨BS,5,none⟩ (.int .i64 0))=Z3 at*
 have gS:BS<Z3.heap.size:=World.block_lt_of_cell? _ _ s0
 have gD1:BD<Z3.heap.size:=World.block_lt_of_cell? _ _ d0
 have gD2:BD+1<Z3.heap.size:=World.block_lt_of_cell? _ _ d2
 refine n9 22 (by kernel_rfl) (by kernel_rfl) ?_
 simp only [List.take_succ_cons,List.take_zero,List.drop_succ_cons,List.drop_zero]
 repeat (first|go_big_quiet_step (fail)|quiet_step (fail))
 refine wpQuiet_nil ?_;intro w' hw';have hb:=i8 hw';clear hw';replace hb:=mU;obtain ⟨hcell,hfroz,hz,_⟩:=mB
 have s0:=cell_later hb s0
 have s1:=cell_later hb s1
 have s2:=cell_later hb s2
 have s3:=cell_later hb s3
 have s4:=cell_later hb s4
 have s5:=cell_later hb s5
 have s6:=cell_later hb s6
 have s7:=cell_later hb s7
 have sf:∀o,w'.frozen? ⟨BS,o,none⟩=false:=fun o=>(hb.frozen (p:=⟨BS,o,none⟩) gS).trans (sf o)
 have d0:=cell_later hb d0
 have d1:=cell_later hb d1
 have d2:=cell_later hb d2
 have d3:=cell_later hb d3
 have hkS:=KS.trans_below hb
 clear KS
 have gS:BS<w'.heap.size:=World.block_lt_of_cell? _ _ s0
 have gD1:BD<w'.heap.size:=World.block_lt_of_cell? _ _ d0
 have gD2:BD+1<w'.heap.size:=World.block_lt_of_cell? _ _ d2
 clear hcell hfroz hz hb
 obtain ⟨w4,rfl⟩:=nm w'
 go_upto_region 8 with fail
 have KS:=(hkS.set0 6 (.int .i64 0)).set0 7 (.int .i64 0)
 have s0:=A5 (x:= .int .i64 0) (y:= .int .i64 0) (i:=6) (j:=7) (k:=0) (by decide) (by decide) s0
 have s1:=A5 (x:= .int .i64 0) (y:= .int .i64 0) (i:=6) (j:=7) (k:=1) (by decide) (by decide) s1
 have s2:=A5 (x:= .int .i64 0) (y:= .int .i64 0) (i:=6) (j:=7) (k:=2) (by decide) (by decide) s2
 have s3:=A5 (x:= .int .i64 0) (y:= .int .i64 0) (i:=6) (j:=7) (k:=3) (by decide) (by decide) s3
 have s4:=A5 (x:= .int .i64 0) (y:= .int .i64 0) (i:=6) (j:=7) (k:=4) (by decide) (by decide) s4
 have s5:=A5 (x:= .int .i64 0) (y:= .int .i64 0) (i:=6) (j:=7) (k:=5) (by decide) (by decide) s5
 have tt:=K4 (x:= .int .i64 0) (y:= .int .i64 0) (i:=6) (j:=7) (by decide) s6 s7
 have s6:=tt.1
 have s7:=tt.2
 have d0:=i9 (i:=6) (j:=7) (x:= .int .i64 0) (y:= .int .i64 0) (hne0) d0
 have d1:=i9 (i:=6) (j:=7) (x:= .int .i64 0) (y:= .int .i64 0) (hne0) d1
 have d2:=i9 (i:=6) (j:=7) (x:= .int .i64 0) (y:= .int .i64 0) (hne1) d2
 have d3:=i9 (i:=6) (j:=7) (x:= .int .i64 0) (y:= .int .i64 0) (hne1) d3
 have sf:=fF (i:=6) (j:=7) (x:= .int .i64 0) (y:= .int .i64 0) sf
 clear tt hkS gS gD1 gD2
 generalize ((w4.setCell ⟨BS,6,none⟩ (.int .i64 0)).setCell ⟨BS,7,none⟩ (.int .i64 0))=Z4 at*
 have gS:BS<Z4.heap.size:=World.block_lt_of_cell? _ _ s0
 have gD1:BD<Z4.heap.size:=World.block_lt_of_cell? _ _ d0
 have gD2:BD+1<Z4.heap.size:=World.block_lt_of_cell? _ _ d2
 go_wp2
 go_ret
 exact ⟨rfl,s0,s1,s2,s3,s4,s5,s6,s7,KS⟩
theorem fV.cell {W v:World} {B k o:Nat} {x:Value} (h:fV W v B) (h1:k≠B) (hc:W.cell? ⟨k,o,none⟩=some x):v.cell? ⟨k,o,none⟩=some x:=
 (World.cell?_of_block (a:=⟨k,o,none⟩) (h.2.1 k (World.block_lt_of_cell? _ _ hc) h1)).trans hc
theorem fV.frozen {W v:World} {B k o:Nat} (h:fV W v B) (h1:k≠B) (hk:k<W.heap.size) (hf:W.frozen? ⟨k,o,none⟩=false):v.frozen? ⟨k,o,none⟩=false:=
 (World.frozen?_of_block (a:=⟨k,o,none⟩) (h.2.1 k hk h1)).trans hf
theorem fV.below {W v:World} {B n:Nat} (h:fV W v B) (hn:n<=B) (hW:n<=W.heap.size):Below n W v:=
 ⟨h.2.2.1,h.2.2.2.1,h.2.2.2.2,h.1,fun k hk=>h.2.1 k (by omega) (by omega)⟩
set_option maxRecDepth 100000 in
set_option maxHeartbeats 8000000 in
theorem a2q (B1:Nat) (w:World) (h0:w.cell? ⟨B1,0,none⟩=some (.int .i64 0)) (h1:w.cell? ⟨B1,1,none⟩=some (.int .i64 0)) (h2:w.cell? ⟨B1,2,none⟩=some (.int .i64 60000)) (h3:w.cell? ⟨B1,3,none⟩=some (.int .i64 60000))
  (P:CB 44 #[.agg #[.int .i64 0,.int .i64 0,.int .i64 60000,.int .i64 60000]] (.tuple #[.agg #[.int .i64 60000,.int .i64 60000],.agg #[.int .i64 0,.int .i64 0],.int .i64 0]))
  (D:CB 114 #[.agg #[.int .i64 0,.int .i64 60000],.agg #[.int .i64 0,.int .i64 0]] (.tuple #[.agg #[.int .i64 0,.int .i64 0],.int .i64 0])):
  Calls Tryz.prog 37 #[.agg #[.int .i64 0,.int .i64 0,.int .i64 0,.int .i64 0],.slice (some ⟨B1,0,none⟩) 1 1] w fun e w'=>e= .returned (.tuple #[.agg #[.int .i64 60000,.int .i64 60000,.int .i64 0,.int .i64 0],.int .i64 0])/\Below w.heap.size w w':=by
 have V:=b6 fun w=>O5 0 0 0 0 w (by omega) (by omega) (by omega) (by omega) (by omega) (by omega) (by omega) (by omega)
 have G:=b6 fun w' (hb:Below w.heap.size w w')=>LP B1 w' (cell_later hb h0) (cell_later hb h1) (cell_later hb h2) (cell_later hb h3)
 have A:=b6 fun w=>(by have:=DZ 0 0 0 0 w (by decide) (by decide) (by decide) (by decide);exact this:Calls Tryz.prog 42 #[.agg #[.int .i64 0,.int .i64 0],.agg #[.int .i64 0,.int .i64 0]] w fun e w'=>e= .returned (.tuple #[.agg #[.int .i64 0,.int .i64 0],.int .i64 0])/\Below w.heap.size w w')
 have S:=b6 fun w=>(by have:=cF 0 w (by decide) (by decide);exact this:Calls Tryz.prog 21 #[.int .i64 0] w fun e w'=>e= .returned (.int .i64 0)/\w=w')
 have SA:=b6 fun BS w s0 s1 s2 s3 s4 s5 s6 s7 sf=>YL BS w s0 s1 s2 s3 s4 s5 s6 s7 sf P
 have hB1:B1<w.heap.size:=World.block_lt_of_cell? _ _ h0
 have hB2:B1<w.heap.size+1:=by omega
 have hB3:B1<w.heap.size+1+1:=by omega
 go_enter Tryz.func37,Tryz.ntmps37
 go_wp2_with (first|(go_at_call 111;((with_reducible refine am (V.out _) ?_);intro w' hb);replace hb:=mU;obtain ⟨hcell,hfroz,hz,_⟩:=mB;obtain ⟨w1,rfl⟩:=nm w')|(go_at_call 112;((with_reducible refine (G.out _ ?kb).mono ?_);(case kb=>(exact bw;done));rintro e w' ⟨rfl,hb⟩);replace hb:=mU;obtain ⟨hcell,hfroz,hz,_⟩:=mB;(try have hB1:B1<w'.heap.size:=by omega);(try have hB3:B1<w'.heap.size+1:=by omega);obtain ⟨w2,rfl⟩:=nm w'))
 (refine m9 ?_;intro w' hb;replace hb:=mU;obtain ⟨hcell,hfroz,hz,_⟩:=mB)
 have hw0:Below w.heap.size w w':=bw
 have hd1:w.heap.size<w2.heap.size+1:=by omega
 have hd2:w.heap.size+1<w2.heap.size+1:=by omega
 have p0:=cq w' w.heap.size 0 0
 have p1:=cq w' w.heap.size 1 0
 have p2:=cq w' w.heap.size 2 0
 have p3:=cq w' w.heap.size 3 0
 have r0:=cq w' (w.heap.size+1) 0 0
 have r1:=cq w' (w.heap.size+1) 1 0
 have r2:=cq w' (w.heap.size+1) 2 0
 have r3:=cq w' (w.heap.size+1) 3 0
 have rf:∀o,w'.frozen? ⟨w.heap.size+1,o,none⟩=false:=by intro o;simp [go_sem, *]
 have s0:=cq w' w2.heap.size 0 0
 have s1:=cq w' w2.heap.size 1 0
 have s2:=cq w' w2.heap.size 2 0
 have s3:=cq w' w2.heap.size 3 0
 have s4:=cq w' w2.heap.size 4 0
 have s5:=cq w' w2.heap.size 5 0
 have s6:=cq w' w2.heap.size 6 0
 have s7:=cq w' w2.heap.size 7 0
 have sf:∀o,w'.frozen? ⟨w2.heap.size,o,none⟩=false:=by intro o;simp [go_sem, *]
 have k0:=cell_later hw0 h0
 have k1:=cell_later hw0 h1
 have k2:=cell_later hw0 h2
 have k3:=cell_later hw0 h3
 have hz1:w.heap.size+1<w2.heap.size:=by omega
 clear hcell hfroz hz hb h0 h1 h2 h3
 obtain ⟨V0,rfl⟩:=nm w'
 have gS:w2.heap.size<V0.heap.size:=World.block_lt_of_cell? _ _ s0
 generalize w2.heap.size=BS at*
 have g1:w.heap.size+1<V0.heap.size:=by omega
 have g0:w.heap.size<V0.heap.size:=by omega
 have gB:B1<V0.heap.size:=by omega
 refine wp_loop_rounds 2 ?_
 rw [rounds_succ]
 go_wp2_with fail
 have hb1:Below V0.heap.size V0 (V0.alloc (Obj.cells #[.int .i64 0,.int .i64 0,.int .i64 60000,.int .i64 60000] 37)):=bw
 refine (SA.out BS _ (cell_later hb1 s0) (cell_later hb1 s1) (cell_later hb1 s2) (cell_later hb1 s3) (cell_later hb1 s4) (cell_later hb1 s5) (cell_later hb1 s6) (cell_later hb1 s7) (fun o=>(hb1.frozen (p:=⟨BS,o,none⟩) gS).trans (sf o))).mono ?_
 rintro e w' ⟨rfl,s0,s1,s2,s3,s4,s5,s6,s7,K0⟩
 have KS:fV V0 w' BS:=⟨Nat.le_trans hb1.size K0.1,fun k hk h1=>(K0.2.1 k (Nat.lt_of_lt_of_le hk hb1.size) h1).trans (hb1.block k hk),K0.2.2.1.trans hb1.os,K0.2.2.2.1.trans hb1.tape,K0.2.2.2.2.trans hb1.output⟩
 have p0:=KS.cell (by omega) p0
 have p1:=KS.cell (by omega) p1
 have p2:=KS.cell (by omega) p2
 have p3:=KS.cell (by omega) p3
 have r0:=KS.cell (by omega) r0
 have r1:=KS.cell (by omega) r1
 have r2:=KS.cell (by omega) r2
 have r3:=KS.cell (by omega) r3
 have rf:∀o,w'.frozen? ⟨w.heap.size+1,o,none⟩=false:=fun o=>KS.frozen (by omega) g1 (rf o)
 have hw1:Below w.heap.size w w':=Below.trans hw0 (KS.below (by omega) (by omega))
 clear hb1 K0 KS hw0 k0 k1 k2 k3 sf
 obtain ⟨V1,rfl⟩:=nm w'
 have gS:BS<V1.heap.size:=World.block_lt_of_cell? _ _ s0
 have g1:w.heap.size+1<V1.heap.size:=World.block_lt_of_cell? _ _ r0
 have g0:w.heap.size<V1.heap.size:=by omega
 go_wp2
 rw [rounds_succ]
 go_wp2
 (refine m9 ?_;intro w' hb;replace hb:=mU;obtain ⟨hcell,hfroz,hz,_⟩:=mB)
 have hbX:Below V1.heap.size V1 w':=bw
 have r0:=cell_later hbX r0
 have r1:=cell_later hbX r1
 have r2:=cell_later hbX r2
 have r3:=cell_later hbX r3
 have s0:=cell_later hbX s0
 have s1:=cell_later hbX s1
 have s2:=cell_later hbX s2
 have s3:=cell_later hbX s3
 have s4:=cell_later hbX s4
 have s5:=cell_later hbX s5
 have s6:=cell_later hbX s6
 have s7:=cell_later hbX s7
 have rf:∀o,w'.frozen? ⟨w.heap.size+1,o,none⟩=false:=fun o=>(hbX.frozen (p:=⟨w.heap.size+1,o,none⟩) g1).trans (rf o)
 have b0:=cq w' V1.heap.size 0 0
 have b1:=cq w' V1.heap.size 1 0
 have bf:∀o,w'.frozen? ⟨V1.heap.size,o,none⟩=false:=by intro o;simp [go_sem, *]
 have c0:=cq w' (V1.heap.size+1) 0 0
 have c1:=cq w' (V1.heap.size+1) 1 0
 have c2:=cq w' (V1.heap.size+1) 2 0
 have c3:=cq w' (V1.heap.size+1) 3 0
 have hw2:Below w.heap.size w w':=bw
 clear hcell hfroz hz hb hw1 hbX
 obtain ⟨V2,rfl⟩:=nm w'
 have hBL:BS<V1.heap.size:=gS
 have hL:V1.heap.size+1<V2.heap.size:=World.block_lt_of_cell? _ _ c0
 generalize V1.heap.size=BL at*
 have hL0:BL<V2.heap.size:=by omega
 have gS:BS<V2.heap.size:=World.block_lt_of_cell? _ _ s0
 have g1:w.heap.size+1<V2.heap.size:=World.block_lt_of_cell? _ _ r0
 have hneR:w.heap.size+1≠BL:=by omega
 have hneS:BS≠BL:=by omega
 have hneC:BL+1≠BL:=by omega
 have y0:BL<V2.heap.size:=by omega
 have yy0:BL<V2.heap.size+1:=by omega
 have y1:BL+1<V2.heap.size:=by omega
 have yy1:BL+1<V2.heap.size+1:=by omega
 have y2:BS<V2.heap.size:=by omega
 have yy2:BS<V2.heap.size+1:=by omega
 have y3:w.heap.size+1<V2.heap.size:=by omega
 have yy3:w.heap.size+1<V2.heap.size+1:=by omega
 refine wp_loop_rounds 3 ?_
 rw [rounds_succ]
 go_wp2_with (first|(go_at_call 114;((with_reducible refine am (D.out _) ?_);intro w' hb);replace hb:=mU;obtain ⟨hcell,hfroz,hz,_⟩:=mB;obtain ⟨w3,rfl⟩:=nm w';have u30:BL<w3.heap.size:=(by omega);have v30:BL<w3.heap.size+1:=(by omega);have u31:BL+1<w3.heap.size:=(by omega);have v31:BL+1<w3.heap.size+1:=(by omega);have u32:BS<w3.heap.size:=(by omega);have v32:BS<w3.heap.size+1:=(by omega);have u33:w.heap.size+1<w3.heap.size:=(by omega);have v33:w.heap.size+1<w3.heap.size+1:=(by omega))|(go_at_call 42;((with_reducible refine am (A.out _) ?_);intro w' hb);replace hb:=mU;obtain ⟨hcell,hfroz,hz,_⟩:=mB;obtain ⟨w4,rfl⟩:=nm w';have u40:BL<w4.heap.size:=(by omega);have v40:BL<w4.heap.size+1:=(by omega);have u41:BL+1<w4.heap.size:=(by omega);have v41:BL+1<w4.heap.size+1:=(by omega);have u42:BS<w4.heap.size:=(by omega);have v42:BS<w4.heap.size+1:=(by omega);have u43:w.heap.size+1<w4.heap.size:=(by omega);have v43:w.heap.size+1<w4.heap.size+1:=(by omega)))
 refine o7 (F:=Code.rounds _ _ _ _ _) ?_
 intro w' hb
 have h4:Below V2.heap.size V2 w4:=bw
 have kb0:=cell_later h4 b0
 have kb1:=cell_later h4 b1
 have tt:=K4 (x:= .int .i64 0) (y:= .int .i64 0) (i:=0) (j:=1) (by decide) kb0 kb1
 have r0:=cell_later hb (i9 (i:=0) (j:=1) (x:= .int .i64 0) (y:= .int .i64 0) hneR (cell_later h4 r0))
 have r1:=cell_later hb (i9 (i:=0) (j:=1) (x:= .int .i64 0) (y:= .int .i64 0) hneR (cell_later h4 r1))
 have r2:=cell_later hb (i9 (i:=0) (j:=1) (x:= .int .i64 0) (y:= .int .i64 0) hneR (cell_later h4 r2))
 have r3:=cell_later hb (i9 (i:=0) (j:=1) (x:= .int .i64 0) (y:= .int .i64 0) hneR (cell_later h4 r3))
 have rf:∀o,w'.frozen? ⟨w.heap.size+1,o,none⟩=false:=fun o=>(hb.frozen (p:=⟨w.heap.size+1,o,none⟩) (by simp;omega)).trans (by have:=(h4.frozen (p:=⟨w.heap.size+1,o,none⟩) g1).trans (rf o);simpa using this)
 have s0:=cell_later hb (i9 (i:=0) (j:=1) (x:= .int .i64 0) (y:= .int .i64 0) hneS (cell_later h4 s0))
 have s1:=cell_later hb (i9 (i:=0) (j:=1) (x:= .int .i64 0) (y:= .int .i64 0) hneS (cell_later h4 s1))
 have s2:=cell_later hb (i9 (i:=0) (j:=1) (x:= .int .i64 0) (y:= .int .i64 0) hneS (cell_later h4 s2))
 have s3:=cell_later hb (i9 (i:=0) (j:=1) (x:= .int .i64 0) (y:= .int .i64 0) hneS (cell_later h4 s3))
 have s4:=cell_later hb (i9 (i:=0) (j:=1) (x:= .int .i64 0) (y:= .int .i64 0) hneS (cell_later h4 s4))
 have s5:=cell_later hb (i9 (i:=0) (j:=1) (x:= .int .i64 0) (y:= .int .i64 0) hneS (cell_later h4 s5))
 have s6:=cell_later hb (i9 (i:=0) (j:=1) (x:= .int .i64 0) (y:= .int .i64 0) hneS (cell_later h4 s6))
 have s7:=cell_later hb (i9 (i:=0) (j:=1) (x:= .int .i64 0) (y:= .int .i64 0) hneS (cell_later h4 s7))
 have c0:=cell_later hb (i9 (i:=0) (j:=1) (x:= .int .i64 0) (y:= .int .i64 0) hneC (cell_later h4 c0))
 have c1:=cell_later hb (i9 (i:=0) (j:=1) (x:= .int .i64 0) (y:= .int .i64 0) hneC (cell_later h4 c1))
 have c2:=cell_later hb (i9 (i:=0) (j:=1) (x:= .int .i64 0) (y:= .int .i64 0) hneC (cell_later h4 c2))
 have c3:=cell_later hb (i9 (i:=0) (j:=1) (x:= .int .i64 0) (y:= .int .i64 0) hneC (cell_later h4 c3))
 have b0:=cell_later hb tt.1
 have b1:=cell_later hb tt.2
 have hbf:Below w.heap.size w ((w4.setCell ⟨BL,0,none⟩ (.int .i64 0)).setCell ⟨BL,1,none⟩ (.int .i64 0)):=bw
 have hw3:Below w.heap.size w w':=o5 hb hbf
 have bf:∀o,w'.frozen? ⟨BL,o,none⟩=false:=fun o=>(hb.frozen (p:=⟨BL,o,none⟩) (by simp;omega)).trans (by have:=(h4.frozen (p:=⟨BL,o,none⟩) hL0).trans (bf o);simpa using this)
 clear hcell hfroz hz tt kb0 kb1 h4 hb hw2 hbf
 obtain ⟨V3,rfl⟩:=nm w'
 have hL:BL+1<V3.heap.size:=World.block_lt_of_cell? _ _ c0
 have hL0:BL<V3.heap.size:=by omega
 have gS:BS<V3.heap.size:=World.block_lt_of_cell? _ _ s0
 have g1:w.heap.size+1<V3.heap.size:=World.block_lt_of_cell? _ _ r0
 have y0:BL<V3.heap.size:=by omega
 have yy0:BL<V3.heap.size+1:=by omega
 have y1:BL+1<V3.heap.size:=by omega
 have yy1:BL+1<V3.heap.size+1:=by omega
 have y2:BS<V3.heap.size:=by omega
 have yy2:BS<V3.heap.size+1:=by omega
 have y3:w.heap.size+1<V3.heap.size:=by omega
 have yy3:w.heap.size+1<V3.heap.size+1:=by omega
 rw [rounds_succ]
 go_wp2_with (first|(go_at_call 114;((with_reducible refine am (D.out _) ?_);intro w' hb);replace hb:=mU;obtain ⟨hcell,hfroz,hz,_⟩:=mB;obtain ⟨w3,rfl⟩:=nm w';have u30:BL<w3.heap.size:=(by omega);have v30:BL<w3.heap.size+1:=(by omega);have u31:BL+1<w3.heap.size:=(by omega);have v31:BL+1<w3.heap.size+1:=(by omega);have u32:BS<w3.heap.size:=(by omega);have v32:BS<w3.heap.size+1:=(by omega);have u33:w.heap.size+1<w3.heap.size:=(by omega);have v33:w.heap.size+1<w3.heap.size+1:=(by omega))|(go_at_call 42;((with_reducible refine am (A.out _) ?_);intro w' hb);replace hb:=mU;obtain ⟨hcell,hfroz,hz,_⟩:=mB;obtain ⟨w4,rfl⟩:=nm w';have u40:BL<w4.heap.size:=(by omega);have v40:BL<w4.heap.size+1:=(by omega);have u41:BL+1<w4.heap.size:=(by omega);have v41:BL+1<w4.heap.size+1:=(by omega);have u42:BS<w4.heap.size:=(by omega);have v42:BS<w4.heap.size+1:=(by omega);have u43:w.heap.size+1<w4.heap.size:=(by omega);have v43:w.heap.size+1<w4.heap.size+1:=(by omega)))
 refine o7 (F:=Code.rounds _ _ _ _ _) ?_
 intro w' hb
 have h4:Below V3.heap.size V3 w4:=bw
 have kb0:=cell_later h4 b0
 have kb1:=cell_later h4 b1
 have tt:=K4 (x:= .int .i64 0) (y:= .int .i64 0) (i:=0) (j:=1) (by decide) kb0 kb1
 have r0:=cell_later hb (i9 (i:=0) (j:=1) (x:= .int .i64 0) (y:= .int .i64 0) hneR (cell_later h4 r0))
 have r1:=cell_later hb (i9 (i:=0) (j:=1) (x:= .int .i64 0) (y:= .int .i64 0) hneR (cell_later h4 r1))
 have r2:=cell_later hb (i9 (i:=0) (j:=1) (x:= .int .i64 0) (y:= .int .i64 0) hneR (cell_later h4 r2))
 have r3:=cell_later hb (i9 (i:=0) (j:=1) (x:= .int .i64 0) (y:= .int .i64 0) hneR (cell_later h4 r3))
 have rf:∀o,w'.frozen? ⟨w.heap.size+1,o,none⟩=false:=fun o=>(hb.frozen (p:=⟨w.heap.size+1,o,none⟩) (by simp;omega)).trans (by have:=(h4.frozen (p:=⟨w.heap.size+1,o,none⟩) g1).trans (rf o);simpa using this)
 have s0:=cell_later hb (i9 (i:=0) (j:=1) (x:= .int .i64 0) (y:= .int .i64 0) hneS (cell_later h4 s0))
 have s1:=cell_later hb (i9 (i:=0) (j:=1) (x:= .int .i64 0) (y:= .int .i64 0) hneS (cell_later h4 s1))
 have s2:=cell_later hb (i9 (i:=0) (j:=1) (x:= .int .i64 0) (y:= .int .i64 0) hneS (cell_later h4 s2))
 have s3:=cell_later hb (i9 (i:=0) (j:=1) (x:= .int .i64 0) (y:= .int .i64 0) hneS (cell_later h4 s3))
 have s4:=cell_later hb (i9 (i:=0) (j:=1) (x:= .int .i64 0) (y:= .int .i64 0) hneS (cell_later h4 s4))
 have s5:=cell_later hb (i9 (i:=0) (j:=1) (x:= .int .i64 0) (y:= .int .i64 0) hneS (cell_later h4 s5))
 have s6:=cell_later hb (i9 (i:=0) (j:=1) (x:= .int .i64 0) (y:= .int .i64 0) hneS (cell_later h4 s6))
 have s7:=cell_later hb (i9 (i:=0) (j:=1) (x:= .int .i64 0) (y:= .int .i64 0) hneS (cell_later h4 s7))
 have c0:=cell_later hb (i9 (i:=0) (j:=1) (x:= .int .i64 0) (y:= .int .i64 0) hneC (cell_later h4 c0))
 have c1:=cell_later hb (i9 (i:=0) (j:=1) (x:= .int .i64 0) (y:= .int .i64 0) hneC (cell_later h4 c1))
 have c2:=cell_later hb (i9 (i:=0) (j:=1) (x:= .int .i64 0) (y:= .int .i64 0) hneC (cell_later h4 c2))
 have c3:=cell_later hb (i9 (i:=0) (j:=1) (x:= .int .i64 0) (y:= .int .i64 0) hneC (cell_later h4 c3))
 have b0:=cell_later hb tt.1
 have b1:=cell_later hb tt.2
 have hbf:Below w.heap.size w ((w4.setCell ⟨BL,0,none⟩ (.int .i64 0)).setCell ⟨BL,1,none⟩ (.int .i64 0)):=bw
 have hw3:Below w.heap.size w w':=o5 hb hbf
 have bf:∀o,w'.frozen? ⟨BL,o,none⟩=false:=fun o=>(hb.frozen (p:=⟨BL,o,none⟩) (by simp;omega)).trans (by have:=(h4.frozen (p:=⟨BL,o,none⟩) hL0).trans (bf o);simpa using this)
 clear hcell hfroz hz tt kb0 kb1 h4 hb hbf
 obtain ⟨V4,rfl⟩:=nm w'
 have hL0:BL<V4.heap.size:=World.block_lt_of_cell? _ _ b0
 have gS:BS<V4.heap.size:=World.block_lt_of_cell? _ _ s0
 have g1:w.heap.size+1<V4.heap.size:=World.block_lt_of_cell? _ _ r0
 rw [rounds_succ]
 go_wp2_with (go_at_call 21;((with_reducible refine am (S.out _) ?_);rintro w' rfl))
 exact bodyPost_ret (v:= .tuple #[.agg #[.int .i64 60000,.int .i64 60000,.int .i64 0,.int .i64 0],.int .i64 0]) (by first|(simp only [results,Tryz.results37];go_simp;done)|simp [results,Tryz.results37,go_sem, *]) rfl ⟨rfl,bw⟩
end Go.Proofs.YtdhbeoahpfimbaaGreat
