/- Part of the proof of TopDistances. -/
import Derived.Test.YtdhbeoahpfimbaaGreatPnt
import Derived.Test.YtdhbeoahpfimbaaGreatGb
namespace Go.Proofs.YtdhbeoahpfimbaaGreat
open Go.RowKit Brg
set_option maxRecDepth 100000 in
set_option maxHeartbeats 8000000 in
theorem yU (yl yh xl xh:Int) (w:World) (h1:x8 yl yh=true) (h2:x8 xl xh=true) (ho:xl<=0/\0<=xh/\yl<=0/\0<=yh):
  Calls Tryz.prog 47 #[.agg #[.int .i64 yl,.int .i64 yh],.agg #[.int .i64 xl,.int .i64 xh]] w fun e w'=>e= .returned (.tuple #[.agg #[.int .i64 0,.int .i64 21600000],.int .i64 0])/\Below w.heap.size w w':=by
 obtain ⟨o1,o2,o3,o4⟩:=ho
 have V1:=b6 fun w=>(by have:=D7 yl yh w;rw [h1] at this;exact this:Calls Tryz.prog 129 #[.agg #[.int .i64 yl,.int .i64 yh]] w fun e w'=>e= .returned (.bool true)/\Below w.heap.size w w')
 have V2:=b6 fun w=>(by have:=D7 xl xh w;rw [h2] at this;exact this:Calls Tryz.prog 129 #[.agg #[.int .i64 xl,.int .i64 xh]] w fun e w'=>e= .returned (.bool true)/\Below w.heap.size w w')
 go_enter Tryz.func47,Tryz.ntmps47
 go_wp2_with (first|(go_at_call 129;((with_reducible refine am (V2.out _) ?_);intro w' hb);replace hb:=mU;obtain ⟨hcell,hfroz,hz,z6,z7,z8,z9,_⟩:=oH;obtain ⟨w1,rfl⟩:=nm w')|(go_at_call 129;((with_reducible refine am (V1.out _) ?_);intro w' hb);replace hb:=mU;obtain ⟨hcell,hfroz,hz,z6,z7,z8,z9,_⟩:=oH;obtain ⟨w2,rfl⟩:=nm w'))
 exact bodyPost_ret (v:= .tuple #[.agg #[.int .i64 0,.int .i64 21600000],.int .i64 0]) (by first|(simp only [results,Tryz.results47];go_simp;done)|simp [results,Tryz.results47,go_sem, *]) rfl ⟨rfl,bw⟩
set_option maxRecDepth 100000 in
set_option maxHeartbeats 8000000 in
theorem zH (C S:Nat->Nat) (yl yh xl xh:Int) (w:World) (h1:x8 yl yh=true) (h2:x8 xl xh=true) (ho:¬(xl<=0/\0<=xh/\yl<=0/\0<=yh))
  (AN:Hid (∀(px py:Int) (w:World),-2147483648<=px->px<=2147483648-> -2147483648<=py->py<=2147483648->¬(px=0/\py=0)->Calls Tryz.prog 131 #[.agg #[.int .i64 px,.int .i64 py]] w fun e w'=>e= .returned (.tuple #[.int .i64 (M7 C S px py),.bool (N5 C S px py)])/\Below w.heap.size w w')):
  Calls Tryz.prog 47 #[.agg #[.int .i64 yl,.int .i64 yh],.agg #[.int .i64 xl,.int .i64 xh]] w fun e w'=>e= .returned (.tuple #[.agg #[.int .i64 (M7 C S (B9 xl xh yl yh).1 (B9 xl xh yl yh).2),.int .i64 (jW C S xl xh yl yh+(if N5 C S (D6 xl xh yl yh).1 (D6 xl xh yl yh).2 then 0 else 1))],.int .i64 0])/\Below w.heap.size w w':=by
 have V1:=b6 fun w=>(by have:=D7 yl yh w;rw [h1] at this;exact this:Calls Tryz.prog 129 #[.agg #[.int .i64 yl,.int .i64 yh]] w fun e w'=>e= .returned (.bool true)/\Below w.heap.size w w')
 have V2:=b6 fun w=>(by have:=D7 xl xh w;rw [h2] at this;exact this:Calls Tryz.prog 129 #[.agg #[.int .i64 xl,.int .i64 xh]] w fun e w'=>e= .returned (.bool true)/\Below w.heap.size w w')
 obtain ⟨LO,hLO⟩:∃v,M7 C S (B9 xl xh yl yh).1 (B9 xl xh yl yh).2=v:=⟨_,rfl⟩
 obtain ⟨HI,hHI⟩:∃v,jW C S xl xh yl yh+(if N5 C S (D6 xl xh yl yh).1 (D6 xl xh yl yh).2 then 0 else 1)=v:=⟨_,rfl⟩
 rw [hLO,hHI]
 have HE:=b6 (And.intro hLO hHI)
 clear hLO hHI
 have HO:=b6 ho
 have t1:=K6 h1
 have t2:=K6 h2
 clear h1 h2
 have b1:(decide (xl<=0)&&decide (0<=xh)&&decide (yl<=0)&&decide (0<=yh))=false:=by
  simp;omega
 clear ho
 go_enter Tryz.func47,Tryz.ntmps47
 go_upto_region 3 with (first|(go_at_call 129;((with_reducible refine am (V2.out _) ?_);intro w' hb);replace hb:=mU;obtain ⟨hcell,hfroz,hz,z6,z7,z8,z9,_⟩:=oH;obtain ⟨w1,rfl⟩:=nm w')|(go_at_call 129;((with_reducible refine am (V1.out _) ?_);intro w' hb);replace hb:=mU;obtain ⟨hcell,hfroz,hz,z6,z7,z8,z9,_⟩:=oH;obtain ⟨w2,rfl⟩:=nm w'))
 refine m9 ?_
 intro w' hb
 replace hb:=mU;obtain ⟨hcell,hfroz,hz,z6,z7,z8,z9,_⟩:=oH
 have hw0:Below w.heap.size w w':=bw
 have y0:=cq w' w.heap.size 0 yl
 have y1:=cq w' w.heap.size 1 yh
 have x0:=cq w' (w.heap.size+1) 0 xl
 have x1:=cq w' (w.heap.size+1) 1 xh
 have r0:=cq w' (w.heap.size+1+1) 0 0
 have r1:=cq w' (w.heap.size+1+1) 1 0
 have rf:∀o,w'.frozen? ⟨w.heap.size+1+1,o,none⟩=false:=by intro o;simp [go_sem, *]
 clear hcell hfroz hz hb
 obtain ⟨V0,rfl⟩:=nm w'
 have g3:w.heap.size+1+1<V0.heap.size:=World.block_lt_of_cell? _ _ r0
 have g2:w.heap.size+1<V0.heap.size:=by omega
 have g1:w.heap.size<V0.heap.size:=by omega
 go_cut [41] from 24 to 42 (fun s41 wx=>s41= .bool false/\wx=V0)
 case first=>
  by_cases e1:xl<=0
  ·by_cases e2:0<=xh
   ·by_cases e3:yl<=0
    ·have e4:¬0<=yh:=fun h=>HO.out ⟨e1,e2,e3,h⟩
     go_wp2
     all_goals (go_meet;exact ⟨rfl,rfl⟩)
    ·go_wp2
     all_goals (go_meet;exact ⟨rfl,rfl⟩)
   ·go_wp2
    all_goals (go_meet;exact ⟨rfl,rfl⟩)
  ·go_wp2
   all_goals (go_meet;exact ⟨rfl,rfl⟩)
 case rest=>
  obtain ⟨rfl,rfl⟩:=hcut
  clear b1
  go_upto_region 6 with fail
  refine m9 ?_
  intro w' hb
  replace hb:=mU;obtain ⟨hcell,hfroz,hz,z6,z7,z8,z9,_⟩:=oH
  have hv1:Below wc.heap.size wc w':=bw
  have q0:=cq w' wc.heap.size 0 xl
  have q1:=cq w' wc.heap.size 1 yl
  have q2:=cq w' wc.heap.size 2 xl
  have q3:=cq w' wc.heap.size 3 yh
  have q4:=cq w' wc.heap.size 4 xh
  have q5:=cq w' wc.heap.size 5 yl
  have q6:=cq w' wc.heap.size 6 xh
  have q7:=cq w' wc.heap.size 7 yh
  have hw1:Below w.heap.size w w':=o5 hv1 hw0
  have R0:=cell_later hv1 r0
  have R1:=cell_later hv1 r1
  have RF:=b6 (fun o=>(hv1.frozen (p:=⟨w.heap.size+1+1,o,none⟩) g3).trans (rf o):∀o,w'.frozen? ⟨w.heap.size+1+1,o,none⟩=false)
  have gB:w.heap.size+1+1<wc.heap.size:=g3
  clear hcell hfroz hz hb y0 y1 x0 x1 r0 r1 rf hw0 hv1
  obtain ⟨V1,rfl⟩:=nm w'
  have G6:wc.heap.size<V1.heap.size:=World.block_lt_of_cell? _ _ q0
  go_cut [7,8] from 64 to 68 (fun s7 s8 wx=>∃B1 B2:Nat,s7= .pointer (some ⟨B1,0,none⟩)/\s8= .pointer (some ⟨B2,0,none⟩)/\V1.heap.size<=B1/\V1.heap.size<=B2/\B1≠B2/\wx.cell? ⟨B1,0,none⟩=some (.int .i64 xl)/\wx.cell? ⟨B1,1,none⟩=some (.int .i64 yl)/\wx.cell? ⟨B2,0,none⟩=some (.int .i64 xl)/\wx.cell? ⟨B2,1,none⟩=some (.int .i64 yl)/\Hid (∀o,wx.frozen? ⟨B1,o,none⟩=false)/\Hid (∀o,wx.frozen? ⟨B2,o,none⟩=false)/\Below V1.heap.size V1 wx)
  case first=>
   go_region
   all_goals go_wp2
   all_goals go_meet
   all_goals exact ⟨_,_,rfl,rfl,by omega,by omega,by omega,by simp [go_sem],by simp [go_sem],by simp [go_sem],by simp [go_sem],by intro o;simp [go_sem],by intro o;simp [go_sem],bw⟩
  case rest=>
   obtain ⟨B1,B2,rfl,rfl,l7,l8,n78,p0,p1,r0,r1,f7,f8,hX⟩:=hcut
   have hzX:=hX.size
   have Q0:=cell_later hX q0
   have Q1:=cell_later hX q1
   have Q2:=cell_later hX q2
   have Q3:=cell_later hX q3
   have Q4:=cell_later hX q4
   have Q5:=cell_later hX q5
   have Q6:=cell_later hX q6
   have Q7:=cell_later hX q7
   clear q0 q1 q2 q3 q4 q5 q6 q7
   have g7:B1<wc.heap.size:=World.block_lt_of_cell? _ _ p0
   have g8:B2<wc.heap.size:=World.block_lt_of_cell? _ _ r0
   go_wp2
   go_loopw [69] (fun iv wr=>∃(k:Nat) (fx fy lx ly:Int),iv= .int .i64 k/\k<=4/\wr.cell? ⟨B1,0,none⟩=some (.int .i64 fx)/\wr.cell? ⟨B1,1,none⟩=some (.int .i64 fy)/\wr.cell? ⟨B2,0,none⟩=some (.int .i64 lx)/\wr.cell? ⟨B2,1,none⟩=some (.int .i64 ly)/\Hid (∀o,wr.frozen? ⟨B1,o,none⟩=false)/\Hid (∀o,wr.frozen? ⟨B2,o,none⟩=false)/\Hid (C7 ((o9 xl xh yl yh).drop k) (fx,fy)=B9 xl xh yl yh/\F8 ((o9 xl xh yl yh).drop k) (lx,ly)=D6 xl xh yl yh)/\Hid ((fx,fy)∈o9 xl xh yl yh/\(lx,ly)∈o9 xl xh yl yh)/\Below V1.heap.size V1 wr) (fun iv _=>8-(intOf iv).toNat)
   case atStart=>exact ⟨0,xl,yl,xl,yl,rfl,by decide,p0,p1,r0,r1,f7,f8,⟨rfl,rfl⟩,⟨by simp [o9],by simp [o9]⟩,hX⟩
   case round=>
    obtain ⟨k,fx,fy,lx,ly,rfl,k4,c0,c1,d0,d1,z7,z8,hfl,hin,hY⟩:=hrel
    have j7:B1<wr.heap.size:=World.block_lt_of_cell? _ _ c0
    have j8:B2<wr.heap.size:=World.block_lt_of_cell? _ _ d0
    have j7s:B1<wr.heap.size+1:=by omega
    have j8s:B2<wr.heap.size+1:=by omega
    have bf:(-2147483648<=fx/\fx<=2147483648)/\(-2147483648<=fy/\fy<=2147483648):=by have:=hin.out.1;simp [o9] at this;omega
    have bl:(-2147483648<=lx/\lx<=2147483648)/\(-2147483648<=ly/\ly<=2147483648):=by have:=hin.out.2;simp [o9] at this;omega
    by_cases hk:k<4
    ·have z7o:=z7.out
     have z8o:=z8.out
     have n87:B2≠B1:=fun e=>n78 e.symm
     have nw7:B1≠wr.heap.size:=by omega
     have nw8:B2≠wr.heap.size:=by omega
     have hk4:k=0\/k=1\/k=2\/k=3:=by omega
     rcases hk4 with rfl|rfl|rfl|rfl
     ·have ix:∀w,(Instr.index 193 (.agg #[.int .i64 xl,.int .i64 yl,.int .i64 xl,.int .i64 yh,.int .i64 xh,.int .i64 yl,.int .i64 xh,.int .i64 yh]) (.int .i64 0)).run Tryz.prog w= .ok (.agg #[.int .i64 xl,.int .i64 yl]) w:=fun w=>by first|rfl|kernel_rfl|(simp [Instr.index,go_sem])
      cases hb1:iF (xl,yl) (fx,fy)<;>cases hb2:iF (lx,ly) (xl,yl)
      ·have N1:=b6 hb1
       have N2:=b6 hb2
       go_wp2_with (go_at_call 130;((with_reducible refine am (F9 _ _ _ _ _ (by omega) (by omega) (by omega) (by omega) (by omega) (by omega) (by omega) (by omega)) ?_);intro w' hb);replace hb:=mU;obtain ⟨hcell,hfroz,hz,z6,z7,z8,z9,_⟩:=oH;(try have hB1:B1<w'.heap.size:=by omega);(try have hB2:B2<w'.heap.size:=by omega);(try have hB3:B1<w'.heap.size+1:=by omega);(try have hB4:B2<w'.heap.size+1:=by omega))
       exact ⟨⟨1,fx,fy,lx,ly,rfl,by omega,(by simp [go_sem, *]),(by simp [go_sem, *]),(by simp [go_sem, *]),(by simp [go_sem, *]),(by intro o;simp [go_sem, *]),(by intro o;simp [go_sem, *]),⟨by have:=hfl.out.1;simpa [o9,C7,N1.out] using this,by have:=hfl.out.2;simpa [o9,F8,N2.out] using this⟩,⟨hin.out.1,hin.out.2⟩,bw⟩,by simp [intOf]⟩
      ·have N1:=b6 hb1
       have N2:=b6 hb2
       go_wp2_with (go_at_call 130;((with_reducible refine am (F9 _ _ _ _ _ (by omega) (by omega) (by omega) (by omega) (by omega) (by omega) (by omega) (by omega)) ?_);intro w' hb);replace hb:=mU;obtain ⟨hcell,hfroz,hz,z6,z7,z8,z9,_⟩:=oH;(try have hB1:B1<w'.heap.size:=by omega);(try have hB2:B2<w'.heap.size:=by omega);(try have hB3:B1<w'.heap.size+1:=by omega);(try have hB4:B2<w'.heap.size+1:=by omega))
       exact ⟨⟨1,fx,fy,xl,yl,rfl,by omega,(by simp [go_sem, *]),(by simp [go_sem, *]),(by simp [go_sem, *]),(by simp [go_sem, *]),(by intro o;simp [go_sem, *]),(by intro o;simp [go_sem, *]),⟨by have:=hfl.out.1;simpa [o9,C7,N1.out] using this,by have:=hfl.out.2;simpa [o9,F8,N2.out] using this⟩,⟨hin.out.1,by simp [o9]⟩,bw⟩,by simp [intOf]⟩
      ·have N1:=b6 hb1
       have N2:=b6 hb2
       go_wp2_with (go_at_call 130;((with_reducible refine am (F9 _ _ _ _ _ (by omega) (by omega) (by omega) (by omega) (by omega) (by omega) (by omega) (by omega)) ?_);intro w' hb);replace hb:=mU;obtain ⟨hcell,hfroz,hz,z6,z7,z8,z9,_⟩:=oH;(try have hB1:B1<w'.heap.size:=by omega);(try have hB2:B2<w'.heap.size:=by omega);(try have hB3:B1<w'.heap.size+1:=by omega);(try have hB4:B2<w'.heap.size+1:=by omega))
       exact ⟨⟨1,xl,yl,lx,ly,rfl,by omega,(by simp [go_sem, *]),(by simp [go_sem, *]),(by simp [go_sem, *]),(by simp [go_sem, *]),(by intro o;simp [go_sem, *]),(by intro o;simp [go_sem, *]),⟨by have:=hfl.out.1;simpa [o9,C7,N1.out] using this,by have:=hfl.out.2;simpa [o9,F8,N2.out] using this⟩,⟨by simp [o9],hin.out.2⟩,bw⟩,by simp [intOf]⟩
      ·have N1:=b6 hb1
       have N2:=b6 hb2
       go_wp2_with (go_at_call 130;((with_reducible refine am (F9 _ _ _ _ _ (by omega) (by omega) (by omega) (by omega) (by omega) (by omega) (by omega) (by omega)) ?_);intro w' hb);replace hb:=mU;obtain ⟨hcell,hfroz,hz,z6,z7,z8,z9,_⟩:=oH;(try have hB1:B1<w'.heap.size:=by omega);(try have hB2:B2<w'.heap.size:=by omega);(try have hB3:B1<w'.heap.size+1:=by omega);(try have hB4:B2<w'.heap.size+1:=by omega))
       exact ⟨⟨1,xl,yl,xl,yl,rfl,by omega,(by simp [go_sem, *]),(by simp [go_sem, *]),(by simp [go_sem, *]),(by simp [go_sem, *]),(by intro o;simp [go_sem, *]),(by intro o;simp [go_sem, *]),⟨by have:=hfl.out.1;simpa [o9,C7,N1.out] using this,by have:=hfl.out.2;simpa [o9,F8,N2.out] using this⟩,⟨by simp [o9],by simp [o9]⟩,bw⟩,by simp [intOf]⟩
     ·have ix:∀w,(Instr.index 193 (.agg #[.int .i64 xl,.int .i64 yl,.int .i64 xl,.int .i64 yh,.int .i64 xh,.int .i64 yl,.int .i64 xh,.int .i64 yh]) (.int .i64 1)).run Tryz.prog w= .ok (.agg #[.int .i64 xl,.int .i64 yh]) w:=fun w=>by first|rfl|kernel_rfl|(simp [Instr.index,go_sem])
      cases hb1:iF (xl,yh) (fx,fy)<;>cases hb2:iF (lx,ly) (xl,yh)
      ·have N1:=b6 hb1
       have N2:=b6 hb2
       go_wp2_with (go_at_call 130;((with_reducible refine am (F9 _ _ _ _ _ (by omega) (by omega) (by omega) (by omega) (by omega) (by omega) (by omega) (by omega)) ?_);intro w' hb);replace hb:=mU;obtain ⟨hcell,hfroz,hz,z6,z7,z8,z9,_⟩:=oH;(try have hB1:B1<w'.heap.size:=by omega);(try have hB2:B2<w'.heap.size:=by omega);(try have hB3:B1<w'.heap.size+1:=by omega);(try have hB4:B2<w'.heap.size+1:=by omega))
       exact ⟨⟨2,fx,fy,lx,ly,rfl,by omega,(by simp [go_sem, *]),(by simp [go_sem, *]),(by simp [go_sem, *]),(by simp [go_sem, *]),(by intro o;simp [go_sem, *]),(by intro o;simp [go_sem, *]),⟨by have:=hfl.out.1;simpa [o9,C7,N1.out] using this,by have:=hfl.out.2;simpa [o9,F8,N2.out] using this⟩,⟨hin.out.1,hin.out.2⟩,bw⟩,by simp [intOf]⟩
      ·have N1:=b6 hb1
       have N2:=b6 hb2
       go_wp2_with (go_at_call 130;((with_reducible refine am (F9 _ _ _ _ _ (by omega) (by omega) (by omega) (by omega) (by omega) (by omega) (by omega) (by omega)) ?_);intro w' hb);replace hb:=mU;obtain ⟨hcell,hfroz,hz,z6,z7,z8,z9,_⟩:=oH;(try have hB1:B1<w'.heap.size:=by omega);(try have hB2:B2<w'.heap.size:=by omega);(try have hB3:B1<w'.heap.size+1:=by omega);(try have hB4:B2<w'.heap.size+1:=by omega))
       exact ⟨⟨2,fx,fy,xl,yh,rfl,by omega,(by simp [go_sem, *]),(by simp [go_sem, *]),(by simp [go_sem, *]),(by simp [go_sem, *]),(by intro o;simp [go_sem, *]),(by intro o;simp [go_sem, *]),⟨by have:=hfl.out.1;simpa [o9,C7,N1.out] using this,by have:=hfl.out.2;simpa [o9,F8,N2.out] using this⟩,⟨hin.out.1,by simp [o9]⟩,bw⟩,by simp [intOf]⟩
      ·have N1:=b6 hb1
       have N2:=b6 hb2
       go_wp2_with (go_at_call 130;((with_reducible refine am (F9 _ _ _ _ _ (by omega) (by omega) (by omega) (by omega) (by omega) (by omega) (by omega) (by omega)) ?_);intro w' hb);replace hb:=mU;obtain ⟨hcell,hfroz,hz,z6,z7,z8,z9,_⟩:=oH;(try have hB1:B1<w'.heap.size:=by omega);(try have hB2:B2<w'.heap.size:=by omega);(try have hB3:B1<w'.heap.size+1:=by omega);(try have hB4:B2<w'.heap.size+1:=by omega))
       exact ⟨⟨2,xl,yh,lx,ly,rfl,by omega,(by simp [go_sem, *]),(by simp [go_sem, *]),(by simp [go_sem, *]),(by simp [go_sem, *]),(by intro o;simp [go_sem, *]),(by intro o;simp [go_sem, *]),⟨by have:=hfl.out.1;simpa [o9,C7,N1.out] using this,by have:=hfl.out.2;simpa [o9,F8,N2.out] using this⟩,⟨by simp [o9],hin.out.2⟩,bw⟩,by simp [intOf]⟩
      ·have N1:=b6 hb1
       have N2:=b6 hb2
       go_wp2_with (go_at_call 130;((with_reducible refine am (F9 _ _ _ _ _ (by omega) (by omega) (by omega) (by omega) (by omega) (by omega) (by omega) (by omega)) ?_);intro w' hb);replace hb:=mU;obtain ⟨hcell,hfroz,hz,z6,z7,z8,z9,_⟩:=oH;(try have hB1:B1<w'.heap.size:=by omega);(try have hB2:B2<w'.heap.size:=by omega);(try have hB3:B1<w'.heap.size+1:=by omega);(try have hB4:B2<w'.heap.size+1:=by omega))
       exact ⟨⟨2,xl,yh,xl,yh,rfl,by omega,(by simp [go_sem, *]),(by simp [go_sem, *]),(by simp [go_sem, *]),(by simp [go_sem, *]),(by intro o;simp [go_sem, *]),(by intro o;simp [go_sem, *]),⟨by have:=hfl.out.1;simpa [o9,C7,N1.out] using this,by have:=hfl.out.2;simpa [o9,F8,N2.out] using this⟩,⟨by simp [o9],by simp [o9]⟩,bw⟩,by simp [intOf]⟩
     ·have ix:∀w,(Instr.index 193 (.agg #[.int .i64 xl,.int .i64 yl,.int .i64 xl,.int .i64 yh,.int .i64 xh,.int .i64 yl,.int .i64 xh,.int .i64 yh]) (.int .i64 2)).run Tryz.prog w= .ok (.agg #[.int .i64 xh,.int .i64 yl]) w:=fun w=>by first|rfl|kernel_rfl|(simp [Instr.index,go_sem])
      cases hb1:iF (xh,yl) (fx,fy)<;>cases hb2:iF (lx,ly) (xh,yl)
      ·have N1:=b6 hb1
       have N2:=b6 hb2
       go_wp2_with (go_at_call 130;((with_reducible refine am (F9 _ _ _ _ _ (by omega) (by omega) (by omega) (by omega) (by omega) (by omega) (by omega) (by omega)) ?_);intro w' hb);replace hb:=mU;obtain ⟨hcell,hfroz,hz,z6,z7,z8,z9,_⟩:=oH;(try have hB1:B1<w'.heap.size:=by omega);(try have hB2:B2<w'.heap.size:=by omega);(try have hB3:B1<w'.heap.size+1:=by omega);(try have hB4:B2<w'.heap.size+1:=by omega))
       exact ⟨⟨3,fx,fy,lx,ly,rfl,by omega,(by simp [go_sem, *]),(by simp [go_sem, *]),(by simp [go_sem, *]),(by simp [go_sem, *]),(by intro o;simp [go_sem, *]),(by intro o;simp [go_sem, *]),⟨by have:=hfl.out.1;simpa [o9,C7,N1.out] using this,by have:=hfl.out.2;simpa [o9,F8,N2.out] using this⟩,⟨hin.out.1,hin.out.2⟩,bw⟩,by simp [intOf]⟩
      ·have N1:=b6 hb1
       have N2:=b6 hb2
       go_wp2_with (go_at_call 130;((with_reducible refine am (F9 _ _ _ _ _ (by omega) (by omega) (by omega) (by omega) (by omega) (by omega) (by omega) (by omega)) ?_);intro w' hb);replace hb:=mU;obtain ⟨hcell,hfroz,hz,z6,z7,z8,z9,_⟩:=oH;(try have hB1:B1<w'.heap.size:=by omega);(try have hB2:B2<w'.heap.size:=by omega);(try have hB3:B1<w'.heap.size+1:=by omega);(try have hB4:B2<w'.heap.size+1:=by omega))
       exact ⟨⟨3,fx,fy,xh,yl,rfl,by omega,(by simp [go_sem, *]),(by simp [go_sem, *]),(by simp [go_sem, *]),(by simp [go_sem, *]),(by intro o;simp [go_sem, *]),(by intro o;simp [go_sem, *]),⟨by have:=hfl.out.1;simpa [o9,C7,N1.out] using this,by have:=hfl.out.2;simpa [o9,F8,N2.out] using this⟩,⟨hin.out.1,by simp [o9]⟩,bw⟩,by simp [intOf]⟩
      ·have N1:=b6 hb1
       have N2:=b6 hb2
       go_wp2_with (go_at_call 130;((with_reducible refine am (F9 _ _ _ _ _ (by omega) (by omega) (by omega) (by omega) (by omega) (by omega) (by omega) (by omega)) ?_);intro w' hb);replace hb:=mU;obtain ⟨hcell,hfroz,hz,z6,z7,z8,z9,_⟩:=oH;(try have hB1:B1<w'.heap.size:=by omega);(try have hB2:B2<w'.heap.size:=by omega);(try have hB3:B1<w'.heap.size+1:=by omega);(try have hB4:B2<w'.heap.size+1:=by omega))
       exact ⟨⟨3,xh,yl,lx,ly,rfl,by omega,(by simp [go_sem, *]),(by simp [go_sem, *]),(by simp [go_sem, *]),(by simp [go_sem, *]),(by intro o;simp [go_sem, *]),(by intro o;simp [go_sem, *]),⟨by have:=hfl.out.1;simpa [o9,C7,N1.out] using this,by have:=hfl.out.2;simpa [o9,F8,N2.out] using this⟩,⟨by simp [o9],hin.out.2⟩,bw⟩,by simp [intOf]⟩
      ·have N1:=b6 hb1
       have N2:=b6 hb2
       go_wp2_with (go_at_call 130;((with_reducible refine am (F9 _ _ _ _ _ (by omega) (by omega) (by omega) (by omega) (by omega) (by omega) (by omega) (by omega)) ?_);intro w' hb);replace hb:=mU;obtain ⟨hcell,hfroz,hz,z6,z7,z8,z9,_⟩:=oH;(try have hB1:B1<w'.heap.size:=by omega);(try have hB2:B2<w'.heap.size:=by omega);(try have hB3:B1<w'.heap.size+1:=by omega);(try have hB4:B2<w'.heap.size+1:=by omega))
       exact ⟨⟨3,xh,yl,xh,yl,rfl,by omega,(by simp [go_sem, *]),(by simp [go_sem, *]),(by simp [go_sem, *]),(by simp [go_sem, *]),(by intro o;simp [go_sem, *]),(by intro o;simp [go_sem, *]),⟨by have:=hfl.out.1;simpa [o9,C7,N1.out] using this,by have:=hfl.out.2;simpa [o9,F8,N2.out] using this⟩,⟨by simp [o9],by simp [o9]⟩,bw⟩,by simp [intOf]⟩
     ·have ix:∀w,(Instr.index 193 (.agg #[.int .i64 xl,.int .i64 yl,.int .i64 xl,.int .i64 yh,.int .i64 xh,.int .i64 yl,.int .i64 xh,.int .i64 yh]) (.int .i64 3)).run Tryz.prog w= .ok (.agg #[.int .i64 xh,.int .i64 yh]) w:=fun w=>by first|rfl|kernel_rfl|(simp [Instr.index,go_sem])
      cases hb1:iF (xh,yh) (fx,fy)<;>cases hb2:iF (lx,ly) (xh,yh)
      ·have N1:=b6 hb1
       have N2:=b6 hb2
       go_wp2_with (go_at_call 130;((with_reducible refine am (F9 _ _ _ _ _ (by omega) (by omega) (by omega) (by omega) (by omega) (by omega) (by omega) (by omega)) ?_);intro w' hb);replace hb:=mU;obtain ⟨hcell,hfroz,hz,z6,z7,z8,z9,_⟩:=oH;(try have hB1:B1<w'.heap.size:=by omega);(try have hB2:B2<w'.heap.size:=by omega);(try have hB3:B1<w'.heap.size+1:=by omega);(try have hB4:B2<w'.heap.size+1:=by omega))
       exact ⟨⟨4,fx,fy,lx,ly,rfl,by omega,(by simp [go_sem, *]),(by simp [go_sem, *]),(by simp [go_sem, *]),(by simp [go_sem, *]),(by intro o;simp [go_sem, *]),(by intro o;simp [go_sem, *]),⟨by have:=hfl.out.1;simpa [o9,C7,N1.out] using this,by have:=hfl.out.2;simpa [o9,F8,N2.out] using this⟩,⟨hin.out.1,hin.out.2⟩,bw⟩,by simp [intOf]⟩
      ·have N1:=b6 hb1
       have N2:=b6 hb2
       go_wp2_with (go_at_call 130;((with_reducible refine am (F9 _ _ _ _ _ (by omega) (by omega) (by omega) (by omega) (by omega) (by omega) (by omega) (by omega)) ?_);intro w' hb);replace hb:=mU;obtain ⟨hcell,hfroz,hz,z6,z7,z8,z9,_⟩:=oH;(try have hB1:B1<w'.heap.size:=by omega);(try have hB2:B2<w'.heap.size:=by omega);(try have hB3:B1<w'.heap.size+1:=by omega);(try have hB4:B2<w'.heap.size+1:=by omega))
       exact ⟨⟨4,fx,fy,xh,yh,rfl,by omega,(by simp [go_sem, *]),(by simp [go_sem, *]),(by simp [go_sem, *]),(by simp [go_sem, *]),(by intro o;simp [go_sem, *]),(by intro o;simp [go_sem, *]),⟨by have:=hfl.out.1;simpa [o9,C7,N1.out] using this,by have:=hfl.out.2;simpa [o9,F8,N2.out] using this⟩,⟨hin.out.1,by simp [o9]⟩,bw⟩,by simp [intOf]⟩
      ·have N1:=b6 hb1
       have N2:=b6 hb2
       go_wp2_with (go_at_call 130;((with_reducible refine am (F9 _ _ _ _ _ (by omega) (by omega) (by omega) (by omega) (by omega) (by omega) (by omega) (by omega)) ?_);intro w' hb);replace hb:=mU;obtain ⟨hcell,hfroz,hz,z6,z7,z8,z9,_⟩:=oH;(try have hB1:B1<w'.heap.size:=by omega);(try have hB2:B2<w'.heap.size:=by omega);(try have hB3:B1<w'.heap.size+1:=by omega);(try have hB4:B2<w'.heap.size+1:=by omega))
       exact ⟨⟨4,xh,yh,lx,ly,rfl,by omega,(by simp [go_sem, *]),(by simp [go_sem, *]),(by simp [go_sem, *]),(by simp [go_sem, *]),(by intro o;simp [go_sem, *]),(by intro o;simp [go_sem, *]),⟨by have:=hfl.out.1;simpa [o9,C7,N1.out] using this,by have:=hfl.out.2;simpa [o9,F8,N2.out] using this⟩,⟨by simp [o9],hin.out.2⟩,bw⟩,by simp [intOf]⟩
      ·have N1:=b6 hb1
       have N2:=b6 hb2
       go_wp2_with (go_at_call 130;((with_reducible refine am (F9 _ _ _ _ _ (by omega) (by omega) (by omega) (by omega) (by omega) (by omega) (by omega) (by omega)) ?_);intro w' hb);replace hb:=mU;obtain ⟨hcell,hfroz,hz,z6,z7,z8,z9,_⟩:=oH;(try have hB1:B1<w'.heap.size:=by omega);(try have hB2:B2<w'.heap.size:=by omega);(try have hB3:B1<w'.heap.size+1:=by omega);(try have hB4:B2<w'.heap.size+1:=by omega))
       exact ⟨⟨4,xh,yh,xh,yh,rfl,by omega,(by simp [go_sem, *]),(by simp [go_sem, *]),(by simp [go_sem, *]),(by simp [go_sem, *]),(by intro o;simp [go_sem, *]),(by intro o;simp [go_sem, *]),⟨by have:=hfl.out.1;simpa [o9,C7,N1.out] using this,by have:=hfl.out.2;simpa [o9,F8,N2.out] using this⟩,⟨by simp [o9],by simp [o9]⟩,bw⟩,by simp [intOf]⟩
    ·obtain rfl:k=4:=by omega
     have hF:=hfl.out
     simp only [o9,List.drop_succ_cons,List.drop_zero,C7,F8] at hF
     have bz:¬(fx=0/\fy=0)/\¬(lx=0/\ly=0):=by
      have:=hin.out
      have ho:=HO.out
      simp [o9] at this
      omega
     obtain ⟨P,hP⟩:∃v,M7 C S fx fy=v:=⟨_,rfl⟩
     obtain ⟨Q,hQ⟩:∃v,M7 C S lx ly=v:=⟨_,rfl⟩
     obtain ⟨E1,hE1⟩:∃v,N5 C S fx fy=v:=⟨_,rfl⟩
     obtain ⟨E2,hE2⟩:∃v,N5 C S lx ly=v:=⟨_,rfl⟩
     have A1:=b6 fun w=>AN.out fx fy w bf.1.1 bf.1.2 bf.2.1 bf.2.2 bz.1
     have A2:=b6 fun w=>AN.out lx ly w bl.1.1 bl.1.2 bl.2.1 bl.2.2 bz.2
     rw [hP,hE1] at A1
     rw [hQ,hE2] at A2
     have bP:0<=P/\P<21600000:=by rw [<-hP];exact eZ _ _ _ _
     have bQ:0<=Q/\Q<21600000:=by rw [<-hQ];exact eZ _ _ _ _
     have HR:Hid (LO=P/\HI=(if Q<P then Q+21600000 else Q)+(if E2 then 0 else 1)):=by
      have e:=HE.out
      rw [<-hF.1,<-hF.2] at e
      simp only at e
      unfold jW at e
      rw [<-hF.1,<-hF.2] at e
      simp only [hP,hQ,hE2] at e
      exact ⟨e.1.symm,e.2.symm⟩
     have S0:=cell_later hY R0
     have S1:=cell_later hY R1
     have gr:w.heap.size+1+1<wr.heap.size:=World.block_lt_of_cell? _ _ S0
     have SF:∀o,wr.frozen? ⟨w.heap.size+1+1,o,none⟩=false:=fun o=>(hY.frozen (p:=⟨w.heap.size+1+1,o,none⟩) (by have:=World.block_lt_of_cell? _ _ R0;exact this)).trans (RF.out o)
     have hwr:Below w.heap.size w wr:=o5 hY hw1
     clear hF hP hQ hE1 hE2 bf bl bz hfl hin z7 z8
     by_cases hlt:Q<P
     ·cases E2
      all_goals
       obtain ⟨e1,e2⟩:=HR.out
       simp only [if_pos hlt,if_true,if_false,Bool.false_eq_true] at e2
       have HR2:=b6 (And.intro e1 e2)
       clear e1 e2
       go_wp2_with (first|(go_at_call 131;((with_reducible refine am (A1.out _) ?_);intro w' hb);replace hb:=mU;obtain ⟨hcell,hfroz,hz,z6,z7,z8,z9,_⟩:=oH;(have hB1:B1<w'.heap.size:=by omega);(have hB2:B2<w'.heap.size:=by omega);(have hR:w.heap.size+1+1<w'.heap.size:=by omega);obtain ⟨w3,rfl⟩:=nm w')|(go_at_call 131;((with_reducible refine am (A2.out _) ?_);intro w' hb);replace hb:=mU;obtain ⟨hcell,hfroz,hz,z6,z7,z8,z9,_⟩:=oH;(have hB1:B1<w'.heap.size:=by omega);(have hB2:B2<w'.heap.size:=by omega);(have hR:w.heap.size+1+1<w'.heap.size:=by omega);obtain ⟨w4,rfl⟩:=nm w'))
       obtain ⟨rfl,rfl⟩:=HR2.out
       first|exact bodyPost_ret (v:= .tuple #[.agg #[.int .i64 LO,.int .i64 (Q+21600000+1)],.int .i64 0]) (by first|(simp only [results,Tryz.results47];go_simp;done)|simp [results,Tryz.results47,go_sem, *]) rfl ⟨rfl,bw⟩|exact bodyPost_ret (v:= .tuple #[.agg #[.int .i64 LO,.int .i64 (Q+21600000+0)],.int .i64 0]) (by first|(simp only [results,Tryz.results47];go_simp;done)|simp [results,Tryz.results47,go_sem, *]) rfl ⟨rfl,bw⟩|exact bodyPost_ret (v:= .tuple #[.agg #[.int .i64 LO,.int .i64 (Q+1)],.int .i64 0]) (by first|(simp only [results,Tryz.results47];go_simp;done)|simp [results,Tryz.results47,go_sem, *]) rfl ⟨rfl,bw⟩|exact bodyPost_ret (v:= .tuple #[.agg #[.int .i64 LO,.int .i64 (Q+0)],.int .i64 0]) (by first|(simp only [results,Tryz.results47];go_simp;done)|simp [results,Tryz.results47,go_sem, *]) rfl ⟨rfl,bw⟩
     ·cases E2
      all_goals
       obtain ⟨e1,e2⟩:=HR.out
       simp only [if_neg hlt,if_true,if_false,Bool.false_eq_true] at e2
       have HR2:=b6 (And.intro e1 e2)
       clear e1 e2
       go_wp2_with (first|(go_at_call 131;((with_reducible refine am (A1.out _) ?_);intro w' hb);replace hb:=mU;obtain ⟨hcell,hfroz,hz,z6,z7,z8,z9,_⟩:=oH;(have hB1:B1<w'.heap.size:=by omega);(have hB2:B2<w'.heap.size:=by omega);(have hR:w.heap.size+1+1<w'.heap.size:=by omega);obtain ⟨w3,rfl⟩:=nm w')|(go_at_call 131;((with_reducible refine am (A2.out _) ?_);intro w' hb);replace hb:=mU;obtain ⟨hcell,hfroz,hz,z6,z7,z8,z9,_⟩:=oH;(have hB1:B1<w'.heap.size:=by omega);(have hB2:B2<w'.heap.size:=by omega);(have hR:w.heap.size+1+1<w'.heap.size:=by omega);obtain ⟨w4,rfl⟩:=nm w'))
       obtain ⟨rfl,rfl⟩:=HR2.out
       first|exact bodyPost_ret (v:= .tuple #[.agg #[.int .i64 LO,.int .i64 (Q+21600000+1)],.int .i64 0]) (by first|(simp only [results,Tryz.results47];go_simp;done)|simp [results,Tryz.results47,go_sem, *]) rfl ⟨rfl,bw⟩|exact bodyPost_ret (v:= .tuple #[.agg #[.int .i64 LO,.int .i64 (Q+21600000+0)],.int .i64 0]) (by first|(simp only [results,Tryz.results47];go_simp;done)|simp [results,Tryz.results47,go_sem, *]) rfl ⟨rfl,bw⟩|exact bodyPost_ret (v:= .tuple #[.agg #[.int .i64 LO,.int .i64 (Q+1)],.int .i64 0]) (by first|(simp only [results,Tryz.results47];go_simp;done)|simp [results,Tryz.results47,go_sem, *]) rfl ⟨rfl,bw⟩|exact bodyPost_ret (v:= .tuple #[.agg #[.int .i64 LO,.int .i64 (Q+0)],.int .i64 0]) (by first|(simp only [results,Tryz.results47];go_simp;done)|simp [results,Tryz.results47,go_sem, *]) rfl ⟨rfl,bw⟩
end Go.Proofs.YtdhbeoahpfimbaaGreat
