/- Part of the proof of TopDistances. -/
import Derived.Test.YtdhbeoahpfimbaaGreatGr
namespace Go.Proofs.YtdhbeoahpfimbaaGreat
open Go.RowKit
theorem I5 (a b:Int) (B1:Nat) (w:World) (h:I6 w B1):
  Calls Tryz.prog 149 #[.pointer (some ⟨B1,0,none⟩),.agg #[.int .i64 a,.int .i64 b],.int .i64 0] w fun e w'=>e= .returned (.agg #[.int .i64 a,.int .i64 b])/\Below w.heap.size w w':=by
 have hB:=C6 h
 have h4:B1<w.heap.size+1:=(by omega)
 have h5:B1<w.heap.size+1+1:=(by omega)
 obtain ⟨h1,h2⟩:=h
 have hs:((w.alloc (Obj.cells #[.int .i64 a,.int .i64 b] 52)).alloc (Obj.cells #[.int .i64 0,.int .i64 0] 52)).setCell ⟨B1,0,none⟩ (.int .i64 0)=(w.alloc (Obj.cells #[.int .i64 a,.int .i64 b] 52)).alloc (Obj.cells #[.int .i64 0,.int .i64 0] 52):=D9 (by simp [go_sem, *])
 go_enter Tryz.func149,Tryz.ntmps149
 go_wp2
 exact bodyPost_ret (v:= .agg #[.int .i64 a,.int .i64 b]) (by first|(simp only [results,Tryz.results149];go_simp;done)|simp [results,Tryz.results149,go_sem, *]) rfl ⟨rfl,bw⟩
set_option maxRecDepth 100000 in
set_option maxHeartbeats 8000000 in
theorem kW (a b x y:Int) (B1:Nat) (w:World) (h:I6 w B1)
  (S:CB 125 #[.agg #[.int .i64 a,.int .i64 b]] (.tuple #[.agg #[.int .i64 x,.int .i64 y],.int .i64 0])):
  Calls Tryz.prog 65 #[.pointer (some ⟨B1,0,none⟩),.agg #[.int .i64 a,.int .i64 b]] w fun e w'=>e= .returned (.agg #[.int .i64 x,.int .i64 y])/\Below w.heap.size w w':=by
 go_enter Tryz.func65,Tryz.ntmps65
 go_upto_region 1 with fail
 (refine m9 ?_;intro w' hb;replace hb:=mU;obtain ⟨hcell,hfroz,hz,z6,z7,z8,z9,_⟩:=oH)
 have hw0:Below w.heap.size w w':=bw
 have hok:=b9 hw0 h
 have aa0:=cq w' w.heap.size 0 (a)
 have aa1:=cq w' w.heap.size 1 (b)
 have rr0:=cq w' (w.heap.size+1) 0 (0)
 have rr1:=cq w' (w.heap.size+1) 1 (0)
 have rf:∀o,w'.frozen? ⟨w.heap.size+1,o,none⟩=false:=by intro o;simp [go_sem, *]
 clear hcell hfroz hz hb
 obtain ⟨V0,rfl⟩:=nm w'
 have g1:w.heap.size+1<V0.heap.size:=World.block_lt_of_cell? _ _ rr0
 have g0:w.heap.size<V0.heap.size:=by omega
 refine n9 8 (by kernel_rfl) (by kernel_rfl) ?_
 simp only [List.take_succ_cons,List.take_zero,List.drop_succ_cons,List.drop_zero]
 repeat (first|go_big_quiet_step ((first|(go_at_call 125;(with_reducible exact Calls.regrown_of (S.out _)))|(go_at_call 149;(with_reducible exact Calls.regrown_of (I5 x y B1 _ (u8 hok))))))|quiet_step ((first|(go_at_call 125;(with_reducible exact Calls.regrown_of (S.out _)))|(go_at_call 149;(with_reducible exact Calls.regrown_of (I5 x y B1 _ (u8 hok)))))))
 refine wpQuiet_nil ?_;intro w' hw';have hb:=i8 hw';clear hw';replace hb:=mU;obtain ⟨hcell,hfroz,hz,z6,z7,z8,z9,_⟩:=oH
 go_wp2
 exact bodyPost_ret (v:= .agg #[.int .i64 x,.int .i64 y]) (by first|(simp only [results,Tryz.results65];go_simp;done)|simp [results,Tryz.results65,go_sem, *]) rfl ⟨rfl,bw⟩
set_option maxRecDepth 100000 in
set_option maxHeartbeats 8000000 in
theorem qO (a b x y:Int) (B1:Nat) (w:World) (h:I6 w B1)
  (S:CB 124 #[.agg #[.int .i64 a,.int .i64 b]] (.tuple #[.agg #[.int .i64 x,.int .i64 y],.int .i64 0])):
  Calls Tryz.prog 62 #[.pointer (some ⟨B1,0,none⟩),.agg #[.int .i64 a,.int .i64 b]] w fun e w'=>e= .returned (.agg #[.int .i64 x,.int .i64 y])/\Below w.heap.size w w':=by
 go_enter Tryz.func62,Tryz.ntmps62
 go_upto_region 1 with fail
 (refine m9 ?_;intro w' hb;replace hb:=mU;obtain ⟨hcell,hfroz,hz,z6,z7,z8,z9,_⟩:=oH)
 have hw0:Below w.heap.size w w':=bw
 have hok:=b9 hw0 h
 have aa0:=cq w' w.heap.size 0 (a)
 have aa1:=cq w' w.heap.size 1 (b)
 have rr0:=cq w' (w.heap.size+1) 0 (0)
 have rr1:=cq w' (w.heap.size+1) 1 (0)
 have rf:∀o,w'.frozen? ⟨w.heap.size+1,o,none⟩=false:=by intro o;simp [go_sem, *]
 clear hcell hfroz hz hb
 obtain ⟨V0,rfl⟩:=nm w'
 have g1:w.heap.size+1<V0.heap.size:=World.block_lt_of_cell? _ _ rr0
 have g0:w.heap.size<V0.heap.size:=by omega
 refine n9 8 (by kernel_rfl) (by kernel_rfl) ?_
 simp only [List.take_succ_cons,List.take_zero,List.drop_succ_cons,List.drop_zero]
 repeat (first|go_big_quiet_step ((first|(go_at_call 124;(with_reducible exact Calls.regrown_of (S.out _)))|(go_at_call 149;(with_reducible exact Calls.regrown_of (I5 x y B1 _ (u8 hok))))))|quiet_step ((first|(go_at_call 124;(with_reducible exact Calls.regrown_of (S.out _)))|(go_at_call 149;(with_reducible exact Calls.regrown_of (I5 x y B1 _ (u8 hok)))))))
 refine wpQuiet_nil ?_;intro w' hw';have hb:=i8 hw';clear hw';replace hb:=mU;obtain ⟨hcell,hfroz,hz,z6,z7,z8,z9,_⟩:=oH
 go_wp2
 exact bodyPost_ret (v:= .agg #[.int .i64 x,.int .i64 y]) (by first|(simp only [results,Tryz.results62];go_simp;done)|simp [results,Tryz.results62,go_sem, *]) rfl ⟨rfl,bw⟩
set_option maxRecDepth 100000 in
set_option maxHeartbeats 8000000 in
theorem gM (a b x y:Int) (B1:Nat) (w:World) (h:I6 w B1)
  (S:CB 48 #[.agg #[.int .i64 a,.int .i64 b]] (.tuple #[.agg #[.int .i64 x,.int .i64 y],.int .i64 0])):
  Calls Tryz.prog 70 #[.pointer (some ⟨B1,0,none⟩),.agg #[.int .i64 a,.int .i64 b]] w fun e w'=>e= .returned (.agg #[.int .i64 x,.int .i64 y])/\Below w.heap.size w w':=by
 go_enter Tryz.func70,Tryz.ntmps70
 go_upto_region 1 with fail
 (refine m9 ?_;intro w' hb;replace hb:=mU;obtain ⟨hcell,hfroz,hz,z6,z7,z8,z9,_⟩:=oH)
 have hw0:Below w.heap.size w w':=bw
 have hok:=b9 hw0 h
 have aa0:=cq w' w.heap.size 0 (a)
 have aa1:=cq w' w.heap.size 1 (b)
 have rr0:=cq w' (w.heap.size+1) 0 (0)
 have rr1:=cq w' (w.heap.size+1) 1 (0)
 have rf:∀o,w'.frozen? ⟨w.heap.size+1,o,none⟩=false:=by intro o;simp [go_sem, *]
 clear hcell hfroz hz hb
 obtain ⟨V0,rfl⟩:=nm w'
 have g1:w.heap.size+1<V0.heap.size:=World.block_lt_of_cell? _ _ rr0
 have g0:w.heap.size<V0.heap.size:=by omega
 refine n9 8 (by kernel_rfl) (by kernel_rfl) ?_
 simp only [List.take_succ_cons,List.take_zero,List.drop_succ_cons,List.drop_zero]
 repeat (first|go_big_quiet_step ((first|(go_at_call 48;(with_reducible exact Calls.regrown_of (S.out _)))|(go_at_call 149;(with_reducible exact Calls.regrown_of (I5 x y B1 _ (u8 hok))))))|quiet_step ((first|(go_at_call 48;(with_reducible exact Calls.regrown_of (S.out _)))|(go_at_call 149;(with_reducible exact Calls.regrown_of (I5 x y B1 _ (u8 hok)))))))
 refine wpQuiet_nil ?_;intro w' hw';have hb:=i8 hw';clear hw';replace hb:=mU;obtain ⟨hcell,hfroz,hz,z6,z7,z8,z9,_⟩:=oH
 go_wp2
 exact bodyPost_ret (v:= .agg #[.int .i64 x,.int .i64 y]) (by first|(simp only [results,Tryz.results70];go_simp;done)|simp [results,Tryz.results70,go_sem, *]) rfl ⟨rfl,bw⟩
set_option maxRecDepth 100000 in
set_option maxHeartbeats 8000000 in
theorem OH (a b x y:Int) (B1:Nat) (w:World) (h:I6 w B1)
  (S:CB 50 #[.agg #[.int .i64 a,.int .i64 b]] (.tuple #[.agg #[.int .i64 x,.int .i64 y],.int .i64 0])):
  Calls Tryz.prog 68 #[.pointer (some ⟨B1,0,none⟩),.agg #[.int .i64 a,.int .i64 b]] w fun e w'=>e= .returned (.agg #[.int .i64 x,.int .i64 y])/\Below w.heap.size w w':=by
 go_enter Tryz.func68,Tryz.ntmps68
 go_upto_region 1 with fail
 (refine m9 ?_;intro w' hb;replace hb:=mU;obtain ⟨hcell,hfroz,hz,z6,z7,z8,z9,_⟩:=oH)
 have hw0:Below w.heap.size w w':=bw
 have hok:=b9 hw0 h
 have aa0:=cq w' w.heap.size 0 (a)
 have aa1:=cq w' w.heap.size 1 (b)
 have rr0:=cq w' (w.heap.size+1) 0 (0)
 have rr1:=cq w' (w.heap.size+1) 1 (0)
 have rf:∀o,w'.frozen? ⟨w.heap.size+1,o,none⟩=false:=by intro o;simp [go_sem, *]
 clear hcell hfroz hz hb
 obtain ⟨V0,rfl⟩:=nm w'
 have g1:w.heap.size+1<V0.heap.size:=World.block_lt_of_cell? _ _ rr0
 have g0:w.heap.size<V0.heap.size:=by omega
 refine n9 8 (by kernel_rfl) (by kernel_rfl) ?_
 simp only [List.take_succ_cons,List.take_zero,List.drop_succ_cons,List.drop_zero]
 repeat (first|go_big_quiet_step ((first|(go_at_call 50;(with_reducible exact Calls.regrown_of (S.out _)))|(go_at_call 149;(with_reducible exact Calls.regrown_of (I5 x y B1 _ (u8 hok))))))|quiet_step ((first|(go_at_call 50;(with_reducible exact Calls.regrown_of (S.out _)))|(go_at_call 149;(with_reducible exact Calls.regrown_of (I5 x y B1 _ (u8 hok)))))))
 refine wpQuiet_nil ?_;intro w' hw';have hb:=i8 hw';clear hw';replace hb:=mU;obtain ⟨hcell,hfroz,hz,z6,z7,z8,z9,_⟩:=oH
 go_wp2
 exact bodyPost_ret (v:= .agg #[.int .i64 x,.int .i64 y]) (by first|(simp only [results,Tryz.results68];go_simp;done)|simp [results,Tryz.results68,go_sem, *]) rfl ⟨rfl,bw⟩
set_option maxRecDepth 100000 in
set_option maxHeartbeats 8000000 in
theorem F7 (a b c d x y:Int) (B1:Nat) (w:World) (h:I6 w B1)
  (S:CB 150 #[.agg #[.int .i64 a,.int .i64 b],.agg #[.int .i64 c,.int .i64 d]] (.tuple #[.agg #[.int .i64 x,.int .i64 y],.int .i64 0])):
  Calls Tryz.prog 64 #[.pointer (some ⟨B1,0,none⟩),.agg #[.int .i64 a,.int .i64 b],.agg #[.int .i64 c,.int .i64 d]] w fun e w'=>e= .returned (.agg #[.int .i64 x,.int .i64 y])/\Below w.heap.size w w':=by
 go_enter Tryz.func64,Tryz.ntmps64
 go_upto_region 1 with fail
 (refine m9 ?_;intro w' hb;replace hb:=mU;obtain ⟨hcell,hfroz,hz,z6,z7,z8,z9,_⟩:=oH)
 have hw0:Below w.heap.size w w':=bw
 have hok:=b9 hw0 h
 have aa0:=cq w' w.heap.size 0 (a)
 have aa1:=cq w' w.heap.size 1 (b)
 have bb0:=cq w' (w.heap.size+1) 0 (c)
 have bb1:=cq w' (w.heap.size+1) 1 (d)
 have rr0:=cq w' (w.heap.size+1+1) 0 (0)
 have rr1:=cq w' (w.heap.size+1+1) 1 (0)
 have rf:∀o,w'.frozen? ⟨w.heap.size+1+1,o,none⟩=false:=by intro o;simp [go_sem, *]
 clear hcell hfroz hz hb
 obtain ⟨V0,rfl⟩:=nm w'
 have g2:w.heap.size+1+1<V0.heap.size:=World.block_lt_of_cell? _ _ rr0
 have g0:w.heap.size<V0.heap.size:=by omega
 have g1:w.heap.size+1<V0.heap.size:=by omega
 refine n9 9 (by kernel_rfl) (by kernel_rfl) ?_
 simp only [List.take_succ_cons,List.take_zero,List.drop_succ_cons,List.drop_zero]
 repeat (first|go_big_quiet_step ((first|(go_at_call 150;(with_reducible exact Calls.regrown_of (S.out _)))|(go_at_call 149;(with_reducible exact Calls.regrown_of (I5 x y B1 _ (u8 hok))))))|quiet_step ((first|(go_at_call 150;(with_reducible exact Calls.regrown_of (S.out _)))|(go_at_call 149;(with_reducible exact Calls.regrown_of (I5 x y B1 _ (u8 hok)))))))
 refine wpQuiet_nil ?_;intro w' hw';have hb:=i8 hw';clear hw';replace hb:=mU;obtain ⟨hcell,hfroz,hz,z6,z7,z8,z9,_⟩:=oH
 go_wp2
 exact bodyPost_ret (v:= .agg #[.int .i64 x,.int .i64 y]) (by first|(simp only [results,Tryz.results64];go_simp;done)|simp [results,Tryz.results64,go_sem, *]) rfl ⟨rfl,bw⟩
set_option maxRecDepth 100000 in
set_option maxHeartbeats 8000000 in
theorem eH (a b c d x y:Int) (B1:Nat) (w:World) (h:I6 w B1)
  (S:CB 49 #[.agg #[.int .i64 a,.int .i64 b],.agg #[.int .i64 c,.int .i64 d]] (.tuple #[.agg #[.int .i64 x,.int .i64 y],.int .i64 0])):
  Calls Tryz.prog 69 #[.pointer (some ⟨B1,0,none⟩),.agg #[.int .i64 a,.int .i64 b],.agg #[.int .i64 c,.int .i64 d]] w fun e w'=>e= .returned (.agg #[.int .i64 x,.int .i64 y])/\Below w.heap.size w w':=by
 go_enter Tryz.func69,Tryz.ntmps69
 go_upto_region 1 with fail
 (refine m9 ?_;intro w' hb;replace hb:=mU;obtain ⟨hcell,hfroz,hz,z6,z7,z8,z9,_⟩:=oH)
 have hw0:Below w.heap.size w w':=bw
 have hok:=b9 hw0 h
 have aa0:=cq w' w.heap.size 0 (a)
 have aa1:=cq w' w.heap.size 1 (b)
 have bb0:=cq w' (w.heap.size+1) 0 (c)
 have bb1:=cq w' (w.heap.size+1) 1 (d)
 have rr0:=cq w' (w.heap.size+1+1) 0 (0)
 have rr1:=cq w' (w.heap.size+1+1) 1 (0)
 have rf:∀o,w'.frozen? ⟨w.heap.size+1+1,o,none⟩=false:=by intro o;simp [go_sem, *]
 clear hcell hfroz hz hb
 obtain ⟨V0,rfl⟩:=nm w'
 have g2:w.heap.size+1+1<V0.heap.size:=World.block_lt_of_cell? _ _ rr0
 have g0:w.heap.size<V0.heap.size:=by omega
 have g1:w.heap.size+1<V0.heap.size:=by omega
 refine n9 9 (by kernel_rfl) (by kernel_rfl) ?_
 simp only [List.take_succ_cons,List.take_zero,List.drop_succ_cons,List.drop_zero]
 repeat (first|go_big_quiet_step ((first|(go_at_call 49;(with_reducible exact Calls.regrown_of (S.out _)))|(go_at_call 149;(with_reducible exact Calls.regrown_of (I5 x y B1 _ (u8 hok))))))|quiet_step ((first|(go_at_call 49;(with_reducible exact Calls.regrown_of (S.out _)))|(go_at_call 149;(with_reducible exact Calls.regrown_of (I5 x y B1 _ (u8 hok)))))))
 refine wpQuiet_nil ?_;intro w' hw';have hb:=i8 hw';clear hw';replace hb:=mU;obtain ⟨hcell,hfroz,hz,z6,z7,z8,z9,_⟩:=oH
 go_wp2
 exact bodyPost_ret (v:= .agg #[.int .i64 x,.int .i64 y]) (by first|(simp only [results,Tryz.results69];go_simp;done)|simp [results,Tryz.results69,go_sem, *]) rfl ⟨rfl,bw⟩
set_option maxRecDepth 100000 in
set_option maxHeartbeats 8000000 in
theorem eQ (a b c d x y:Int) (B1:Nat) (w:World) (h:I6 w B1)
  (S:CB 224 #[.agg #[.int .i64 a,.int .i64 b],.agg #[.int .i64 c,.int .i64 d]] (.tuple #[.agg #[.int .i64 x,.int .i64 y],.int .i64 0])):
  Calls Tryz.prog 151 #[.pointer (some ⟨B1,0,none⟩),.agg #[.int .i64 a,.int .i64 b],.agg #[.int .i64 c,.int .i64 d]] w fun e w'=>e= .returned (.agg #[.int .i64 x,.int .i64 y])/\Below w.heap.size w w':=by
 go_enter Tryz.func151,Tryz.ntmps151
 go_upto_region 1 with fail
 (refine m9 ?_;intro w' hb;replace hb:=mU;obtain ⟨hcell,hfroz,hz,z6,z7,z8,z9,_⟩:=oH)
 have hw0:Below w.heap.size w w':=bw
 have hok:=b9 hw0 h
 have aa0:=cq w' w.heap.size 0 (a)
 have aa1:=cq w' w.heap.size 1 (b)
 have bb0:=cq w' (w.heap.size+1) 0 (c)
 have bb1:=cq w' (w.heap.size+1) 1 (d)
 have rr0:=cq w' (w.heap.size+1+1) 0 (0)
 have rr1:=cq w' (w.heap.size+1+1) 1 (0)
 have rf:∀o,w'.frozen? ⟨w.heap.size+1+1,o,none⟩=false:=by intro o;simp [go_sem, *]
 clear hcell hfroz hz hb
 obtain ⟨V0,rfl⟩:=nm w'
 have g2:w.heap.size+1+1<V0.heap.size:=World.block_lt_of_cell? _ _ rr0
 have g0:w.heap.size<V0.heap.size:=by omega
 have g1:w.heap.size+1<V0.heap.size:=by omega
 refine n9 9 (by kernel_rfl) (by kernel_rfl) ?_
 simp only [List.take_succ_cons,List.take_zero,List.drop_succ_cons,List.drop_zero]
 repeat (first|go_big_quiet_step ((first|(go_at_call 224;(with_reducible exact Calls.regrown_of (S.out _)))|(go_at_call 149;(with_reducible exact Calls.regrown_of (I5 x y B1 _ (u8 hok))))))|quiet_step ((first|(go_at_call 224;(with_reducible exact Calls.regrown_of (S.out _)))|(go_at_call 149;(with_reducible exact Calls.regrown_of (I5 x y B1 _ (u8 hok)))))))
 refine wpQuiet_nil ?_;intro w' hw';have hb:=i8 hw';clear hw';replace hb:=mU;obtain ⟨hcell,hfroz,hz,z6,z7,z8,z9,_⟩:=oH
 go_wp2
 exact bodyPost_ret (v:= .agg #[.int .i64 x,.int .i64 y]) (by first|(simp only [results,Tryz.results151];go_simp;done)|simp [results,Tryz.results151,go_sem, *]) rfl ⟨rfl,bw⟩
theorem oC (a b c d p q:Int) (B1:Nat) (w:World) (h:I6 w B1):
  Calls Tryz.prog 63 #[.pointer (some ⟨B1,0,none⟩),.agg #[.int .i64 a,.int .i64 b],.agg #[.int .i64 c,.int .i64 d],.agg #[.int .i64 p,.int .i64 q]] w fun e w'=>e= .returned (.tuple #[.agg #[.int .i64 a,.int .i64 b,.int .i64 c,.int .i64 d,.int .i64 p,.int .i64 q],.int .i64 0])/\Below w.heap.size w w':=by
 have hB:=C6 h
 have h4:B1<w.heap.size+1:=(by omega)
 have h5:B1<w.heap.size+1+1:=(by omega)
 have h6:B1<w.heap.size+1+1+1:=(by omega)
 have h7:B1<w.heap.size+1+1+1+1:=(by omega)
 obtain ⟨h1,h2⟩:=h
 go_enter Tryz.func63,Tryz.ntmps63
 go_wp2
 exact bodyPost_ret (v:= .tuple #[.agg #[.int .i64 a,.int .i64 b,.int .i64 c,.int .i64 d,.int .i64 p,.int .i64 q],.int .i64 0]) (by first|(simp only [results,Tryz.results63];go_simp;done)|simp [results,Tryz.results63,go_sem, *]) rfl ⟨rfl,bw⟩
theorem tT (a b c d p q:Int) (w:World) (h1:x8 a b=true) (h2:x8 c d=true) (h3:x8 p q=true):
  Calls Tryz.prog 66 #[.agg #[.int .i64 a,.int .i64 b,.int .i64 c,.int .i64 d,.int .i64 p,.int .i64 q]] w fun e w'=>e= .returned (.bool true)/\Below w.heap.size w w':=by
 have V1:=b6 fun w=>(by have:=D7 a b w;rw [h1] at this;exact this:Calls Tryz.prog 129 #[.agg #[.int .i64 a,.int .i64 b]] w fun e w'=>e= .returned (.bool true)/\Below w.heap.size w w')
 have V2:=b6 fun w=>(by have:=D7 c d w;rw [h2] at this;exact this:Calls Tryz.prog 129 #[.agg #[.int .i64 c,.int .i64 d]] w fun e w'=>e= .returned (.bool true)/\Below w.heap.size w w')
 have V3:=b6 fun w=>(by have:=D7 p q w;rw [h3] at this;exact this:Calls Tryz.prog 129 #[.agg #[.int .i64 p,.int .i64 q]] w fun e w'=>e= .returned (.bool true)/\Below w.heap.size w w')
 clear h1 h2 h3
 go_enter Tryz.func66,Tryz.ntmps66
 go_wp2_with (first|(go_at_call 129;((with_reducible refine am (V1.out _) ?_);intro w' hb);replace hb:=mU;obtain ⟨hcell,hfroz,hz,z6,z7,z8,z9,_⟩:=oH;obtain ⟨w1,rfl⟩:=nm w')|(go_at_call 129;((with_reducible refine am (V2.out _) ?_);intro w' hb);replace hb:=mU;obtain ⟨hcell,hfroz,hz,z6,z7,z8,z9,_⟩:=oH;obtain ⟨w2,rfl⟩:=nm w')|(go_at_call 129;((with_reducible refine am (V3.out _) ?_);intro w' hb);replace hb:=mU;obtain ⟨hcell,hfroz,hz,z6,z7,z8,z9,_⟩:=oH;obtain ⟨w3,rfl⟩:=nm w'))
 go_ret
 exact ⟨rfl,bw⟩
end Go.Proofs.YtdhbeoahpfimbaaGreat
