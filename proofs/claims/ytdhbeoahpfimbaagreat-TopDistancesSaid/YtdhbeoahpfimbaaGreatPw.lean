/- Part of the proof of TopDistances. -/
import Derived.Test.YtdhbeoahpfimbaaGreatGc
import Derived.Test.YtdhbeoahpfimbaaGreatPc
namespace Go.Proofs.YtdhbeoahpfimbaaGreat
open Go.RowKit
theorem eO (m d:Int) (hd:d≠0):fl m d<=ce m d/\ce m d<=fl m d+1:=by
 have f:=uP m d hd
 have c:=TM m d hd
 rw [f,c]
 split<;>split<;>omega
theorem KT {a b c d:Int} {k:Int} (h1:a=c) (h2:b=d):Ending.returned (.tuple #[.int .i64 a,.int .i64 b,.int .i64 k])=Ending.returned (.tuple #[.int .i64 c,.int .i64 d,.int .i64 k]):=by rw [h1,h2]
set_option maxHeartbeats 1000000 in
theorem FE (a b n x1 x2 y1 y2 L H:Int) (w:World) (h1:x8 a b=true) (h:F5 n=true)
  (E1:CB 138 #[.int .i64 a,.int .i64 n,.int .i64 1073741824] (.tuple #[.int .i64 x1,.int .i64 y1,.int .i64 0]))
  (E2:CB 138 #[.int .i64 b,.int .i64 n,.int .i64 1073741824] (.tuple #[.int .i64 x2,.int .i64 y2,.int .i64 0]))
  (hL:min x1 x2=L) (hH:max y1 y2=H):
  Calls Tryz.prog 51 #[.agg #[.int .i64 a,.int .i64 b],.int .i64 n] w fun e w'=>e= .returned (.tuple #[.int .i64 L,.int .i64 H,.int .i64 0])/\Below w.heap.size w w':=by
 replace hL:=b6 hL
 replace hH:=b6 hH
 go_enter Tryz.func51,Tryz.ntmps51
 go_wp2_with (first|(go_at_call 129;refine am (D7 _ _ _) ?_;intro w' hb;replace hb:=mU;obtain ⟨hcell,hfroz,hz,_⟩:=mB)|(go_at_call 137;((with_reducible refine am (v8 _ _) ?_);rintro w' rfl))|(go_at_call 138;((with_reducible refine am (E1.out _) ?_);intro w' hb);replace hb:=mU;obtain ⟨hcell,hfroz,hz,_⟩:=mB)|(go_at_call 138;((with_reducible refine am (E2.out _) ?_);intro w' hb);replace hb:=mU;obtain ⟨hcell,hfroz,hz,_⟩:=mB))
 go_ret3
 exact ⟨KT (by have:=hL.out;omega) (by have:=hH.out;omega),bv⟩
theorem zI {a n:Int} (a0: -2147483648<=a) (a1:a<=2147483648) (n0: -1099511627776<=n) (n1:n<=1099511627776):
  (-1267650600228229401496703205376<=a*n/\a*n<=1267650600228229401496703205376)/\(-9223372036854775808<=fl (a*n) 1073741824/\fl (a*n) 1073741824<=9223372036854775807)/\(-9223372036854775808<=ce (a*n) 1073741824/\ce (a*n) 1073741824<=9223372036854775807):=by
 have:=VN (X:=2147483648) (Y:=1099511627776) (x:=a) (y:=n) (by omega) (by omega)
 rw [sY,yY]
 omega
theorem tX (a b n:Int) (w:World) (h1:x8 a b=true) (h:F5 n=true):
  Calls Tryz.prog 51 #[.agg #[.int .i64 a,.int .i64 b],.int .i64 n] w fun e w'=>e= .returned (.tuple #[.int .i64 (LB a b 1073741824 1073741824 n),.int .i64 (MX a b 1073741824 1073741824 n),.int .i64 0])/\Below w.heap.size w w':=by
 obtain ⟨a1,a2,a3⟩:=K6 h1
 obtain ⟨n0,n1⟩:=zV h
 obtain ⟨p1,f1,c1⟩:=zI (a:=a) (n:=n) (by omega) (by omega) n0 n1
 obtain ⟨p2,f2,c2⟩:=zI (a:=b) (n:=n) (by omega) (by omega) n0 n1
 refine FE a b n _ _ _ _ _ _ w h1 h (b6 fun w=>kC a n 1073741824 _ _ w (by omega) (by omega) (by omega) (by omega) (by omega) (by omega) (by omega) p1.1 p1.2 rfl rfl f1 c1)
  (b6 fun w=>kC b n 1073741824 _ _ w (by omega) (by omega) (by omega) (by omega) (by omega) (by omega) (by omega) p2.1 p2.2 rfl rfl f2 c2) ?_ ?_
 ·rw [sY,sY];unfold LB;omega
 ·rw [yY,yY];unfold MX;omega
set_option maxHeartbeats 4000000 in
theorem DR (a b c d n:Int) (w:World) (h:(x8 a b&&x8 c d)=true) (hr:F5 n=true) (hz:P6 c d=false)
  (E1:Hid (∀w,Calls Tryz.prog 138 #[.int .i64 a,.int .i64 n,.int .i64 c] w fun e w'=>(∃p q:Int,e= .returned (.tuple #[.int .i64 p,.int .i64 q,.int .i64 5]))/\Below w.heap.size w w'))
 :
  Calls Tryz.prog 198 #[.agg #[.int .i64 a,.int .i64 b],.agg #[.int .i64 c,.int .i64 d],.int .i64 n] w fun e w'=>e= .returned (.tuple #[.int .i64 0,.int .i64 0,.int .i64 5])/\Below w.heap.size w w':=by
 go_enter Tryz.func198,Tryz.ntmps198
 go_wp2_with (first|(go_at_call 135;refine am (H9 _ _ _ _ _) ?_;intro w' hb;replace hb:=mU;obtain ⟨hcell,hfroz,hz,_⟩:=mB)|(go_at_call 137;((with_reducible refine am (v8 _ _) ?_);rintro w' rfl))|((go_at_call 254;refine am (U8 _ _ _) ?_;intro w' hb;replace hb:=mU;obtain ⟨hcell,hfroz,hz,_⟩:=mB);obtain ⟨w1,rfl⟩:=nm w'))
 refine wp_loop_rounds 5 ?_
 rw [rounds_succ]
 go_wp2_with (first|(go_at_call 138;((with_reducible refine (E1.out _).mono ?_);rintro e w' ⟨⟨p,q,rfl⟩,hb⟩);replace hb:=mU;obtain ⟨hcell,hfroz,hz,_⟩:=mB;obtain ⟨w2,rfl⟩:=nm w')|(go_at_call 137;((with_reducible refine am (v8 _ _) ?_);rintro w' rfl)))
 go_ret3
 exact ⟨rfl,bv⟩
set_option maxHeartbeats 4000000 in
theorem GD (a b c d n x1 y1:Int) (w:World) (h:(x8 a b&&x8 c d)=true) (hr:F5 n=true) (hz:P6 c d=false)
  (E1:CB 138 #[.int .i64 a,.int .i64 n,.int .i64 c] (.tuple #[.int .i64 x1,.int .i64 y1,.int .i64 0]))
  (E2:Hid (∀w,Calls Tryz.prog 138 #[.int .i64 a,.int .i64 n,.int .i64 d] w fun e w'=>(∃p q:Int,e= .returned (.tuple #[.int .i64 p,.int .i64 q,.int .i64 5]))/\Below w.heap.size w w'))
 :
  Calls Tryz.prog 198 #[.agg #[.int .i64 a,.int .i64 b],.agg #[.int .i64 c,.int .i64 d],.int .i64 n] w fun e w'=>e= .returned (.tuple #[.int .i64 0,.int .i64 0,.int .i64 5])/\Below w.heap.size w w':=by
 go_enter Tryz.func198,Tryz.ntmps198
 go_wp2_with (first|(go_at_call 135;refine am (H9 _ _ _ _ _) ?_;intro w' hb;replace hb:=mU;obtain ⟨hcell,hfroz,hz,_⟩:=mB)|(go_at_call 137;((with_reducible refine am (v8 _ _) ?_);rintro w' rfl))|((go_at_call 254;refine am (U8 _ _ _) ?_;intro w' hb;replace hb:=mU;obtain ⟨hcell,hfroz,hz,_⟩:=mB);obtain ⟨w1,rfl⟩:=nm w'))
 refine wp_loop_rounds 5 ?_
 rw [rounds_succ]
 go_wp2_with (first|(go_at_call 138;((with_reducible refine am (E1.out _) ?_);intro w' hb);replace hb:=mU;obtain ⟨hcell,hfroz,hz,_⟩:=mB;obtain ⟨w2,rfl⟩:=nm w')|(go_at_call 138;((with_reducible refine (E2.out _).mono ?_);rintro e w' ⟨⟨p,q,rfl⟩,hb⟩);replace hb:=mU;obtain ⟨hcell,hfroz,hz,_⟩:=mB;obtain ⟨w3,rfl⟩:=nm w')|(go_at_call 137;((with_reducible refine am (v8 _ _) ?_);rintro w' rfl)))
 rw [rounds_succ]
 go_wp2_with (first|(go_at_call 138;((with_reducible refine am (E1.out _) ?_);intro w' hb);replace hb:=mU;obtain ⟨hcell,hfroz,hz,_⟩:=mB;obtain ⟨w2,rfl⟩:=nm w')|(go_at_call 138;((with_reducible refine (E2.out _).mono ?_);rintro e w' ⟨⟨p,q,rfl⟩,hb⟩);replace hb:=mU;obtain ⟨hcell,hfroz,hz,_⟩:=mB;obtain ⟨w3,rfl⟩:=nm w')|(go_at_call 137;((with_reducible refine am (v8 _ _) ?_);rintro w' rfl)))
 go_ret3
 exact ⟨rfl,bv⟩
set_option maxHeartbeats 4000000 in
theorem DK (a b c d n x1 y1 x2 y2:Int) (w:World) (h:(x8 a b&&x8 c d)=true) (hr:F5 n=true) (hz:P6 c d=false)
  (E1:CB 138 #[.int .i64 a,.int .i64 n,.int .i64 c] (.tuple #[.int .i64 x1,.int .i64 y1,.int .i64 0]))
  (E2:CB 138 #[.int .i64 a,.int .i64 n,.int .i64 d] (.tuple #[.int .i64 x2,.int .i64 y2,.int .i64 0]))
  (E3:Hid (∀w,Calls Tryz.prog 138 #[.int .i64 b,.int .i64 n,.int .i64 c] w fun e w'=>(∃p q:Int,e= .returned (.tuple #[.int .i64 p,.int .i64 q,.int .i64 5]))/\Below w.heap.size w w'))
 :
  Calls Tryz.prog 198 #[.agg #[.int .i64 a,.int .i64 b],.agg #[.int .i64 c,.int .i64 d],.int .i64 n] w fun e w'=>e= .returned (.tuple #[.int .i64 0,.int .i64 0,.int .i64 5])/\Below w.heap.size w w':=by
 go_enter Tryz.func198,Tryz.ntmps198
 go_wp2_with (first|(go_at_call 135;refine am (H9 _ _ _ _ _) ?_;intro w' hb;replace hb:=mU;obtain ⟨hcell,hfroz,hz,_⟩:=mB)|(go_at_call 137;((with_reducible refine am (v8 _ _) ?_);rintro w' rfl))|((go_at_call 254;refine am (U8 _ _ _) ?_;intro w' hb;replace hb:=mU;obtain ⟨hcell,hfroz,hz,_⟩:=mB);obtain ⟨w1,rfl⟩:=nm w'))
 refine wp_loop_rounds 5 ?_
 rw [rounds_succ]
 go_wp2_with (first|(go_at_call 138;((with_reducible refine am (E1.out _) ?_);intro w' hb);replace hb:=mU;obtain ⟨hcell,hfroz,hz,_⟩:=mB;obtain ⟨w2,rfl⟩:=nm w')|(go_at_call 138;((with_reducible refine am (E2.out _) ?_);intro w' hb);replace hb:=mU;obtain ⟨hcell,hfroz,hz,_⟩:=mB;obtain ⟨w3,rfl⟩:=nm w')|(go_at_call 138;((with_reducible refine (E3.out _).mono ?_);rintro e w' ⟨⟨p,q,rfl⟩,hb⟩);replace hb:=mU;obtain ⟨hcell,hfroz,hz,_⟩:=mB;obtain ⟨w4,rfl⟩:=nm w')|(go_at_call 137;((with_reducible refine am (v8 _ _) ?_);rintro w' rfl)))
 rw [rounds_succ]
 go_wp2_with (first|(go_at_call 138;((with_reducible refine am (E1.out _) ?_);intro w' hb);replace hb:=mU;obtain ⟨hcell,hfroz,hz,_⟩:=mB;obtain ⟨w2,rfl⟩:=nm w')|(go_at_call 138;((with_reducible refine am (E2.out _) ?_);intro w' hb);replace hb:=mU;obtain ⟨hcell,hfroz,hz,_⟩:=mB;obtain ⟨w3,rfl⟩:=nm w')|(go_at_call 138;((with_reducible refine (E3.out _).mono ?_);rintro e w' ⟨⟨p,q,rfl⟩,hb⟩);replace hb:=mU;obtain ⟨hcell,hfroz,hz,_⟩:=mB;obtain ⟨w4,rfl⟩:=nm w')|(go_at_call 137;((with_reducible refine am (v8 _ _) ?_);rintro w' rfl)))
 rw [rounds_succ]
 go_wp2_with (first|(go_at_call 138;((with_reducible refine am (E1.out _) ?_);intro w' hb);replace hb:=mU;obtain ⟨hcell,hfroz,hz,_⟩:=mB;obtain ⟨w2,rfl⟩:=nm w')|(go_at_call 138;((with_reducible refine am (E2.out _) ?_);intro w' hb);replace hb:=mU;obtain ⟨hcell,hfroz,hz,_⟩:=mB;obtain ⟨w3,rfl⟩:=nm w')|(go_at_call 138;((with_reducible refine (E3.out _).mono ?_);rintro e w' ⟨⟨p,q,rfl⟩,hb⟩);replace hb:=mU;obtain ⟨hcell,hfroz,hz,_⟩:=mB;obtain ⟨w4,rfl⟩:=nm w')|(go_at_call 137;((with_reducible refine am (v8 _ _) ?_);rintro w' rfl)))
 go_ret3
 exact ⟨rfl,bv⟩
set_option maxHeartbeats 4000000 in
theorem DA (a b c d n x1 y1 x2 y2 x3 y3:Int) (w:World) (h:(x8 a b&&x8 c d)=true) (hr:F5 n=true) (hz:P6 c d=false)
  (E1:CB 138 #[.int .i64 a,.int .i64 n,.int .i64 c] (.tuple #[.int .i64 x1,.int .i64 y1,.int .i64 0]))
  (E2:CB 138 #[.int .i64 a,.int .i64 n,.int .i64 d] (.tuple #[.int .i64 x2,.int .i64 y2,.int .i64 0]))
  (E3:CB 138 #[.int .i64 b,.int .i64 n,.int .i64 c] (.tuple #[.int .i64 x3,.int .i64 y3,.int .i64 0]))
  (E4:Hid (∀w,Calls Tryz.prog 138 #[.int .i64 b,.int .i64 n,.int .i64 d] w fun e w'=>(∃p q:Int,e= .returned (.tuple #[.int .i64 p,.int .i64 q,.int .i64 5]))/\Below w.heap.size w w'))
 :
  Calls Tryz.prog 198 #[.agg #[.int .i64 a,.int .i64 b],.agg #[.int .i64 c,.int .i64 d],.int .i64 n] w fun e w'=>e= .returned (.tuple #[.int .i64 0,.int .i64 0,.int .i64 5])/\Below w.heap.size w w':=by
 go_enter Tryz.func198,Tryz.ntmps198
 go_wp2_with (first|(go_at_call 135;refine am (H9 _ _ _ _ _) ?_;intro w' hb;replace hb:=mU;obtain ⟨hcell,hfroz,hz,_⟩:=mB)|(go_at_call 137;((with_reducible refine am (v8 _ _) ?_);rintro w' rfl))|((go_at_call 254;refine am (U8 _ _ _) ?_;intro w' hb;replace hb:=mU;obtain ⟨hcell,hfroz,hz,_⟩:=mB);obtain ⟨w1,rfl⟩:=nm w'))
 refine wp_loop_rounds 5 ?_
 rw [rounds_succ]
 go_wp2_with (first|(go_at_call 138;((with_reducible refine am (E1.out _) ?_);intro w' hb);replace hb:=mU;obtain ⟨hcell,hfroz,hz,_⟩:=mB;obtain ⟨w2,rfl⟩:=nm w')|(go_at_call 138;((with_reducible refine am (E2.out _) ?_);intro w' hb);replace hb:=mU;obtain ⟨hcell,hfroz,hz,_⟩:=mB;obtain ⟨w3,rfl⟩:=nm w')|(go_at_call 138;((with_reducible refine am (E3.out _) ?_);intro w' hb);replace hb:=mU;obtain ⟨hcell,hfroz,hz,_⟩:=mB;obtain ⟨w4,rfl⟩:=nm w')|(go_at_call 138;((with_reducible refine (E4.out _).mono ?_);rintro e w' ⟨⟨p,q,rfl⟩,hb⟩);replace hb:=mU;obtain ⟨hcell,hfroz,hz,_⟩:=mB;obtain ⟨w5,rfl⟩:=nm w')|(go_at_call 137;((with_reducible refine am (v8 _ _) ?_);rintro w' rfl)))
 rw [rounds_succ]
 go_wp2_with (first|(go_at_call 138;((with_reducible refine am (E1.out _) ?_);intro w' hb);replace hb:=mU;obtain ⟨hcell,hfroz,hz,_⟩:=mB;obtain ⟨w2,rfl⟩:=nm w')|(go_at_call 138;((with_reducible refine am (E2.out _) ?_);intro w' hb);replace hb:=mU;obtain ⟨hcell,hfroz,hz,_⟩:=mB;obtain ⟨w3,rfl⟩:=nm w')|(go_at_call 138;((with_reducible refine am (E3.out _) ?_);intro w' hb);replace hb:=mU;obtain ⟨hcell,hfroz,hz,_⟩:=mB;obtain ⟨w4,rfl⟩:=nm w')|(go_at_call 138;((with_reducible refine (E4.out _).mono ?_);rintro e w' ⟨⟨p,q,rfl⟩,hb⟩);replace hb:=mU;obtain ⟨hcell,hfroz,hz,_⟩:=mB;obtain ⟨w5,rfl⟩:=nm w')|(go_at_call 137;((with_reducible refine am (v8 _ _) ?_);rintro w' rfl)))
 rw [rounds_succ]
 go_wp2_with (first|(go_at_call 138;((with_reducible refine am (E1.out _) ?_);intro w' hb);replace hb:=mU;obtain ⟨hcell,hfroz,hz,_⟩:=mB;obtain ⟨w2,rfl⟩:=nm w')|(go_at_call 138;((with_reducible refine am (E2.out _) ?_);intro w' hb);replace hb:=mU;obtain ⟨hcell,hfroz,hz,_⟩:=mB;obtain ⟨w3,rfl⟩:=nm w')|(go_at_call 138;((with_reducible refine am (E3.out _) ?_);intro w' hb);replace hb:=mU;obtain ⟨hcell,hfroz,hz,_⟩:=mB;obtain ⟨w4,rfl⟩:=nm w')|(go_at_call 138;((with_reducible refine (E4.out _).mono ?_);rintro e w' ⟨⟨p,q,rfl⟩,hb⟩);replace hb:=mU;obtain ⟨hcell,hfroz,hz,_⟩:=mB;obtain ⟨w5,rfl⟩:=nm w')|(go_at_call 137;((with_reducible refine am (v8 _ _) ?_);rintro w' rfl)))
 rw [rounds_succ]
 go_wp2_with (first|(go_at_call 138;((with_reducible refine am (E1.out _) ?_);intro w' hb);replace hb:=mU;obtain ⟨hcell,hfroz,hz,_⟩:=mB;obtain ⟨w2,rfl⟩:=nm w')|(go_at_call 138;((with_reducible refine am (E2.out _) ?_);intro w' hb);replace hb:=mU;obtain ⟨hcell,hfroz,hz,_⟩:=mB;obtain ⟨w3,rfl⟩:=nm w')|(go_at_call 138;((with_reducible refine am (E3.out _) ?_);intro w' hb);replace hb:=mU;obtain ⟨hcell,hfroz,hz,_⟩:=mB;obtain ⟨w4,rfl⟩:=nm w')|(go_at_call 138;((with_reducible refine (E4.out _).mono ?_);rintro e w' ⟨⟨p,q,rfl⟩,hb⟩);replace hb:=mU;obtain ⟨hcell,hfroz,hz,_⟩:=mB;obtain ⟨w5,rfl⟩:=nm w')|(go_at_call 137;((with_reducible refine am (v8 _ _) ?_);rintro w' rfl)))
 go_ret3
 exact ⟨rfl,bv⟩
set_option maxHeartbeats 4000000 in
theorem XE (a b c d n x1 y1 x2 y2 x3 y3 x4 y4 L H:Int) (w:World) (h:(x8 a b&&x8 c d)=true) (hr:F5 n=true) (hz:P6 c d=false)
  (E1:CB 138 #[.int .i64 a,.int .i64 n,.int .i64 c] (.tuple #[.int .i64 x1,.int .i64 y1,.int .i64 0]))
  (E2:CB 138 #[.int .i64 a,.int .i64 n,.int .i64 d] (.tuple #[.int .i64 x2,.int .i64 y2,.int .i64 0]))
  (E3:CB 138 #[.int .i64 b,.int .i64 n,.int .i64 c] (.tuple #[.int .i64 x3,.int .i64 y3,.int .i64 0]))
  (E4:CB 138 #[.int .i64 b,.int .i64 n,.int .i64 d] (.tuple #[.int .i64 x4,.int .i64 y4,.int .i64 0]))
  (hL:min x1 (min x2 (min x3 x4))=L) (hH:max y1 (max y2 (max y3 y4))=H) (r1:F5 L=false):
  Calls Tryz.prog 198 #[.agg #[.int .i64 a,.int .i64 b],.agg #[.int .i64 c,.int .i64 d],.int .i64 n] w fun e w'=>e= .returned (.tuple #[.int .i64 0,.int .i64 0,.int .i64 5])/\Below w.heap.size w w':=by
 go_enter Tryz.func198,Tryz.ntmps198
 go_wp2_with (first|(go_at_call 135;refine am (H9 _ _ _ _ _) ?_;intro w' hb;replace hb:=mU;obtain ⟨hcell,hfroz,hz,_⟩:=mB)|(go_at_call 137;((with_reducible refine am (v8 _ _) ?_);rintro w' rfl))|((go_at_call 254;refine am (U8 _ _ _) ?_;intro w' hb;replace hb:=mU;obtain ⟨hcell,hfroz,hz,_⟩:=mB);obtain ⟨w1,rfl⟩:=nm w'))
 refine wp_loop_rounds 5 ?_
 rw [rounds_succ]
 go_wp2_with (first|(go_at_call 138;((with_reducible refine am (E1.out _) ?_);intro w' hb);replace hb:=mU;obtain ⟨hcell,hfroz,hz,_⟩:=mB;obtain ⟨w2,rfl⟩:=nm w')|(go_at_call 138;((with_reducible refine am (E2.out _) ?_);intro w' hb);replace hb:=mU;obtain ⟨hcell,hfroz,hz,_⟩:=mB;obtain ⟨w3,rfl⟩:=nm w')|(go_at_call 138;((with_reducible refine am (E3.out _) ?_);intro w' hb);replace hb:=mU;obtain ⟨hcell,hfroz,hz,_⟩:=mB;obtain ⟨w4,rfl⟩:=nm w')|(go_at_call 138;((with_reducible refine am (E4.out _) ?_);intro w' hb);replace hb:=mU;obtain ⟨hcell,hfroz,hz,_⟩:=mB;obtain ⟨w5,rfl⟩:=nm w')|(go_at_call 137;((with_reducible refine am (v8 _ _) ?_);rintro w' rfl)))
 rw [rounds_succ]
 go_wp2_with (first|(go_at_call 138;((with_reducible refine am (E1.out _) ?_);intro w' hb);replace hb:=mU;obtain ⟨hcell,hfroz,hz,_⟩:=mB;obtain ⟨w2,rfl⟩:=nm w')|(go_at_call 138;((with_reducible refine am (E2.out _) ?_);intro w' hb);replace hb:=mU;obtain ⟨hcell,hfroz,hz,_⟩:=mB;obtain ⟨w3,rfl⟩:=nm w')|(go_at_call 138;((with_reducible refine am (E3.out _) ?_);intro w' hb);replace hb:=mU;obtain ⟨hcell,hfroz,hz,_⟩:=mB;obtain ⟨w4,rfl⟩:=nm w')|(go_at_call 138;((with_reducible refine am (E4.out _) ?_);intro w' hb);replace hb:=mU;obtain ⟨hcell,hfroz,hz,_⟩:=mB;obtain ⟨w5,rfl⟩:=nm w')|(go_at_call 137;((with_reducible refine am (v8 _ _) ?_);rintro w' rfl)))
 rw [rounds_succ]
 go_wp2_with (first|(go_at_call 138;((with_reducible refine am (E1.out _) ?_);intro w' hb);replace hb:=mU;obtain ⟨hcell,hfroz,hz,_⟩:=mB;obtain ⟨w2,rfl⟩:=nm w')|(go_at_call 138;((with_reducible refine am (E2.out _) ?_);intro w' hb);replace hb:=mU;obtain ⟨hcell,hfroz,hz,_⟩:=mB;obtain ⟨w3,rfl⟩:=nm w')|(go_at_call 138;((with_reducible refine am (E3.out _) ?_);intro w' hb);replace hb:=mU;obtain ⟨hcell,hfroz,hz,_⟩:=mB;obtain ⟨w4,rfl⟩:=nm w')|(go_at_call 138;((with_reducible refine am (E4.out _) ?_);intro w' hb);replace hb:=mU;obtain ⟨hcell,hfroz,hz,_⟩:=mB;obtain ⟨w5,rfl⟩:=nm w')|(go_at_call 137;((with_reducible refine am (v8 _ _) ?_);rintro w' rfl)))
 rw [rounds_succ]
 go_wp2_with (first|(go_at_call 138;((with_reducible refine am (E1.out _) ?_);intro w' hb);replace hb:=mU;obtain ⟨hcell,hfroz,hz,_⟩:=mB;obtain ⟨w2,rfl⟩:=nm w')|(go_at_call 138;((with_reducible refine am (E2.out _) ?_);intro w' hb);replace hb:=mU;obtain ⟨hcell,hfroz,hz,_⟩:=mB;obtain ⟨w3,rfl⟩:=nm w')|(go_at_call 138;((with_reducible refine am (E3.out _) ?_);intro w' hb);replace hb:=mU;obtain ⟨hcell,hfroz,hz,_⟩:=mB;obtain ⟨w4,rfl⟩:=nm w')|(go_at_call 138;((with_reducible refine am (E4.out _) ?_);intro w' hb);replace hb:=mU;obtain ⟨hcell,hfroz,hz,_⟩:=mB;obtain ⟨w5,rfl⟩:=nm w')|(go_at_call 137;((with_reducible refine am (v8 _ _) ?_);rintro w' rfl)))
 rw [rounds_succ]
 go_wp2_with (first|(go_at_call 138;((with_reducible refine am (E1.out _) ?_);intro w' hb);replace hb:=mU;obtain ⟨hcell,hfroz,hz,_⟩:=mB;obtain ⟨w2,rfl⟩:=nm w')|(go_at_call 138;((with_reducible refine am (E2.out _) ?_);intro w' hb);replace hb:=mU;obtain ⟨hcell,hfroz,hz,_⟩:=mB;obtain ⟨w3,rfl⟩:=nm w')|(go_at_call 138;((with_reducible refine am (E3.out _) ?_);intro w' hb);replace hb:=mU;obtain ⟨hcell,hfroz,hz,_⟩:=mB;obtain ⟨w4,rfl⟩:=nm w')|(go_at_call 138;((with_reducible refine am (E4.out _) ?_);intro w' hb);replace hb:=mU;obtain ⟨hcell,hfroz,hz,_⟩:=mB;obtain ⟨w5,rfl⟩:=nm w')|(go_at_call 137;((with_reducible refine am (v8 _ _) ?_);rintro w' rfl)))
 go_ret3
 exact ⟨rfl,bv⟩
set_option maxHeartbeats 4000000 in
theorem VJ (a b c d n x1 y1 x2 y2 x3 y3 x4 y4 L H:Int) (w:World) (h:(x8 a b&&x8 c d)=true) (hr:F5 n=true) (hz:P6 c d=false)
  (E1:CB 138 #[.int .i64 a,.int .i64 n,.int .i64 c] (.tuple #[.int .i64 x1,.int .i64 y1,.int .i64 0]))
  (E2:CB 138 #[.int .i64 a,.int .i64 n,.int .i64 d] (.tuple #[.int .i64 x2,.int .i64 y2,.int .i64 0]))
  (E3:CB 138 #[.int .i64 b,.int .i64 n,.int .i64 c] (.tuple #[.int .i64 x3,.int .i64 y3,.int .i64 0]))
  (E4:CB 138 #[.int .i64 b,.int .i64 n,.int .i64 d] (.tuple #[.int .i64 x4,.int .i64 y4,.int .i64 0]))
  (hL:min x1 (min x2 (min x3 x4))=L) (hH:max y1 (max y2 (max y3 y4))=H) (r1:F5 L=true) (r2:F5 H=false):
  Calls Tryz.prog 198 #[.agg #[.int .i64 a,.int .i64 b],.agg #[.int .i64 c,.int .i64 d],.int .i64 n] w fun e w'=>e= .returned (.tuple #[.int .i64 0,.int .i64 0,.int .i64 5])/\Below w.heap.size w w':=by
 go_enter Tryz.func198,Tryz.ntmps198
 go_wp2_with (first|(go_at_call 135;refine am (H9 _ _ _ _ _) ?_;intro w' hb;replace hb:=mU;obtain ⟨hcell,hfroz,hz,_⟩:=mB)|(go_at_call 137;((with_reducible refine am (v8 _ _) ?_);rintro w' rfl))|((go_at_call 254;refine am (U8 _ _ _) ?_;intro w' hb;replace hb:=mU;obtain ⟨hcell,hfroz,hz,_⟩:=mB);obtain ⟨w1,rfl⟩:=nm w'))
 refine wp_loop_rounds 5 ?_
 rw [rounds_succ]
 go_wp2_with (first|(go_at_call 138;((with_reducible refine am (E1.out _) ?_);intro w' hb);replace hb:=mU;obtain ⟨hcell,hfroz,hz,_⟩:=mB;obtain ⟨w2,rfl⟩:=nm w')|(go_at_call 138;((with_reducible refine am (E2.out _) ?_);intro w' hb);replace hb:=mU;obtain ⟨hcell,hfroz,hz,_⟩:=mB;obtain ⟨w3,rfl⟩:=nm w')|(go_at_call 138;((with_reducible refine am (E3.out _) ?_);intro w' hb);replace hb:=mU;obtain ⟨hcell,hfroz,hz,_⟩:=mB;obtain ⟨w4,rfl⟩:=nm w')|(go_at_call 138;((with_reducible refine am (E4.out _) ?_);intro w' hb);replace hb:=mU;obtain ⟨hcell,hfroz,hz,_⟩:=mB;obtain ⟨w5,rfl⟩:=nm w')|(go_at_call 137;((with_reducible refine am (v8 _ _) ?_);rintro w' rfl)))
 rw [rounds_succ]
 go_wp2_with (first|(go_at_call 138;((with_reducible refine am (E1.out _) ?_);intro w' hb);replace hb:=mU;obtain ⟨hcell,hfroz,hz,_⟩:=mB;obtain ⟨w2,rfl⟩:=nm w')|(go_at_call 138;((with_reducible refine am (E2.out _) ?_);intro w' hb);replace hb:=mU;obtain ⟨hcell,hfroz,hz,_⟩:=mB;obtain ⟨w3,rfl⟩:=nm w')|(go_at_call 138;((with_reducible refine am (E3.out _) ?_);intro w' hb);replace hb:=mU;obtain ⟨hcell,hfroz,hz,_⟩:=mB;obtain ⟨w4,rfl⟩:=nm w')|(go_at_call 138;((with_reducible refine am (E4.out _) ?_);intro w' hb);replace hb:=mU;obtain ⟨hcell,hfroz,hz,_⟩:=mB;obtain ⟨w5,rfl⟩:=nm w')|(go_at_call 137;((with_reducible refine am (v8 _ _) ?_);rintro w' rfl)))
 rw [rounds_succ]
 go_wp2_with (first|(go_at_call 138;((with_reducible refine am (E1.out _) ?_);intro w' hb);replace hb:=mU;obtain ⟨hcell,hfroz,hz,_⟩:=mB;obtain ⟨w2,rfl⟩:=nm w')|(go_at_call 138;((with_reducible refine am (E2.out _) ?_);intro w' hb);replace hb:=mU;obtain ⟨hcell,hfroz,hz,_⟩:=mB;obtain ⟨w3,rfl⟩:=nm w')|(go_at_call 138;((with_reducible refine am (E3.out _) ?_);intro w' hb);replace hb:=mU;obtain ⟨hcell,hfroz,hz,_⟩:=mB;obtain ⟨w4,rfl⟩:=nm w')|(go_at_call 138;((with_reducible refine am (E4.out _) ?_);intro w' hb);replace hb:=mU;obtain ⟨hcell,hfroz,hz,_⟩:=mB;obtain ⟨w5,rfl⟩:=nm w')|(go_at_call 137;((with_reducible refine am (v8 _ _) ?_);rintro w' rfl)))
 rw [rounds_succ]
 go_wp2_with (first|(go_at_call 138;((with_reducible refine am (E1.out _) ?_);intro w' hb);replace hb:=mU;obtain ⟨hcell,hfroz,hz,_⟩:=mB;obtain ⟨w2,rfl⟩:=nm w')|(go_at_call 138;((with_reducible refine am (E2.out _) ?_);intro w' hb);replace hb:=mU;obtain ⟨hcell,hfroz,hz,_⟩:=mB;obtain ⟨w3,rfl⟩:=nm w')|(go_at_call 138;((with_reducible refine am (E3.out _) ?_);intro w' hb);replace hb:=mU;obtain ⟨hcell,hfroz,hz,_⟩:=mB;obtain ⟨w4,rfl⟩:=nm w')|(go_at_call 138;((with_reducible refine am (E4.out _) ?_);intro w' hb);replace hb:=mU;obtain ⟨hcell,hfroz,hz,_⟩:=mB;obtain ⟨w5,rfl⟩:=nm w')|(go_at_call 137;((with_reducible refine am (v8 _ _) ?_);rintro w' rfl)))
 rw [rounds_succ]
 go_wp2_with (first|(go_at_call 138;((with_reducible refine am (E1.out _) ?_);intro w' hb);replace hb:=mU;obtain ⟨hcell,hfroz,hz,_⟩:=mB;obtain ⟨w2,rfl⟩:=nm w')|(go_at_call 138;((with_reducible refine am (E2.out _) ?_);intro w' hb);replace hb:=mU;obtain ⟨hcell,hfroz,hz,_⟩:=mB;obtain ⟨w3,rfl⟩:=nm w')|(go_at_call 138;((with_reducible refine am (E3.out _) ?_);intro w' hb);replace hb:=mU;obtain ⟨hcell,hfroz,hz,_⟩:=mB;obtain ⟨w4,rfl⟩:=nm w')|(go_at_call 138;((with_reducible refine am (E4.out _) ?_);intro w' hb);replace hb:=mU;obtain ⟨hcell,hfroz,hz,_⟩:=mB;obtain ⟨w5,rfl⟩:=nm w')|(go_at_call 137;((with_reducible refine am (v8 _ _) ?_);rintro w' rfl)))
 go_ret3
 exact ⟨rfl,bv⟩
set_option maxHeartbeats 4000000 in
theorem a0m (a b c d n x1 y1 x2 y2 x3 y3 x4 y4 L H:Int) (w:World) (h:(x8 a b&&x8 c d)=true) (hr:F5 n=true) (hz:P6 c d=false)
  (E1:CB 138 #[.int .i64 a,.int .i64 n,.int .i64 c] (.tuple #[.int .i64 x1,.int .i64 y1,.int .i64 0]))
  (E2:CB 138 #[.int .i64 a,.int .i64 n,.int .i64 d] (.tuple #[.int .i64 x2,.int .i64 y2,.int .i64 0]))
  (E3:CB 138 #[.int .i64 b,.int .i64 n,.int .i64 c] (.tuple #[.int .i64 x3,.int .i64 y3,.int .i64 0]))
  (E4:CB 138 #[.int .i64 b,.int .i64 n,.int .i64 d] (.tuple #[.int .i64 x4,.int .i64 y4,.int .i64 0]))
  (hL:min x1 (min x2 (min x3 x4))=L) (hH:max y1 (max y2 (max y3 y4))=H) (r1:F5 L=true) (r2:F5 H=true):
  Calls Tryz.prog 198 #[.agg #[.int .i64 a,.int .i64 b],.agg #[.int .i64 c,.int .i64 d],.int .i64 n] w fun e w'=>e= .returned (.tuple #[.int .i64 L,.int .i64 H,.int .i64 0])/\Below w.heap.size w w':=by
 go_enter Tryz.func198,Tryz.ntmps198
 go_wp2_with (first|(go_at_call 135;refine am (H9 _ _ _ _ _) ?_;intro w' hb;replace hb:=mU;obtain ⟨hcell,hfroz,hz,_⟩:=mB)|(go_at_call 137;((with_reducible refine am (v8 _ _) ?_);rintro w' rfl))|((go_at_call 254;refine am (U8 _ _ _) ?_;intro w' hb;replace hb:=mU;obtain ⟨hcell,hfroz,hz,_⟩:=mB);obtain ⟨w1,rfl⟩:=nm w'))
 refine wp_loop_rounds 5 ?_
 rw [rounds_succ]
 go_wp2_with (first|(go_at_call 138;((with_reducible refine am (E1.out _) ?_);intro w' hb);replace hb:=mU;obtain ⟨hcell,hfroz,hz,_⟩:=mB;obtain ⟨w2,rfl⟩:=nm w')|(go_at_call 138;((with_reducible refine am (E2.out _) ?_);intro w' hb);replace hb:=mU;obtain ⟨hcell,hfroz,hz,_⟩:=mB;obtain ⟨w3,rfl⟩:=nm w')|(go_at_call 138;((with_reducible refine am (E3.out _) ?_);intro w' hb);replace hb:=mU;obtain ⟨hcell,hfroz,hz,_⟩:=mB;obtain ⟨w4,rfl⟩:=nm w')|(go_at_call 138;((with_reducible refine am (E4.out _) ?_);intro w' hb);replace hb:=mU;obtain ⟨hcell,hfroz,hz,_⟩:=mB;obtain ⟨w5,rfl⟩:=nm w')|(go_at_call 137;((with_reducible refine am (v8 _ _) ?_);rintro w' rfl)))
 rw [rounds_succ]
 go_wp2_with (first|(go_at_call 138;((with_reducible refine am (E1.out _) ?_);intro w' hb);replace hb:=mU;obtain ⟨hcell,hfroz,hz,_⟩:=mB;obtain ⟨w2,rfl⟩:=nm w')|(go_at_call 138;((with_reducible refine am (E2.out _) ?_);intro w' hb);replace hb:=mU;obtain ⟨hcell,hfroz,hz,_⟩:=mB;obtain ⟨w3,rfl⟩:=nm w')|(go_at_call 138;((with_reducible refine am (E3.out _) ?_);intro w' hb);replace hb:=mU;obtain ⟨hcell,hfroz,hz,_⟩:=mB;obtain ⟨w4,rfl⟩:=nm w')|(go_at_call 138;((with_reducible refine am (E4.out _) ?_);intro w' hb);replace hb:=mU;obtain ⟨hcell,hfroz,hz,_⟩:=mB;obtain ⟨w5,rfl⟩:=nm w')|(go_at_call 137;((with_reducible refine am (v8 _ _) ?_);rintro w' rfl)))
 rw [rounds_succ]
 go_wp2_with (first|(go_at_call 138;((with_reducible refine am (E1.out _) ?_);intro w' hb);replace hb:=mU;obtain ⟨hcell,hfroz,hz,_⟩:=mB;obtain ⟨w2,rfl⟩:=nm w')|(go_at_call 138;((with_reducible refine am (E2.out _) ?_);intro w' hb);replace hb:=mU;obtain ⟨hcell,hfroz,hz,_⟩:=mB;obtain ⟨w3,rfl⟩:=nm w')|(go_at_call 138;((with_reducible refine am (E3.out _) ?_);intro w' hb);replace hb:=mU;obtain ⟨hcell,hfroz,hz,_⟩:=mB;obtain ⟨w4,rfl⟩:=nm w')|(go_at_call 138;((with_reducible refine am (E4.out _) ?_);intro w' hb);replace hb:=mU;obtain ⟨hcell,hfroz,hz,_⟩:=mB;obtain ⟨w5,rfl⟩:=nm w')|(go_at_call 137;((with_reducible refine am (v8 _ _) ?_);rintro w' rfl)))
 rw [rounds_succ]
 go_wp2_with (first|(go_at_call 138;((with_reducible refine am (E1.out _) ?_);intro w' hb);replace hb:=mU;obtain ⟨hcell,hfroz,hz,_⟩:=mB;obtain ⟨w2,rfl⟩:=nm w')|(go_at_call 138;((with_reducible refine am (E2.out _) ?_);intro w' hb);replace hb:=mU;obtain ⟨hcell,hfroz,hz,_⟩:=mB;obtain ⟨w3,rfl⟩:=nm w')|(go_at_call 138;((with_reducible refine am (E3.out _) ?_);intro w' hb);replace hb:=mU;obtain ⟨hcell,hfroz,hz,_⟩:=mB;obtain ⟨w4,rfl⟩:=nm w')|(go_at_call 138;((with_reducible refine am (E4.out _) ?_);intro w' hb);replace hb:=mU;obtain ⟨hcell,hfroz,hz,_⟩:=mB;obtain ⟨w5,rfl⟩:=nm w')|(go_at_call 137;((with_reducible refine am (v8 _ _) ?_);rintro w' rfl)))
 rw [rounds_succ]
 go_wp2_with (first|(go_at_call 138;((with_reducible refine am (E1.out _) ?_);intro w' hb);replace hb:=mU;obtain ⟨hcell,hfroz,hz,_⟩:=mB;obtain ⟨w2,rfl⟩:=nm w')|(go_at_call 138;((with_reducible refine am (E2.out _) ?_);intro w' hb);replace hb:=mU;obtain ⟨hcell,hfroz,hz,_⟩:=mB;obtain ⟨w3,rfl⟩:=nm w')|(go_at_call 138;((with_reducible refine am (E3.out _) ?_);intro w' hb);replace hb:=mU;obtain ⟨hcell,hfroz,hz,_⟩:=mB;obtain ⟨w4,rfl⟩:=nm w')|(go_at_call 138;((with_reducible refine am (E4.out _) ?_);intro w' hb);replace hb:=mU;obtain ⟨hcell,hfroz,hz,_⟩:=mB;obtain ⟨w5,rfl⟩:=nm w')|(go_at_call 137;((with_reducible refine am (v8 _ _) ?_);rintro w' rfl)))
 go_ret3
 exact ⟨rfl,bv⟩
theorem pB {a n:Int} (a0: -2147483648<=a) (a1:a<=2147483648) (n0: -1099511627776<=n) (n1:n<=1099511627776):
  -1267650600228229401496703205376<=a*n/\a*n<=1267650600228229401496703205376:=by
 have:=VN (X:=2147483648) (Y:=1099511627776) (x:=a) (y:=n) (by omega) (by omega)
 omega
def xA (L U:Int):Prop:=(-9223372036854775808<=L/\L<=9223372036854775807)/\(-9223372036854775808<=U/\U<=9223372036854775807)
theorem jC {L U:Int} (h1:L<=U) (h:¬xA L U):L< -9223372036854775808\/9223372036854775807<U:=by unfold xA at h;omega
theorem vC {L H:Int} (h:L< -1099511627776\/1099511627776<H):(F5 L&&F5 H)=false:=by
 rcases h with k|k
 ·rw [fB (n:=L) (by omega)];rfl
 ·rw [fB (n:=H) (by omega),Bool.and_false]
theorem UB (a b c d n:Int) (w:World) (h1:x8 a b=true) (h2:x8 c d=true) (hr:F5 n=true) (hz:P6 c d=false):
  Calls Tryz.prog 198 #[.agg #[.int .i64 a,.int .i64 b],.agg #[.int .i64 c,.int .i64 d],.int .i64 n] w fun e w'=>e= .returned (WB (qLo a b c d n) (qHi a b c d n))/\Below w.heap.size w w':=by
 have h:(x8 a b&&x8 c d)=true:=by rw [h1,h2];rfl
 obtain ⟨a1,a2,a3⟩:=K6 h1
 obtain ⟨c1,c2,c3⟩:=K6 h2
 obtain ⟨n0,n1⟩:=zV hr
 have z:=IR hz
 have hc:c≠0:=by omega
 have hd:d≠0:=by omega
 have pa:=pB (a:=a) (n:=n) (by omega) (by omega) n0 n1
 have pb:=pB (a:=b) (n:=n) (by omega) (by omega) n0 n1
 have l1:=(eO (a*n) c hc).1
 have l2:=(eO (a*n) d hd).1
 have l3:=(eO (b*n) c hc).1
 have l4:=(eO (b*n) d hd).1
 have O:∀x e,(x=a\/x=b)->(e=c\/e=d)->xA (fl (x*n) e) (ce (x*n) e)->Hid (∀w,Calls Tryz.prog 138 #[.int .i64 x,.int .i64 n,.int .i64 e] w fun r w'=>r= .returned (.tuple #[.int .i64 (fl (x*n) e),.int .i64 (ce (x*n) e),.int .i64 0])/\Below w.heap.size w w'):=by
  intro x e hx he hf
  have px:=pB (a:=x) (n:=n) (by rcases hx with rfl|rfl<;>omega) (by rcases hx with rfl|rfl<;>omega) n0 n1
  exact b6 fun w=>kC x n e _ _ w (by rcases hx with rfl|rfl<;>omega) (by rcases hx with rfl|rfl<;>omega) (by omega) (by omega) (by rcases he with rfl|rfl<;>omega) (by rcases he with rfl|rfl<;>omega) (by rcases he with rfl|rfl<;>omega) px.1 px.2 rfl rfl hf.1 hf.2
 have F:∀x e,(x=a\/x=b)->(e=c\/e=d)->¬xA (fl (x*n) e) (ce (x*n) e)->Hid (∀w,Calls Tryz.prog 138 #[.int .i64 x,.int .i64 n,.int .i64 e] w fun r w'=>(∃p q:Int,r= .returned (.tuple #[.int .i64 p,.int .i64 q,.int .i64 5]))/\Below w.heap.size w w'):=by
  intro x e hx he hf
  have px:=pB (a:=x) (n:=n) (by rcases hx with rfl|rfl<;>omega) (by rcases hx with rfl|rfl<;>omega) n0 n1
  exact b6 fun w=>CP x n e _ _ w (by rcases hx with rfl|rfl<;>omega) (by rcases hx with rfl|rfl<;>omega) (by omega) (by omega) (by rcases he with rfl|rfl<;>omega) (by rcases he with rfl|rfl<;>omega) (by rcases he with rfl|rfl<;>omega) px.1 px.2 rfl rfl hf
 by_cases f1:xA (fl (a*n) c) (ce (a*n) c)
 ·by_cases f2:xA (fl (a*n) d) (ce (a*n) d)
  ·by_cases f3:xA (fl (b*n) c) (ce (b*n) c)
   ·by_cases f4:xA (fl (b*n) d) (ce (b*n) d)
    ·cases r1:F5 (qLo a b c d n)
     ·rw [jA (by rw [r1];rfl)]
      exact XE a b c d n _ _ _ _ _ _ _ _ _ _ w h hr hz (O a c (.inl rfl) (.inl rfl) f1) (O a d (.inl rfl) (.inr rfl) f2) (O b c (.inr rfl) (.inl rfl) f3) (O b d (.inr rfl) (.inr rfl) f4) rfl rfl r1
     ·cases r2:F5 (qHi a b c d n)
      ·rw [jA (by rw [r2,Bool.and_false])]
       exact VJ a b c d n _ _ _ _ _ _ _ _ _ _ w h hr hz (O a c (.inl rfl) (.inl rfl) f1) (O a d (.inl rfl) (.inr rfl) f2) (O b c (.inr rfl) (.inl rfl) f3) (O b d (.inr rfl) (.inr rfl) f4) rfl rfl r1 r2
      ·rw [a0f r1 r2]
       exact a0m a b c d n _ _ _ _ _ _ _ _ _ _ w h hr hz (O a c (.inl rfl) (.inl rfl) f1) (O a d (.inl rfl) (.inr rfl) f2) (O b c (.inr rfl) (.inl rfl) f3) (O b d (.inr rfl) (.inr rfl) f4) rfl rfl r1 r2
    ·have u:=jC l4 f4
     rw [jA (vC (by unfold qLo qHi;clear O F;omega))]
     exact DA a b c d n _ _ _ _ _ _ w h hr hz (O a c (.inl rfl) (.inl rfl) f1) (O a d (.inl rfl) (.inr rfl) f2) (O b c (.inr rfl) (.inl rfl) f3) (F b d (.inr rfl) (.inr rfl) f4)
   ·have u:=jC l3 f3
    rw [jA (vC (by unfold qLo qHi;clear O F;omega))]
    exact DK a b c d n _ _ _ _ w h hr hz (O a c (.inl rfl) (.inl rfl) f1) (O a d (.inl rfl) (.inr rfl) f2) (F b c (.inr rfl) (.inl rfl) f3)
  ·have u:=jC l2 f2
   rw [jA (vC (by unfold qLo qHi;clear O F;omega))]
   exact GD a b c d n _ _ w h hr hz (O a c (.inl rfl) (.inl rfl) f1) (F a d (.inl rfl) (.inr rfl) f2)
 ·have u:=jC l1 f1
  rw [jA (vC (by unfold qLo qHi;clear O F;omega))]
  exact DR a b c d n w h hr hz (F a c (.inl rfl) (.inl rfl) f1)
def iv (a b:Int) (u w:Rat):Prop:=((a:Rat)<=u/\u<=b)/\(u-w<=a/\(b:Rat)<=u+w)
theorem qH {a b:Int} {u w:Rat} (h:iv a b u w):a<=b:=R7 (Rat.le_trans h.1.1 h.1.2)
theorem dJ {a b:Int} {u w v:Rat} (h:iv a b u w) (k:w<=v):iv a b u v:=⟨h.1,by have:=h.2.1;grind,by have:=h.2.2;grind⟩
theorem a1Z {a b:Int} {u w:Rat} (h:iv a b u w) (h1: -2147000000<=u) (h2:u<=2147000000) (k:w<=400000):x8 a b=true:=by
 have e1:((-2147483648:Int):Rat)<=a:=by have:=h.2.1;have:((-2147483648:Int):Rat)= -2147483648:=rfl;grind
 have e2:(b:Rat)<=((2147483648:Int):Rat):=by have:=h.2.2;have:((2147483648:Int):Rat)=2147483648:=rfl;grind
 exact J3 ⟨R7 e1,qH h,R7 e2⟩
theorem a1t {a b c d:Int} {u v w x:Rat} (h:iv a b u w) (k:iv c d v x):iv (a+c) (b+d) (u+v) (w+x):=by
 unfold iv at*;push_cast;refine ⟨⟨?_,?_⟩,?_,?_⟩<;>grind
theorem a1S {a b c d:Int} {u v w x:Rat} (h:iv a b u w) (k:iv c d v x):iv (a-d) (b-c) (u-v) (w+x):=by
 unfold iv at*;push_cast;refine ⟨⟨?_,?_⟩,?_,?_⟩<;>grind
theorem a19 {a b:Int} {u w:Rat} (h:iv a b u w):iv (-b) (-a) (-u) w:=by
 unfold iv at*;push_cast;refine ⟨⟨?_,?_⟩,?_,?_⟩<;>grind
theorem iY (a c v d:Rat) (h1:c<=v) (h2:v<=d):(a*c<=a*v\/a*d<=a*v)/\(a*v<=a*c\/a*v<=a*d):=by
 rcases Rat.le_total (a:=0) (b:=a) with h|h
 ·have p:=Rat.mul_nonneg h (show 0<=v-c by grind)
  have q:=Rat.mul_nonneg h (show 0<=d-v by grind)
  exact ⟨.inl (by grind),.inr (by grind)⟩
 ·have p:=Rat.mul_nonneg (show 0<= -a by grind) (show 0<=v-c by grind)
  have q:=Rat.mul_nonneg (show 0<= -a by grind) (show 0<=d-v by grind)
  exact ⟨.inr (by grind),.inl (by grind)⟩
theorem CU (m:Int):(fl m 1073741824:Rat)*1073741824<=m/\(m:Rat)<=(fl m 1073741824:Rat)*1073741824+1073741824:=by
 have h:fl m 1073741824=m/1073741824:=if_pos (by decide)
 rw [h]
 have a:m/1073741824*1073741824<=m:=Int.ediv_mul_le _ (by decide)
 have b:m<=m/1073741824*1073741824+1073741824:=by omega
 have a:=v6 a
 have b:=v6 b
 push_cast at a b
 exact ⟨a,b⟩
theorem RH (m:Int):(m:Rat)<=(ce m 1073741824:Rat)*1073741824/\(ce m 1073741824:Rat)*1073741824<=m+1073741824:=by
 have h:=CU (-m)
 unfold ce
 push_cast at*
 constructor<;>grind
def vE (a b c d:Int):Int:=fl (min (a*c) (min (a*d) (min (b*c) (b*d)))) 1073741824
def vB (a b c d:Int):Int:=ce (max (a*c) (max (a*d) (max (b*c) (b*d)))) 1073741824
theorem iW {p q u v w x:Rat} (hp:f9 p u w) (hq:f9 q v x) (hu: -2147483648<=u/\u<=2147483648) (hv: -2147483648<=v/\v<=2147483648) (hw:w<=1000):f9 (p*q) (u*v) (3221225472*(w+x)):=by
 unfold f9 at*
 have p1:=A6 (a:=p-u) (b:=v) (e:=w) (f:=2147483648) (by grind) (by grind) hv.1 hv.2
 have p2:=A6 (a:=p) (b:=q-v) (e:=2147484648) (f:=x) (by grind) (by grind) (by grind) (by grind)
 constructor<;>grind
theorem a2f {a b c d:Int} {u v w x t:Rat} (h:iv a b u w) (k:iv c d v x) (hu: -2147483648<=u/\u<=2147483648) (hv: -2147483648<=v/\v<=2147483648) (hw:w<=1000) (ht:u*v=1073741824*t):iv (vE a b c d) (vB a b c d) t (3*(w+x)+1):=by
 have ab:(a:Rat)<=b:=Rat.le_trans h.1.1 h.1.2
 have cd:(c:Rat)<=d:=Rat.le_trans k.1.1 k.1.2
 have na:f9 a u w:=by unfold iv at h;unfold f9;constructor<;>grind
 have nb:f9 b u w:=by unfold iv at h;unfold f9;constructor<;>grind
 have nc:f9 c v x:=by unfold iv at k;unfold f9;constructor<;>grind
 have nd:f9 d v x:=by unfold iv at k;unfold f9;constructor<;>grind
 have ac:=iW na nc hu hv hw
 have ad:=iW na nd hu hv hw
 have bc:=iW nb nc hu hv hw
 have bd:=iW nb nd hu hv hw
 have l:=iY v a u b h.1.1 h.1.2
 have la:=iY a c v d k.1.1 k.1.2
 have lb:=iY b c v d k.1.1 k.1.2
 rw [Rat.mul_comm v a,Rat.mul_comm v u,Rat.mul_comm v b] at l
 unfold vE vB
 obtain ⟨m,hm⟩:∃m,min (a*c) (min (a*d) (min (b*c) (b*d)))=m:=⟨_,rfl⟩
 obtain ⟨M,hM⟩:∃m,max (a*c) (max (a*d) (max (b*c) (b*d)))=m:=⟨_,rfl⟩
 have m1:m<=a*c/\m<=a*d/\m<=b*c/\m<=b*d/\(m=a*c\/m=a*d\/m=b*c\/m=b*d):=by omega
 have M1:a*c<=M/\a*d<=M/\b*c<=M/\b*d<=M/\(M=a*c\/M=a*d\/M=b*c\/M=b*d):=by omega
 rw [hm,hM]
 have f:=CU m
 have g:=RH M
 have r1:=v6 m1.1
 have r2:=v6 m1.2.1
 have r3:=v6 m1.2.2.1
 have r4:=v6 m1.2.2.2.1
 have s1:=v6 M1.1
 have s2:=v6 M1.2.1
 have s3:=v6 M1.2.2.1
 have s4:=v6 M1.2.2.2.1
 have em:(m:Rat)=a*c\/(m:Rat)=a*d\/(m:Rat)=b*c\/(m:Rat)=b*d:=by
  rcases m1.2.2.2.2 with e|e|e|e<;>rw [e]<;>push_cast<;>simp
 have eM:(M:Rat)=a*c\/(M:Rat)=a*d\/(M:Rat)=b*c\/(M:Rat)=b*d:=by
  rcases M1.2.2.2.2 with e|e|e|e<;>rw [e]<;>push_cast<;>simp
 push_cast at r1 r2 r3 r4 s1 s2 s3 s4
 have lo:(m:Rat)<=u*v:=by
  rcases l.1 with e|e
  ·rcases la.1 with e2|e2<;>grind
  ·rcases lb.1 with e2|e2<;>grind
 have hi:u*v<=(M:Rat):=by
  rcases l.2 with e|e
  ·rcases la.2 with e2|e2<;>grind
  ·rcases lb.2 with e2|e2<;>grind
 have lo2:u*v-3221225472*(w+x)<=m:=by
  unfold f9 at ac ad bc bd
  rcases em with e|e|e|e<;>rw [e]<;>grind
 have hi2:(M:Rat)<=u*v+3221225472*(w+x):=by
  unfold f9 at ac ad bc bd
  rcases eM with e|e|e|e<;>rw [e]<;>grind
 clear ac ad bc bd l la lb r1 r2 r3 r4 s1 s2 s3 s4 em eM na nb nc nd m1 M1 hm hM
 unfold iv
 generalize (fl m 1073741824:Rat)=F at*
 generalize (ce M 1073741824:Rat)=G at*
 refine ⟨⟨?_,?_⟩,?_,?_⟩<;>grind
def sqL (a b:Int):Int:=fl (rW a b) 1073741824
def sqH (a b:Int):Int:=ce (max (a*a) (b*b)) 1073741824
theorem a2s {a b:Int} {u w t:Rat} (h:iv a b u w) (hu: -2147483648<=u/\u<=2147483648) (hw:w<=1000) (ht:u*u=1073741824*t):iv (sqL a b) (sqH a b) t (6*w+1):=by
 have na:f9 a u w:=by unfold iv at h;unfold f9;constructor<;>grind
 have nb:f9 b u w:=by unfold iv at h;unfold f9;constructor<;>grind
 have aa:=iW na na hu hu hw
 have bb:=iW nb nb hu hu hw
 have l:=iY u a u b h.1.1 h.1.2
 have l1:=iY a a u b h.1.1 h.1.2
 have l2:=iY b a u b h.1.1 h.1.2
 have w0:0<=w:=by unfold iv at h;grind
 unfold sqL sqH
 obtain ⟨M,hM⟩:∃m,max (a*a) (b*b)=m:=⟨_,rfl⟩
 have M1:a*a<=M/\b*b<=M/\(M=a*a\/M=b*b):=by omega
 obtain ⟨m,hm⟩:∃m,rW a b=m:=⟨_,rfl⟩
 rw [hm,hM]
 have f:=CU m
 have g:=RH M
 have s1:=v6 M1.1
 have s2:=v6 M1.2.1
 have eM:(M:Rat)=a*a\/(M:Rat)=b*b:=by
  rcases M1.2.2 with e|e<;>rw [e]<;>push_cast<;>simp
 push_cast at s1 s2
 have lo:(m:Rat)<=u*u/\u*u-6442450944*w<=m:=by
  unfold f9 at aa bb
  unfold rW at hm
  by_cases z:P6 a b=true
  ·rw [if_pos z] at hm
   subst hm
   unfold P6 at z
   simp only [Bool.and_eq_true,decide_eq_true_eq] at z
   have z1:=v6 z.1
   have z2:=v6 z.2
   have e0:((0:Int):Rat)=0:=rfl
   rw [e0] at*
   have p:=A6 (a:=u) (b:=u) (e:=w) (f:=2147483648) (by unfold iv at h;grind) (by unfold iv at h;grind) hu.1 hu.2
   refine ⟨?_,by grind⟩
   rcases Rat.le_total (a:=0) (b:=u) with k|k
   ·exact Rat.mul_nonneg k k
   ·have:=Rat.mul_nonneg (show 0<= -u by grind) (show 0<= -u by grind);grind
  ·rw [if_neg z] at hm
   have zz:0<a\/b<0:=by
    unfold P6 at z
    simp only [Bool.and_eq_true,decide_eq_true_eq,not_and] at z
    omega
   have m1:m<=a*a/\m<=b*b/\(m=a*a\/m=b*b):=by omega
   have r1:=v6 m1.1
   have r2:=v6 m1.2.1
   push_cast at r1 r2
   have em:(m:Rat)=a*a\/(m:Rat)=b*b:=by
    rcases m1.2.2 with e|e<;>rw [e]<;>push_cast<;>simp
   constructor
   ·rcases zz with z|z
    ·have a0:(0:Rat)<=a:=by have:=v6 (Int.le_of_lt z);exact this
     have p:=Rat.mul_nonneg a0 (show 0<=u-a by unfold iv at h;grind)
     have q:=Rat.mul_nonneg (show 0<=u by unfold iv at h;grind) (show 0<=u-a by unfold iv at h;grind)
     grind
    ·have b0:(b:Rat)<=0:=by have:=v6 (Int.le_of_lt z);exact this
     have p:=Rat.mul_nonneg (show 0<= -(b:Rat) by grind) (show 0<=b-u by unfold iv at h;grind)
     have q:=Rat.mul_nonneg (show 0<= -u by unfold iv at h;grind) (show 0<=b-u by unfold iv at h;grind)
     grind
   ·rcases em with e|e<;>rw [e]<;>grind
 have hi:u*u<=(M:Rat):=by
  have n:=x7 ((a:Rat)-b)
  rcases l.2 with e|e
  ·rcases l1.2 with e2|e2<;>grind
  ·rcases l2.2 with e2|e2<;>grind
 have hi2:(M:Rat)<=u*u+6442450944*w:=by
  unfold f9 at aa bb
  rcases eM with e|e<;>rw [e]<;>grind
 clear aa bb l l1 l2 s1 s2 eM na nb M1 hm hM
 unfold iv
 generalize (fl m 1073741824:Rat)=F at*
 generalize (ce M 1073741824:Rat)=G at*
 refine ⟨⟨?_,?_⟩,?_,?_⟩<;>grind
end Go.Proofs.YtdhbeoahpfimbaaGreat
