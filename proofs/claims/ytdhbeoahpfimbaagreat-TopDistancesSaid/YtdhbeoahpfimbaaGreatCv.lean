/- Part of the proof of TopDistances. -/
import Derived.Test.YtdhbeoahpfimbaaGreatPs
import Derived.Test.YtdhbeoahpfimbaaGreatPu
namespace Go.Proofs.YtdhbeoahpfimbaaGreat
open Go.RowKit
def X5 (O base:Nat) (L:List (Int×Int×Int)) (row:Option Nat) (w:World):Prop:=
 (∀o,w.frozen? ⟨O,o,none⟩=false)/\∃v,w.cell? ⟨O,0,none⟩=some v/\w.ownsRow base 180 3 v L.length (aA L)/\v.ownBlock=row/\row≠some O
def IJ (W v:World):Prop:=v.os=W.os/\v.tape=W.tape/\v.output=W.output
theorem IJ.refl (W:World):IJ W W:=⟨rfl,rfl,rfl⟩
theorem IJ.trans {a b c:World} (h:IJ a b) (k:IJ b c):IJ a c:=⟨k.1.trans h.1,k.2.1.trans h.2.1,k.2.2.trans h.2.2⟩
theorem IJ.below {B:Nat} {a b:World} (h:Below B a b):IJ a b:=⟨h.os,h.tape,h.output⟩
def J4 (W v:World) (O:Nat) (row:Option Nat):Prop:=W.heap.size<=v.heap.size/\(∀k,k<W.heap.size->k≠O->some k≠row->v.heap[k]? =W.heap[k]?)/\IJ W v
theorem J4.refl (W:World) (O:Nat) (row:Option Nat):J4 W W O row:=⟨Nat.le_refl _,fun _ _ _ _=>rfl,IJ.refl _⟩
theorem J4.below {W v v':World} {O:Nat} {row:Option Nat} (h:J4 W v O row) (hb:Below v.heap.size v v'):J4 W v' O row:=
 ⟨Nat.le_trans h.1 hb.size,fun k hk h1 h2=>(hb.block k (Nat.lt_of_lt_of_le hk h.1)).trans (h.2.1 k hk h1 h2),h.2.2.trans (IJ.below hb)⟩
theorem J4.of_below {W v:World} {O:Nat} {row:Option Nat} (hb:Below W.heap.size W v):J4 W v O row:=(J4.refl W O row).below hb
def cD (n:Nat) (row row':Option Nat):Prop:=row'=row\/∃g,row'=some g/\n<=g
theorem J4.trans {W v v':World} {O:Nat} {row row':Option Nat} (h:J4 W v O row) (hr:cD W.heap.size row row') (h':J4 v v' O row'):J4 W v' O row:=by
 refine ⟨Nat.le_trans h.1 h'.1,fun k hk h1 h2=>(h'.2.1 k (Nat.lt_of_lt_of_le hk h.1) h1 ?_).trans (h.2.1 k hk h1 h2),h.2.2.trans h'.2.2⟩
 rcases hr with rfl|⟨g,rfl,hg⟩
 ·exact h2
 ·intro e
  injection e with e
  omega
theorem cD.trans {n m:Nat} {a b c:Option Nat} (hnm:n<=m) (h:cD n a b) (h':cD m b c):cD n a c:=by
 rcases h' with rfl|⟨g,rfl,hg⟩
 ·exact h
 ·exact .inr ⟨g,rfl,by omega⟩
theorem J4.cell {W v:World} {O k o:Nat} {row:Option Nat} {x:Value} (h:J4 W v O row) (h1:k≠O) (h2:some k≠row) (hc:W.cell? ⟨k,o,none⟩=some x):v.cell? ⟨k,o,none⟩=some x:=
 (World.cell?_of_block (a:=⟨k,o,none⟩) (h.2.1 k (World.block_lt_of_cell? _ _ hc) h1 h2)).trans hc
theorem X5.below {O base:Nat} {L:List (Int×Int×Int)} {row:Option Nat} {w w':World} (h:X5 O base L row w) (hb:Below w.heap.size w w'):X5 O base L row w':=by
 obtain ⟨hf,v,hc,hr,he⟩:=h
 have l:=World.block_lt_of_cell? _ _ hc
 exact ⟨fun o=>(hb.frozen (p:=⟨O,o,none⟩) l).trans (hf o),v,cell_later hb hc,G1 hb hr,he⟩
def F4:List (Int×Int×Int):=[(3,3,7),(3,4,7),(3,3,8),(3,4,8)]
set_option maxHeartbeats 1000000 in
theorem xD (O base:Nat) (L:List (Int×Int×Int)) (row:Option Nat) (w:World) (h:X5 O base L row w) (hl:L.length<=3):
  Calls Tryz.prog 207 #[.pointer (some ⟨O,0,none⟩)] w fun e w'=>e= .returned (.bool false)/\w=w':=by
 obtain ⟨hf,v,hc,hr,-⟩:=h
 obtain ⟨_,⟨rfl,hn⟩|⟨g,cap,cur,rfl,h2,h3,h4⟩⟩:=hr
 ·clear hn
  go_enter Tryz.func207,Tryz.ntmps207
  go_wp2
  go_ret
  exact ⟨rfl,rfl⟩
 ·have hl2:((L.length:Nat):Int)<4:=by omega
  generalize L.length=n at*
  clear h3 h4
  go_enter Tryz.func207,Tryz.ntmps207
  go_wp2
  go_ret
  exact ⟨rfl,rfl⟩
theorem NT (w:World):
  Calls Tryz.prog 262 #[.agg #[.int .i64 3,.int .i64 3,.int .i64 7]] w fun e w'=>e= .returned (.tuple #[.agg #[.int .i64 2,.int .i64 1,.int .i64 3],.int .i64 0])/\Below w.heap.size w w':=by
 have V:=b6 fun w=>nJ 3 3 7 w (by unfold vc;decide)
 go_enter Tryz.func262,Tryz.ntmps262
 go_wp2_with (go_at_call 264;((with_reducible refine am (V.out _) ?_);intro w' hb);replace hb:=mU;obtain ⟨hcell,hfroz,hz,_⟩:=mB;obtain ⟨w1,rfl⟩:=nm w')
 exact bodyPost_ret (v:= .tuple #[.agg #[.int .i64 2,.int .i64 1,.int .i64 3],.int .i64 0]) (by first|(simp only [results,Tryz.results262];go_simp;done)|simp [results,Tryz.results262,go_sem, *]) rfl ⟨rfl,bw⟩
theorem QT (g1 g2 c1 c2:Nat) (w:World) (h0:w.cell? ⟨g1,0,none⟩=some (.int .i64 3)) (h1:w.cell? ⟨g1,1,none⟩=some (.int .i64 2)) (h2:w.cell? ⟨g1,2,none⟩=some (.int .i64 6))
  (k0:w.cell? ⟨g2,0,none⟩=some (.int .i64 3)) (k1:w.cell? ⟨g2,1,none⟩=some (.int .i64 3)) (k2:w.cell? ⟨g2,2,none⟩=some (.int .i64 7)):
  Calls Tryz.prog 263 #[.slice (some ⟨g1,0,none⟩) 4 c1,.slice (some ⟨g2,0,none⟩) 4 c2] w fun e w'=>e= .returned (.bool false)/\Below w.heap.size w w':=by
 have q1:=YU 3 2 6 3 3 7
 have g8:g1<w.heap.size:=World.block_lt_of_cell? _ _ h0
 have g9:g2<w.heap.size:=World.block_lt_of_cell? _ _ k0
 have q2:=a0p .neq
 simp only [show (!((3:Int)==3&&(2:Int)==3&&(6:Int)==7))=true by decide] at q1
 go_enter Tryz.func263,Tryz.ntmps263
 go_wp2
 refine wp_loop_rounds 1 ?_
 rw [rounds_succ]
 go_wp2
 refine wp_region_quiet_below (by kernel_rfl) (by kernel_rfl) ?_
 repeat (first|go_big_quiet_step (fail)|quiet_step (fail))
 refine wpQuiet_nil ?_;intro w' hw';have hb:=i8 hw';clear hw';replace hb:=mU;obtain ⟨hcell,hfroz,hz,_⟩:=mB
 go_wp2
 go_ret
 exact ⟨rfl,bw⟩
set_option maxRecDepth 100000 in
set_option maxHeartbeats 4000000 in
theorem FZ (O base:Nat) (row:Option Nat) (w:World) (h:X5 O base F4 row w):
  Calls Tryz.prog 207 #[.pointer (some ⟨O,0,none⟩)] w fun e w'=>e= .returned (.bool false)/\Below w.heap.size w w':=by
 obtain ⟨hf,v,hc,hr,-⟩:=h
 have P:=b6 NT
 have K:=b6 fun w=>wT 2 1 3 w (by unfold vc;decide) (by decide)
 have E:=b6 QT
 obtain ⟨_,⟨rfl,hn⟩|⟨g,cap,cur,rfl,h2,h3,h4⟩⟩:=hr
 ·simp [F4] at hn
 ·have H:w.ownsRow base 180 3 (.slice (some ⟨g,0,none⟩) 4 cap) 4 (aA F4):=⟨by decide,.inr ⟨g,cap,cur,rfl,h2,h3,h4⟩⟩
  have k0:w.cell? ⟨g,0,none⟩=some (.int .i64 3):=by simpa [F4,aA] using H.cellAt 0 (by decide)
  have k1:w.cell? ⟨g,1,none⟩=some (.int .i64 3):=by simpa [F4,aA] using H.cellAt 1 (by decide)
  have k2:w.cell? ⟨g,2,none⟩=some (.int .i64 7):=by simpa [F4,aA] using H.cellAt 2 (by decide)
  have e4:F4.length=4:=rfl
  rw [e4] at hc h4
  have hg9:g<w.heap.size:=World.block_lt_of_cell? _ _ k0
  have c4:(4:Int)<=(cap:Int):=by omega
  have c0:(0:Int)<=(cap:Int):=by omega
  clear h3 h4 H e4
  go_enter Tryz.func207,Tryz.ntmps207
  go_wp2_with (go_at_call 262;((with_reducible refine am (P.out _) ?_);intro w' hb);replace hb:=mU;obtain ⟨hcell,hfroz,hz,_⟩:=mB;obtain ⟨w1,rfl⟩:=nm w')
  have hw1:Below w.heap.size w w1:=bw
  have hz1:=hw1.size
  clear hcell hfroz hz hb
  refine (K.out _).mono ?_
  rintro e w' ⟨v,rfl,hown,hb⟩
  replace hb:=mU;obtain ⟨hcell,hfroz,hz,_⟩:=mB
  obtain ⟨_,⟨rfl,hn⟩|⟨g2,cap2,cur2,rfl,i2,i3,i4⟩⟩:=hown
  ·exact absurd hn (by decide)
  ·have H:w'.ownsRow _ 180 3 (.slice (some ⟨g2,0,none⟩) 4 cap2) 4 (aA (dU 2 1 3)):=⟨by decide,.inr ⟨g2,cap2,cur2,rfl,i2,i3,i4⟩⟩
   have j0:w'.cell? ⟨g2,0,none⟩=some (.int .i64 3):=by simpa [dU,aA] using H.cellAt 0 (by decide)
   have j1:w'.cell? ⟨g2,1,none⟩=some (.int .i64 2):=by simpa [dU,aA] using H.cellAt 1 (by decide)
   have j2:w'.cell? ⟨g2,2,none⟩=some (.int .i64 6):=by simpa [dU,aA] using H.cellAt 2 (by decide)
   have hbw:Below w.heap.size w w':=bw
   have k0:=cell_later hbw k0
   have k1:=cell_later hbw k1
   have k2:=cell_later hbw k2
   clear H i2 i3 i4 hcell hfroz
   obtain ⟨w2,rfl⟩:=nm w'
   go_wp2_with (go_at_call 263;((with_reducible refine (E.out _ _ _ _ _ ?a1 ?a2 ?a3 ?a4 ?a5 ?a6).mono ?_);(case a1=>exact j0);(case a2=>exact j1);(case a3=>exact j2);(case a4=>exact k0);(case a5=>exact k1);(case a6=>exact k2);rintro e w' ⟨rfl,hb⟩);replace hb:=mU;obtain ⟨hcell,hfroz,hz,_⟩:=mB;obtain ⟨w3,rfl⟩:=nm w')
   go_ret
   exact ⟨rfl,bw⟩
theorem LN (O base:Nat) (L:List (Int×Int×Int)) (row:Option Nat) (w:World) (h:X5 O base L row w) (hp:L <+: F4):
  Calls Tryz.prog 207 #[.pointer (some ⟨O,0,none⟩)] w fun e w'=>e= .returned (.bool false)/\Below w.heap.size w w':=by
 by_cases hl:L.length<=3
 ·refine (xD O base L row w h hl).mono ?_
  rintro e w' ⟨he,rfl⟩
  exact ⟨he,Below.refl _ _⟩
 ·have hle:=hp.length_le
  have e4:F4.length=4:=rfl
  obtain rfl:L=F4:=hp.eq_of_length (by omega)
  exact FZ O base row w h
def mA (W v:World) (row:Option Nat):Prop:=fW W v row/\IJ W v
theorem mA.refl (W:World) (row:Option Nat):mA W W row:=⟨fW.refl _ _,IJ.refl _⟩
theorem mA.below {W v v':World} {row:Option Nat} (hb:Below v.heap.size v v') (h:mA W v row):mA W v' row:=⟨fW.below hb h.1,h.2.trans (IJ.below hb)⟩
theorem mA.grown {W v v':World} {row:Option Nat} (hg:v.grownBy v' row) (h:mA W v row):mA W v' row:=⟨fW.grown hg h.1,h.2.trans ⟨hg.os,hg.tape,hg.output⟩⟩
theorem mA.cell {W v:World} {row:Option Nat} {k o:Nat} {x:Value} (h:mA W v row) (hn:some k≠row) (hc:W.cell? ⟨k,o,none⟩=some x):v.cell? ⟨k,o,none⟩=some x:=fW.cell h.1 hn hc
theorem fW.frozen {W v:World} {row:Option Nat} {k o q:Nat} {x:Value} (h:fW W v row) (hn:some k≠row) (hc:W.cell? ⟨k,q,none⟩=some x) (hf:∀o,W.frozen? ⟨k,o,none⟩=false):v.frozen? ⟨k,o,none⟩=false:=
 (World.frozen?_of_block (a:=⟨k,o,none⟩) (h.2 k (World.block_lt_of_cell? _ _ hc) hn)).trans (hf o)
theorem mA.frozen {W v:World} {row:Option Nat} {k o q:Nat} {x:Value} (h:mA W v row) (hn:some k≠row) (hc:W.cell? ⟨k,q,none⟩=some x) (hf:∀o,W.frozen? ⟨k,o,none⟩=false):v.frozen? ⟨k,o,none⟩=false:=fW.frozen h.1 hn hc hf
theorem RS {n m:Nat} {row x:Option Nat} (h:n<=m) (hw:x=row\/x=some m):cD n row x:=by
 rcases hw with hw|hw
 ·exact .inl hw
 ·exact .inr ⟨m,hw,h⟩
theorem a3q {w:World} {B:Nat} {x y z:Value} (h:w.cell? ⟨B,0,none⟩=some x/\w.cell? ⟨B,1,none⟩=some y/\w.cell? ⟨B,2,none⟩=some z):∀(j:Nat) u,([x,y,z]:List Value)[j]? =some u->w.cell? ((⟨B,0,none⟩:Addr).add j)=some u:=by
 intro j u hj
 match j,hj with
 |0,hj=>simp at hj;subst hj;simpa [Addr.add] using h.1
 |1,hj=>simp at hj;subst hj;simpa [Addr.add] using h.2.1
 |2,hj=>simp at hj;subst hj;simpa [Addr.add] using h.2.2
 |n+3,hj=>simp at hj
theorem mN {P:Program} {o:Oper} {a:Act} {w:World} {K:Act->World->Prop} {Q:Exit->Act->World->Prop}
  (s x:Operand) (t:TypeId) (ho:o.op= .call {callee:= .builtin .append,args:= #[s,x],argTypes:= #[t,t]})
  (base:Nat) (e:TypeId) (i:TypeInfo) (z:Value) (size bytes:Nat) (ht:P.underlying t=some (.slice e)) (hi:P.info? e=some i) (hz:i.zero=some z)
  (hsize:i.size=size) (hby:i.bytes=bytes) (hzs:z.cells.size=size) (hsz:0<size)
  (v:Value) (n:Nat) (xs:List Value) (hs:a.eval s=v) (hown:w.ownsRow base e size v n xs)
  (ad:Addr) (m c:Nat) (news:List Value) (hx:a.eval x= .slice (some ad) m c) (hl:news.length=m*size) (hnews:∀j u,news[j]? =some u->w.cell? (ad.add j)=some u) (h1:∀u∈news,u.oneCell'=true)
  (h63:n+m<=maxLen) (hbytes:(n+m)*bytes<=140737488355328) (hbase:base<=w.heap.size)
  (h:∀v' w',w'.ownsRow base e size v' (n+m) (xs++news)->w.grownBy w' v.ownBlock->(v'.ownBlock=v.ownBlock\/v'.ownBlock=some w.heap.size)->K (a.put o.dst v') w'):
  Oper.wp P o a w K Q:=by
 obtain ⟨v',w',hr,h2,h3,h4,h5⟩:=run_append_own_at (P:=P) w base t o.type e i z size bytes ht hi hz hsize hby hzs hsz v n xs hown ad m c news hl hnews h1 h63 hbytes hbase
 unfold Oper.wp execOp
 simp only [ho,resolve,invoke,builtin,Sem.run_bind,Sem.run_pure,Result.andThen_ok,List.map_toArray,List.map_cons,List.map_nil,hs,hx,hr]
 exact h v' w' h2 h3 h5
theorem nZ {w:World} {O i k:Nat} {x:Value} (h:k≠O):(w.setCell ⟨O,i,none⟩ x).heap[k]? =w.heap[k]? :=by
 unfold World.setCell
 simp only [Array.getElem?_modify]
 rw [if_neg (by intro e;exact h e.symm)]
theorem rU {w:World} {O i:Nat} {x:Value}:(w.setCell ⟨O,i,none⟩ x).heap.size=w.heap.size:=by simp
theorem J4.of_kept {W v:World} {O:Nat} {row:Option Nat} (h:mA W v row):J4 W v O row:=⟨h.1.1,fun k hk _ h2=>h.1.2 k hk h2,h.2⟩
theorem J4.set {W v:World} {O i:Nat} {row:Option Nat} {x:Value} (h:J4 W v O row):J4 W (v.setCell ⟨O,i,none⟩ x) O row:=
 ⟨by rw [rU];exact h.1,fun k hk h1 h2=>(nZ h1).trans (h.2.1 k hk h1 h2),h.2.2⟩
theorem zY {w:World} {base:Nat} {e:TypeId} {size:Nat} {v x:Value} {n O i:Nat} {xs:List Value} (hne:v.ownBlock≠some O) (h:w.ownsRow base e size v n xs):(w.setCell ⟨O,i,none⟩ x).ownsRow base e size v n xs:=by
 refine ⟨h.1,?_⟩
 rcases h.2 with h|⟨g,cap,cur,h1,h2,h3,h4⟩
 ·exact Or.inl h
 ·refine Or.inr ⟨g,cap,cur,h1,h2,(nZ ?_).trans h3,h4⟩
  intro e
  subst e
  rw [h1] at hne
  exact hne rfl
def oM (l r c:Int):Bool:=xY (bH r l-5400000) (bH (r+1) l-5400000) (bH c l-10800000) (bH (c+1) l-10800000)
theorem PB {l r c:Int} (h:vc l r c):bH r l-5400000<bH (r+1) l-5400000/\ -5400000<=bH r l-5400000/\bH (r+1) l-5400000<=5400000/\ -10800000<=bH c l-10800000/\bH c l-10800000<bH (c+1) l-10800000/\bH (c+1) l-10800000<=10800000/\bH (c+1) l-bH c l<=10800000:=by
 obtain ⟨h1,h2,h3⟩:=h
 rcases h3 with ⟨rfl,a,b⟩|⟨rfl,a,b⟩|⟨rfl,a,b⟩|⟨rfl,a,b⟩
 all_goals (simp [bH];omega)
theorem DP (l r c:Int) (w:World) (h:vc l r c):
  Calls Tryz.prog 205 #[.agg #[.int .i64 0,.int .i64 0,.int .i64 0,.int .i64 0],GZ l r c] w fun e w'=>e= .returned (.bool (oM l r c))/\Below w.heap.size w w':=by
 have b:=PB h
 exact DF _ _ _ _ w (by omega) (by omega) (by omega) (by omega) (by omega) (by omega) (by omega) (by omega)
theorem a0U (l r c:Int) (w:World) (h:vc l r c):
  Calls Tryz.prog 206 #[GZ l r c,.agg #[.int .i64 0,.int .i64 0,.int .i64 0,.int .i64 0]] w fun e w'=>e= .returned (.bool false)/\Below w.heap.size w w':=by
 have b:=PB h
 exact NH _ _ _ _ w (by omega) (by omega) (by omega) (by omega) (by omega) (by omega) (by omega) (by omega)
set_option maxRecDepth 100000 in
set_option maxHeartbeats 4000000 in
theorem VK (l r c:Int) (O:Nat) (w:World) (h:vc l r c) (hm:oM l r c=false):
  Calls Tryz.prog 117 #[.agg #[.int .i64 0,.int .i64 0,.int .i64 0,.int .i64 0],.agg #[.int .i64 l,.int .i64 r,.int .i64 c],.int .i64 3,.pointer (some ⟨O,0,none⟩)] w fun e w'=>e= .returned (.bool true)/\Below w.heap.size w w':=by
 have B:=b6 fun w=>rF l r c w h
 have M:=b6 fun w=>(by have:=DP l r c w h;rw [hm] at this;exact this:Calls Tryz.prog 205 #[.agg #[.int .i64 0,.int .i64 0,.int .i64 0,.int .i64 0],GZ l r c] w fun e w'=>e= .returned (.bool false)/\Below w.heap.size w w')
 unfold GZ at*
 generalize bH r l-5400000=e1 at*
 generalize bH (r+1) l-5400000=e2 at*
 generalize bH c l-10800000=e3 at*
 generalize bH (c+1) l-10800000=e4 at*
 clear h hm
 go_enter Tryz.func117,Tryz.ntmps117
 go_wp2_with (first|(go_at_call 204;((with_reducible refine am (B.out _) ?_);intro w' hb);replace hb:=mU;obtain ⟨hcell,hfroz,hz,_⟩:=mB;obtain ⟨w1,rfl⟩:=nm w')|(go_at_call 205;((with_reducible refine am (M.out _) ?_);intro w' hb);replace hb:=mU;obtain ⟨hcell,hfroz,hz,_⟩:=mB;obtain ⟨w2,rfl⟩:=nm w'))
 go_ret
 exact ⟨rfl,bw⟩
def sD (O base:Nat) (L:List (Int×Int×Int)) (row:Option Nat) (w:World) (e:Ending) (w':World):Prop:=
 e= .returned (.bool true)/\∃row',X5 O base L row' w'/\J4 w w' O row/\cD w.heap.size row row'
set_option maxRecDepth 100000 in
set_option maxHeartbeats 8000000 in
theorem VE (l r c:Int) (O base:Nat) (L:List (Int×Int×Int)) (row:Option Nat) (w:World) (h:vc l r c) (hl:l=3) (hm:oM l r c=true) (hO:X5 O base L row w) (hbase:base<=w.heap.size) (hp:L++[(l,r,c)] <+: F4):
  Calls Tryz.prog 117 #[.agg #[.int .i64 0,.int .i64 0,.int .i64 0,.int .i64 0],.agg #[.int .i64 l,.int .i64 r,.int .i64 c],.int .i64 3,.pointer (some ⟨O,0,none⟩)] w (sD O base (L++[(l,r,c)]) row w):=by
 subst hl
 have B:=b6 fun w=>rF 3 r c w h
 have M:=b6 fun w=>(by have:=DP 3 r c w h;rw [hm] at this;exact this:Calls Tryz.prog 205 #[.agg #[.int .i64 0,.int .i64 0,.int .i64 0,.int .i64 0],GZ 3 r c] w fun e w'=>e= .returned (.bool true)/\Below w.heap.size w w')
 unfold GZ at*
 generalize bH r 3-5400000=e1 at*
 generalize bH (r+1) 3-5400000=e2 at*
 generalize bH c 3-10800000=e3 at*
 generalize bH (c+1) 3-10800000=e4 at*
 have HP:=b6 hp
 obtain ⟨hOf,vL,hOc,own0,hrow,hOr⟩:=hO
 have hOr:some O≠row:=fun e=>hOr e.symm
 have hBO:=World.block_lt_of_cell? _ _ hOc
 have hlt:∀k,row=some k->k<w.heap.size:=fun k hk=>(own0.lt k (by rw [hrow,hk])).2
 have hlen:L.length<=3:=by have:=hp.length_le;simp [F4] at this;omega
 have hn63:L.length+1<=maxLen:=by unfold maxLen;omega
 have hnby:(L.length+1)*24<=140737488355328:=by omega
 obtain ⟨i0,hi,hz0,hz1,hz2⟩:=V9 AU
 clear h hm hp
 go_enter Tryz.func117,Tryz.ntmps117
 go_upto_region 5 with (first|(go_at_call 204;((with_reducible refine am (B.out _) ?_);intro w' hb);replace hb:=mU;obtain ⟨hcell,hfroz,hz,_⟩:=mB;obtain ⟨w1,rfl⟩:=nm w')|(go_at_call 205;((with_reducible refine am (M.out _) ?_);intro w' hb);replace hb:=mU;obtain ⟨hcell,hfroz,hz,_⟩:=mB;obtain ⟨w2,rfl⟩:=nm w'))
 (refine m9 ?_;intro w' hb;replace hb:=mU;obtain ⟨hcell,hfroz,hz,_⟩:=mB)
 have hw0:Below w.heap.size w w':=bw
 have b7:w'.cell? ⟨w.heap.size+1+1+1,0,none⟩=some (.pointer (some ⟨O,0,none⟩)):=by simp [go_sem, *]
 have b50:=cq w' (w.heap.size+1) 0 3
 have b51:=cq w' (w.heap.size+1) 1 r
 have b52:=cq w' (w.heap.size+1) 2 c
 have hOc:=cell_later hw0 hOc
 have hOf:∀o,w'.frozen? ⟨O,o,none⟩=false:=fun o=>(hw0.frozen (p:=⟨O,o,none⟩) hBO).trans (hOf o)
 have own0:=G1 hw0 own0
 have hne7:some (w.heap.size+1+1+1)≠row:=fun e=>by have:=hlt _ e.symm;omega
 have hne5:some (w.heap.size+1)≠row:=fun e=>by have:=hlt _ e.symm;omega
 have hbase0:base<=w'.heap.size:=Nat.le_trans hbase hw0.size
 clear hcell hfroz hz hb
 obtain ⟨V0,rfl⟩:=nm w'
 have hbase:=hbase0
 obtain ⟨n,hn⟩:∃n,L.length=n:=⟨_,rfl⟩
 rw [hn] at own0 hlen hn63 hnby
 have HN:=b6 hn
 clear hn
 refine B8 (fun a0 LL aa vv=>∃(l0 l1 l2 l3 l4 l5 l6 l7 l8:Bool) (EE:Nat) (vN:Value) (uu:World),LL= #[l0,l1,l2,l3,l4,l5,l6,l7,l8]/\aa={a0 with tmps:=((((((((a0.tmps.setIfInBounds 27 (cond l0 (.pointer (some ⟨O,0,none⟩)) undef)).setIfInBounds 28 (cond l1 (.pointer (some ⟨O,0,none⟩)) undef)).setIfInBounds 29 (cond l2 (.pointer (some ⟨O,0,none⟩)) undef)).setIfInBounds 30 (cond l3 (vL) undef)).setIfInBounds 31 (cond l4 (.agg #[.int .i64 3,.int .i64 r,.int .i64 c]) undef)).setIfInBounds 32 (cond l5 (.slice (some ⟨EE,0,none⟩) 1 1) undef)).setIfInBounds 33 (cond l6 (vN) undef)).setIfInBounds 34 (cond l7 (.pointer (some ⟨O,0,none⟩)) undef))}/\(l8=true->l0=true/\l1=true/\l2=true/\l3=true/\l4=true/\l5=true/\l6=true/\l7=true)/\mA V0 uu row/\vv=cond l8 (uu.setCell ⟨O,0,none⟩ vN) uu/\(l6=true->l5=true)/\(l5=true->l6=false->uu.cell? ⟨EE,0,none⟩=some (.int .i64 3)/\uu.cell? ⟨EE,1,none⟩=some (.int .i64 r)/\uu.cell? ⟨EE,2,none⟩=some (.int .i64 c))/\(l6=false->uu.ownsRow base 180 3 (vL) (n) ((aA L)))/\(l6=true->uu.ownsRow base 180 3 vN (n+1) ((aA L)++[.int .i64 3,.int .i64 r,.int .i64 c])/\cD V0.heap.size row vN.ownBlock)) (by kernel_rfl) (by kernel_rfl) ?h0 ?hsize ?hdone ?hstep
 case h0=>
  refine ⟨false,false,false,false,false,false,false,false,false,0,.bool false,_,rfl,?_,(fun h=>by cases h),mA.below bv (mA.refl _ _),rfl,(fun h=>by cases h),(fun h=>by cases h),(fun _=>G1 bv own0),(fun h=>by cases h)⟩
  simp only [cond_false,List.setIfInBounds_toArray,List.set_cons_zero,List.set_cons_succ]
 case hsize=>
  intro LL aa vv h
  obtain ⟨l0,l1,l2,l3,l4,l5,l6,l7,l8,EE,vN,uu,hL,_⟩:=h
  rw [hL]
  rfl
 case hstep=>
  intro LL aa vv h
  obtain ⟨l0,l1,l2,l3,l4,l5,l6,l7,l8,EE,vN,uu,hL,ha,hall,hk,hv,q1,he,ho0,ho1⟩:=h
  simp only [List.setIfInBounds_toArray,List.set_cons_zero,List.set_cons_succ] at ha
  subst hL
  subst ha
  refine ⟨?s0,?s1,?s2,?s3,?s4,?s5,?s6,?s7,?s8,trivial⟩
  case s0=>
   intro ff gg KK hK
   have f0:l0=false:=ff
   cases hl:l8
   case true=>
    have:=(hall hl).1
    rw [f0] at this
    cases this
   rw [hl] at hv
   simp only [cond_false] at hv
   subst hv
   clear ff gg
   subst hl
   subst f0
   simp only [cond_false]
   have cc0:vv.cell? ⟨w.heap.size+1+1+1,0,none⟩=some (.pointer (some ⟨O,0,none⟩)):=mA.cell hk hne7 b7
   go_simp
   exact hK _ _ ⟨true,l1,l2,l3,l4,l5,l6,l7,false,EE,vN,vv,rfl,(by simp only [cond_true,List.setIfInBounds_toArray,List.set_cons_zero,List.set_cons_succ]),(fun h=>by cases h),hk,rfl,q1,he,ho0,ho1⟩
  case s1=>
   intro ff gg KK hK
   have f0:l1=false:=ff
   cases hl:l8
   case true=>
    have:=(hall hl).2.1
    rw [f0] at this
    cases this
   rw [hl] at hv
   simp only [cond_false] at hv
   subst hv
   clear ff gg
   subst hl
   subst f0
   simp only [cond_false]
   have cc0:vv.cell? ⟨w.heap.size+1+1+1,0,none⟩=some (.pointer (some ⟨O,0,none⟩)):=mA.cell hk hne7 b7
   go_simp
   exact hK _ _ ⟨l0,true,l2,l3,l4,l5,l6,l7,false,EE,vN,vv,rfl,(by simp only [cond_true,List.setIfInBounds_toArray,List.set_cons_zero,List.set_cons_succ]),(fun h=>by cases h),hk,rfl,q1,he,ho0,ho1⟩
  case s2=>
   intro ff gg KK hK
   have f0:l2=false:=ff
   cases hl:l8
   case true=>
    have:=(hall hl).2.2.1
    rw [f0] at this
    cases this
   rw [hl] at hv
   simp only [cond_false] at hv
   subst hv
   have t1:l1=true:=gg ⟨1,.data⟩ (by simp) (by rfl)
   clear ff gg
   subst t1
   subst hl
   subst f0
   simp only [cond_true,cond_false]
   go_simp
   exact hK _ _ ⟨l0,true,true,l3,l4,l5,l6,l7,false,EE,vN,vv,rfl,(by simp only [cond_true,List.setIfInBounds_toArray,List.set_cons_zero,List.set_cons_succ]),(fun h=>by cases h),hk,rfl,q1,he,ho0,ho1⟩
  case s3=>
   intro ff gg KK hK
   have f0:l3=false:=ff
   cases hl:l8
   case true=>
    have:=(hall hl).2.2.2.1
    rw [f0] at this
    cases this
   rw [hl] at hv
   simp only [cond_false] at hv
   subst hv
   have t2:l2=true:=gg ⟨2,.data⟩ (by simp) (by rfl)
   clear ff gg
   subst t2
   subst hl
   subst f0
   simp only [cond_true,cond_false]
   have cc0:vv.cell? ⟨O,0,none⟩=some (vL):=mA.cell hk hOr hOc
   go_simp
   exact hK _ _ ⟨l0,l1,true,true,l4,l5,l6,l7,false,EE,vN,vv,rfl,(by simp only [cond_true,List.setIfInBounds_toArray,List.set_cons_zero,List.set_cons_succ]),(fun h=>by cases h),hk,rfl,q1,he,ho0,ho1⟩
  case s4=>
   intro ff gg KK hK
   have f0:l4=false:=ff
   cases hl:l8
   case true=>
    have:=(hall hl).2.2.2.2.1
    rw [f0] at this
    cases this
   rw [hl] at hv
   simp only [cond_false] at hv
   subst hv
   clear ff gg
   subst hl
   subst f0
   simp only [cond_false]
   have cc0:vv.cell? ⟨w.heap.size+1,0,none⟩=some (.int .i64 3):=mA.cell hk hne5 b50
   have cc1:vv.cell? ⟨w.heap.size+1,1,none⟩=some (.int .i64 r):=mA.cell hk hne5 b51
   have cc2:vv.cell? ⟨w.heap.size+1,2,none⟩=some (.int .i64 c):=mA.cell hk hne5 b52
   go_simp
   exact hK _ _ ⟨l0,l1,l2,l3,true,l5,l6,l7,false,EE,vN,vv,rfl,(by simp only [cond_true,List.setIfInBounds_toArray,List.set_cons_zero,List.set_cons_succ]),(fun h=>by cases h),hk,rfl,q1,he,ho0,ho1⟩
  case s5=>
   intro ff gg KK hK
   have f0:l5=false:=ff
   cases hl:l8
   case true=>
    have:=(hall hl).2.2.2.2.2.1
    rw [f0] at this
    cases this
   rw [hl] at hv
   simp only [cond_false] at hv
   subst hv
   have t4:l4=true:=gg ⟨4,.data⟩ (by simp) (by rfl)
   clear ff gg
   subst t4
   subst hl
   subst f0
   have f6:l6=false:=by cases h6:l6;rfl;exact absurd (q1 h6) (by simp)
   subst f6
   simp only [cond_true,cond_false]
   go_simp
   have hb:Below vv.heap.size vv (vv.alloc (Obj.cells #[.int .i64 3,.int .i64 r,.int .i64 c] 180)):=bv
   exact hK _ _ ⟨l0,l1,l2,l3,true,true,false,l7,false,vv.heap.size,vN,_,rfl,(by simp only [cond_true,cond_false,List.setIfInBounds_toArray,List.set_cons_zero,List.set_cons_succ]),(fun h=>by cases h),mA.below hb hk,rfl,(fun h=>by cases h),(fun _ _=>by simp [go_sem]),(fun _=>G1 hb (ho0 rfl)),(fun h=>by cases h)⟩
  case s6=>
   intro ff gg KK hK
   have f0:l6=false:=ff
   cases hl:l8
   case true=>
    have:=(hall hl).2.2.2.2.2.2.1
    rw [f0] at this
    cases this
   rw [hl] at hv
   simp only [cond_false] at hv
   subst hv
   have t3:l3=true:=gg ⟨3,.data⟩ (by simp) (by rfl)
   have t5:l5=true:=gg ⟨5,.data⟩ (by simp) (by rfl)
   clear ff gg
   subst t3 t5
   subst hl
   subst f0
   simp only [cond_true,cond_false]
   rw [if_pos (by rfl)]
   apply mN (s:= .tmp 30) (x:= .tmp 32) (t:=92) (base:=base) (e:=180) (i:=i0) (z:=(.agg #[.int .i64 0,.int .i64 0,.int .i64 0])) (size:=3) (bytes:=24) (v:=vL) (n:=n) (xs:=(aA L)) (ad:=⟨EE,0,none⟩) (m:=1) (c:=1) (news:=[.int .i64 3,.int .i64 r,.int .i64 c])
   case ho=>rfl
   case ht=>exact Tryz.underlying92
   case hi=>exact hi
   case hz=>exact hz0
   case hsize=>exact hz1
   case hby=>exact hz2
   case hzs=>rfl
   case hsz=>decide
   case hs=>rfl
   case hown=>exact ho0 rfl
   case hx=>rfl
   case hl=>rfl
   case hnews=>exact a3q (he rfl rfl)
   case h1=>exact PK _ _ _
   case h63=>exact hn63
   case hbytes=>exact hnby
   case hbase=>exact Nat.le_trans hbase hk.1.1
   intro vx w' hn hg hw
   rw [hrow] at hg hw
   exact hK _ _ ⟨l0,l1,l2,true,l4,true,true,l7,false,EE,vx,w',rfl,(by simp only [Act.put,cond_true,List.setIfInBounds_toArray,List.set_cons_zero,List.set_cons_succ]),(fun h=>by cases h),mA.grown hg hk,rfl,(fun _=>rfl),(fun _ h=>by cases h),(fun h=>by cases h),(fun _=>⟨hn,RS hk.1.1 hw⟩)⟩
  case s7=>
   intro ff gg KK hK
   have f0:l7=false:=ff
   cases hl:l8
   case true=>
    have:=(hall hl).2.2.2.2.2.2.2
    rw [f0] at this
    cases this
   rw [hl] at hv
   simp only [cond_false] at hv
   subst hv
   have t0:l0=true:=gg ⟨0,.data⟩ (by simp) (by rfl)
   clear ff gg
   subst t0
   subst hl
   subst f0
   simp only [cond_true,cond_false]
   go_simp
   exact hK _ _ ⟨true,l1,l2,l3,l4,l5,l6,true,false,EE,vN,vv,rfl,(by simp only [cond_true,List.setIfInBounds_toArray,List.set_cons_zero,List.set_cons_succ]),(fun h=>by cases h),hk,rfl,q1,he,ho0,ho1⟩
  case s8=>
   intro ff gg KK hK
   have f0:l8=false:=ff
   have t7:l7=true:=gg ⟨7,.data⟩ (by simp) (by rfl)
   have t6:l6=true:=gg ⟨6,.data⟩ (by simp) (by rfl)
   have t0:l0=true:=gg ⟨0,.phase⟩ (by simp) (by rfl)
   have t1:l1=true:=gg ⟨1,.phase⟩ (by simp) (by rfl)
   have t2:l2=true:=gg ⟨2,.phase⟩ (by simp) (by rfl)
   have t3:l3=true:=gg ⟨3,.phase⟩ (by simp) (by rfl)
   have t4:l4=true:=gg ⟨4,.phase⟩ (by simp) (by rfl)
   clear ff gg
   subst t7 t6 t0 t1 t2 t3 t4
   subst f0
   simp only [cond_false] at hv
   subst hv
   have t5:l5=true:=q1 rfl
   subst t5
   have fO:=mA.frozen (o:=0) hk hOr hOc hOf
   have cO:=mA.cell hk hOr hOc
   obtain ⟨⟨_,⟨rfl,hz9⟩|⟨g9,cap9,cur9,rfl,j2,j3,j4⟩⟩,hnew8⟩:=ho1 rfl
   ·exact absurd hz9 (Nat.succ_ne_zero _)
   simp only [cond_true]
   go_simp
   exact hK _ _ ⟨true,true,true,true,true,true,true,true,true,EE,_,vv,rfl,(by simp only [cond_true,List.setIfInBounds_toArray,List.set_cons_zero,List.set_cons_succ]),(fun _=>⟨rfl,rfl,rfl,rfl,rfl,rfl,rfl,rfl⟩),hk,rfl,(fun _=>rfl),he,ho0,ho1⟩
 case hdone=>
  intro LL aa vv h hd
  obtain ⟨l0,l1,l2,l3,l4,l5,l6,l7,l8,EE,vN,uu,hL,ha,hall,hk,hv,q1,he,ho0,ho1⟩:=h
  rw [hL] at hd
  have t0:l0=true:=hd 0 (by decide)
  have t1:l1=true:=hd 1 (by decide)
  have t2:l2=true:=hd 2 (by decide)
  have t3:l3=true:=hd 3 (by decide)
  have t4:l4=true:=hd 4 (by decide)
  have t5:l5=true:=hd 5 (by decide)
  have t6:l6=true:=hd 6 (by decide)
  have t7:l7=true:=hd 7 (by decide)
  have t8:l8=true:=hd 8 (by decide)
  clear hd hL q1 he ho0 hall
  subst t0 t1 t2 t3 t4 t5 t6 t7 t8
  simp only [cond_true,List.setIfInBounds_toArray,List.set_cons_zero,List.set_cons_succ] at ha hv
  subst ha
  subst hv
  obtain ⟨hown,hnew⟩:=ho1 rfl
  clear ho1
  have KO:J4 V0 (uu.setCell ⟨O,0,none⟩ vN) O row:=J4.set (J4.of_kept hk)
  have hOlt:O<V0.heap.size:=World.block_lt_of_cell? _ _ hOc
  have nO:vN.ownBlock≠some O:=by
   rcases hnew with h|⟨g,h,hg⟩
   ·rw [h];exact fun e=>hOr e.symm
   ·rw [h];intro e;injection e with e;omega
  have cS:(uu.setCell ⟨O,0,none⟩ vN).cell? ⟨O,0,none⟩=some vN:=VB vN (mA.cell hk hOr hOc)
  have fS:∀o,(uu.setCell ⟨O,0,none⟩ vN).frozen? ⟨O,o,none⟩=false:=fun o=>by have:=mA.frozen (o:=o) hk hOr hOc hOf;simpa using this
  have oS:=zY (i:=0) (x:=vN) nO hown
  have b7:=KO.cell (k:=w.heap.size+1+1+1) (by omega) hne7 b7
  have OS:X5 O base (L++[(3,r,c)]) vN.ownBlock (uu.setCell ⟨O,0,none⟩ vN):=⟨fS,vN,cS,by rw [List.length_append,HN.out,QB];exact oS,rfl,nO⟩
  clear hk b50 b51 b52 hOc hOf own0 hn63 hnby fS hown
  generalize uu.setCell ⟨O,0,none⟩ vN=S0 at*
  obtain ⟨_,⟨rfl,hz9⟩|⟨g9,cap9,cur9,rfl,j2,j3,j4⟩⟩:=oS
  ·exact absurd hz9 (Nat.succ_ne_zero _)
  have MG:=b6 fun w (h:X5 O base (L++[(3,r,c)]) (Value.slice (some ⟨g9,0,none⟩) (n+1) cap9).ownBlock w)=>LN O base _ _ w h HP.out
  have hn4:((n:Int))<=3:=by omega
  have hq:decide ((n:Int)+1<=4064)=true:=by simp;omega
  have hS0:w.heap.size+1+1+1<S0.heap.size:=World.block_lt_of_cell? _ _ b7
  have hS1:O<S0.heap.size:=World.block_lt_of_cell? _ _ cS
  clear j2 j3 j4
  go_wp2
  refine wp_loop_rounds 1 ?_
  rw [rounds_succ]
  go_wp2_with (go_at_call 207;((with_reducible refine (MG.out _ ?om).mono ?_);(case om=>exact OS);rintro e w' ⟨rfl,hb⟩);replace hb:=mU;obtain ⟨hcell,hfroz,hz,_⟩:=mB;obtain ⟨w3,rfl⟩:=nm w')
  go_ret
  exact ⟨rfl,_,OS.below hb,((J4.of_below hw0).trans (.inl rfl) KO).below hb,cD.trans hw0.size (.inl rfl) hnew⟩
def a10 (x:Value) (O base:Nat) (L:List (Int×Int×Int)) (row:Option Nat) (w:World) (e:Ending) (w':World):Prop:=
 e= .returned x/\∃row',X5 O base L row' w'/\J4 w w' O row/\cD w.heap.size row row'
theorem X5.lt {O base:Nat} {L:List (Int×Int×Int)} {row:Option Nat} {w:World} (h:X5 O base L row w):O<w.heap.size:=World.block_lt_of_cell? _ _ h.2.choose_spec.1
theorem X5.row_lt {O base:Nat} {L:List (Int×Int×Int)} {row:Option Nat} {w:World} (h:X5 O base L row w):∀k,row=some k->k<w.heap.size:=by
 obtain ⟨_,v,_,hr,he,_⟩:=h
 exact fun k hk=>(hr.lt k (by rw [he,hk])).2
def P0:Value:= .agg #[.int .i64 0,.int .i64 0,.int .i64 0,.int .i64 0]
set_option maxRecDepth 100000 in
set_option maxHeartbeats 4000000 in
theorem ZS (l r c:Int) (O base Bp Bl Bo:Nat) (L L':List (Int×Int×Int)) (row:Option Nat) (w:World) (hO:X5 O base L row w) (hbase:base<=w.heap.size)
  (p0:w.cell? ⟨Bp,0,none⟩=some (.int .i64 0)) (p1:w.cell? ⟨Bp,1,none⟩=some (.int .i64 0)) (p2:w.cell? ⟨Bp,2,none⟩=some (.int .i64 0)) (p3:w.cell? ⟨Bp,3,none⟩=some (.int .i64 0))
  (q0:w.cell? ⟨Bl,0,none⟩=some (.int .i64 3)) (o0:w.cell? ⟨Bo,0,none⟩=some (.pointer (some ⟨O,0,none⟩)))
  (CV:Hid (∀w,X5 O base L row w->base<=w.heap.size->Calls Tryz.prog 117 #[.agg #[.int .i64 0,.int .i64 0,.int .i64 0,.int .i64 0],.agg #[.int .i64 l,.int .i64 r,.int .i64 c],.int .i64 3,.pointer (some ⟨O,0,none⟩)] w (sD O base L' row w))):
  Calls Tryz.prog 210 #[.agg #[.int .i64 l,.int .i64 r,.int .i64 c],.pointer (some ⟨Bp,0,none⟩),.pointer (some ⟨Bl,0,none⟩),.pointer (some ⟨Bo,0,none⟩)] w (a10 (.bool false) O base L' row w):=by
 have h1:Bp<w.heap.size:=World.block_lt_of_cell? _ _ p0
 have h2:Bl<w.heap.size:=World.block_lt_of_cell? _ _ q0
 have h3:Bo<w.heap.size:=World.block_lt_of_cell? _ _ o0
 go_enter Tryz.func210,Tryz.ntmps210
 go_wp2_with fail
 have hb0:Below w.heap.size w (w.alloc (Obj.cells #[.int .i64 l,.int .i64 r,.int .i64 c] 180)):=bw
 refine (CV.out _ (hO.below hb0) (Nat.le_trans hbase hb0.size)).mono ?_
 rintro e w' ⟨rfl,row',hO',hk,hn⟩
 go_wp2
 go_ret
 exact ⟨rfl,row',hO',(J4.of_below hb0).trans (.inl rfl) hk,cD.trans hb0.size (.inl rfl) hn⟩
def U7:Nat->Int×Int×Int->List (Int×Int×Int)
 |0,x=>if oM x.1 x.2.1 x.2.2=true then [x] else []
 |n+1,x=>if oM x.1 x.2.1 x.2.2=true then (dU x.1 x.2.1 x.2.2).flatMap (U7 n) else []
set_option maxRecDepth 100000 in
set_option maxHeartbeats 8000000 in
theorem XT (n:Nat) (K:List (Int×Int×Int)) (hK:K.length=4) (O base Bp Bl Bo g cap:Nat) (L:List (Int×Int×Int)) (row:Option Nat) (w:World) (hO:X5 O base L row w) (hbase:base<=w.heap.size) (hp:L++K.flatMap (U7 n) <+: F4)
  (p0:w.cell? ⟨Bp,0,none⟩=some (.int .i64 0)) (p1:w.cell? ⟨Bp,1,none⟩=some (.int .i64 0)) (p2:w.cell? ⟨Bp,2,none⟩=some (.int .i64 0)) (p3:w.cell? ⟨Bp,3,none⟩=some (.int .i64 0))
  (q0:w.cell? ⟨Bl,0,none⟩=some (.int .i64 3)) (o0:w.cell? ⟨Bo,0,none⟩=some (.pointer (some ⟨O,0,none⟩)))
  (nP:Bp≠O/\some Bp≠row) (nL:Bl≠O/\some Bl≠row) (nO:Bo≠O/\some Bo≠row) (nG:g≠O/\some g≠row)
  (hg:∀(k:Nat) x,K[k]? =some x->w.cell? ⟨g,k*3,none⟩=some (.int .i64 x.1)/\w.cell? ⟨g,k*3+1,none⟩=some (.int .i64 x.2.1)/\w.cell? ⟨g,k*3+2,none⟩=some (.int .i64 x.2.2))
  (CH:Hid (∀(k:Nat) x,K[k]? =some x->∀L1 row w,L1++U7 n x <+: F4->X5 O base L1 row w->base<=w.heap.size->Calls Tryz.prog 117 #[.agg #[.int .i64 0,.int .i64 0,.int .i64 0,.int .i64 0],.agg #[.int .i64 x.1,.int .i64 x.2.1,.int .i64 x.2.2],.int .i64 3,.pointer (some ⟨O,0,none⟩)] w (sD O base (L1++U7 n x) row w))):
  Calls Tryz.prog 265 #[.slice (some ⟨g,0,none⟩) 4 cap,.func (.func 210) #[] #[.pointer (some ⟨Bp,0,none⟩),.pointer (some ⟨Bl,0,none⟩),.pointer (some ⟨Bo,0,none⟩)]] w (a10 (.int .i64 (-1)) O base (L++K.flatMap (U7 n)) row w):=by
 have G:=b6 hg
 have HP:=b6 hp
 have HK:=b6 hK
 clear hg hp hK
 go_enter Tryz.func265,Tryz.ntmps265
 go_wp2
 go_loopw [8] (fun iv wr=>∃k:Nat,iv= .int .i64 k/\k<=4/\Hid (∃row',X5 O base (L++(K.take k).flatMap (U7 n)) row' wr/\J4 w wr O row/\cD w.heap.size row row')) (fun iv _=>8-(intOf iv).toNat)
 case atStart=>exact ⟨0,rfl,by decide,row,by simpa using hO,J4.refl _ _ _,.inl rfl⟩
 case round=>
  obtain ⟨k,rfl,k4,hI⟩:=hrel
  obtain ⟨row',hO',hk',hn'⟩:=hI.out
  by_cases hlt:k<4
  ·obtain ⟨x,hx⟩:∃x,K[k]? =some x:=⟨K[k]'(by rw [HK.out];exact hlt),by simp⟩
   obtain ⟨c0,c1,c2⟩:=G.out k x hx
   have c0:=hk'.cell nG.1 nG.2 c0
   have c1:=hk'.cell nG.1 nG.2 c1
   have c2:=hk'.cell nG.1 nG.2 c2
   have p0:=hk'.cell nP.1 nP.2 p0
   have p1:=hk'.cell nP.1 nP.2 p1
   have p2:=hk'.cell nP.1 nP.2 p2
   have p3:=hk'.cell nP.1 nP.2 p3
   have q0:=hk'.cell nL.1 nL.2 q0
   have o0:=hk'.cell nO.1 nO.2 o0
   have et:(K.take (k+1)).flatMap (U7 n)=(K.take k).flatMap (U7 n)++U7 n x:=by
    rw [List.take_add_one,hx,List.flatMap_append]
    simp
   have hpx:(L++(K.take k).flatMap (U7 n))++U7 n x <+: F4:=by
    refine List.IsPrefix.trans ?_ HP.out
    rw [List.append_assoc,<-et]
    refine List.prefix_append_right_inj _ |>.2 ?_
    conv=>rhs;rw [<-List.take_append_drop (k+1) K,List.flatMap_append]
    exact List.prefix_append _ _
   have hbase':base<=wr.heap.size:=Nat.le_trans hbase hk'.1
   have CL:=b6 (ZS x.1 x.2.1 x.2.2 O base Bp Bl Bo _ _ row' wr hO' hbase' p0 p1 p2 p3 q0 o0 (b6 fun w h hb=>CH.out k x hx _ row' w hpx h hb))
   have ET:=b6 et
   clear et hpx p0 p1 p2 p3 q0 o0
   have k4':k=0\/k=1\/k=2\/k=3:=by omega
   generalize x.1=x1 at*
   generalize x.2.1=x2 at*
   generalize x.2.2=x3 at*
   rcases k4' with rfl|rfl|rfl|rfl
   all_goals
    simp only [Nat.zero_mul,Nat.zero_add,Nat.one_mul,Nat.reduceMul,Nat.reduceAdd] at c0 c1 c2
    go_wp2_with fail
    refine CL.out.mono ?_
    rintro e w' ⟨rfl,row2,hO2,hk2,hn2⟩
    go_wp2
    go_roundw
    case rel=>exact ⟨_,rfl,by decide,row2,by rw [ET.out,<-List.append_assoc];exact hO2,hk'.trans hn' hk2,cD.trans hk'.1 hn' hn2⟩
    case measure=>simp [intOf]
  ·obtain rfl:k=4:=by omega
   have e4:K.take 4=K:=List.take_of_length_le (by rw [HK.out];decide)
   rw [e4] at hO'
   clear hI
   go_wp2
   go_ret
   exact ⟨rfl,row',hO',hk',hn'⟩
set_option maxRecDepth 100000 in
set_option maxHeartbeats 4000000 in
theorem OE (n:Nat) (K:List (Int×Int×Int)) (hK:K.length=4) (O base Bp Bl Bo g cap:Nat) (L:List (Int×Int×Int)) (row:Option Nat) (w:World) (hO:X5 O base L row w) (hbase:base<=w.heap.size) (hp:L++K.flatMap (U7 n) <+: F4)
  (p0:w.cell? ⟨Bp,0,none⟩=some (.int .i64 0)) (p1:w.cell? ⟨Bp,1,none⟩=some (.int .i64 0)) (p2:w.cell? ⟨Bp,2,none⟩=some (.int .i64 0)) (p3:w.cell? ⟨Bp,3,none⟩=some (.int .i64 0))
  (q0:w.cell? ⟨Bl,0,none⟩=some (.int .i64 3)) (o0:w.cell? ⟨Bo,0,none⟩=some (.pointer (some ⟨O,0,none⟩)))
  (nP:Bp≠O/\some Bp≠row) (nL:Bl≠O/\some Bl≠row) (nO:Bo≠O/\some Bo≠row) (nG:g≠O/\some g≠row)
  (hg:∀(k:Nat) x,K[k]? =some x->w.cell? ⟨g,k*3,none⟩=some (.int .i64 x.1)/\w.cell? ⟨g,k*3+1,none⟩=some (.int .i64 x.2.1)/\w.cell? ⟨g,k*3+2,none⟩=some (.int .i64 x.2.2))
  (CH:Hid (∀(k:Nat) x,K[k]? =some x->∀L1 row w,L1++U7 n x <+: F4->X5 O base L1 row w->base<=w.heap.size->Calls Tryz.prog 117 #[.agg #[.int .i64 0,.int .i64 0,.int .i64 0,.int .i64 0],.agg #[.int .i64 x.1,.int .i64 x.2.1,.int .i64 x.2.2],.int .i64 3,.pointer (some ⟨O,0,none⟩)] w (sD O base (L1++U7 n x) row w))):
  Calls Tryz.prog 209 #[.slice (some ⟨g,0,none⟩) 4 cap,.func (.func 210) #[] #[.pointer (some ⟨Bp,0,none⟩),.pointer (some ⟨Bl,0,none⟩),.pointer (some ⟨Bo,0,none⟩)]] w (a10 (.bool false) O base (L++K.flatMap (U7 n)) row w):=by
 have I:=b6 (XT n K hK O base Bp Bl Bo g cap L row w hO hbase hp p0 p1 p2 p3 q0 o0 nP nL nO nG hg CH)
 clear hK hp hg p0 p1 p2 p3 q0 o0
 go_enter Tryz.func209,Tryz.ntmps209
 go_wp2_with (go_at_call 265;((with_reducible refine I.out.mono ?_);rintro e w' ⟨rfl,row',hO',hk',hn'⟩))
 go_ret
 exact ⟨rfl,row',hO',hk',hn'⟩
set_option maxRecDepth 100000 in
set_option maxHeartbeats 8000000 in
theorem UW (n:Nat) (l r c:Int) (O base:Nat) (L:List (Int×Int×Int)) (row:Option Nat) (w:World) (h:vc l r c) (hl:l<=2) (hm:oM l r c=true) (hO:X5 O base L row w) (hbase:base<=w.heap.size) (hp:L++(dU l r c).flatMap (U7 n) <+: F4)
  (CH:Hid (∀(k:Nat) x,(dU l r c)[k]? =some x->∀L1 row w,L1++U7 n x <+: F4->X5 O base L1 row w->base<=w.heap.size->Calls Tryz.prog 117 #[.agg #[.int .i64 0,.int .i64 0,.int .i64 0,.int .i64 0],.agg #[.int .i64 x.1,.int .i64 x.2.1,.int .i64 x.2.2],.int .i64 3,.pointer (some ⟨O,0,none⟩)] w (sD O base (L1++U7 n x) row w))):
  Calls Tryz.prog 117 #[.agg #[.int .i64 0,.int .i64 0,.int .i64 0,.int .i64 0],.agg #[.int .i64 l,.int .i64 r,.int .i64 c],.int .i64 3,.pointer (some ⟨O,0,none⟩)] w (sD O base (L++(dU l r c).flatMap (U7 n)) row w):=by
 have B:=b6 fun w=>rF l r c w h
 have M:=b6 fun w=>(by have:=DP l r c w h;rw [hm] at this;exact this:Calls Tryz.prog 205 #[.agg #[.int .i64 0,.int .i64 0,.int .i64 0,.int .i64 0],GZ l r c] w fun e w'=>e= .returned (.bool true)/\Below w.heap.size w w')
 have I:=b6 fun w=>a0U l r c w h
 have K:=b6 fun w=>wT l r c w h hl
 unfold GZ at*
 generalize bH r l-5400000=e1 at*
 generalize bH (r+1) l-5400000=e2 at*
 generalize bH c l-10800000=e3 at*
 generalize bH (c+1) l-10800000=e4 at*
 have HP:=b6 hp
 have hlt:=hO.row_lt
 have hOl:=hO.lt
 have l3:(l==3)=false:=by simp;omega
 have HO:=b6 hO
 clear h hm hp hO
 go_enter Tryz.func117,Tryz.ntmps117
 go_upto_region 8 with (first|(go_at_call 204;((with_reducible refine am (B.out _) ?_);intro w' hb);replace hb:=mU;obtain ⟨hcell,hfroz,hz,_⟩:=mB;obtain ⟨w1,rfl⟩:=nm w')|(go_at_call 205;((with_reducible refine am (M.out _) ?_);intro w' hb);replace hb:=mU;obtain ⟨hcell,hfroz,hz,_⟩:=mB;obtain ⟨w2,rfl⟩:=nm w')|(go_at_call 206;((with_reducible refine am (I.out _) ?_);intro w' hb);replace hb:=mU;obtain ⟨hcell,hfroz,hz,_⟩:=mB;obtain ⟨w3,rfl⟩:=nm w'))
 (refine m9 ?_;intro w' hb;replace hb:=mU;obtain ⟨hcell,hfroz,hz,_⟩:=mB)
 have hw0:Below w.heap.size w w':=bw
 have p0:=cq w' w.heap.size 0 0
 have p1:=cq w' w.heap.size 1 0
 have p2:=cq w' w.heap.size 2 0
 have p3:=cq w' w.heap.size 3 0
 have c0:=cq w' (w.heap.size+1) 0 l
 have c1:=cq w' (w.heap.size+1) 1 r
 have c2:=cq w' (w.heap.size+1) 2 c
 have q0:=cq w' (w.heap.size+1+1) 0 3
 have o0:w'.cell? ⟨w.heap.size+1+1+1,0,none⟩=some (.pointer (some ⟨O,0,none⟩)):=by simp [go_sem, *]
 clear hcell hfroz hz hb
 obtain ⟨V0,rfl⟩:=nm w'
 have g3:w.heap.size+1+1+1<V0.heap.size:=World.block_lt_of_cell? _ _ o0
 have g1:w.heap.size+1<V0.heap.size:=by omega
 go_wp2_with fail
 refine (K.out _).mono ?_
 rintro e w' ⟨v,rfl,hown,hb⟩
 obtain ⟨_,⟨rfl,hn⟩|⟨g,cap,cur,rfl,i2,i3,i4⟩⟩:=hown
 ·exact absurd hn (by decide)
 ·have H:w'.ownsRow V0.heap.size 180 3 (.slice (some ⟨g,0,none⟩) 4 cap) 4 (aA (dU l r c)):=⟨by rw [QM];rfl,.inr ⟨g,cap,cur,rfl,i2,i3,i4⟩⟩
  have hg:∀(k:Nat) x,(dU l r c)[k]? =some x->w'.cell? ⟨g,k*3,none⟩=some (.int .i64 x.1)/\w'.cell? ⟨g,k*3+1,none⟩=some (.int .i64 x.2.1)/\w'.cell? ⟨g,k*3+2,none⟩=some (.int .i64 x.2.2):=by
   intro k x hx
   have hk:k<4:=by
    rcases Nat.lt_or_ge k 4 with q|q
    ·exact q
    ·rw [List.getElem?_eq_none (show (dU l r c).length<=k from q)] at hx;cases hx
   obtain ⟨f0,f1,f2⟩:=VT _ hx
   exact ⟨(H.cellAt _ (by omega)).trans f0,(H.cellAt _ (by omega)).trans f1,(H.cellAt _ (by omega)).trans f2⟩
  have hw1:Below w.heap.size w w':=o5 hb hw0
  have p0:=cell_later hb p0
  have p1:=cell_later hb p1
  have p2:=cell_later hb p2
  have p3:=cell_later hb p3
  have q0:=cell_later hb q0
  have o0:=cell_later hb o0
  have C:=b6 (OE n (dU l r c) rfl O base w.heap.size (w.heap.size+1+1) (w.heap.size+1+1+1) g cap L row w' (HO.out.below hw1) (Nat.le_trans hbase hw1.size) HP.out p0 p1 p2 p3 q0 o0
   ⟨by omega,fun e=>by have:=hlt _ e.symm;omega⟩ ⟨by omega,fun e=>by have:=hlt _ e.symm;omega⟩ ⟨by omega,fun e=>by have:=hlt _ e.symm;omega⟩ ⟨by omega,fun e=>by have:=hlt _ e.symm;omega⟩ hg CH)
  clear p0 p1 p2 p3 q0 o0 c0 c1 c2 hg H i2 i3 i4
  go_wp2_with (go_at_call 209;((with_reducible refine C.out.mono ?_);rintro e w' ⟨rfl,row',hO',hk',hn'⟩))
  go_ret
  exact ⟨rfl,row',hO',(J4.of_below hw1).trans (.inl rfl) hk',cD.trans hw1.size (.inl rfl) hn'⟩
theorem YH {l r c:Int} (h:vc l r c) (hl:l<=2):∀(k:Nat) x,(dU l r c)[k]? =some x->x.1=l+1/\vc x.1 x.2.1 x.2.2:=by
 intro k x hx
 obtain ⟨h1,h2,h3⟩:=h
 match k,hx with
 |0,hx=>simp [dU] at hx;subst hx;exact ⟨rfl,by unfold vc;dsimp only;omega⟩
 |1,hx=>simp [dU] at hx;subst hx;exact ⟨rfl,by unfold vc;dsimp only;omega⟩
 |2,hx=>simp [dU] at hx;subst hx;exact ⟨rfl,by unfold vc;dsimp only;omega⟩
 |3,hx=>simp [dU] at hx;subst hx;exact ⟨rfl,by unfold vc;dsimp only;omega⟩
 |k+4,hx=>simp [dU] at hx
theorem JC {n:Nat} {l r c:Int} (h:oM l r c=false):U7 n (l,r,c)=[]:=by
 cases n with
 |zero=>unfold U7;exact if_neg (by rw [h];decide)
 |succ n=>unfold U7;exact if_neg (by rw [h];decide)
theorem OA {l r c:Int} (h:oM l r c=true):U7 0 (l,r,c)=[(l,r,c)]:=by unfold U7;exact if_pos h
theorem KJ {n:Nat} {l r c:Int} (h:oM l r c=true):U7 (n+1) (l,r,c)=(dU l r c).flatMap (U7 n):=by
 conv=>lhs;unfold U7
 exact if_pos h
theorem IU (n:Nat):∀(l r c:Int) (O base:Nat) (L:List (Int×Int×Int)) (row:Option Nat) (w:World),vc l r c->l+n=3->X5 O base L row w->base<=w.heap.size->L++U7 n (l,r,c) <+: F4->
  Calls Tryz.prog 117 #[.agg #[.int .i64 0,.int .i64 0,.int .i64 0,.int .i64 0],.agg #[.int .i64 l,.int .i64 r,.int .i64 c],.int .i64 3,.pointer (some ⟨O,0,none⟩)] w (sD O base (L++U7 n (l,r,c)) row w):=by
 have miss:∀(l r c:Int) (O base:Nat) (L:List (Int×Int×Int)) (row:Option Nat) (w:World),vc l r c->X5 O base L row w->oM l r c=false->
   Calls Tryz.prog 117 #[.agg #[.int .i64 0,.int .i64 0,.int .i64 0,.int .i64 0],.agg #[.int .i64 l,.int .i64 r,.int .i64 c],.int .i64 3,.pointer (some ⟨O,0,none⟩)] w (sD O base (L++[]) row w):=by
  intro l r c O base L row w h hO hm
  refine (VK l r c O w h hm).mono ?_
  rintro e w' ⟨he,hb⟩
  rw [List.append_nil]
  exact ⟨he,row,hO.below hb,J4.of_below hb,.inl rfl⟩
 induction n with
 |zero=>
  intro l r c O base L row w h hl hO hbase hp
  cases hm:oM l r c
  ·rw [JC hm]
   exact miss l r c O base L row w h hO hm
  ·rw [OA hm] at*
   exact VE l r c O base L row w h (by omega) hm hO hbase hp
 |succ n ih=>
  intro l r c O base L row w h hl hO hbase hp
  cases hm:oM l r c
  ·rw [JC hm]
   exact miss l r c O base L row w h hO hm
  ·rw [KJ hm] at*
   refine UW n l r c O base L row w h (by omega) hm hO hbase hp (b6 fun k x hx L1 row w hp hO hb=> ?_)
   obtain ⟨e1,e2⟩:=YH h (by omega) k x hx
   exact ih x.1 x.2.1 x.2.2 O base L1 row w e2 (by omega) hO hb hp
def a3w (w:World) (e:Ending) (w':World):Prop:=(∃g cap,e= .returned (.tuple #[.slice (some ⟨g,0,none⟩) 4 cap,.int .i64 0]))/\Below w.heap.size w w'
theorem a2Y:U7 3 (0,0,0)=[(3,3,7),(3,4,7)]:=by decide
theorem a2I:U7 3 (0,0,1)=[(3,3,8),(3,4,8)]:=by decide
theorem a1I (O base:Nat) (row:Option Nat) (w:World) (h:X5 O base [] row w) (hb:base<=w.heap.size):
  Calls Tryz.prog 117 #[.agg #[.int .i64 0,.int .i64 0,.int .i64 0,.int .i64 0],.agg #[.int .i64 0,.int .i64 0,.int .i64 0],.int .i64 3,.pointer (some ⟨O,0,none⟩)] w (sD O base [(3,3,7),(3,4,7)] row w):=by
 have:=IU 3 0 0 0 O base [] row w (by unfold vc;decide) (by decide) h hb (by rw [a2Y];decide)
 rw [a2Y] at this
 exact this
theorem a1z (O base:Nat) (row:Option Nat) (w:World) (h:X5 O base [(3,3,7),(3,4,7)] row w) (hb:base<=w.heap.size):
  Calls Tryz.prog 117 #[.agg #[.int .i64 0,.int .i64 0,.int .i64 0,.int .i64 0],.agg #[.int .i64 0,.int .i64 0,.int .i64 1],.int .i64 3,.pointer (some ⟨O,0,none⟩)] w (sD O base F4 row w):=by
 have:=IU 3 0 0 1 O base [(3,3,7),(3,4,7)] row w (by unfold vc;decide) (by decide) h hb (by rw [a2I];decide)
 rw [a2I] at this
 exact this
set_option maxRecDepth 100000 in
set_option maxHeartbeats 8000000 in
theorem MB (w:World):
  Calls Tryz.prog 39 #[.agg #[.int .i64 0,.int .i64 0,.int .i64 0,.int .i64 0],.int .i64 3] w (a3w w):=by
 have V1:=b6 fun w=>O5 0 0 0 0 w (by omega) (by omega) (by omega) (by omega) (by omega) (by omega) (by omega) (by omega)
 go_enter Tryz.func39,Tryz.ntmps39
 go_wp2_with (go_at_call 111;((with_reducible refine am (V1.out _) ?_);intro w' hb);replace hb:=mU;obtain ⟨hcell,hfroz,hz,_⟩:=mB;obtain ⟨w1,rfl⟩:=nm w')
 (refine m9 ?_;intro w' hb;replace hb:=mU;obtain ⟨hcell,hfroz,hz,_⟩:=mB)
 have hw0:Below w.heap.size w w':=bw
 have hd1:w.heap.size<w1.heap.size+1+1:=by omega
 have p0:=cq w' w.heap.size 0 0
 have p1:=cq w' w.heap.size 1 0
 have p2:=cq w' w.heap.size 2 0
 have p3:=cq w' w.heap.size 3 0
 have c0:w'.cell? ⟨w1.heap.size,0,none⟩=some (.slice none 0 0):=by simp [go_sem, *]
 have cf:∀o,w'.frozen? ⟨w1.heap.size,o,none⟩=false:=by intro o;simp [go_sem, *]
 have s0:=cq w' (w1.heap.size+1) 0 0
 have s1:=cq w' (w1.heap.size+1) 1 0
 have s2:=cq w' (w1.heap.size+1) 2 0
 have s3:=cq w' (w1.heap.size+1) 3 0
 have s4:=cq w' (w1.heap.size+1) 4 0
 have s5:=cq w' (w1.heap.size+1) 5 1
 have hz1:w.heap.size<w1.heap.size:=by omega
 clear hcell hfroz hz hb
 obtain ⟨V0,rfl⟩:=nm w'
 have O0:X5 w1.heap.size w.heap.size [] none V0:=⟨cf,_,c0,World.ownsRow_nil _ _ _ _,rfl,fun e=>by cases e⟩
 have g1:w1.heap.size+1<V0.heap.size:=World.block_lt_of_cell? _ _ s0
 have g0:w.heap.size<V0.heap.size:=by omega
 clear c0 cf
 refine wp_loop_rounds 3 ?_
 rw [rounds_succ]
 go_wp2_with fail
 have hb1:Below V0.heap.size V0 (V0.alloc (Obj.cells #[.int .i64 0,.int .i64 0,.int .i64 0] 180)):=bw
 refine (a1I w1.heap.size w.heap.size none _ (O0.below hb1) (Nat.le_trans hw0.size hb1.size)).mono ?_
 rintro e w' ⟨rfl,row1,O1,k1,n1⟩
 have K1:=(J4.of_below hb1).trans (.inl rfl) k1
 have N1:=cD.trans hb1.size (.inl rfl) n1
 have hr1:∀k,k<V0.heap.size->some k≠row1:=by
  intro k hk e
  rcases N1 with h|⟨g,h,hg⟩
  ·rw [h] at e;cases e
  ·rw [h] at e;injection e with e;omega
 have p0:=K1.cell (by omega) (fun e=>by cases e) p0
 have p1:=K1.cell (by omega) (fun e=>by cases e) p1
 have p2:=K1.cell (by omega) (fun e=>by cases e) p2
 have p3:=K1.cell (by omega) (fun e=>by cases e) p3
 have s3:=K1.cell (by omega) (fun e=>by cases e) s3
 have s4:=K1.cell (by omega) (fun e=>by cases e) s4
 have s5:=K1.cell (by omega) (fun e=>by cases e) s5
 have z1:=K1.1
 clear s0 s1 s2 k1 n1 hb1 O0
 obtain ⟨V1,rfl⟩:=nm w'
 have g1:w1.heap.size+1<V1.heap.size:=by omega
 have g0:w.heap.size<V1.heap.size:=by omega
 go_wp2
 rw [rounds_succ]
 go_wp2_with fail
 have hb1:Below V1.heap.size V1 (V1.alloc (Obj.cells #[.int .i64 0,.int .i64 0,.int .i64 1] 180)):=bw
 refine (a1z w1.heap.size w.heap.size row1 _ (O1.below hb1) (Nat.le_trans (Nat.le_trans hw0.size z1) hb1.size)).mono ?_
 rintro e w' ⟨rfl,row2,O2,k2,n2⟩
 have K2:=(J4.of_below hb1).trans (.inl rfl) k2
 have KA:=K1.trans N1 K2
 have hBB:Below w.heap.size w w':=⟨KA.2.2.1.trans hw0.os,KA.2.2.2.1.trans hw0.tape,KA.2.2.2.2.trans hw0.output,Nat.le_trans hw0.size KA.1,fun k hk=>(KA.2.1 k (by omega) (by omega) (fun e=>by cases e)).trans (hw0.block k hk)⟩
 obtain ⟨_,v,vc,vr,_,_⟩:=O2
 clear p0 p1 p2 p3 s3 s4 s5 k2 n2 hb1 O1 K1 K2 KA hr1
 obtain ⟨V2,rfl⟩:=nm w'
 obtain ⟨_,⟨rfl,hn⟩|⟨g,cap,cur,rfl,i2,i3,i4⟩⟩:=vr
 ·exact absurd hn (by decide)
 ·rw [show F4.length=4 from rfl] at vc
  clear i2 i3 i4
  go_wp2
  rw [rounds_succ]
  go_wp2
  go_ret2
  exact ⟨⟨g,cap,rfl⟩,hBB⟩
end Go.Proofs.YtdhbeoahpfimbaaGreat
