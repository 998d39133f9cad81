/- The statement TopDistances, proved: for every input the law returns true; each argument reads behind the call as it read before. The walk is distances_all of YtdhbeoahpfimbaaGreatDi3. -/
import Derived.Test.YtdhbeoahpfimbaaGreatPq
import Derived.ProofKit
import Derived.OpenShut
import Derived.Lib.SmallJoins
namespace Go.Proofs.YtdhbeoahpfimbaaGreat.topDistances
open Go.Proofs.YtdhbeoahpfimbaaGreat
open Go.ChangeShapes Go.WideShapes Go.ChangeAt Go.RowKit Go.Joins
theorem sB:ownKnob Tryz.prog.godebug=none:=by kernel_rfl
theorem a3D:Tryz.prog.cellsOf 3=1:=by kernel_rfl
theorem oT:Tryz.prog.cellsOf 49=2:=by kernel_rfl
set_option maxRecDepth 100000 in
theorem a2i (os:Os) (started:os.Started) (H:Type) (enc:TypeId×Value->H):
  ReturnsInHanded {} Tryz.checked os 4 .any (Rows.topDistancesSpec.pre6 enc Tryz.prog Tryz.f4 Rows.topDistancesRow.domain false) (Rows.topDistancesSpec.post enc Tryz.prog Tryz.f4 false true false false):=by
 refine returnsInHanded_of_change (C:=Tryz.checked) sB started (by kernel_rfl) Tryz.func4
  (ChangeSpec.witness6 (enc:=enc) (C:=Tryz.checked) false ⟨#[],#[.agg #[.int .i64 0,.int .i64 0],.agg #[.int .i64 0,.int .i64 0]],[]⟩ 8 (by kernel_rfl) (by kernel_rfl) (by kernel_rfl) (by kernel_rfl)) ?_
 intro W base args ds gs before hval0 hW hcnd _
 have hval:∀(j:Nat) t v,Tryz.f4.params[j]? =some t->args[j]? =some v->Value.okWide Tryz.prog W .any base t v:=hval0
 have hW':=hW
 obtain ⟨p,q,hA0,hV,rfl,hfz,hnd⟩:=hW
 have hA:DataW.TrodAll enc Tryz.prog W 0 (fun _=>true) true Tryz.f4.params.toList args.toList ds p:=hA0
 rw [Tryz.params4] at hA hval
 obtain ⟨v0,vs0,d0,ds0,p0,q0,hargs,rfl,rfl,h0,r0⟩:=trodAll_cons hA
 obtain ⟨v1,vs1,d1,ds1,p1,q1,rfl,rfl,rfl,h1,r1⟩:=trodAll_cons r0
 obtain ⟨rfl,rfl,rfl⟩:=trodAll_nil r1
 obtain rfl:args= #[v0,v1]:=by cases args;simp_all
 obtain ⟨rfl,rfl⟩:=trodVars_none hV
 obtain ⟨c0_0,c0_1,y0_0,y0_1,m0,rfl,rfl,rfl,g0_0,g0_1⟩:=open_agg2 Tryz.underlying49 (by kernel_rfl) oT (hval 0 49 v0 rfl rfl) h0
 obtain ⟨a0_0,e0_0,rfl,w0_0⟩:=DataW.trod_int Tryz.underlying3 g0_0
 obtain ⟨a0_1,e0_1,rfl,w0_1⟩:=DataW.trod_int Tryz.underlying3 g0_1
 simp at e0_0 e0_1
 subst e0_0 e0_1
 obtain ⟨c1_0,c1_1,y1_0,y1_1,m1,rfl,rfl,rfl,g1_0,g1_1⟩:=open_agg2 Tryz.underlying49 (by kernel_rfl) oT (hval 1 49 v1 rfl rfl) h1
 obtain ⟨a1_0,e1_0,rfl,w1_0⟩:=DataW.trod_int Tryz.underlying3 g1_0
 obtain ⟨a1_1,e1_1,rfl,w1_1⟩:=DataW.trod_int Tryz.underlying3 g1_1
 simp at e1_0 e1_1
 subst e1_0 e1_1
 clear hA0 hval0
 simp only [List.append_nil] at hW'
 refine (sE a0_0 a0_1 a1_0 a1_1 W (bounds_i64 w0_0) (bounds_i64 w0_1) (bounds_i64 w1_0) (bounds_i64 w1_1)).mono fun e W' ⟨he,hg⟩=> ?_
 subst he
 have s0:∀sp:Nat->Bool,DataW.Trod enc Tryz.prog W' 0 sp true 49 (.agg #[.int .i64 a0_0,.int .i64 a0_1]) (.agg [.lit (.int .i64 a0_0),.lit (.int .i64 a0_1)]) []:=fun sp=>
  shut_agg2 (y0:=(.lit (.int .i64 a0_0),[])) (y1:=(.lit (.int .i64 a0_1),[])) Tryz.underlying49 (by kernel_rfl) oT ⟨1,by simp [DataW.trod,Tryz.underlying3,w0_0]⟩ ⟨1,by simp [DataW.trod,Tryz.underlying3,w0_1]⟩
 have s1:∀sp:Nat->Bool,DataW.Trod enc Tryz.prog W' 0 sp true 49 (.agg #[.int .i64 a1_0,.int .i64 a1_1]) (.agg [.lit (.int .i64 a1_0),.lit (.int .i64 a1_1)]) []:=fun sp=>
  shut_agg2 (y0:=(.lit (.int .i64 a1_0),[])) (y1:=(.lit (.int .i64 a1_1),[])) Tryz.underlying49 (by kernel_rfl) oT ⟨1,by simp [DataW.trod,Tryz.underlying3,w1_0]⟩ ⟨1,by simp [DataW.trod,Tryz.underlying3,w1_1]⟩
 exact ⟨_,rfl,_,_,_,[],_,[],hW',(trodAll_cons_mk (shut_bool Tryz.underlying4 _) trodAll_mk0),(let sp:=(fun b=>decide (b<W.heap.size));(trodAll_cons_mk (s0 sp) (trodAll_cons_mk (s1 sp) trodAll_mk0))),rfl,hg.frame _,fun h=>by cases h⟩
theorem unf:Tryz.prog.unfollowed 4=true:=by kernel_rfl
theorem inP:Tryz.prog.inPlace 4=Rows.topDistancesRow.inPlace:=by kernel_rfl
theorem nam:Tryz.prog.varsNamed 4=Rows.topDistancesRow.named:=by kernel_rfl
theorem rec:Tryz.prog.recurses 4=true:=by unfold Program.recurses;rw [unf];rfl
set_option maxHeartbeats 4000000 in
theorem a1o:joinedFacts Tryz.prog 4 Tryz.f4 Rows.topDistancesSpec Rows.topDistancesRow=true:=by
 unfold joinedFacts
 rw [unf,inP,nam,rec]
 simp only [Bool.and_eq_true]
 refine ⟨⟨⟨⟨⟨⟨⟨⟨⟨⟨⟨⟨⟨⟨⟨⟨⟨⟨⟨⟨⟨⟨⟨⟨⟨⟨⟨⟨⟨⟨⟨?_,?_⟩,?_⟩,?_⟩,?_⟩,?_⟩,?_⟩,?_⟩,?_⟩,?_⟩,?_⟩,?_⟩,?_⟩,?_⟩,?_⟩,?_⟩,?_⟩,?_⟩,?_⟩,?_⟩,?_⟩,?_⟩,?_⟩,?_⟩,?_⟩,?_⟩,?_⟩,?_⟩,?_⟩,?_⟩,?_⟩,?_⟩
 all_goals (as_aux_lemma=>kernel_rfl)
theorem a3z:Rows.topDistancesRow.holds Tryz.pinned (OpenSpec.ofChange Rows.topDistancesSpec):=
 OpenClaim.holds_of_wide 4 Tryz.f4 rfl rfl rfl rfl rfl rfl rfl ⟨rfl,rfl,rfl,rfl,rfl⟩ rfl rfl rfl rfl rfl (by kernel_rfl) Tryz.func4 a1o
  (of_decide_eq_true (by kernel_rfl)) (by unfold Func.isWrapper;first|(rw [if_pos (by decide+kernel)];kernel_rfl)|(rw [if_neg (by decide+kernel)];exact ⟨rfl,rfl⟩))
  (fun os started H enc _=>a2i os started H enc)
theorem proved:Rows.TopDistancesSaid:=a3z
#print axioms proved
end Go.Proofs.YtdhbeoahpfimbaaGreat.topDistances
