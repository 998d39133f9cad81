/- Part of the proof of TopDistances. -/
namespace Go.Proofs.YtdhbeoahpfimbaaGreat.Rot
def H7:List Nat->Nat
 |[]=>0
 |x :: l=>x+2^256*H7 l
theorem mQ {α:Type} (f g:α->Nat) (l:List α):H7 (l.map f)+H7 (l.map g)=H7 (l.map fun i=>f i+g i):=by
 induction l with
 |nil=>rfl
 |cons x l ih=>simp only [List.map_cons,H7];rw [<-ih,Nat.mul_add];omega
theorem uM {α:Type} (f:α->Nat) (k:Nat) (l:List α):H7 (l.map f)*k=H7 (l.map fun i=>f i*k):=by
 induction l with
 |nil=>simp [H7]
 |cons x l ih=>simp only [List.map_cons,H7];rw [<-ih,Nat.add_mul,Nat.mul_assoc]
theorem WO {α:Type} {f g:α->Nat} {l:List α} (h:∀i∈l,f i=g i):H7 (l.map f)=H7 (l.map g):=by
 rw [List.map_congr_left h]
theorem a1j {α:Type} (f g:α->Nat) (l:List α) (h:∀i∈l,g i<=f i):H7 (l.map f)-H7 (l.map g)=H7 (l.map fun i=>f i-g i):=by
 have e:H7 (l.map f)=H7 (l.map fun i=>f i-g i)+H7 (l.map g):=by
  rw [mQ];exact WO fun i hi=>(Nat.sub_add_cancel (h i hi)).symm
 omega
theorem tO (x y a b:Nat) (hx:x<2^256) (ha:a<2^256):(x+2^256*y) &&& (a+2^256*b)=(x &&& a)+2^256*(y &&& b):=by
 have hxa:x &&& a<2^256:=Nat.lt_of_le_of_lt Nat.and_le_left hx
 apply Nat.eq_of_testBit_eq
 intro j
 rw [Nat.testBit_and,Nat.add_comm x,Nat.add_comm a,Nat.add_comm (x &&& a),Nat.testBit_two_pow_mul_add _ hx,Nat.testBit_two_pow_mul_add _ ha,Nat.testBit_two_pow_mul_add _ hxa]
 split
 ·rw [Nat.testBit_and]
 ·rw [Nat.testBit_and]
theorem SJ {α:Type} (f:α->Nat) (m:Nat) (l:List α) (hm:m<2^256) (h:∀i∈l,f i<2^256):H7 (l.map f) &&& H7 (l.map fun _=>m)=H7 (l.map fun i=>f i &&& m):=by
 induction l with
 |nil=>simp [H7]
 |cons x l ih=>
  simp only [List.map_cons,H7]
  rw [tO _ _ _ _ (h x (List.mem_cons_self ..)) hm,ih fun i hi=>h i (List.mem_cons_of_mem _ hi)]
theorem AQ {α:Type} (f:α->Nat) (l:List α) (h:∀i∈l,f i<2^256):(H7 (l.map f) >>> 128) &&& H7 (l.map fun _=>2^128-1)=H7 (l.map fun i=>f i/2^128):=by
 induction l with
 |nil=>simp [H7]
 |cons x l ih=>
  have hx:=h x (List.mem_cons_self ..)
  simp only [List.map_cons,H7]
  rw [<-ih fun i hi=>h i (List.mem_cons_of_mem _ hi)]
  generalize H7 (l.map f)=y
  generalize (H7 (l.map fun _=>2^128-1))=b
  generalize f x=v at*
  have e:(v+2^256*y) >>> 128=(v/2^128+2^128*(y%2^128))+2^256*(y >>> 128):=by
   rw [Nat.shiftRight_eq_div_pow,Nat.shiftRight_eq_div_pow];omega
  have k:v/2^128+2^128*(y%2^128)<2^256:=by omega
  rw [e,tO _ _ _ _ k (by omega),Nat.and_two_pow_sub_one_eq_mod]
  congr 1
  omega
theorem GG {α:Type} (f g:α->Nat) (l:List α) (hf:∀i∈l,f i<2^256) (hg:∀i∈l,g i<2^256) (h:H7 (l.map f)=H7 (l.map g)):∀i∈l,f i=g i:=by
 induction l with
 |nil=>intro i hi;cases hi
 |cons x l ih=>
  simp only [List.map_cons,H7] at h
  have a:=hf x (List.mem_cons_self ..)
  have b:=hg x (List.mem_cons_self ..)
  have e:f x=g x/\H7 (l.map f)=H7 (l.map g):=by omega
  intro i hi
  rcases List.mem_cons.1 hi with rfl|hi
  ·exact e.1
  ·exact ih (fun i hi=>hf i (List.mem_cons_of_mem _ hi)) (fun i hi=>hg i (List.mem_cons_of_mem _ hi)) e.2 i hi
def uC:Nat:=340282366920924066805512056100497561939
def uS:Nat:=98984128154162191825446416122235
def tB (s d:Nat):Nat:=((2^128-d)*uS+s*uC)/2^128
def tR (s d:Nat):Nat:=(2^128-uC)+(d*uC+s*uS)/2^128
def it:Nat->Nat×Nat->Nat×Nat
 |0,p=>p
 |t+1,p=>(tB (it t p).1 (it t p).2,tR (it t p).1 (it t p).2)
def yV (v:Nat):Prop:=2^77<=(v+2^76)%2^98
theorem TR (a b:Nat) (p:Nat×Nat):it (a+b) p=it b (it a p):=by
 induction b with
 |zero=>rfl
 |succ b ih=>rw [<-Nat.add_assoc];simp only [it,ih]
def oB (p:Nat×Nat):Prop:=p.1<=2^127+2^126/\p.2<=2^126+2^124
theorem a0j (s d a b:Nat) (hs:s<=a) (hd:d<=b) (ha:a<=2^128):tB s d<=a+uS/\tR s d<=b+(2^128-uC)+uS:=by
 unfold tB tR uC uS
 constructor
 ·have h:(2^128-d)*98984128154162191825446416122235<=2^128*98984128154162191825446416122235:=Nat.mul_le_mul_right _ (by omega)
  omega
 ·omega
theorem a28 (t:Nat) (p:Nat×Nat) (ht:t<=45000) (hp:oB p):(it t p).1<=2^127+2^126+t*uS/\(it t p).2<=2^126+2^124+t*(2^128-uC+uS):=by
 induction t with
 |zero=>unfold oB at hp;simp only [it];omega
 |succ t ih=>
  have h:=ih (by omega)
  have k:=a0j _ _ _ _ h.1 h.2 (by unfold uS;omega)
  simp only [it,Nat.succ_mul]
  omega
theorem QP (t:Nat) (p:Nat×Nat) (ht:t<=45000) (hp:oB p):(it t p).1<2^127+2^126+2^125/\(it t p).2<2^127:=by
 have h:=a28 t p ht hp
 have a:t*uS<=45000*uS:=Nat.mul_le_mul_right _ ht
 have b:t*(2^128-uC+uS)<=45000*(2^128-uC+uS):=Nat.mul_le_mul_right _ ht
 have c:45000*uS<2^125:=by decide
 have d:45000*(2^128-uC+uS)<2^125:=by decide
 omega
def fM (n:Nat) (f:Nat->Bool):Bool:=match n with
 |0=>f 0
 |k+1=>f (k+1)
theorem xX (n:Nat) (f:Nat->Bool):fM n f=f n:=by cases n<;>rfl
def a1O (ad mf w1 bb v:Nat):Bool:=Nat.beq (Nat.land (Nat.add (Nat.land (Nat.add v ad) mf) w1) bb) bb
def UI (p mk dO ad mf w1 bb s1 d1:Nat):Nat->Nat->Nat->Bool
 |0,s,d=>and (Nat.beq s s1) (Nat.beq d d1)
 |k+1,s,d=>and (a1O ad mf w1 bb s) (and (a1O ad mf w1 bb d)
   (fM (Nat.land (Nat.shiftRight (Nat.add (Nat.mul (Nat.sub p d) uS) (Nat.mul s uC)) 128) mk) fun s'=>
       fM (Nat.add dO (Nat.land (Nat.shiftRight (Nat.add (Nat.mul d uC) (Nat.mul s uS)) 128) mk)) fun d'=>UI p mk dO ad mf w1 bb s1 d1 k s' d'))
def GA (l:List (Nat×Nat)) (t s d:Nat):Prop:=s=H7 (l.map fun q=>(it t q).1)/\d=H7 (l.map fun q=>(it t q).2)
def all (l:List (Nat×Nat)) (k:Nat):Nat:=H7 (l.map fun _=>k)
theorem ID {α:Type} (f:α->Nat) (l:List α) (h:∀i∈l,f i<2^128)
  (ht:a1O (H7 (l.map fun _=>2^76)) (H7 (l.map fun _=>2^98-1)) (H7 (l.map fun _=>2^98-2^77)) (H7 (l.map fun _=>2^98)) (H7 (l.map f))=true):∀i∈l,yV (f i):=by
 have e:=Nat.eq_of_beq_eq_true ht
 change ((H7 (l.map f)+H7 (l.map fun _=>2^76)) &&& H7 (l.map fun _=>2^98-1))+H7 (l.map fun _=>2^98-2^77) &&& H7 (l.map fun _=>2^98)=_ at e
 rw [mQ,SJ _ _ _ (by decide) (fun i hi=>by have:=h i hi;omega),mQ,SJ _ _ _ (by decide) (fun i hi=>by
  have:(f i+2^76) &&& (2^98-1)<=2^98-1:=Nat.and_le_right
  omega)] at e
 have k:=GG _ _ _ (fun i _=>Nat.lt_of_le_of_lt Nat.and_le_right (by decide)) (fun i _=>by decide) e
 intro i hi
 have:=k i hi
 simp only [Nat.and_two_pow_sub_one_eq_mod] at this
 unfold yV
 apply Decidable.byContradiction
 intro hn
 have hl:(f i+2^76)%2^98+(2^98-2^77)<2^98:=by omega
 have e0:=congrArg (fun v=>Nat.testBit v 98) this
 simp only [Nat.testBit_and,Nat.testBit_lt_two_pow hl,Bool.false_and,Nat.testBit_two_pow_self] at e0
 cases e0
theorem a0I (l:List (Nat×Nat)) (hl:∀q∈l,oB q) (s1 d1:Nat) (k:Nat):∀(t s d:Nat),GA l t s d->t+k<=45000->
  UI (all l (2^128)) (all l (2^128-1)) (all l (2^128-uC)) (all l (2^76)) (all l (2^98-1)) (all l (2^98-2^77)) (all l (2^98)) s1 d1 k s d=true->
  GA l (t+k) s1 d1/\∀j,t<=j->j<t+k->∀q∈l,yV (it j q).1/\yV (it j q).2:=by
 induction k with
 |zero=>
  intro t s d h ht hr
  simp only [UI,Bool.and_eq_true] at hr
  have a:=Nat.eq_of_beq_eq_true hr.1
  have b:=Nat.eq_of_beq_eq_true hr.2
  subst a b
  exact ⟨h,fun j h1 h2=>by omega⟩
 |succ k ih=>
  intro t s d h ht hr
  simp only [UI,Bool.and_eq_true,xX] at hr
  obtain ⟨g1,g2,hr⟩:=hr
  obtain ⟨hs,hd⟩:=h
  have bd:∀q∈l,(it t q).1<2^127+2^126+2^125/\(it t q).2<2^127:=fun q hq=>QP t q (by omega) (hl q hq)
  rw [hs] at g1
  rw [hd] at g2
  have t1:=ID _ l (fun q hq=>by have:=(bd q hq).1;omega) g1
  have t2:=ID _ l (fun q hq=>by have:=(bd q hq).2;omega) g2
  have es:Nat.land (Nat.shiftRight (Nat.add (Nat.mul (Nat.sub (all l (2^128)) d) uS) (Nat.mul s uC)) 128) (all l (2^128-1))=H7 (l.map fun q=>(it (t+1) q).1):=by
   show (((all l (2^128)-d)*uS+s*uC) >>> 128) &&& all l (2^128-1)=_
   unfold all
   rw [hs,hd,a1j _ _ _ (fun q hq=>by have:=(bd q hq).2;omega),uM,uM,mQ,AQ _ _ (fun q hq=>by
    have:=bd q hq
    have h1:(2^128-(it t q).2)*uS<=2^128*uS:=Nat.mul_le_mul_right _ (by omega)
    unfold uS uC at*
    omega)]
   rfl
  have ed:Nat.add (all l (2^128-uC)) (Nat.land (Nat.shiftRight (Nat.add (Nat.mul d uC) (Nat.mul s uS)) 128) (all l (2^128-1)))=H7 (l.map fun q=>(it (t+1) q).2):=by
   show all l (2^128-uC)+(((d*uC+s*uS) >>> 128) &&& all l (2^128-1))=_
   unfold all
   rw [hs,hd,uM,uM,mQ,AQ _ _ (fun q hq=>by
    have:=bd q hq
    unfold uS uC at*
    omega),mQ]
   rfl
  rw [es,ed] at hr
  have r:=ih (t+1) _ _ ⟨rfl,rfl⟩ (by omega) hr
  refine ⟨by rw [show t+(k+1)=t+1+k by omega];exact r.1,fun j h1 h2 q hq=> ?_⟩
  by_cases e:j=t
  ·subst e;exact ⟨t1 q hq,t2 q hq⟩
  ·exact r.2 j (by omega) (by omega) q hq
end Go.Proofs.YtdhbeoahpfimbaaGreat.Rot
namespace Go.Proofs.YtdhbeoahpfimbaaGreat.Rot
def st:List (Nat×Nat):=[
 (0,0),
 (4454158563054919941726342891874778401,29152815896745998053648138736252285),
 (8907553928970131351030906177704978494,116606268402059191043990789396596877),
 (13359423031375826634939736672424139300,262345372817064397041655593916115459),
 (17809003065419593330053848897132047993,466345157496487064180361498070197583),
 (22255531618469098633316141931458344990,728570668127416134070293994598129966),
 (26698246800747569041283003153911839845,1048976973718545613813479230748750516),
 (31136387375879681380977696186306595027,1427509174298868630910491994305164112),
 (35569192891325496865949479403476698875,1864102410324504839465174586600783083),
 (39995903808680088994413676286699760379,2358681873792049366237793193393470149),
 (44415761633816539119016668338234805410,2911162821056539081416402223207575312),
 (48828009046850000355912902914469471270,3521450587351839901572990580054454392),
 (53231890031900561159859924515609380521,4189440603010967131191206392441801612),
 (57626650006632674366678883732402426458,4915018411383559574377576671884676652),
 (62011535951548955788784900859297138477,5698059688447437349806588910795118575),
 (66385796539016198537004233668371929205,6538430264110883069428619238068433905),
 (70748682262001495125351942387152200061,7435986145201996344725178642752826165),
 (75099445562496409086982765431728575232,8390573540141182512966350761290838967),
 (79437340959607191280638254413019325872,9402028885292548079541495985305557702),
 (83761625177289093288436293769754603133,10470178872989687700411532880045551991),
 (88071557271702891287980335684789215814,11594840481231060630360499269352448410),
 (92366398758171798514056040466514814639,12775821005039868487164200688316295485),
 (96645413737717012896540981614078042850,14012918089483060978062147696579766688),
 (100907869023150218659846438637337845074,15305919764343811951883856961444953090),
 (105153034264701436582868184942005485094,16654604480441524826552378636403040254),
 (109380182075160697234038168243318950543,18058741147593144146010946069096746313),
 (113588588154512094799999351271652332155,19518089174209268791262834259131009609),
 (117777531414038866104398031361504725240,21032398508518282255367063095867259728),
 (121946294099878230050398461124266242943,22601409681411436439889727314820735223),
 (126094161916004817001243346511347097188,24224853850901547688269525215992951233),
 (130220424146621615521356287377629455606,25902452848187687287406161429793683165),
 (134324373777937465419332387832453467845,27633919225317973489895851136655874407),
 (138405307619310231146296366861657846097,29418956304442298282869639370399451145),
 (142462526423734898290513121031068551863,31257258228646549702256425080180537343),
 (146495335007655948153190803110344913226,33148510014359619510172432413489247732),
 (150503042370083481171888642176779140873,35092387605324216564463621135739209968),
 (154484961810992679256992382961239001097,37088557928122238259372671393216028038),
 (158440411048986319902908086706880052669,39136678949245186050779577644566111768),
 (162368712338200181207909617991452042954,41236399733699846344114903575730408246),
 (166269192584431306663320335904324187176,43387360505139194963228423532543294417),
 (170141183460469231731687303715883259369,45589192707508222079287151745999189422),
 (173984021520610410802000623388706041699,47841519068194114904954766424418000438),
 (177797048314336223064420998650917804978,50143953662669977695145809753435241223),
 (181579610499135079163424865130970241524,52496101980621012685719314316990031716),
 (185331059952449297142201862972457177139,54897560993541831589426520290347782293),
 (189050753882727566157415671260389072674,57347919223793315197779763067197186302),
 (192738054939563969696370325090672648731,59846756815107188551455435567400643252),
 (196392331322904696541950994406392566956,62393645604526231083234121266486611921),
 (200012956891303727477613065983507625477,64988149195767795148819118773875553048),
 (203599311269208948677804426405919289638,67629823033998062484309527423354960464),
 (207150779953260308860601917830929171301,70318214482004226406422829768027736399),
 (210666754417581806560558270340364626519,73052862897751548044182428130461592147),
 (214146632218049266281784939915058111049,75833299713311997599749651830429206850),
 (217589817095516037784598999398376732693,78659048515150956622045946828268698004),
 (220995719077978931313568667249318664087,81529625125758224580047735118427080437),
 (224363754581666883159907819950378712119,84444537686609342683015179737467528080),
 (227693346511035030535781243847007768415,87403286742443019951904321023554012623),
 (230983924357647062290561818033137380052,90405365326840221038866622393172220197),
 (234234924297928902487292129832382449373,93450259049090252258700402109597703619),
 (237445789289776977248907034085205670772,96537446182328961775600494458069428541)]
def kZ:Nat×Nat:=(240615969168004511545033772477624362176,99666397752933951918340834954140112830)
def a2X:Nat:=H7 (st.map fun q=>tB q.1 q.2)
def a2J:Nat:=H7 (st.map fun q=>tR q.1 q.2)
def a13:Nat:=H7 ((st.tail++[kZ]).map Prod.fst)
def a1s:Nat:=H7 ((st.tail++[kZ]).map Prod.snd)
def DE (l:List (Nat×Nat)) (s1 d1 k s d:Nat):Bool:=
 fM (all l (2^128)) fun p=>fM (all l (2^128-1)) fun mk=>fM (all l (2^128-uC)) fun dO=>fM (all l (2^76)) fun ad=>fM (all l (2^98-1)) fun mf=>
 fM (all l (2^98-2^77)) fun w1=>fM (all l (2^98)) fun bb=>fM s fun s=>fM d fun d=>UI p mk dO ad mf w1 bb s1 d1 k s d
theorem NU (l:List (Nat×Nat)) (hl:∀q∈l,oB q) (s1 d1 k t s d:Nat) (h:GA l t s d) (ht:t+k<=45000) (hr:DE l s1 d1 k s d=true):
  GA l (t+k) s1 d1/\∀j,t<=j->j<t+k->∀q∈l,yV (it j q).1/\yV (it j q).2:=by
 unfold DE at hr
 simp only [xX] at hr
 exact a0I l hl s1 d1 k t s d h ht hr
set_option maxRecDepth 1000000 in
theorem a3E:DE st a13 a1s 44999 a2X a2J=true:=by decide+kernel
theorem QK:∀q∈st,oB q:=by
 have h:(st.all fun q=>Nat.ble q.1 (2^127+2^126)&&Nat.ble q.2 (2^126+2^124))=true:=by decide+kernel
 intro q hq
 have:=List.all_eq_true.1 h q hq
 simp only [Bool.and_eq_true] at this
 exact ⟨Nat.le_of_ble_eq_true this.1,Nat.le_of_ble_eq_true this.2⟩
theorem at1:GA st 1 a2X a2J:=by
 constructor
 ·decide+kernel
 ·decide+kernel
theorem a3x:GA st 45000 a13 a1s/\∀j,1<=j->j<45000->∀q∈st,yV (it j q).1/\yV (it j q).2:=
 have a:=NU st QK _ _ _ 1 _ _ at1 (by omega) a3E
 ⟨a.1,fun j h1 h2=>a.2 j h1 (by omega)⟩
end Go.Proofs.YtdhbeoahpfimbaaGreat.Rot
namespace Go.Proofs.YtdhbeoahpfimbaaGreat.Rot
def bM (i:Nat):Nat×Nat:=(st++[kZ]).getD i (0,0)
theorem US:st=(List.range 60).map bM:=by decide+kernel
theorem YP:a13=H7 ((List.range 60).map fun i=>(bM (i+1)).1)/\a1s=H7 ((List.range 60).map fun i=>(bM (i+1)).2):=by
 constructor
 ·decide+kernel
 ·decide+kernel
theorem kG:∀i,i<61->oB (bM i):=by
 have h:((List.range 61).all fun i=>Nat.ble (bM i).1 (2^127+2^126)&&Nat.ble (bM i).2 (2^126+2^124))=true:=by decide+kernel
 intro i hi
 have:=List.all_eq_true.1 h i (List.mem_range.2 hi)
 simp only [Bool.and_eq_true] at this
 exact ⟨Nat.le_of_ble_eq_true this.1,Nat.le_of_ble_eq_true this.2⟩
theorem NP (i:Nat) (hi:i<60):it 45000 (bM i)=bM (i+1):=by
 have h:=a3x.1
 unfold GA at h
 rw [US,List.map_map,List.map_map] at h
 have e:=YP
 have r:∀i∈List.range 60,i<60:=fun i h=>List.mem_range.1 h
 have b:∀i∈List.range 60,(it 45000 (bM i)).1<2^256/\(it 45000 (bM i)).2<2^256:=fun i h=>by
  have:=QP 45000 (bM i) (Nat.le_refl _) (kG i (by have:=r i h;omega));omega
 have b2:∀i∈List.range 60,(bM (i+1)).1<2^256/\(bM (i+1)).2<2^256:=fun i h=>by
  have:=kG (i+1) (by have:=r i h;omega);unfold oB at this;omega
 have x:=GG (fun i=>(it 45000 (bM i)).1) (fun i=>(bM (i+1)).1) _ (fun i h=>(b i h).1) (fun i h=>(b2 i h).1) (h.1.symm.trans e.1)
 have y:=GG (fun i=>(it 45000 (bM i)).2) (fun i=>(bM (i+1)).2) _ (fun i h=>(b i h).2) (fun i h=>(b2 i h).2) (h.2.symm.trans e.2)
 exact Prod.ext (x i (List.mem_range.2 hi)) (y i (List.mem_range.2 hi))
def E (n:Nat):Nat×Nat:=it n (0,0)
theorem FD (i:Nat) (hi:i<=60):E (45000*i)=bM i:=by
 induction i with
 |zero=>decide+kernel
 |succ i ih=>rw [Nat.mul_succ];unfold E;rw [TR];show it 45000 (E (45000*i))=_;rw [ih (by omega),NP i (by omega)]
theorem a3v (i j:Nat) (hi:i<=60):E (45000*i+j)=it j (bM i):=by
 unfold E;rw [TR];show it j (E (45000*i))=_;rw [FD i hi]
theorem a3m (n:Nat) (hn:n<=2700000):(E n).1<2^127+2^126+2^125/\(E n).2<2^127:=by
 obtain ⟨i,j,hj,rfl⟩:∃i j,j<45000/\n=45000*i+j:=⟨n/45000,n%45000,Nat.mod_lt _ (by omega),by omega⟩
 rw [a3v i j (by omega)]
 exact QP j (bM i) (by omega) (kG i (by omega))
theorem ZM:E 1800000=bM 40:=FD 40 (by omega)
theorem VW:E 2700000=kZ:=by have h:=FD 60 (by omega);rw [h];decide+kernel
theorem LX:(bM 40).1+2^26>=2^127/\(bM 40).1<=2^127+2^26:=by decide+kernel
theorem AK:kZ.1+kZ.2+2^26>=2^128/\kZ.1+kZ.2<=2^128+2^26:=by decide+kernel
def eS (n:Nat):Int:=(E n).1
def eC (n:Nat):Int:=2^128-((E n).2:Int)
theorem OY:eS 0=0/\eC 0=2^128:=⟨rfl,rfl⟩
theorem wU (n:Nat) (hn:n<=2700000):0<=eS n/\eS n<2^127+2^126+2^125/\2^127<eC n/\eC n<=2^128:=by
 have h:=a3m n hn
 unfold eS eC
 omega
theorem jR (n:Nat) (hn:n<2700000):
  2^128*eS (n+1)<=340282366920924066805512056100497561939*eS n+98984128154162191825446416122235*eC n/\340282366920924066805512056100497561939*eS n+98984128154162191825446416122235*eC n<2^128*eS (n+1)+2^128/\
  340282366920924066805512056100497561939*eC n-98984128154162191825446416122235*eS n<=2^128*eC (n+1)/\2^128*eC (n+1)<340282366920924066805512056100497561939*eC n-98984128154162191825446416122235*eS n+2^128:=by
 have h:=a3m n (by omega)
 have e:E (n+1)=(tB (E n).1 (E n).2,tR (E n).1 (E n).2):=rfl
 unfold eS eC
 rw [e]
 unfold tB tR uC uS
 dsimp only
 omega
end Go.Proofs.YtdhbeoahpfimbaaGreat.Rot
namespace Go.Proofs.YtdhbeoahpfimbaaGreat.Rot
theorem fA {a x b:Int} (ha:0<=a) (h1: -b<=x) (h2:x<=b): -(a*b)<=a*x/\a*x<=a*b:=by
 have h3:=Int.mul_le_mul_of_nonneg_left h1 ha
 have h4:=Int.mul_le_mul_of_nonneg_left h2 ha
 rw [Int.mul_neg] at h3
 exact ⟨h3,h4⟩
def gF (n:Int):Int:=n*(3437746+3*n)
theorem oX (x y:Nat->Int) (K:Int) (N:Nat) (hN:N<=5400000) (x0:x 0=0) (y0:y 0=0) (hK:0<=K)
  (hx:∀n,n<N-> -K<=2^128*x (n+1)-(340282366920924066805512056100497561939*x n+98984128154162191825446416122235*y n)/\2^128*x (n+1)-(340282366920924066805512056100497561939*x n+98984128154162191825446416122235*y n)<=K)
  (hy:∀n,n<N-> -K<=2^128*y (n+1)-(340282366920924066805512056100497561939*y n-98984128154162191825446416122235*x n)/\2^128*y (n+1)-(340282366920924066805512056100497561939*y n-98984128154162191825446416122235*x n)<=K):
  ∀n,n<=N->(-(K*gF n)<=3437746*2^128*x n/\3437746*2^128*x n<=K*gF n)/\(-(K*gF n)<=3437746*2^128*y n/\3437746*2^128*y n<=K*gF n):=by
 intro n
 induction n with
 |zero=>intro _;rw [x0,y0];simp [gF]
 |succ n ih=>
  intro hn
  have h:=ih (by omega)
  have a:=hx n (by omega)
  have b:=hy n (by omega)
  have e:K*gF ((n+1:Nat):Int)=K*gF n+6*(K*n)+3437749*K:=by
   unfold gF
   rw [show ((n+1:Nat):Int)=n+1 by omega]
   have:((n:Int)+1)*(3437746+3*(n+1))=n*(3437746+3*n)+6*n+3437749:=by
    simp only [Int.add_mul,Int.mul_add,Int.one_mul,Int.mul_one]
    have:(n:Int)*(3*n)=3*(n*n):=by rw [Int.mul_left_comm]
    rw [this]
    omega
   rw [this,Int.mul_add,Int.mul_add,Int.mul_left_comm K 6,Int.mul_comm K 3437749]
  have f:K*gF n<=6*3437746*(K*n):=by
   have:gF n<=6*3437746*(n:Int):=by
    unfold gF
    rw [Int.mul_comm (6*3437746)]
    exact Int.mul_le_mul_of_nonneg_left (by omega) (by omega)
   have:=Int.mul_le_mul_of_nonneg_left this hK
   rw [Int.mul_left_comm] at this
   exact this
  have g:0<=K*n:=Int.mul_nonneg hK (by omega)
  rw [e]
  generalize K*gF n=KF at*
  generalize K*(n:Int)=Kn at*
  generalize x (n+1)=x1 at*
  generalize y (n+1)=y1 at*
  generalize x n=xn at*
  generalize y n=yn at*
  omega
end Go.Proofs.YtdhbeoahpfimbaaGreat.Rot
namespace Go.Proofs.YtdhbeoahpfimbaaGreat.Rot
def ev (l:List Int) (n:Int):Int:=l.foldr (fun a r=>a+n*r) 0
def lI:List Int->List Int->List Int
 |[],m=>m
 |l,[]=>l
 |a :: l,b :: m=>(a+b) :: lI l m
def jT (k:Int) (l:List Int):List Int:=l.map (k*·)
def sH:List Int->List Int
 |[]=>[]
 |a :: l=>lI [a] (lI (sH l) (0 :: sH l))
def bR (l:List Int) (N:Int):Int:=l.foldr (fun a r=>(a.natAbs:Int)+N*r) 0
theorem iR (a:Int) (l:List Int) (n:Int):ev (a :: l) n=a+n*ev l n:=rfl
theorem mK (l m:List Int) (n:Int):ev (lI l m) n=ev l n+ev m n:=by
 induction l generalizing m with
 |nil=>simp [lI,ev]
 |cons a l ih=>
  cases m with
  |nil=>simp [lI,ev]
  |cons b m=>simp only [lI,iR,ih,Int.mul_add];omega
theorem jS (k:Int) (l:List Int) (n:Int):ev (jT k l) n=k*ev l n:=by
 induction l with
 |nil=>simp [jT,ev]
 |cons a l ih=>simp only [jT,List.map_cons,iR] at*;rw [ih,Int.mul_add,Int.mul_left_comm]
theorem GY (l:List Int) (n:Int):ev (sH l) n=ev l (n+1):=by
 induction l with
 |nil=>rfl
 |cons a l ih=>
  simp only [sH,mK,iR,ih]
  rw [Int.add_mul,Int.one_mul]
  simp only [ev,List.foldr_nil,Int.mul_zero]
  omega
theorem oZ (l:List Int) (n N:Int) (h0:0<=n) (h1:n<=N): -(bR l N)<=ev l n/\ev l n<=bR l N:=by
 induction l with
 |nil=>exact ⟨by simp [bR,ev],by simp [bR,ev]⟩
 |cons a l ih=>
  rw [iR]
  have p:bR (a :: l) N=(a.natAbs:Int)+N*bR l N:=rfl
  rw [p]
  have q:=fA h0 ih.1 ih.2
  have p0:0<=bR l N:=by omega
  have r:=Int.mul_le_mul_of_nonneg_right h1 p0
  omega
def aD:Int:=3*2^256+16395309179817738009521987751666139093583423331470737840399399094199505546377
def bN:Int:=10800000*2^256
def dT (odd:Int) (k:Nat):Int:=(2*(k:Int)-1+odd)*(2*(k:Int)+odd)
def qN (odd:Int):Nat->Int
 |0=>1
 |j+1=>dT odd (12-j)*(bN*bN)*qN odd j
def aN (odd n:Int):Nat->Int
 |0=>0
 |j+1=>(aD*n)*(aD*n)*(qN odd j-aN odd n j)
def pN (odd:Int):Nat->List Int
 |0=>[]
 |j+1=>0 :: 0 :: jT (aD*aD) (lI [qN odd j] (jT (-1) (pN odd j)))
theorem a1a (odd n:Int) (j:Nat):ev (pN odd j) n=aN odd n j:=by
 induction j with
 |zero=>rfl
 |succ j ih=>
  simp only [pN,aN,iR,jS,mK,ih]
  simp only [ev,List.foldr_nil,Int.mul_zero,Int.add_zero,Int.zero_add]
  rw [show qN odd j+ -1*aN odd n j=qN odd j-aN odd n j by omega]
  ac_rfl
def zN:Int:=bN*qN 1 12
def sP:List Int:=0 :: jT aD (lI [qN 1 12] (jT (-1) (pN 1 12)))
def cP:List Int:=jT (25*bN) (lI [qN 0 12] (jT (-1) (pN 0 12)))
def sN (n:Int):Int:=aD*n*(qN 1 12-aN 1 n 12)
def cN (n:Int):Int:=25*bN*(qN 0 12-aN 0 n 12)
theorem a08 (n:Int):ev sP n=sN n:=by
 unfold sP sN
 rw [iR,jS,mK,jS,a1a]
 simp only [ev,List.foldr_nil,List.foldr_cons,Int.mul_zero,Int.add_zero,Int.zero_add]
 rw [Int.mul_comm aD n,Int.mul_assoc,Int.sub_eq_add_neg,Int.neg_one_mul]
theorem a07 (n:Int):ev cP n=cN n:=by
 unfold cP cN
 rw [jS,mK,jS,a1a]
 simp only [ev,List.foldr_nil,List.foldr_cons,Int.mul_zero,Int.add_zero]
 rw [Int.sub_eq_add_neg,Int.neg_one_mul]
theorem a01:zN=25*bN*qN 0 12:=by decide+kernel
theorem rD:0<zN:=by decide+kernel
def sR:List Int:=lI (jT (2^128) (sH sP)) (lI (jT (-340282366920924066805512056100497561939) sP) (jT (-98984128154162191825446416122235) cP))
def cR:List Int:=lI (jT (2^128) (sH cP)) (lI (jT (-340282366920924066805512056100497561939) cP) (jT 98984128154162191825446416122235 sP))
theorem UP:bR sR 2700000<=2^16*zN:=by decide+kernel
theorem UQ:bR cR 2700000<=2^16*zN:=by decide+kernel
theorem VM (n:Int) (h0:0<=n) (h1:n<=2700000):
  (-(2^16*zN)<=2^128*sN (n+1)-(340282366920924066805512056100497561939*sN n+98984128154162191825446416122235*cN n)/\2^128*sN (n+1)-(340282366920924066805512056100497561939*sN n+98984128154162191825446416122235*cN n)<=2^16*zN)/\
  (-(2^16*zN)<=2^128*cN (n+1)-(340282366920924066805512056100497561939*cN n-98984128154162191825446416122235*sN n)/\2^128*cN (n+1)-(340282366920924066805512056100497561939*cN n-98984128154162191825446416122235*sN n)<=2^16*zN):=by
 have a:=oZ sR n 2700000 h0 h1
 have b:=oZ cR n 2700000 h0 h1
 have a2:=UP
 have b2:=UQ
 obtain ⟨x,hx⟩:∃x,bR sR 2700000=x:=⟨_,rfl⟩
 obtain ⟨y,hy⟩:∃y,bR cR 2700000=y:=⟨_,rfl⟩
 rw [hx] at a a2
 rw [hy] at b b2
 clear hx hy
 unfold sR at a
 unfold cR at b
 simp only [mK,jS,GY,a08,a07] at a b
 generalize sN (n+1)=s1 at*
 generalize cN (n+1)=c1 at*
 generalize sN n=s0 at*
 generalize cN n=c0 at*
 generalize zN=z at*
 omega
theorem mC (n:Nat) (hn:n<=2700000):(-(zN*2^40)<=zN*eS n-2^128*sN n/\zN*eS n-2^128*sN n<=zN*2^40)/\(-(zN*2^40)<=zN*eC n-2^128*cN n/\zN*eC n-2^128*cN n<=zN*2^40):=by
 have z0:=rD
 have h:=oX (fun n=>zN*eS n-2^128*sN n) (fun n=>zN*eC n-2^128*cN n) ((2^16+1)*2^128*zN) 2700000 (by omega) (by decide+kernel) (by decide+kernel) (by omega)
  (fun n hn=>by
   have e:=jR n hn
   have p:=(VM n (by omega) (by omega)).1
   have e1:=Int.mul_le_mul_of_nonneg_left e.1 (Int.le_of_lt z0)
   have e2:=Int.mul_le_mul_of_nonneg_left (Int.le_of_lt e.2.1) (Int.le_of_lt z0)
   simp only [Int.mul_add,Int.mul_left_comm zN] at e1 e2
   rw [show ((n+1:Nat):Int)=(n:Int)+1 by omega]
   generalize zN*eS (n+1)=x1 at*
   generalize zN*eS n=x0 at*
   generalize zN*eC n=y0 at*
   generalize sN (n+1)=s1 at*
   generalize sN n=s0 at*
   generalize cN n=c0 at*
   generalize zN=z at*
   omega)
  (fun n hn=>by
   have e:=jR n hn
   have p:=(VM n (by omega) (by omega)).2
   have e1:=Int.mul_le_mul_of_nonneg_left e.2.2.1 (Int.le_of_lt z0)
   have e2:=Int.mul_le_mul_of_nonneg_left (Int.le_of_lt e.2.2.2) (Int.le_of_lt z0)
   simp only [Int.mul_add,Int.mul_sub,Int.mul_left_comm zN] at e1 e2
   rw [show ((n+1:Nat):Int)=(n:Int)+1 by omega]
   generalize zN*eC (n+1)=x1 at*
   generalize zN*eS n=x0 at*
   generalize zN*eC n=y0 at*
   generalize cN (n+1)=s1 at*
   generalize sN n=s0 at*
   generalize cN n=c0 at*
   generalize zN=z at*
   omega) n hn
 have g:gF n<=3437746*9100000:=by
  unfold gF
  have:(n:Int)*(3437746+3*n)<=2700000*(3437746+3*2700000):=Int.mul_le_mul (by omega) (by omega) (by omega) (by omega)
  omega
 have k:(2^16+1)*2^128*zN*gF n<=(2^16+1)*2^128*zN*(3437746*9100000):=Int.mul_le_mul_of_nonneg_left g (by omega)
 generalize (2^16+1)*2^128*zN*gF n=w at*
 generalize zN*eS n=a at*
 generalize zN*eC n=b at*
 generalize zN=z at*
 omega
end Go.Proofs.YtdhbeoahpfimbaaGreat.Rot
namespace Go.Proofs.YtdhbeoahpfimbaaGreat.Rot
theorem JL {a x lo hi:Int} (ha:0<=a) (h1:lo<=x) (h2:x<=hi):a*lo<=a*x/\a*x<=a*hi:=
 ⟨Int.mul_le_mul_of_nonneg_left h1 ha,Int.mul_le_mul_of_nonneg_left h2 ha⟩
theorem a3n (W T BB Y d u u2 q m Q A dX eps eps2:Int) (hW:0<W) (hd:0<d) (hB:0<BB) (hQ:0<Q) (T0:0<=T) (T1:T<=BB) (u0:0<=u) (u1:u<=W) (n0:0<=dX) (e0:0<=eps)
  (hq1:q*d<=Y) (hq2:Y<q*d+d) (hm1:m*W<=q*u) (hm2:q*u<m*W+2*W) (hu2:u2=q-m)
  (hY: -(dX*BB)<=Y*BB-W*T/\Y*BB-W*T<=dX*BB) (hu: -(eps*Q)<=u*Q-W*A/\u*Q-W*A<=eps*Q) (he:2*d+dX+eps<=eps2*d):
  -(eps2*(d*BB*Q))<=u2*(d*BB*Q)-W*(T*(Q-A))/\u2*(d*BB*Q)-W*(T*(Q-A))<=eps2*(d*BB*Q):=by
 subst hu2
 obtain ⟨V,hV⟩:∃V,W-u=V:=⟨_,rfl⟩
 have V0:0<=V:=by omega
 have V1:V<=W:=by omega
 have hBQ:0<=BB*Q:=Int.mul_nonneg (by omega) (by omega)
 have a1:q*V<=(q-m)*W:=by
  have:q*V=q*W-q*u:=by rw [<-hV,Int.mul_sub]
  have:(q-m)*W=q*W-m*W:=Int.sub_mul ..
  omega
 have a2:(q-m)*W<=q*V+2*W:=by
  have:q*V=q*W-q*u:=by rw [<-hV,Int.mul_sub]
  have:(q-m)*W=q*W-m*W:=Int.sub_mul ..
  omega
 have b1:Y*V-d*W<=(q-m)*W*d:=by
  have h1:(Y-d)*V<=q*d*V:=Int.mul_le_mul_of_nonneg_right (by omega) V0
  have h2:q*V*d<=(q-m)*W*d:=Int.mul_le_mul_of_nonneg_right a1 (by omega)
  have h3:d*V<=d*W:=Int.mul_le_mul_of_nonneg_left V1 (by omega)
  have h4:(Y-d)*V=Y*V-d*V:=Int.sub_mul ..
  have h5:q*d*V=q*V*d:=by ac_rfl
  omega
 have b2:(q-m)*W*d<=Y*V+2*(d*W):=by
  have h1:q*d*V<=Y*V:=Int.mul_le_mul_of_nonneg_right hq1 V0
  have h2:(q-m)*W*d<=(q*V+2*W)*d:=Int.mul_le_mul_of_nonneg_right a2 (by omega)
  have h4:(q*V+2*W)*d=q*d*V+2*(d*W):=by grind
  omega
 have c:=JL hBQ b1 b2
 have f:=fA (Int.mul_nonneg V0 (by omega:0<=Q)) hY.1 hY.2
 have f3:V*Q*(dX*BB)<=W*Q*(dX*BB):=Int.mul_le_mul_of_nonneg_right (Int.mul_le_mul_of_nonneg_right V1 (by omega)) (Int.mul_nonneg n0 (by omega))
 have g:=fA (Int.mul_nonneg (by omega:0<=W) T0) hu.1 hu.2
 have g3:W*T*(eps*Q)<=W*BB*(eps*Q):=Int.mul_le_mul_of_nonneg_right (Int.mul_le_mul_of_nonneg_left T1 (by omega)) (Int.mul_nonneg e0 (by omega))
 have k:W*(BB*Q*(2*d+dX+eps))<=W*(BB*Q*(eps2*d)):=Int.mul_le_mul_of_nonneg_left (Int.mul_le_mul_of_nonneg_left he hBQ) (by omega)
 have dw:0<=BB*Q*(d*W):=Int.mul_nonneg hBQ (Int.mul_nonneg (by omega) (by omega))
 have i1:BB*Q*(Y*V-d*W)=BB*Q*(Y*V)-BB*Q*(d*W):=Int.mul_sub ..
 have i2:BB*Q*(Y*V+2*(d*W))=BB*Q*(Y*V)+2*(BB*Q*(d*W)):=by grind
 have i3:V*Q*(Y*BB-W*T)=BB*Q*(Y*V)-W*T*(V*Q):=by grind
 have i4:W*T*(u*Q-W*A)=W*(W*(T*(Q-A)))-W*T*(V*Q):=by rw [<-hV];grind
 have i5:W*(BB*Q*(2*d+dX+eps))=2*(BB*Q*(d*W))+W*Q*(dX*BB)+W*BB*(eps*Q):=by grind
 have i6:BB*Q*((q-m)*W*d)=W*((q-m)*(d*BB*Q)):=by ac_rfl
 have i7:W*(BB*Q*(eps2*d))=W*(eps2*(d*BB*Q)):=by ac_rfl
 rw [i1,i6] at c
 rw [i2] at c
 rw [i3] at f
 rw [i4] at g
 rw [i5,i7] at k
 constructor
 ·apply Int.le_of_mul_le_mul_left _ hW
  rw [Int.mul_neg,Int.mul_sub]
  omega
 ·apply Int.le_of_mul_le_mul_left _ hW
  rw [Int.mul_sub]
  omega
def oN (odd:Int):Nat->Int
 |0=>2^256/600
 |j+1=>3+(4+oN odd j)/dT odd (12-j)
theorem FF (odd:Int) (j:Nat) (ho:0<=odd) (hj:j<12):2<=dT odd (12-j):=by
 unfold dT
 have a:1<=2*((12-j:Nat):Int)-1+odd:=by omega
 have b:2<=2*((12-j:Nat):Int)+odd:=by omega
 have:=Int.mul_le_mul a b (by omega) (by omega)
 omega
theorem DN (odd:Int) (j:Nat) (ho:0<=odd) (hj:j<=12):0<qN odd j:=by
 induction j with
 |zero=>show (0:Int)<1;decide
 |succ j ih=>
  have h:=FF odd j ho (by omega)
  exact Int.mul_pos (Int.mul_pos (by omega) (by decide)) (ih (by omega))
theorem TX (odd:Int) (j:Nat) (ho:0<=odd) (hj:j<=12):0<=oN odd j:=by
 induction j with
 |zero=>show (0:Int)<=2^256/600;decide
 |succ j ih=>
  have h:=FF odd j ho (by omega)
  have:=Int.ediv_nonneg (by have:=ih (by omega);omega:0<=4+oN odd j) (by omega:0<=dT odd (12-j))
  show 0<=3+(4+oN odd j)/dT odd (12-j)
  omega
theorem wY (n X Y:Int) (n0:0<=n) (n1:n<=2700000) (hX1:X*10800000<=aD*n) (hX2:aD*n<X*10800000+10800000) (X0:0<=X) (hY1:Y*2^256<=X*X) (hY2:X*X<Y*2^256+2*2^256):
  -(4*(bN*bN))<=Y*(bN*bN)-2^256*((aD*n)*(aD*n))/\Y*(bN*bN)-2^256*((aD*n)*(aD*n))<=4*(bN*bN):=by
 have xb:0<=aD*n/\aD*n<=bN:=by unfold aD bN;omega
 generalize aD*n=x at*
 have s1:(X*10800000)*(X*10800000)<=x*x:=Int.mul_le_mul hX1 hX1 (by omega) (by omega)
 have s2:(x-10800000)*(x-10800000)<=(X*10800000)*(X*10800000)\/x<10800000:=by
  by_cases h:x<10800000
  ·exact Or.inr h
  ·exact Or.inl (Int.mul_le_mul (by omega) (by omega) (by omega) (by omega))
 have e1:(X*10800000)*(X*10800000)=10800000*10800000*(X*X):=by grind
 have e2:(x-10800000)*(x-10800000)=x*x-2*10800000*x+10800000*10800000:=by grind
 have e3:Y*(bN*bN)=2^256*(10800000*10800000*(Y*2^256)):=by unfold bN;grind
 rw [e3]
 have x2:x<10800000->x*x<=10800000*10800000:=fun h=>Int.mul_le_mul (by omega) (by omega) (by omega) (by omega)
 have XX:0<=X*X:=Int.mul_nonneg X0 X0
 unfold bN at*
 generalize x*x=xx at*
 generalize X*X=XX at*
 omega
theorem zE (odd n X Y:Int) (u:Nat->Int) (ho:odd=0\/odd=1) (n0:0<=n) (n1:n<=2700000) (hX1:X*10800000<=aD*n) (hX2:aD*n<X*10800000+10800000) (X0:0<=X)
  (hY1:Y*2^256<=X*X) (hY2:X*X<Y*2^256+2*2^256) (_Y0:0<=Y) (ub:∀j,j<=12->0<=u j/\u j<=2^256) (us:u 0<=2^256/600)
  (hu:∀j,j<12->∃m,m*2^256<=Y/dT odd (12-j)*u j/\Y/dT odd (12-j)*u j<m*2^256+2*2^256/\u (j+1)=Y/dT odd (12-j)-m):
  -(2^168*qN odd 12)<=u 12*qN odd 12-2^256*aN odd n 12/\u 12*qN odd 12-2^256*aN odd n 12<=2^168*qN odd 12:=by
 have o0:0<=odd:=by omega
 have sq:=wY n X Y n0 n1 hX1 hX2 X0 hY1 hY2
 have xb:0<=aD*n/\aD*n<=bN:=by unfold aD bN;omega
 have key:∀j,j<=12-> -(oN odd j*qN odd j)<=u j*qN odd j-2^256*aN odd n j/\u j*qN odd j-2^256*aN odd n j<=oN odd j*qN odd j:=by
  intro j
  induction j with
  |zero=>
   intro _
   have:=ub 0 (by omega)
   simp only [qN,aN,oN]
   omega
  |succ j ih=>
   intro hj
   have h:=ih (by omega)
   obtain ⟨m,m1,m2,m3⟩:=hu j (by omega)
   have d2:=FF odd j o0 (by omega)
   have ep:=TX odd j o0 (by omega)
   have dm:=Int.mul_ediv_self_le (x:=Y) (k:=dT odd (12-j)) (by omega)
   have dl:=Int.lt_mul_ediv_self_add (x:=Y) (k:=dT odd (12-j)) (by omega)
   have dq:=Int.lt_mul_ediv_self_add (x:=4+oN odd j) (k:=dT odd (12-j)) (by omega)
   have r:=a3n (2^256) ((aD*n)*(aD*n)) (bN*bN) Y (dT odd (12-j)) (u j) (u (j+1)) (Y/dT odd (12-j)) m (qN odd j) (aN odd n j) 4 (oN odd j) (oN odd (j+1))
    (by decide) (by omega) (by decide) (DN odd j o0 (by omega)) (Int.mul_nonneg xb.1 xb.1) (Int.mul_le_mul xb.2 xb.2 xb.1 (by omega)) (ub j (by omega)).1 (ub j (by omega)).2 (by omega) ep
    (by rw [Int.mul_comm];exact dm) (by rw [Int.mul_comm];exact dl) m1 m2 m3 sq h (by
     show _<=(3+(4+oN odd j)/dT odd (12-j))*dT odd (12-j)
     rw [Int.add_mul,Int.mul_comm (_/_)]
     omega)
   exact r
 have k:=key 12 (by omega)
 have q:=DN odd 12 o0 (by omega)
 have e:oN odd 12<=2^168:=by rcases ho with rfl|rfl<;>decide+kernel
 have:=Int.mul_le_mul_of_nonneg_right e (by omega:0<=qN odd 12)
 omega
end Go.Proofs.YtdhbeoahpfimbaaGreat.Rot
namespace Go.Proofs.YtdhbeoahpfimbaaGreat.Rot
def gS (r:Int):Int:=if r<=2700000 then eS r.toNat else eC (5400000-r).toNat
def oL (n:Int):Int:=
 if 10800000<n%21600000 then (if 5400000<n%21600000-10800000 then 10800000-(n%21600000-10800000) else n%21600000-10800000)
 else (if 5400000<n%21600000 then 10800000-n%21600000 else n%21600000)
def iS (n:Int):Int:=if 10800000<n%21600000 then -(gS (oL n)) else gS (oL n)
def iC (n:Int):Int:=iS (n+5400000)
theorem cI (k:Nat) (h:k<=2700000):gS k=eS k:=by
 unfold gS;rw [if_pos (by omega)];congr 1
theorem dK (k:Nat) (h:k<2700000):gS (5400000-(k:Int))=eC k:=by
 unfold gS;rw [if_neg (by omega)];congr 1;omega
theorem cX (n:Nat) (hn:n=2700000): -(2^26)<=eS n-eC n/\eS n-eC n<=2^26:=by
 have h:=AK
 have e:E n=kZ:=by rw [hn];exact VW
 unfold eS eC
 rw [e]
 omega
theorem lB:gS 0=0:=by rw [show (0:Int)=(0:Nat) by rfl,cI 0 (by omega)];exact OY.1
theorem fJ:gS 5400000=2^128:=by
 have:=dK 0 (by omega)
 rw [show (5400000:Int)-((0:Nat):Int)=5400000 by omega] at this
 rw [this];exact OY.2
theorem a1R (n:Nat) (hn:n<2700000):
  -(2^130)<=2^128*eS n-(340282366920924066805512056100497561939*eS (n+1)-98984128154162191825446416122235*eC (n+1))/\2^128*eS n-(340282366920924066805512056100497561939*eS (n+1)-98984128154162191825446416122235*eC (n+1))<=2^130/\
  -(2^130)<=2^128*eC n-(340282366920924066805512056100497561939*eC (n+1)+98984128154162191825446416122235*eS (n+1))/\2^128*eC n-(340282366920924066805512056100497561939*eC (n+1)+98984128154162191825446416122235*eS (n+1))<=2^130:=by
 have a:=jR n hn
 have b:=wU n (by omega)
 have c:=wU (n+1) (by omega)
 generalize eS (n+1)=s1 at*
 generalize eC (n+1)=c1 at*
 generalize eS n=s0 at*
 generalize eC n=c0 at*
 omega
theorem vV (m:Int) (h0:0<=m) (h1:m<5400000):
  (-(2^156)<=2^128*gS (m+1)-(340282366920924066805512056100497561939*gS m+98984128154162191825446416122235*gS (5400000-m))/\2^128*gS (m+1)-(340282366920924066805512056100497561939*gS m+98984128154162191825446416122235*gS (5400000-m))<=2^156)/\
  (-(2^156)<=2^128*gS (5400000-(m+1))-(340282366920924066805512056100497561939*gS (5400000-m)-98984128154162191825446416122235*gS m)/\2^128*gS (5400000-(m+1))-(340282366920924066805512056100497561939*gS (5400000-m)-98984128154162191825446416122235*gS m)<=2^156):=by
 by_cases hm:m<2700000
 ·obtain ⟨k,rfl⟩:∃k:Nat,m=k:=⟨m.toNat,by omega⟩
  have a:=jR k (by omega)
  have e1:=cI k (by omega)
  have e2:=cI (k+1) (by omega)
  have e3:=dK k (by omega)
  rw [show ((k+1:Nat):Int)=(k:Int)+1 by omega] at e2
  rw [e1,e2,e3]
  by_cases hk:k+1<2700000
  ·have e4:=dK (k+1) hk
   rw [show ((k+1:Nat):Int)=(k:Int)+1 by omega] at e4
   rw [e4]
   omega
  ·have en:=cX (k+1) (by omega)
   rw [show 5400000-((k:Int)+1)=(k:Int)+1 by omega,e2]
   omega
 ·obtain ⟨k,hk⟩:∃k:Nat,5400000-m=(k:Int)+1:=⟨(5400000-m-1).toNat,by omega⟩
  have a:=a1R k (by omega)
  have e1:=cI k (by omega)
  have e2:=cI (k+1) (by omega)
  have e3:=dK k (by omega)
  rw [show ((k+1:Nat):Int)=(k:Int)+1 by omega] at e2
  rw [show m+1=5400000-(k:Int) by omega,show 5400000-(5400000-(k:Int))=k by omega,hk,e1,e2,e3]
  by_cases hk2:k+1<2700000
  ·have e4:=dK (k+1) hk2
   rw [show m=5400000-((k+1:Nat):Int) by omega,e4]
   omega
  ·have en:=cX (k+1) (by omega)
   rw [show m=(k:Int)+1 by omega,e2]
   omega
theorem uR (n:Int):iS (n+10800000)= -iS n:=by
 by_cases z:n%21600000=0\/n%21600000=10800000
 ·have a:oL n=0:=by unfold oL;rcases z with z|z<;>rw [z]<;>rfl
  have b:oL (n+10800000)=0:=by
   have:(n+10800000)%21600000=0\/(n+10800000)%21600000=10800000:=by omega
   unfold oL;rcases this with z|z<;>rw [z]<;>rfl
  unfold iS
  rw [a,b,lB]
  split<;>split<;>rfl
 ·have e:oL (n+10800000)=oL n:=by
   unfold oL;repeat' split
   all_goals omega
  unfold iS
  rw [e]
  split<;>split<;>omega
theorem GQ (n k:Int):iS (n+k*21600000)=iS n:=by
 have e:(n+k*21600000)%21600000=n%21600000:=by omega
 unfold iS oL
 rw [e]
theorem bT (n:Int):iC (n+5400000)= -iS n:=by
 unfold iC
 rw [show n+5400000+5400000=n+10800000 by omega]
 exact uR n
theorem X9 (m:Int) (h0:0<=m) (h1:m<=5400000):iS m=gS m/\iC m=gS (5400000-m):=by
 have a:oL m=m:=by
   unfold oL;repeat' split
   all_goals omega
 have b:oL (m+5400000)=5400000-m:=by
   unfold oL;repeat' split
   all_goals omega
 unfold iC iS
 rw [a,b,if_neg (by omega),if_neg (by omega)]
 exact ⟨rfl,rfl⟩
def eJ (n:Int):Prop:=
 (-(2^156)<=2^128*iS (n+1)-(340282366920924066805512056100497561939*iS n+98984128154162191825446416122235*iC n)/\2^128*iS (n+1)-(340282366920924066805512056100497561939*iS n+98984128154162191825446416122235*iC n)<=2^156)/\
 (-(2^156)<=2^128*iC (n+1)-(340282366920924066805512056100497561939*iC n-98984128154162191825446416122235*iS n)/\2^128*iC (n+1)-(340282366920924066805512056100497561939*iC n-98984128154162191825446416122235*iS n)<=2^156)
theorem GE (m:Int) (h0:0<=m) (h1:m<5400000):eJ m:=by
 have a:=X9 m h0 (by omega)
 have b:=X9 (m+1) (by omega) (by omega)
 have g:=vV m h0 h1
 unfold eJ
 rw [a.1,a.2,b.1,b.2]
 exact g
theorem fE (n:Int) (h:eJ n):eJ (n+5400000):=by
 unfold eJ at*
 have a:=bT n
 have b:=bT (n+1)
 have c:iS (n+5400000)=iC n:=rfl
 have d:iS (n+1+5400000)=iC (n+1):=rfl
 rw [show n+5400000+1=n+1+5400000 by omega,a,b,c,d]
 omega
theorem rH (n k:Int):iS (n+k*21600000)=iS n/\iC (n+k*21600000)=iC n:=by
 refine ⟨GQ n k,?_⟩
 unfold iC
 rw [show n+k*21600000+5400000=n+5400000+k*21600000 by omega]
 exact GQ _ k
theorem bG (n:Int):eJ n:=by
 obtain ⟨q,r,k,hr0,hr1,hq0,hq1,rfl⟩:∃q r k:Int,0<=r/\r<5400000/\0<=q/\q<=3/\n=r+q*5400000+k*21600000:=⟨n%21600000/5400000,n%21600000%5400000,n/21600000,by omega,by omega,by omega,by omega,by omega⟩
 have s0:=GE r hr0 hr1
 have s1:=fE _ s0
 have s2:=fE _ s1
 have s3:=fE _ s2
 have t:eJ (r+q*5400000):=by
  have:q=0\/q=1\/q=2\/q=3:=by omega
  rcases this with rfl|rfl|rfl|rfl
  ·rw [show r+0*5400000=r by omega];exact s0
  ·rw [show r+1*5400000=r+5400000 by omega];exact s1
  ·rw [show r+2*5400000=r+5400000+5400000 by omega];exact s2
  ·rw [show r+3*5400000=r+5400000+5400000+5400000 by omega];exact s3
 generalize r+q*5400000=p at*
 unfold eJ at*
 have a:=rH p k
 have b:=rH (p+1) k
 rw [show p+k*21600000+1=p+1+k*21600000 by omega,a.1,a.2,b.1,b.2]
 exact t
theorem a2F (r:Int) (h0:0<=r) (_h1:r<=5400000):0<=gS r/\gS r<=2^128:=by
 unfold gS
 split
 ·have:=wU r.toNat (by omega);omega
 ·have:=wU (5400000-r).toNat (by omega);omega
theorem a2c (n:Int):0<=oL n/\oL n<=5400000:=by unfold oL;split<;>split<;>omega
theorem a1l (n:Int):(-(2^128)<=iS n/\iS n<=2^128)/\(-(2^128)<=iC n/\iC n<=2^128):=by
 have a:∀n,-(2^128)<=iS n/\iS n<=2^128:=fun n=>by
  have r:=a2c n
  have g:=a2F _ r.1 r.2
  unfold iS
  split<;>omega
 exact ⟨a n,a _⟩
def yW (a b:Int):Prop:=
 (-(2^184)<=2^128*iS (a+b)-(iS a*iC b+iC a*iS b)/\2^128*iS (a+b)-(iS a*iC b+iC a*iS b)<=2^184)/\
 (-(2^184)<=2^128*iC (a+b)-(iC a*iC b-iS a*iS b)/\2^128*iC (a+b)-(iC a*iC b-iS a*iS b)<=2^184)
theorem gA:iS 0=0/\iC 0=2^128:=by
 have:=X9 0 (by omega) (by omega)
 rw [this.1,this.2]
 exact ⟨lB,fJ⟩
theorem NI (a:Int) (b:Nat) (hb:b<=5400000):yW a b:=by
 have h:=oX (fun b=>2^128*iS (a+b)-(iS a*iC b+iC a*iS b)) (fun b=>2^128*iC (a+b)-(iC a*iC b-iS a*iS b)) (3*2^284) 5400000 (by omega)
  (by rw [show ((0:Nat):Int)=0 by rfl,gA.1,gA.2,Int.add_zero];omega)
  (by rw [show ((0:Nat):Int)=0 by rfl,gA.1,gA.2,Int.add_zero];omega) (by decide)
  (fun n hn=>by
   rw [show a+((n+1:Nat):Int)=a+n+1 by omega,show ((n+1:Nat):Int)=(n:Int)+1 by omega]
   have p:=bG (a+n)
   have q:=bG n
   unfold eJ at p q
   have b:=a1l a
   have e1:∀t:Int,-(2^156)<=t->t<=2^156->∀s:Int,-(2^128)<=s->s<=2^128-> -(2^284)<=s*t/\s*t<=2^284:=fun t t0 t1 s s0 s1=>by
    have k:=fA (a:=s.natAbs) (by omega) t0 t1
    have l:(s.natAbs:Int)*2^156<=2^128*2^156:=Int.mul_le_mul_of_nonneg_right (by omega) (by decide)
    rcases Int.natAbs_eq s with h|h
    ·rw [<-h] at k l;omega
    ·have:s*t= -((s.natAbs:Int)*t):=by rw [<-Int.neg_mul,<-h]
     omega
   have k1:=e1 _ q.2.1 q.2.2 _ b.1.1 b.1.2
   have k2:=e1 _ q.1.1 q.1.2 _ b.2.1 b.2.2
   simp only [Int.mul_sub,Int.mul_add,Int.mul_left_comm (iS a),Int.mul_left_comm (iC a)] at k1 k2
   omega)
  (fun n hn=>by
   rw [show a+((n+1:Nat):Int)=a+n+1 by omega,show ((n+1:Nat):Int)=(n:Int)+1 by omega]
   have p:=bG (a+n)
   have q:=bG n
   unfold eJ at p q
   have b:=a1l a
   have e1:∀t:Int,-(2^156)<=t->t<=2^156->∀s:Int,-(2^128)<=s->s<=2^128-> -(2^284)<=s*t/\s*t<=2^284:=fun t t0 t1 s s0 s1=>by
    have k:=fA (a:=s.natAbs) (by omega) t0 t1
    have l:(s.natAbs:Int)*2^156<=2^128*2^156:=Int.mul_le_mul_of_nonneg_right (by omega) (by decide)
    rcases Int.natAbs_eq s with h|h
    ·rw [<-h] at k l;omega
    ·have:s*t= -((s.natAbs:Int)*t):=by rw [<-Int.neg_mul,<-h]
     omega
   have k1:=e1 _ q.2.1 q.2.2 _ b.2.1 b.2.2
   have k2:=e1 _ q.1.1 q.1.2 _ b.1.1 b.1.2
   simp only [Int.mul_sub,Int.mul_add,Int.mul_left_comm (iS a),Int.mul_left_comm (iC a)] at k1 k2
   omega) b hb
 have g:gF b<=3437746*31000000:=by
  unfold gF
  have:(b:Int)*(3437746+3*b)<=5400000*(3437746+3*5400000):=Int.mul_le_mul (by omega) (by omega) (by omega) (by omega)
  omega
 have k:3*2^284*gF b<=3*2^284*(3437746*31000000):=Int.mul_le_mul_of_nonneg_left g (by decide)
 unfold yW
 omega
theorem fZ (a b:Int) (h:yW a b):yW a (b+5400000):=by
 unfold yW at*
 have k1:=bT b
 have k2:=bT (a+b)
 have k3:iS (b+5400000)=iC b:=rfl
 have k4:iS (a+b+5400000)=iC (a+b):=rfl
 rw [show a+(b+5400000)=a+b+5400000 by omega,k1,k2,k3,k4]
 simp only [Int.mul_neg]
 omega
theorem YM (a b:Int):yW a b:=by
 obtain ⟨q,r,k,hr,hq0,hq1,rfl⟩:∃(q:Int) (r:Nat) (k:Int),r<=5400000/\0<=q/\q<=3/\b=r+q*5400000+k*21600000:=⟨b%21600000/5400000,(b%21600000%5400000).toNat,b/21600000,by omega,by omega,by omega,by omega⟩
 have s0:=NI a r hr
 have s1:=fZ _ _ s0
 have s2:=fZ _ _ s1
 have s3:=fZ _ _ s2
 have t:yW a (r+q*5400000):=by
  have:q=0\/q=1\/q=2\/q=3:=by omega
  rcases this with rfl|rfl|rfl|rfl
  ·rw [show (r:Int)+0*5400000=r by omega];exact s0
  ·rw [show (r:Int)+1*5400000=r+5400000 by omega];exact s1
  ·rw [show (r:Int)+2*5400000=r+5400000+5400000 by omega];exact s2
  ·rw [show (r:Int)+3*5400000=r+5400000+5400000+5400000 by omega];exact s3
 generalize (r:Int)+q*5400000=p at*
 unfold yW at*
 have a1:=rH p k
 have b1:=rH (a+p) k
 rw [show a+(p+k*21600000)=a+p+k*21600000 by omega,a1.1,a1.2,b1.1,b1.2]
 exact t
theorem a1T (m:Int) (h0:0<=m) (h1:m<5400000):gS m+2^81<=gS (m+1):=by
 by_cases hm:m<2700000
 ·obtain ⟨k,rfl⟩:∃k:Nat,m=k:=⟨m.toNat,by omega⟩
  have a:=jR k (by omega)
  have b:=wU k (by omega)
  have e1:=cI k (by omega)
  have e2:=cI (k+1) (by omega)
  rw [show ((k+1:Nat):Int)=(k:Int)+1 by omega] at e2
  rw [e1,e2]
  omega
 ·obtain ⟨k,hk⟩:∃k:Nat,5400000-m=(k:Int)+1:=⟨(5400000-m-1).toNat,by omega⟩
  have a:=jR k (by omega)
  have b:=wU k (by omega)
  have b1:=wU (k+1) (by omega)
  have e3:=dK k (by omega)
  rw [show m+1=5400000-(k:Int) by omega,e3]
  by_cases hk2:k+1<2700000
  ·have e4:=dK (k+1) hk2
   rw [show m=5400000-((k+1:Nat):Int) by omega,e4]
   omega
  ·have en:=cX (k+1) (by omega)
   have e2:=cI (k+1) (by omega)
   rw [show m=((k+1:Nat):Int) by omega,e2]
   omega
end Go.Proofs.YtdhbeoahpfimbaaGreat.Rot
