/- Plain laws: drawn parts come to an end, and are small. No program in sight. -/
import Derived.Test.YtikeaiogpfjdnaaGreatLCall
import Derived.Test.YtikeaiogpfjdnaaGreatLReach
import Derived.Test.YtikeaiogpfjdnaaGreatLCollect
import Derived.Test.YtikeaiogpfjdnaaGreatLBoot
namespace Go.Kx
open Go
set_option linter.unusedVariables false
set_option linter.unusedSimpArgs false
set_option maxRecDepth 10000
def WD {α:Type} (o:Option α) (Q:α→Prop):Prop:=∃ a,o=some a∧Q a
theorem WD.bind {α β:Type} {o:Option α} {f:α→Option β} {P:α→Prop} {Q:β→Prop} (h:WD o P) (k:∀ a,P a→WD (f a) Q):WD (o.bind f) Q:=by
  obtain ⟨a,rfl,ha⟩:=h
  exact k a ha
theorem WD.step {α β:Type} {o:Option α} {a:α} {f:α→Option β} {Q:β→Prop} (e:o=some a) (k:WD (f a) Q):WD (o.bind f) Q:=by
  rw [e];exact k
theorem WD.ite {α:Type} {c:Bool} {a b:Option α} {Q:α→Prop} (h1:c=true→WD a Q) (h2:c=false→WD b Q):WD (bif c then a else b) Q:=by
  cases c
  · exact h2 rfl
  · exact h1 rfl
theorem WD.ret {α:Type} {a:α} {Q:α→Prop} (h:Q a):WD (some a) Q:=⟨a,rfl,h⟩
theorem WD.mono {α:Type} {o:Option α} {P Q:α→Prop} (h:WD o P) (k:∀ a,P a→Q a):WD o Q:=by
  obtain ⟨a,e,ha⟩:=h
  exact ⟨a,e,k a ha⟩
def Stp {σ ρ:Type} (I:σ→Prop) (J:ρ→Prop) (μ:σ→Nat) (m:Nat) (o:σ⊕ρ):Prop:=(∀ s',o=.inl s'→I s'∧μ s'<m)∧∀ r,o=.inr r→J r
theorem WD.inl {σ ρ:Type} {I:σ→Prop} {J:ρ→Prop} {μ:σ→Nat} {m:Nat} {s:σ} (h1:I s) (h2:μ s<m):WD (some (.inl s:σ⊕ρ)) (Stp I J μ m) :=
  ⟨_,rfl,fun s' e=>by cases Sum.inl.inj e;exact ⟨h1,h2⟩,fun r e=>by cases e⟩
theorem WD.inr {σ ρ:Type} {I:σ→Prop} {J:ρ→Prop} {μ:σ→Nat} {m:Nat} {r:ρ} (h:J r):WD (some (.inr r:σ⊕ρ)) (Stp I J μ m) :=
  ⟨_,rfl,fun s' e=>by (cases e),fun r e=>by cases Sum.inr.inj e;exact h⟩
theorem WD.loop {σ ρ:Type} {body:σ→Option (σ⊕ρ)} (I:σ→Prop) (J:ρ→Prop) (μ:σ→Nat) {N:Nat} {s:σ} (h0:I s) (hN:μ s<N) (h:∀ s,I s→WD (body s) (Stp I J μ (μ s))):WD (iter body N s) J :=
  iter_to I J μ (fun s hs=>by obtain ⟨o,ho,h1,h2⟩:=h s hs;exact ⟨o,ho,h1,h2⟩) N s h0 hN
theorem bigN {N n:Nat} (hN:BIG≤N) (h:n<16777216):n<N:=Nat.lt_of_lt_of_le h hN
theorem wd_Below {N:Nat} {b:List U8} {i h:Int} (hb:b.length≤1048576) (hi:0≤i) (n:Int) (hn:0<n):WD (F_s_l1Below N ⟨b,i,h⟩ n) (fun r=>0≤r.2.i∧0≤r.1∧r.1<n):=by
  obtain ⟨x,i',h',e,a1,a2,a3,_⟩:=d_Below (N:=N) (c:=⟨b,i,h⟩) ⟨hb,hi⟩ n
  exact ⟨_,e,a1,a2,a3 hn⟩
theorem wd_Once {N:Nat} {b:List U8} {i h:Int} (hb:b.length≤1048576) (hi:0≤i) (n:Int):WD (F_s_l1Once N ⟨b,i,h⟩ n) (fun r=>0≤r.2.i):=by
  obtain ⟨x,i',h',e,a1⟩:=d_Once (N:=N) (c:=⟨b,i,h⟩) ⟨hb,hi⟩ n
  exact ⟨_,e,a1⟩
theorem wd_Pick {N:Nat} {b:List U8} {i h:Int} (hb:b.length≤1048576) (hi:0≤i) {l:List Int} (hl:0<l.length):WD (F_s_l1PickInt N ⟨b,i,h⟩ l) (fun r=>0≤r.2.i∧r.1 ∈ l):=by
  obtain ⟨x,i',h',e,a1,a2⟩:=d_PickInt (N:=N) (c:=⟨b,i,h⟩) ⟨hb,hi⟩ hl
  exact ⟨_,e,a1,a2⟩
theorem wd_idx {α:Type} {l:List α} {i:Int} (h0:0≤i) (h1:i<(l.length:Int)):WD (idx l i) (fun y=>y ∈ l):=by
  obtain ⟨y,e,hy⟩:=idx_ex h0 h1
  exact ⟨y,e,hy⟩
theorem wd_sub {α:Type} {l:List α} {k:Int} (h0:0≤k) (h1:k≤(l.length:Int)):WD (sub l 0 k) (fun r=>r.length≤l.length∧∀ y,y ∈ r→y ∈ l):=by
  refine ⟨(l.drop (0:Int).toNat).take (k.toNat - (0:Int).toNat),by unfold sub;rw [if_pos ⟨Int.le_refl _,h0,h1⟩],?_,fun y hy=>?_⟩
  · simp only [List.length_take,List.length_drop];omega
  · exact List.mem_of_mem_drop (List.mem_of_mem_take hy)
theorem wd_Label {N:Nat} (hN:BIG≤N) {b:List U8} {i h:Int} (hb:b.length≤1048576) (hi:0≤i):WD (F_s_l3Label N ⟨b,i,h⟩) (fun r=>0≤r.2.i∧labelOk r.1=true):=by
  obtain ⟨x,i',h',e,a1,a2,a3⟩:=d_Label (N:=N) hN (c:=⟨b,i,h⟩) ⟨hb,hi⟩
  refine ⟨_,e,a1,?_⟩
  unfold labelOk
  simp only [Bool.and_eq_true,beq_iff_eq,List.all_eq_true,inR_iff]
  exact ⟨by omega,a3⟩
theorem wd_Own {N:Nat} (hN:BIG≤N) {b:List U8} {i h:Int} (hb:b.length≤1048576) (hi:0≤i):WD (F_s_l4Own N ⟨b,i,h⟩) (fun r=>0≤r.2.i∧r.1.length≤5):=by
  obtain ⟨x,i',h',e,a1,a2⟩:=d_Own (N:=N) hN (c:=⟨b,i,h⟩) ⟨hb,hi⟩
  exact ⟨_,e,a1,a2⟩
theorem wd_AmtAny {N:Nat} {b:List U8} {i h:Int} (hb:b.length≤1048576) (hi:0≤i):WD (F_s_l5Any N ⟨b,i,h⟩) (fun r=>0≤r.2.i):=by
  obtain ⟨x,i',h',e,a1⟩:=d_Amt (N:=N) (c:=⟨b,i,h⟩) ⟨hb,hi⟩
  exact ⟨_,e,a1⟩
theorem wd_LabelAny {N:Nat} (hN:BIG≤N) {b:List U8} {i h:Int} (hb:b.length≤1048576) (hi:0≤i):WD (F_s_l3Any N ⟨b,i,h⟩) (fun r=>0≤r.2.i∧r.1.levels.length≤5):=by
  obtain ⟨x,i',h',e,a1,a2⟩:=d_LabelAny (N:=N) hN (c:=⟨b,i,h⟩) ⟨hb,hi⟩
  exact ⟨_,e,a1,a2⟩
theorem label_four {l:DLabel} (h:labelOk l=true):l.levels.length=4:=by
  unfold labelOk at h
  simp only [Bool.and_eq_true,beq_iff_eq] at h
  omega
theorem wd_Boot {N:Nat} (hN:BIG≤N) {b:List U8} {i h:Int} (hb:b.length≤1048576) (hi:0≤i):WD (F_s_l13Boot N ⟨b,i,h⟩) (fun r=>0≤r.2.i∧bOk r.1=true∧sz_DBoot r.1≤100∧(0≤r.1.amt.pages∧r.1.amt.pages≤1000)∧(0≤r.1.amt.rent∧r.1.amt.rent≤1000)∧(0≤r.1.amt.cpu∧r.1.amt.cpu≤1000)):=by
  unfold F_s_l13Boot
  dsimp only
  refine WD.bind (wd_Label hN hb hi) fun l ⟨l1,l2⟩=>WD.bind (wd_Below hb l1 25 (by decide)) fun x ⟨x1,x2,x3⟩=>WD.bind (wd_Below hb x1 900 (by decide)) fun y ⟨y1,y2,y3⟩=>WD.bind (wd_Below hb y1 60 (by decide)) fun z ⟨z1,z2,z3⟩=>WD.ret ⟨z1,?_,?_,⟨by dsimp only;omega,by dsimp only;omega⟩,⟨by dsimp only;omega,by dsimp only;omega⟩,⟨by dsimp only;omega,by dsimp only;omega⟩⟩
  · unfold bOk amtOk okA
    simp only [Bool.and_eq_true,inR_iff]
    exact ⟨⟨by omega,by omega,by omega⟩,l2,rfl⟩
  · have:=label_four l2
    unfold sz_DBoot sz_DLabel
    simp only [List.length_nil]
    omega
theorem wd_Amt0 {N:Nat} {b:List U8} {i h:Int} (hb:b.length≤1048576) (hi:0≤i):WD (F_s_l5Amt N ⟨b,i,h⟩) (fun r=>0≤r.2.i∧amtOk r.1=true):=by
  unfold F_s_l5Amt
  dsimp only
  refine WD.bind (wd_Below hb hi 40 (by decide)) fun x ⟨x1,x2,x3⟩=>WD.bind (wd_Below hb x1 400 (by decide)) fun y ⟨y1,y2,y3⟩=>WD.bind (wd_Below hb y1 60 (by decide)) fun z ⟨z1,z2,z3⟩=>WD.ret ⟨z1,?_⟩
  unfold amtOk okA
  simp only [Bool.and_eq_true,inR_iff]
  omega
theorem wd_Tree {N:Nat} (hN:BIG≤N) {b:List U8} {i h:Int} (hb:b.length≤1048576) (hi:0≤i):WD (F_s_l6Tree N ⟨b,i,h⟩) (fun r=>0≤r.2.i∧r.1.length=5):=by
  unfold F_s_l6Tree
  dsimp only
  refine WD.bind (wd_Amt0 hb hi) fun y ⟨h1,h2⟩=>WD.step (s_TreeNew _ _) ?_
  rw [if_pos h2]
  refine WD.bind (wd_Below hb h1 7 (by decide)) fun n ⟨n1,n2,n3⟩=>?_
  refine WD.bind (WD.loop (fun s=>s.1.length=5∧0≤s.2.1∧s.2.1≤6∧0≤s.2.2.1) (fun r=>r.1.length=5∧0≤r.2.2.1) (fun s=>s.2.1.toNat) ⟨rfl,n2,by dsimp only;omega,n1⟩ (bigN hN (by dsimp only;omega)) ?_) fun r ⟨r1,r2⟩=>WD.ret ⟨r2,r1⟩
  rintro ⟨t,k,i,h⟩ ⟨s1,s2,s3,s4⟩
  dsimp only at *
  refine WD.ite (fun c=>?_) (fun c=>WD.inr ⟨s1,s4⟩)
  have c:=of_decide_eq_true c
  have hB:(16777216:Nat)=BIG:=rfl
  rw [wrap_ok (n:=k - 1) (by omega) (by omega)]
  refine WD.bind (wd_Below hb s4 5 (by decide)) fun y ⟨y1,y2,y3⟩=>WD.bind (wd_Once hb y1 4) fun z z1=>WD.ite (fun _=>?_) (fun _=>?_)
  · exact WD.step (s_TreeDrop hN (by omega) _) (WD.inl ⟨by dsimp only;rw [treeDrop_len];exact s1,by dsimp only;omega,by dsimp only;omega,z1⟩ (by dsimp only;omega))
  · refine WD.bind (wd_Below hb z1 8 (by decide)) fun u ⟨u1,_,_⟩=>WD.bind (wd_Below hb u1 50 (by decide)) fun v ⟨v1,_,_⟩=>WD.bind (wd_Below hb v1 9 (by decide)) fun w ⟨w1,_,_⟩=>?_
    exact WD.step (s_TreeSplit hN (by omega) _ _) (WD.inl ⟨by dsimp only;rw [treeSplit_len];exact s1,by dsimp only;omega,by dsimp only;omega,w1⟩ (by dsimp only;omega))
theorem wd_TreeAny {N:Nat} (hN:BIG≤N) {b:List U8} {i h:Int} (hb:b.length≤1048576) (hi:0≤i):WD (F_s_l6Any N ⟨b,i,h⟩) (fun r=>0≤r.2.i∧r.1.length≤5):=by
  unfold F_s_l6Any
  dsimp only
  refine WD.bind (wd_Tree hN hb hi) fun t ⟨t1,t2⟩=>WD.bind (wd_Below hb t1 _ (by omega)) fun k ⟨k1,k2,k3⟩=>WD.bind (wd_Below hb k1 20 (by decide)) fun m ⟨m1,_,_⟩=>?_
  refine WD.ite (fun _=>WD.bind (wd_sub k2 (by omega)) fun r ⟨r1,_⟩=>WD.ret ⟨m1,by dsimp only;omega⟩) fun _=>?_
  refine WD.ite (fun _=>WD.bind (wd_Below hb m1 7 (by decide)) fun y ⟨y1,_,_⟩=>WD.bind (wd_idx k2 k3) fun z _=>WD.step rfl (WD.ret ⟨y1,by simp only [List.length_set];omega⟩)) fun _=>?_
  refine WD.ite (fun _=>WD.bind (wd_idx k2 k3) fun z _=>WD.step rfl (WD.ret ⟨m1,by simp only [List.length_set];omega⟩)) fun _=>?_
  exact WD.ite (fun _=>WD.bind (wd_Pick hb m1 (by decide)) fun y ⟨y1,_⟩=>WD.bind (wd_idx k2 k3) fun z _=>WD.step rfl (WD.ret ⟨y1,by simp only [List.length_set];omega⟩)) fun _=>WD.ret ⟨m1,by dsimp only;omega⟩
theorem wd_Tap {N:Nat} {b:List U8} {i h:Int} (hb:b.length≤1048576) (hi:0≤i):WD (F_s_l7Tap N ⟨b,i,h⟩) (fun r=>0≤r.2.i):=by
  unfold F_s_l7Tap
  dsimp only
  refine WD.bind (wd_Below hb hi 5 (by decide)) fun a ⟨a1,_,_⟩=>WD.bind (wd_Below hb a1 3 (by decide)) fun b ⟨b1,_,_⟩=>WD.bind (wd_Below hb b1 5 (by decide)) fun c ⟨c1,_,_⟩=>WD.bind (wd_Below hb c1 3 (by decide)) fun d ⟨d1,_,_⟩=>WD.bind (wd_Below hb d1 2 (by decide)) fun e ⟨e1,_,_⟩=>WD.bind (wd_Below hb e1 30 (by decide)) fun f ⟨f1,_,_⟩=>WD.bind (wd_Below hb f1 20 (by decide)) fun g ⟨g1,_,_⟩=>WD.bind (P:=fun j=>0≤j.1) ?_ fun j hj=>WD.ret hj
  repeat' first
    | exact WD.ret (by assumption)
    | refine WD.ite (fun _=>?_) (fun _=>?_)
    | refine WD.bind (wd_Pick hb (by assumption) (by decide)) fun y ⟨_,_⟩=>?_
theorem wd_Num8 {N:Nat} {b:List U8} {i h:Int} (hb:b.length≤1048576) (hi:0≤i):WD (F_s_l8Num N ⟨b,i,h⟩) (fun r=>0≤r.2.i):=by
  unfold F_s_l8Num
  dsimp only
  exact WD.bind (wd_Once hb hi 8) fun y y1=>WD.ite (fun _=>WD.bind (wd_Pick hb y1 (by decide)) fun z ⟨z1,_⟩=>WD.ret z1) fun _=>WD.bind (wd_Below hb y1 400 (by decide)) fun z ⟨z1,_,_⟩=>WD.ret z1
def Ob (o:DObj):Prop:=wOk o∧sz_DObj o≤12
theorem wd_New8 {N:Nat} (hN:BIG≤N) {b:List U8} {i h:Int} (hb:b.length≤1048576) (hi:0≤i) {l:List DObj} (hl:l.length≤100):WD (F_s_l8New N ⟨b,i,h⟩ l) (fun r=>0≤r.2.i∧Ob r.1∧r.1.links.length=2):=by
  unfold F_s_l8New
  dsimp only
  refine WD.bind (WD.loop (fun s=>0<s.1.length∧(s.1.length:Int)≤1+2 * s.2∧0≤s.2∧s.2≤(l.length:Int)) (fun r=>0<r.1.length) (fun s=>((l.length:Int) - s.2).toNat) ⟨by decide,by decide,by decide,by dsimp only;omega⟩ (bigN hN (by dsimp only;omega)) ?_) fun o o1=>?_
  · rintro ⟨t,k⟩ ⟨s1,s2,s3,s4⟩
    dsimp only at *
    refine WD.ite (fun c=>?_) (fun c=>WD.inr s1)
    have c:=of_decide_eq_true c
    rw [wrap_ok (n:=k+1) (by omega) (by omega)]
    have hB:(16777216:Nat)=BIG:=rfl
    refine WD.bind (wd_idx s3 c) fun y _=>WD.ite (fun _=>?_) fun _=>WD.inl ⟨s1,by dsimp only;omega,by dsimp only;omega,by dsimp only;omega⟩ (by dsimp only;omega)
    have e:app t ([k,k]:List Int)=some (t++[k,k]):=by
      unfold app
      rw [if_pos (by simp only [List.length_cons,List.length_nil];omega)]
    exact WD.step e (WD.inl ⟨by simp,by simp only [List.length_append,List.length_cons,List.length_nil];omega,by dsimp only;omega,by dsimp only;omega⟩ (by dsimp only;omega))
  refine WD.bind (wd_Below hb hi 4 (by decide)) fun k ⟨k1,k2,k3⟩=>WD.bind (wd_Pick hb k1 o1) fun x ⟨x1,_⟩=>WD.bind (wd_Below hb x1 5 (by decide)) fun y ⟨y1,_,_⟩=>WD.bind (wd_Below hb y1 30 (by decide)) fun z ⟨z1,_,_⟩=>WD.bind (wd_Below hb z1 4 (by decide)) fun p ⟨p1,p2,p3⟩=>WD.bind (wd_Once hb p1 3) fun m m1=>?_
  refine WD.bind (WD.loop (fun s=>s.1.length=2∧0≤s.2.1∧s.2.1≤2∧0≤s.2.2.1) (fun r=>r.1.length=2∧0≤r.2.2.1) (fun s=>(2 - s.2.1).toNat) ⟨rfl,by simp,by simp,m1⟩ (bigN hN (by simp)) ?_) fun q ⟨q1,q2⟩=>?_
  · rintro ⟨t,k,i,h⟩ ⟨s1,s2,s3,s4⟩
    dsimp only at *
    refine WD.ite (fun c=>?_) (fun c=>WD.inr ⟨s1,s4⟩)
    have c:=of_decide_eq_true c
    rw [wrap_ok (n:=k+1) (by omega) (by omega)]
    refine WD.bind (wd_Once hb s4 3) fun y y1=>WD.ite (fun _=>?_) fun _=>WD.inl ⟨s1,by dsimp only;omega,by dsimp only;omega,y1⟩ (by dsimp only;omega)
    refine WD.bind (wd_Pick hb y1 o1) fun z ⟨z1,_⟩=>WD.bind (wd_idx s2 (by omega)) fun w _=>WD.step rfl (WD.inl ⟨by simp only [List.length_set];exact s1,by dsimp only;omega,by dsimp only;omega,z1⟩ (by dsimp only;omega))
  refine WD.bind (P:=fun j=>0≤j.1∧0≤j.2.2.1∧j.2.2.2.2.2.1.length≤3∧j.2.2.2.2.2.2.length≤2) ?_ fun j ⟨j1,j2,j3,j4⟩=>WD.ret ⟨j1,⟨?_,?_⟩,q1⟩
  · refine WD.ite (fun _=>?_) fun _=>WD.ite (fun _=>?_) fun _=>WD.ite (fun _=>?_) fun _=>WD.ret ⟨q2,by simp,by simp,by simp⟩
    · refine WD.bind (WD.loop (fun s=>0≤s.1∧s.1≤p.1∧0≤s.2.1∧(s.2.2.2.length:Int)≤s.1) (fun r=>0≤r.2.1∧r.2.2.2.length≤3) (fun s=>(p.1 - s.1).toNat) ⟨by simp,p2,q2,by simp⟩ (bigN hN (by dsimp only;omega)) ?_) fun r ⟨r1,r2⟩=>WD.ret ⟨r1,by simp,r2,by simp⟩
      rintro ⟨k,i,h,t⟩ ⟨s1,s2,s3,s4⟩
      dsimp only at *
      refine WD.ite (fun c=>?_) (fun c=>WD.inr ⟨s3,by dsimp only;omega⟩)
      have c:=of_decide_eq_true c
      rw [wrap_ok (n:=k+1) (by omega) (by omega)]
      exact WD.bind (wd_Below hb s3 100 (by decide)) fun y ⟨y1,_,_⟩=>WD.step (appD (by omega)) (WD.inl ⟨by dsimp only;omega,by dsimp only;omega,y1,by simp only [List.length_append,List.length_cons,List.length_nil];omega⟩ (by dsimp only;omega))
    · refine WD.bind (wd_Below hb q2 3 (by decide)) fun n ⟨n1,n2,n3⟩=>?_
      refine WD.bind (WD.loop (fun s=>0≤s.1∧0≤s.2.1∧(s.2.2.2.length:Int)+s.1≤2) (fun r=>0≤r.2.1∧r.2.2.2.length≤2) (fun s=>s.1.toNat) ⟨n2,n1,by simp only [List.length_nil];omega⟩ (bigN hN (by dsimp only;omega)) ?_) fun r ⟨r1,r2⟩=>WD.ret ⟨r1,by simp,by simp,r2⟩
      rintro ⟨k,i,h,t⟩ ⟨s1,s3,s4⟩
      dsimp only at *
      refine WD.ite (fun c=>?_) (fun c=>WD.inr ⟨s3,by dsimp only;omega⟩)
      have c:=of_decide_eq_true c
      rw [wrap_ok (n:=k - 1) (by omega) (by omega)]
      exact WD.bind (wd_Pick hb s3 (by decide)) fun z ⟨z1,_⟩=>WD.bind (wd_Below hb z1 50 (by decide)) fun y ⟨y1,_,_⟩=>WD.step (appD (by omega)) (WD.inl ⟨by dsimp only;omega,y1,by simp only [List.length_append,List.length_cons,List.length_nil];omega⟩ (by dsimp only;omega))
    · refine WD.bind (wd_Pick hb q2 (by decide)) fun w ⟨w1,w2⟩=>WD.bind (wd_Below hb w1 9 (by decide)) fun y ⟨y1,_,_⟩=>WD.bind (wd_Below hb y1 5 (by decide)) fun z ⟨z1,_,_⟩=>WD.ret ⟨z1,?_,by simp,by simp⟩
      have:∀ x ∈ ([0,0,7,34]:List Int),0≤x:=by decide
      exact this _ w2
  · unfold wOk;dsimp only;omega
  · unfold sz_DObj;dsimp only;omega
structure Aq (l:List DObj):Prop where
  len:l.length=10
  ob:∀ o,o ∈ l→Ob o∧(o.kind ≠ 0→o.links.length=2)
theorem Aq.w {l:List DObj} (h:Aq l):wA l:=fun o ho=>(h.ob o ho).1.1
theorem Aq.sz {l:List DObj} (h:Aq l):szL sz_DObj l≤130:=by
  have:=sumL_le (f:=sz_DObj) (c:=12) fun y hy=>(h.ob y hy).1.2
  have:=h.len
  unfold szL
  omega
theorem Aq.big {l:List DObj} (h:Aq l):szL sz_DObj l<BIG:=by
  have:=h.sz
  have:(16777216:Nat)=BIG:=rfl
  omega
theorem Aq.set {l:List DObj} (h:Aq l) {o:DObj} (k:Nat) (h1:Ob o) (h2:o.kind ≠ 0→o.links.length=2):Aq (l.set k o):=by
  refine ⟨by rw [List.length_set];exact h.len,fun y hy=>?_⟩
  rcases List.mem_or_eq_of_mem_set hy with q | rfl
  · exact h.ob y q
  · exact ⟨h1,h2⟩
theorem Aq.new:Aq arenaNew:=by
  refine ⟨rfl,fun o ho=>?_⟩
  have h:∀ o ∈ arenaNew, -9223372036854775808≤o.wait∧sz_DObj o≤12∧(o.kind ≠ 0→o.links.length=2):=by decide
  obtain ⟨a,b,c⟩:=h o ho
  exact ⟨⟨a,b⟩,c⟩
theorem Aq.free {l:List DObj} (h:Aq l) (i:Int):Aq (arenaFree l i).1:=by
  unfold arenaFree
  split
  · have h1:=h.set (o:=blank (nth l i).gen) i.toNat ⟨blank_w _,by show (0:Nat)≤12;decide⟩ (fun h=>absurd rfl h)
    refine ⟨by simp only [List.length_map];exact h1.len,fun y hy=>?_⟩
    obtain ⟨o,ho,rfl⟩:=List.mem_map.1 hy
    obtain ⟨⟨a,b⟩,c⟩:=h1.ob o ho
    refine ⟨⟨unl_w a,by rw [unl_sz];exact b⟩,?_⟩
    unfold unl
    split
    · exact c
    · simp only [List.length_map];exact c
  · exact h
theorem putAt_fst (l:List DObj) (o:DObj) (k:Nat) (x:DObj):(putAt l o k x).1=l∨∃ (j:Nat) (g:Int),(putAt l o k x).1=l.set j (genned o g):=by
  unfold putAt
  split
  · exact .inr ⟨_,_,rfl⟩
  · exact .inl rfl
theorem putGo_fst (l:List DObj) (o:DObj):∀ (m:List DObj) (k:Nat),(putGo l o k m).1=l∨∃ (j:Nat) (g:Int),(putGo l o k m).1=l.set j (genned o g)
  | [],_=>.inl rfl
  | x::m,k=>by
    unfold putGo
    split
    · exact putGo_fst l o m (k+1)
    · exact putAt_fst l o k x
theorem put_fst (l:List DObj) (o:DObj):(arenaPut l o).1=l∨∃ (j:Nat) (g:Int),(arenaPut l o).1=l.set j (genned o g):=by
  unfold arenaPut
  split
  · exact putGo_fst l o _ _
  · exact .inl rfl
theorem Aq.put {l:List DObj} (h:Aq l) {o:DObj} (h1:Ob o) (h2:o.links.length=2):Aq (arenaPut l o).1:=by
  rcases put_fst l o with e | ⟨j,g,e⟩
  · rw [e];exact h
  · rw [e];exact h.set j ⟨genned_w h1.1,h1.2⟩ fun _=>h2
theorem wd_Arena {N:Nat} (hN:BIG≤N) {b:List U8} {i h:Int} (hb:b.length≤1048576) (hi:0≤i):WD (F_s_l8Arena N ⟨b,i,h⟩) (fun r=>0≤r.2.i∧Aq r.1):=by
  unfold F_s_l8Arena
  dsimp only
  refine WD.step (s_ArenaNew _) (WD.bind (wd_Below hb hi 14 (by decide)) fun n ⟨n1,n2,n3⟩=>?_)
  refine WD.bind (WD.loop (fun s=>Aq s.1∧0≤s.2.1∧s.2.1≤13∧0≤s.2.2.1) (fun r=>Aq r.1∧0≤r.2.2.1) (fun s=>s.2.1.toNat) ⟨Aq.new,n2,by dsimp only;omega,n1⟩ (bigN hN (by dsimp only;omega)) ?_) fun r ⟨r1,r2⟩=>?_
  · rintro ⟨t,k,i,h⟩ ⟨s1,s2,s3,s4⟩
    dsimp only at *
    refine WD.ite (fun c=>?_) (fun c=>WD.inr ⟨s1,s4⟩)
    have c:=of_decide_eq_true c
    rw [wrap_ok (n:=k - 1) (by omega) (by omega)]
    refine WD.bind (wd_Once hb s4 5) fun y y1=>WD.ite (fun _=>?_) fun _=>?_
    · exact WD.bind (wd_Below hb y1 10 (by decide)) fun z ⟨z1,_,_⟩=>WD.step (s_ArenaFree hN s1.big s1.w _) (WD.inl ⟨s1.free _,by dsimp only;omega,by dsimp only;omega,z1⟩ (by dsimp only;omega))
    · refine WD.bind (wd_New8 hN hb y1 (by rw [s1.len];decide)) fun o ⟨o1,o2,o3⟩=>?_
      exact WD.step (s_ArenaPut hN s1.big s1.w (by have:=o2.2;omega) o2.1) (WD.inl ⟨s1.put o2 o3,by dsimp only;omega,by dsimp only;omega,o1⟩ (by dsimp only;omega))
  refine WD.bind (WD.loop (fun s=>Aq s.1∧0≤s.2.1∧s.2.1≤10∧0≤s.2.2.1) (fun r=>Aq r.1∧0≤r.2.2.1) (fun s=>(10 - s.2.1).toNat) ⟨r1,by simp,by simp,r2⟩ (bigN hN (by simp)) ?_) fun q ⟨q1,q2⟩=>WD.ret ⟨q2,q1⟩
  rintro ⟨t,k,i,h⟩ ⟨s1,s2,s3,s4⟩
  dsimp only at *
  have hl:=s1.len
  refine WD.ite (fun c=>?_) (fun c=>WD.inr ⟨s1,s4⟩)
  have c:=of_decide_eq_true c
  have e:IntKind.i64.wrap (k+1)=k+1:=wrap_ok (by omega) (by omega)
  rw [e]
  refine WD.bind (P:=fun j=>0≤j.2.1∧(j.1=true→(nth t k).kind ≠ 0)) ?_ fun j ⟨j1,j2⟩=>WD.ite (fun cj=>?_) fun _=>WD.inl ⟨s1,by dsimp only;omega,by dsimp only;omega,j1⟩ (by dsimp only;omega)
  · refine WD.step (idx_ok s2 c) (WD.ite (fun ck=>WD.bind (wd_Once hb s4 4) fun y y1=>WD.ret ⟨y1,fun _=>by simpa using ck⟩) fun _=>WD.ret ⟨s4,by simp⟩)
  · have hk:=j2 cj
    obtain ⟨⟨w1,w2⟩,w3⟩:=s1.ob _ (nth_mem s2 c)
    have w3:=w3 hk
    refine WD.bind (wd_Below hb j1 _ (by omega)) fun y ⟨y1,y2,y3⟩=>WD.bind (wd_idx y2 y3) fun z _=>WD.ite (fun _=>?_) fun _=>WD.inl ⟨s1,by dsimp only;omega,by dsimp only;omega,y1⟩ (by dsimp only;omega)
    refine WD.step (idx_ok s2 c) (WD.bind (wd_Below hb y1 2 (by decide)) fun v ⟨v1,v2,v3⟩=>WD.bind (wd_idx v2 (by omega)) fun u _=>WD.step rfl (WD.inl ⟨s1.set _ ⟨w1,?_⟩ fun _=>?_,by dsimp only;omega,by dsimp only;omega,v1⟩ (by dsimp only;omega)))
    · unfold sz_DObj at *
      simp only [List.length_set]
      exact w2
    · simp only [List.length_set];exact w3
structure Aw (l:List DObj):Prop where
  w:wA l
  sz:szL sz_DObj l≤200
theorem Aq.aw {l:List DObj} (h:Aq l):Aw l:=⟨h.w,Nat.le_trans h.sz (by decide)⟩
theorem Aq.setw {l:List DObj} (h:Aq l) {o:DObj} (k:Nat) (h1:wOk o) (h2:sz_DObj o≤20):Aw (l.set k o):=⟨wA_set h.w h1,Nat.le_trans szL_set (by have:=h.sz;omega)⟩
theorem wd_ArenaAny {N:Nat} (hN:BIG≤N) {b:List U8} {i h:Int} (hb:b.length≤1048576) (hi:0≤i):WD (F_s_l8Any N ⟨b,i,h⟩) (fun r=>0≤r.2.i∧Aw r.1):=by
  unfold F_s_l8Any
  dsimp only
  refine WD.bind (wd_Arena hN hb hi) fun l ⟨l1,l2⟩=>?_
  have hl:=l2.len
  refine WD.bind (wd_Below hb l1 _ (by omega)) fun k ⟨k1,k2,k3⟩=>WD.bind (wd_Below hb k1 24 (by decide)) fun m ⟨m1,_,_⟩=>?_
  have hw:∀ y ∈ l.1,wOk y∧sz_DObj y≤12:=fun y hy=>(l2.ob y hy).1
  refine WD.ite (fun _=>WD.bind (wd_sub k2 (by omega)) fun r ⟨r1,r2⟩=>WD.ret ⟨m1,?_,?_⟩) fun _=>?_
  · exact fun o ho=>l2.w o (r2 o ho)
  · have:=sumL_le (f:=sz_DObj) (c:=12) (l:=r) fun y hy=>(hw y (r2 y hy)).2
    unfold szL
    dsimp only
    omega
  refine WD.ite (fun _=>WD.bind (wd_Pick hb m1 (by decide)) fun y ⟨y1,_⟩=>WD.bind (wd_idx k2 k3) fun z hz=>WD.step rfl (WD.ret ⟨y1,l2.setw _ (hw z hz).1 (Nat.le_trans (hw z hz).2 (by decide))⟩)) fun _=>?_
  refine WD.ite (fun _=>WD.bind (wd_Below hb m1 6 (by decide)) fun y ⟨y1,_,_⟩=>WD.bind (wd_idx k2 k3) fun z hz=>WD.step rfl (WD.ret ⟨y1,l2.setw _ (hw z hz).1 (Nat.le_trans (hw z hz).2 (by decide))⟩)) fun _=>?_
  refine WD.ite (fun _=>WD.bind (wd_Pick hb m1 (by decide)) fun y ⟨y1,_⟩=>WD.bind (wd_idx k2 k3) fun z hz=>WD.step rfl (WD.ret ⟨y1,l2.setw _ (hw z hz).1 (Nat.le_trans (hw z hz).2 (by decide))⟩)) fun _=>?_
  refine WD.ite (fun _=>WD.bind (wd_idx k2 k3) fun z hz=>?_) fun _=>?_
  · have h2:=(hw z hz).2
    have h3:z.links.length≤12:=by unfold sz_DObj at h2;omega
    refine WD.step (appD (by omega)) (WD.ret ⟨m1,l2.setw _ (hw z hz).1 ?_⟩)
    unfold sz_DObj at *
    simp only [List.length_append,List.length_cons,List.length_nil]
    omega
  refine WD.ite (fun _=>WD.bind (wd_Pick hb m1 (by decide)) fun y ⟨y1,_⟩=>WD.bind (wd_idx k2 k3) fun z hz=>WD.step rfl (WD.ret ⟨y1,l2.setw _ (hw z hz).1 (Nat.le_trans (hw z hz).2 (by decide))⟩)) fun _=>?_
  refine WD.ite (fun _=>WD.bind (wd_Pick hb m1 (by decide)) fun y ⟨y1,y2⟩=>WD.bind (wd_idx k2 k3) fun z hz=>WD.step rfl (WD.ret ⟨y1,l2.setw _ ?_ (Nat.le_trans (hw z hz).2 (by decide))⟩)) fun _=>WD.ret ⟨m1,l2.aw⟩
  have:∀ x ∈ ([-1,30000,30001,1]:List Int), -9223372036854775808≤x:=by decide
  exact this _ y2
structure Hw (h:DHeap) (n:Nat):Prop where
  a:Aw h.arena
  g:h.gc.grey.length≤n
theorem Hw.step {h:DHeap} {n:Nat} (q:Hw h n) (now:Int):Hw (gcStep h now).1 (n+10):=by
  obtain ⟨a,b,c,_⟩:=step_props q.a.w now
  exact ⟨⟨b,Nat.le_trans a q.a.sz⟩,by have:=q.g;omega⟩
theorem Hw.run {N:Nat} (hN:BIG≤N) {h:DHeap} {n:Nat} (q:Hw h n) (hn:n≤100000) (now:Int):F_s_GcStep N h now=some (gcStep h now):=by
  have h1:=q.a.sz
  have h2:=q.g
  have:(16777216:Nat)=BIG:=rfl
  exact s_GcStep hN (by omega) q.a.w (by omega) now
theorem wd_Heap {N:Nat} (hN:BIG≤N) {b:List U8} {i h:Int} (hb:b.length≤1048576) (hi:0≤i):WD (F_s_l10Heap N ⟨b,i,h⟩) (fun r=>0≤r.2.i∧Hw r.1 500):=by
  unfold F_s_l10Heap
  dsimp only
  refine WD.bind (wd_Arena hN hb hi) fun l ⟨l1,l2⟩=>WD.step (show F_s_GcNew N=some (DGc.mk 0 0 0 [0]) from rfl) ?_
  have hB:(16777216:Nat)=BIG:=rfl
  refine WD.bind (WD.loop (fun s=>Aq s.1∧0≤s.2∧s.2≤10) (fun r=>Aq r.1) (fun s=>(10 - s.2).toNat) ⟨l2,by simp,by simp⟩ (bigN hN (by simp)) ?_) fun r r1=>?_
  · rintro ⟨t,k⟩ ⟨s1,s2,s3⟩
    dsimp only at *
    have hl:=s1.len
    refine WD.ite (fun c=>?_) (fun c=>WD.inr s1)
    have c:=of_decide_eq_true c
    rw [wrap_ok (n:=k+1) (by omega) (by omega)]
    exact WD.bind (wd_idx s2 c) fun z hz=>WD.step rfl (WD.inl ⟨s1.set _ (s1.ob z hz).1 (s1.ob z hz).2,by dsimp only;omega,by dsimp only;omega⟩ (by dsimp only;omega))
  refine WD.bind (wd_Below hb l1 40 (by decide)) fun n ⟨n1,n2,n3⟩=>?_
  refine WD.bind (WD.loop (fun s=>0≤s.1∧s.1≤39∧Hw (DHeap.mk s.2.1 (DGc.mk s.2.2.1 s.2.2.2.1 s.2.2.2.2.1 s.2.2.2.2.2)) (400 - 10 * s.1.toNat)) (fun r=>Hw (DHeap.mk r.2.1 (DGc.mk r.2.2.1 r.2.2.2.1 r.2.2.2.2.1 r.2.2.2.2.2)) 400) (fun s=>s.1.toNat) ⟨n2,by dsimp only;omega,r1.aw,?_⟩ (bigN hN (by dsimp only;omega)) ?_) fun q q1=>WD.ret ⟨n1,q1.a,Nat.le_trans q1.g (by decide)⟩
  · show (1:Nat)≤_
    dsimp only
    omega
  rintro ⟨k,l,a,c,d,g⟩ ⟨s1,s2,s3⟩
  dsimp only at *
  refine WD.ite (fun c=>?_) (fun c=>WD.inr ⟨s3.a,Nat.le_trans s3.g (by omega)⟩)
  have c:=of_decide_eq_true c
  rw [wrap_ok (n:=k - 1) (by omega) (by omega)]
  refine WD.step (s3.run hN (by omega) 3) (WD.inl ⟨by dsimp only;omega,by dsimp only;omega,?_⟩ (by dsimp only;omega))
  have h2:=s3.step 3
  exact ⟨h2.a,Nat.le_trans h2.g (by dsimp only;omega)⟩
theorem wd_HeapAny {N:Nat} (hN:BIG≤N) {b:List U8} {i h:Int} (hb:b.length≤1048576) (hi:0≤i):WD (F_s_l10Any N ⟨b,i,h⟩) (fun r=>0≤r.2.i∧Hw r.1 600):=by
  unfold F_s_l10Any
  dsimp only
  refine WD.bind (wd_Heap hN hb hi) fun l ⟨l1,l2⟩=>WD.bind (wd_Below hb l1 16 (by decide)) fun m ⟨m1,_,_⟩=>?_
  have g:=l2.g
  refine WD.bind (P:=fun j=>0≤j.2.1∧Aw j.2.2.2.1∧j.1.length≤600) ?_ fun j ⟨j1,j2,j3⟩=>WD.ret ⟨j1,j2,j3⟩
  refine WD.ite (fun _=>WD.bind (wd_ArenaAny hN hb m1) fun y ⟨y1,y2⟩=>WD.ret ⟨y1,y2,by dsimp only;omega⟩) fun _=>?_
  refine WD.ite (fun _=>WD.bind (wd_Below hb m1 12 (by decide)) fun y ⟨y1,_,_⟩=>WD.ret ⟨y1,l2.a,by dsimp only;omega⟩) fun _=>?_
  refine WD.ite (fun _=>WD.bind (wd_Below hb m1 12 (by decide)) fun y ⟨y1,_,_⟩=>WD.step (appD (by omega)) (WD.ret ⟨y1,l2.a,by simp only [List.length_append,List.length_cons,List.length_nil];omega⟩)) fun _=>?_
  refine WD.ite (fun _=>WD.bind (wd_Below hb m1 4 (by decide)) fun y ⟨y1,_,_⟩=>WD.ret ⟨y1,l2.a,by dsimp only;omega⟩) fun _=>?_
  exact WD.ite (fun _=>WD.bind (wd_Pick hb m1 (by decide)) fun y ⟨y1,_⟩=>WD.ret ⟨y1,l2.a,by dsimp only;omega⟩) fun _=>WD.ret ⟨m1,l2.a,by dsimp only;omega⟩
def Pw (p:DPart):Prop:=sz_DPart p≤20000∧wP p
theorem pw_of {p:DPart} (h1:p.label.levels.length≤5) (h2:p.own.length≤5) (h3:p.tree.length≤5) (h4:Hw p.heap 600) (h5:p.taps.length≤4):Pw p:=by
  refine ⟨?_,h4.a.w⟩
  have:=h4.a.sz
  have:=h4.g
  unfold sz_DPart sz_DHeap sz_DGc sz_DLabel
  omega
structure Pq (p:DPart):Prop where
  la:p.label.levels.length≤5
  ow:p.own.length≤5
  tr:p.tree.length≤5
  hp:Hw p.heap 600
  ta:p.taps.length≤4
theorem Pq.pw {p:DPart} (h:Pq p):Pw p:=pw_of h.la h.ow h.tr h.hp h.ta
theorem wd_Part {N:Nat} (hN:BIG≤N) {b:List U8} {i h:Int} (hb:b.length≤1048576) (hi:0≤i):WD (F_s_l13Part N ⟨b,i,h⟩) (fun r=>0≤r.2.i∧Pq r.1):=by
  unfold F_s_l13Part
  dsimp only
  refine WD.bind (wd_Label hN hb hi) fun l ⟨l1,l2⟩=>WD.bind (wd_Tree hN hb l1) fun t ⟨t1,t2⟩=>WD.bind (wd_Heap hN hb t1) fun q ⟨q1,q2⟩=>WD.bind (wd_Below hb q1 10 (by decide)) fun x ⟨x1,_,_⟩=>WD.bind (wd_Pick hb x1 (by decide)) fun y ⟨y1,_⟩=>WD.bind (wd_Below hb y1 4 (by decide)) fun z ⟨z1,_,_⟩=>WD.bind (wd_Below hb z1 3 (by decide)) fun u ⟨u1,_,_⟩=>WD.bind (wd_Below hb u1 3 (by decide)) fun n ⟨n1,n2,n3⟩=>?_
  refine WD.bind (WD.loop (fun s=>0≤s.1∧0≤s.2.1∧(s.2.2.2.length:Int)+s.1≤2) (fun r=>0≤r.2.1∧r.2.2.2.length≤2) (fun s=>s.1.toNat) ⟨n2,n1,by simp only [List.length_nil];omega⟩ (bigN hN (by dsimp only;omega)) ?_) fun r ⟨r1,r2⟩=>?_
  · rintro ⟨k,i,h,t⟩ ⟨s1,s3,s4⟩
    dsimp only at *
    refine WD.ite (fun c=>?_) (fun c=>WD.inr ⟨s3,by dsimp only;omega⟩)
    have c:=of_decide_eq_true c
    rw [wrap_ok (n:=k - 1) (by omega) (by omega)]
    exact WD.bind (wd_Tap hb s3) fun z z1=>WD.step (s_TapOk _ _) (WD.ite (fun _=>WD.step (appD (by omega)) (WD.inl ⟨by dsimp only;omega,z1,by simp only [List.length_append,List.length_cons,List.length_nil];omega⟩ (by dsimp only;omega))) fun _=>WD.inl ⟨by dsimp only;omega,z1,by dsimp only;omega⟩ (by dsimp only;omega))
  · exact WD.bind (wd_Amt0 hb r1) fun a ⟨a1,_⟩=>WD.ret ⟨a1,by have:=label_four l2;dsimp only;omega,by simp,by dsimp only;omega,⟨q2.a,Nat.le_trans q2.g (by decide)⟩,by dsimp only;omega⟩
theorem wd_PartAny {N:Nat} (hN:BIG≤N) {b:List U8} {i h:Int} (hb:b.length≤1048576) (hi:0≤i):WD (F_s_l13Any N ⟨b,i,h⟩) (fun r=>0≤r.2.i∧Pq r.1):=by
  unfold F_s_l13Any
  dsimp only
  refine WD.bind (wd_Part hN hb hi) fun p ⟨p1,p2⟩=>WD.bind (wd_Below hb p1 20 (by decide)) fun m ⟨m1,_,_⟩=>?_
  obtain ⟨la,ow,tr,hp,ta⟩:=p2
  refine WD.bind (P:=fun j=>0≤j.2.1∧j.1.length≤4∧j.2.2.2.1.length≤5∧j.2.2.2.2.1.length≤5∧j.2.2.2.2.2.1.length≤5∧Hw (DHeap.mk j.2.2.2.2.2.2.1 (DGc.mk j.2.2.2.2.2.2.2.1 j.2.2.2.2.2.2.2.2.1 j.2.2.2.2.2.2.2.2.2.1 j.2.2.2.2.2.2.2.2.2.2.1)) 600) ?_ fun j ⟨j1,j2,j3,j4,j5,j6⟩=>WD.ret ⟨j1,j3,j4,j5,j6,j2⟩
  refine WD.ite (fun _=>WD.bind (wd_TreeAny hN hb m1) fun y ⟨y1,y2⟩=>WD.ret ⟨y1,ta,la,ow,y2,hp⟩) fun _=>?_
  refine WD.ite (fun _=>WD.bind (wd_HeapAny hN hb m1) fun y ⟨y1,y2⟩=>WD.ret ⟨y1,ta,la,ow,tr,y2⟩) fun _=>?_
  refine WD.ite (fun _=>WD.bind (wd_LabelAny hN hb m1) fun y ⟨y1,y2⟩=>WD.ret ⟨y1,ta,y2,ow,tr,hp⟩) fun _=>?_
  refine WD.ite (fun _=>WD.bind (wd_Own hN hb m1) fun y ⟨y1,y2⟩=>WD.ret ⟨y1,ta,la,y2,tr,hp⟩) fun _=>?_
  refine WD.ite (fun _=>WD.bind (wd_Pick hb m1 (by decide)) fun y ⟨y1,_⟩=>WD.ret ⟨y1,ta,la,ow,tr,hp⟩) fun _=>?_
  refine WD.ite (fun _=>?_) fun _=>?_
  · refine WD.bind (WD.loop (fun s=>s.1.length≤4∧0≤s.2.1) (fun r=>r.1.length≤4∧0≤r.2.1) (fun s=>4 - s.1.length) ⟨ta,m1⟩ (bigN hN (by dsimp only;omega)) ?_) fun r ⟨r1,r2⟩=>WD.ret ⟨r2,r1,la,ow,tr,hp⟩
    rintro ⟨t,i,h⟩ ⟨s1,s2⟩
    dsimp only at *
    refine WD.ite (fun c=>?_) (fun c=>WD.inr ⟨s1,s2⟩)
    have c:=of_decide_eq_true c
    exact WD.bind (wd_Tap hb s2) fun z z1=>WD.step (appD (by omega)) (WD.inl ⟨by simp only [List.length_append,List.length_cons,List.length_nil];omega,z1⟩ (by simp only [List.length_append,List.length_cons,List.length_nil];omega))
  refine WD.ite (fun _=>WD.bind (wd_Pick hb m1 (by decide)) fun y ⟨y1,_⟩=>WD.ret ⟨y1,ta,la,ow,tr,hp⟩) fun _=>?_
  exact WD.ite (fun _=>WD.bind (wd_AmtAny hb m1) fun y y1=>WD.ret ⟨y1,ta,la,ow,tr,hp⟩) fun _=>WD.ret ⟨m1,ta,la,ow,tr,hp⟩
theorem wd_Handle {N:Nat} (hN:BIG≤N) {b:List U8} {i h:Int} (hb:b.length≤1048576) (hi:0≤i) (p:DPart) (me:Int):WD (F_s_l14Handle N ⟨b,i,h⟩ p me) (fun r=>0≤r.2.i):=by
  unfold F_s_l14Handle
  dsimp only
  refine WD.bind (P:=fun j=>0≤j.2.1∧(j.1=false→(p.heap.arena.length:Int)=10)) ?_ fun j ⟨hj,hl⟩=>?_
  · refine WD.ite (fun _=>WD.ret ⟨hi,by simp⟩) fun c=>WD.bind (wd_Once hb hi 15) fun y y1=>WD.ret ⟨y1,fun _=>by simpa using c⟩
  refine WD.ite (fun _=>WD.bind (wd_Num8 hb hj) fun y y1=>WD.ret y1) fun c=>?_
  have hl:=hl c
  refine WD.bind (wd_Below hb hj 10 (by decide)) fun y ⟨y1,y2,y3⟩=>?_
  refine WD.bind (WD.loop (fun s=>0≤s.1∧s.1<10∧0≤s.2.1∧s.2.1≤4∧0≤s.2.2.1) (fun r=>0≤r.1∧r.1<10∧0≤r.2.2.1) (fun s=>(4 - s.2.1).toNat) ⟨y2,y3,Int.le_refl _,by simp,y1⟩ (bigN hN (by simp)) ?_) fun r ⟨r1,r2,r3⟩=>?_
  · rintro ⟨k,n,i,h⟩ ⟨s1,s2,s3,s4,s5⟩
    dsimp only at *
    refine WD.bind (P:=fun j=>j=true→n<4) ?_ fun j hj=>WD.ite (fun c=>?_) fun _=>WD.inr ⟨s1,s2,s5⟩
    · refine WD.ite (fun c=>?_) fun _=>WD.ret (by simp)
      exact WD.bind (wd_idx s1 (by omega)) fun y _=>WD.ret fun _=>of_decide_eq_true c
    · have:=hj c
      rw [wrap_ok (n:=n+1) (by omega) (by omega)]
      exact WD.bind (wd_Below hb s5 10 (by decide)) fun y ⟨y1,y2,y3⟩=>WD.inl ⟨y2,y3,by dsimp only;omega,by dsimp only;omega,y1⟩ (by dsimp only;omega)
  · exact WD.bind (wd_idx r1 (by omega)) fun z _=>WD.bind (wd_Once hb r3 20) fun y y1=>WD.bind (P:=fun _=>True) (WD.ite (fun _=>WD.ret trivial) fun _=>WD.ret trivial) fun j _=>WD.step (s_HandleOf _ _ _ _) (WD.ret y1)
theorem wd_Of {N:Nat} (hN:BIG≤N) {b:List U8} {i h:Int} (hb:b.length≤1048576) (hi:0≤i) {p:DPart} (hp:p.heap.arena.length≤1000000) (me k:Int):WD (F_s_l14Of N ⟨b,i,h⟩ p me k) (fun r=>0≤r.2.i):=by
  unfold F_s_l14Of
  dsimp only
  refine WD.bind (WD.loop (fun s=>0≤s.1∧s.1≤(p.heap.arena.length:Int)∧0≤s.2.1) (fun r=>Sum.elim (fun s=>0≤s.2.1) (fun r=>0≤r.2.i) r) (fun s=>((p.heap.arena.length:Int) - s.1).toNat) ⟨Int.le_refl _,by dsimp only;omega,hi⟩ (bigN hN (by dsimp only;omega)) ?_) fun r hr=>?_
  · rintro ⟨k,i,h⟩ ⟨s1,s2,s3⟩
    dsimp only at *
    refine WD.ite (fun c=>?_) (fun c=>WD.inr s3)
    have c:=of_decide_eq_true c
    rw [wrap_ok (n:=k+1) (by omega) (by omega)]
    refine WD.bind (P:=fun j=>0≤j.2.1) ?_ fun j hj=>WD.ite (fun _=>?_) fun _=>WD.inl ⟨by dsimp only;omega,by dsimp only;omega,hj⟩ (by dsimp only;omega)
    · exact WD.bind (wd_idx s1 c) fun y _=>WD.ite (fun _=>WD.bind (wd_Once hb s3 2) fun z z1=>WD.ret z1) fun _=>WD.ret s3
    · exact WD.bind (wd_idx s1 c) fun y _=>WD.step (s_HandleOf _ _ _ _) (WD.inr hj)
  · cases r with
    | inl s =>
      simp only [Sum.elim_inl] at *
      exact WD.bind (wd_Handle hN hb hr _ _) fun y y1=>WD.ret y1
    | inr s =>
      simp only [Sum.elim_inr] at *
      exact WD.ret hr
theorem wd_Call {N:Nat} (hN:BIG≤N) {b:List U8} {i h:Int} (hb:b.length≤1048576) (hi:0≤i) {p:DPart} (hp:p.heap.arena.length≤1000000) (me:Int):WD (F_s_l14Call N ⟨b,i,h⟩ p me) (fun r=>0≤r.2.i):=by
  unfold F_s_l14Call
  dsimp only
  refine WD.bind (wd_Below hb hi 17 (by decide)) fun k ⟨k1,_,_⟩=>WD.bind (wd_Once hb k1 3) fun m m1=>WD.bind (P:=fun _=>True) (WD.ite (fun _=>WD.ret trivial) fun _=>WD.ret trivial) fun j _=>WD.bind (P:=fun j=>0≤j.1) ?_ fun j hj=>WD.bind (wd_Below hb hj 40 (by decide)) fun n ⟨n1,_,_⟩=>WD.bind (P:=fun j=>0≤j.1) ?_ fun j hj=>WD.ret hj
  · repeat' first
      | exact WD.ret (by assumption)
      | exact WD.ret trivial
      | refine WD.ite (fun _=>?_) (fun _=>?_)
      | refine WD.bind (wd_Below hb (by assumption) _ (by decide)) fun y ⟨_,_,_⟩=>?_
      | refine WD.bind (wd_Pick hb (by assumption) (by decide)) fun y ⟨_,_⟩=>?_
      | refine WD.bind (wd_Handle hN hb (by assumption) _ _) fun y _=>?_
      | refine WD.bind (wd_Of hN hb (by assumption) hp _ _) fun y _=>?_
      | refine WD.bind (P:=fun (_:Bool)=>True) ?_ fun y _=>?_
  · repeat' first
      | exact WD.ret (by assumption)
      | refine WD.ite (fun _=>?_) (fun _=>?_)
      | refine WD.bind (wd_Pick hb (by assumption) (by decide)) fun y ⟨_,_⟩=>?_
theorem shadeIf_len (l:List DObj) (now:Int) (h:DHeap) (k:Int):(shadeIf l now h k).arena.length=h.arena.length:=by
  unfold shadeIf shade
  split
  · rfl
  split
  · simp only [List.length_set]
  · rfl
theorem shades_len (l:List DObj) (now:Int):∀ (e:List Int) (h:DHeap),(e.foldl (shadeIf l now) h).arena.length=h.arena.length
  | [],_=>rfl
  | k::e,h=>by
    rw [List.foldl_cons,shades_len l now e,shadeIf_len]
theorem markStep_len (h:DHeap) (now:Int):(markStep h now).arena.length=h.arena.length:=by
  unfold markStep
  split
  · rfl
  split
  · rfl
  · rw [shades_len]
    simp only [List.length_set]
theorem step_len (h:DHeap) (now:Int):(gcStep h now).1.arena.length=h.arena.length:=by
  unfold gcStep
  split
  · split
    · unfold sweepStep
      split
      · simp only [fresh0,List.length_set,swept_len]
      · exact swept_len h now
    · exact markStep_len h now
  · rfl
structure Lq (p:DPart) (n:Nat):Prop where
  sz:sz_DPart p≤n
  w:wP p
  len:p.heap.arena.length=10
theorem Lq.call {p:DPart} {n:Nat} (h:Lq p n) (hn:n≤1000000) (me now th:Int) (c:DCall):Lq (partCall p me now th c).1 (n+300):=by
  have h0:=h.sz
  obtain ⟨a,b⟩:=call_in (p:=p) (by omega) h.w me now th c
  exact ⟨by omega,b,by rw [call_len (by omega) h.w];exact h.len⟩
theorem szP_heap {p:DPart} {n:Nat} (h:sz_DPart p≤n):szL sz_DObj p.heap.arena+p.heap.gc.grey.length≤n:=by
  unfold sz_DPart sz_DHeap sz_DGc at h
  omega
theorem Lq.step {p:DPart} {n:Nat} (h:Lq p n) (now:Int):Lq (withHeap p (gcStep p.heap now).1) (n+10):=by
  obtain ⟨a,b,c,_⟩:=step_props (h:=p.heap) h.w now
  refine ⟨?_,b,by show (gcStep p.heap now).1.arena.length=10;rw [step_len];exact h.len⟩
  have h0:=h.sz
  unfold sz_DPart sz_DHeap sz_DGc at *
  show sz_DLabel p.label+_≤_
  simp only [withHeap]
  omega
theorem Lq.run {N:Nat} (hN:BIG≤N) {p:DPart} {n:Nat} (h:Lq p n) (hn:n≤1000000) (now:Int):F_s_GcStep N p.heap now=some (gcStep p.heap now):=by
  have h1:=szP_heap h.sz
  have:(16777216:Nat)=BIG:=rfl
  exact s_GcStep hN (by omega) h.w (by omega) now
theorem Lq.up {p:DPart} {n m:Nat} (h:Lq p n) (hm:n≤m):Lq p m:=⟨Nat.le_trans h.sz hm,h.w,h.len⟩
theorem Lq.pw {p:DPart} {n:Nat} (h:Lq p n) (hn:n≤20000):Pw p:=⟨Nat.le_trans h.sz hn,h.w⟩
theorem Lq.waits {p:DPart} {n:Nat} (h:Lq p n) {x:Int} (hx:-9223372036854775808≤x):Lq (withHeap p (DHeap.mk (p.heap.arena.set (1:Int).toNat (waiting (nth p.heap.arena 1) x)) p.heap.gc)) n:=by
  have hl:=h.len
  have hs:szL sz_DObj (p.heap.arena.set (1:Int).toNat (waiting (nth p.heap.arena 1) x))=szL sz_DObj p.heap.arena:=szL_same (by decide) (by rw [hl];decide) rfl
  refine ⟨?_,wA_set h.w hx,by show (List.set _ _ _).length=10;rw [List.length_set];exact hl⟩
  have h0:=h.sz
  unfold sz_DPart sz_DHeap sz_DGc at *
  simp only [withHeap,hs]
  exact h0
def pS (s:Int×Int×Int×(List Int)×(List Int)×(List DRes)×(List DObj)×Int×Int×Int×(List Int)×(List DTap)×Int×Int×Int×Int×Int×Int×Int):DPart:=DPart.mk (DLabel.mk s.2.2.2.1) s.2.2.2.2.1 s.2.2.2.2.2.1 (DHeap.mk s.2.2.2.2.2.2.1 (DGc.mk s.2.2.2.2.2.2.2.1 s.2.2.2.2.2.2.2.2.1 s.2.2.2.2.2.2.2.2.2.1 s.2.2.2.2.2.2.2.2.2.2.1)) s.2.2.2.2.2.2.2.2.2.2.2.1 s.2.2.2.2.2.2.2.2.2.2.2.2.1 s.2.2.2.2.2.2.2.2.2.2.2.2.2.1 (DAmt.mk s.2.2.2.2.2.2.2.2.2.2.2.2.2.2.1 s.2.2.2.2.2.2.2.2.2.2.2.2.2.2.2.1 s.2.2.2.2.2.2.2.2.2.2.2.2.2.2.2.2.1) s.2.2.2.2.2.2.2.2.2.2.2.2.2.2.2.2.2.1 s.2.2.2.2.2.2.2.2.2.2.2.2.2.2.2.2.2.2
def pJ (s:(List Int)×(List Int)×(List DRes)×(List DObj)×Int×Int×Int×(List Int)×(List DTap)×Int×Int×Int×Int×Int×Int×Int×Int×Int):DPart:=DPart.mk (DLabel.mk s.1) s.2.1 s.2.2.1 (DHeap.mk s.2.2.2.1 (DGc.mk s.2.2.2.2.1 s.2.2.2.2.2.1 s.2.2.2.2.2.2.1 s.2.2.2.2.2.2.2.1)) s.2.2.2.2.2.2.2.2.1 s.2.2.2.2.2.2.2.2.2.1 s.2.2.2.2.2.2.2.2.2.2.1 (DAmt.mk s.2.2.2.2.2.2.2.2.2.2.2.1 s.2.2.2.2.2.2.2.2.2.2.2.2.1 s.2.2.2.2.2.2.2.2.2.2.2.2.2.1) s.2.2.2.2.2.2.2.2.2.2.2.2.2.2.1 s.2.2.2.2.2.2.2.2.2.2.2.2.2.2.2.1
def pK (s:Int×Int×(List Int)×(List Int)×(List DRes)×(List DObj)×Int×Int×Int×(List Int)×(List DTap)×Int×Int×Int×Int×Int×Int×Int):DPart:=DPart.mk (DLabel.mk s.2.2.1) s.2.2.2.1 s.2.2.2.2.1 (DHeap.mk s.2.2.2.2.2.1 (DGc.mk s.2.2.2.2.2.2.1 s.2.2.2.2.2.2.2.1 s.2.2.2.2.2.2.2.2.1 s.2.2.2.2.2.2.2.2.2.1)) s.2.2.2.2.2.2.2.2.2.2.1 s.2.2.2.2.2.2.2.2.2.2.2.1 s.2.2.2.2.2.2.2.2.2.2.2.2.1 (DAmt.mk s.2.2.2.2.2.2.2.2.2.2.2.2.2.1 s.2.2.2.2.2.2.2.2.2.2.2.2.2.2.1 s.2.2.2.2.2.2.2.2.2.2.2.2.2.2.2.1) s.2.2.2.2.2.2.2.2.2.2.2.2.2.2.2.2.1 s.2.2.2.2.2.2.2.2.2.2.2.2.2.2.2.2.2
theorem new_lq {b:DBoot} (h:sz_DBoot b≤100):Lq (newPart b) 120:=by
  refine ⟨by rw [newPart_sz];omega,fun o ho=>?_,rfl⟩
  have:∀ o ∈ arena2, -9223372036854775808≤o.wait:=by decide
  exact this o ho
theorem wd_Live {N:Nat} (hN:BIG≤N) {b:List U8} {i h:Int} (hb:b.length≤1048576) (hi:0≤i) (me:Int):WD (F_s_l14Live N ⟨b,i,h⟩ me) (fun r=>0≤r.2.i∧Lq r.1 8000):=by
  unfold F_s_l14Live
  dsimp only
  refine WD.bind (wd_Boot hN hb hi) fun q ⟨q1,q2,q3,_⟩=>WD.step (s_PartNew hN (by omega)) ?_
  rw [show partNew q.1=(newPart q.1,true) from by unfold partNew;rw [if_pos q2]]
  refine WD.bind (wd_Below hb q1 25 (by decide)) fun n ⟨n1,n2,n3⟩=>?_
  refine WD.bind (WD.loop (fun s=>0≤s.1∧s.1≤24∧0≤s.2.1∧Lq (pS s) (8000 - 310 * s.1.toNat)) (fun r=>0≤r.2.1∧Lq (pS r) 8000) (fun s=>s.1.toNat) ⟨n2,by dsimp only;omega,n1,(new_lq q3).up (by dsimp only;omega)⟩ (bigN hN (by dsimp only;omega)) ?_) fun r ⟨r1,r2⟩=>WD.ret ⟨r1,r2⟩
  rintro ⟨k,i,h,l,o,t,a,ph,po,ro,g,tp,nx,wa,sp,sr,sc,pr,lo⟩ ⟨s1,s2,s3,s4⟩
  dsimp only [pS] at *
  refine WD.ite (fun c=>?_) fun _=>WD.inr ⟨s3,s4.up (by omega)⟩
  have c:=of_decide_eq_true c
  rw [wrap_ok (n:=k - 1) (by omega) (by omega)]
  have ha:a.length=10:=s4.len
  refine WD.bind (P:=fun j=>0≤j.2.2.2.2.2.2.2.2.2.2.2.2.2.2.2.2.1∧Lq (pJ j) (8300 - 310 * k.toNat)) ?_ fun j hj=>?_
  · exact WD.bind (wd_Call hN hb s3 (by dsimp only;omega) _) fun y y1=>WD.step (s_PartCall hN (Nat.le_trans s4.sz (by omega)) s4.w _ _ _ _) (WD.ret ⟨y1,(s4.call (by omega) _ _ _ _).up (by omega)⟩)
  obtain ⟨l,o,t,a,ph,po,ro,g,tp,nx,wa,sp,sr,sc,pr,lo,i,h⟩:=j
  obtain ⟨j1,j2⟩:=hj
  dsimp only [pJ] at *
  refine WD.bind (wd_Once hb j1 3) fun y y1=>WD.bind (P:=fun (j:(List DObj)×Int×Int×Int×(List Int))=>Lq (DPart.mk (DLabel.mk l) o t (DHeap.mk j.1 (DGc.mk j.2.1 j.2.2.1 j.2.2.2.1 j.2.2.2.2)) tp nx wa (DAmt.mk sp sr sc) pr lo) (8310 - 310 * k.toNat)) (WD.ite (fun _=>WD.step (j2.run hN (by omega) 3) (WD.ret ((j2.step 3).up (by omega)))) fun _=>WD.ret (j2.up (by omega))) fun j hj=>?_
  obtain ⟨a,ph,po,ro,g⟩:=j
  dsimp only at *
  have ha:a.length=10:=hj.len
  refine WD.bind (P:=fun j=>0≤j.2.1) ?_ fun m m1=>WD.ite (fun _=>?_) fun _=>WD.inl ⟨by dsimp only;omega,by dsimp only;omega,m1,hj.up (by dsimp only;omega)⟩ (by dsimp only;omega)
  · exact WD.bind (wd_idx (by decide) (by omega)) fun z _=>WD.ite (fun _=>WD.bind (wd_Once hb y1 2) fun u u1=>WD.ret u1) fun _=>WD.ret y1
  · exact WD.step (idx_ok (by decide) (by omega)) (WD.step rfl (WD.inl ⟨by dsimp only;omega,by dsimp only;omega,m1,(hj.waits (x:=0) (by decide)).up (by dsimp only;omega)⟩ (by dsimp only;omega)))
theorem wd_New {N:Nat} (hN:BIG≤N) {l:List U8} (hl:l.length≤1048576):WD (F_s_l1New N l) (fun r=>0≤r.i):=by
  obtain ⟨h,e⟩:=d_New hN hl
  exact ⟨_,e,Int.le_refl _⟩
theorem wd_DrawRun {N:Nat} (hN:BIG≤N) {l:List U8} (hl:l.length≤1048576):WD (F_s_DrawPartRun N l) (fun r=>Pw r.1∧0≤r.2∧r.2<20):=by
  unfold F_s_DrawPartRun
  refine WD.bind (wd_New hN hl) fun c c1=>WD.bind (wd_Live hN hl c1 0) fun p ⟨p1,p2⟩=>WD.bind (wd_Once hl p1 3) fun y y1=>?_
  refine WD.bind (P:=fun j=>0≤j.1∧Pw (pK j)) (WD.ite (fun _=>WD.bind (wd_PartAny hN hl y1) fun z ⟨z1,z2⟩=>WD.ret ⟨z1,z2.pw⟩) fun _=>WD.ret ⟨y1,p2.pw (by decide)⟩) fun j ⟨j1,j2⟩=>?_
  refine WD.bind (wd_Once hl j1 3) fun a a1=>WD.bind (P:=fun j=>0≤j.1) (WD.ite (fun _=>WD.bind (wd_Below hl a1 11 (by decide)) fun b ⟨b1,_,_⟩=>WD.ret b1) fun _=>WD.ret a1) fun k k1=>?_
  exact WD.bind (wd_Below hl k1 20 (by decide)) fun b ⟨_,b1,b2⟩=>WD.ret ⟨j2,b1,b2⟩
theorem Pw.waits {p:DPart} (h:Pw p) (hl:(p.heap.arena.length:Int)=10) {x:Int} (hx:-9223372036854775808≤x):Pw (withHeap p (DHeap.mk (p.heap.arena.set (1:Int).toNat (waiting (nth p.heap.arena 1) x)) p.heap.gc)) :=
  (Lq.waits (n:=20000) ⟨h.1,h.2,by omega⟩ hx).pw (by decide)
end Go.Kx
