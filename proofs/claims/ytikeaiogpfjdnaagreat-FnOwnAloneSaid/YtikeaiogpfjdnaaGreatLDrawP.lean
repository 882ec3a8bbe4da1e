/- Plain laws: drawn parts come to an end, and are small. No program in sight. -/
import Derived.Test.YtikeaiogpfjdnaaGreatLCall
import Derived.Test.YtikeaiogpfjdnaaGreatLReach
import Derived.Test.YtikeaiogpfjdnaaGreatLStep
import Derived.Test.YtikeaiogpfjdnaaGreatLBoot
namespace Go.Kx
open Go
set_option linter.unusedVariables false
set_option linter.unusedSimpArgs false
set_option maxRecDepth 10000
def WD {α:Type} (o:Option α) (Q:α→Prop):Prop:=∃ a,o=some a∧Q a
theorem WD.bind {α β:Type} {o:Option α} {f:α→Option β} {P:α→Prop} {Q:β→Prop} (h:WD o P) (k:∀ a,P a→WD (f a) Q):WD (o.bind f) Q:=by
  obtain ⟨a,rfl,ha⟩:=h
  exact k a ha
theorem WD.step {α β:Type} {o:Option α} {a:α} {f:α→Option β} {Q:β→Prop} (e:o=some a) (k:WD (f a) Q):WD (o.bind f) Q:=by
  rw [e];exact k
theorem WD.ite {α:Type} {c:Bool} {a b:Option α} {Q:α→Prop} (h1:c=true→WD a Q) (h2:c=false→WD b Q):WD (bif c then a else b) Q:=by
  cases c
  · exact h2 rfl
  · exact h1 rfl
theorem WD.ret {α:Type} {a:α} {Q:α→Prop} (h:Q a):WD (some a) Q:=⟨a,rfl,h⟩
theorem WD.mono {α:Type} {o:Option α} {P Q:α→Prop} (h:WD o P) (k:∀ a,P a→Q a):WD o Q:=by
  obtain ⟨a,e,ha⟩:=h
  exact ⟨a,e,k a ha⟩
def Hm {σ ρ:Type} (I:σ→Prop) (J:ρ→Prop) (μ:σ→Nat) (m:Nat) (o:σ⊕ρ):Prop:=(∀ s',o=.inl s'→I s'∧μ s'<m)∧∀ r,o=.inr r→J r
theorem WD.inl {σ ρ:Type} {I:σ→Prop} {J:ρ→Prop} {μ:σ→Nat} {m:Nat} {s:σ} (h1:I s) (h2:μ s<m):WD (some (.inl s:σ⊕ρ)) (Hm I J μ m) :=
  ⟨_,rfl,fun s' e=>by cases Sum.inl.inj e;exact ⟨h1,h2⟩,fun r e=>by cases e⟩
theorem WD.inr {σ ρ:Type} {I:σ→Prop} {J:ρ→Prop} {μ:σ→Nat} {m:Nat} {r:ρ} (h:J r):WD (some (.inr r:σ⊕ρ)) (Hm I J μ m) :=
  ⟨_,rfl,fun s' e=>by (cases e),fun r e=>by cases Sum.inr.inj e;exact h⟩
theorem WD.loop {σ ρ:Type} {body:σ→Option (σ⊕ρ)} (I:σ→Prop) (J:ρ→Prop) (μ:σ→Nat) {N:Nat} {s:σ} (h0:I s) (hN:μ s<N) (h:∀ s,I s→WD (body s) (Hm I J μ (μ s))):WD (iter body N s) J :=
  uO I J μ (fun s hs=>by obtain ⟨o,ho,h1,h2⟩:=h s hs;exact ⟨o,ho,h1,h2⟩) N s h0 hN
theorem qp {N n:Nat} (hN:im≤N) (h:n<16777216):n<N:=Nat.lt_of_lt_of_le h hN
theorem iP {N:Nat} {b:List U8} {i h:Int} (hb:b.length≤1048576) (hi:0≤i) (n:Int) (hn:0<n):WD (ir N ⟨b,i,h⟩ n) (fun r=>0≤r.2.i∧0≤r.1∧r.1<n):=by
  obtain ⟨x,i',h',e,a1,a2,a3,_⟩:=rz (N:=N) (c:=⟨b,i,h⟩) ⟨hb,hi⟩ n
  exact ⟨_,e,a1,a2,a3 hn⟩
theorem kS {N:Nat} {b:List U8} {i h:Int} (hb:b.length≤1048576) (hi:0≤i) (n:Int):WD (jE N ⟨b,i,h⟩ n) (fun r=>0≤r.2.i):=by
  obtain ⟨x,i',h',e,a1⟩:=Ao (N:=N) (c:=⟨b,i,h⟩) ⟨hb,hi⟩ n
  exact ⟨_,e,a1⟩
theorem kG {N:Nat} {b:List U8} {i h:Int} (hb:b.length≤1048576) (hi:0≤i) {l:List Int} (hl:0<l.length):WD (iW N ⟨b,i,h⟩ l) (fun r=>0≤r.2.i∧r.1 ∈ l):=by
  obtain ⟨x,i',h',e,a1,a2⟩:=vD (N:=N) (c:=⟨b,i,h⟩) ⟨hb,hi⟩ hl
  exact ⟨_,e,a1,a2⟩
theorem kg {α:Type} {l:List α} {i:Int} (h0:0≤i) (h1:i<(l.length:Int)):WD (idx l i) (fun y=>y ∈ l):=by
  obtain ⟨y,e,hy⟩:=vW h0 h1
  exact ⟨y,e,hy⟩
theorem Dw {α:Type} {l:List α} {k:Int} (h0:0≤k) (h1:k≤(l.length:Int)):WD (sub l 0 k) (fun r=>r.length≤l.length∧∀ y,y ∈ r→y ∈ l):=by
  refine ⟨(l.drop (0:Int).toNat).take (k.toNat - (0:Int).toNat),by unfold sub;rw [if_pos ⟨Int.le_refl _,h0,h1⟩],?_,fun y hy=>?_⟩
  · simp only [List.length_take,List.length_drop];omega
  · exact List.mem_of_mem_drop (List.mem_of_mem_take hy)
theorem Be {N:Nat} (hN:im≤N) {b:List U8} {i h:Int} (hb:b.length≤1048576) (hi:0≤i):WD (mH N ⟨b,i,h⟩) (fun r=>0≤r.2.i∧jG r.1=true):=by
  obtain ⟨x,i',h',e,a1,a2,a3⟩:=B6 (N:=N) hN (c:=⟨b,i,h⟩) ⟨hb,hi⟩
  refine ⟨_,e,a1,?_⟩
  unfold jG
  simp only [Bool.and_eq_true,beq_iff_eq,List.all_eq_true,jv]
  exact ⟨by omega,a3⟩
theorem GP {N:Nat} (hN:im≤N) {b:List U8} {i h:Int} (hb:b.length≤1048576) (hi:0≤i):WD (rO N ⟨b,i,h⟩) (fun r=>0≤r.2.i∧r.1.length≤5):=by
  obtain ⟨x,i',h',e,a1,a2⟩:=HC (N:=N) hN (c:=⟨b,i,h⟩) ⟨hb,hi⟩
  exact ⟨_,e,a1,a2⟩
theorem Dk {N:Nat} {b:List U8} {i h:Int} (hb:b.length≤1048576) (hi:0≤i):WD (rP N ⟨b,i,h⟩) (fun r=>0≤r.2.i):=by
  obtain ⟨x,i',h',e,a1⟩:=Ht (N:=N) (c:=⟨b,i,h⟩) ⟨hb,hi⟩
  exact ⟨_,e,a1⟩
theorem BC {N:Nat} (hN:im≤N) {b:List U8} {i h:Int} (hb:b.length≤1048576) (hi:0≤i):WD (rK N ⟨b,i,h⟩) (fun r=>0≤r.2.i∧r.1.levels.length≤5):=by
  obtain ⟨x,i',h',e,a1,a2⟩:=C7 (N:=N) hN (c:=⟨b,i,h⟩) ⟨hb,hi⟩
  exact ⟨_,e,a1,a2⟩
theorem rT {l:jC} (h:jG l=true):l.levels.length=4:=by
  unfold jG at h
  simp only [Bool.and_eq_true,beq_iff_eq] at h
  omega
theorem B5 {N:Nat} (hN:im≤N) {b:List U8} {i h:Int} (hb:b.length≤1048576) (hi:0≤i):WD (oQ N ⟨b,i,h⟩) (fun r=>0≤r.2.i∧yP r.1=true∧kI r.1≤100∧(0≤r.1.jT.cd∧r.1.jT.cd≤1000)∧(0≤r.1.jT.ij∧r.1.jT.ij≤1000)∧(0≤r.1.jT.iD∧r.1.jT.iD≤1000)):=by
  unfold oQ
  dsimp only
  refine WD.bind (Be hN hb hi) fun l ⟨l1,l2⟩=>WD.bind (iP hb l1 25 (by decide)) fun x ⟨x1,x2,x3⟩=>WD.bind (iP hb x1 900 (by decide)) fun y ⟨y1,y2,y3⟩=>WD.bind (iP hb y1 60 (by decide)) fun z ⟨z1,z2,z3⟩=>WD.ret ⟨z1,?_,?_,⟨by dsimp only;omega,by dsimp only;omega⟩,⟨by dsimp only;omega,by dsimp only;omega⟩,⟨by dsimp only;omega,by dsimp only;omega⟩⟩
  · unfold yP je uL
    simp only [Bool.and_eq_true,jv]
    exact ⟨⟨by omega,by omega,by omega⟩,l2,rfl⟩
  · have:=rT l2
    unfold kI lA
    simp only [List.length_nil]
    omega
theorem BX {N:Nat} {b:List U8} {i h:Int} (hb:b.length≤1048576) (hi:0≤i):WD (rF N ⟨b,i,h⟩) (fun r=>0≤r.2.i∧je r.1=true):=by
  unfold rF
  dsimp only
  refine WD.bind (iP hb hi 40 (by decide)) fun x ⟨x1,x2,x3⟩=>WD.bind (iP hb x1 400 (by decide)) fun y ⟨y1,y2,y3⟩=>WD.bind (iP hb y1 60 (by decide)) fun z ⟨z1,z2,z3⟩=>WD.ret ⟨z1,?_⟩
  unfold je uL
  simp only [Bool.and_eq_true,jv]
  omega
theorem B0 {N:Nat} (hN:im≤N) {b:List U8} {i h:Int} (hb:b.length≤1048576) (hi:0≤i):WD (qi N ⟨b,i,h⟩) (fun r=>0≤r.2.i∧r.1.length=5):=by
  unfold qi
  dsimp only
  refine WD.bind (BX hb hi) fun y ⟨h1,h2⟩=>WD.step (zB _ _) ?_
  rw [if_pos h2]
  refine WD.bind (iP hb h1 7 (by decide)) fun n ⟨n1,n2,n3⟩=>?_
  refine WD.bind (WD.loop (fun s=>s.1.length=5∧0≤s.2.1∧s.2.1≤6∧0≤s.2.2.1) (fun r=>r.1.length=5∧0≤r.2.2.1) (fun s=>s.2.1.toNat) ⟨rfl,n2,by dsimp only;omega,n1⟩ (qp hN (by dsimp only;omega)) ?_) fun r ⟨r1,r2⟩=>WD.ret ⟨r2,r1⟩
  rintro ⟨t,k,i,h⟩ ⟨s1,s2,s3,s4⟩
  dsimp only at *
  refine WD.ite (fun c=>?_) (fun c=>WD.inr ⟨s1,s4⟩)
  have c:=of_decide_eq_true c
  have hB:(16777216:Nat)=im:=rfl
  rw [iX (n:=k - 1) (by omega) (by omega)]
  refine WD.bind (iP hb s4 5 (by decide)) fun y ⟨y1,y2,y3⟩=>WD.bind (kS hb y1 4) fun z z1=>WD.ite (fun _=>?_) (fun _=>?_)
  · exact WD.step (xI hN (by omega) _) (WD.inl ⟨by dsimp only;rw [we];exact s1,by dsimp only;omega,by dsimp only;omega,z1⟩ (by dsimp only;omega))
  · refine WD.bind (iP hb z1 8 (by decide)) fun u ⟨u1,_,_⟩=>WD.bind (iP hb u1 50 (by decide)) fun v ⟨v1,_,_⟩=>WD.bind (iP hb v1 9 (by decide)) fun w ⟨w1,_,_⟩=>?_
    exact WD.step (w9 hN (by omega) _ _) (WD.inl ⟨by dsimp only;rw [vu];exact s1,by dsimp only;omega,by dsimp only;omega,w1⟩ (by dsimp only;omega))
theorem C8 {N:Nat} (hN:im≤N) {b:List U8} {i h:Int} (hb:b.length≤1048576) (hi:0≤i):WD (td N ⟨b,i,h⟩) (fun r=>0≤r.2.i∧r.1.length≤5):=by
  unfold td
  dsimp only
  refine WD.bind (B0 hN hb hi) fun t ⟨t1,t2⟩=>WD.bind (iP hb t1 _ (by omega)) fun k ⟨k1,k2,k3⟩=>WD.bind (iP hb k1 20 (by decide)) fun m ⟨m1,_,_⟩=>?_
  refine WD.ite (fun _=>WD.bind (Dw k2 (by omega)) fun r ⟨r1,_⟩=>WD.ret ⟨m1,by dsimp only;omega⟩) fun _=>?_
  refine WD.ite (fun _=>WD.bind (iP hb m1 7 (by decide)) fun y ⟨y1,_,_⟩=>WD.bind (kg k2 k3) fun z _=>WD.step rfl (WD.ret ⟨y1,by simp only [List.length_set];omega⟩)) fun _=>?_
  refine WD.ite (fun _=>WD.bind (kg k2 k3) fun z _=>WD.step rfl (WD.ret ⟨m1,by simp only [List.length_set];omega⟩)) fun _=>?_
  exact WD.ite (fun _=>WD.bind (kG hb m1 (by decide)) fun y ⟨y1,_⟩=>WD.bind (kg k2 k3) fun z _=>WD.step rfl (WD.ret ⟨y1,by simp only [List.length_set];omega⟩)) fun _=>WD.ret ⟨m1,by dsimp only;omega⟩
theorem Dn {N:Nat} {b:List U8} {i h:Int} (hb:b.length≤1048576) (hi:0≤i):WD (rq N ⟨b,i,h⟩) (fun r=>0≤r.2.i):=by
  unfold rq
  dsimp only
  refine WD.bind (iP hb hi 5 (by decide)) fun a ⟨a1,_,_⟩=>WD.bind (iP hb a1 3 (by decide)) fun b ⟨b1,_,_⟩=>WD.bind (iP hb b1 5 (by decide)) fun c ⟨c1,_,_⟩=>WD.bind (iP hb c1 3 (by decide)) fun d ⟨d1,_,_⟩=>WD.bind (iP hb d1 2 (by decide)) fun e ⟨e1,_,_⟩=>WD.bind (iP hb e1 30 (by decide)) fun f ⟨f1,_,_⟩=>WD.bind (iP hb f1 20 (by decide)) fun g ⟨g1,_,_⟩=>WD.bind (P:=fun j=>0≤j.1) ?_ fun j hj=>WD.ret hj
  repeat' first
    | exact WD.ret (by assumption)
    | refine WD.ite (fun _=>?_) (fun _=>?_)
    | refine WD.bind (kG hb (by assumption) (by decide)) fun y ⟨_,_⟩=>?_
theorem FZ {N:Nat} {b:List U8} {i h:Int} (hb:b.length≤1048576) (hi:0≤i):WD (tg N ⟨b,i,h⟩) (fun r=>0≤r.2.i):=by
  unfold tg
  dsimp only
  exact WD.bind (kS hb hi 8) fun y y1=>WD.ite (fun _=>WD.bind (kG hb y1 (by decide)) fun z ⟨z1,_⟩=>WD.ret z1) fun _=>WD.bind (iP hb y1 400 (by decide)) fun z ⟨z1,_,_⟩=>WD.ret z1
def Ob (o:bh):Prop:=my o∧iA o≤12
theorem FE {N:Nat} (hN:im≤N) {b:List U8} {i h:Int} (hb:b.length≤1048576) (hi:0≤i) {l:List bh} (hl:l.length≤100):WD (sZ N ⟨b,i,h⟩ l) (fun r=>0≤r.2.i∧Ob r.1∧r.1.ig.length=2):=by
  unfold sZ
  dsimp only
  refine WD.bind (WD.loop (fun s=>0<s.1.length∧(s.1.length:Int)≤1+2 * s.2∧0≤s.2∧s.2≤(l.length:Int)) (fun r=>0<r.1.length) (fun s=>((l.length:Int) - s.2).toNat) ⟨by decide,by decide,by decide,by dsimp only;omega⟩ (qp hN (by dsimp only;omega)) ?_) fun o o1=>?_
  · rintro ⟨t,k⟩ ⟨s1,s2,s3,s4⟩
    dsimp only at *
    refine WD.ite (fun c=>?_) (fun c=>WD.inr s1)
    have c:=of_decide_eq_true c
    rw [iX (n:=k+1) (by omega) (by omega)]
    have hB:(16777216:Nat)=im:=rfl
    refine WD.bind (kg s3 c) fun y _=>WD.ite (fun _=>?_) fun _=>WD.inl ⟨s1,by dsimp only;omega,by dsimp only;omega,by dsimp only;omega⟩ (by dsimp only;omega)
    have e:app t ([k,k]:List Int)=some (t++[k,k]):=by
      unfold app
      rw [if_pos (by simp only [List.length_cons,List.length_nil];omega)]
    exact WD.step e (WD.inl ⟨by simp,by simp only [List.length_append,List.length_cons,List.length_nil];omega,by dsimp only;omega,by dsimp only;omega⟩ (by dsimp only;omega))
  refine WD.bind (iP hb hi 4 (by decide)) fun k ⟨k1,k2,k3⟩=>WD.bind (kG hb k1 o1) fun x ⟨x1,_⟩=>WD.bind (iP hb x1 5 (by decide)) fun y ⟨y1,_,_⟩=>WD.bind (iP hb y1 30 (by decide)) fun z ⟨z1,_,_⟩=>WD.bind (iP hb z1 4 (by decide)) fun p ⟨p1,p2,p3⟩=>WD.bind (kS hb p1 3) fun m m1=>?_
  refine WD.bind (WD.loop (fun s=>s.1.length=2∧0≤s.2.1∧s.2.1≤2∧0≤s.2.2.1) (fun r=>r.1.length=2∧0≤r.2.2.1) (fun s=>(2 - s.2.1).toNat) ⟨rfl,by simp,by simp,m1⟩ (qp hN (by simp)) ?_) fun q ⟨q1,q2⟩=>?_
  · rintro ⟨t,k,i,h⟩ ⟨s1,s2,s3,s4⟩
    dsimp only at *
    refine WD.ite (fun c=>?_) (fun c=>WD.inr ⟨s1,s4⟩)
    have c:=of_decide_eq_true c
    rw [iX (n:=k+1) (by omega) (by omega)]
    refine WD.bind (kS hb s4 3) fun y y1=>WD.ite (fun _=>?_) fun _=>WD.inl ⟨s1,by dsimp only;omega,by dsimp only;omega,y1⟩ (by dsimp only;omega)
    refine WD.bind (kG hb y1 o1) fun z ⟨z1,_⟩=>WD.bind (kg s2 (by omega)) fun w _=>WD.step rfl (WD.inl ⟨by simp only [List.length_set];exact s1,by dsimp only;omega,by dsimp only;omega,z1⟩ (by dsimp only;omega))
  refine WD.bind (P:=fun j=>0≤j.1∧0≤j.2.2.1∧j.2.2.2.2.2.1.length≤3∧j.2.2.2.2.2.2.length≤2) ?_ fun j ⟨j1,j2,j3,j4⟩=>WD.ret ⟨j1,⟨?_,?_⟩,q1⟩
  · refine WD.ite (fun _=>?_) fun _=>WD.ite (fun _=>?_) fun _=>WD.ite (fun _=>?_) fun _=>WD.ret ⟨q2,by simp,by simp,by simp⟩
    · refine WD.bind (WD.loop (fun s=>0≤s.1∧s.1≤p.1∧0≤s.2.1∧(s.2.2.2.length:Int)≤s.1) (fun r=>0≤r.2.1∧r.2.2.2.length≤3) (fun s=>(p.1 - s.1).toNat) ⟨by simp,p2,q2,by simp⟩ (qp hN (by dsimp only;omega)) ?_) fun r ⟨r1,r2⟩=>WD.ret ⟨r1,by simp,r2,by simp⟩
      rintro ⟨k,i,h,t⟩ ⟨s1,s2,s3,s4⟩
      dsimp only at *
      refine WD.ite (fun c=>?_) (fun c=>WD.inr ⟨s3,by dsimp only;omega⟩)
      have c:=of_decide_eq_true c
      rw [iX (n:=k+1) (by omega) (by omega)]
      exact WD.bind (iP hb s3 100 (by decide)) fun y ⟨y1,_,_⟩=>WD.step (sv (by omega)) (WD.inl ⟨by dsimp only;omega,by dsimp only;omega,y1,by simp only [List.length_append,List.length_cons,List.length_nil];omega⟩ (by dsimp only;omega))
    · refine WD.bind (iP hb q2 3 (by decide)) fun n ⟨n1,n2,n3⟩=>?_
      refine WD.bind (WD.loop (fun s=>0≤s.1∧0≤s.2.1∧(s.2.2.2.length:Int)+s.1≤2) (fun r=>0≤r.2.1∧r.2.2.2.length≤2) (fun s=>s.1.toNat) ⟨n2,n1,by simp only [List.length_nil];omega⟩ (qp hN (by dsimp only;omega)) ?_) fun r ⟨r1,r2⟩=>WD.ret ⟨r1,by simp,by simp,r2⟩
      rintro ⟨k,i,h,t⟩ ⟨s1,s3,s4⟩
      dsimp only at *
      refine WD.ite (fun c=>?_) (fun c=>WD.inr ⟨s3,by dsimp only;omega⟩)
      have c:=of_decide_eq_true c
      rw [iX (n:=k - 1) (by omega) (by omega)]
      exact WD.bind (kG hb s3 (by decide)) fun z ⟨z1,_⟩=>WD.bind (iP hb z1 50 (by decide)) fun y ⟨y1,_,_⟩=>WD.step (sv (by omega)) (WD.inl ⟨by dsimp only;omega,y1,by simp only [List.length_append,List.length_cons,List.length_nil];omega⟩ (by dsimp only;omega))
    · refine WD.bind (kG hb q2 (by decide)) fun w ⟨w1,w2⟩=>WD.bind (iP hb w1 9 (by decide)) fun y ⟨y1,_,_⟩=>WD.bind (iP hb y1 5 (by decide)) fun z ⟨z1,_,_⟩=>WD.ret ⟨z1,?_,by simp,by simp⟩
      have:∀ x ∈ ([0,0,7,34]:List Int),0≤x:=by decide
      exact this _ w2
  · unfold my;dsimp only;omega
  · unfold iA;dsimp only;omega
structure Aq (l:List bh):Prop where
  len:l.length=10
  ob:∀ o,o ∈ l→Ob o∧(o.kind ≠ 0→o.ig.length=2)
theorem Aq.w {l:List bh} (h:Aq l):wA l:=fun o ho=>(h.ob o ho).1.1
theorem Aq.sz {l:List bh} (h:Aq l):jl iA l≤130:=by
  have:=tD (f:=iA) (c:=12) fun y hy=>(h.ob y hy).1.2
  have:=h.len
  unfold jl
  omega
theorem Aq.E9 {l:List bh} (h:Aq l):jl iA l<im:=by
  have:=h.sz
  have:(16777216:Nat)=im:=rfl
  omega
theorem Aq.set {l:List bh} (h:Aq l) {o:bh} (k:Nat) (h1:Ob o) (h2:o.kind ≠ 0→o.ig.length=2):Aq (l.set k o):=by
  refine ⟨by rw [List.length_set];exact h.len,fun y hy=>?_⟩
  rcases List.mem_or_eq_of_mem_set hy with q | rfl
  · exact h.ob y q
  · exact ⟨h1,h2⟩
theorem Aq.new:Aq pK:=by
  refine ⟨rfl,fun o ho=>?_⟩
  have h:∀ o ∈ pK, -9223372036854775808≤o.wait∧iA o≤12∧(o.kind ≠ 0→o.ig.length=2):=by decide
  obtain ⟨a,b,c⟩:=h o ho
  exact ⟨⟨a,b⟩,c⟩
theorem Aq.free {l:List bh} (h:Aq l) (i:Int):Aq (mc l i).1:=by
  unfold mc
  split
  · have h1:=h.set (o:=blank (nth l i).gen) i.toNat ⟨B2 _,by show (0:Nat)≤12;decide⟩ (fun h=>absurd rfl h)
    refine ⟨by simp only [List.length_map];exact h1.len,fun y hy=>?_⟩
    obtain ⟨o,ho,rfl⟩:=List.mem_map.1 hy
    obtain ⟨⟨a,b⟩,c⟩:=h1.ob o ho
    refine ⟨⟨Fp a,by rw [DV];exact b⟩,?_⟩
    unfold yf
    split
    · exact c
    · simp only [List.length_map];exact c
  · exact h
theorem Ed (l:List bh) (o:bh) (k:Nat) (x:bh):(putAt l o k x).1=l∨∃ (j:Nat) (g:Int),(putAt l o k x).1=l.set j (kl o g):=by
  unfold putAt
  split
  · exact .inr ⟨_,_,rfl⟩
  · exact .inl rfl
theorem zt (l:List bh) (o:bh):∀ (m:List bh) (k:Nat),(ri l o k m).1=l∨∃ (j:Nat) (g:Int),(ri l o k m).1=l.set j (kl o g)
  | [],_=>.inl rfl
  | x::m,k=>by
    unfold ri
    split
    · exact zt l o m (k+1)
    · exact Ed l o k x
theorem FQ (l:List bh) (o:bh):(kf l o).1=l∨∃ (j:Nat) (g:Int),(kf l o).1=l.set j (kl o g):=by
  unfold kf
  split
  · exact zt l o _ _
  · exact .inl rfl
theorem Aq.put {l:List bh} (h:Aq l) {o:bh} (h1:Ob o) (h2:o.ig.length=2):Aq (kf l o).1:=by
  rcases FQ l o with e | ⟨j,g,e⟩
  · rw [e];exact h
  · rw [e];exact h.set j ⟨vg h1.1,h1.2⟩ fun _=>h2
theorem A7 {N:Nat} (hN:im≤N) {b:List U8} {i h:Int} (hb:b.length≤1048576) (hi:0≤i):WD (oO N ⟨b,i,h⟩) (fun r=>0≤r.2.i∧Aq r.1):=by
  unfold oO
  dsimp only
  refine WD.step (xZ _) (WD.bind (iP hb hi 14 (by decide)) fun n ⟨n1,n2,n3⟩=>?_)
  refine WD.bind (WD.loop (fun s=>Aq s.1∧0≤s.2.1∧s.2.1≤13∧0≤s.2.2.1) (fun r=>Aq r.1∧0≤r.2.2.1) (fun s=>s.2.1.toNat) ⟨Aq.new,n2,by dsimp only;omega,n1⟩ (qp hN (by dsimp only;omega)) ?_) fun r ⟨r1,r2⟩=>?_
  · rintro ⟨t,k,i,h⟩ ⟨s1,s2,s3,s4⟩
    dsimp only at *
    refine WD.ite (fun c=>?_) (fun c=>WD.inr ⟨s1,s4⟩)
    have c:=of_decide_eq_true c
    rw [iX (n:=k - 1) (by omega) (by omega)]
    refine WD.bind (kS hb s4 5) fun y y1=>WD.ite (fun _=>?_) fun _=>?_
    · exact WD.bind (iP hb y1 10 (by decide)) fun z ⟨z1,_,_⟩=>WD.step (wZ hN s1.E9 s1.w _) (WD.inl ⟨s1.free _,by dsimp only;omega,by dsimp only;omega,z1⟩ (by dsimp only;omega))
    · refine WD.bind (FE hN hb y1 (by rw [s1.len];decide)) fun o ⟨o1,o2,o3⟩=>?_
      exact WD.step (vm hN s1.E9 s1.w (by have:=o2.2;omega) o2.1) (WD.inl ⟨s1.put o2 o3,by dsimp only;omega,by dsimp only;omega,o1⟩ (by dsimp only;omega))
  refine WD.bind (WD.loop (fun s=>Aq s.1∧0≤s.2.1∧s.2.1≤10∧0≤s.2.2.1) (fun r=>Aq r.1∧0≤r.2.2.1) (fun s=>(10 - s.2.1).toNat) ⟨r1,by simp,by simp,r2⟩ (qp hN (by simp)) ?_) fun q ⟨q1,q2⟩=>WD.ret ⟨q2,q1⟩
  rintro ⟨t,k,i,h⟩ ⟨s1,s2,s3,s4⟩
  dsimp only at *
  have hl:=s1.len
  refine WD.ite (fun c=>?_) (fun c=>WD.inr ⟨s1,s4⟩)
  have c:=of_decide_eq_true c
  have e:IntKind.i64.wrap (k+1)=k+1:=iX (by omega) (by omega)
  rw [e]
  refine WD.bind (P:=fun j=>0≤j.2.1∧(j.1=true→(nth t k).kind ≠ 0)) ?_ fun j ⟨j1,j2⟩=>WD.ite (fun cj=>?_) fun _=>WD.inl ⟨s1,by dsimp only;omega,by dsimp only;omega,j1⟩ (by dsimp only;omega)
  · refine WD.step (jj s2 c) (WD.ite (fun ck=>WD.bind (kS hb s4 4) fun y y1=>WD.ret ⟨y1,fun _=>by simpa using ck⟩) fun _=>WD.ret ⟨s4,by simp⟩)
  · have hk:=j2 cj
    obtain ⟨⟨w1,w2⟩,w3⟩:=s1.ob _ (m7 s2 c)
    have w3:=w3 hk
    refine WD.bind (iP hb j1 _ (by omega)) fun y ⟨y1,y2,y3⟩=>WD.bind (kg y2 y3) fun z _=>WD.ite (fun _=>?_) fun _=>WD.inl ⟨s1,by dsimp only;omega,by dsimp only;omega,y1⟩ (by dsimp only;omega)
    refine WD.step (jj s2 c) (WD.bind (iP hb y1 2 (by decide)) fun v ⟨v1,v2,v3⟩=>WD.bind (kg v2 (by omega)) fun u _=>WD.step rfl (WD.inl ⟨s1.set _ ⟨w1,?_⟩ fun _=>?_,by dsimp only;omega,by dsimp only;omega,v1⟩ (by dsimp only;omega)))
    · unfold iA at *
      simp only [List.length_set]
      exact w2
    · simp only [List.length_set];exact w3
structure Aw (l:List bh):Prop where
  w:wA l
  sz:jl iA l≤200
theorem Aq.aw {l:List bh} (h:Aq l):Aw l:=⟨h.w,Nat.le_trans h.sz (by decide)⟩
theorem Aq.yC {l:List bh} (h:Aq l) {o:bh} (k:Nat) (h1:my o) (h2:iA o≤20):Aw (l.set k o):=⟨kC h.w h1,Nat.le_trans wt (by have:=h.sz;omega)⟩
theorem Bx {N:Nat} (hN:im≤N) {b:List U8} {i h:Int} (hb:b.length≤1048576) (hi:0≤i):WD (sX N ⟨b,i,h⟩) (fun r=>0≤r.2.i∧Aw r.1):=by
  unfold sX
  dsimp only
  refine WD.bind (A7 hN hb hi) fun l ⟨l1,l2⟩=>?_
  have hl:=l2.len
  refine WD.bind (iP hb l1 _ (by omega)) fun k ⟨k1,k2,k3⟩=>WD.bind (iP hb k1 24 (by decide)) fun m ⟨m1,_,_⟩=>?_
  have hw:∀ y ∈ l.1,my y∧iA y≤12:=fun y hy=>(l2.ob y hy).1
  refine WD.ite (fun _=>WD.bind (Dw k2 (by omega)) fun r ⟨r1,r2⟩=>WD.ret ⟨m1,?_,?_⟩) fun _=>?_
  · exact fun o ho=>l2.w o (r2 o ho)
  · have:=tD (f:=iA) (c:=12) (l:=r) fun y hy=>(hw y (r2 y hy)).2
    unfold jl
    dsimp only
    omega
  refine WD.ite (fun _=>WD.bind (kG hb m1 (by decide)) fun y ⟨y1,_⟩=>WD.bind (kg k2 k3) fun z hz=>WD.step rfl (WD.ret ⟨y1,l2.yC _ (hw z hz).1 (Nat.le_trans (hw z hz).2 (by decide))⟩)) fun _=>?_
  refine WD.ite (fun _=>WD.bind (iP hb m1 6 (by decide)) fun y ⟨y1,_,_⟩=>WD.bind (kg k2 k3) fun z hz=>WD.step rfl (WD.ret ⟨y1,l2.yC _ (hw z hz).1 (Nat.le_trans (hw z hz).2 (by decide))⟩)) fun _=>?_
  refine WD.ite (fun _=>WD.bind (kG hb m1 (by decide)) fun y ⟨y1,_⟩=>WD.bind (kg k2 k3) fun z hz=>WD.step rfl (WD.ret ⟨y1,l2.yC _ (hw z hz).1 (Nat.le_trans (hw z hz).2 (by decide))⟩)) fun _=>?_
  refine WD.ite (fun _=>WD.bind (kg k2 k3) fun z hz=>?_) fun _=>?_
  · have h2:=(hw z hz).2
    have h3:z.ig.length≤12:=by unfold iA at h2;omega
    refine WD.step (sv (by omega)) (WD.ret ⟨m1,l2.yC _ (hw z hz).1 ?_⟩)
    unfold iA at *
    simp only [List.length_append,List.length_cons,List.length_nil]
    omega
  refine WD.ite (fun _=>WD.bind (kG hb m1 (by decide)) fun y ⟨y1,_⟩=>WD.bind (kg k2 k3) fun z hz=>WD.step rfl (WD.ret ⟨y1,l2.yC _ (hw z hz).1 (Nat.le_trans (hw z hz).2 (by decide))⟩)) fun _=>?_
  refine WD.ite (fun _=>WD.bind (kG hb m1 (by decide)) fun y ⟨y1,y2⟩=>WD.bind (kg k2 k3) fun z hz=>WD.step rfl (WD.ret ⟨y1,l2.yC _ ?_ (Nat.le_trans (hw z hz).2 (by decide))⟩)) fun _=>WD.ret ⟨m1,l2.aw⟩
  have:∀ x ∈ ([-1,30000,30001,1]:List Int), -9223372036854775808≤x:=by decide
  exact this _ y2
structure Hw (h:iv) (n:Nat):Prop where
  a:Aw h.ag
  g:h.gc.ia.length≤n
theorem Hw.step {h:iv} {n:Nat} (q:Hw h n) (now:Int):Hw (mw h now).1 (n+10):=by
  obtain ⟨a,b,c,_⟩:=xF q.a.w now
  exact ⟨⟨b,Nat.le_trans a q.a.sz⟩,by have:=q.g;omega⟩
theorem Hw.run {N:Nat} (hN:im≤N) {h:iv} {n:Nat} (q:Hw h n) (hn:n≤100000) (now:Int):nA N h now=some (mw h now):=by
  have h1:=q.a.sz
  have h2:=q.g
  have:(16777216:Nat)=im:=rfl
  exact A6 hN (by omega) q.a.w (by omega) now
theorem Cp {N:Nat} (hN:im≤N) {b:List U8} {i h:Int} (hb:b.length≤1048576) (hi:0≤i):WD (oX N ⟨b,i,h⟩) (fun r=>0≤r.2.i∧Hw r.1 500):=by
  unfold oX
  dsimp only
  refine WD.bind (A7 hN hb hi) fun l ⟨l1,l2⟩=>WD.step (show rn N=some (jz.mk 0 0 0 [0]) from rfl) ?_
  have hB:(16777216:Nat)=im:=rfl
  refine WD.bind (WD.loop (fun s=>Aq s.1∧0≤s.2∧s.2≤10) (fun r=>Aq r.1) (fun s=>(10 - s.2).toNat) ⟨l2,by simp,by simp⟩ (qp hN (by simp)) ?_) fun r r1=>?_
  · rintro ⟨t,k⟩ ⟨s1,s2,s3⟩
    dsimp only at *
    have hl:=s1.len
    refine WD.ite (fun c=>?_) (fun c=>WD.inr s1)
    have c:=of_decide_eq_true c
    rw [iX (n:=k+1) (by omega) (by omega)]
    exact WD.bind (kg s2 c) fun z hz=>WD.step rfl (WD.inl ⟨s1.set _ (s1.ob z hz).1 (s1.ob z hz).2,by dsimp only;omega,by dsimp only;omega⟩ (by dsimp only;omega))
  refine WD.bind (iP hb l1 40 (by decide)) fun n ⟨n1,n2,n3⟩=>?_
  refine WD.bind (WD.loop (fun s=>0≤s.1∧s.1≤39∧Hw (iv.mk s.2.1 (jz.mk s.2.2.1 s.2.2.2.1 s.2.2.2.2.1 s.2.2.2.2.2)) (400 - 10 * s.1.toNat)) (fun r=>Hw (iv.mk r.2.1 (jz.mk r.2.2.1 r.2.2.2.1 r.2.2.2.2.1 r.2.2.2.2.2)) 400) (fun s=>s.1.toNat) ⟨n2,by dsimp only;omega,r1.aw,?_⟩ (qp hN (by dsimp only;omega)) ?_) fun q q1=>WD.ret ⟨n1,q1.a,Nat.le_trans q1.g (by decide)⟩
  · show (1:Nat)≤_
    dsimp only
    omega
  rintro ⟨k,l,a,c,d,g⟩ ⟨s1,s2,s3⟩
  dsimp only at *
  refine WD.ite (fun c=>?_) (fun c=>WD.inr ⟨s3.a,Nat.le_trans s3.g (by omega)⟩)
  have c:=of_decide_eq_true c
  rw [iX (n:=k - 1) (by omega) (by omega)]
  refine WD.step (s3.run hN (by omega) 3) (WD.inl ⟨by dsimp only;omega,by dsimp only;omega,?_⟩ (by dsimp only;omega))
  have h2:=s3.step 3
  exact ⟨h2.a,Nat.le_trans h2.g (by dsimp only;omega)⟩
theorem CG {N:Nat} (hN:im≤N) {b:List U8} {i h:Int} (hb:b.length≤1048576) (hi:0≤i):WD (r6 N ⟨b,i,h⟩) (fun r=>0≤r.2.i∧Hw r.1 600):=by
  unfold r6
  dsimp only
  refine WD.bind (Cp hN hb hi) fun l ⟨l1,l2⟩=>WD.bind (iP hb l1 16 (by decide)) fun m ⟨m1,_,_⟩=>?_
  have g:=l2.g
  refine WD.bind (P:=fun j=>0≤j.2.1∧Aw j.2.2.2.1∧j.1.length≤600) ?_ fun j ⟨j1,j2,j3⟩=>WD.ret ⟨j1,j2,j3⟩
  refine WD.ite (fun _=>WD.bind (Bx hN hb m1) fun y ⟨y1,y2⟩=>WD.ret ⟨y1,y2,by dsimp only;omega⟩) fun _=>?_
  refine WD.ite (fun _=>WD.bind (iP hb m1 12 (by decide)) fun y ⟨y1,_,_⟩=>WD.ret ⟨y1,l2.a,by dsimp only;omega⟩) fun _=>?_
  refine WD.ite (fun _=>WD.bind (iP hb m1 12 (by decide)) fun y ⟨y1,_,_⟩=>WD.step (sv (by omega)) (WD.ret ⟨y1,l2.a,by simp only [List.length_append,List.length_cons,List.length_nil];omega⟩)) fun _=>?_
  refine WD.ite (fun _=>WD.bind (iP hb m1 4 (by decide)) fun y ⟨y1,_,_⟩=>WD.ret ⟨y1,l2.a,by dsimp only;omega⟩) fun _=>?_
  exact WD.ite (fun _=>WD.bind (kG hb m1 (by decide)) fun y ⟨y1,_⟩=>WD.ret ⟨y1,l2.a,by dsimp only;omega⟩) fun _=>WD.ret ⟨m1,l2.a,by dsimp only;omega⟩
def Pw (p:gE):Prop:=jh p≤20000∧wP p
theorem Hs {p:gE} (h1:p.label.levels.length≤5) (h2:p.own.length≤5) (h3:p.tree.length≤5) (h4:Hw p.heap 600) (h5:p.ic.length≤4):Pw p:=by
  refine ⟨?_,h4.a.w⟩
  have:=h4.a.sz
  have:=h4.g
  unfold jh ox tj lA
  omega
structure Pq (p:gE):Prop where
  la:p.label.levels.length≤5
  ow:p.own.length≤5
  tr:p.tree.length≤5
  hp:Hw p.heap 600
  ta:p.ic.length≤4
theorem Pq.pw {p:gE} (h:Pq p):Pw p:=Hs h.la h.ow h.tr h.hp h.ta
theorem Gm {N:Nat} (hN:im≤N) {b:List U8} {i h:Int} (hb:b.length≤1048576) (hi:0≤i):WD (qX N ⟨b,i,h⟩) (fun r=>0≤r.2.i∧Pq r.1):=by
  unfold qX
  dsimp only
  refine WD.bind (Be hN hb hi) fun l ⟨l1,l2⟩=>WD.bind (B0 hN hb l1) fun t ⟨t1,t2⟩=>WD.bind (Cp hN hb t1) fun q ⟨q1,q2⟩=>WD.bind (iP hb q1 10 (by decide)) fun x ⟨x1,_,_⟩=>WD.bind (kG hb x1 (by decide)) fun y ⟨y1,_⟩=>WD.bind (iP hb y1 4 (by decide)) fun z ⟨z1,_,_⟩=>WD.bind (iP hb z1 3 (by decide)) fun u ⟨u1,_,_⟩=>WD.bind (iP hb u1 3 (by decide)) fun n ⟨n1,n2,n3⟩=>?_
  refine WD.bind (WD.loop (fun s=>0≤s.1∧0≤s.2.1∧(s.2.2.2.length:Int)+s.1≤2) (fun r=>0≤r.2.1∧r.2.2.2.length≤2) (fun s=>s.1.toNat) ⟨n2,n1,by simp only [List.length_nil];omega⟩ (qp hN (by dsimp only;omega)) ?_) fun r ⟨r1,r2⟩=>?_
  · rintro ⟨k,i,h,t⟩ ⟨s1,s3,s4⟩
    dsimp only at *
    refine WD.ite (fun c=>?_) (fun c=>WD.inr ⟨s3,by dsimp only;omega⟩)
    have c:=of_decide_eq_true c
    rw [iX (n:=k - 1) (by omega) (by omega)]
    exact WD.bind (Dn hb s3) fun z z1=>WD.step (Cq _ _) (WD.ite (fun _=>WD.step (sv (by omega)) (WD.inl ⟨by dsimp only;omega,z1,by simp only [List.length_append,List.length_cons,List.length_nil];omega⟩ (by dsimp only;omega))) fun _=>WD.inl ⟨by dsimp only;omega,z1,by dsimp only;omega⟩ (by dsimp only;omega))
  · exact WD.bind (BX hb r1) fun a ⟨a1,_⟩=>WD.ret ⟨a1,by have:=rT l2;dsimp only;omega,by simp,by dsimp only;omega,⟨q2.a,Nat.le_trans q2.g (by decide)⟩,by dsimp only;omega⟩
theorem CX {N:Nat} (hN:im≤N) {b:List U8} {i h:Int} (hb:b.length≤1048576) (hi:0≤i):WD (rY N ⟨b,i,h⟩) (fun r=>0≤r.2.i∧Pq r.1):=by
  unfold rY
  dsimp only
  refine WD.bind (Gm hN hb hi) fun p ⟨p1,p2⟩=>WD.bind (iP hb p1 20 (by decide)) fun m ⟨m1,_,_⟩=>?_
  obtain ⟨la,ow,tr,hp,ta⟩:=p2
  refine WD.bind (P:=fun j=>0≤j.2.1∧j.1.length≤4∧j.2.2.2.1.length≤5∧j.2.2.2.2.1.length≤5∧j.2.2.2.2.2.1.length≤5∧Hw (iv.mk j.2.2.2.2.2.2.1 (jz.mk j.2.2.2.2.2.2.2.1 j.2.2.2.2.2.2.2.2.1 j.2.2.2.2.2.2.2.2.2.1 j.2.2.2.2.2.2.2.2.2.2.1)) 600) ?_ fun j ⟨j1,j2,j3,j4,j5,j6⟩=>WD.ret ⟨j1,j3,j4,j5,j6,j2⟩
  refine WD.ite (fun _=>WD.bind (C8 hN hb m1) fun y ⟨y1,y2⟩=>WD.ret ⟨y1,ta,la,ow,y2,hp⟩) fun _=>?_
  refine WD.ite (fun _=>WD.bind (CG hN hb m1) fun y ⟨y1,y2⟩=>WD.ret ⟨y1,ta,la,ow,tr,y2⟩) fun _=>?_
  refine WD.ite (fun _=>WD.bind (BC hN hb m1) fun y ⟨y1,y2⟩=>WD.ret ⟨y1,ta,y2,ow,tr,hp⟩) fun _=>?_
  refine WD.ite (fun _=>WD.bind (GP hN hb m1) fun y ⟨y1,y2⟩=>WD.ret ⟨y1,ta,la,y2,tr,hp⟩) fun _=>?_
  refine WD.ite (fun _=>WD.bind (kG hb m1 (by decide)) fun y ⟨y1,_⟩=>WD.ret ⟨y1,ta,la,ow,tr,hp⟩) fun _=>?_
  refine WD.ite (fun _=>?_) fun _=>?_
  · refine WD.bind (WD.loop (fun s=>s.1.length≤4∧0≤s.2.1) (fun r=>r.1.length≤4∧0≤r.2.1) (fun s=>4 - s.1.length) ⟨ta,m1⟩ (qp hN (by dsimp only;omega)) ?_) fun r ⟨r1,r2⟩=>WD.ret ⟨r2,r1,la,ow,tr,hp⟩
    rintro ⟨t,i,h⟩ ⟨s1,s2⟩
    dsimp only at *
    refine WD.ite (fun c=>?_) (fun c=>WD.inr ⟨s1,s2⟩)
    have c:=of_decide_eq_true c
    exact WD.bind (Dn hb s2) fun z z1=>WD.step (sv (by omega)) (WD.inl ⟨by simp only [List.length_append,List.length_cons,List.length_nil];omega,z1⟩ (by simp only [List.length_append,List.length_cons,List.length_nil];omega))
  refine WD.ite (fun _=>WD.bind (kG hb m1 (by decide)) fun y ⟨y1,_⟩=>WD.ret ⟨y1,ta,la,ow,tr,hp⟩) fun _=>?_
  exact WD.ite (fun _=>WD.bind (Dk hb m1) fun y y1=>WD.ret ⟨y1,ta,la,ow,tr,hp⟩) fun _=>WD.ret ⟨m1,ta,la,ow,tr,hp⟩
theorem zv {N:Nat} (hN:im≤N) {b:List U8} {i h:Int} (hb:b.length≤1048576) (hi:0≤i) (p:gE) (me:Int):WD (kZ N ⟨b,i,h⟩ p me) (fun r=>0≤r.2.i):=by
  unfold kZ
  dsimp only
  refine WD.bind (P:=fun j=>0≤j.2.1∧(j.1=false→(p.heap.ag.length:Int)=10)) ?_ fun j ⟨hj,hl⟩=>?_
  · refine WD.ite (fun _=>WD.ret ⟨hi,by simp⟩) fun c=>WD.bind (kS hb hi 15) fun y y1=>WD.ret ⟨y1,fun _=>by simpa using c⟩
  refine WD.ite (fun _=>WD.bind (FZ hb hj) fun y y1=>WD.ret y1) fun c=>?_
  have hl:=hl c
  refine WD.bind (iP hb hj 10 (by decide)) fun y ⟨y1,y2,y3⟩=>?_
  refine WD.bind (WD.loop (fun s=>0≤s.1∧s.1<10∧0≤s.2.1∧s.2.1≤4∧0≤s.2.2.1) (fun r=>0≤r.1∧r.1<10∧0≤r.2.2.1) (fun s=>(4 - s.2.1).toNat) ⟨y2,y3,Int.le_refl _,by simp,y1⟩ (qp hN (by simp)) ?_) fun r ⟨r1,r2,r3⟩=>?_
  · rintro ⟨k,n,i,h⟩ ⟨s1,s2,s3,s4,s5⟩
    dsimp only at *
    refine WD.bind (P:=fun j=>j=true→n<4) ?_ fun j hj=>WD.ite (fun c=>?_) fun _=>WD.inr ⟨s1,s2,s5⟩
    · refine WD.ite (fun c=>?_) fun _=>WD.ret (by simp)
      exact WD.bind (kg s1 (by omega)) fun y _=>WD.ret fun _=>of_decide_eq_true c
    · have:=hj c
      rw [iX (n:=n+1) (by omega) (by omega)]
      exact WD.bind (iP hb s5 10 (by decide)) fun y ⟨y1,y2,y3⟩=>WD.inl ⟨y2,y3,by dsimp only;omega,by dsimp only;omega,y1⟩ (by dsimp only;omega)
  · exact WD.bind (kg r1 (by omega)) fun z _=>WD.bind (kS hb r3 20) fun y y1=>WD.bind (P:=fun _=>True) (WD.ite (fun _=>WD.ret trivial) fun _=>WD.ret trivial) fun j _=>WD.step (tA _ _ _ _) (WD.ret y1)
theorem Df {N:Nat} (hN:im≤N) {b:List U8} {i h:Int} (hb:b.length≤1048576) (hi:0≤i) {p:gE} (hp:p.heap.ag.length≤1000000) (me k:Int):WD (mL N ⟨b,i,h⟩ p me k) (fun r=>0≤r.2.i):=by
  unfold mL
  dsimp only
  refine WD.bind (WD.loop (fun s=>0≤s.1∧s.1≤(p.heap.ag.length:Int)∧0≤s.2.1) (fun r=>Sum.elim (fun s=>0≤s.2.1) (fun r=>0≤r.2.i) r) (fun s=>((p.heap.ag.length:Int) - s.1).toNat) ⟨Int.le_refl _,by dsimp only;omega,hi⟩ (qp hN (by dsimp only;omega)) ?_) fun r hr=>?_
  · rintro ⟨k,i,h⟩ ⟨s1,s2,s3⟩
    dsimp only at *
    refine WD.ite (fun c=>?_) (fun c=>WD.inr s3)
    have c:=of_decide_eq_true c
    rw [iX (n:=k+1) (by omega) (by omega)]
    refine WD.bind (P:=fun j=>0≤j.2.1) ?_ fun j hj=>WD.ite (fun _=>?_) fun _=>WD.inl ⟨by dsimp only;omega,by dsimp only;omega,hj⟩ (by dsimp only;omega)
    · exact WD.bind (kg s1 c) fun y _=>WD.ite (fun _=>WD.bind (kS hb s3 2) fun z z1=>WD.ret z1) fun _=>WD.ret s3
    · exact WD.bind (kg s1 c) fun y _=>WD.step (tA _ _ _ _) (WD.inr hj)
  · cases r with
    | inl s =>
      simp only [Sum.elim_inl] at *
      exact WD.bind (zv hN hb hr _ _) fun y y1=>WD.ret y1
    | inr s =>
      simp only [Sum.elim_inr] at *
      exact WD.ret hr
theorem Ci {N:Nat} (hN:im≤N) {b:List U8} {i h:Int} (hb:b.length≤1048576) (hi:0≤i) {p:gE} (hp:p.heap.ag.length≤1000000) (me:Int):WD (o8 N ⟨b,i,h⟩ p me) (fun r=>0≤r.2.i):=by
  unfold o8
  dsimp only
  refine WD.bind (iP hb hi 17 (by decide)) fun k ⟨k1,_,_⟩=>WD.bind (kS hb k1 3) fun m m1=>WD.bind (P:=fun _=>True) (WD.ite (fun _=>WD.ret trivial) fun _=>WD.ret trivial) fun j _=>WD.bind (P:=fun j=>0≤j.1) ?_ fun j hj=>WD.bind (iP hb hj 40 (by decide)) fun n ⟨n1,_,_⟩=>WD.bind (P:=fun j=>0≤j.1) ?_ fun j hj=>WD.ret hj
  · repeat' first
      | exact WD.ret (by assumption)
      | exact WD.ret trivial
      | refine WD.ite (fun _=>?_) (fun _=>?_)
      | refine WD.bind (iP hb (by assumption) _ (by decide)) fun y ⟨_,_,_⟩=>?_
      | refine WD.bind (kG hb (by assumption) (by decide)) fun y ⟨_,_⟩=>?_
      | refine WD.bind (zv hN hb (by assumption) _ _) fun y _=>?_
      | refine WD.bind (Df hN hb (by assumption) hp _ _) fun y _=>?_
      | refine WD.bind (P:=fun (_:Bool)=>True) ?_ fun y _=>?_
  · repeat' first
      | exact WD.ret (by assumption)
      | refine WD.ite (fun _=>?_) (fun _=>?_)
      | refine WD.bind (kG hb (by assumption) (by decide)) fun y ⟨_,_⟩=>?_
theorem Bk (l:List bh) (now:Int) (h:iv) (k:Int):(kR l now h k).ag.length=h.ag.length:=by
  unfold kR m5
  split
  · rfl
  split
  · simp only [List.length_set]
  · rfl
theorem xG (l:List bh) (now:Int):∀ (e:List Int) (h:iv),(e.foldl (kR l now) h).ag.length=h.ag.length
  | [],_=>rfl
  | k::e,h=>by
    rw [List.foldl_cons,xG l now e,Bk]
theorem Au (h:iv) (now:Int):(sF h now).ag.length=h.ag.length:=by
  unfold sF
  split
  · rfl
  split
  · rfl
  · rw [xG]
    simp only [List.length_set]
theorem E6 (h:iv) (now:Int):(mw h now).1.ag.length=h.ag.length:=by
  unfold mw
  split
  · split
    · unfold px
      split
      · simp only [xQ,List.length_set,uk]
      · exact uk h now
    · exact Au h now
  · rfl
structure Lq (p:gE) (n:Nat):Prop where
  sz:jh p≤n
  w:wP p
  len:p.heap.ag.length=10
theorem Lq.call {p:gE} {n:Nat} (h:Lq p n) (hn:n≤1000000) (me now th:Int) (c:iS):Lq (nH p me now th c).1 (n+300):=by
  have h0:=h.sz
  obtain ⟨a,b⟩:=FN (p:=p) (by omega) h.w me now th c
  exact ⟨by omega,b,by rw [E2 (by omega) h.w];exact h.len⟩
theorem EY {p:gE} {n:Nat} (h:jh p≤n):jl iA p.heap.ag+p.heap.gc.ia.length≤n:=by
  unfold jh ox tj at h
  omega
theorem Lq.step {p:gE} {n:Nat} (h:Lq p n) (now:Int):Lq (lv p (mw p.heap now).1) (n+10):=by
  obtain ⟨a,b,c,_⟩:=xF (h:=p.heap) h.w now
  refine ⟨?_,b,by show (mw p.heap now).1.ag.length=10;rw [E6];exact h.len⟩
  have h0:=h.sz
  unfold jh ox tj at *
  show lA p.label+_≤_
  simp only [lv]
  omega
theorem Lq.run {N:Nat} (hN:im≤N) {p:gE} {n:Nat} (h:Lq p n) (hn:n≤1000000) (now:Int):nA N p.heap now=some (mw p.heap now):=by
  have h1:=EY h.sz
  have:(16777216:Nat)=im:=rfl
  exact A6 hN (by omega) h.w (by omega) now
theorem Lq.up {p:gE} {n m:Nat} (h:Lq p n) (hm:n≤m):Lq p m:=⟨Nat.le_trans h.sz hm,h.w,h.len⟩
theorem Lq.pw {p:gE} {n:Nat} (h:Lq p n) (hn:n≤20000):Pw p:=⟨Nat.le_trans h.sz hn,h.w⟩
theorem Lq.waits {p:gE} {n:Nat} (h:Lq p n) {x:Int} (hx:-9223372036854775808≤x):Lq (lv p (iv.mk (p.heap.ag.set (1:Int).toNat (waiting (nth p.heap.ag 1) x)) p.heap.gc)) n:=by
  have hl:=h.len
  have hs:jl iA (p.heap.ag.set (1:Int).toNat (waiting (nth p.heap.ag 1) x))=jl iA p.heap.ag:=nL (by decide) (by rw [hl];decide) rfl
  refine ⟨?_,kC h.w hx,by show (List.set _ _ _).length=10;rw [List.length_set];exact hl⟩
  have h0:=h.sz
  unfold jh ox tj at *
  simp only [lv,hs]
  exact h0
def pS (s:Int×Int×Int×(List Int)×(List Int)×(List iy)×(List bh)×Int×Int×Int×(List Int)×(List jy)×Int×Int×Int×Int×Int×Int×Int):gE:=gE.mk (jC.mk s.2.2.2.1) s.2.2.2.2.1 s.2.2.2.2.2.1 (iv.mk s.2.2.2.2.2.2.1 (jz.mk s.2.2.2.2.2.2.2.1 s.2.2.2.2.2.2.2.2.1 s.2.2.2.2.2.2.2.2.2.1 s.2.2.2.2.2.2.2.2.2.2.1)) s.2.2.2.2.2.2.2.2.2.2.2.1 s.2.2.2.2.2.2.2.2.2.2.2.2.1 s.2.2.2.2.2.2.2.2.2.2.2.2.2.1 (iB.mk s.2.2.2.2.2.2.2.2.2.2.2.2.2.2.1 s.2.2.2.2.2.2.2.2.2.2.2.2.2.2.2.1 s.2.2.2.2.2.2.2.2.2.2.2.2.2.2.2.2.1) s.2.2.2.2.2.2.2.2.2.2.2.2.2.2.2.2.2.1 s.2.2.2.2.2.2.2.2.2.2.2.2.2.2.2.2.2.2
def pJ (s:(List Int)×(List Int)×(List iy)×(List bh)×Int×Int×Int×(List Int)×(List jy)×Int×Int×Int×Int×Int×Int×Int×Int×Int):gE:=gE.mk (jC.mk s.1) s.2.1 s.2.2.1 (iv.mk s.2.2.2.1 (jz.mk s.2.2.2.2.1 s.2.2.2.2.2.1 s.2.2.2.2.2.2.1 s.2.2.2.2.2.2.2.1)) s.2.2.2.2.2.2.2.2.1 s.2.2.2.2.2.2.2.2.2.1 s.2.2.2.2.2.2.2.2.2.2.1 (iB.mk s.2.2.2.2.2.2.2.2.2.2.2.1 s.2.2.2.2.2.2.2.2.2.2.2.2.1 s.2.2.2.2.2.2.2.2.2.2.2.2.2.1) s.2.2.2.2.2.2.2.2.2.2.2.2.2.2.1 s.2.2.2.2.2.2.2.2.2.2.2.2.2.2.2.1
theorem GQ {b:jY} (h:kI b≤100):Lq (sN b) 120:=by
  refine ⟨by rw [vo];omega,fun o ho=>?_,rfl⟩
  have:∀ o ∈ Ap, -9223372036854775808≤o.wait:=by decide
  exact this o ho
theorem FX {N:Nat} (hN:im≤N) {b:List U8} {i h:Int} (hb:b.length≤1048576) (hi:0≤i) (me:Int):WD (qI N ⟨b,i,h⟩ me) (fun r=>0≤r.2.i∧Lq r.1 8000):=by
  unfold qI
  dsimp only
  refine WD.bind (B5 hN hb hi) fun q ⟨q1,q2,q3,_⟩=>WD.step (yN hN (by omega)) ?_
  rw [show oR q.1=(sN q.1,true) from by unfold oR;rw [if_pos q2]]
  refine WD.bind (iP hb q1 25 (by decide)) fun n ⟨n1,n2,n3⟩=>?_
  refine WD.bind (WD.loop (fun s=>0≤s.1∧s.1≤24∧0≤s.2.1∧Lq (pS s) (8000 - 310 * s.1.toNat)) (fun r=>0≤r.2.1∧Lq (pS r) 8000) (fun s=>s.1.toNat) ⟨n2,by dsimp only;omega,n1,(GQ q3).up (by dsimp only;omega)⟩ (qp hN (by dsimp only;omega)) ?_) fun r ⟨r1,r2⟩=>WD.ret ⟨r1,r2⟩
  rintro ⟨k,i,h,l,o,t,a,ph,po,ro,g,tp,nx,wa,sp,sr,sc,pr,lo⟩ ⟨s1,s2,s3,s4⟩
  dsimp only [pS] at *
  refine WD.ite (fun c=>?_) fun _=>WD.inr ⟨s3,s4.up (by omega)⟩
  have c:=of_decide_eq_true c
  rw [iX (n:=k - 1) (by omega) (by omega)]
  have ha:a.length=10:=s4.len
  refine WD.bind (P:=fun j=>0≤j.2.2.2.2.2.2.2.2.2.2.2.2.2.2.2.2.1∧Lq (pJ j) (8300 - 310 * k.toNat)) ?_ fun j hj=>?_
  · exact WD.bind (Ci hN hb s3 (by dsimp only;omega) _) fun y y1=>WD.step (Dd hN (Nat.le_trans s4.sz (by omega)) s4.w _ _ _ _) (WD.ret ⟨y1,(s4.call (by omega) _ _ _ _).up (by omega)⟩)
  obtain ⟨l,o,t,a,ph,po,ro,g,tp,nx,wa,sp,sr,sc,pr,lo,i,h⟩:=j
  obtain ⟨j1,j2⟩:=hj
  dsimp only [pJ] at *
  refine WD.bind (kS hb j1 3) fun y y1=>WD.bind (P:=fun (j:(List bh)×Int×Int×Int×(List Int))=>Lq (gE.mk (jC.mk l) o t (iv.mk j.1 (jz.mk j.2.1 j.2.2.1 j.2.2.2.1 j.2.2.2.2)) tp nx wa (iB.mk sp sr sc) pr lo) (8310 - 310 * k.toNat)) (WD.ite (fun _=>WD.step (j2.run hN (by omega) 3) (WD.ret ((j2.step 3).up (by omega)))) fun _=>WD.ret (j2.up (by omega))) fun j hj=>?_
  obtain ⟨a,ph,po,ro,g⟩:=j
  dsimp only at *
  have ha:a.length=10:=hj.len
  refine WD.bind (P:=fun j=>0≤j.2.1) ?_ fun m m1=>WD.ite (fun _=>?_) fun _=>WD.inl ⟨by dsimp only;omega,by dsimp only;omega,m1,hj.up (by dsimp only;omega)⟩ (by dsimp only;omega)
  · exact WD.bind (kg (by decide) (by omega)) fun z _=>WD.ite (fun _=>WD.bind (kS hb y1 2) fun u u1=>WD.ret u1) fun _=>WD.ret y1
  · exact WD.step (jj (by decide) (by omega)) (WD.step rfl (WD.inl ⟨by dsimp only;omega,by dsimp only;omega,m1,(hj.waits (x:=0) (by decide)).up (by dsimp only;omega)⟩ (by dsimp only;omega)))
theorem Hi {N:Nat} (hN:im≤N) {l:List U8} (hl:l.length≤1048576):WD (rp N l) (fun r=>0≤r.i):=by
  obtain ⟨h,e⟩:=HE hN hl
  exact ⟨_,e,Int.le_refl _⟩
theorem Pw.waits {p:gE} (h:Pw p) (hl:(p.heap.ag.length:Int)=10) {x:Int} (hx:-9223372036854775808≤x):Pw (lv p (iv.mk (p.heap.ag.set (1:Int).toNat (waiting (nth p.heap.ag 1) x)) p.heap.gc)) :=
  (Lq.waits (n:=20000) ⟨h.1,h.2,by omega⟩ hx).pw (by decide)
end Go.Kx
