/- Plain laws: drawn parts come to an end, and are small. No program in sight. -/
import Derived.Test.YtdlodpchnaojhaaGreatLCall
import Derived.Test.YtdlodpchnaojhaaGreatLReach
import Derived.Test.YtdlodpchnaojhaaGreatLCollect
import Derived.Test.YtdlodpchnaojhaaGreatLBoot
namespace Go.Kx
open Go
set_option linter.unusedVariables false
set_option linter.unusedSimpArgs false
set_option maxRecDepth 10000
def WD {α:Type} (o:Option α) (Q:α→Prop):Prop:=∃ a,o=some a∧Q a
theorem WD.bind {α β:Type} {o:Option α} {f:α→Option β} {P:α→Prop} {Q:β→Prop} (h:WD o P) (k:∀ a,P a→WD (f a) Q):WD (o.bind f) Q:=by
  obtain ⟨a,rfl,ha⟩:=h
  exact k a ha
theorem WD.step {α β:Type} {o:Option α} {a:α} {f:α→Option β} {Q:β→Prop} (e:o=some a) (k:WD (f a) Q):WD (o.bind f) Q:=by
  rw [e];exact k
theorem WD.ite {α:Type} {c:Bool} {a b:Option α} {Q:α→Prop} (h1:c=true→WD a Q) (h2:c=false→WD b Q):WD (bif c then a else b) Q:=by
  cases c
  · exact h2 rfl
  · exact h1 rfl
theorem WD.ret {α:Type} {a:α} {Q:α→Prop} (h:Q a):WD (some a) Q:=⟨a,rfl,h⟩
theorem WD.mono {α:Type} {o:Option α} {P Q:α→Prop} (h:WD o P) (k:∀ a,P a→Q a):WD o Q:=by
  obtain ⟨a,e,ha⟩:=h
  exact ⟨a,e,k a ha⟩
def KE {σ ρ:Type} (I:σ→Prop) (J:ρ→Prop) (μ:σ→Nat) (m:Nat) (o:σ⊕ρ):Prop:=(∀ s',o=.inl s'→I s'∧μ s'<m)∧∀ r,o=.inr r→J r
theorem WD.inl {σ ρ:Type} {I:σ→Prop} {J:ρ→Prop} {μ:σ→Nat} {m:Nat} {s:σ} (h1:I s) (h2:μ s<m):WD (some (.inl s:σ⊕ρ)) (KE I J μ m) :=
  ⟨_,rfl,fun s' e=>by cases Sum.inl.inj e;exact ⟨h1,h2⟩,fun r e=>by cases e⟩
theorem WD.inr {σ ρ:Type} {I:σ→Prop} {J:ρ→Prop} {μ:σ→Nat} {m:Nat} {r:ρ} (h:J r):WD (some (.inr r:σ⊕ρ)) (KE I J μ m) :=
  ⟨_,rfl,fun s' e=>by (cases e),fun r e=>by cases Sum.inr.inj e;exact h⟩
theorem WD.loop {σ ρ:Type} {body:σ→Option (σ⊕ρ)} (I:σ→Prop) (J:ρ→Prop) (μ:σ→Nat) {N:Nat} {s:σ} (h0:I s) (hN:μ s<N) (h:∀ s,I s→WD (body s) (KE I J μ (μ s))):WD (iter body N s) J :=
  vV I J μ (fun s hs=>by obtain ⟨o,ho,h1,h2⟩:=h s hs;exact ⟨o,ho,h1,h2⟩) N s h0 hN
theorem rn {N n:Nat} (hN:im≤N) (h:n<16777216):n<N:=Nat.lt_of_lt_of_le h hN
theorem iX {N:Nat} {b:List U8} {i h:Int} (hb:b.length≤1048576) (hi:0≤i) (n:Int) (hn:0<n):WD (iv N ⟨b,i,h⟩ n) (fun r=>0≤r.2.i∧0≤r.1∧r.1<n):=by
  obtain ⟨x,i',h',e,a1,a2,a3,_⟩:=sy (N:=N) (c:=⟨b,i,h⟩) ⟨hb,hi⟩ n
  exact ⟨_,e,a1,a2,a3 hn⟩
theorem mx {N:Nat} {b:List U8} {i h:Int} (hb:b.length≤1048576) (hi:0≤i) (n:Int):WD (jQ N ⟨b,i,h⟩ n) (fun r=>0≤r.2.i):=by
  obtain ⟨x,i',h',e,a1⟩:=BP (N:=N) (c:=⟨b,i,h⟩) ⟨hb,hi⟩ n
  exact ⟨_,e,a1⟩
theorem lP {N:Nat} {b:List U8} {i h:Int} (hb:b.length≤1048576) (hi:0≤i) {l:List Int} (hl:0<l.length):WD (jd N ⟨b,i,h⟩ l) (fun r=>0≤r.2.i∧r.1 ∈ l):=by
  obtain ⟨x,i',h',e,a1,a2⟩:=xe (N:=N) (c:=⟨b,i,h⟩) ⟨hb,hi⟩ hl
  exact ⟨_,e,a1,a2⟩
theorem lq {α:Type} {l:List α} {i:Int} (h0:0≤i) (h1:i<(l.length:Int)):WD (idx l i) (fun y=>y ∈ l):=by
  obtain ⟨y,e,hy⟩:=xd h0 h1
  exact ⟨y,e,hy⟩
theorem GW {α:Type} {l:List α} {k:Int} (h0:0≤k) (h1:k≤(l.length:Int)):WD (sub l 0 k) (fun r=>r.length≤l.length∧∀ y,y ∈ r→y ∈ l):=by
  refine ⟨(l.drop (0:Int).toNat).take (k.toNat - (0:Int).toNat),by unfold sub;rw [if_pos ⟨Int.le_refl _,h0,h1⟩],?_,fun y hy=>?_⟩
  · simp only [List.length_take,List.length_drop];omega
  · exact List.mem_of_mem_drop (List.mem_of_mem_take hy)
theorem CK {N:Nat} (hN:im≤N) {b:List U8} {i h:Int} (hb:b.length≤1048576) (hi:0≤i):WD (nj N ⟨b,i,h⟩) (fun r=>0≤r.2.i∧kc r.1=true):=by
  obtain ⟨x,i',h',e,a1,a2,a3⟩:=Ez (N:=N) hN (c:=⟨b,i,h⟩) ⟨hb,hi⟩
  refine ⟨_,e,a1,?_⟩
  unfold kc
  simp only [Bool.and_eq_true,beq_iff_eq,List.all_eq_true,i7]
  exact ⟨by omega,a3⟩
theorem J0 {N:Nat} (hN:im≤N) {b:List U8} {i h:Int} (hb:b.length≤1048576) (hi:0≤i):WD (sM N ⟨b,i,h⟩) (fun r=>0≤r.2.i∧r.1.length≤5):=by
  obtain ⟨x,i',h',e,a1,a2⟩:=K9 (N:=N) hN (c:=⟨b,i,h⟩) ⟨hb,hi⟩
  exact ⟨_,e,a1,a2⟩
theorem Gy {N:Nat} {b:List U8} {i h:Int} (hb:b.length≤1048576) (hi:0≤i):WD (sF N ⟨b,i,h⟩) (fun r=>0≤r.2.i):=by
  obtain ⟨x,i',h',e,a1⟩:=KO (N:=N) (c:=⟨b,i,h⟩) ⟨hb,hi⟩
  exact ⟨_,e,a1⟩
theorem Da {N:Nat} (hN:im≤N) {b:List U8} {i h:Int} (hb:b.length≤1048576) (hi:0≤i):WD (ss N ⟨b,i,h⟩) (fun r=>0≤r.2.i∧r.1.levels.length≤5):=by
  obtain ⟨x,i',h',e,a1,a2⟩:=Fo (N:=N) hN (c:=⟨b,i,h⟩) ⟨hb,hi⟩
  exact ⟨_,e,a1,a2⟩
theorem sQ {l:j7} (h:kc l=true):l.levels.length=4:=by
  unfold kc at h
  simp only [Bool.and_eq_true,beq_iff_eq] at h
  omega
theorem Em {N:Nat} (hN:im≤N) {b:List U8} {i h:Int} (hb:b.length≤1048576) (hi:0≤i):WD (pH N ⟨b,i,h⟩) (fun r=>0≤r.2.i∧Be r.1=true∧lp r.1≤100∧(0≤r.1.j9.bh∧r.1.j9.bh≤1000)∧(0≤r.1.j9.ib∧r.1.j9.ib≤1000)∧(0≤r.1.j9.ik∧r.1.j9.ik≤1000)):=by
  unfold pH
  dsimp only
  refine WD.bind (CK hN hb hi) fun l ⟨l1,l2⟩=>WD.bind (iX hb l1 25 (by decide)) fun x ⟨x1,x2,x3⟩=>WD.bind (iX hb x1 900 (by decide)) fun y ⟨y1,y2,y3⟩=>WD.bind (iX hb y1 60 (by decide)) fun z ⟨z1,z2,z3⟩=>WD.ret ⟨z1,?_,?_,⟨by dsimp only;omega,by dsimp only;omega⟩,⟨by dsimp only;omega,by dsimp only;omega⟩,⟨by dsimp only;omega,by dsimp only;omega⟩⟩
  · unfold Be iY wV
    simp only [Bool.and_eq_true,i7]
    exact ⟨⟨by omega,by omega,by omega⟩,l2,rfl⟩
  · have:=sQ l2
    unfold lp my
    simp only [List.length_nil]
    omega
theorem DU {N:Nat} {b:List U8} {i h:Int} (hb:b.length≤1048576) (hi:0≤i):WD (so N ⟨b,i,h⟩) (fun r=>0≤r.2.i∧iY r.1=true):=by
  unfold so
  dsimp only
  refine WD.bind (iX hb hi 40 (by decide)) fun x ⟨x1,x2,x3⟩=>WD.bind (iX hb x1 400 (by decide)) fun y ⟨y1,y2,y3⟩=>WD.bind (iX hb y1 60 (by decide)) fun z ⟨z1,z2,z3⟩=>WD.ret ⟨z1,?_⟩
  unfold iY wV
  simp only [Bool.and_eq_true,i7]
  omega
theorem EB {N:Nat} (hN:im≤N) {b:List U8} {i h:Int} (hb:b.length≤1048576) (hi:0≤i):WD (qV N ⟨b,i,h⟩) (fun r=>0≤r.2.i∧r.1.length=5):=by
  unfold qV
  dsimp only
  refine WD.bind (DU hb hi) fun y ⟨h1,h2⟩=>WD.step (A5 _ _) ?_
  rw [if_pos h2]
  refine WD.bind (iX hb h1 7 (by decide)) fun n ⟨n1,n2,n3⟩=>?_
  refine WD.bind (WD.loop (fun s=>s.1.length=5∧0≤s.2.1∧s.2.1≤6∧0≤s.2.2.1) (fun r=>r.1.length=5∧0≤r.2.2.1) (fun s=>s.2.1.toNat) ⟨rfl,n2,by dsimp only;omega,n1⟩ (rn hN (by dsimp only;omega)) ?_) fun r ⟨r1,r2⟩=>WD.ret ⟨r2,r1⟩
  rintro ⟨t,k,i,h⟩ ⟨s1,s2,s3,s4⟩
  dsimp only at *
  refine WD.ite (fun c=>?_) (fun c=>WD.inr ⟨s1,s4⟩)
  have c:=of_decide_eq_true c
  have hB:(16777216:Nat)=im:=rfl
  rw [iI (n:=k - 1) (by omega) (by omega)]
  refine WD.bind (iX hb s4 5 (by decide)) fun y ⟨y1,y2,y3⟩=>WD.bind (mx hb y1 4) fun z z1=>WD.ite (fun _=>?_) (fun _=>?_)
  · exact WD.step (zB hN (by omega) _) (WD.inl ⟨by dsimp only;rw [xI];exact s1,by dsimp only;omega,by dsimp only;omega,z1⟩ (by dsimp only;omega))
  · refine WD.bind (iX hb z1 8 (by decide)) fun u ⟨u1,_,_⟩=>WD.bind (iX hb u1 50 (by decide)) fun v ⟨v1,_,_⟩=>WD.bind (iX hb v1 9 (by decide)) fun w ⟨w1,_,_⟩=>?_
    exact WD.step (yj hN (by omega) _ _) (WD.inl ⟨by dsimp only;rw [wU];exact s1,by dsimp only;omega,by dsimp only;omega,w1⟩ (by dsimp only;omega))
theorem EO {N:Nat} (hN:im≤N) {b:List U8} {i h:Int} (hb:b.length≤1048576) (hi:0≤i):WD (tZ N ⟨b,i,h⟩) (fun r=>0≤r.2.i∧r.1.length≤5):=by
  unfold tZ
  dsimp only
  refine WD.bind (EB hN hb hi) fun t ⟨t1,t2⟩=>WD.bind (iX hb t1 _ (by omega)) fun k ⟨k1,k2,k3⟩=>WD.bind (iX hb k1 20 (by decide)) fun m ⟨m1,_,_⟩=>?_
  refine WD.ite (fun _=>WD.bind (GW k2 (by omega)) fun r ⟨r1,_⟩=>WD.ret ⟨m1,by dsimp only;omega⟩) fun _=>?_
  refine WD.ite (fun _=>WD.bind (iX hb m1 7 (by decide)) fun y ⟨y1,_,_⟩=>WD.bind (lq k2 k3) fun z _=>WD.step rfl (WD.ret ⟨y1,by simp only [List.length_set];omega⟩)) fun _=>?_
  refine WD.ite (fun _=>WD.bind (lq k2 k3) fun z _=>WD.step rfl (WD.ret ⟨m1,by simp only [List.length_set];omega⟩)) fun _=>?_
  exact WD.ite (fun _=>WD.bind (lP hb m1 (by decide)) fun y ⟨y1,_⟩=>WD.bind (lq k2 k3) fun z _=>WD.step rfl (WD.ret ⟨y1,by simp only [List.length_set];omega⟩)) fun _=>WD.ret ⟨m1,by dsimp only;omega⟩
theorem GA {N:Nat} {b:List U8} {i h:Int} (hb:b.length≤1048576) (hi:0≤i):WD (sG N ⟨b,i,h⟩) (fun r=>0≤r.2.i):=by
  unfold sG
  dsimp only
  refine WD.bind (iX hb hi 5 (by decide)) fun a ⟨a1,_,_⟩=>WD.bind (iX hb a1 3 (by decide)) fun b ⟨b1,_,_⟩=>WD.bind (iX hb b1 5 (by decide)) fun c ⟨c1,_,_⟩=>WD.bind (iX hb c1 3 (by decide)) fun d ⟨d1,_,_⟩=>WD.bind (iX hb d1 2 (by decide)) fun e ⟨e1,_,_⟩=>WD.bind (iX hb e1 30 (by decide)) fun f ⟨f1,_,_⟩=>WD.bind (iX hb f1 20 (by decide)) fun g ⟨g1,_,_⟩=>WD.bind (P:=fun j=>0≤j.1) ?_ fun j hj=>WD.ret hj
  repeat' first
    | exact WD.ret (by assumption)
    | refine WD.ite (fun _=>?_) (fun _=>?_)
    | refine WD.bind (lP hb (by assumption) (by decide)) fun y ⟨_,_⟩=>?_
theorem Jg {N:Nat} {b:List U8} {i h:Int} (hb:b.length≤1048576) (hi:0≤i):WD (uj N ⟨b,i,h⟩) (fun r=>0≤r.2.i):=by
  unfold uj
  dsimp only
  exact WD.bind (mx hb hi 8) fun y y1=>WD.ite (fun _=>WD.bind (lP hb y1 (by decide)) fun z ⟨z1,_⟩=>WD.ret z1) fun _=>WD.bind (iX hb y1 400 (by decide)) fun z ⟨z1,_,_⟩=>WD.ret z1
def Ob (o:cd):Prop:=mO o∧iz o≤12
theorem JA {N:Nat} (hN:im≤N) {b:List U8} {i h:Int} (hb:b.length≤1048576) (hi:0≤i) {l:List cd} (hl:l.length≤100):WD (ue N ⟨b,i,h⟩ l) (fun r=>0≤r.2.i∧Ob r.1∧r.1.il.length=2):=by
  unfold ue
  dsimp only
  refine WD.bind (WD.loop (fun s=>0<s.1.length∧(s.1.length:Int)≤1+2 * s.2∧0≤s.2∧s.2≤(l.length:Int)) (fun r=>0<r.1.length) (fun s=>((l.length:Int) - s.2).toNat) ⟨by decide,by decide,by decide,by dsimp only;omega⟩ (rn hN (by dsimp only;omega)) ?_) fun o o1=>?_
  · rintro ⟨t,k⟩ ⟨s1,s2,s3,s4⟩
    dsimp only at *
    refine WD.ite (fun c=>?_) (fun c=>WD.inr s1)
    have c:=of_decide_eq_true c
    rw [iI (n:=k+1) (by omega) (by omega)]
    have hB:(16777216:Nat)=im:=rfl
    refine WD.bind (lq s3 c) fun y _=>WD.ite (fun _=>?_) fun _=>WD.inl ⟨s1,by dsimp only;omega,by dsimp only;omega,by dsimp only;omega⟩ (by dsimp only;omega)
    have e:app t ([k,k]:List Int)=some (t++[k,k]):=by
      unfold app
      rw [if_pos (by simp only [List.length_cons,List.length_nil];omega)]
    exact WD.step e (WD.inl ⟨by simp,by simp only [List.length_append,List.length_cons,List.length_nil];omega,by dsimp only;omega,by dsimp only;omega⟩ (by dsimp only;omega))
  refine WD.bind (iX hb hi 4 (by decide)) fun k ⟨k1,k2,k3⟩=>WD.bind (lP hb k1 o1) fun x ⟨x1,_⟩=>WD.bind (iX hb x1 5 (by decide)) fun y ⟨y1,_,_⟩=>WD.bind (iX hb y1 30 (by decide)) fun z ⟨z1,_,_⟩=>WD.bind (iX hb z1 4 (by decide)) fun p ⟨p1,p2,p3⟩=>WD.bind (mx hb p1 3) fun m m1=>?_
  refine WD.bind (WD.loop (fun s=>s.1.length=2∧0≤s.2.1∧s.2.1≤2∧0≤s.2.2.1) (fun r=>r.1.length=2∧0≤r.2.2.1) (fun s=>(2 - s.2.1).toNat) ⟨rfl,by simp,by simp,m1⟩ (rn hN (by simp)) ?_) fun q ⟨q1,q2⟩=>?_
  · rintro ⟨t,k,i,h⟩ ⟨s1,s2,s3,s4⟩
    dsimp only at *
    refine WD.ite (fun c=>?_) (fun c=>WD.inr ⟨s1,s4⟩)
    have c:=of_decide_eq_true c
    rw [iI (n:=k+1) (by omega) (by omega)]
    refine WD.bind (mx hb s4 3) fun y y1=>WD.ite (fun _=>?_) fun _=>WD.inl ⟨s1,by dsimp only;omega,by dsimp only;omega,y1⟩ (by dsimp only;omega)
    refine WD.bind (lP hb y1 o1) fun z ⟨z1,_⟩=>WD.bind (lq s2 (by omega)) fun w _=>WD.step rfl (WD.inl ⟨by simp only [List.length_set];exact s1,by dsimp only;omega,by dsimp only;omega,z1⟩ (by dsimp only;omega))
  refine WD.bind (P:=fun j=>0≤j.1∧0≤j.2.2.1∧j.2.2.2.2.2.1.length≤3∧j.2.2.2.2.2.2.length≤2) ?_ fun j ⟨j1,j2,j3,j4⟩=>WD.ret ⟨j1,⟨?_,?_⟩,q1⟩
  · refine WD.ite (fun _=>?_) fun _=>WD.ite (fun _=>?_) fun _=>WD.ite (fun _=>?_) fun _=>WD.ret ⟨q2,by simp,by simp,by simp⟩
    · refine WD.bind (WD.loop (fun s=>0≤s.1∧s.1≤p.1∧0≤s.2.1∧(s.2.2.2.length:Int)≤s.1) (fun r=>0≤r.2.1∧r.2.2.2.length≤3) (fun s=>(p.1 - s.1).toNat) ⟨by simp,p2,q2,by simp⟩ (rn hN (by dsimp only;omega)) ?_) fun r ⟨r1,r2⟩=>WD.ret ⟨r1,by simp,r2,by simp⟩
      rintro ⟨k,i,h,t⟩ ⟨s1,s2,s3,s4⟩
      dsimp only at *
      refine WD.ite (fun c=>?_) (fun c=>WD.inr ⟨s3,by dsimp only;omega⟩)
      have c:=of_decide_eq_true c
      rw [iI (n:=k+1) (by omega) (by omega)]
      exact WD.bind (iX hb s3 100 (by decide)) fun y ⟨y1,_,_⟩=>WD.step (uv (by omega)) (WD.inl ⟨by dsimp only;omega,by dsimp only;omega,y1,by simp only [List.length_append,List.length_cons,List.length_nil];omega⟩ (by dsimp only;omega))
    · refine WD.bind (iX hb q2 3 (by decide)) fun n ⟨n1,n2,n3⟩=>?_
      refine WD.bind (WD.loop (fun s=>0≤s.1∧0≤s.2.1∧(s.2.2.2.length:Int)+s.1≤2) (fun r=>0≤r.2.1∧r.2.2.2.length≤2) (fun s=>s.1.toNat) ⟨n2,n1,by simp only [List.length_nil];omega⟩ (rn hN (by dsimp only;omega)) ?_) fun r ⟨r1,r2⟩=>WD.ret ⟨r1,by simp,by simp,r2⟩
      rintro ⟨k,i,h,t⟩ ⟨s1,s3,s4⟩
      dsimp only at *
      refine WD.ite (fun c=>?_) (fun c=>WD.inr ⟨s3,by dsimp only;omega⟩)
      have c:=of_decide_eq_true c
      rw [iI (n:=k - 1) (by omega) (by omega)]
      exact WD.bind (lP hb s3 (by decide)) fun z ⟨z1,_⟩=>WD.bind (iX hb z1 50 (by decide)) fun y ⟨y1,_,_⟩=>WD.step (uv (by omega)) (WD.inl ⟨by dsimp only;omega,y1,by simp only [List.length_append,List.length_cons,List.length_nil];omega⟩ (by dsimp only;omega))
    · refine WD.bind (lP hb q2 (by decide)) fun w ⟨w1,w2⟩=>WD.bind (iX hb w1 9 (by decide)) fun y ⟨y1,_,_⟩=>WD.bind (iX hb y1 5 (by decide)) fun z ⟨z1,_,_⟩=>WD.ret ⟨z1,?_,by simp,by simp⟩
      have:∀ x ∈ ([0,0,7,34]:List Int),0≤x:=by decide
      exact this _ w2
  · unfold mO;dsimp only;omega
  · unfold iz;dsimp only;omega
structure Aq (l:List cd):Prop where
  len:l.length=10
  ob:∀ o,o ∈ l→Ob o∧(o.kind ≠ 0→o.il.length=2)
theorem Aq.w {l:List cd} (h:Aq l):wA l:=fun o ho=>(h.ob o ho).1.1
theorem Aq.sz {l:List cd} (h:Aq l):jo iz l≤130:=by
  have:=tJ (f:=iz) (c:=12) fun y hy=>(h.ob y hy).1.2
  have:=h.len
  unfold jo
  omega
theorem Aq.z7 {l:List cd} (h:Aq l):jo iz l<im:=by
  have:=h.sz
  have:(16777216:Nat)=im:=rfl
  omega
theorem Aq.set {l:List cd} (h:Aq l) {o:cd} (k:Nat) (h1:Ob o) (h2:o.kind ≠ 0→o.il.length=2):Aq (l.set k o):=by
  refine ⟨by rw [List.length_set];exact h.len,fun y hy=>?_⟩
  rcases List.mem_or_eq_of_mem_set hy with q | rfl
  · exact h.ob y q
  · exact ⟨h1,h2⟩
theorem Aq.new:Aq qu:=by
  refine ⟨rfl,fun o ho=>?_⟩
  have h:∀ o ∈ qu, -9223372036854775808≤o.wait∧iz o≤12∧(o.kind ≠ 0→o.il.length=2):=by decide
  obtain ⟨a,b,c⟩:=h o ho
  exact ⟨⟨a,b⟩,c⟩
theorem Aq.free {l:List cd} (h:Aq l) (i:Int):Aq (k7 l i).1:=by
  unfold k7
  split
  · have h1:=h.set (o:=blank (nth l i).gen) i.toNat ⟨D4 _,by show (0:Nat)≤12;decide⟩ (fun h=>absurd rfl h)
    refine ⟨by simp only [List.length_map];exact h1.len,fun y hy=>?_⟩
    obtain ⟨o,ho,rfl⟩:=List.mem_map.1 hy
    obtain ⟨⟨a,b⟩,c⟩:=h1.ob o ho
    refine ⟨⟨IF a,by rw [GS];exact b⟩,?_⟩
    unfold oo
    split
    · exact c
    · simp only [List.length_map];exact c
  · exact h
theorem GX (l:List cd) (o:cd) (k:Nat) (x:cd):(putAt l o k x).1=l∨∃ (j:Nat) (g:Int),(putAt l o k x).1=l.set j (mj o g):=by
  unfold putAt
  split
  · exact .inr ⟨_,_,rfl⟩
  · exact .inl rfl
theorem A1 (l:List cd) (o:cd):∀ (m:List cd) (k:Nat),(tU l o k m).1=l∨∃ (j:Nat) (g:Int),(tU l o k m).1=l.set j (mj o g)
  | [],_=>.inl rfl
  | x::m,k=>by
    unfold tU
    split
    · exact A1 l o m (k+1)
    · exact GX l o k x
theorem JG (l:List cd) (o:cd):(k8 l o).1=l∨∃ (j:Nat) (g:Int),(k8 l o).1=l.set j (mj o g):=by
  unfold k8
  split
  · exact A1 l o _ _
  · exact .inl rfl
theorem Aq.put {l:List cd} (h:Aq l) {o:cd} (h1:Ob o) (h2:o.il.length=2):Aq (k8 l o).1:=by
  rcases JG l o with e | ⟨j,g,e⟩
  · rw [e];exact h
  · rw [e];exact h.set j ⟨wM h1.1,h1.2⟩ fun _=>h2
theorem C5 {N:Nat} (hN:im≤N) {b:List U8} {i h:Int} (hb:b.length≤1048576) (hi:0≤i):WD (pB N ⟨b,i,h⟩) (fun r=>0≤r.2.i∧Aq r.1):=by
  unfold pB
  dsimp only
  refine WD.step (zo _) (WD.bind (iX hb hi 14 (by decide)) fun n ⟨n1,n2,n3⟩=>?_)
  refine WD.bind (WD.loop (fun s=>Aq s.1∧0≤s.2.1∧s.2.1≤13∧0≤s.2.2.1) (fun r=>Aq r.1∧0≤r.2.2.1) (fun s=>s.2.1.toNat) ⟨Aq.new,n2,by dsimp only;omega,n1⟩ (rn hN (by dsimp only;omega)) ?_) fun r ⟨r1,r2⟩=>?_
  · rintro ⟨t,k,i,h⟩ ⟨s1,s2,s3,s4⟩
    dsimp only at *
    refine WD.ite (fun c=>?_) (fun c=>WD.inr ⟨s1,s4⟩)
    have c:=of_decide_eq_true c
    rw [iI (n:=k - 1) (by omega) (by omega)]
    refine WD.bind (mx hb s4 5) fun y y1=>WD.ite (fun _=>?_) fun _=>?_
    · exact WD.bind (iX hb y1 10 (by decide)) fun z ⟨z1,_,_⟩=>WD.step (yv hN s1.z7 s1.w _) (WD.inl ⟨s1.free _,by dsimp only;omega,by dsimp only;omega,z1⟩ (by dsimp only;omega))
    · refine WD.bind (JA hN hb y1 (by rw [s1.len];decide)) fun o ⟨o1,o2,o3⟩=>?_
      exact WD.step (wQ hN s1.z7 s1.w (by have:=o2.2;omega) o2.1) (WD.inl ⟨s1.put o2 o3,by dsimp only;omega,by dsimp only;omega,o1⟩ (by dsimp only;omega))
  refine WD.bind (WD.loop (fun s=>Aq s.1∧0≤s.2.1∧s.2.1≤10∧0≤s.2.2.1) (fun r=>Aq r.1∧0≤r.2.2.1) (fun s=>(10 - s.2.1).toNat) ⟨r1,by simp,by simp,r2⟩ (rn hN (by simp)) ?_) fun q ⟨q1,q2⟩=>WD.ret ⟨q2,q1⟩
  rintro ⟨t,k,i,h⟩ ⟨s1,s2,s3,s4⟩
  dsimp only at *
  have hl:=s1.len
  refine WD.ite (fun c=>?_) (fun c=>WD.inr ⟨s1,s4⟩)
  have c:=of_decide_eq_true c
  have e:IntKind.i64.wrap (k+1)=k+1:=iI (by omega) (by omega)
  rw [e]
  refine WD.bind (P:=fun j=>0≤j.2.1∧(j.1=true→(nth t k).kind ≠ 0)) ?_ fun j ⟨j1,j2⟩=>WD.ite (fun cj=>?_) fun _=>WD.inl ⟨s1,by dsimp only;omega,by dsimp only;omega,j1⟩ (by dsimp only;omega)
  · refine WD.step (jC s2 c) (WD.ite (fun ck=>WD.bind (mx hb s4 4) fun y y1=>WD.ret ⟨y1,fun _=>by simpa using ck⟩) fun _=>WD.ret ⟨s4,by simp⟩)
  · have hk:=j2 cj
    obtain ⟨⟨w1,w2⟩,w3⟩:=s1.ob _ (kT s2 c)
    have w3:=w3 hk
    refine WD.bind (iX hb j1 _ (by omega)) fun y ⟨y1,y2,y3⟩=>WD.bind (lq y2 y3) fun z _=>WD.ite (fun _=>?_) fun _=>WD.inl ⟨s1,by dsimp only;omega,by dsimp only;omega,y1⟩ (by dsimp only;omega)
    refine WD.step (jC s2 c) (WD.bind (iX hb y1 2 (by decide)) fun v ⟨v1,v2,v3⟩=>WD.bind (lq v2 (by omega)) fun u _=>WD.step rfl (WD.inl ⟨s1.set _ ⟨w1,?_⟩ fun _=>?_,by dsimp only;omega,by dsimp only;omega,v1⟩ (by dsimp only;omega)))
    · unfold iz at *
      simp only [List.length_set]
      exact w2
    · simp only [List.length_set];exact w3
structure Aw (l:List cd):Prop where
  w:wA l
  sz:jo iz l≤200
theorem Aq.aw {l:List cd} (h:Aq l):Aw l:=⟨h.w,Nat.le_trans h.sz (by decide)⟩
theorem Aq.Af {l:List cd} (h:Aq l) {o:cd} (k:Nat) (h1:mO o) (h2:iz o≤20):Aw (l.set k o):=⟨kL h.w h1,Nat.le_trans uQ (by have:=h.sz;omega)⟩
theorem DP {N:Nat} (hN:im≤N) {b:List U8} {i h:Int} (hb:b.length≤1048576) (hi:0≤i):WD (ui N ⟨b,i,h⟩) (fun r=>0≤r.2.i∧Aw r.1):=by
  unfold ui
  dsimp only
  refine WD.bind (C5 hN hb hi) fun l ⟨l1,l2⟩=>?_
  have hl:=l2.len
  refine WD.bind (iX hb l1 _ (by omega)) fun k ⟨k1,k2,k3⟩=>WD.bind (iX hb k1 24 (by decide)) fun m ⟨m1,_,_⟩=>?_
  have hw:∀ y ∈ l.1,mO y∧iz y≤12:=fun y hy=>(l2.ob y hy).1
  refine WD.ite (fun _=>WD.bind (GW k2 (by omega)) fun r ⟨r1,r2⟩=>WD.ret ⟨m1,?_,?_⟩) fun _=>?_
  · exact fun o ho=>l2.w o (r2 o ho)
  · have:=tJ (f:=iz) (c:=12) (l:=r) fun y hy=>(hw y (r2 y hy)).2
    unfold jo
    dsimp only
    omega
  refine WD.ite (fun _=>WD.bind (lP hb m1 (by decide)) fun y ⟨y1,_⟩=>WD.bind (lq k2 k3) fun z hz=>WD.step rfl (WD.ret ⟨y1,l2.Af _ (hw z hz).1 (Nat.le_trans (hw z hz).2 (by decide))⟩)) fun _=>?_
  refine WD.ite (fun _=>WD.bind (iX hb m1 6 (by decide)) fun y ⟨y1,_,_⟩=>WD.bind (lq k2 k3) fun z hz=>WD.step rfl (WD.ret ⟨y1,l2.Af _ (hw z hz).1 (Nat.le_trans (hw z hz).2 (by decide))⟩)) fun _=>?_
  refine WD.ite (fun _=>WD.bind (lP hb m1 (by decide)) fun y ⟨y1,_⟩=>WD.bind (lq k2 k3) fun z hz=>WD.step rfl (WD.ret ⟨y1,l2.Af _ (hw z hz).1 (Nat.le_trans (hw z hz).2 (by decide))⟩)) fun _=>?_
  refine WD.ite (fun _=>WD.bind (lq k2 k3) fun z hz=>?_) fun _=>?_
  · have h2:=(hw z hz).2
    have h3:z.il.length≤12:=by unfold iz at h2;omega
    refine WD.step (uv (by omega)) (WD.ret ⟨m1,l2.Af _ (hw z hz).1 ?_⟩)
    unfold iz at *
    simp only [List.length_append,List.length_cons,List.length_nil]
    omega
  refine WD.ite (fun _=>WD.bind (lP hb m1 (by decide)) fun y ⟨y1,_⟩=>WD.bind (lq k2 k3) fun z hz=>WD.step rfl (WD.ret ⟨y1,l2.Af _ (hw z hz).1 (Nat.le_trans (hw z hz).2 (by decide))⟩)) fun _=>?_
  refine WD.ite (fun _=>WD.bind (lP hb m1 (by decide)) fun y ⟨y1,y2⟩=>WD.bind (lq k2 k3) fun z hz=>WD.step rfl (WD.ret ⟨y1,l2.Af _ ?_ (Nat.le_trans (hw z hz).2 (by decide))⟩)) fun _=>WD.ret ⟨m1,l2.aw⟩
  have:∀ x ∈ ([-1,30000,30001,1]:List Int), -9223372036854775808≤x:=by decide
  exact this _ y2
structure Hw (h:iA) (n:Nat):Prop where
  a:Aw h.ag
  g:h.gc.ia.length≤n
theorem Hw.step {h:iA} {n:Nat} (q:Hw h n) (now:Int):Hw (kg h now).1 (n+10):=by
  obtain ⟨a,b,c,_⟩:=sW q.a.w now
  exact ⟨⟨b,Nat.le_trans a q.a.sz⟩,by have:=q.g;omega⟩
theorem Hw.run {N:Nat} (hN:im≤N) {h:iA} {n:Nat} (q:Hw h n) (hn:n≤100000) (now:Int):nY N h now=some (kg h now):=by
  have h1:=q.a.sz
  have h2:=q.g
  have:(16777216:Nat)=im:=rfl
  exact Cv hN (by omega) q.a.w (by omega) now
theorem Ev {N:Nat} (hN:im≤N) {b:List U8} {i h:Int} (hb:b.length≤1048576) (hi:0≤i):WD (pF N ⟨b,i,h⟩) (fun r=>0≤r.2.i∧Hw r.1 500):=by
  unfold pF
  dsimp only
  refine WD.bind (C5 hN hb hi) fun l ⟨l1,l2⟩=>WD.step (show sq N=some (ks.mk 0 0 0 [0]) from rfl) ?_
  have hB:(16777216:Nat)=im:=rfl
  refine WD.bind (WD.loop (fun s=>Aq s.1∧0≤s.2∧s.2≤10) (fun r=>Aq r.1) (fun s=>(10 - s.2).toNat) ⟨l2,by simp,by simp⟩ (rn hN (by simp)) ?_) fun r r1=>?_
  · rintro ⟨t,k⟩ ⟨s1,s2,s3⟩
    dsimp only at *
    have hl:=s1.len
    refine WD.ite (fun c=>?_) (fun c=>WD.inr s1)
    have c:=of_decide_eq_true c
    rw [iI (n:=k+1) (by omega) (by omega)]
    exact WD.bind (lq s2 c) fun z hz=>WD.step rfl (WD.inl ⟨s1.set _ (s1.ob z hz).1 (s1.ob z hz).2,by dsimp only;omega,by dsimp only;omega⟩ (by dsimp only;omega))
  refine WD.bind (iX hb l1 40 (by decide)) fun n ⟨n1,n2,n3⟩=>?_
  refine WD.bind (WD.loop (fun s=>0≤s.1∧s.1≤39∧Hw (iA.mk s.2.1 (ks.mk s.2.2.1 s.2.2.2.1 s.2.2.2.2.1 s.2.2.2.2.2)) (400 - 10 * s.1.toNat)) (fun r=>Hw (iA.mk r.2.1 (ks.mk r.2.2.1 r.2.2.2.1 r.2.2.2.2.1 r.2.2.2.2.2)) 400) (fun s=>s.1.toNat) ⟨n2,by dsimp only;omega,r1.aw,?_⟩ (rn hN (by dsimp only;omega)) ?_) fun q q1=>WD.ret ⟨n1,q1.a,Nat.le_trans q1.g (by decide)⟩
  · show (1:Nat)≤_
    dsimp only
    omega
  rintro ⟨k,l,a,c,d,g⟩ ⟨s1,s2,s3⟩
  dsimp only at *
  refine WD.ite (fun c=>?_) (fun c=>WD.inr ⟨s3.a,Nat.le_trans s3.g (by omega)⟩)
  have c:=of_decide_eq_true c
  rw [iI (n:=k - 1) (by omega) (by omega)]
  refine WD.step (s3.run hN (by omega) 3) (WD.inl ⟨by dsimp only;omega,by dsimp only;omega,?_⟩ (by dsimp only;omega))
  have h2:=s3.step 3
  exact ⟨h2.a,Nat.le_trans h2.g (by dsimp only;omega)⟩
theorem Fq {N:Nat} (hN:im≤N) {b:List U8} {i h:Int} (hb:b.length≤1048576) (hi:0≤i):WD (tf N ⟨b,i,h⟩) (fun r=>0≤r.2.i∧Hw r.1 600):=by
  unfold tf
  dsimp only
  refine WD.bind (Ev hN hb hi) fun l ⟨l1,l2⟩=>WD.bind (iX hb l1 16 (by decide)) fun m ⟨m1,_,_⟩=>?_
  have g:=l2.g
  refine WD.bind (P:=fun j=>0≤j.2.1∧Aw j.2.2.2.1∧j.1.length≤600) ?_ fun j ⟨j1,j2,j3⟩=>WD.ret ⟨j1,j2,j3⟩
  refine WD.ite (fun _=>WD.bind (DP hN hb m1) fun y ⟨y1,y2⟩=>WD.ret ⟨y1,y2,by dsimp only;omega⟩) fun _=>?_
  refine WD.ite (fun _=>WD.bind (iX hb m1 12 (by decide)) fun y ⟨y1,_,_⟩=>WD.ret ⟨y1,l2.a,by dsimp only;omega⟩) fun _=>?_
  refine WD.ite (fun _=>WD.bind (iX hb m1 12 (by decide)) fun y ⟨y1,_,_⟩=>WD.step (uv (by omega)) (WD.ret ⟨y1,l2.a,by simp only [List.length_append,List.length_cons,List.length_nil];omega⟩)) fun _=>?_
  refine WD.ite (fun _=>WD.bind (iX hb m1 4 (by decide)) fun y ⟨y1,_,_⟩=>WD.ret ⟨y1,l2.a,by dsimp only;omega⟩) fun _=>?_
  exact WD.ite (fun _=>WD.bind (lP hb m1 (by decide)) fun y ⟨y1,_⟩=>WD.ret ⟨y1,l2.a,by dsimp only;omega⟩) fun _=>WD.ret ⟨m1,l2.a,by dsimp only;omega⟩
def Pw (p:dW):Prop:=iG p≤20000∧wP p
theorem K6 {p:dW} (h1:p.label.levels.length≤5) (h2:p.own.length≤5) (h3:p.tree.length≤5) (h4:Hw p.heap 600) (h5:p.ij.length≤4):Pw p:=by
  refine ⟨?_,h4.a.w⟩
  have:=h4.a.sz
  have:=h4.g
  unfold iG mr sf my
  omega
structure Pq (p:dW):Prop where
  la:p.label.levels.length≤5
  ow:p.own.length≤5
  tr:p.tree.length≤5
  hp:Hw p.heap 600
  ta:p.ij.length≤4
theorem Pq.pw {p:dW} (h:Pq p):Pw p:=K6 h.la h.ow h.tr h.hp h.ta
theorem JI {N:Nat} (hN:im≤N) {b:List U8} {i h:Int} (hb:b.length≤1048576) (hi:0≤i):WD (rE N ⟨b,i,h⟩) (fun r=>0≤r.2.i∧Pq r.1):=by
  unfold rE
  dsimp only
  refine WD.bind (CK hN hb hi) fun l ⟨l1,l2⟩=>WD.bind (EB hN hb l1) fun t ⟨t1,t2⟩=>WD.bind (Ev hN hb t1) fun q ⟨q1,q2⟩=>WD.bind (iX hb q1 10 (by decide)) fun x ⟨x1,_,_⟩=>WD.bind (lP hb x1 (by decide)) fun y ⟨y1,_⟩=>WD.bind (iX hb y1 4 (by decide)) fun z ⟨z1,_,_⟩=>WD.bind (iX hb z1 3 (by decide)) fun u ⟨u1,_,_⟩=>WD.bind (iX hb u1 3 (by decide)) fun n ⟨n1,n2,n3⟩=>?_
  refine WD.bind (WD.loop (fun s=>0≤s.1∧0≤s.2.1∧(s.2.2.2.length:Int)+s.1≤2) (fun r=>0≤r.2.1∧r.2.2.2.length≤2) (fun s=>s.1.toNat) ⟨n2,n1,by simp only [List.length_nil];omega⟩ (rn hN (by dsimp only;omega)) ?_) fun r ⟨r1,r2⟩=>?_
  · rintro ⟨k,i,h,t⟩ ⟨s1,s3,s4⟩
    dsimp only at *
    refine WD.ite (fun c=>?_) (fun c=>WD.inr ⟨s3,by dsimp only;omega⟩)
    have c:=of_decide_eq_true c
    rw [iI (n:=k - 1) (by omega) (by omega)]
    exact WD.bind (GA hb s3) fun z z1=>WD.step (Ex _ _) (WD.ite (fun _=>WD.step (uv (by omega)) (WD.inl ⟨by dsimp only;omega,z1,by simp only [List.length_append,List.length_cons,List.length_nil];omega⟩ (by dsimp only;omega))) fun _=>WD.inl ⟨by dsimp only;omega,z1,by dsimp only;omega⟩ (by dsimp only;omega))
  · exact WD.bind (DU hb r1) fun a ⟨a1,_⟩=>WD.ret ⟨a1,by have:=sQ l2;dsimp only;omega,by simp,by dsimp only;omega,⟨q2.a,Nat.le_trans q2.g (by decide)⟩,by dsimp only;omega⟩
theorem Fh {N:Nat} (hN:im≤N) {b:List U8} {i h:Int} (hb:b.length≤1048576) (hi:0≤i):WD (sU N ⟨b,i,h⟩) (fun r=>0≤r.2.i∧Pq r.1):=by
  unfold sU
  dsimp only
  refine WD.bind (JI hN hb hi) fun p ⟨p1,p2⟩=>WD.bind (iX hb p1 20 (by decide)) fun m ⟨m1,_,_⟩=>?_
  obtain ⟨la,ow,tr,hp,ta⟩:=p2
  refine WD.bind (P:=fun j=>0≤j.2.1∧j.1.length≤4∧j.2.2.2.1.length≤5∧j.2.2.2.2.1.length≤5∧j.2.2.2.2.2.1.length≤5∧Hw (iA.mk j.2.2.2.2.2.2.1 (ks.mk j.2.2.2.2.2.2.2.1 j.2.2.2.2.2.2.2.2.1 j.2.2.2.2.2.2.2.2.2.1 j.2.2.2.2.2.2.2.2.2.2.1)) 600) ?_ fun j ⟨j1,j2,j3,j4,j5,j6⟩=>WD.ret ⟨j1,j3,j4,j5,j6,j2⟩
  refine WD.ite (fun _=>WD.bind (EO hN hb m1) fun y ⟨y1,y2⟩=>WD.ret ⟨y1,ta,la,ow,y2,hp⟩) fun _=>?_
  refine WD.ite (fun _=>WD.bind (Fq hN hb m1) fun y ⟨y1,y2⟩=>WD.ret ⟨y1,ta,la,ow,tr,y2⟩) fun _=>?_
  refine WD.ite (fun _=>WD.bind (Da hN hb m1) fun y ⟨y1,y2⟩=>WD.ret ⟨y1,ta,y2,ow,tr,hp⟩) fun _=>?_
  refine WD.ite (fun _=>WD.bind (J0 hN hb m1) fun y ⟨y1,y2⟩=>WD.ret ⟨y1,ta,la,y2,tr,hp⟩) fun _=>?_
  refine WD.ite (fun _=>WD.bind (lP hb m1 (by decide)) fun y ⟨y1,_⟩=>WD.ret ⟨y1,ta,la,ow,tr,hp⟩) fun _=>?_
  refine WD.ite (fun _=>?_) fun _=>?_
  · refine WD.bind (WD.loop (fun s=>s.1.length≤4∧0≤s.2.1) (fun r=>r.1.length≤4∧0≤r.2.1) (fun s=>4 - s.1.length) ⟨ta,m1⟩ (rn hN (by dsimp only;omega)) ?_) fun r ⟨r1,r2⟩=>WD.ret ⟨r2,r1,la,ow,tr,hp⟩
    rintro ⟨t,i,h⟩ ⟨s1,s2⟩
    dsimp only at *
    refine WD.ite (fun c=>?_) (fun c=>WD.inr ⟨s1,s2⟩)
    have c:=of_decide_eq_true c
    exact WD.bind (GA hb s2) fun z z1=>WD.step (uv (by omega)) (WD.inl ⟨by simp only [List.length_append,List.length_cons,List.length_nil];omega,z1⟩ (by simp only [List.length_append,List.length_cons,List.length_nil];omega))
  refine WD.ite (fun _=>WD.bind (lP hb m1 (by decide)) fun y ⟨y1,_⟩=>WD.ret ⟨y1,ta,la,ow,tr,hp⟩) fun _=>?_
  exact WD.ite (fun _=>WD.bind (Gy hb m1) fun y y1=>WD.ret ⟨y1,ta,la,ow,tr,hp⟩) fun _=>WD.ret ⟨m1,ta,la,ow,tr,hp⟩
theorem Bk {N:Nat} (hN:im≤N) {b:List U8} {i h:Int} (hb:b.length≤1048576) (hi:0≤i) (p:dW) (me:Int):WD (lU N ⟨b,i,h⟩ p me) (fun r=>0≤r.2.i):=by
  unfold lU
  dsimp only
  refine WD.bind (P:=fun j=>0≤j.2.1∧(j.1=false→(p.heap.ag.length:Int)=10)) ?_ fun j ⟨hj,hl⟩=>?_
  · refine WD.ite (fun _=>WD.ret ⟨hi,by simp⟩) fun c=>WD.bind (mx hb hi 15) fun y y1=>WD.ret ⟨y1,fun _=>by simpa using c⟩
  refine WD.ite (fun _=>WD.bind (Jg hb hj) fun y y1=>WD.ret y1) fun c=>?_
  have hl:=hl c
  refine WD.bind (iX hb hj 10 (by decide)) fun y ⟨y1,y2,y3⟩=>?_
  refine WD.bind (WD.loop (fun s=>0≤s.1∧s.1<10∧0≤s.2.1∧s.2.1≤4∧0≤s.2.2.1) (fun r=>0≤r.1∧r.1<10∧0≤r.2.2.1) (fun s=>(4 - s.2.1).toNat) ⟨y2,y3,Int.le_refl _,by simp,y1⟩ (rn hN (by simp)) ?_) fun r ⟨r1,r2,r3⟩=>?_
  · rintro ⟨k,n,i,h⟩ ⟨s1,s2,s3,s4,s5⟩
    dsimp only at *
    refine WD.bind (P:=fun j=>j=true→n<4) ?_ fun j hj=>WD.ite (fun c=>?_) fun _=>WD.inr ⟨s1,s2,s5⟩
    · refine WD.ite (fun c=>?_) fun _=>WD.ret (by simp)
      exact WD.bind (lq s1 (by omega)) fun y _=>WD.ret fun _=>of_decide_eq_true c
    · have:=hj c
      rw [iI (n:=n+1) (by omega) (by omega)]
      exact WD.bind (iX hb s5 10 (by decide)) fun y ⟨y1,y2,y3⟩=>WD.inl ⟨y2,y3,by dsimp only;omega,by dsimp only;omega,y1⟩ (by dsimp only;omega)
  · exact WD.bind (lq r1 (by omega)) fun z _=>WD.bind (mx hb r3 20) fun y y1=>WD.bind (P:=fun _=>True) (WD.ite (fun _=>WD.ret trivial) fun _=>WD.ret trivial) fun j _=>WD.step (uC _ _ _ _) (WD.ret y1)
theorem K3 {N:Nat} (hN:im≤N) {b:List U8} {i h:Int} (hb:b.length≤1048576) (hi:0≤i) {p:dW} (hp:p.heap.ag.length≤1000000) (me k:Int):WD (oK N ⟨b,i,h⟩ p me k) (fun r=>0≤r.2.i):=by
  unfold oK
  dsimp only
  refine WD.bind (WD.loop (fun s=>0≤s.1∧s.1≤(p.heap.ag.length:Int)∧0≤s.2.1) (fun r=>Sum.elim (fun s=>0≤s.2.1) (fun r=>0≤r.2.i) r) (fun s=>((p.heap.ag.length:Int) - s.1).toNat) ⟨Int.le_refl _,by dsimp only;omega,hi⟩ (rn hN (by dsimp only;omega)) ?_) fun r hr=>?_
  · rintro ⟨k,i,h⟩ ⟨s1,s2,s3⟩
    dsimp only at *
    refine WD.ite (fun c=>?_) (fun c=>WD.inr s3)
    have c:=of_decide_eq_true c
    rw [iI (n:=k+1) (by omega) (by omega)]
    refine WD.bind (P:=fun j=>0≤j.2.1) ?_ fun j hj=>WD.ite (fun _=>?_) fun _=>WD.inl ⟨by dsimp only;omega,by dsimp only;omega,hj⟩ (by dsimp only;omega)
    · exact WD.bind (lq s1 c) fun y _=>WD.ite (fun _=>WD.bind (mx hb s3 2) fun z z1=>WD.ret z1) fun _=>WD.ret s3
    · exact WD.bind (lq s1 c) fun y _=>WD.step (uC _ _ _ _) (WD.inr hj)
  · cases r with
    | inl s =>
      simp only [Sum.elim_inl] at *
      exact WD.bind (Bk hN hb hr _ _) fun y y1=>WD.ret y1
    | inr s =>
      simp only [Sum.elim_inr] at *
      exact WD.ret hr
theorem JF {N:Nat} (hN:im≤N) {b:List U8} {i h:Int} (hb:b.length≤1048576) (hi:0≤i) {p:dW} (hp:p.heap.ag.length≤1000000) (me:Int):WD (rz N ⟨b,i,h⟩ p me) (fun r=>0≤r.2.i):=by
  unfold rz
  dsimp only
  refine WD.bind (iX hb hi 17 (by decide)) fun k ⟨k1,_,_⟩=>WD.bind (mx hb k1 3) fun m m1=>WD.bind (P:=fun _=>True) (WD.ite (fun _=>WD.ret trivial) fun _=>WD.ret trivial) fun j _=>WD.bind (P:=fun j=>0≤j.1) ?_ fun j hj=>WD.bind (iX hb hj 40 (by decide)) fun n ⟨n1,_,_⟩=>WD.bind (P:=fun j=>0≤j.1) ?_ fun j hj=>WD.ret hj
  · repeat' first
      | exact WD.ret (by assumption)
      | exact WD.ret trivial
      | refine WD.ite (fun _=>?_) (fun _=>?_)
      | refine WD.bind (iX hb (by assumption) _ (by decide)) fun y ⟨_,_,_⟩=>?_
      | refine WD.bind (lP hb (by assumption) (by decide)) fun y ⟨_,_⟩=>?_
      | refine WD.bind (Bk hN hb (by assumption) _ _) fun y _=>?_
      | refine WD.bind (K3 hN hb (by assumption) hp _ _) fun y _=>?_
      | refine WD.bind (P:=fun (_:Bool)=>True) ?_ fun y _=>?_
  · repeat' first
      | exact WD.ret (by assumption)
      | refine WD.ite (fun _=>?_) (fun _=>?_)
      | refine WD.bind (lP hb (by assumption) (by decide)) fun y ⟨_,_⟩=>?_
theorem Ds (l:List cd) (now:Int) (h:iA) (k:Int):(kB l now h k).ag.length=h.ag.length:=by
  unfold kB lT
  split
  · rfl
  split
  · simp only [List.length_set]
  · rfl
theorem zV (l:List cd) (now:Int):∀ (e:List Int) (h:iA),(e.foldl (kB l now) h).ag.length=h.ag.length
  | [],_=>rfl
  | k::e,h=>by
    rw [List.foldl_cons,zV l now e,Ds]
theorem B6 (h:iA) (now:Int):(oU h now).ag.length=h.ag.length:=by
  unfold oU
  split
  · rfl
  split
  · rfl
  · rw [zV]
    simp only [List.length_set]
theorem HD (h:iA) (now:Int):(kg h now).1.ag.length=h.ag.length:=by
  unfold kg
  split
  · split
    · unfold mb
      split
      · simp only [zM,List.length_set,uc]
      · exact uc h now
    · exact B6 h now
  · rfl
structure Lq (p:dW) (n:Nat):Prop where
  sz:iG p≤n
  w:wP p
  len:p.heap.ag.length=10
theorem Lq.call {p:dW} {n:Nat} (h:Lq p n) (hn:n≤1000000) (me now th:Int) (c:jF):Lq (qJ p me now th c).1 (n+300):=by
  have h0:=h.sz
  obtain ⟨a,b⟩:=Jo (p:=p) (by omega) h.w me now th c
  exact ⟨by omega,b,by rw [Hv (by omega) h.w];exact h.len⟩
theorem Ic {p:dW} {n:Nat} (h:iG p≤n):jo iz p.heap.ag+p.heap.gc.ia.length≤n:=by
  unfold iG mr sf at h
  omega
theorem Lq.step {p:dW} {n:Nat} (h:Lq p n) (now:Int):Lq (mZ p (kg p.heap now).1) (n+10):=by
  obtain ⟨a,b,c,_⟩:=sW (h:=p.heap) h.w now
  refine ⟨?_,b,by show (kg p.heap now).1.ag.length=10;rw [HD];exact h.len⟩
  have h0:=h.sz
  unfold iG mr sf at *
  show my p.label+_≤_
  simp only [mZ]
  omega
theorem Lq.run {N:Nat} (hN:im≤N) {p:dW} {n:Nat} (h:Lq p n) (hn:n≤1000000) (now:Int):nY N p.heap now=some (kg p.heap now):=by
  have h1:=Ic h.sz
  have:(16777216:Nat)=im:=rfl
  exact Cv hN (by omega) h.w (by omega) now
theorem Lq.up {p:dW} {n m:Nat} (h:Lq p n) (hm:n≤m):Lq p m:=⟨Nat.le_trans h.sz hm,h.w,h.len⟩
theorem Lq.pw {p:dW} {n:Nat} (h:Lq p n) (hn:n≤20000):Pw p:=⟨Nat.le_trans h.sz hn,h.w⟩
theorem Lq.waits {p:dW} {n:Nat} (h:Lq p n) {x:Int} (hx:-9223372036854775808≤x):Lq (mZ p (iA.mk (p.heap.ag.set (1:Int).toNat (waiting (nth p.heap.ag 1) x)) p.heap.gc)) n:=by
  have hl:=h.len
  have hs:jo iz (p.heap.ag.set (1:Int).toNat (waiting (nth p.heap.ag 1) x))=jo iz p.heap.ag:=n5 (by decide) (by rw [hl];decide) rfl
  refine ⟨?_,kL h.w hx,by show (List.set _ _ _).length=10;rw [List.length_set];exact hl⟩
  have h0:=h.sz
  unfold iG mr sf at *
  simp only [mZ,hs]
  exact h0
def pS (s:Int×Int×Int×(List Int)×(List Int)×(List ir)×(List cd)×Int×Int×Int×(List Int)×(List jw)×Int×Int×Int×Int×Int×Int×Int):dW:=dW.mk (j7.mk s.2.2.2.1) s.2.2.2.2.1 s.2.2.2.2.2.1 (iA.mk s.2.2.2.2.2.2.1 (ks.mk s.2.2.2.2.2.2.2.1 s.2.2.2.2.2.2.2.2.1 s.2.2.2.2.2.2.2.2.2.1 s.2.2.2.2.2.2.2.2.2.2.1)) s.2.2.2.2.2.2.2.2.2.2.2.1 s.2.2.2.2.2.2.2.2.2.2.2.2.1 s.2.2.2.2.2.2.2.2.2.2.2.2.2.1 (ig.mk s.2.2.2.2.2.2.2.2.2.2.2.2.2.2.1 s.2.2.2.2.2.2.2.2.2.2.2.2.2.2.2.1 s.2.2.2.2.2.2.2.2.2.2.2.2.2.2.2.2.1) s.2.2.2.2.2.2.2.2.2.2.2.2.2.2.2.2.2.1 s.2.2.2.2.2.2.2.2.2.2.2.2.2.2.2.2.2.2
def pJ (s:(List Int)×(List Int)×(List ir)×(List cd)×Int×Int×Int×(List Int)×(List jw)×Int×Int×Int×Int×Int×Int×Int×Int×Int):dW:=dW.mk (j7.mk s.1) s.2.1 s.2.2.1 (iA.mk s.2.2.2.1 (ks.mk s.2.2.2.2.1 s.2.2.2.2.2.1 s.2.2.2.2.2.2.1 s.2.2.2.2.2.2.2.1)) s.2.2.2.2.2.2.2.2.1 s.2.2.2.2.2.2.2.2.2.1 s.2.2.2.2.2.2.2.2.2.2.1 (ig.mk s.2.2.2.2.2.2.2.2.2.2.2.1 s.2.2.2.2.2.2.2.2.2.2.2.2.1 s.2.2.2.2.2.2.2.2.2.2.2.2.2.1) s.2.2.2.2.2.2.2.2.2.2.2.2.2.2.1 s.2.2.2.2.2.2.2.2.2.2.2.2.2.2.2.1
theorem KH {b:km} (h:lp b≤100):Lq (tE b) 120:=by
  refine ⟨by rw [wq];omega,fun o ho=>?_,rfl⟩
  have:∀ o ∈ BO, -9223372036854775808≤o.wait:=by decide
  exact this o ho
theorem I2 {N:Nat} (hN:im≤N) {b:List U8} {i h:Int} (hb:b.length≤1048576) (hi:0≤i) (me:Int):WD (rp N ⟨b,i,h⟩ me) (fun r=>0≤r.2.i∧Lq r.1 8000):=by
  unfold rp
  dsimp only
  refine WD.bind (Em hN hb hi) fun q ⟨q1,q2,q3,_⟩=>WD.step (AR hN (by omega)) ?_
  rw [show pn q.1=(tE q.1,true) from by unfold pn;rw [if_pos q2]]
  refine WD.bind (iX hb q1 25 (by decide)) fun n ⟨n1,n2,n3⟩=>?_
  refine WD.bind (WD.loop (fun s=>0≤s.1∧s.1≤24∧0≤s.2.1∧Lq (pS s) (8000 - 310 * s.1.toNat)) (fun r=>0≤r.2.1∧Lq (pS r) 8000) (fun s=>s.1.toNat) ⟨n2,by dsimp only;omega,n1,(KH q3).up (by dsimp only;omega)⟩ (rn hN (by dsimp only;omega)) ?_) fun r ⟨r1,r2⟩=>WD.ret ⟨r1,r2⟩
  rintro ⟨k,i,h,l,o,t,a,ph,po,ro,g,tp,nx,wa,sp,sr,sc,pr,lo⟩ ⟨s1,s2,s3,s4⟩
  dsimp only [pS] at *
  refine WD.ite (fun c=>?_) fun _=>WD.inr ⟨s3,s4.up (by omega)⟩
  have c:=of_decide_eq_true c
  rw [iI (n:=k - 1) (by omega) (by omega)]
  have ha:a.length=10:=s4.len
  refine WD.bind (P:=fun j=>0≤j.2.2.2.2.2.2.2.2.2.2.2.2.2.2.2.2.1∧Lq (pJ j) (8300 - 310 * k.toNat)) ?_ fun j hj=>?_
  · exact WD.bind (JF hN hb s3 (by dsimp only;omega) _) fun y y1=>WD.step (EJ hN (Nat.le_trans s4.sz (by omega)) s4.w _ _ _ _) (WD.ret ⟨y1,(s4.call (by omega) _ _ _ _).up (by omega)⟩)
  obtain ⟨l,o,t,a,ph,po,ro,g,tp,nx,wa,sp,sr,sc,pr,lo,i,h⟩:=j
  obtain ⟨j1,j2⟩:=hj
  dsimp only [pJ] at *
  refine WD.bind (mx hb j1 3) fun y y1=>WD.bind (P:=fun (j:(List cd)×Int×Int×Int×(List Int))=>Lq (dW.mk (j7.mk l) o t (iA.mk j.1 (ks.mk j.2.1 j.2.2.1 j.2.2.2.1 j.2.2.2.2)) tp nx wa (ig.mk sp sr sc) pr lo) (8310 - 310 * k.toNat)) (WD.ite (fun _=>WD.step (j2.run hN (by omega) 3) (WD.ret ((j2.step 3).up (by omega)))) fun _=>WD.ret (j2.up (by omega))) fun j hj=>?_
  obtain ⟨a,ph,po,ro,g⟩:=j
  dsimp only at *
  have ha:a.length=10:=hj.len
  refine WD.bind (P:=fun j=>0≤j.2.1) ?_ fun m m1=>WD.ite (fun _=>?_) fun _=>WD.inl ⟨by dsimp only;omega,by dsimp only;omega,m1,hj.up (by dsimp only;omega)⟩ (by dsimp only;omega)
  · exact WD.bind (lq (by decide) (by omega)) fun z _=>WD.ite (fun _=>WD.bind (mx hb y1 2) fun u u1=>WD.ret u1) fun _=>WD.ret y1
  · exact WD.step (jC (by decide) (by omega)) (WD.step rfl (WD.inl ⟨by dsimp only;omega,by dsimp only;omega,m1,(hj.waits (x:=0) (by decide)).up (by dsimp only;omega)⟩ (by dsimp only;omega)))
theorem JN {N:Nat} (hN:im≤N) {l:List U8} (hl:l.length≤1048576):WD (sD N l) (fun r=>0≤r.i):=by
  obtain ⟨h,e⟩:=La hN hl
  exact ⟨_,e,Int.le_refl _⟩
theorem Pw.waits {p:dW} (h:Pw p) (hl:(p.heap.ag.length:Int)=10) {x:Int} (hx:-9223372036854775808≤x):Pw (mZ p (iA.mk (p.heap.ag.set (1:Int).toNat (waiting (nth p.heap.ag 1) x)) p.heap.gc)) :=
  (Lq.waits (n:=20000) ⟨h.1,h.2,by omega⟩ hx).pw (by decide)
end Go.Kx
