/- Plain laws: drawn parts come to an end, and are small. No program in sight. -/
import Derived.Test.YtikeaiogpfjdnaaGreatLCall
import Derived.Test.YtikeaiogpfjdnaaGreatLPut
import Derived.Test.YtikeaiogpfjdnaaGreatLCollect
import Derived.Test.YtikeaiogpfjdnaaGreatLBoot
namespace Go.Kx
open Go
set_option linter.unusedVariables false
set_option linter.unusedSimpArgs false
set_option maxRecDepth 10000
def WD {α:Type} (o:Option α) (Q:α→Prop):Prop:=∃ a,o=some a∧Q a
theorem WD.bind {α β:Type} {o:Option α} {f:α→Option β} {P:α→Prop} {Q:β→Prop} (h:WD o P) (k:∀ a,P a→WD (f a) Q):WD (o.bind f) Q:=by
  obtain ⟨a,rfl,ha⟩:=h
  exact k a ha
theorem WD.step {α β:Type} {o:Option α} {a:α} {f:α→Option β} {Q:β→Prop} (e:o=some a) (k:WD (f a) Q):WD (o.bind f) Q:=by
  rw [e];exact k
theorem WD.FQ {α:Type} {o:Option α} {a:α} (e:o=some a):(o.bind fun y=>some y)=some a:=by rw [e];rfl
theorem WD.ite {α:Type} {c:Bool} {a b:Option α} {Q:α→Prop} (h1:c=true→WD a Q) (h2:c=false→WD b Q):WD (bif c then a else b) Q:=by
  cases c
  · exact h2 rfl
  · exact h1 rfl
theorem WD.ret {α:Type} {a:α} {Q:α→Prop} (h:Q a):WD (some a) Q:=⟨a,rfl,h⟩
theorem WD.mono {α:Type} {o:Option α} {P Q:α→Prop} (h:WD o P) (k:∀ a,P a→Q a):WD o Q:=by
  obtain ⟨a,e,ha⟩:=h
  exact ⟨a,e,k a ha⟩
def Fm {σ ρ:Type} (I:σ→Prop) (J:ρ→Prop) (μ:σ→Nat) (m:Nat) (o:σ⊕ρ):Prop:=(∀ s',o=.inl s'→I s'∧μ s'<m)∧∀ r,o=.inr r→J r
theorem WD.inl {σ ρ:Type} {I:σ→Prop} {J:ρ→Prop} {μ:σ→Nat} {m:Nat} {s:σ} (h1:I s) (h2:μ s<m):WD (some (.inl s:σ⊕ρ)) (Fm I J μ m) :=
  ⟨_,rfl,fun s' e=>by cases Sum.inl.inj e;exact ⟨h1,h2⟩,fun r e=>by cases e⟩
theorem WD.inr {σ ρ:Type} {I:σ→Prop} {J:ρ→Prop} {μ:σ→Nat} {m:Nat} {r:ρ} (h:J r):WD (some (.inr r:σ⊕ρ)) (Fm I J μ m) :=
  ⟨_,rfl,fun s' e=>by (cases e),fun r e=>by cases Sum.inr.inj e;exact h⟩
theorem WD.loop {σ ρ:Type} {body:σ→Option (σ⊕ρ)} (I:σ→Prop) (J:ρ→Prop) (μ:σ→Nat) {N:Nat} {s:σ} (h0:I s) (hN:μ s<N) (h:∀ s,I s→WD (body s) (Fm I J μ (μ s))):WD (iter body N s) J :=
  tF I J μ (fun s hs=>by obtain ⟨o,ho,h1,h2⟩:=h s hs;exact ⟨o,ho,h1,h2⟩) N s h0 hN
theorem qw {N n:Nat} (hN:iy≤N) (h:n<16777216):n<N:=Nat.lt_of_lt_of_le h hN
theorem iR {N:Nat} {b:List U8} {i h:Int} (hb:b.length≤1048576) (hi:0≤i) (n:Int) (hn:0<n):WD (il N ⟨b,i,h⟩ n) (fun r=>0≤r.2.i∧0≤r.1∧r.1<n):=by
  obtain ⟨x,i',h',e,a1,a2,a3,_⟩:=qj (N:=N) (c:=⟨b,i,h⟩) ⟨hb,hi⟩ n
  exact ⟨_,e,a1,a2,a3 hn⟩
theorem mg {N:Nat} {b:List U8} {i h:Int} (hb:b.length≤1048576) (hi:0≤i) (n:Int):WD (jK N ⟨b,i,h⟩ n) (fun r=>0≤r.2.i):=by
  obtain ⟨x,i',h',e,a1⟩:=ze (N:=N) (c:=⟨b,i,h⟩) ⟨hb,hi⟩ n
  exact ⟨_,e,a1⟩
theorem kI {N:Nat} {b:List U8} {i h:Int} (hb:b.length≤1048576) (hi:0≤i) {l:List Int} (hl:0<l.length):WD (iU N ⟨b,i,h⟩ l) (fun r=>0≤r.2.i∧r.1 ∈ l):=by
  obtain ⟨x,i',h',e,a1,a2⟩:=uA (N:=N) (c:=⟨b,i,h⟩) ⟨hb,hi⟩ hl
  exact ⟨_,e,a1,a2⟩
theorem k6 {α:Type} {l:List α} {i:Int} (h0:0≤i) (h1:i<(l.length:Int)):WD (idx l i) (fun y=>y ∈ l):=by
  obtain ⟨y,e,hy⟩:=u9 h0 h1
  exact ⟨y,e,hy⟩
theorem C8 {α:Type} {l:List α} {k:Int} (h0:0≤k) (h1:k≤(l.length:Int)):WD (sub l 0 k) (fun r=>r.length≤l.length∧∀ y,y ∈ r→y ∈ l):=by
  refine ⟨(l.drop (0:Int).toNat).take (k.toNat - (0:Int).toNat),by unfold sub;rw [if_pos ⟨Int.le_refl _,h0,h1⟩],?_,fun y hy=>?_⟩
  · simp only [List.length_take,List.length_drop];omega
  · exact List.mem_of_mem_drop (List.mem_of_mem_take hy)
theorem zT {N:Nat} (hN:iy≤N) {b:List U8} {i h:Int} (hb:b.length≤1048576) (hi:0≤i):WD (l7 N ⟨b,i,h⟩) (fun r=>0≤r.2.i∧lM r.1=true):=by
  obtain ⟨x,i',h',e,a1,a2,a3⟩:=Bc (N:=N) hN (c:=⟨b,i,h⟩) ⟨hb,hi⟩
  refine ⟨_,e,a1,?_⟩
  unfold lM
  simp only [Bool.and_eq_true,beq_iff_eq,List.all_eq_true,jb]
  exact ⟨by omega,a3⟩
theorem E1 {N:Nat} (hN:iy≤N) {b:List U8} {i h:Int} (hb:b.length≤1048576) (hi:0≤i):WD (qb N ⟨b,i,h⟩) (fun r=>0≤r.2.i∧r.1.length≤5):=by
  obtain ⟨x,i',h',e,a1,a2⟩:=FM (N:=N) hN (c:=⟨b,i,h⟩) ⟨hb,hi⟩
  exact ⟨_,e,a1,a2⟩
theorem CU {N:Nat} {b:List U8} {i h:Int} (hb:b.length≤1048576) (hi:0≤i):WD (pX N ⟨b,i,h⟩) (fun r=>0≤r.2.i):=by
  obtain ⟨x,i',h',e,a1⟩:=FR (N:=N) (c:=⟨b,i,h⟩) ⟨hb,hi⟩
  exact ⟨_,e,a1⟩
theorem Af {N:Nat} (hN:iy≤N) {b:List U8} {i h:Int} (hb:b.length≤1048576) (hi:0≤i):WD (qh N ⟨b,i,h⟩) (fun r=>0≤r.2.i∧r.1.levels.length≤5):=by
  obtain ⟨x,i',h',e,a1,a2⟩:=Bo (N:=N) hN (c:=⟨b,i,h⟩) ⟨hb,hi⟩
  exact ⟨_,e,a1,a2⟩
theorem wO {l:jJ} (h:lM l=true):l.levels.length=4:=by
  unfold lM at h
  simp only [Bool.and_eq_true,beq_iff_eq] at h
  omega
theorem Es {N:Nat} (hN:iy≤N) {b:List U8} {i h:Int} (hb:b.length≤1048576) (hi:0≤i):WD (pM N ⟨b,i,h⟩) (fun r=>0≤r.2.i∧DR r.1=true∧qX r.1≤100∧(0≤r.1.nm.cd∧r.1.nm.cd≤1000)∧(0≤r.1.nm.im∧r.1.nm.im≤1000)∧(0≤r.1.nm.iC∧r.1.nm.iC≤1000)):=by
  unfold pM
  dsimp only
  refine WD.bind (zT hN hb hi) fun l ⟨l1,l2⟩=>WD.bind (iR hb l1 25 (by decide)) fun x ⟨x1,x2,x3⟩=>WD.bind (iR hb x1 900 (by decide)) fun y ⟨y1,y2,y3⟩=>WD.bind (iR hb y1 60 (by decide)) fun z ⟨z1,z2,z3⟩=>WD.ret ⟨z1,?_,?_,⟨by dsimp only;omega,by dsimp only;omega⟩,⟨by dsimp only;omega,by dsimp only;omega⟩,⟨by dsimp only;omega,by dsimp only;omega⟩⟩
  · unfold DR i7 ux
    simp only [Bool.and_eq_true,jb]
    exact ⟨⟨by omega,by omega,by omega⟩,l2,rfl⟩
  · have:=wO l2
    unfold qX l6
    simp only [List.length_nil]
    omega
theorem A6 {N:Nat} {b:List U8} {i h:Int} (hb:b.length≤1048576) (hi:0≤i):WD (qm N ⟨b,i,h⟩) (fun r=>0≤r.2.i∧i7 r.1=true):=by
  unfold qm
  dsimp only
  refine WD.bind (iR hb hi 40 (by decide)) fun x ⟨x1,x2,x3⟩=>WD.bind (iR hb x1 400 (by decide)) fun y ⟨y1,y2,y3⟩=>WD.bind (iR hb y1 60 (by decide)) fun z ⟨z1,z2,z3⟩=>WD.ret ⟨z1,?_⟩
  unfold i7 ux
  simp only [Bool.and_eq_true,jb]
  omega
theorem Bf {N:Nat} (hN:iy≤N) {b:List U8} {i h:Int} (hb:b.length≤1048576) (hi:0≤i):WD (oP N ⟨b,i,h⟩) (fun r=>0≤r.2.i∧r.1.length=5):=by
  unfold oP
  dsimp only
  refine WD.bind (A6 hb hi) fun y ⟨h1,h2⟩=>WD.step (yc _ _) ?_
  rw [if_pos h2]
  refine WD.bind (iR hb h1 7 (by decide)) fun n ⟨n1,n2,n3⟩=>?_
  refine WD.bind (WD.loop (fun s=>s.1.length=5∧0≤s.2.1∧s.2.1≤6∧0≤s.2.2.1) (fun r=>r.1.length=5∧0≤r.2.2.1) (fun s=>s.2.1.toNat) ⟨rfl,n2,by dsimp only;omega,n1⟩ (qw hN (by dsimp only;omega)) ?_) fun r ⟨r1,r2⟩=>WD.ret ⟨r2,r1⟩
  rintro ⟨t,k,i,h⟩ ⟨s1,s2,s3,s4⟩
  dsimp only at *
  refine WD.ite (fun c=>?_) (fun c=>WD.inr ⟨s1,s4⟩)
  have c:=of_decide_eq_true c
  have hB:(16777216:Nat)=iy:=rfl
  rw [iM (n:=k - 1) (by omega) (by omega)]
  refine WD.bind (iR hb s4 5 (by decide)) fun y ⟨y1,y2,y3⟩=>WD.bind (mg hb y1 4) fun z z1=>WD.ite (fun _=>?_) (fun _=>?_)
  · exact WD.step (w9 hN (by omega) _) (WD.inl ⟨by dsimp only;rw [uS];exact s1,by dsimp only;omega,by dsimp only;omega,z1⟩ (by dsimp only;omega))
  · refine WD.bind (iR hb z1 8 (by decide)) fun u ⟨u1,_,_⟩=>WD.bind (iR hb u1 50 (by decide)) fun v ⟨v1,_,_⟩=>WD.bind (iR hb v1 9 (by decide)) fun w ⟨w1,_,_⟩=>?_
    exact WD.step (vT hN (by omega) _ _) (WD.inl ⟨by dsimp only;rw [uo];exact s1,by dsimp only;omega,by dsimp only;omega,w1⟩ (by dsimp only;omega))
theorem Bm {N:Nat} (hN:iy≤N) {b:List U8} {i h:Int} (hb:b.length≤1048576) (hi:0≤i):WD (rO N ⟨b,i,h⟩) (fun r=>0≤r.2.i∧r.1.length≤5):=by
  unfold rO
  dsimp only
  refine WD.bind (Bf hN hb hi) fun t ⟨t1,t2⟩=>WD.bind (iR hb t1 _ (by omega)) fun k ⟨k1,k2,k3⟩=>WD.bind (iR hb k1 20 (by decide)) fun m ⟨m1,_,_⟩=>?_
  refine WD.ite (fun _=>WD.bind (C8 k2 (by omega)) fun r ⟨r1,_⟩=>WD.ret ⟨m1,by dsimp only;omega⟩) fun _=>?_
  refine WD.ite (fun _=>WD.bind (iR hb m1 7 (by decide)) fun y ⟨y1,_,_⟩=>WD.bind (k6 k2 k3) fun z _=>WD.step rfl (WD.ret ⟨y1,by simp only [List.length_set];omega⟩)) fun _=>?_
  refine WD.ite (fun _=>WD.bind (k6 k2 k3) fun z _=>WD.step rfl (WD.ret ⟨m1,by simp only [List.length_set];omega⟩)) fun _=>?_
  exact WD.ite (fun _=>WD.bind (kI hb m1 (by decide)) fun y ⟨y1,_⟩=>WD.bind (k6 k2 k3) fun z _=>WD.step rfl (WD.ret ⟨y1,by simp only [List.length_set];omega⟩)) fun _=>WD.ret ⟨m1,by dsimp only;omega⟩
theorem CB {N:Nat} {b:List U8} {i h:Int} (hb:b.length≤1048576) (hi:0≤i):WD (qf N ⟨b,i,h⟩) (fun r=>0≤r.2.i):=by
  unfold qf
  dsimp only
  refine WD.bind (iR hb hi 5 (by decide)) fun a ⟨a1,_,_⟩=>WD.bind (iR hb a1 3 (by decide)) fun b ⟨b1,_,_⟩=>WD.bind (iR hb b1 5 (by decide)) fun c ⟨c1,_,_⟩=>WD.bind (iR hb c1 3 (by decide)) fun d ⟨d1,_,_⟩=>WD.bind (iR hb d1 2 (by decide)) fun e ⟨e1,_,_⟩=>WD.bind (iR hb e1 30 (by decide)) fun f ⟨f1,_,_⟩=>WD.bind (iR hb f1 20 (by decide)) fun g ⟨g1,_,_⟩=>WD.bind (P:=fun j=>0≤j.1) ?_ fun j hj=>WD.ret hj
  repeat' first
    | exact WD.ret (by assumption)
    | refine WD.ite (fun _=>?_) (fun _=>?_)
    | refine WD.bind (kI hb (by assumption) (by decide)) fun y ⟨_,_⟩=>?_
theorem ER {N:Nat} {b:List U8} {i h:Int} (hb:b.length≤1048576) (hi:0≤i):WD (rJ N ⟨b,i,h⟩) (fun r=>0≤r.2.i):=by
  unfold rJ
  dsimp only
  exact WD.bind (mg hb hi 8) fun y y1=>WD.ite (fun _=>WD.bind (kI hb y1 (by decide)) fun z ⟨z1,_⟩=>WD.ret z1) fun _=>WD.bind (iR hb y1 400 (by decide)) fun z ⟨z1,_,_⟩=>WD.ret z1
def Ob (o:bh):Prop:=lQ o∧iu o≤12
theorem Ew {N:Nat} (hN:iy≤N) {b:List U8} {i h:Int} (hb:b.length≤1048576) (hi:0≤i) {l:List bh} (hl:l.length≤100):WD (rE N ⟨b,i,h⟩ l) (fun r=>0≤r.2.i∧Ob r.1∧r.1.ib.length=2):=by
  unfold rE
  dsimp only
  refine WD.bind (WD.loop (fun s=>0<s.1.length∧(s.1.length:Int)≤1+2 * s.2∧0≤s.2∧s.2≤(l.length:Int)) (fun r=>0<r.1.length) (fun s=>((l.length:Int) - s.2).toNat) ⟨by decide,by decide,by decide,by dsimp only;omega⟩ (qw hN (by dsimp only;omega)) ?_) fun o o1=>?_
  · rintro ⟨t,k⟩ ⟨s1,s2,s3,s4⟩
    dsimp only at *
    refine WD.ite (fun c=>?_) (fun c=>WD.inr s1)
    have c:=of_decide_eq_true c
    rw [iM (n:=k+1) (by omega) (by omega)]
    have hB:(16777216:Nat)=iy:=rfl
    refine WD.bind (k6 s3 c) fun y _=>WD.ite (fun _=>?_) fun _=>WD.inl ⟨s1,by dsimp only;omega,by dsimp only;omega,by dsimp only;omega⟩ (by dsimp only;omega)
    have e:app t ([k,k]:List Int)=some (t++[k,k]):=by
      unfold app
      rw [if_pos (by simp only [List.length_cons,List.length_nil];omega)]
    exact WD.step e (WD.inl ⟨by simp,by simp only [List.length_append,List.length_cons,List.length_nil];omega,by dsimp only;omega,by dsimp only;omega⟩ (by dsimp only;omega))
  refine WD.bind (iR hb hi 4 (by decide)) fun k ⟨k1,k2,k3⟩=>WD.bind (kI hb k1 o1) fun x ⟨x1,_⟩=>WD.bind (iR hb x1 5 (by decide)) fun y ⟨y1,_,_⟩=>WD.bind (iR hb y1 30 (by decide)) fun z ⟨z1,_,_⟩=>WD.bind (iR hb z1 4 (by decide)) fun p ⟨p1,p2,p3⟩=>WD.bind (mg hb p1 3) fun m m1=>?_
  refine WD.bind (WD.loop (fun s=>s.1.length=2∧0≤s.2.1∧s.2.1≤2∧0≤s.2.2.1) (fun r=>r.1.length=2∧0≤r.2.2.1) (fun s=>(2 - s.2.1).toNat) ⟨rfl,by simp,by simp,m1⟩ (qw hN (by simp)) ?_) fun q ⟨q1,q2⟩=>?_
  · rintro ⟨t,k,i,h⟩ ⟨s1,s2,s3,s4⟩
    dsimp only at *
    refine WD.ite (fun c=>?_) (fun c=>WD.inr ⟨s1,s4⟩)
    have c:=of_decide_eq_true c
    rw [iM (n:=k+1) (by omega) (by omega)]
    refine WD.bind (mg hb s4 3) fun y y1=>WD.ite (fun _=>?_) fun _=>WD.inl ⟨s1,by dsimp only;omega,by dsimp only;omega,y1⟩ (by dsimp only;omega)
    refine WD.bind (kI hb y1 o1) fun z ⟨z1,_⟩=>WD.bind (k6 s2 (by omega)) fun w _=>WD.step rfl (WD.inl ⟨by simp only [List.length_set];exact s1,by dsimp only;omega,by dsimp only;omega,z1⟩ (by dsimp only;omega))
  refine WD.bind (P:=fun j=>0≤j.1∧0≤j.2.2.1∧j.2.2.2.2.2.1.length≤3∧j.2.2.2.2.2.2.length≤2) ?_ fun j ⟨j1,j2,j3,j4⟩=>WD.ret ⟨j1,⟨?_,?_⟩,q1⟩
  · refine WD.ite (fun _=>?_) fun _=>WD.ite (fun _=>?_) fun _=>WD.ite (fun _=>?_) fun _=>WD.ret ⟨q2,by simp,by simp,by simp⟩
    · refine WD.bind (WD.loop (fun s=>0≤s.1∧s.1≤p.1∧0≤s.2.1∧(s.2.2.2.length:Int)≤s.1) (fun r=>0≤r.2.1∧r.2.2.2.length≤3) (fun s=>(p.1 - s.1).toNat) ⟨by simp,p2,q2,by simp⟩ (qw hN (by dsimp only;omega)) ?_) fun r ⟨r1,r2⟩=>WD.ret ⟨r1,by simp,r2,by simp⟩
      rintro ⟨k,i,h,t⟩ ⟨s1,s2,s3,s4⟩
      dsimp only at *
      refine WD.ite (fun c=>?_) (fun c=>WD.inr ⟨s3,by dsimp only;omega⟩)
      have c:=of_decide_eq_true c
      rw [iM (n:=k+1) (by omega) (by omega)]
      exact WD.bind (iR hb s3 100 (by decide)) fun y ⟨y1,_,_⟩=>WD.step (sy (by omega)) (WD.inl ⟨by dsimp only;omega,by dsimp only;omega,y1,by simp only [List.length_append,List.length_cons,List.length_nil];omega⟩ (by dsimp only;omega))
    · refine WD.bind (iR hb q2 3 (by decide)) fun n ⟨n1,n2,n3⟩=>?_
      refine WD.bind (WD.loop (fun s=>0≤s.1∧0≤s.2.1∧(s.2.2.2.length:Int)+s.1≤2) (fun r=>0≤r.2.1∧r.2.2.2.length≤2) (fun s=>s.1.toNat) ⟨n2,n1,by simp only [List.length_nil];omega⟩ (qw hN (by dsimp only;omega)) ?_) fun r ⟨r1,r2⟩=>WD.ret ⟨r1,by simp,by simp,r2⟩
      rintro ⟨k,i,h,t⟩ ⟨s1,s3,s4⟩
      dsimp only at *
      refine WD.ite (fun c=>?_) (fun c=>WD.inr ⟨s3,by dsimp only;omega⟩)
      have c:=of_decide_eq_true c
      rw [iM (n:=k - 1) (by omega) (by omega)]
      exact WD.bind (kI hb s3 (by decide)) fun z ⟨z1,_⟩=>WD.bind (iR hb z1 50 (by decide)) fun y ⟨y1,_,_⟩=>WD.step (sy (by omega)) (WD.inl ⟨by dsimp only;omega,y1,by simp only [List.length_append,List.length_cons,List.length_nil];omega⟩ (by dsimp only;omega))
    · refine WD.bind (kI hb q2 (by decide)) fun w ⟨w1,w2⟩=>WD.bind (iR hb w1 9 (by decide)) fun y ⟨y1,_,_⟩=>WD.bind (iR hb y1 5 (by decide)) fun z ⟨z1,_,_⟩=>WD.ret ⟨z1,?_,by simp,by simp⟩
      have:∀ x ∈ ([0,0,7,34]:List Int),0≤x:=by decide
      exact this _ w2
  · unfold lQ;dsimp only;omega
  · unfold iu;dsimp only;omega
structure Aq (l:List bh):Prop where
  len:l.length=10
  ob:∀ o,o ∈ l→Ob o∧(o.kind ≠ 0→o.ib.length=2)
theorem Aq.w {l:List bh} (h:Aq l):wA l:=fun o ho=>(h.ob o ho).1.1
theorem Aq.sz {l:List bh} (h:Aq l):jr iu l≤130:=by
  have:=vB (f:=iu) (c:=12) fun y hy=>(h.ob y hy).1.2
  have:=h.len
  unfold jr
  omega
theorem Aq.Gc {l:List bh} (h:Aq l):jr iu l<iy:=by
  have:=h.sz
  have:(16777216:Nat)=iy:=rfl
  omega
theorem Aq.set {l:List bh} (h:Aq l) {o:bh} (k:Nat) (h1:Ob o) (h2:o.kind ≠ 0→o.ib.length=2):Aq (l.set k o):=by
  refine ⟨by rw [List.length_set];exact h.len,fun y hy=>?_⟩
  rcases List.mem_or_eq_of_mem_set hy with q | rfl
  · exact h.ob y q
  · exact ⟨h1,h2⟩
theorem Aq.new:Aq oJ:=by
  refine ⟨rfl,fun o ho=>?_⟩
  have h:∀ o ∈ oJ, -9223372036854775808≤o.wait∧iu o≤12∧(o.kind ≠ 0→o.ib.length=2):=by decide
  obtain ⟨a,b,c⟩:=h o ho
  exact ⟨⟨a,b⟩,c⟩
theorem Aq.free {l:List bh} (h:Aq l) (i:Int):Aq (kp l i).1:=by
  unfold kp
  split
  · have h1:=h.set (o:=blank (nth l i).gen) i.toNat ⟨Bh _,by show (0:Nat)≤12;decide⟩ (fun h=>absurd rfl h)
    refine ⟨by simp only [List.length_map];exact h1.len,fun y hy=>?_⟩
    obtain ⟨o,ho,rfl⟩:=List.mem_map.1 hy
    obtain ⟨⟨a,b⟩,c⟩:=h1.ob o ho
    refine ⟨⟨DS a,by rw [CZ];exact b⟩,?_⟩
    unfold k7
    split
    · exact c
    · simp only [List.length_map];exact c
  · exact h
theorem CA (l:List bh) (o:bh) (k:Nat) (x:bh):(putAt l o k x).1=l∨∃ (j:Nat) (g:Int),(putAt l o k x).1=l.set j (lg o g):=by
  unfold putAt
  split
  · exact .inr ⟨_,_,rfl⟩
  · exact .inl rfl
theorem xY (l:List bh) (o:bh):∀ (m:List bh) (k:Nat),(rq l o k m).1=l∨∃ (j:Nat) (g:Int),(rq l o k m).1=l.set j (lg o g)
  | [],_=>.inl rfl
  | x::m,k=>by
    unfold rq
    split
    · exact xY l o m (k+1)
    · exact CA l o k x
theorem EM (l:List bh) (o:bh):(kv l o).1=l∨∃ (j:Nat) (g:Int),(kv l o).1=l.set j (lg o g):=by
  unfold kv
  split
  · exact xY l o _ _
  · exact .inl rfl
theorem Aq.put {l:List bh} (h:Aq l) {o:bh} (h1:Ob o) (h2:o.ib.length=2):Aq (kv l o).1:=by
  rcases EM l o with e | ⟨j,g,e⟩
  · rw [e];exact h
  · rw [e];exact h.set j ⟨um h1.1,h1.2⟩ fun _=>h2
theorem zd {N:Nat} (hN:iy≤N) {b:List U8} {i h:Int} (hb:b.length≤1048576) (hi:0≤i):WD (nR N ⟨b,i,h⟩) (fun r=>0≤r.2.i∧Aq r.1):=by
  unfold nR
  dsimp only
  refine WD.step (wN _) (WD.bind (iR hb hi 14 (by decide)) fun n ⟨n1,n2,n3⟩=>?_)
  refine WD.bind (WD.loop (fun s=>Aq s.1∧0≤s.2.1∧s.2.1≤13∧0≤s.2.2.1) (fun r=>Aq r.1∧0≤r.2.2.1) (fun s=>s.2.1.toNat) ⟨Aq.new,n2,by dsimp only;omega,n1⟩ (qw hN (by dsimp only;omega)) ?_) fun r ⟨r1,r2⟩=>?_
  · rintro ⟨t,k,i,h⟩ ⟨s1,s2,s3,s4⟩
    dsimp only at *
    refine WD.ite (fun c=>?_) (fun c=>WD.inr ⟨s1,s4⟩)
    have c:=of_decide_eq_true c
    rw [iM (n:=k - 1) (by omega) (by omega)]
    refine WD.bind (mg hb s4 5) fun y y1=>WD.ite (fun _=>?_) fun _=>?_
    · exact WD.bind (iR hb y1 10 (by decide)) fun z ⟨z1,_,_⟩=>WD.step (vD hN s1.Gc s1.w _) (WD.inl ⟨s1.free _,by dsimp only;omega,by dsimp only;omega,z1⟩ (by dsimp only;omega))
    · refine WD.bind (Ew hN hb y1 (by rw [s1.len];decide)) fun o ⟨o1,o2,o3⟩=>?_
      exact WD.step (tW hN s1.Gc s1.w (by have:=o2.2;omega) o2.1) (WD.inl ⟨s1.put o2 o3,by dsimp only;omega,by dsimp only;omega,o1⟩ (by dsimp only;omega))
  refine WD.bind (WD.loop (fun s=>Aq s.1∧0≤s.2.1∧s.2.1≤10∧0≤s.2.2.1) (fun r=>Aq r.1∧0≤r.2.2.1) (fun s=>(10 - s.2.1).toNat) ⟨r1,by simp,by simp,r2⟩ (qw hN (by simp)) ?_) fun q ⟨q1,q2⟩=>WD.ret ⟨q2,q1⟩
  rintro ⟨t,k,i,h⟩ ⟨s1,s2,s3,s4⟩
  dsimp only at *
  have hl:=s1.len
  refine WD.ite (fun c=>?_) (fun c=>WD.inr ⟨s1,s4⟩)
  have c:=of_decide_eq_true c
  have e:IntKind.i64.wrap (k+1)=k+1:=iM (by omega) (by omega)
  rw [e]
  refine WD.bind (P:=fun j=>0≤j.2.1∧(j.1=true→(nth t k).kind ≠ 0)) ?_ fun j ⟨j1,j2⟩=>WD.ite (fun cj=>?_) fun _=>WD.inl ⟨s1,by dsimp only;omega,by dsimp only;omega,j1⟩ (by dsimp only;omega)
  · refine WD.step (jk s2 c) (WD.ite (fun ck=>WD.bind (mg hb s4 4) fun y y1=>WD.ret ⟨y1,fun _=>by simpa using ck⟩) fun _=>WD.ret ⟨s4,by simp⟩)
  · have hk:=j2 cj
    obtain ⟨⟨w1,w2⟩,w3⟩:=s1.ob _ (nP s2 c)
    have w3:=w3 hk
    refine WD.bind (iR hb j1 _ (by omega)) fun y ⟨y1,y2,y3⟩=>WD.bind (k6 y2 y3) fun z _=>WD.ite (fun _=>?_) fun _=>WD.inl ⟨s1,by dsimp only;omega,by dsimp only;omega,y1⟩ (by dsimp only;omega)
    refine WD.step (jk s2 c) (WD.bind (iR hb y1 2 (by decide)) fun v ⟨v1,v2,v3⟩=>WD.bind (k6 v2 (by omega)) fun u _=>WD.step rfl (WD.inl ⟨s1.set _ ⟨w1,?_⟩ fun _=>?_,by dsimp only;omega,by dsimp only;omega,v1⟩ (by dsimp only;omega)))
    · unfold iu at *
      simp only [List.length_set]
      exact w2
    · simp only [List.length_set];exact w3
structure Aw (l:List bh):Prop where
  w:wA l
  sz:jr iu l≤200
theorem Aq.aw {l:List bh} (h:Aq l):Aw l:=⟨h.w,Nat.le_trans h.sz (by decide)⟩
theorem Aq.xu {l:List bh} (h:Aq l) {o:bh} (k:Nat) (h1:lQ o) (h2:iu o≤20):Aw (l.set k o):=⟨kB h.w h1,Nat.le_trans vr (by have:=h.sz;omega)⟩
theorem Av {N:Nat} (hN:iy≤N) {b:List U8} {i h:Int} (hb:b.length≤1048576) (hi:0≤i):WD (rP N ⟨b,i,h⟩) (fun r=>0≤r.2.i∧Aw r.1):=by
  unfold rP
  dsimp only
  refine WD.bind (zd hN hb hi) fun l ⟨l1,l2⟩=>?_
  have hl:=l2.len
  refine WD.bind (iR hb l1 _ (by omega)) fun k ⟨k1,k2,k3⟩=>WD.bind (iR hb k1 24 (by decide)) fun m ⟨m1,_,_⟩=>?_
  have hw:∀ y ∈ l.1,lQ y∧iu y≤12:=fun y hy=>(l2.ob y hy).1
  refine WD.ite (fun _=>WD.bind (C8 k2 (by omega)) fun r ⟨r1,r2⟩=>WD.ret ⟨m1,?_,?_⟩) fun _=>?_
  · exact fun o ho=>l2.w o (r2 o ho)
  · have:=vB (f:=iu) (c:=12) (l:=r) fun y hy=>(hw y (r2 y hy)).2
    unfold jr
    dsimp only
    omega
  refine WD.ite (fun _=>WD.bind (kI hb m1 (by decide)) fun y ⟨y1,_⟩=>WD.bind (k6 k2 k3) fun z hz=>WD.step rfl (WD.ret ⟨y1,l2.xu _ (hw z hz).1 (Nat.le_trans (hw z hz).2 (by decide))⟩)) fun _=>?_
  refine WD.ite (fun _=>WD.bind (iR hb m1 6 (by decide)) fun y ⟨y1,_,_⟩=>WD.bind (k6 k2 k3) fun z hz=>WD.step rfl (WD.ret ⟨y1,l2.xu _ (hw z hz).1 (Nat.le_trans (hw z hz).2 (by decide))⟩)) fun _=>?_
  refine WD.ite (fun _=>WD.bind (kI hb m1 (by decide)) fun y ⟨y1,_⟩=>WD.bind (k6 k2 k3) fun z hz=>WD.step rfl (WD.ret ⟨y1,l2.xu _ (hw z hz).1 (Nat.le_trans (hw z hz).2 (by decide))⟩)) fun _=>?_
  refine WD.ite (fun _=>WD.bind (k6 k2 k3) fun z hz=>?_) fun _=>?_
  · have h2:=(hw z hz).2
    have h3:z.ib.length≤12:=by unfold iu at h2;omega
    refine WD.step (sy (by omega)) (WD.ret ⟨m1,l2.xu _ (hw z hz).1 ?_⟩)
    unfold iu at *
    simp only [List.length_append,List.length_cons,List.length_nil]
    omega
  refine WD.ite (fun _=>WD.bind (kI hb m1 (by decide)) fun y ⟨y1,_⟩=>WD.bind (k6 k2 k3) fun z hz=>WD.step rfl (WD.ret ⟨y1,l2.xu _ (hw z hz).1 (Nat.le_trans (hw z hz).2 (by decide))⟩)) fun _=>?_
  refine WD.ite (fun _=>WD.bind (kI hb m1 (by decide)) fun y ⟨y1,y2⟩=>WD.bind (k6 k2 k3) fun z hz=>WD.step rfl (WD.ret ⟨y1,l2.xu _ ?_ (Nat.le_trans (hw z hz).2 (by decide))⟩)) fun _=>WD.ret ⟨m1,l2.aw⟩
  have:∀ x ∈ ([-1,30000,30001,1]:List Int), -9223372036854775808≤x:=by decide
  exact this _ y2
structure Hw (h:ic) (n:Nat):Prop where
  a:Aw h.ag
  g:h.gc.gE.length≤n
theorem Hw.step {h:ic} {n:Nat} (q:Hw h n) (now:Int):Hw (jd h now).1 (n+10):=by
  obtain ⟨a,b,c,_⟩:=nt q.a.w now
  exact ⟨⟨b,Nat.le_trans a q.a.sz⟩,by have:=q.g;omega⟩
theorem Hw.run {N:Nat} (hN:iy≤N) {h:ic} {n:Nat} (q:Hw h n) (hn:n≤100000) (now:Int):lX N h now=some (jd h now):=by
  have h1:=q.a.sz
  have h2:=q.g
  have:(16777216:Nat)=iy:=rfl
  exact wq hN (by omega) q.a.w (by omega) now
theorem A1 {N:Nat} (hN:iy≤N) {b:List U8} {i h:Int} (hb:b.length≤1048576) (hi:0≤i):WD (nT N ⟨b,i,h⟩) (fun r=>0≤r.2.i∧Hw r.1 500):=by
  unfold nT
  dsimp only
  refine WD.bind (zd hN hb hi) fun l ⟨l1,l2⟩=>WD.step (show qi N=some (jH.mk 0 0 0 [0]) from rfl) ?_
  have hB:(16777216:Nat)=iy:=rfl
  refine WD.bind (WD.loop (fun s=>Aq s.1∧0≤s.2∧s.2≤10) (fun r=>Aq r.1) (fun s=>(10 - s.2).toNat) ⟨l2,by simp,by simp⟩ (qw hN (by simp)) ?_) fun r r1=>?_
  · rintro ⟨t,k⟩ ⟨s1,s2,s3⟩
    dsimp only at *
    have hl:=s1.len
    refine WD.ite (fun c=>?_) (fun c=>WD.inr s1)
    have c:=of_decide_eq_true c
    rw [iM (n:=k+1) (by omega) (by omega)]
    exact WD.bind (k6 s2 c) fun z hz=>WD.step rfl (WD.inl ⟨s1.set _ (s1.ob z hz).1 (s1.ob z hz).2,by dsimp only;omega,by dsimp only;omega⟩ (by dsimp only;omega))
  refine WD.bind (iR hb l1 40 (by decide)) fun n ⟨n1,n2,n3⟩=>?_
  refine WD.bind (WD.loop (fun s=>0≤s.1∧s.1≤39∧Hw (ic.mk s.2.1 (jH.mk s.2.2.1 s.2.2.2.1 s.2.2.2.2.1 s.2.2.2.2.2)) (400 - 10 * s.1.toNat)) (fun r=>Hw (ic.mk r.2.1 (jH.mk r.2.2.1 r.2.2.2.1 r.2.2.2.2.1 r.2.2.2.2.2)) 400) (fun s=>s.1.toNat) ⟨n2,by dsimp only;omega,r1.aw,?_⟩ (qw hN (by dsimp only;omega)) ?_) fun q q1=>WD.ret ⟨n1,q1.a,Nat.le_trans q1.g (by decide)⟩
  · show (1:Nat)≤_
    dsimp only
    omega
  rintro ⟨k,l,a,c,d,g⟩ ⟨s1,s2,s3⟩
  dsimp only at *
  refine WD.ite (fun c=>?_) (fun c=>WD.inr ⟨s3.a,Nat.le_trans s3.g (by omega)⟩)
  have c:=of_decide_eq_true c
  rw [iM (n:=k - 1) (by omega) (by omega)]
  refine WD.step (s3.run hN (by omega) 3) (WD.inl ⟨by dsimp only;omega,by dsimp only;omega,?_⟩ (by dsimp only;omega))
  have h2:=s3.step 3
  exact ⟨h2.a,Nat.le_trans h2.g (by dsimp only;omega)⟩
theorem BQ {N:Nat} (hN:iy≤N) {b:List U8} {i h:Int} (hb:b.length≤1048576) (hi:0≤i):WD (qu N ⟨b,i,h⟩) (fun r=>0≤r.2.i∧Hw r.1 600):=by
  unfold qu
  dsimp only
  refine WD.bind (A1 hN hb hi) fun l ⟨l1,l2⟩=>WD.bind (iR hb l1 16 (by decide)) fun m ⟨m1,_,_⟩=>?_
  have g:=l2.g
  refine WD.bind (P:=fun j=>0≤j.2.1∧Aw j.2.2.2.1∧j.1.length≤600) ?_ fun j ⟨j1,j2,j3⟩=>WD.ret ⟨j1,j2,j3⟩
  refine WD.ite (fun _=>WD.bind (Av hN hb m1) fun y ⟨y1,y2⟩=>WD.ret ⟨y1,y2,by dsimp only;omega⟩) fun _=>?_
  refine WD.ite (fun _=>WD.bind (iR hb m1 12 (by decide)) fun y ⟨y1,_,_⟩=>WD.ret ⟨y1,l2.a,by dsimp only;omega⟩) fun _=>?_
  refine WD.ite (fun _=>WD.bind (iR hb m1 12 (by decide)) fun y ⟨y1,_,_⟩=>WD.step (sy (by omega)) (WD.ret ⟨y1,l2.a,by simp only [List.length_append,List.length_cons,List.length_nil];omega⟩)) fun _=>?_
  refine WD.ite (fun _=>WD.bind (iR hb m1 4 (by decide)) fun y ⟨y1,_,_⟩=>WD.ret ⟨y1,l2.a,by dsimp only;omega⟩) fun _=>?_
  exact WD.ite (fun _=>WD.bind (kI hb m1 (by decide)) fun y ⟨y1,_⟩=>WD.ret ⟨y1,l2.a,by dsimp only;omega⟩) fun _=>WD.ret ⟨m1,l2.a,by dsimp only;omega⟩
def Pw (p:ia):Prop:=je p≤20000∧wP p
theorem FW {p:ia} (h1:p.label.levels.length≤5) (h2:p.own.length≤5) (h3:p.tree.length≤5) (h4:Hw p.heap 600) (h5:p.iz.length≤4):Pw p:=by
  refine ⟨?_,h4.a.w⟩
  have:=h4.a.sz
  have:=h4.g
  unfold je ml oH l6
  omega
structure Pq (p:ia):Prop where
  la:p.label.levels.length≤5
  ow:p.own.length≤5
  tr:p.tree.length≤5
  hp:Hw p.heap 600
  ta:p.iz.length≤4
theorem Pq.pw {p:ia} (h:Pq p):Pw p:=FW h.la h.ow h.tr h.hp h.ta
theorem EN {N:Nat} (hN:iy≤N) {b:List U8} {i h:Int} (hb:b.length≤1048576) (hi:0≤i):WD (oX N ⟨b,i,h⟩) (fun r=>0≤r.2.i∧Pq r.1):=by
  unfold oX
  dsimp only
  refine WD.bind (zT hN hb hi) fun l ⟨l1,l2⟩=>WD.bind (Bf hN hb l1) fun t ⟨t1,t2⟩=>WD.bind (A1 hN hb t1) fun q ⟨q1,q2⟩=>WD.bind (iR hb q1 10 (by decide)) fun x ⟨x1,_,_⟩=>WD.bind (kI hb x1 (by decide)) fun y ⟨y1,_⟩=>WD.bind (iR hb y1 4 (by decide)) fun z ⟨z1,_,_⟩=>WD.bind (iR hb z1 3 (by decide)) fun u ⟨u1,_,_⟩=>WD.bind (iR hb u1 3 (by decide)) fun n ⟨n1,n2,n3⟩=>?_
  refine WD.bind (WD.loop (fun s=>0≤s.1∧0≤s.2.1∧(s.2.2.2.length:Int)+s.1≤2) (fun r=>0≤r.2.1∧r.2.2.2.length≤2) (fun s=>s.1.toNat) ⟨n2,n1,by simp only [List.length_nil];omega⟩ (qw hN (by dsimp only;omega)) ?_) fun r ⟨r1,r2⟩=>?_
  · rintro ⟨k,i,h,t⟩ ⟨s1,s3,s4⟩
    dsimp only at *
    refine WD.ite (fun c=>?_) (fun c=>WD.inr ⟨s3,by dsimp only;omega⟩)
    have c:=of_decide_eq_true c
    rw [iM (n:=k - 1) (by omega) (by omega)]
    exact WD.bind (CB hb s3) fun z z1=>WD.step (A0 _ _) (WD.ite (fun _=>WD.step (sy (by omega)) (WD.inl ⟨by dsimp only;omega,z1,by simp only [List.length_append,List.length_cons,List.length_nil];omega⟩ (by dsimp only;omega))) fun _=>WD.inl ⟨by dsimp only;omega,z1,by dsimp only;omega⟩ (by dsimp only;omega))
  · exact WD.bind (A6 hb r1) fun a ⟨a1,_⟩=>WD.ret ⟨a1,by have:=wO l2;dsimp only;omega,by simp,by dsimp only;omega,⟨q2.a,Nat.le_trans q2.g (by decide)⟩,by dsimp only;omega⟩
theorem BC {N:Nat} (hN:iy≤N) {b:List U8} {i h:Int} (hb:b.length≤1048576) (hi:0≤i):WD (qM N ⟨b,i,h⟩) (fun r=>0≤r.2.i∧Pq r.1):=by
  unfold qM
  dsimp only
  refine WD.bind (EN hN hb hi) fun p ⟨p1,p2⟩=>WD.bind (iR hb p1 20 (by decide)) fun m ⟨m1,_,_⟩=>?_
  obtain ⟨la,ow,tr,hp,ta⟩:=p2
  refine WD.bind (P:=fun j=>0≤j.2.1∧j.1.length≤4∧j.2.2.2.1.length≤5∧j.2.2.2.2.1.length≤5∧j.2.2.2.2.2.1.length≤5∧Hw (ic.mk j.2.2.2.2.2.2.1 (jH.mk j.2.2.2.2.2.2.2.1 j.2.2.2.2.2.2.2.2.1 j.2.2.2.2.2.2.2.2.2.1 j.2.2.2.2.2.2.2.2.2.2.1)) 600) ?_ fun j ⟨j1,j2,j3,j4,j5,j6⟩=>WD.ret ⟨j1,j3,j4,j5,j6,j2⟩
  refine WD.ite (fun _=>WD.bind (Bm hN hb m1) fun y ⟨y1,y2⟩=>WD.ret ⟨y1,ta,la,ow,y2,hp⟩) fun _=>?_
  refine WD.ite (fun _=>WD.bind (BQ hN hb m1) fun y ⟨y1,y2⟩=>WD.ret ⟨y1,ta,la,ow,tr,y2⟩) fun _=>?_
  refine WD.ite (fun _=>WD.bind (Af hN hb m1) fun y ⟨y1,y2⟩=>WD.ret ⟨y1,ta,y2,ow,tr,hp⟩) fun _=>?_
  refine WD.ite (fun _=>WD.bind (E1 hN hb m1) fun y ⟨y1,y2⟩=>WD.ret ⟨y1,ta,la,y2,tr,hp⟩) fun _=>?_
  refine WD.ite (fun _=>WD.bind (kI hb m1 (by decide)) fun y ⟨y1,_⟩=>WD.ret ⟨y1,ta,la,ow,tr,hp⟩) fun _=>?_
  refine WD.ite (fun _=>?_) fun _=>?_
  · refine WD.bind (WD.loop (fun s=>s.1.length≤4∧0≤s.2.1) (fun r=>r.1.length≤4∧0≤r.2.1) (fun s=>4 - s.1.length) ⟨ta,m1⟩ (qw hN (by dsimp only;omega)) ?_) fun r ⟨r1,r2⟩=>WD.ret ⟨r2,r1,la,ow,tr,hp⟩
    rintro ⟨t,i,h⟩ ⟨s1,s2⟩
    dsimp only at *
    refine WD.ite (fun c=>?_) (fun c=>WD.inr ⟨s1,s2⟩)
    have c:=of_decide_eq_true c
    exact WD.bind (CB hb s2) fun z z1=>WD.step (sy (by omega)) (WD.inl ⟨by simp only [List.length_append,List.length_cons,List.length_nil];omega,z1⟩ (by simp only [List.length_append,List.length_cons,List.length_nil];omega))
  refine WD.ite (fun _=>WD.bind (kI hb m1 (by decide)) fun y ⟨y1,_⟩=>WD.ret ⟨y1,ta,la,ow,tr,hp⟩) fun _=>?_
  exact WD.ite (fun _=>WD.bind (CU hb m1) fun y y1=>WD.ret ⟨y1,ta,la,ow,tr,hp⟩) fun _=>WD.ret ⟨m1,ta,la,ow,tr,hp⟩
theorem yi {N:Nat} (hN:iy≤N) {b:List U8} {i h:Int} (hb:b.length≤1048576) (hi:0≤i) (p:ia) (me:Int):WD (kO N ⟨b,i,h⟩ p me) (fun r=>0≤r.2.i):=by
  unfold kO
  dsimp only
  refine WD.bind (P:=fun j=>0≤j.2.1∧(j.1=false→(p.heap.ag.length:Int)=10)) ?_ fun j ⟨hj,hl⟩=>?_
  · refine WD.ite (fun _=>WD.ret ⟨hi,by simp⟩) fun c=>WD.bind (mg hb hi 15) fun y y1=>WD.ret ⟨y1,fun _=>by simpa using c⟩
  refine WD.ite (fun _=>WD.bind (ER hb hj) fun y y1=>WD.ret y1) fun c=>?_
  have hl:=hl c
  refine WD.bind (iR hb hj 10 (by decide)) fun y ⟨y1,y2,y3⟩=>?_
  refine WD.bind (WD.loop (fun s=>0≤s.1∧s.1<10∧0≤s.2.1∧s.2.1≤4∧0≤s.2.2.1) (fun r=>0≤r.1∧r.1<10∧0≤r.2.2.1) (fun s=>(4 - s.2.1).toNat) ⟨y2,y3,Int.le_refl _,by simp,y1⟩ (qw hN (by simp)) ?_) fun r ⟨r1,r2,r3⟩=>?_
  · rintro ⟨k,n,i,h⟩ ⟨s1,s2,s3,s4,s5⟩
    dsimp only at *
    refine WD.bind (P:=fun j=>j=true→n<4) ?_ fun j hj=>WD.ite (fun c=>?_) fun _=>WD.inr ⟨s1,s2,s5⟩
    · refine WD.ite (fun c=>?_) fun _=>WD.ret (by simp)
      exact WD.bind (k6 s1 (by omega)) fun y _=>WD.ret fun _=>of_decide_eq_true c
    · have:=hj c
      rw [iM (n:=n+1) (by omega) (by omega)]
      exact WD.bind (iR hb s5 10 (by decide)) fun y ⟨y1,y2,y3⟩=>WD.inl ⟨y2,y3,by dsimp only;omega,by dsimp only;omega,y1⟩ (by dsimp only;omega)
  · exact WD.bind (k6 r1 (by omega)) fun z _=>WD.bind (mg hb r3 20) fun y y1=>WD.bind (P:=fun _=>True) (WD.ite (fun _=>WD.ret trivial) fun _=>WD.ret trivial) fun j _=>WD.step (sa _ _ _ _) (WD.ret y1)
theorem FO {N:Nat} (hN:iy≤N) {b:List U8} {i h:Int} (hb:b.length≤1048576) (hi:0≤i) {p:ia} (hp:p.heap.ag.length≤1000000) (me k:Int):WD (nq N ⟨b,i,h⟩ p me k) (fun r=>0≤r.2.i):=by
  unfold nq
  dsimp only
  refine WD.bind (WD.loop (fun s=>0≤s.1∧s.1≤(p.heap.ag.length:Int)∧0≤s.2.1) (fun r=>Sum.elim (fun s=>0≤s.2.1) (fun r=>0≤r.2.i) r) (fun s=>((p.heap.ag.length:Int) - s.1).toNat) ⟨Int.le_refl _,by dsimp only;omega,hi⟩ (qw hN (by dsimp only;omega)) ?_) fun r hr=>?_
  · rintro ⟨k,i,h⟩ ⟨s1,s2,s3⟩
    dsimp only at *
    refine WD.ite (fun c=>?_) (fun c=>WD.inr s3)
    have c:=of_decide_eq_true c
    rw [iM (n:=k+1) (by omega) (by omega)]
    refine WD.bind (P:=fun j=>0≤j.2.1) ?_ fun j hj=>WD.ite (fun _=>?_) fun _=>WD.inl ⟨by dsimp only;omega,by dsimp only;omega,hj⟩ (by dsimp only;omega)
    · exact WD.bind (k6 s1 c) fun y _=>WD.ite (fun _=>WD.bind (mg hb s3 2) fun z z1=>WD.ret z1) fun _=>WD.ret s3
    · exact WD.bind (k6 s1 c) fun y _=>WD.step (sa _ _ _ _) (WD.inr hj)
  · cases r with
    | inl s =>
      simp only [Sum.elim_inl] at *
      exact WD.bind (yi hN hb hr _ _) fun y y1=>WD.ret y1
    | inr s =>
      simp only [Sum.elim_inr] at *
      exact WD.ret hr
theorem EO {N:Nat} (hN:iy≤N) {b:List U8} {i h:Int} (hb:b.length≤1048576) (hi:0≤i) {p:ia} (hp:p.heap.ag.length≤1000000) (me:Int):WD (pA N ⟨b,i,h⟩ p me) (fun r=>0≤r.2.i):=by
  unfold pA
  dsimp only
  refine WD.bind (iR hb hi 17 (by decide)) fun k ⟨k1,_,_⟩=>WD.bind (mg hb k1 3) fun m m1=>WD.bind (P:=fun _=>True) (WD.ite (fun _=>WD.ret trivial) fun _=>WD.ret trivial) fun j _=>WD.bind (P:=fun j=>0≤j.1) ?_ fun j hj=>WD.bind (iR hb hj 40 (by decide)) fun n ⟨n1,_,_⟩=>WD.bind (P:=fun j=>0≤j.1) ?_ fun j hj=>WD.ret hj
  · repeat' first
      | exact WD.ret (by assumption)
      | exact WD.ret trivial
      | refine WD.ite (fun _=>?_) (fun _=>?_)
      | refine WD.bind (iR hb (by assumption) _ (by decide)) fun y ⟨_,_,_⟩=>?_
      | refine WD.bind (kI hb (by assumption) (by decide)) fun y ⟨_,_⟩=>?_
      | refine WD.bind (yi hN hb (by assumption) _ _) fun y _=>?_
      | refine WD.bind (FO hN hb (by assumption) hp _ _) fun y _=>?_
      | refine WD.bind (P:=fun (_:Bool)=>True) ?_ fun y _=>?_
  · repeat' first
      | exact WD.ret (by assumption)
      | refine WD.ite (fun _=>?_) (fun _=>?_)
      | refine WD.bind (kI hb (by assumption) (by decide)) fun y ⟨_,_⟩=>?_
theorem z9 (l:List bh) (now:Int) (h:ic) (k:Int):(jm l now h k).ag.length=h.ag.length:=by
  unfold jm ku
  split
  · rfl
  split
  · simp only [List.length_set]
  · rfl
theorem wK (l:List bh) (now:Int):∀ (e:List Int) (h:ic),(e.foldl (jm l now) h).ag.length=h.ag.length
  | [],_=>rfl
  | k::e,h=>by
    rw [List.foldl_cons,wK l now e,z9]
theorem zP (h:ic) (now:Int):(ly h now).ag.length=h.ag.length:=by
  unfold ly
  split
  · rfl
  split
  · rfl
  · rw [wK]
    simp only [List.length_set]
theorem Dq (h:ic) (now:Int):(jd h now).1.ag.length=h.ag.length:=by
  unfold jd
  split
  · split
    · unfold ka
      split
      · simp only [nK,List.length_set,rU]
      · exact rU h now
    · exact zP h now
  · rfl
structure Lq (p:ia) (n:Nat):Prop where
  sz:je p≤n
  w:wP p
  len:p.heap.ag.length=10
theorem Lq.call {p:ia} {n:Nat} (h:Lq p n) (hn:n≤1000000) (me now th:Int) (c:jh):Lq (n9 p me now th c).1 (n+300):=by
  have h0:=h.sz
  obtain ⟨a,b⟩:=Ez (p:=p) (by omega) h.w me now th c
  exact ⟨by omega,b,by rw [De (by omega) h.w];exact h.len⟩
theorem DN {p:ia} {n:Nat} (h:je p≤n):jr iu p.heap.ag+p.heap.gc.gE.length≤n:=by
  unfold je ml oH at h
  omega
theorem Lq.step {p:ia} {n:Nat} (h:Lq p n) (now:Int):Lq (lN p (jd p.heap now).1) (n+10):=by
  obtain ⟨a,b,c,_⟩:=nt (h:=p.heap) h.w now
  refine ⟨?_,b,by show (jd p.heap now).1.ag.length=10;rw [Dq];exact h.len⟩
  have h0:=h.sz
  unfold je ml oH at *
  show l6 p.label+_≤_
  simp only [lN]
  omega
theorem Lq.run {N:Nat} (hN:iy≤N) {p:ia} {n:Nat} (h:Lq p n) (hn:n≤1000000) (now:Int):lX N p.heap now=some (jd p.heap now):=by
  have h1:=DN h.sz
  have:(16777216:Nat)=iy:=rfl
  exact wq hN (by omega) h.w (by omega) now
theorem Lq.up {p:ia} {n m:Nat} (h:Lq p n) (hm:n≤m):Lq p m:=⟨Nat.le_trans h.sz hm,h.w,h.len⟩
theorem Lq.pw {p:ia} {n:Nat} (h:Lq p n) (hn:n≤20000):Pw p:=⟨Nat.le_trans h.sz hn,h.w⟩
theorem Lq.waits {p:ia} {n:Nat} (h:Lq p n) {x:Int} (hx:-9223372036854775808≤x):Lq (lN p (ic.mk (p.heap.ag.set (1:Int).toNat (waiting (nth p.heap.ag 1) x)) p.heap.gc)) n:=by
  have hl:=h.len
  have hs:jr iu (p.heap.ag.set (1:Int).toNat (waiting (nth p.heap.ag 1) x))=jr iu p.heap.ag:=mS (by decide) (by rw [hl];decide) rfl
  refine ⟨?_,kB h.w hx,by show (List.set _ _ _).length=10;rw [List.length_set];exact hl⟩
  have h0:=h.sz
  unfold je ml oH at *
  simp only [lN,hs]
  exact h0
def pS (s:Int×Int×Int×(List Int)×(List Int)×(List iq)×(List bh)×Int×Int×Int×(List Int)×(List jE)×Int×Int×Int×Int×Int×Int×Int):ia:=ia.mk (jJ.mk s.2.2.2.1) s.2.2.2.2.1 s.2.2.2.2.2.1 (ic.mk s.2.2.2.2.2.2.1 (jH.mk s.2.2.2.2.2.2.2.1 s.2.2.2.2.2.2.2.2.1 s.2.2.2.2.2.2.2.2.2.1 s.2.2.2.2.2.2.2.2.2.2.1)) s.2.2.2.2.2.2.2.2.2.2.2.1 s.2.2.2.2.2.2.2.2.2.2.2.2.1 s.2.2.2.2.2.2.2.2.2.2.2.2.2.1 (iw.mk s.2.2.2.2.2.2.2.2.2.2.2.2.2.2.1 s.2.2.2.2.2.2.2.2.2.2.2.2.2.2.2.1 s.2.2.2.2.2.2.2.2.2.2.2.2.2.2.2.2.1) s.2.2.2.2.2.2.2.2.2.2.2.2.2.2.2.2.2.1 s.2.2.2.2.2.2.2.2.2.2.2.2.2.2.2.2.2.2
def pJ (s:(List Int)×(List Int)×(List iq)×(List bh)×Int×Int×Int×(List Int)×(List jE)×Int×Int×Int×Int×Int×Int×Int×Int×Int):ia:=ia.mk (jJ.mk s.1) s.2.1 s.2.2.1 (ic.mk s.2.2.2.1 (jH.mk s.2.2.2.2.1 s.2.2.2.2.2.1 s.2.2.2.2.2.2.1 s.2.2.2.2.2.2.2.1)) s.2.2.2.2.2.2.2.2.1 s.2.2.2.2.2.2.2.2.2.1 s.2.2.2.2.2.2.2.2.2.2.1 (iw.mk s.2.2.2.2.2.2.2.2.2.2.2.1 s.2.2.2.2.2.2.2.2.2.2.2.2.1 s.2.2.2.2.2.2.2.2.2.2.2.2.2.1) s.2.2.2.2.2.2.2.2.2.2.2.2.2.2.1 s.2.2.2.2.2.2.2.2.2.2.2.2.2.2.2.1
def pK (s:Int×Int×(List Int)×(List Int)×(List iq)×(List bh)×Int×Int×Int×(List Int)×(List jE)×Int×Int×Int×Int×Int×Int×Int):ia:=ia.mk (jJ.mk s.2.2.1) s.2.2.2.1 s.2.2.2.2.1 (ic.mk s.2.2.2.2.2.1 (jH.mk s.2.2.2.2.2.2.1 s.2.2.2.2.2.2.2.1 s.2.2.2.2.2.2.2.2.1 s.2.2.2.2.2.2.2.2.2.1)) s.2.2.2.2.2.2.2.2.2.2.1 s.2.2.2.2.2.2.2.2.2.2.2.1 s.2.2.2.2.2.2.2.2.2.2.2.2.1 (iw.mk s.2.2.2.2.2.2.2.2.2.2.2.2.2.1 s.2.2.2.2.2.2.2.2.2.2.2.2.2.2.1 s.2.2.2.2.2.2.2.2.2.2.2.2.2.2.2.1) s.2.2.2.2.2.2.2.2.2.2.2.2.2.2.2.2.1 s.2.2.2.2.2.2.2.2.2.2.2.2.2.2.2.2.2
theorem FA {b:pN} (h:qX b≤100):Lq (tw b) 120:=by
  refine ⟨by rw [wE];omega,fun o ho=>?_,rfl⟩
  have:∀ o ∈ CL, -9223372036854775808≤o.wait:=by decide
  exact this o ho
theorem Ey {N:Nat} (hN:iy≤N) {b:List U8} {i h:Int} (hb:b.length≤1048576) (hi:0≤i) (me:Int):WD (pq N ⟨b,i,h⟩ me) (fun r=>0≤r.2.i∧Lq r.1 8000):=by
  unfold pq
  dsimp only
  refine WD.bind (Es hN hb hi) fun q ⟨q1,q2,q3,_⟩=>WD.step (Cd hN (by omega)) ?_
  rw [show vv q.1=(tw q.1,true) from by unfold vv;rw [if_pos q2]]
  refine WD.bind (iR hb q1 25 (by decide)) fun n ⟨n1,n2,n3⟩=>?_
  refine WD.bind (WD.loop (fun s=>0≤s.1∧s.1≤24∧0≤s.2.1∧Lq (pS s) (8000 - 310 * s.1.toNat)) (fun r=>0≤r.2.1∧Lq (pS r) 8000) (fun s=>s.1.toNat) ⟨n2,by dsimp only;omega,n1,(FA q3).up (by dsimp only;omega)⟩ (qw hN (by dsimp only;omega)) ?_) fun r ⟨r1,r2⟩=>WD.ret ⟨r1,r2⟩
  rintro ⟨k,i,h,l,o,t,a,ph,po,ro,g,tp,nx,wa,sp,sr,sc,pr,lo⟩ ⟨s1,s2,s3,s4⟩
  dsimp only [pS] at *
  refine WD.ite (fun c=>?_) fun _=>WD.inr ⟨s3,s4.up (by omega)⟩
  have c:=of_decide_eq_true c
  rw [iM (n:=k - 1) (by omega) (by omega)]
  have ha:a.length=10:=s4.len
  refine WD.bind (P:=fun j=>0≤j.2.2.2.2.2.2.2.2.2.2.2.2.2.2.2.2.1∧Lq (pJ j) (8300 - 310 * k.toNat)) ?_ fun j hj=>?_
  · exact WD.bind (EO hN hb s3 (by dsimp only;omega) _) fun y y1=>WD.step (BE hN (Nat.le_trans s4.sz (by omega)) s4.w _ _ _ _) (WD.ret ⟨y1,(s4.call (by omega) _ _ _ _).up (by omega)⟩)
  obtain ⟨l,o,t,a,ph,po,ro,g,tp,nx,wa,sp,sr,sc,pr,lo,i,h⟩:=j
  obtain ⟨j1,j2⟩:=hj
  dsimp only [pJ] at *
  refine WD.bind (mg hb j1 3) fun y y1=>WD.bind (P:=fun (j:(List bh)×Int×Int×Int×(List Int))=>Lq (ia.mk (jJ.mk l) o t (ic.mk j.1 (jH.mk j.2.1 j.2.2.1 j.2.2.2.1 j.2.2.2.2)) tp nx wa (iw.mk sp sr sc) pr lo) (8310 - 310 * k.toNat)) (WD.ite (fun _=>WD.step (j2.run hN (by omega) 3) (WD.ret ((j2.step 3).up (by omega)))) fun _=>WD.ret (j2.up (by omega))) fun j hj=>?_
  obtain ⟨a,ph,po,ro,g⟩:=j
  dsimp only at *
  have ha:a.length=10:=hj.len
  refine WD.bind (P:=fun j=>0≤j.2.1) ?_ fun m m1=>WD.ite (fun _=>?_) fun _=>WD.inl ⟨by dsimp only;omega,by dsimp only;omega,m1,hj.up (by dsimp only;omega)⟩ (by dsimp only;omega)
  · exact WD.bind (k6 (by decide) (by omega)) fun z _=>WD.ite (fun _=>WD.bind (mg hb y1 2) fun u u1=>WD.ret u1) fun _=>WD.ret y1
  · exact WD.step (jk (by decide) (by omega)) (WD.step rfl (WD.inl ⟨by dsimp only;omega,by dsimp only;omega,m1,(hj.waits (x:=0) (by decide)).up (by dsimp only;omega)⟩ (by dsimp only;omega)))
theorem FB {N:Nat} (hN:iy≤N) {l:List U8} (hl:l.length≤1048576):WD (qk N l) (fun r=>0≤r.i):=by
  obtain ⟨h,e⟩:=FT hN hl
  exact ⟨_,e,Int.le_refl _⟩
theorem xo {N:Nat} (hN:iy≤N) {l:List U8} (hl:l.length≤1048576):WD (lu N l) (fun r=>Pw r.1∧0≤r.2.1∧r.2.1<30):=by
  unfold lu
  refine WD.bind (FB hN hl) fun c c1=>WD.bind (Ey hN hl c1 0) fun p ⟨p1,p2⟩=>WD.bind (mg hl p1 4) fun y y1=>?_
  refine WD.bind (P:=fun j=>0≤j.1∧Pw (pK j)) (WD.ite (fun _=>WD.bind (BC hN hl y1) fun z ⟨z1,z2⟩=>WD.ret ⟨z1,z2.pw⟩) fun _=>WD.ret ⟨y1,p2.pw (by decide)⟩) fun j ⟨j1,j2⟩=>?_
  exact WD.bind (iR hl j1 30 (by decide)) fun a ⟨a1,a2,a3⟩=>WD.bind (kI hl a1 (by decide)) fun b ⟨b1,_⟩=>WD.ret ⟨j2,a2,a3⟩
theorem Pw.waits {p:ia} (h:Pw p) (hl:(p.heap.ag.length:Int)=10) {x:Int} (hx:-9223372036854775808≤x):Pw (lN p (ic.mk (p.heap.ag.set (1:Int).toNat (waiting (nth p.heap.ag 1) x)) p.heap.gc)) :=
  (Lq.waits (n:=20000) ⟨h.1,h.2,by omega⟩ hx).pw (by decide)
end Go.Kx
