import Derived.Test.YtlcgibcdiikheaaGreatLCall
namespace Go.Kx
open Go
set_option linter.unusedVariables false
set_option linter.unusedSimpArgs false
set_option maxRecDepth 10000
def WD {α:Type} (o:Option α) (Q:α→Prop):Prop:=∃ a,o=some a∧Q a
theorem WD.bind {α β:Type} {o:Option α} {f:α→Option β} {P:α→Prop} {Q:β→Prop} (h:WD o P) (k:∀ a,P a→WD (f a) Q):WD (o.bind f) Q:=by
  obtain ⟨a,rfl,ha⟩:=h;exact k a ha
theorem WD.step {α β:Type} {o:Option α} {a:α} {f:α→Option β} {Q:β→Prop} (e:o=some a) (k:WD (f a) Q):WD (o.bind f) Q:=by
  rw [e];exact k
theorem WD.ite {α:Type} {c:Bool} {a b:Option α} {Q:α→Prop} (h1:c=true→WD a Q) (h2:c=false→WD b Q):WD (bif c then a else b) Q:=by
  cases c
  · exact h2 rfl
  · exact h1 rfl
theorem WD.ret {α:Type} {a:α} {Q:α→Prop} (h:Q a):WD (some a) Q:=⟨a,rfl,h⟩
theorem WD.mono {α:Type} {o:Option α} {P Q:α→Prop} (h:WD o P) (k:∀ a,P a→Q a):WD o Q:=by
  obtain ⟨a,e,ha⟩:=h;exact ⟨a,e,k a ha⟩
def NO {σ ρ:Type} (I:σ→Prop) (J:ρ→Prop) (μ:σ→Nat) (m:Nat) (o:σ⊕ρ):Prop:=(∀ s',o=.inl s'→I s'∧μ s'<m)∧∀ r,o=.inr r→J r
theorem WD.inl {σ ρ:Type} {I:σ→Prop} {J:ρ→Prop} {μ:σ→Nat} {m:Nat} {s:σ} (h1:I s) (h2:μ s<m):WD (some (.inl s:σ⊕ρ)) (NO I J μ m) :=
  ⟨_,rfl,fun s' e=>by cases Sum.inl.inj e;exact ⟨h1,h2⟩,fun r e=>by cases e⟩
theorem WD.inr {σ ρ:Type} {I:σ→Prop} {J:ρ→Prop} {μ:σ→Nat} {m:Nat} {r:ρ} (h:J r):WD (some (.inr r:σ⊕ρ)) (NO I J μ m) :=
  ⟨_,rfl,fun s' e=>by (cases e),fun r e=>by cases Sum.inr.inj e;exact h⟩
theorem WD.loop {σ ρ:Type} {body:σ→Option (σ⊕ρ)} (I:σ→Prop) (J:ρ→Prop) (μ:σ→Nat) {N:Nat} {s:σ} (h0:I s) (hN:μ s<N) (h:∀ s,I s→WD (body s) (NO I J μ (μ s))):WD (iter body N s) J :=
  xj I J μ (fun s hs=>by obtain ⟨o,ho,h1,h2⟩:=h s hs;exact ⟨o,ho,h1,h2⟩) N s h0 hN
theorem sx {N n:Nat} (hN:ir≤N) (h:n<16777216):n<N:=Nat.lt_of_lt_of_le h hN
theorem iT {N:Nat} {b:List U8} {i h:Int} (hb:b.length≤1048576) (hi:0≤i) (n:Int) (hn:0<n):WD (iv N ⟨b,i,h⟩ n) (fun r=>0≤r.2.i∧0≤r.1∧r.1<n):=by
  obtain ⟨x,i',h',e,a1,a2,a3,_⟩:=ub (N:=N) (c:=⟨b,i,h⟩) ⟨hb,hi⟩ n;exact ⟨_,e,a1,a2,a3 hn⟩
theorem mh {N:Nat} {b:List U8} {i h:Int} (hb:b.length≤1048576) (hi:0≤i) (n:Int):WD (jK N ⟨b,i,h⟩ n) (fun r=>0≤r.2.i):=by
  obtain ⟨x,i',h',e,a1⟩:=Ds (N:=N) (c:=⟨b,i,h⟩) ⟨hb,hi⟩ n;exact ⟨_,e,a1⟩
theorem lG {N:Nat} {b:List U8} {i h:Int} (hb:b.length≤1048576) (hi:0≤i) {l:List Int} (hl:0<l.length):WD (jc N ⟨b,i,h⟩ l) (fun r=>0≤r.2.i∧r.1 ∈ l):=by
  obtain ⟨x,i',h',e,a1,a2⟩:=yW (N:=N) (c:=⟨b,i,h⟩) ⟨hb,hi⟩ hl;exact ⟨_,e,a1,a2⟩
theorem ly {α:Type} {l:List α} {i:Int} (h0:0≤i) (h1:i<(l.length:Int)):WD (idx l i) (fun y=>y ∈ l):=by
  obtain ⟨y,e,hy⟩:=yR h0 h1;exact ⟨y,e,hy⟩
theorem JR {α:Type} {l:List α} {k:Int} (h0:0≤k) (h1:k≤(l.length:Int)):WD (sub l 0 k) (fun r=>r.length≤l.length∧∀ y,y ∈ r→y ∈ l):=by
  refine ⟨(l.drop (0:Int).toNat).take (k.toNat - (0:Int).toNat),by unfold sub;rw [if_pos ⟨Int.le_refl _,h0,h1⟩],?_,fun y hy=>?_⟩
  · simp only [List.length_take,List.length_drop];omega
  · exact List.mem_of_mem_drop (List.mem_of_mem_take hy)
theorem Eu {N:Nat} (hN:ir≤N) {b:List U8} {i h:Int} (hb:b.length≤1048576) (hi:0≤i):WD (n5 N ⟨b,i,h⟩) (fun r=>0≤r.2.i∧jH r.1=true):=by
  obtain ⟨x,i',h',e,a1,a2,a3⟩:=GF (N:=N) hN (c:=⟨b,i,h⟩) ⟨hb,hi⟩;refine ⟨_,e,a1,?_⟩;unfold jH;simp only [PY,beq_iff_eq,List.all_eq_true,iS];exact ⟨by omega,a3⟩
theorem MO {N:Nat} (hN:ir≤N) {b:List U8} {i h:Int} (hb:b.length≤1048576) (hi:0≤i):WD (tX N ⟨b,i,h⟩) (fun r=>0≤r.2.i∧r.1.length≤5):=by
  obtain ⟨x,i',h',e,a1,a2⟩:=Oc (N:=N) hN (c:=⟨b,i,h⟩) ⟨hb,hi⟩;exact ⟨_,e,a1,a2⟩
theorem Ic {N:Nat} {b:List U8} {i h:Int} (hb:b.length≤1048576) (hi:0≤i):WD (tI N ⟨b,i,h⟩) (fun r=>0≤r.2.i):=by
  obtain ⟨x,i',h',e,a1⟩:=Of (N:=N) (c:=⟨b,i,h⟩) ⟨hb,hi⟩;exact ⟨_,e,a1⟩
theorem EP {N:Nat} (hN:ir≤N) {b:List U8} {i h:Int} (hb:b.length≤1048576) (hi:0≤i):WD (tQ N ⟨b,i,h⟩) (fun r=>0≤r.2.i∧r.1.PA.length≤5):=by
  obtain ⟨x,i',h',e,a1,a2⟩:=HD (N:=N) hN (c:=⟨b,i,h⟩) ⟨hb,hi⟩;exact ⟨_,e,a1,a2⟩
theorem uA {l:jE} (h:jH l=true):l.PA.length=4:=by
  unfold jH at h;simp only [PY,beq_iff_eq] at h;omega
theorem Gi {N:Nat} (hN:ir≤N) {b:List U8} {i h:Int} (hb:b.length≤1048576) (hi:0≤i):WD (qQ N ⟨b,i,h⟩) (fun r=>0≤r.2.i∧BV r.1=true∧lL r.1≤100∧(0≤r.1.kh.bh∧r.1.kh.bh≤1000)∧(0≤r.1.kh.ib∧r.1.kh.ib≤1000)∧(0≤r.1.kh.ij∧r.1.kh.ij≤1000)):=by
  unfold qQ;dsimp only;refine WD.bind (Eu hN hb hi) fun l ⟨l1,l2⟩=>WD.bind (iT hb l1 25 (by decide)) fun x ⟨x1,x2,x3⟩=>WD.bind (iT hb x1 900 (by decide)) fun y ⟨y1,y2,y3⟩=>WD.bind (iT hb y1 60 (by decide)) fun z ⟨z1,z2,z3⟩=>WD.ret ⟨z1,?_,?_,⟨by dsimp only;omega,by dsimp only;omega⟩,⟨by dsimp only;omega,by dsimp only;omega⟩,⟨by dsimp only;omega,by dsimp only;omega⟩⟩
  · unfold BV iU v7;simp only [PY,iS];exact ⟨⟨by omega,by omega,by omega⟩,l2,rfl⟩
  · have:=uA l2;unfold lL m6;simp only [List.length_nil];omega
theorem GG {N:Nat} {b:List U8} {i h:Int} (hb:b.length≤1048576) (hi:0≤i):WD (tL N ⟨b,i,h⟩) (fun r=>0≤r.2.i∧iU r.1=true):=by
  unfold tL;dsimp only;refine WD.bind (iT hb hi 40 (by decide)) fun x ⟨x1,x2,x3⟩=>WD.bind (iT hb x1 400 (by decide)) fun y ⟨y1,y2,y3⟩=>WD.bind (iT hb y1 60 (by decide)) fun z ⟨z1,z2,z3⟩=>WD.ret ⟨z1,?_⟩;unfold iU v7;simp only [PY,iS];omega
theorem Gr {N:Nat} (hN:ir≤N) {b:List U8} {i h:Int} (hb:b.length≤1048576) (hi:0≤i):WD (sj N ⟨b,i,h⟩) (fun r=>0≤r.2.i∧r.1.length=5):=by
  unfold sj;dsimp only;refine WD.bind (GG hb hi) fun y ⟨h1,h2⟩=>WD.step (B4 _ _) ?_;rw [if_pos h2];refine WD.bind (iT hb h1 7 (by decide)) fun n ⟨n1,n2,n3⟩=>?_;refine WD.bind (WD.loop (fun s=>s.1.length=5∧0≤s.2.1∧s.2.1≤6∧0≤s.2.2.1) (fun r=>r.1.length=5∧0≤r.2.2.1) (fun s=>s.2.1.toNat) ⟨rfl,n2,by dsimp only;omega,n1⟩ (sx hN (by dsimp only;omega)) ?_) fun r ⟨r1,r2⟩=>WD.ret ⟨r2,r1⟩;rintro ⟨t,k,i,h⟩ ⟨s1,s2,s3,s4⟩;dsimp only at *;refine WD.ite (fun c=>?_) (fun c=>WD.inr ⟨s1,s4⟩);have c:=of_decide_eq_true c;have hB:(16777216:Nat)=ir:=rfl;rw [iE (n:=k - 1) (by omega) (by omega)];refine WD.bind (iT hb s4 5 (by decide)) fun y ⟨y1,y2,y3⟩=>WD.bind (mh hb y1 4) fun z z1=>WD.ite (fun _=>?_) (fun _=>?_)
  · exact WD.step (Ap hN (by omega) _) (WD.inl ⟨by dsimp only;rw [yo];exact s1,by dsimp only;omega,by dsimp only;omega,z1⟩ (by dsimp only;omega))
  · refine WD.bind (iT hb z1 8 (by decide)) fun u ⟨u1,_,_⟩=>WD.bind (iT hb u1 50 (by decide)) fun v ⟨v1,_,_⟩=>WD.bind (iT hb v1 9 (by decide)) fun w ⟨w1,_,_⟩=>?_;exact WD.step (zN hN (by omega) _ _) (WD.inl ⟨by dsimp only;rw [yb];exact s1,by dsimp only;omega,by dsimp only;omega,w1⟩ (by dsimp only;omega))
theorem HF {N:Nat} (hN:ir≤N) {b:List U8} {i h:Int} (hb:b.length≤1048576) (hi:0≤i):WD (vt N ⟨b,i,h⟩) (fun r=>0≤r.2.i∧r.1.length≤5):=by
  unfold vt;dsimp only;refine WD.bind (Gr hN hb hi) fun t ⟨t1,t2⟩=>WD.bind (iT hb t1 _ (by omega)) fun k ⟨k1,k2,k3⟩=>WD.bind (iT hb k1 20 (by decide)) fun m ⟨m1,_,_⟩=>?_;refine WD.ite (fun _=>WD.bind (JR k2 (by omega)) fun r ⟨r1,_⟩=>WD.ret ⟨m1,by dsimp only;omega⟩) fun _=>?_;refine WD.ite (fun _=>WD.bind (iT hb m1 7 (by decide)) fun y ⟨y1,_,_⟩=>WD.bind (ly k2 k3) fun z _=>WD.step rfl (WD.ret ⟨y1,by simp only [List.length_set];omega⟩)) fun _=>?_;refine WD.ite (fun _=>WD.bind (ly k2 k3) fun z _=>WD.step rfl (WD.ret ⟨m1,by simp only [List.length_set];omega⟩)) fun _=>?_;exact WD.ite (fun _=>WD.bind (lG hb m1 (by decide)) fun y ⟨y1,_⟩=>WD.bind (ly k2 k3) fun z _=>WD.step rfl (WD.ret ⟨y1,by simp only [List.length_set];omega⟩)) fun _=>WD.ret ⟨m1,by dsimp only;omega⟩
theorem J1 {N:Nat} {b:List U8} {i h:Int} (hb:b.length≤1048576) (hi:0≤i):WD (tP N ⟨b,i,h⟩) (fun r=>0≤r.2.i):=by
  unfold tP;dsimp only;refine WD.bind (iT hb hi 5 (by decide)) fun a ⟨a1,_,_⟩=>WD.bind (iT hb a1 3 (by decide)) fun b ⟨b1,_,_⟩=>WD.bind (iT hb b1 5 (by decide)) fun c ⟨c1,_,_⟩=>WD.bind (iT hb c1 3 (by decide)) fun d ⟨d1,_,_⟩=>WD.bind (iT hb d1 2 (by decide)) fun e ⟨e1,_,_⟩=>WD.bind (iT hb e1 30 (by decide)) fun f ⟨f1,_,_⟩=>WD.bind (iT hb f1 20 (by decide)) fun g ⟨g1,_,_⟩=>WD.bind (P:=fun j=>0≤j.1) ?_ fun j hj=>WD.ret hj
  repeat' first
    | exact WD.ret (by assumption)
    | refine WD.ite (fun _=>?_) (fun _=>?_)
    | refine WD.bind (lG hb (by assumption) (by decide)) fun y ⟨_,_⟩=>?_
theorem MI {N:Nat} {b:List U8} {i h:Int} (hb:b.length≤1048576) (hi:0≤i):WD (vp N ⟨b,i,h⟩) (fun r=>0≤r.2.i):=by
  unfold vp;dsimp only;exact WD.bind (mh hb hi 8) fun y y1=>WD.ite (fun _=>WD.bind (lG hb y1 (by decide)) fun z ⟨z1,_⟩=>WD.ret z1) fun _=>WD.bind (iT hb y1 400 (by decide)) fun z ⟨z1,_,_⟩=>WD.ret z1
def Ob (o:gE):Prop:=nn o∧iz o≤12
theorem L3 {N:Nat} (hN:ir≤N) {b:List U8} {i h:Int} (hb:b.length≤1048576) (hi:0≤i) {l:List gE} (hl:l.length≤100):WD (vk N ⟨b,i,h⟩ l) (fun r=>0≤r.2.i∧Ob r.1∧r.1.ig.length=2):=by
  unfold vk;dsimp only;refine WD.bind (WD.loop (fun s=>0<s.1.length∧(s.1.length:Int)≤1+2 * s.2∧0≤s.2∧s.2≤(l.length:Int)) (fun r=>0<r.1.length) (fun s=>((l.length:Int) - s.2).toNat) ⟨by decide,by decide,by decide,by dsimp only;omega⟩ (sx hN (by dsimp only;omega)) ?_) fun o o1=>?_
  · rintro ⟨t,k⟩ ⟨s1,s2,s3,s4⟩;dsimp only at *;refine WD.ite (fun c=>?_) (fun c=>WD.inr s1);have c:=of_decide_eq_true c;rw [iE (n:=k+1) (by omega) (by omega)];have hB:(16777216:Nat)=ir:=rfl;refine WD.bind (ly s3 c) fun y _=>WD.ite (fun _=>?_) fun _=>WD.inl ⟨s1,by dsimp only;omega,by dsimp only;omega,by dsimp only;omega⟩ (by dsimp only;omega)
    have e:app t ([k,k]:List Int)=some (t++[k,k]):=by
      unfold app;rw [if_pos (by simp only [List.length_cons,List.length_nil];omega)]
    exact WD.step e (WD.inl ⟨by simp,by simp only [List.length_append,List.length_cons,List.length_nil];omega,by dsimp only;omega,by dsimp only;omega⟩ (by dsimp only;omega))
  refine WD.bind (iT hb hi 4 (by decide)) fun k ⟨k1,k2,k3⟩=>WD.bind (lG hb k1 o1) fun x ⟨x1,_⟩=>WD.bind (iT hb x1 5 (by decide)) fun y ⟨y1,_,_⟩=>WD.bind (iT hb y1 30 (by decide)) fun z ⟨z1,_,_⟩=>WD.bind (iT hb z1 4 (by decide)) fun p ⟨p1,p2,p3⟩=>WD.bind (mh hb p1 3) fun m m1=>?_;refine WD.bind (WD.loop (fun s=>s.1.length=2∧0≤s.2.1∧s.2.1≤2∧0≤s.2.2.1) (fun r=>r.1.length=2∧0≤r.2.2.1) (fun s=>(2 - s.2.1).toNat) ⟨rfl,by simp,by simp,m1⟩ (sx hN (by simp)) ?_) fun q ⟨q1,q2⟩=>?_
  · rintro ⟨t,k,i,h⟩ ⟨s1,s2,s3,s4⟩;dsimp only at *;refine WD.ite (fun c=>?_) (fun c=>WD.inr ⟨s1,s4⟩);have c:=of_decide_eq_true c;rw [iE (n:=k+1) (by omega) (by omega)];refine WD.bind (mh hb s4 3) fun y y1=>WD.ite (fun _=>?_) fun _=>WD.inl ⟨s1,by dsimp only;omega,by dsimp only;omega,y1⟩ (by dsimp only;omega);refine WD.bind (lG hb y1 o1) fun z ⟨z1,_⟩=>WD.bind (ly s2 (by omega)) fun w _=>WD.step rfl (WD.inl ⟨by simp only [List.length_set];exact s1,by dsimp only;omega,by dsimp only;omega,z1⟩ (by dsimp only;omega))
  refine WD.bind (P:=fun j=>0≤j.1∧0≤j.2.2.1∧j.2.2.2.2.2.1.length≤3∧j.2.2.2.2.2.2.length≤2) ?_ fun j ⟨j1,j2,j3,j4⟩=>WD.ret ⟨j1,⟨?_,?_⟩,q1⟩
  · refine WD.ite (fun _=>?_) fun _=>WD.ite (fun _=>?_) fun _=>WD.ite (fun _=>?_) fun _=>WD.ret ⟨q2,by simp,by simp,by simp⟩
    · refine WD.bind (WD.loop (fun s=>0≤s.1∧s.1≤p.1∧0≤s.2.1∧(s.2.2.2.length:Int)≤s.1) (fun r=>0≤r.2.1∧r.2.2.2.length≤3) (fun s=>(p.1 - s.1).toNat) ⟨by simp,p2,q2,by simp⟩ (sx hN (by dsimp only;omega)) ?_) fun r ⟨r1,r2⟩=>WD.ret ⟨r1,by simp,r2,by simp⟩;rintro ⟨k,i,h,t⟩ ⟨s1,s2,s3,s4⟩;dsimp only at *;refine WD.ite (fun c=>?_) (fun c=>WD.inr ⟨s3,by dsimp only;omega⟩);have c:=of_decide_eq_true c;rw [iE (n:=k+1) (by omega) (by omega)];exact WD.bind (iT hb s3 100 (by decide)) fun y ⟨y1,_,_⟩=>WD.step (vE (by omega)) (WD.inl ⟨by dsimp only;omega,by dsimp only;omega,y1,by simp only [List.length_append,List.length_cons,List.length_nil];omega⟩ (by dsimp only;omega))
    · refine WD.bind (iT hb q2 3 (by decide)) fun n ⟨n1,n2,n3⟩=>?_;refine WD.bind (WD.loop (fun s=>0≤s.1∧0≤s.2.1∧(s.2.2.2.length:Int)+s.1≤2) (fun r=>0≤r.2.1∧r.2.2.2.length≤2) (fun s=>s.1.toNat) ⟨n2,n1,by simp only [List.length_nil];omega⟩ (sx hN (by dsimp only;omega)) ?_) fun r ⟨r1,r2⟩=>WD.ret ⟨r1,by simp,by simp,r2⟩;rintro ⟨k,i,h,t⟩ ⟨s1,s3,s4⟩;dsimp only at *;refine WD.ite (fun c=>?_) (fun c=>WD.inr ⟨s3,by dsimp only;omega⟩);have c:=of_decide_eq_true c;rw [iE (n:=k - 1) (by omega) (by omega)];exact WD.bind (lG hb s3 (by decide)) fun z ⟨z1,_⟩=>WD.bind (iT hb z1 50 (by decide)) fun y ⟨y1,_,_⟩=>WD.step (vE (by omega)) (WD.inl ⟨by dsimp only;omega,y1,by simp only [List.length_append,List.length_cons,List.length_nil];omega⟩ (by dsimp only;omega))
    · refine WD.bind (lG hb q2 (by decide)) fun w ⟨w1,w2⟩=>WD.bind (iT hb w1 9 (by decide)) fun y ⟨y1,_,_⟩=>WD.bind (iT hb y1 5 (by decide)) fun z ⟨z1,_,_⟩=>WD.ret ⟨z1,?_,by simp,by simp⟩
      have:∀ x ∈ ([0,0,7,34]:List Int),0≤x:=by decide
      exact this _ w2
  · unfold nn;dsimp only;omega
  · unfold iz;dsimp only;omega
structure Aq (l:List gE):Prop where
  len:l.length=10
  ob:∀ o,o ∈ l→Ob o∧(o.Pz ≠ 0→o.ig.length=2)
theorem Aq.w {l:List gE} (h:Aq l):wA l:=fun o ho=>(h.ob o ho).1.1
theorem Aq.sz {l:List gE} (h:Aq l):jr iz l≤130:=by
  have:=ve (f:=iz) (c:=12) fun y hy=>(h.ob y hy).1.2;have:=h.len;unfold jr;omega
theorem Aq.oy {l:List gE} (h:Aq l):jr iz l<ir:=by
  have:=h.sz;have:(16777216:Nat)=ir:=rfl;omega
theorem Aq.set {l:List gE} (h:Aq l) {o:gE} (k:Nat) (h1:Ob o) (h2:o.Pz ≠ 0→o.ig.length=2):Aq (l.set k o):=by
  refine ⟨by rw [List.length_set];exact h.len,fun y hy=>?_⟩
  rcases List.mem_or_eq_of_mem_set hy with q | rfl
  · exact h.ob y q
  · exact ⟨h1,h2⟩
theorem Aq.new:Aq rD:=by
  refine ⟨rfl,fun o ho=>?_⟩
  have h:∀ o ∈ rD, -9223372036854775808≤o.PK∧iz o≤12∧(o.Pz ≠ 0→o.ig.length=2):=by decide
  obtain ⟨a,b,c⟩:=h o ho;exact ⟨⟨a,b⟩,c⟩
theorem Aq.free {l:List gE} (h:Aq l) (i:Int):Aq (mK l i).1:=by
  unfold mK;split
  · have h1:=h.set (o:=blank (nth l i).PO) i.toNat ⟨F8 _,by show (0:Nat)≤12;decide⟩ (fun h=>absurd rfl h);refine ⟨by simp only [List.length_map];exact h1.len,fun y hy=>?_⟩;obtain ⟨o,ho,rfl⟩:=List.mem_map.1 hy;obtain ⟨⟨a,b⟩,c⟩:=h1.ob o ho;refine ⟨⟨Lo a,by rw [JY];exact b⟩,?_⟩;unfold pU;split
    · exact c
    · simp only [List.length_map];exact c
  · exact h
theorem JV (l:List gE) (o:gE) (k:Nat) (x:gE):(putAt l o k x).1=l∨∃ (j:Nat) (g:Int),(putAt l o k x).1=l.set j (kn o g):=by
  unfold putAt;split
  · exact .inr ⟨_,_,rfl⟩
  · exact .inl rfl
theorem B0 (l:List gE) (o:gE):∀ (m:List gE) (k:Nat),(pA l o k m).1=l∨∃ (j:Nat) (g:Int),(pA l o k m).1=l.set j (kn o g)
  | [],_=>.inl rfl
  | x::m,k=>by
    unfold pA;split
    · exact B0 l o m (k+1)
    · exact JV l o k x
theorem L9 (l:List gE) (o:gE):(kr l o).1=l∨∃ (j:Nat) (g:Int),(kr l o).1=l.set j (kn o g):=by
  unfold kr;split
  · exact B0 l o _ _
  · exact .inl rfl
theorem Aq.put {l:List gE} (h:Aq l) {o:gE} (h1:Ob o) (h2:o.ig.length=2):Aq (kr l o).1:=by
  rcases L9 l o with e | ⟨j,g,e⟩
  · rw [e];exact h
  · rw [e];exact h.set j ⟨xQ h1.1,h1.2⟩ fun _=>h2
theorem Dj {N:Nat} (hN:ir≤N) {b:List U8} {i h:Int} (hb:b.length≤1048576) (hi:0≤i):WD (rh N ⟨b,i,h⟩) (fun r=>0≤r.2.i∧Aq r.1):=by
  unfold rh;dsimp only;refine WD.step (A5 _) (WD.bind (iT hb hi 14 (by decide)) fun n ⟨n1,n2,n3⟩=>?_);refine WD.bind (WD.loop (fun s=>Aq s.1∧0≤s.2.1∧s.2.1≤13∧0≤s.2.2.1) (fun r=>Aq r.1∧0≤r.2.2.1) (fun s=>s.2.1.toNat) ⟨Aq.new,n2,by dsimp only;omega,n1⟩ (sx hN (by dsimp only;omega)) ?_) fun r ⟨r1,r2⟩=>?_
  · rintro ⟨t,k,i,h⟩ ⟨s1,s2,s3,s4⟩;dsimp only at *;refine WD.ite (fun c=>?_) (fun c=>WD.inr ⟨s1,s4⟩);have c:=of_decide_eq_true c;rw [iE (n:=k - 1) (by omega) (by omega)];refine WD.bind (mh hb s4 5) fun y y1=>WD.ite (fun _=>?_) fun _=>?_
    · exact WD.bind (iT hb y1 10 (by decide)) fun z ⟨z1,_,_⟩=>WD.step (zJ hN s1.oy s1.w _) (WD.inl ⟨s1.free _,by dsimp only;omega,by dsimp only;omega,z1⟩ (by dsimp only;omega))
    · refine WD.bind (L3 hN hb y1 (by rw [s1.len];decide)) fun o ⟨o1,o2,o3⟩=>?_;exact WD.step (x6 hN s1.oy s1.w (by have:=o2.2;omega) o2.1) (WD.inl ⟨s1.put o2 o3,by dsimp only;omega,by dsimp only;omega,o1⟩ (by dsimp only;omega))
  refine WD.bind (WD.loop (fun s=>Aq s.1∧0≤s.2.1∧s.2.1≤10∧0≤s.2.2.1) (fun r=>Aq r.1∧0≤r.2.2.1) (fun s=>(10 - s.2.1).toNat) ⟨r1,by simp,by simp,r2⟩ (sx hN (by simp)) ?_) fun q ⟨q1,q2⟩=>WD.ret ⟨q2,q1⟩;rintro ⟨t,k,i,h⟩ ⟨s1,s2,s3,s4⟩;dsimp only at *;have hl:=s1.len;refine WD.ite (fun c=>?_) (fun c=>WD.inr ⟨s1,s4⟩);have c:=of_decide_eq_true c;have e:IntKind.i64.wrap (k+1)=k+1:=iE (by omega) (by omega);rw [e];refine WD.bind (P:=fun j=>0≤j.2.1∧(j.1=true→(nth t k).Pz ≠ 0)) ?_ fun j ⟨j1,j2⟩=>WD.ite (fun cj=>?_) fun _=>WD.inl ⟨s1,by dsimp only;omega,by dsimp only;omega,j1⟩ (by dsimp only;omega)
  · refine WD.step (jC s2 c) (WD.ite (fun ck=>WD.bind (mh hb s4 4) fun y y1=>WD.ret ⟨y1,fun _=>by simpa using ck⟩) fun _=>WD.ret ⟨s4,by simp⟩)
  · have hk:=j2 cj;obtain ⟨⟨w1,w2⟩,w3⟩:=s1.ob _ (lh s2 c);have w3:=w3 hk;refine WD.bind (iT hb j1 _ (by omega)) fun y ⟨y1,y2,y3⟩=>WD.bind (ly y2 y3) fun z _=>WD.ite (fun _=>?_) fun _=>WD.inl ⟨s1,by dsimp only;omega,by dsimp only;omega,y1⟩ (by dsimp only;omega);refine WD.step (jC s2 c) (WD.bind (iT hb y1 2 (by decide)) fun v ⟨v1,v2,v3⟩=>WD.bind (ly v2 (by omega)) fun u _=>WD.step rfl (WD.inl ⟨s1.set _ ⟨w1,?_⟩ fun _=>?_,by dsimp only;omega,by dsimp only;omega,v1⟩ (by dsimp only;omega)))
    · unfold iz at *;simp only [List.length_set];exact w2
    · simp only [List.length_set];exact w3
structure Aw (l:List gE):Prop where
  w:wA l
  sz:jr iz l≤200
theorem Aq.aw {l:List gE} (h:Aq l):Aw l:=⟨h.w,Nat.le_trans h.sz (by decide)⟩
theorem Aq.Bn {l:List gE} (h:Aq l) {o:gE} (k:Nat) (h1:nn o) (h2:iz o≤20):Aw (l.set k o):=⟨kR h.w h1,Nat.le_trans va (by have:=h.sz;omega)⟩
theorem ER {N:Nat} (hN:ir≤N) {b:List U8} {i h:Int} (hb:b.length≤1048576) (hi:0≤i):WD (vA N ⟨b,i,h⟩) (fun r=>0≤r.2.i∧Aw r.1):=by
  unfold vA;dsimp only;refine WD.bind (Dj hN hb hi) fun l ⟨l1,l2⟩=>?_;have hl:=l2.len;refine WD.bind (iT hb l1 _ (by omega)) fun k ⟨k1,k2,k3⟩=>WD.bind (iT hb k1 24 (by decide)) fun m ⟨m1,_,_⟩=>?_;have hw:∀ y ∈ l.1,nn y∧iz y≤12:=fun y hy=>(l2.ob y hy).1;refine WD.ite (fun _=>WD.bind (JR k2 (by omega)) fun r ⟨r1,r2⟩=>WD.ret ⟨m1,?_,?_⟩) fun _=>?_
  · exact fun o ho=>l2.w o (r2 o ho)
  · have:=ve (f:=iz) (c:=12) (l:=r) fun y hy=>(hw y (r2 y hy)).2;unfold jr;dsimp only;omega
  refine WD.ite (fun _=>WD.bind (lG hb m1 (by decide)) fun y ⟨y1,_⟩=>WD.bind (ly k2 k3) fun z hz=>WD.step rfl (WD.ret ⟨y1,l2.Bn _ (hw z hz).1 (Nat.le_trans (hw z hz).2 (by decide))⟩)) fun _=>?_;refine WD.ite (fun _=>WD.bind (iT hb m1 6 (by decide)) fun y ⟨y1,_,_⟩=>WD.bind (ly k2 k3) fun z hz=>WD.step rfl (WD.ret ⟨y1,l2.Bn _ (hw z hz).1 (Nat.le_trans (hw z hz).2 (by decide))⟩)) fun _=>?_;refine WD.ite (fun _=>WD.bind (lG hb m1 (by decide)) fun y ⟨y1,_⟩=>WD.bind (ly k2 k3) fun z hz=>WD.step rfl (WD.ret ⟨y1,l2.Bn _ (hw z hz).1 (Nat.le_trans (hw z hz).2 (by decide))⟩)) fun _=>?_;refine WD.ite (fun _=>WD.bind (ly k2 k3) fun z hz=>?_) fun _=>?_
  · have h2:=(hw z hz).2
    have h3:z.ig.length≤12:=by unfold iz at h2;omega
    refine WD.step (vE (by omega)) (WD.ret ⟨m1,l2.Bn _ (hw z hz).1 ?_⟩);unfold iz at *;simp only [List.length_append,List.length_cons,List.length_nil];omega
  refine WD.ite (fun _=>WD.bind (lG hb m1 (by decide)) fun y ⟨y1,_⟩=>WD.bind (ly k2 k3) fun z hz=>WD.step rfl (WD.ret ⟨y1,l2.Bn _ (hw z hz).1 (Nat.le_trans (hw z hz).2 (by decide))⟩)) fun _=>?_;refine WD.ite (fun _=>WD.bind (lG hb m1 (by decide)) fun y ⟨y1,y2⟩=>WD.bind (ly k2 k3) fun z hz=>WD.step rfl (WD.ret ⟨y1,l2.Bn _ ?_ (Nat.le_trans (hw z hz).2 (by decide))⟩)) fun _=>WD.ret ⟨m1,l2.aw⟩
  have:∀ x ∈ ([-1,30000,30001,1]:List Int), -9223372036854775808≤x:=by decide
  exact this _ y2
structure Hw (h:il) (n:Nat):Prop where
  a:Aw h.ag
  g:h.gc.hZ.length≤n
theorem Hw.step {h:il} {n:Nat} (q:Hw h n) (now:Int):Hw (kA h now).1 (n+10):=by
  obtain ⟨a,b,c,_⟩:=vL q.a.w now;exact ⟨⟨b,Nat.le_trans a q.a.sz⟩,by have:=q.g;omega⟩
theorem Hw.run {N:Nat} (hN:ir≤N) {h:il} {n:Nat} (q:Hw h n) (hn:n≤100000) (now:Int):oU N h now=some (kA h now):=by
  have h1:=q.a.sz;have h2:=q.g;have:(16777216:Nat)=ir:=rfl;exact Ee hN (by omega) q.a.w (by omega) now
theorem Gt {N:Nat} (hN:ir≤N) {b:List U8} {i h:Int} (hb:b.length≤1048576) (hi:0≤i):WD (qM N ⟨b,i,h⟩) (fun r=>0≤r.2.i∧Hw r.1 500):=by
  unfold qM;dsimp only;refine WD.bind (Dj hN hb hi) fun l ⟨l1,l2⟩=>WD.step (show tU N=some (jv.mk 0 0 0 [0]) from rfl) ?_;have hB:(16777216:Nat)=ir:=rfl;refine WD.bind (WD.loop (fun s=>Aq s.1∧0≤s.2∧s.2≤10) (fun r=>Aq r.1) (fun s=>(10 - s.2).toNat) ⟨l2,by simp,by simp⟩ (sx hN (by simp)) ?_) fun r r1=>?_
  · rintro ⟨t,k⟩ ⟨s1,s2,s3⟩;dsimp only at *;have hl:=s1.len;refine WD.ite (fun c=>?_) (fun c=>WD.inr s1);have c:=of_decide_eq_true c;rw [iE (n:=k+1) (by omega) (by omega)];exact WD.bind (ly s2 c) fun z hz=>WD.step rfl (WD.inl ⟨s1.set _ (s1.ob z hz).1 (s1.ob z hz).2,by dsimp only;omega,by dsimp only;omega⟩ (by dsimp only;omega))
  refine WD.bind (iT hb l1 40 (by decide)) fun n ⟨n1,n2,n3⟩=>?_;refine WD.bind (WD.loop (fun s=>0≤s.1∧s.1≤39∧Hw (il.mk s.2.1 (jv.mk s.2.2.1 s.2.2.2.1 s.2.2.2.2.1 s.2.2.2.2.2)) (400 - 10 * s.1.toNat)) (fun r=>Hw (il.mk r.2.1 (jv.mk r.2.2.1 r.2.2.2.1 r.2.2.2.2.1 r.2.2.2.2.2)) 400) (fun s=>s.1.toNat) ⟨n2,by dsimp only;omega,r1.aw,?_⟩ (sx hN (by dsimp only;omega)) ?_) fun q q1=>WD.ret ⟨n1,q1.a,Nat.le_trans q1.g (by decide)⟩
  · show (1:Nat)≤_
    dsimp only;omega
  rintro ⟨k,l,a,c,d,g⟩ ⟨s1,s2,s3⟩;dsimp only at *;refine WD.ite (fun c=>?_) (fun c=>WD.inr ⟨s3.a,Nat.le_trans s3.g (by omega)⟩);have c:=of_decide_eq_true c;rw [iE (n:=k - 1) (by omega) (by omega)];refine WD.step (s3.run hN (by omega) 3) (WD.inl ⟨by dsimp only;omega,by dsimp only;omega,?_⟩ (by dsimp only;omega));have h2:=s3.step 3;exact ⟨h2.a,Nat.le_trans h2.g (by dsimp only;omega)⟩
theorem GQ {N:Nat} (hN:ir≤N) {b:List U8} {i h:Int} (hb:b.length≤1048576) (hi:0≤i):WD (uu N ⟨b,i,h⟩) (fun r=>0≤r.2.i∧Hw r.1 600):=by
  unfold uu;dsimp only;refine WD.bind (Gt hN hb hi) fun l ⟨l1,l2⟩=>WD.bind (iT hb l1 16 (by decide)) fun m ⟨m1,_,_⟩=>?_;have g:=l2.g;refine WD.bind (P:=fun j=>0≤j.2.1∧Aw j.2.2.2.1∧j.1.length≤600) ?_ fun j ⟨j1,j2,j3⟩=>WD.ret ⟨j1,j2,j3⟩;refine WD.ite (fun _=>WD.bind (ER hN hb m1) fun y ⟨y1,y2⟩=>WD.ret ⟨y1,y2,by dsimp only;omega⟩) fun _=>?_;refine WD.ite (fun _=>WD.bind (iT hb m1 12 (by decide)) fun y ⟨y1,_,_⟩=>WD.ret ⟨y1,l2.a,by dsimp only;omega⟩) fun _=>?_;refine WD.ite (fun _=>WD.bind (iT hb m1 12 (by decide)) fun y ⟨y1,_,_⟩=>WD.step (vE (by omega)) (WD.ret ⟨y1,l2.a,by simp only [List.length_append,List.length_cons,List.length_nil];omega⟩)) fun _=>?_;refine WD.ite (fun _=>WD.bind (iT hb m1 4 (by decide)) fun y ⟨y1,_,_⟩=>WD.ret ⟨y1,l2.a,by dsimp only;omega⟩) fun _=>?_;exact WD.ite (fun _=>WD.bind (lG hb m1 (by decide)) fun y ⟨y1,_⟩=>WD.ret ⟨y1,l2.a,by dsimp only;omega⟩) fun _=>WD.ret ⟨m1,l2.a,by dsimp only;omega⟩
def Pw (p:cd):Prop:=iH p≤20000∧wP p
theorem Od {p:cd} (h1:p.PB.PA.length≤5) (h2:p.own.length≤5) (h3:p.PC.length≤5) (h4:Hw p.py 600) (h5:p.ia.length≤4):Pw p:=by
  refine ⟨?_,h4.a.w⟩;have:=h4.a.sz;have:=h4.g;unfold iH nj ui m6;omega
structure Pq (p:cd):Prop where
  la:p.PB.PA.length≤5
  ow:p.own.length≤5
  tr:p.PC.length≤5
  hp:Hw p.py 600
  ta:p.ia.length≤4
theorem Pq.pw {p:cd} (h:Pq p):Pw p:=Od h.la h.ow h.tr h.hp h.ta
theorem MC {N:Nat} (hN:ir≤N) {b:List U8} {i h:Int} (hb:b.length≤1048576) (hi:0≤i):WD (sy N ⟨b,i,h⟩) (fun r=>0≤r.2.i∧Pq r.1):=by
  unfold sy;dsimp only;refine WD.bind (Eu hN hb hi) fun l ⟨l1,l2⟩=>WD.bind (Gr hN hb l1) fun t ⟨t1,t2⟩=>WD.bind (Gt hN hb t1) fun q ⟨q1,q2⟩=>WD.bind (iT hb q1 10 (by decide)) fun x ⟨x1,_,_⟩=>WD.bind (lG hb x1 (by decide)) fun y ⟨y1,_⟩=>WD.bind (iT hb y1 4 (by decide)) fun z ⟨z1,_,_⟩=>WD.bind (iT hb z1 3 (by decide)) fun u ⟨u1,_,_⟩=>WD.bind (iT hb u1 3 (by decide)) fun n ⟨n1,n2,n3⟩=>?_;refine WD.bind (WD.loop (fun s=>0≤s.1∧0≤s.2.1∧(s.2.2.2.length:Int)+s.1≤2) (fun r=>0≤r.2.1∧r.2.2.2.length≤2) (fun s=>s.1.toNat) ⟨n2,n1,by simp only [List.length_nil];omega⟩ (sx hN (by dsimp only;omega)) ?_) fun r ⟨r1,r2⟩=>?_
  · rintro ⟨k,i,h,t⟩ ⟨s1,s3,s4⟩;dsimp only at *;refine WD.ite (fun c=>?_) (fun c=>WD.inr ⟨s3,by dsimp only;omega⟩);have c:=of_decide_eq_true c;rw [iE (n:=k - 1) (by omega) (by omega)];exact WD.bind (J1 hb s3) fun z z1=>WD.step (Bv _ _) (WD.ite (fun _=>WD.step (vE (by omega)) (WD.inl ⟨by dsimp only;omega,z1,by simp only [List.length_append,List.length_cons,List.length_nil];omega⟩ (by dsimp only;omega))) fun _=>WD.inl ⟨by dsimp only;omega,z1,by dsimp only;omega⟩ (by dsimp only;omega))
  · exact WD.bind (GG hb r1) fun a ⟨a1,_⟩=>WD.ret ⟨a1,by have:=uA l2;dsimp only;omega,by simp,by dsimp only;omega,⟨q2.a,Nat.le_trans q2.g (by decide)⟩,by dsimp only;omega⟩
theorem HV {N:Nat} (hN:ir≤N) {b:List U8} {i h:Int} (hb:b.length≤1048576) (hi:0≤i):WD (uz N ⟨b,i,h⟩) (fun r=>0≤r.2.i∧Pq r.1):=by
  unfold uz;dsimp only;refine WD.bind (MC hN hb hi) fun p ⟨p1,p2⟩=>WD.bind (iT hb p1 20 (by decide)) fun m ⟨m1,_,_⟩=>?_;obtain ⟨la,ow,tr,hp,ta⟩:=p2;refine WD.bind (P:=fun j=>0≤j.2.1∧j.1.length≤4∧j.2.2.2.1.length≤5∧j.2.2.2.2.1.length≤5∧j.2.2.2.2.2.1.length≤5∧Hw (il.mk j.2.2.2.2.2.2.1 (jv.mk j.2.2.2.2.2.2.2.1 j.2.2.2.2.2.2.2.2.1 j.2.2.2.2.2.2.2.2.2.1 j.2.2.2.2.2.2.2.2.2.2.1)) 600) ?_ fun j ⟨j1,j2,j3,j4,j5,j6⟩=>WD.ret ⟨j1,j3,j4,j5,j6,j2⟩;refine WD.ite (fun _=>WD.bind (HF hN hb m1) fun y ⟨y1,y2⟩=>WD.ret ⟨y1,ta,la,ow,y2,hp⟩) fun _=>?_;refine WD.ite (fun _=>WD.bind (GQ hN hb m1) fun y ⟨y1,y2⟩=>WD.ret ⟨y1,ta,la,ow,tr,y2⟩) fun _=>?_;refine WD.ite (fun _=>WD.bind (EP hN hb m1) fun y ⟨y1,y2⟩=>WD.ret ⟨y1,ta,y2,ow,tr,hp⟩) fun _=>?_;refine WD.ite (fun _=>WD.bind (MO hN hb m1) fun y ⟨y1,y2⟩=>WD.ret ⟨y1,ta,la,y2,tr,hp⟩) fun _=>?_;refine WD.ite (fun _=>WD.bind (lG hb m1 (by decide)) fun y ⟨y1,_⟩=>WD.ret ⟨y1,ta,la,ow,tr,hp⟩) fun _=>?_;refine WD.ite (fun _=>?_) fun _=>?_
  · refine WD.bind (WD.loop (fun s=>s.1.length≤4∧0≤s.2.1) (fun r=>r.1.length≤4∧0≤r.2.1) (fun s=>4 - s.1.length) ⟨ta,m1⟩ (sx hN (by dsimp only;omega)) ?_) fun r ⟨r1,r2⟩=>WD.ret ⟨r2,r1,la,ow,tr,hp⟩;rintro ⟨t,i,h⟩ ⟨s1,s2⟩;dsimp only at *;refine WD.ite (fun c=>?_) (fun c=>WD.inr ⟨s1,s2⟩);have c:=of_decide_eq_true c;exact WD.bind (J1 hb s2) fun z z1=>WD.step (vE (by omega)) (WD.inl ⟨by simp only [List.length_append,List.length_cons,List.length_nil];omega,z1⟩ (by simp only [List.length_append,List.length_cons,List.length_nil];omega))
  refine WD.ite (fun _=>WD.bind (lG hb m1 (by decide)) fun y ⟨y1,_⟩=>WD.ret ⟨y1,ta,la,ow,tr,hp⟩) fun _=>?_;exact WD.ite (fun _=>WD.bind (Ic hb m1) fun y y1=>WD.ret ⟨y1,ta,la,ow,tr,hp⟩) fun _=>WD.ret ⟨m1,ta,la,ow,tr,hp⟩
theorem B9 {N:Nat} (hN:ir≤N) {b:List U8} {i h:Int} (hb:b.length≤1048576) (hi:0≤i) (p:cd) (me:Int):WD (my N ⟨b,i,h⟩ p me) (fun r=>0≤r.2.i):=by
  unfold my;dsimp only;refine WD.bind (P:=fun j=>0≤j.2.1∧(j.1=false→(p.py.ag.length:Int)=10)) ?_ fun j ⟨hj,hl⟩=>?_
  · refine WD.ite (fun _=>WD.ret ⟨hi,by simp⟩) fun c=>WD.bind (mh hb hi 15) fun y y1=>WD.ret ⟨y1,fun _=>by simpa using c⟩
  refine WD.ite (fun _=>WD.bind (MI hb hj) fun y y1=>WD.ret y1) fun c=>?_;have hl:=hl c;refine WD.bind (iT hb hj 10 (by decide)) fun y ⟨y1,y2,y3⟩=>?_;refine WD.bind (WD.loop (fun s=>0≤s.1∧s.1<10∧0≤s.2.1∧s.2.1≤4∧0≤s.2.2.1) (fun r=>0≤r.1∧r.1<10∧0≤r.2.2.1) (fun s=>(4 - s.2.1).toNat) ⟨y2,y3,Int.le_refl _,by simp,y1⟩ (sx hN (by simp)) ?_) fun r ⟨r1,r2,r3⟩=>?_
  · rintro ⟨k,n,i,h⟩ ⟨s1,s2,s3,s4,s5⟩;dsimp only at *;refine WD.bind (P:=fun j=>j=true→n<4) ?_ fun j hj=>WD.ite (fun c=>?_) fun _=>WD.inr ⟨s1,s2,s5⟩
    · refine WD.ite (fun c=>?_) fun _=>WD.ret (by simp);exact WD.bind (ly s1 (by omega)) fun y _=>WD.ret fun _=>of_decide_eq_true c
    · have:=hj c;rw [iE (n:=n+1) (by omega) (by omega)];exact WD.bind (iT hb s5 10 (by decide)) fun y ⟨y1,y2,y3⟩=>WD.inl ⟨y2,y3,by dsimp only;omega,by dsimp only;omega,y1⟩ (by dsimp only;omega)
  · exact WD.bind (ly r1 (by omega)) fun z _=>WD.bind (mh hb r3 20) fun y y1=>WD.bind (P:=fun _=>True) (WD.ite (fun _=>WD.ret trivial) fun _=>WD.ret trivial) fun j _=>WD.step (vJ _ _ _ _) (WD.ret y1)
theorem HW {N:Nat} (hN:ir≤N) {b:List U8} {i h:Int} (hb:b.length≤1048576) (hi:0≤i) {p:cd} (hp:p.py.ag.length≤1000000) (me k:Int):WD (od N ⟨b,i,h⟩ p me k) (fun r=>0≤r.2.i):=by
  unfold od;dsimp only;refine WD.bind (WD.loop (fun s=>0≤s.1∧s.1≤(p.py.ag.length:Int)∧0≤s.2.1) (fun r=>Sum.elim (fun s=>0≤s.2.1) (fun r=>0≤r.2.i) r) (fun s=>((p.py.ag.length:Int) - s.1).toNat) ⟨Int.le_refl _,by dsimp only;omega,hi⟩ (sx hN (by dsimp only;omega)) ?_) fun r hr=>?_
  · rintro ⟨k,i,h⟩ ⟨s1,s2,s3⟩;dsimp only at *;refine WD.ite (fun c=>?_) (fun c=>WD.inr s3);have c:=of_decide_eq_true c;rw [iE (n:=k+1) (by omega) (by omega)];refine WD.bind (P:=fun j=>0≤j.2.1) ?_ fun j hj=>WD.ite (fun _=>?_) fun _=>WD.inl ⟨by dsimp only;omega,by dsimp only;omega,hj⟩ (by dsimp only;omega)
    · exact WD.bind (ly s1 c) fun y _=>WD.ite (fun _=>WD.bind (mh hb s3 2) fun z z1=>WD.ret z1) fun _=>WD.ret s3
    · exact WD.bind (ly s1 c) fun y _=>WD.step (vJ _ _ _ _) (WD.inr hj)
  · cases r with
    | inl s =>
      simp only [Sum.elim_inl] at *;exact WD.bind (B9 hN hb hr _ _) fun y y1=>WD.ret y1
    | inr s =>
      simp only [Sum.elim_inr] at *;exact WD.ret hr
theorem GA {N:Nat} (hN:ir≤N) {b:List U8} {i h:Int} (hb:b.length≤1048576) (hi:0≤i) {p:cd} (hp:p.py.ag.length≤1000000) (me:Int):WD (qF N ⟨b,i,h⟩ p me) (fun r=>0≤r.2.i):=by
  unfold qF;dsimp only;refine WD.bind (iT hb hi 17 (by decide)) fun k ⟨k1,_,_⟩=>WD.bind (mh hb k1 3) fun m m1=>WD.bind (P:=fun _=>True) (WD.ite (fun _=>WD.ret trivial) fun _=>WD.ret trivial) fun j _=>WD.bind (P:=fun j=>0≤j.1) ?_ fun j hj=>WD.bind (iT hb hj 40 (by decide)) fun n ⟨n1,_,_⟩=>WD.bind (P:=fun j=>0≤j.1) ?_ fun j hj=>WD.ret hj
  · repeat' first
      | exact WD.ret (by assumption)
      | exact WD.ret trivial
      | refine WD.ite (fun _=>?_) (fun _=>?_)
      | refine WD.bind (iT hb (by assumption) _ (by decide)) fun y ⟨_,_,_⟩=>?_
      | refine WD.bind (lG hb (by assumption) (by decide)) fun y ⟨_,_⟩=>?_
      | refine WD.bind (B9 hN hb (by assumption) _ _) fun y _=>?_
      | refine WD.bind (HW hN hb (by assumption) hp _ _) fun y _=>?_
      | refine WD.bind (P:=fun (_:Bool)=>True) ?_ fun y _=>?_
  · repeat' first
      | exact WD.ret (by assumption)
      | refine WD.ite (fun _=>?_) (fun _=>?_)
      | refine WD.bind (lG hb (by assumption) (by decide)) fun y ⟨_,_⟩=>?_
theorem EO (l:List gE) (now:Int) (h:il) (k:Int):(kN l now h k).ag.length=h.ag.length:=by
  unfold kN mb;split
  · rfl
  split
  · simp only [List.length_set]
  · rfl
theorem A4 (l:List gE) (now:Int):∀ (e:List Int) (h:il),(e.foldl (kN l now) h).ag.length=h.ag.length
  | [],_=>rfl
  | k::e,h=>by
    rw [List.foldl_cons,A4 l now e,EO]
theorem Db (h:il) (now:Int):(rC h now).ag.length=h.ag.length:=by
  unfold rC;split
  · rfl
  split
  · rfl
  · rw [A4];simp only [List.length_set]
theorem Kz (h:il) (now:Int):(kA h now).1.ag.length=h.ag.length:=by
  unfold kA;split
  · split
    · unfold nC;split
      · simp only [As,List.length_set,wU]
      · exact wU h now
    · exact Db h now
  · rfl
structure Lq (p:cd) (n:Nat):Prop where
  sz:iH p≤n
  w:wP p
  len:p.py.ag.length=10
theorem Lq.call {p:cd} {n:Nat} (h:Lq p n) (hn:n≤1000000) (me now th:Int) (c:iJ):Lq (mB p me now th c).1 (n+300):=by
  have h0:=h.sz;obtain ⟨a,b⟩:=BE (p:=p) (by omega) h.w me now th c;exact ⟨by omega,b,by rw [zS (by omega) h.w];exact h.len⟩
theorem Kp {p:cd} {n:Nat} (h:iH p≤n):jr iz p.py.ag+p.py.gc.hZ.length≤n:=by
  unfold iH nj ui at h;omega
theorem Lq.step {p:cd} {n:Nat} (h:Lq p n) (now:Int):Lq (mC p (kA p.py now).1) (n+10):=by
  obtain ⟨a,b,c,_⟩:=vL (h:=p.py) h.w now;refine ⟨?_,b,by show (kA p.py now).1.ag.length=10;rw [Kz];exact h.len⟩;have h0:=h.sz;unfold iH nj ui at *
  show m6 p.PB+_≤_
  simp only [mC];omega
theorem Lq.run {N:Nat} (hN:ir≤N) {p:cd} {n:Nat} (h:Lq p n) (hn:n≤1000000) (now:Int):oU N p.py now=some (kA p.py now):=by
  have h1:=Kp h.sz;have:(16777216:Nat)=ir:=rfl;exact Ee hN (by omega) h.w (by omega) now
theorem Lq.up {p:cd} {n m:Nat} (h:Lq p n) (hm:n≤m):Lq p m:=⟨Nat.le_trans h.sz hm,h.w,h.len⟩
theorem Lq.pw {p:cd} {n:Nat} (h:Lq p n) (hn:n≤20000):Pw p:=⟨Nat.le_trans h.sz hn,h.w⟩
theorem Lq.waits {p:cd} {n:Nat} (h:Lq p n) {x:Int} (hx:-9223372036854775808≤x):Lq (mC p (il.mk (p.py.ag.set (1:Int).toNat (waiting (nth p.py.ag 1) x)) p.py.gc)) n:=by
  have hl:=h.len;have hs:jr iz (p.py.ag.set (1:Int).toNat (waiting (nth p.py.ag 1) x))=jr iz p.py.ag:=pb (by decide) (by rw [hl];decide) rfl;refine ⟨?_,kR h.w hx,by show (List.set _ _ _).length=10;rw [List.length_set];exact hl⟩;have h0:=h.sz;unfold iH nj ui at *;simp only [mC,hs];exact h0
def pS (s:Int×Int×Int×(List Int)×(List Int)×(List im)×(List gE)×Int×Int×Int×(List Int)×(List iZ)×Int×Int×Int×Int×Int×Int×Int):cd:=cd.mk (jE.mk s.2.2.2.1) s.2.2.2.2.1 s.2.2.2.2.2.1 (il.mk s.2.2.2.2.2.2.1 (jv.mk s.2.2.2.2.2.2.2.1 s.2.2.2.2.2.2.2.2.1 s.2.2.2.2.2.2.2.2.2.1 s.2.2.2.2.2.2.2.2.2.2.1)) s.2.2.2.2.2.2.2.2.2.2.2.1 s.2.2.2.2.2.2.2.2.2.2.2.2.1 s.2.2.2.2.2.2.2.2.2.2.2.2.2.1 (ic.mk s.2.2.2.2.2.2.2.2.2.2.2.2.2.2.1 s.2.2.2.2.2.2.2.2.2.2.2.2.2.2.2.1 s.2.2.2.2.2.2.2.2.2.2.2.2.2.2.2.2.1) s.2.2.2.2.2.2.2.2.2.2.2.2.2.2.2.2.2.1 s.2.2.2.2.2.2.2.2.2.2.2.2.2.2.2.2.2.2
def pJ (s:(List Int)×(List Int)×(List im)×(List gE)×Int×Int×Int×(List Int)×(List iZ)×Int×Int×Int×Int×Int×Int×Int×Int×Int):cd:=cd.mk (jE.mk s.1) s.2.1 s.2.2.1 (il.mk s.2.2.2.1 (jv.mk s.2.2.2.2.1 s.2.2.2.2.2.1 s.2.2.2.2.2.2.1 s.2.2.2.2.2.2.2.1)) s.2.2.2.2.2.2.2.2.1 s.2.2.2.2.2.2.2.2.2.1 s.2.2.2.2.2.2.2.2.2.2.1 (ic.mk s.2.2.2.2.2.2.2.2.2.2.2.1 s.2.2.2.2.2.2.2.2.2.2.2.2.1 s.2.2.2.2.2.2.2.2.2.2.2.2.2.1) s.2.2.2.2.2.2.2.2.2.2.2.2.2.2.1 s.2.2.2.2.2.2.2.2.2.2.2.2.2.2.2.1
theorem NR {b:ku} (h:lL b≤100):Lq (uZ b) 120:=by
  refine ⟨by rw [xF];omega,fun o ho=>?_,rfl⟩
  have:∀ o ∈ C6, -9223372036854775808≤o.PK:=by decide
  exact this o ho
theorem LO {N:Nat} (hN:ir≤N) {b:List U8} {i h:Int} (hb:b.length≤1048576) (hi:0≤i) (me:Int):WD (sO N ⟨b,i,h⟩ me) (fun r=>0≤r.2.i∧Lq r.1 8000):=by
  unfold sO;dsimp only;refine WD.bind (Gi hN hb hi) fun q ⟨q1,q2,q3,_⟩=>WD.step (Cw hN (by omega)) ?_;rw [show re q.1=(uZ q.1,true) from by unfold re;rw [if_pos q2]];refine WD.bind (iT hb q1 25 (by decide)) fun n ⟨n1,n2,n3⟩=>?_;refine WD.bind (WD.loop (fun s=>0≤s.1∧s.1≤24∧0≤s.2.1∧Lq (pS s) (8000 - 310 * s.1.toNat)) (fun r=>0≤r.2.1∧Lq (pS r) 8000) (fun s=>s.1.toNat) ⟨n2,by dsimp only;omega,n1,(NR q3).up (by dsimp only;omega)⟩ (sx hN (by dsimp only;omega)) ?_) fun r ⟨r1,r2⟩=>WD.ret ⟨r1,r2⟩;rintro ⟨k,i,h,l,o,t,a,ph,po,ro,g,tp,nx,wa,sp,sr,sc,pr,lo⟩ ⟨s1,s2,s3,s4⟩;dsimp only [pS] at *;refine WD.ite (fun c=>?_) fun _=>WD.inr ⟨s3,s4.up (by omega)⟩;have c:=of_decide_eq_true c;rw [iE (n:=k - 1) (by omega) (by omega)];have ha:a.length=10:=s4.len;refine WD.bind (P:=fun j=>0≤j.2.2.2.2.2.2.2.2.2.2.2.2.2.2.2.2.1∧Lq (pJ j) (8300 - 310 * k.toNat)) ?_ fun j hj=>?_
  · exact WD.bind (GA hN hb s3 (by dsimp only;omega) _) fun y y1=>WD.step (Av hN (Nat.le_trans s4.sz (by omega)) s4.w _ _ _ _) (WD.ret ⟨y1,(s4.call (by omega) _ _ _ _).up (by omega)⟩)
  obtain ⟨l,o,t,a,ph,po,ro,g,tp,nx,wa,sp,sr,sc,pr,lo,i,h⟩:=j;obtain ⟨j1,j2⟩:=hj;dsimp only [pJ] at *;refine WD.bind (mh hb j1 3) fun y y1=>WD.bind (P:=fun (j:(List gE)×Int×Int×Int×(List Int))=>Lq (cd.mk (jE.mk l) o t (il.mk j.1 (jv.mk j.2.1 j.2.2.1 j.2.2.2.1 j.2.2.2.2)) tp nx wa (ic.mk sp sr sc) pr lo) (8310 - 310 * k.toNat)) (WD.ite (fun _=>WD.step (j2.run hN (by omega) 3) (WD.ret ((j2.step 3).up (by omega)))) fun _=>WD.ret (j2.up (by omega))) fun j hj=>?_;obtain ⟨a,ph,po,ro,g⟩:=j;dsimp only at *;have ha:a.length=10:=hj.len;refine WD.bind (P:=fun j=>0≤j.2.1) ?_ fun m m1=>WD.ite (fun _=>?_) fun _=>WD.inl ⟨by dsimp only;omega,by dsimp only;omega,m1,hj.up (by dsimp only;omega)⟩ (by dsimp only;omega)
  · exact WD.bind (ly (by decide) (by omega)) fun z _=>WD.ite (fun _=>WD.bind (mh hb y1 2) fun u u1=>WD.ret u1) fun _=>WD.ret y1
  · exact WD.step (jC (by decide) (by omega)) (WD.step rfl (WD.inl ⟨by dsimp only;omega,by dsimp only;omega,m1,(hj.waits (x:=0) (by decide)).up (by dsimp only;omega)⟩ (by dsimp only;omega)))
theorem M1 {N:Nat} (hN:ir≤N) {l:List U8} (hl:l.length≤1048576):WD (tO N l) (fun r=>0≤r.i):=by
  obtain ⟨h,e⟩:=N0 hN hl;exact ⟨_,e,Int.le_refl _⟩
theorem Pw.waits {p:cd} (h:Pw p) (hl:(p.py.ag.length:Int)=10) {x:Int} (hx:-9223372036854775808≤x):Pw (mC p (il.mk (p.py.ag.set (1:Int).toNat (waiting (nth p.py.ag 1) x)) p.py.gc)) :=
  (Lq.waits (n:=20000) ⟨h.1,h.2,by omega⟩ hx).pw (by decide)
end Go.Kx
