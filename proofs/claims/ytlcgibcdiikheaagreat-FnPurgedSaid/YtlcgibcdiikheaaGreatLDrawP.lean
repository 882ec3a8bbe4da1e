import Derived.Test.YtlcgibcdiikheaaGreatLCall
namespace Go.Kx
open Go
set_option linter.unusedVariables false
set_option linter.unusedSimpArgs false
set_option maxRecDepth 10000
def WD {α:Type} (o:Option α) (Q:α→Prop):Prop:=∃ a,o=some a∧Q a
theorem WD.bind {α β:Type} {o:Option α} {f:α→Option β} {P:α→Prop} {Q:β→Prop} (h:WD o P) (k:∀ a,P a→WD (f a) Q):WD (o.bind f) Q:=by
  obtain ⟨a,rfl,ha⟩:=h;exact k a ha
theorem WD.step {α β:Type} {o:Option α} {a:α} {f:α→Option β} {Q:β→Prop} (e:o=some a) (k:WD (f a) Q):WD (o.bind f) Q:=by
  rw [e];exact k
theorem WD.ite {α:Type} {c:Bool} {a b:Option α} {Q:α→Prop} (h1:c=true→WD a Q) (h2:c=false→WD b Q):WD (bif c then a else b) Q:=by
  cases c
  · exact h2 rfl
  · exact h1 rfl
theorem WD.ret {α:Type} {a:α} {Q:α→Prop} (h:Q a):WD (some a) Q:=⟨a,rfl,h⟩
theorem WD.mono {α:Type} {o:Option α} {P Q:α→Prop} (h:WD o P) (k:∀ a,P a→Q a):WD o Q:=by
  obtain ⟨a,e,ha⟩:=h;exact ⟨a,e,k a ha⟩
def DO {σ ρ:Type} (I:σ→Prop) (J:ρ→Prop) (μ:σ→Nat) (m:Nat) (o:σ⊕ρ):Prop:=(∀ s',o=.inl s'→I s'∧μ s'<m)∧∀ r,o=.inr r→J r
theorem WD.inl {σ ρ:Type} {I:σ→Prop} {J:ρ→Prop} {μ:σ→Nat} {m:Nat} {s:σ} (h1:I s) (h2:μ s<m):WD (some (.inl s:σ⊕ρ)) (DO I J μ m) :=
  ⟨_,rfl,fun s' e=>by cases Sum.inl.inj e;exact ⟨h1,h2⟩,fun r e=>by cases e⟩
theorem WD.inr {σ ρ:Type} {I:σ→Prop} {J:ρ→Prop} {μ:σ→Nat} {m:Nat} {r:ρ} (h:J r):WD (some (.inr r:σ⊕ρ)) (DO I J μ m) :=
  ⟨_,rfl,fun s' e=>by (cases e),fun r e=>by cases Sum.inr.inj e;exact h⟩
theorem WD.loop {σ ρ:Type} {body:σ→Option (σ⊕ρ)} (I:σ→Prop) (J:ρ→Prop) (μ:σ→Nat) {N:Nat} {s:σ} (h0:I s) (hN:μ s<N) (h:∀ s,I s→WD (body s) (DO I J μ (μ s))):WD (iter body N s) J :=
  sD I J μ (fun s hs=>by obtain ⟨o,ho,h1,h2⟩:=h s hs;exact ⟨o,ho,h1,h2⟩) N s h0 hN
theorem tx {N n:Nat} (hN:gS≤N) (h:n<16777216):n<N:=Nat.lt_of_lt_of_le h hN
theorem jx {N:Nat} {b:List U8} {i h:Int} (hb:b.length≤1048576) (hi:0≤i) (n:Int) (hn:0<n):WD (ic N ⟨b,i,h⟩ n) (fun r=>0≤r.2.i∧0≤r.1∧r.1<n):=by
  obtain ⟨x,i',h',e,a1,a2,a3,_⟩:=pB (N:=N) (c:=⟨b,i,h⟩) ⟨hb,hi⟩ n;exact ⟨_,e,a1,a2,a3 hn⟩
theorem lO {N:Nat} {b:List U8} {i h:Int} (hb:b.length≤1048576) (hi:0≤i) (n:Int):WD (ji N ⟨b,i,h⟩ n) (fun r=>0≤r.2.i):=by
  obtain ⟨x,i',h',e,a1⟩:=yR (N:=N) (c:=⟨b,i,h⟩) ⟨hb,hi⟩ n;exact ⟨_,e,a1⟩
theorem uv {N:Nat} {b:List U8} {i h:Int} (hb:b.length≤1048576) (hi:0≤i) {l:List Int} (hl:0<l.length):WD (jl N ⟨b,i,h⟩ l) (fun r=>0≤r.2.i∧r.1 ∈ l):=by
  obtain ⟨x,i',h',e,a1,a2⟩:=tH (N:=N) (c:=⟨b,i,h⟩) ⟨hb,hi⟩ hl;exact ⟨_,e,a1,a2⟩
theorem mD {α:Type} {l:List α} {i:Int} (h0:0≤i) (h1:i<(l.length:Int)):WD (idx l i) (fun y=>y ∈ l):=by
  obtain ⟨y,e,hy⟩:=tX h0 h1;exact ⟨y,e,hy⟩
theorem Dg {N:Nat} (hN:gS≤N) {b:List U8} {i h:Int} (hb:b.length≤1048576) (hi:0≤i):WD (mq N ⟨b,i,h⟩) (fun r=>0≤r.2.i∧iU r.1=true):=by
  obtain ⟨x,i',h',e,a1,a2,a3⟩:=Ab (N:=N) hN (c:=⟨b,i,h⟩) ⟨hb,hi⟩;refine ⟨_,e,a1,?_⟩;unfold iU;simp only [H3,beq_iff_eq,List.all_eq_true,iG];exact ⟨by omega,a3⟩
theorem Fb {N:Nat} (hN:gS≤N) {b:List U8} {i h:Int} (hb:b.length≤1048576) (hi:0≤i):WD (pE N ⟨b,i,h⟩) (fun r=>0≤r.2.i∧r.1.length≤5):=by
  obtain ⟨x,i',h',e,a1,a2⟩:=Gi (N:=N) hN (c:=⟨b,i,h⟩) ⟨hb,hi⟩;exact ⟨_,e,a1,a2⟩
theorem B6 {N:Nat} {b:List U8} {i h:Int} (hb:b.length≤1048576) (hi:0≤i):WD (pL N ⟨b,i,h⟩) (fun r=>0≤r.2.i):=by
  obtain ⟨x,i',h',e,a1⟩:=Gc (N:=N) (c:=⟨b,i,h⟩) ⟨hb,hi⟩;exact ⟨_,e,a1⟩
theorem uD {N:Nat} (hN:gS≤N) {b:List U8} {i h:Int} (hb:b.length≤1048576) (hi:0≤i):WD (nK N ⟨b,i,h⟩) (fun r=>0≤r.2.i∧r.1.Hz.length≤5):=by
  obtain ⟨x,i',h',e,a1,a2⟩:=AL (N:=N) hN (c:=⟨b,i,h⟩) ⟨hb,hi⟩;exact ⟨_,e,a1,a2⟩
theorem qM {l:iO} (h:iU l=true):l.Hz.length=4:=by
  unfold iU at h;simp only [H3,beq_iff_eq] at h;omega
theorem zY {N:Nat} (hN:gS≤N) {b:List U8} {i h:Int} (hb:b.length≤1048576) (hi:0≤i):WD (ng N ⟨b,i,h⟩) (fun r=>0≤r.2.i∧sZ r.1=true∧iR r.1≤100∧(0≤r.1.i7.gE∧r.1.i7.gE≤1000)∧(0≤r.1.i7.gV∧r.1.i7.gV≤1000)∧(0≤r.1.i7.hY∧r.1.i7.hY≤1000)):=by
  unfold ng;dsimp only;refine WD.bind (Dg hN hb hi) fun l ⟨l1,l2⟩=>WD.bind (jx hb l1 25 (by decide)) fun x ⟨x1,x2,x3⟩=>WD.bind (jx hb x1 900 (by decide)) fun y ⟨y1,y2,y3⟩=>WD.bind (jx hb y1 60 (by decide)) fun z ⟨z1,z2,z3⟩=>WD.ret ⟨z1,?_,?_,⟨by dsimp only;omega,by dsimp only;omega⟩,⟨by dsimp only;omega,by dsimp only;omega⟩,⟨by dsimp only;omega,by dsimp only;omega⟩⟩
  · unfold sZ iT vr;simp only [H3,iG];exact ⟨⟨by omega,by omega,by omega⟩,l2,rfl⟩
  · have:=qM l2;unfold iR jJ;simp only [List.length_nil];omega
theorem Ep {N:Nat} {b:List U8} {i h:Int} (hb:b.length≤1048576) (hi:0≤i):WD (qt N ⟨b,i,h⟩) (fun r=>0≤r.2.i):=by
  unfold qt;dsimp only;exact WD.bind (lO hb hi 8) fun y y1=>WD.ite (fun _=>WD.bind (uv hb y1 (by decide)) fun z ⟨z1,_⟩=>WD.ret z1) fun _=>WD.bind (jx hb y1 400 (by decide)) fun z ⟨z1,_,_⟩=>WD.ret z1
def Ob (o:cd):Prop:=lN o∧gX o≤12
structure Aq (l:List cd):Prop where
  len:l.length=10
  ob:∀ o,o ∈ l→Ob o∧(o.HA ≠ 0→o.g5.length=2)
theorem Aq.w {l:List cd} (h:Aq l):wA l:=fun o ho=>(h.ob o ho).1.1
theorem Aq.sz {l:List cd} (h:Aq l):iL gX l≤130:=by
  have:=pM (f:=gX) (c:=12) fun y hy=>(h.ob y hy).1.2;have:=h.len;unfold iL;omega
theorem Aq.oF {l:List cd} (h:Aq l):iL gX l<gS:=by
  have:=h.sz;have:(16777216:Nat)=gS:=rfl;omega
theorem Aq.set {l:List cd} (h:Aq l) {o:cd} (k:Nat) (h1:Ob o) (h2:o.HA ≠ 0→o.g5.length=2):Aq (l.set k o):=by
  refine ⟨by rw [List.length_set];exact h.len,fun y hy=>?_⟩
  rcases List.mem_or_eq_of_mem_set hy with q | rfl
  · exact h.ob y q
  · exact ⟨h1,h2⟩
theorem Aq.new:Aq nW:=by
  refine ⟨rfl,fun o ho=>?_⟩
  have h:∀ o ∈ nW, -9223372036854775808≤o.HK∧gX o≤12∧(o.HA ≠ 0→o.g5.length=2):=by decide
  obtain ⟨a,b,c⟩:=h o ho;exact ⟨⟨a,b⟩,c⟩
theorem Aq.free {l:List cd} (h:Aq l) (i:Int):Aq (lj l i).1:=by
  unfold lj;split
  · have h1:=h.set (o:=blank (nth l i).HR) i.toNat ⟨z4 _,by show (0:Nat)≤12;decide⟩ (fun h=>absurd rfl h);refine ⟨by simp only [List.length_map];exact h1.len,fun y hy=>?_⟩;obtain ⟨o,ho,rfl⟩:=List.mem_map.1 hy;obtain ⟨⟨a,b⟩,c⟩:=h1.ob o ho;refine ⟨⟨Dw a,by rw [Cy];exact b⟩,?_⟩;unfold v5;split
    · exact c
    · simp only [List.length_map];exact c
  · exact h
theorem BR (l:List cd) (o:cd) (k:Nat) (x:cd):(putAt l o k x).1=l∨∃ (j:Nat) (g:Int),(putAt l o k x).1=l.set j (kJ o g):=by
  unfold putAt;split
  · exact .inr ⟨_,_,rfl⟩
  · exact .inl rfl
theorem xq (l:List cd) (o:cd):∀ (m:List cd) (k:Nat),(qq l o k m).1=l∨∃ (j:Nat) (g:Int),(qq l o k m).1=l.set j (kJ o g)
  | [],_=>.inl rfl
  | x::m,k=>by
    unfold qq;split
    · exact xq l o m (k+1)
    · exact BR l o k x
theorem D5 (l:List cd) (o:cd):(jX l o).1=l∨∃ (j:Nat) (g:Int),(jX l o).1=l.set j (kJ o g):=by
  unfold jX;split
  · exact xq l o _ _
  · exact .inl rfl
theorem Aq.put {l:List cd} (h:Aq l) {o:cd} (h1:Ob o) (h2:o.g5.length=2):Aq (jX l o).1:=by
  rcases D5 l o with e | ⟨j,g,e⟩
  · rw [e];exact h
  · rw [e];exact h.set j ⟨sO h1.1,h1.2⟩ fun _=>h2
structure Aw (l:List cd):Prop where
  w:wA l
  sz:iL gX l≤200
theorem Aq.aw {l:List cd} (h:Aq l):Aw l:=⟨h.w,Nat.le_trans h.sz (by decide)⟩
structure Hw (h:g7) (n:Nat):Prop where
  a:Aw h.ag
  g:h.gc.gQ.length≤n
theorem Hw.step {h:g7} {n:Nat} (q:Hw h n) (now:Int):Hw (kb h now).1 (n+10):=by
  obtain ⟨a,b,c,_⟩:=qU q.a.w now;exact ⟨⟨b,Nat.le_trans a q.a.sz⟩,by have:=q.g;omega⟩
theorem Hw.run {N:Nat} (hN:gS≤N) {h:g7} {n:Nat} (q:Hw h n) (hn:n≤100000) (now:Int):mU N h now=some (kb h now):=by
  have h1:=q.a.sz;have h2:=q.g;have:(16777216:Nat)=gS:=rfl;exact vg hN (by omega) q.a.w (by omega) now
def Pw (p:bh):Prop:=ib p≤20000∧wP p
theorem Ga {p:bh} (h1:p.HB.Hz.length≤5) (h2:p.own.length≤5) (h3:p.HC.length≤5) (h4:Hw p.py 600) (h5:p.gR.length≤4):Pw p:=by
  refine ⟨?_,h4.a.w⟩;have:=h4.a.sz;have:=h4.g;unfold ib ks oX jJ;omega
structure Pq (p:bh):Prop where
  la:p.HB.Hz.length≤5
  ow:p.own.length≤5
  tr:p.HC.length≤5
  hp:Hw p.py 600
  ta:p.gR.length≤4
theorem Pq.pw {p:bh} (h:Pq p):Pw p:=Ga h.la h.ow h.tr h.hp h.ta
theorem w9 {N:Nat} (hN:gS≤N) {b:List U8} {i h:Int} (hb:b.length≤1048576) (hi:0≤i) (p:bh) (me:Int):WD (ko N ⟨b,i,h⟩ p me) (fun r=>0≤r.2.i):=by
  unfold ko;dsimp only;refine WD.bind (P:=fun j=>0≤j.2.1∧(j.1=false→(p.py.ag.length:Int)=10)) ?_ fun j ⟨hj,hl⟩=>?_
  · refine WD.ite (fun _=>WD.ret ⟨hi,by simp⟩) fun c=>WD.bind (lO hb hi 15) fun y y1=>WD.ret ⟨y1,fun _=>by simpa using c⟩
  refine WD.ite (fun _=>WD.bind (Ep hb hj) fun y y1=>WD.ret y1) fun c=>?_;have hl:=hl c;refine WD.bind (jx hb hj 10 (by decide)) fun y ⟨y1,y2,y3⟩=>?_;refine WD.bind (WD.loop (fun s=>0≤s.1∧s.1<10∧0≤s.2.1∧s.2.1≤4∧0≤s.2.2.1) (fun r=>0≤r.1∧r.1<10∧0≤r.2.2.1) (fun s=>(4 - s.2.1).toNat) ⟨y2,y3,Int.le_refl _,by simp,y1⟩ (tx hN (by simp)) ?_) fun r ⟨r1,r2,r3⟩=>?_
  · rintro ⟨k,n,i,h⟩ ⟨s1,s2,s3,s4,s5⟩;dsimp only at *;refine WD.bind (P:=fun j=>j=true→n<4) ?_ fun j hj=>WD.ite (fun c=>?_) fun _=>WD.inr ⟨s1,s2,s5⟩
    · refine WD.ite (fun c=>?_) fun _=>WD.ret (by simp);exact WD.bind (mD s1 (by omega)) fun y _=>WD.ret fun _=>of_decide_eq_true c
    · have:=hj c;rw [iC (n:=n+1) (by omega) (by omega)];exact WD.bind (jx hb s5 10 (by decide)) fun y ⟨y1,y2,y3⟩=>WD.inl ⟨y2,y3,by dsimp only;omega,by dsimp only;omega,y1⟩ (by dsimp only;omega)
  · exact WD.bind (mD r1 (by omega)) fun z _=>WD.bind (lO hb r3 20) fun y y1=>WD.bind (P:=fun _=>True) (WD.ite (fun _=>WD.ret trivial) fun _=>WD.ret trivial) fun j _=>WD.step (qX _ _ _ _) (WD.ret y1)
theorem A6 {N:Nat} (hN:gS≤N) {b:List U8} {i h:Int} (hb:b.length≤1048576) (hi:0≤i) {p:bh} (hp:p.py.ag.length≤1000000) (me k:Int):WD (lJ N ⟨b,i,h⟩ p me k) (fun r=>0≤r.2.i):=by
  unfold lJ;dsimp only;refine WD.bind (WD.loop (fun s=>0≤s.1∧s.1≤(p.py.ag.length:Int)∧0≤s.2.1) (fun r=>Sum.elim (fun s=>0≤s.2.1) (fun r=>0≤r.2.i) r) (fun s=>((p.py.ag.length:Int) - s.1).toNat) ⟨Int.le_refl _,by dsimp only;omega,hi⟩ (tx hN (by dsimp only;omega)) ?_) fun r hr=>?_
  · rintro ⟨k,i,h⟩ ⟨s1,s2,s3⟩;dsimp only at *;refine WD.ite (fun c=>?_) (fun c=>WD.inr s3);have c:=of_decide_eq_true c;rw [iC (n:=k+1) (by omega) (by omega)];refine WD.bind (P:=fun j=>0≤j.2.1) ?_ fun j hj=>WD.ite (fun _=>?_) fun _=>WD.inl ⟨by dsimp only;omega,by dsimp only;omega,hj⟩ (by dsimp only;omega)
    · exact WD.bind (mD s1 c) fun y _=>WD.ite (fun _=>WD.bind (lO hb s3 2) fun z z1=>WD.ret z1) fun _=>WD.ret s3
    · exact WD.bind (mD s1 c) fun y _=>WD.step (qX _ _ _ _) (WD.inr hj)
  · cases r with
    | inl s =>
      simp only [Sum.elim_inl] at *;exact WD.bind (w9 hN hb hr _ _) fun y y1=>WD.ret y1
    | inr s =>
      simp only [Sum.elim_inr] at *;exact WD.ret hr
theorem Ed {N:Nat} (hN:gS≤N) {b:List U8} {i h:Int} (hb:b.length≤1048576) (hi:0≤i) {p:bh} (hp:p.py.ag.length≤1000000) (me:Int):WD (oM N ⟨b,i,h⟩ p me) (fun r=>0≤r.2.i):=by
  unfold oM;dsimp only;refine WD.bind (jx hb hi 17 (by decide)) fun k ⟨k1,_,_⟩=>WD.bind (lO hb k1 3) fun m m1=>WD.bind (P:=fun _=>True) (WD.ite (fun _=>WD.ret trivial) fun _=>WD.ret trivial) fun j _=>WD.bind (P:=fun j=>0≤j.1) ?_ fun j hj=>WD.bind (jx hb hj 40 (by decide)) fun n ⟨n1,_,_⟩=>WD.bind (P:=fun j=>0≤j.1) ?_ fun j hj=>WD.ret hj
  · repeat' first
      | exact WD.ret (by assumption)
      | exact WD.ret trivial
      | refine WD.ite (fun _=>?_) (fun _=>?_)
      | refine WD.bind (jx hb (by assumption) _ (by decide)) fun y ⟨_,_,_⟩=>?_
      | refine WD.bind (uv hb (by assumption) (by decide)) fun y ⟨_,_⟩=>?_
      | refine WD.bind (w9 hN hb (by assumption) _ _) fun y _=>?_
      | refine WD.bind (A6 hN hb (by assumption) hp _ _) fun y _=>?_
      | refine WD.bind (P:=fun (_:Bool)=>True) ?_ fun y _=>?_
  · repeat' first
      | exact WD.ret (by assumption)
      | refine WD.ite (fun _=>?_) (fun _=>?_)
      | refine WD.bind (uv hb (by assumption) (by decide)) fun y ⟨_,_⟩=>?_
theorem zo (l:List cd) (now:Int) (h:g7) (k:Int):(kh l now h k).ag.length=h.ag.length:=by
  unfold kh mA;split
  · rfl
  split
  · simp only [List.length_set]
  · rfl
theorem vi (l:List cd) (now:Int):∀ (e:List Int) (h:g7),(e.foldl (kh l now) h).ag.length=h.ag.length
  | [],_=>rfl
  | k::e,h=>by
    rw [List.foldl_cons,vi l now e,zo]
theorem yd (h:g7) (now:Int):(ql h now).ag.length=h.ag.length:=by
  unfold ql;split
  · rfl
  split
  · rfl
  · rw [vi];simp only [List.length_set]
theorem Dp (h:g7) (now:Int):(kb h now).1.ag.length=h.ag.length:=by
  unfold kb;split
  · split
    · unfold om;split
      · simp only [wk,List.length_set,rV]
      · exact rV h now
    · exact yd h now
  · rfl
structure Lq (p:bh) (n:Nat):Prop where
  sz:ib p≤n
  w:wP p
  len:p.py.ag.length=10
theorem Lq.call {p:bh} {n:Nat} (h:Lq p n) (hn:n≤1000000) (me now th:Int) (c:il):Lq (mx p me now th c).1 (n+300):=by
  have h0:=h.sz;obtain ⟨a,b⟩:=z5 (p:=p) (by omega) h.w me now th c;exact ⟨by omega,b,by rw [yp (by omega) h.w];exact h.len⟩
theorem CH {p:bh} {n:Nat} (h:ib p≤n):iL gX p.py.ag+p.py.gc.gQ.length≤n:=by
  unfold ib ks oX at h;omega
theorem Lq.step {p:bh} {n:Nat} (h:Lq p n) (now:Int):Lq (lu p (kb p.py now).1) (n+10):=by
  obtain ⟨a,b,c,_⟩:=qU (h:=p.py) h.w now;refine ⟨?_,b,by show (kb p.py now).1.ag.length=10;rw [Dp];exact h.len⟩;have h0:=h.sz;unfold ib ks oX at *
  show jJ p.HB+_≤_
  simp only [lu];omega
theorem Lq.run {N:Nat} (hN:gS≤N) {p:bh} {n:Nat} (h:Lq p n) (hn:n≤1000000) (now:Int):mU N p.py now=some (kb p.py now):=by
  have h1:=CH h.sz;have:(16777216:Nat)=gS:=rfl;exact vg hN (by omega) h.w (by omega) now
theorem Lq.up {p:bh} {n m:Nat} (h:Lq p n) (hm:n≤m):Lq p m:=⟨Nat.le_trans h.sz hm,h.w,h.len⟩
theorem Lq.pw {p:bh} {n:Nat} (h:Lq p n) (hn:n≤20000):Pw p:=⟨Nat.le_trans h.sz hn,h.w⟩
theorem Lq.waits {p:bh} {n:Nat} (h:Lq p n) {x:Int} (hx:-9223372036854775808≤x):Lq (lu p (g7.mk (p.py.ag.set (1:Int).toNat (waiting (nth p.py.ag 1) x)) p.py.gc)) n:=by
  have hl:=h.len;have hs:iL gX (p.py.ag.set (1:Int).toNat (waiting (nth p.py.ag 1) x))=iL gX p.py.ag:=mu (by decide) (by rw [hl];decide) rfl;refine ⟨?_,jL h.w hx,by show (List.set _ _ _).length=10;rw [List.length_set];exact hl⟩;have h0:=h.sz;unfold ib ks oX at *;simp only [lu,hs];exact h0
theorem Fj {N:Nat} (hN:gS≤N) {l:List U8} (hl:l.length≤1048576):WD (pI N l) (fun r=>0≤r.i):=by
  obtain ⟨h,e⟩:=Gq hN hl;exact ⟨_,e,Int.le_refl _⟩
theorem Pw.waits {p:bh} (h:Pw p) (hl:(p.py.ag.length:Int)=10) {x:Int} (hx:-9223372036854775808≤x):Pw (lu p (g7.mk (p.py.ag.set (1:Int).toNat (waiting (nth p.py.ag 1) x)) p.py.gc)) :=
  (Lq.waits (n:=20000) ⟨h.1,h.2,by omega⟩ hx).pw (by decide)
end Go.Kx
