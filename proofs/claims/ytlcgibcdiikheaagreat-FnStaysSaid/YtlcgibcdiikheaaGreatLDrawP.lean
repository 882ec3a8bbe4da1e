import Derived.Test.YtlcgibcdiikheaaGreatLTaps
namespace Go.Kx
open Go
open Go.IntKind (i64)
set_option linter.unusedVariables false
set_option linter.unusedSimpArgs false
set_option maxRecDepth 10000
def WD {α:Type} (o:Option α) (Q:α→Prop):Prop:=∃ a,o=some a∧Q a
theorem WD.bind {α β:Type} {o:Option α} {f:α→Option β} {P:α→Prop} {Q:β→Prop} (h:WD o P) (k:∀ a,P a→WD (f a) Q):WD (o.bind f) Q:=by
  obtain ⟨a,rfl,ha⟩:=h;exact k a ha
theorem WD.step {α β:Type} {o:Option α} {a:α} {f:α→Option β} {Q:β→Prop} (e:o=some a) (k:WD (f a) Q):WD (o.bind f) Q:=by
  rw [e];exact k
theorem WD.ite {α:Type} {c:Bool} {a b:Option α} {Q:α→Prop} (h1:c=true→WD a Q) (h2:c=false→WD b Q):WD (bif c then a else b) Q:=by
  cases c
  · exact h2 rfl
  · exact h1 rfl
theorem WD.ret {α:Type} {a:α} {Q:α→Prop} (h:Q a):WD (some a) Q:=⟨a,rfl,h⟩
theorem WD.mono {α:Type} {o:Option α} {P Q:α→Prop} (h:WD o P) (k:∀ a,P a→Q a):WD o Q:=by
  obtain ⟨a,e,ha⟩:=h;exact ⟨a,e,k a ha⟩
def O2 {σ ρ:Type} (I:σ→Prop) (J:ρ→Prop) (μ:σ→Nat) (m:Nat) (o:σ⊕ρ):Prop:=(∀ s',o=.inl s'→I s'∧μ s'<m)∧∀ r,o=.inr r→J r
theorem WD.inl {σ ρ:Type} {I:σ→Prop} {J:ρ→Prop} {μ:σ→Nat} {m:Nat} {s:σ} (h1:I s) (h2:μ s<m):WD (some (.inl s:σ⊕ρ)) (O2 I J μ m) :=
  ⟨_,rfl,fun s' e=>by cases Sum.inl.inj e;exact ⟨h1,h2⟩,fun r e=>by cases e⟩
theorem WD.inr {σ ρ:Type} {I:σ→Prop} {J:ρ→Prop} {μ:σ→Nat} {m:Nat} {r:ρ} (h:J r):WD (some (.inr r:σ⊕ρ)) (O2 I J μ m) :=
  ⟨_,rfl,fun s' e=>by (cases e),fun r e=>by cases Sum.inr.inj e;exact h⟩
theorem WD.loop {σ ρ:Type} {body:σ→Option (σ⊕ρ)} (I:σ→Prop) (J:ρ→Prop) (μ:σ→Nat) {N:Nat} {s:σ} (h0:I s) (hN:μ s<N) (h:∀ s,I s→WD (body s) (O2 I J μ (μ s))):WD (iter body N s) J :=
  xX I J μ (fun s hs=>by obtain ⟨o,ho,h1,h2⟩:=h s hs;exact ⟨o,ho,h1,h2⟩) N s h0 hN
theorem yY {N n:Nat} (hN:gX≤N) (h:n<16777216):n<N:=Nat.lt_of_lt_of_le h hN
theorem kZ {N:Nat} {b:List U8} {i h:Int} (hb:b.length≤1048576) (hi:0≤i) (n:Int) (hn:0<n):WD (iz N ⟨b,i,h⟩ n) (fun r=>0≤r.2.i∧0≤r.1∧r.1<n):=by
  obtain ⟨x,i',h',e,a1,a2,a3,_⟩:=uB (N:=N) (c:=⟨b,i,h⟩) ⟨hb,hi⟩ n;exact ⟨_,e,a1,a2,a3 hn⟩
theorem oW {N:Nat} {b:List U8} {i h:Int} (hb:b.length≤1048576) (hi:0≤i) (n:Int):WD (ks N ⟨b,i,h⟩ n) (fun r=>0≤r.2.i):=by
  obtain ⟨x,i',h',e,a1⟩:=DT (N:=N) (c:=⟨b,i,h⟩) ⟨hb,hi⟩ n;exact ⟨_,e,a1⟩
theorem zR {N:Nat} {b:List U8} {i h:Int} (hb:b.length≤1048576) (hi:0≤i) {l:List Int} (hl:0<l.length):WD (ku N ⟨b,i,h⟩ l) (fun r=>0≤r.2.i∧r.1 ∈ l):=by
  obtain ⟨x,i',h',e,a1,a2⟩:=yV (N:=N) (c:=⟨b,i,h⟩) ⟨hb,hi⟩ hl;exact ⟨_,e,a1,a2⟩
theorem qF {α:Type} {l:List α} {i:Int} (h0:0≤i) (h1:i<(l.length:Int)):WD (idx l i) (fun y=>y ∈ l):=by
  obtain ⟨y,e,hy⟩:=zp h0 h1;exact ⟨y,e,hy⟩
theorem LB {N:Nat} (hN:gX≤N) {b:List U8} {i h:Int} (hb:b.length≤1048576) (hi:0≤i):WD (pH N ⟨b,i,h⟩) (fun r=>0≤r.2.i∧jE r.1=true):=by
  obtain ⟨x,i',h',e,a1,a2,a3⟩:=HD (N:=N) hN (c:=⟨b,i,h⟩) ⟨hb,hi⟩;refine ⟨_,e,a1,?_⟩;unfold jE;simp only [Rg,beq_iff_eq,List.all_eq_true,ir];exact ⟨by omega,a3⟩
theorem Oo {N:Nat} (hN:gX≤N) {b:List U8} {i h:Int} (hb:b.length≤1048576) (hi:0≤i):WD (uI N ⟨b,i,h⟩) (fun r=>0≤r.2.i∧r.1.length≤5):=by
  obtain ⟨x,i',h',e,a1,a2⟩:=Py (N:=N) hN (c:=⟨b,i,h⟩) ⟨hb,hi⟩;exact ⟨_,e,a1,a2⟩
theorem JV {N:Nat} {b:List U8} {i h:Int} (hb:b.length≤1048576) (hi:0≤i):WD (uh N ⟨b,i,h⟩) (fun r=>0≤r.2.i):=by
  obtain ⟨x,i',h',e,a1⟩:=PQ (N:=N) (c:=⟨b,i,h⟩) ⟨hb,hi⟩;exact ⟨_,e,a1⟩
theorem Gh {N:Nat} (hN:gX≤N) {b:List U8} {i h:Int} (hb:b.length≤1048576) (hi:0≤i):WD (uj N ⟨b,i,h⟩) (fun r=>0≤r.2.i∧r.1.so.length≤5):=by
  obtain ⟨x,i',h',e,a1,a2⟩:=Iz (N:=N) hN (c:=⟨b,i,h⟩) ⟨hb,hi⟩;exact ⟨_,e,a1,a2⟩
theorem wj {l:kj} (h:jE l=true):l.so.length=4:=by
  unfold jE at h;simp only [Rg,beq_iff_eq] at h;omega
theorem HN {N:Nat} (hN:gX≤N) {b:List U8} {i h:Int} (hb:b.length≤1048576) (hi:0≤i):WD (rk N ⟨b,i,h⟩) (fun r=>0≤r.2.i∧vi r.1=true∧jI r.1≤100∧(0≤r.1.jq.bh∧r.1.jq.bh≤1000)∧(0≤r.1.jq.gS∧r.1.jq.gS≤1000)∧(0≤r.1.jq.gW∧r.1.jq.gW≤1000)):=by
  unfold rk;dsimp only;refine WD.bind (LB hN hb hi) fun l ⟨l1,l2⟩=>WD.bind (kZ hb l1 25 (by decide)) fun x ⟨x1,x2,x3⟩=>WD.bind (kZ hb x1 900 (by decide)) fun y ⟨y1,y2,y3⟩=>WD.bind (kZ hb y1 60 (by decide)) fun z ⟨z1,z2,z3⟩=>WD.ret ⟨z1,?_,?_,⟨by dsimp only;omega,by dsimp only;omega⟩,⟨by dsimp only;omega,by dsimp only;omega⟩,⟨by dsimp only;omega,by dsimp only;omega⟩⟩
  · unfold vi iC wM;simp only [Rg,ir];exact ⟨⟨by omega,by omega,by omega⟩,l2,rfl⟩
  · have:=wj l2;unfold jI lQ;simp only [List.length_nil];omega
theorem M8 {N:Nat} {b:List U8} {i h:Int} (hb:b.length≤1048576) (hi:0≤i):WD (vM N ⟨b,i,h⟩) (fun r=>0≤r.2.i):=by
  unfold vM;dsimp only;exact WD.bind (oW hb hi 8) fun y y1=>WD.ite (fun _=>WD.bind (zR hb y1 (by decide)) fun z ⟨z1,_⟩=>WD.ret z1) fun _=>WD.bind (kZ hb y1 400 (by decide)) fun z ⟨z1,_,_⟩=>WD.ret z1
def Ob (o:gE):Prop:=n8 o∧ib o≤12
structure Aq (l:List gE):Prop where
  len:l.length=10
  ob:∀ o,o ∈ l→Ob o∧(o.py ≠ 0→o.gZ.length=2)
theorem Aq.w {l:List gE} (h:Aq l):wA l:=fun o ho=>(h.ob o ho).1.1
theorem Aq.sz {l:List gE} (h:Aq l):iY ib l≤130:=by
  have:=uy (f:=ib) (c:=12) fun y hy=>(h.ob y hy).1.2;have:=h.len;unfold iY;omega
theorem Aq.qn {l:List gE} (h:Aq l):iY ib l<gX:=by
  have:=h.sz;have:(16777216:Nat)=gX:=rfl;omega
theorem Aq.set {l:List gE} (h:Aq l) {o:gE} (k:Nat) (h1:Ob o) (h2:o.py ≠ 0→o.gZ.length=2):Aq (l.set k o):=by
  refine ⟨by rw [List.length_set];exact h.len,fun y hy=>?_⟩
  rcases List.mem_or_eq_of_mem_set hy with q | rfl
  · exact h.ob y q
  · exact ⟨h1,h2⟩
theorem Aq.new:Aq r8:=by
  refine ⟨rfl,fun o ho=>?_⟩
  have h:∀ o ∈ r8, -9223372036854775808≤o.QW∧ib o≤12∧(o.py ≠ 0→o.gZ.length=2):=by decide
  obtain ⟨a,b,c⟩:=h o ho;exact ⟨⟨a,b⟩,c⟩
theorem Aq.free {l:List gE} (h:Aq l) (i:Int):Aq (lF l i).1:=by
  unfold lF;split
  · have h1:=h.set (o:=blank (nth l i).Q3) i.toNat ⟨Hz _,by show (0:Nat)≤12;decide⟩ (fun h=>absurd rfl h);refine ⟨by simp only [List.length_map];exact h1.len,fun y hy=>?_⟩;obtain ⟨o,ho,rfl⟩:=List.mem_map.1 hy;obtain ⟨⟨a,b⟩,c⟩:=h1.ob o ho;refine ⟨⟨MN a,by rw [Lb];exact b⟩,?_⟩;unfold nf;split
    · exact c
    · simp only [List.length_map];exact c
  · exact h
theorem Jq (l:List gE) (o:gE) (k:Nat) (x:gE):(putAt l o k x).1=l∨∃ (j:Nat) (g:Int),(putAt l o k x).1=l.set j (kB o g):=by
  unfold putAt;split
  · exact .inr ⟨_,_,rfl⟩
  · exact .inl rfl
theorem CT (l:List gE) (o:gE):∀ (m:List gE) (k:Nat),(rD l o k m).1=l∨∃ (j:Nat) (g:Int),(rD l o k m).1=l.set j (kB o g)
  | [],_=>.inl rfl
  | x::m,k=>by
    unfold rD;split
    · exact CT l o m (k+1)
    · exact Jq l o k x
theorem Nk (l:List gE) (o:gE):(kI l o).1=l∨∃ (j:Nat) (g:Int),(kI l o).1=l.set j (kB o g):=by
  unfold kI;split
  · exact CT l o _ _
  · exact .inl rfl
theorem Aq.put {l:List gE} (h:Aq l) {o:gE} (h1:Ob o) (h2:o.gZ.length=2):Aq (kI l o).1:=by
  rcases Nk l o with e | ⟨j,g,e⟩
  · rw [e];exact h
  · rw [e];exact h.set j ⟨yD h1.1,h1.2⟩ fun _=>h2
structure Aw (l:List gE):Prop where
  w:wA l
  sz:iY ib l≤200
theorem Aq.aw {l:List gE} (h:Aq l):Aw l:=⟨h.w,Nat.le_trans h.sz (by decide)⟩
structure Hw (h:gV) (n:Nat):Prop where
  a:Aw h.ag
  g:h.gc.gQ.length≤n
theorem Hw.step {h:gV} {n:Nat} (q:Hw h n) (now:Int):Hw (ji h now).1 (n+10):=by
  obtain ⟨a,b,c,_⟩:=su q.a.w now;exact ⟨⟨b,Nat.le_trans a q.a.sz⟩,by have:=q.g;omega⟩
theorem Hw.run {N:Nat} (hN:gX≤N) {h:gV} {n:Nat} (q:Hw h n) (hn:n≤100000) (now:Int):qz N h now=some (ji h now):=by
  have h1:=q.a.sz;have h2:=q.g;have:(16777216:Nat)=gX:=rfl;exact AR hN (by omega) q.a.w (by omega) now
def Pw (p:cd):Prop:=ij p≤20000∧wP p
theorem PF {p:cd} (h1:p.QQ.so.length≤5) (h2:p.own.length≤5) (h3:p.QR.length≤5) (h4:Hw p.heap 600) (h5:p.gR.length≤4):Pw p:=by
  refine ⟨?_,h4.a.w⟩;have:=h4.a.sz;have:=h4.g;unfold ij my rR lQ;omega
structure Pq (p:cd):Prop where
  la:p.QQ.so.length≤5
  ow:p.own.length≤5
  tr:p.QR.length≤5
  hp:Hw p.heap 600
  ta:p.gR.length≤4
theorem Pq.pw {p:cd} (h:Pq p):Pw p:=PF h.la h.ow h.tr h.hp h.ta
theorem C7 {N:Nat} (hN:gX≤N) {b:List U8} {i h:Int} (hb:b.length≤1048576) (hi:0≤i) (p:cd) (me:Int):WD (mI N ⟨b,i,h⟩ p me) (fun r=>0≤r.2.i):=by
  unfold mI;dsimp only;refine WD.bind (P:=fun j=>0≤j.2.1∧(j.1=false→(p.heap.ag.length:Int)=10)) ?_ fun j ⟨hj,hl⟩=>?_
  · refine WD.ite (fun _=>WD.ret ⟨hi,by simp⟩) fun c=>WD.bind (oW hb hi 15) fun y y1=>WD.ret ⟨y1,fun _=>by simpa using c⟩
  refine WD.ite (fun _=>WD.bind (M8 hb hj) fun y y1=>WD.ret y1) fun c=>?_;have hl:=hl c;refine WD.bind (kZ hb hj 10 (by decide)) fun y ⟨y1,y2,y3⟩=>?_;refine WD.bind (WD.loop (fun s=>0≤s.1∧s.1<10∧0≤s.2.1∧s.2.1≤4∧0≤s.2.2.1) (fun r=>0≤r.1∧r.1<10∧0≤r.2.2.1) (fun s=>(4 - s.2.1).toNat) ⟨y2,y3,Int.le_refl _,by simp,y1⟩ (yY hN (by simp)) ?_) fun r ⟨r1,r2,r3⟩=>?_
  · rintro ⟨k,n,i,h⟩ ⟨s1,s2,s3,s4,s5⟩;dsimp only at *;refine WD.bind (P:=fun j=>j=true→n<4) ?_ fun j hj=>WD.ite (fun c=>?_) fun _=>WD.inr ⟨s1,s2,s5⟩
    · refine WD.ite (fun c=>?_) fun _=>WD.ret (by simp);exact WD.bind (qF s1 (by omega)) fun y _=>WD.ret fun _=>of_decide_eq_true c
    · have:=hj c;rw [ig (n:=n+1) (by omega) (by omega)];exact WD.bind (kZ hb s5 10 (by decide)) fun y ⟨y1,y2,y3⟩=>WD.inl ⟨y2,y3,by dsimp only;omega,by dsimp only;omega,y1⟩ (by dsimp only;omega)
  · exact WD.bind (qF r1 (by omega)) fun z _=>WD.bind (oW hb r3 20) fun y y1=>WD.bind (P:=fun _=>True) (WD.ite (fun _=>WD.ret trivial) fun _=>WD.ret trivial) fun j _=>WD.step (uV _ _ _ _) (WD.ret y1)
theorem IY {N:Nat} (hN:gX≤N) {b:List U8} {i h:Int} (hb:b.length≤1048576) (hi:0≤i) {p:cd} (hp:p.heap.ag.length≤1000000) (me k:Int):WD (oE N ⟨b,i,h⟩ p me k) (fun r=>0≤r.2.i):=by
  unfold oE;dsimp only;refine WD.bind (WD.loop (fun s=>0≤s.1∧s.1≤(p.heap.ag.length:Int)∧0≤s.2.1) (fun r=>Sum.elim (fun s=>0≤s.2.1) (fun r=>0≤r.2.i) r) (fun s=>((p.heap.ag.length:Int) - s.1).toNat) ⟨Int.le_refl _,by dsimp only;omega,hi⟩ (yY hN (by dsimp only;omega)) ?_) fun r hr=>?_
  · rintro ⟨k,i,h⟩ ⟨s1,s2,s3⟩;dsimp only at *;refine WD.ite (fun c=>?_) (fun c=>WD.inr s3);have c:=of_decide_eq_true c;rw [ig (n:=k+1) (by omega) (by omega)];refine WD.bind (P:=fun j=>0≤j.2.1) ?_ fun j hj=>WD.ite (fun _=>?_) fun _=>WD.inl ⟨by dsimp only;omega,by dsimp only;omega,hj⟩ (by dsimp only;omega)
    · exact WD.bind (qF s1 c) fun y _=>WD.ite (fun _=>WD.bind (oW hb s3 2) fun z z1=>WD.ret z1) fun _=>WD.ret s3
    · exact WD.bind (qF s1 c) fun y _=>WD.step (uV _ _ _ _) (WD.inr hj)
  · cases r with
    | inl s =>
      simp only [Sum.elim_inl] at *;exact WD.bind (C7 hN hb hr _ _) fun y y1=>WD.ret y1
    | inr s =>
      simp only [Sum.elim_inr] at *;exact WD.ret hr
theorem N2 {N:Nat} (hN:gX≤N) {b:List U8} {i h:Int} (hb:b.length≤1048576) (hi:0≤i) {p:cd} (hp:p.heap.ag.length≤1000000) (me:Int):WD (tE N ⟨b,i,h⟩ p me) (fun r=>0≤r.2.i):=by
  unfold tE;dsimp only;refine WD.bind (kZ hb hi 17 (by decide)) fun k ⟨k1,_,_⟩=>WD.bind (oW hb k1 3) fun m m1=>WD.bind (P:=fun _=>True) (WD.ite (fun _=>WD.ret trivial) fun _=>WD.ret trivial) fun j _=>WD.bind (P:=fun j=>0≤j.1) ?_ fun j hj=>WD.bind (kZ hb hj 40 (by decide)) fun n ⟨n1,_,_⟩=>WD.bind (P:=fun j=>0≤j.1) ?_ fun j hj=>WD.ret hj
  · repeat' first
      | exact WD.ret (by assumption)
      | exact WD.ret trivial
      | refine WD.ite (fun _=>?_) (fun _=>?_)
      | refine WD.bind (kZ hb (by assumption) _ (by decide)) fun y ⟨_,_,_⟩=>?_
      | refine WD.bind (zR hb (by assumption) (by decide)) fun y ⟨_,_⟩=>?_
      | refine WD.bind (C7 hN hb (by assumption) _ _) fun y _=>?_
      | refine WD.bind (IY hN hb (by assumption) hp _ _) fun y _=>?_
      | refine WD.bind (P:=fun (_:Bool)=>True) ?_ fun y _=>?_
  · repeat' first
      | exact WD.ret (by assumption)
      | refine WD.ite (fun _=>?_) (fun _=>?_)
      | refine WD.bind (zR hb (by assumption) (by decide)) fun y ⟨_,_⟩=>?_
theorem FY (l:List gE) (now:Int) (h:gV) (k:Int):(jy l now h k).ag.length=h.ag.length:=by
  unfold jy jG;split
  · rfl
  split
  · simp only [List.length_set]
  · rfl
theorem A6 (l:List gE) (now:Int):∀ (e:List Int) (h:gV),(e.foldl (jy l now) h).ag.length=h.ag.length
  | [],_=>rfl
  | k::e,h=>by
    rw [List.foldl_cons,A6 l now e,FY]
theorem Eb (h:gV) (now:Int):(nv h now).ag.length=h.ag.length:=by
  unfold nv;split
  · rfl
  split
  · rfl
  · rw [A6];simp only [List.length_set]
theorem L8 (h:gV) (now:Int):(ji h now).1.ag.length=h.ag.length:=by
  unfold ji;split
  · split
    · unfold kV;split
      · simp only [qK,List.length_set,vE]
      · exact vE h now
    · exact Eb h now
  · rfl
structure Lq (p:cd) (n:Nat):Prop where
  sz:ij p≤n
  w:wP p
  len:p.heap.ag.length=10
theorem Lq.call {p:cd} {n:Nat} (h:Lq p n) (hn:n≤1000000) (me now th:Int) (c:iA):Lq (mZ p me now th c).1 (n+300):=by
  have h0:=h.sz;obtain ⟨a,b⟩:=Cm (p:=p) (by omega) h.w me now th c;exact ⟨by omega,b,by rw [AH (by omega) h.w];exact h.len⟩
theorem LC {p:cd} {n:Nat} (h:ij p≤n):iY ib p.heap.ag+p.heap.gc.gQ.length≤n:=by
  unfold ij my rR at h;omega
theorem Lq.step {p:cd} {n:Nat} (h:Lq p n) (now:Int):Lq (m4 p (ji p.heap now).1) (n+10):=by
  obtain ⟨a,b,c,_⟩:=su (h:=p.heap) h.w now;refine ⟨?_,b,by show (ji p.heap now).1.ag.length=10;rw [L8];exact h.len⟩;have h0:=h.sz;unfold ij my rR at *
  show lQ p.QQ+_≤_
  simp only [m4];omega
theorem Lq.run {N:Nat} (hN:gX≤N) {p:cd} {n:Nat} (h:Lq p n) (hn:n≤1000000) (now:Int):qz N p.heap now=some (ji p.heap now):=by
  have h1:=LC h.sz;have:(16777216:Nat)=gX:=rfl;exact AR hN (by omega) h.w (by omega) now
theorem Lq.up {p:cd} {n m:Nat} (h:Lq p n) (hm:n≤m):Lq p m:=⟨Nat.le_trans h.sz hm,h.w,h.len⟩
theorem Lq.pw {p:cd} {n:Nat} (h:Lq p n) (hn:n≤20000):Pw p:=⟨Nat.le_trans h.sz hn,h.w⟩
theorem Lq.waits {p:cd} {n:Nat} (h:Lq p n) {x:Int} (hx:-9223372036854775808≤x):Lq (m4 p (gV.mk (p.heap.ag.set (1:Int).toNat (waiting (nth p.heap.ag 1) x)) p.heap.gc)) n:=by
  have hl:=h.len;have hs:iY ib (p.heap.ag.set (1:Int).toNat (waiting (nth p.heap.ag 1) x))=iY ib p.heap.ag:=pI (by decide) (by rw [hl];decide) rfl;refine ⟨?_,lz h.w hx,by show (List.set _ _ _).length=10;rw [List.length_set];exact hl⟩;have h0:=h.sz;unfold ij my rR at *;simp only [m4,hs];exact h0
theorem Ow {N:Nat} (hN:gX≤N) {l:List U8} (hl:l.length≤1048576):WD (ug N l) (fun r=>0≤r.i):=by
  obtain ⟨h,e⟩:=Pz hN hl;exact ⟨_,e,Int.le_refl _⟩
theorem Pw.waits {p:cd} (h:Pw p) (hl:(p.heap.ag.length:Int)=10) {x:Int} (hx:-9223372036854775808≤x):Pw (m4 p (gV.mk (p.heap.ag.set (1:Int).toNat (waiting (nth p.heap.ag 1) x)) p.heap.gc)) :=
  (Lq.waits (n:=20000) ⟨h.1,h.2,by omega⟩ hx).pw (by decide)
end Go.Kx
namespace Go.Kx
open Go
open Go.IntKind (i64)
set_option linter.unusedVariables false
set_option linter.unusedSimpArgs false
set_option maxRecDepth 10000
structure Bq (b:iO):Prop where
  ok:vi b=true
  sz:jI b≤1000
  pg:0≤b.jq.bh∧b.jq.bh≤1000
  rt:0≤b.jq.gS∧b.jq.gS≤1000
  cp:0≤b.jq.gW∧b.jq.gW≤1000
theorem Bq.QE {l:List Int} {o:List Int} {b:iO} (h:Bq b) (hl:jE ⟨l⟩=true) (ho:mJ o=true) (h5:o.length≤100):Bq ⟨⟨l⟩,o,b.jq⟩:=by
  have h4:=wj hl;have h4:l.length=4:=h4;refine ⟨?_,?_,h.pg,h.rt,h.cp⟩
  · have:=h.ok;unfold vi at *;simp only [Rg] at *;exact ⟨this.1,hl,ho⟩
  · unfold jI lQ;simp only [h4];omega
theorem kF {k:Int} (h0:0≤k) (h4:k<4):mJ [k]=true:=by
  have:k=0∨k=1∨k=2∨k=3:=by omega
  rcases this with rfl | rfl | rfl | rfl<;>decide
theorem KC {l:List Int} (h:jE ⟨l⟩=true) {k:Nat} {y:Int} (h0:0≤y) (h3:y≤3):jE ⟨l.set k y⟩=true:=by
  unfold jE at *;simp only [Rg,List.length_set,List.all_eq_true,ir] at *;refine ⟨h.1,fun z hz=>?_⟩
  rcases List.mem_or_eq_of_mem_set hz with q | rfl
  · exact h.2 z q
  · exact ⟨h0,h3⟩
theorem L6 {l:List Int} (h:jE ⟨l⟩=true) {y:Int} (hy:y ∈ l):0≤y∧y≤3:=by
  unfold jE at h;simp only [Rg,List.all_eq_true,ir] at h;exact h.2 y hy
theorem Es {N:Nat} (hN:gX≤N) {b:List U8} {i h:Int} (hb:b.length≤1048576) (hi:0≤i):WD (rp N ⟨b,i,h⟩) (fun r=>0≤r.2.i∧1≤r.1.length∧r.1.length≤3∧∀ x,x ∈ r.1→Bq x):=by
  unfold rp;dsimp only;have hB:(16777216:Nat)=gX:=rfl;refine WD.bind (kZ hb hi 3 (by decide)) fun n ⟨n1,n2,n3⟩=>?_;rw [ig (n:=1+n.1) (by omega) (by omega)];refine WD.bind (WD.loop (fun s=>0≤s.2.1∧(s.1.length:Int)+s.2.1=1+n.1∧0≤s.2.2.1∧jE ⟨s.2.2.2.2⟩=true∧∀ x,x ∈ s.1→Bq x) (fun r=>1≤r.1.length∧r.1.length≤3∧0≤r.2.2.1∧∀ x,x ∈ r.1→Bq x) (fun s=>s.2.1.toNat) ⟨by dsimp only;omega,by simp,n1,show jE ⟨[0,0,0,0]⟩=true by decide,by simp⟩ (yY hN (by dsimp only;omega)) ?_) fun r ⟨r1,r2,r3,r4⟩=>WD.ret ⟨r3,r1,r2,r4⟩;rintro ⟨l,k,i,h,lab⟩ ⟨s1,s2,s3,s4,s5⟩;dsimp only at *;refine WD.ite (fun c=>?_) (fun c=>WD.inr ?_)
  · have c:=of_decide_eq_true c;rw [ig (n:=k - 1) (by omega) (by omega)];refine WD.bind (HN hN hb s3) fun q ⟨q1,q2,q3,q4,q5,q6⟩=>?_;have hq:Bq q.1:=⟨q2,Nat.le_trans q3 (by decide),q4,q5,q6⟩
    have hq2:jE ⟨q.1.QQ.so⟩=true∧mJ q.1.own=true:=by
      have:=q2;unfold vi at this;simp only [Rg] at this;exact this.2
    have hlab:lab.length=4:=wj s4;refine WD.bind (oW hb q1 3) fun y y1=>WD.bind (P:=fun (j:(List Int)×(List Int))=>jE ⟨j.2⟩=true) (WD.ite (fun _=>WD.step (km (by omega)) (WD.ret s4)) fun _=>WD.ret hq2.1) fun j j1=>?_;have hj4:j.2.length=4:=wj j1;refine WD.bind (oW hb y1 2) fun z z1=>WD.bind (P:=fun (m:Int×Int×(List Int))=>0≤m.1∧jE ⟨m.2.2⟩=true) (WD.ite (fun _=>?_) fun _=>WD.ret ⟨z1,j1⟩) fun m ⟨m1,m2⟩=>?_
    · refine WD.bind (kZ hb z1 4 (by decide)) fun u ⟨u1,u2,u3⟩=>WD.step (km (by omega)) (WD.bind (qF u2 (by omega)) fun v hv=>WD.step rfl (WD.ret ⟨u1,?_⟩));have:=L6 j1 hv;rw [ig (n:=v+1) (by omega) (by omega)];exact KC j1 (by split<;>omega) (by split<;>omega)
    · refine WD.bind (oW hb m1 6) fun u u1=>WD.bind (P:=fun (m:Int×Int×(List Int))=>0≤m.1∧mJ m.2.2=true∧m.2.2.length≤100) (WD.ite (fun _=>WD.bind (kZ hb u1 4 (by decide)) fun v ⟨v1,v2,v3⟩=>WD.ret ⟨v1,kF v2 v3,by simp⟩) fun _=>WD.ret ⟨u1,hq2.2,by unfold jI at q3;dsimp only;omega⟩) fun o ⟨o1,o2,o3⟩=>?_;refine WD.step (yh (by omega)) (WD.inl ⟨by dsimp only;omega,by simp only [List.length_append,List.length_cons,List.length_nil];omega,o1,m2,fun x hx=>?_⟩ (by dsimp only;omega))
      rcases List.mem_append.1 hx with hx | hx
      · exact s5 x hx
      · rw [List.mem_singleton] at hx;rw [hx];exact hq.QE j1 o2 o3
  · have c:=of_decide_eq_false c;exact ⟨by dsimp only;omega,by dsimp only;omega,s3,s5⟩
structure Ww (w:g7):Prop where
  len:w.parts.length≤3
  pw:∀ p,p ∈ w.parts→Pw p
theorem Ww.set {w:g7} (h:Ww w) (k:Nat) {p:cd} (hp:Pw p) (n:Int):Ww ⟨n,w.parts.set k p⟩:=by
  refine ⟨by show (w.parts.set k p).length≤3;rw [List.length_set];exact h.len,fun q hq=>?_⟩
  rcases List.mem_or_eq_of_mem_set hq with q1 | rfl
  · exact h.pw q q1
  · exact hp
theorem Ww.sz {w:g7} (h:Ww w):iY ij w.parts≤60003:=by
  have:=uy (f:=ij) (c:=20000) fun y hy=>(h.pw y hy).1;have:=h.len;unfold iY;omega
theorem Ww.qn {w:g7} (h:Ww w):iY ij w.parts<gX:=by
  have:=h.sz;have:(16777216:Nat)=gX:=rfl;omega
theorem Ww.w {w:g7} (h:Ww w):wW w.parts:=fun p hp=>(h.pw p hp).2
theorem Pw.ag {p:cd} (h:Pw p):p.heap.ag.length≤1000000:=by
  have h1:=h.1;unfold ij my iY at h1;omega
end Go.Kx
namespace Go.Kx
open Go
open Go.IntKind (i64)
set_option linter.unusedVariables false
set_option linter.unusedSimpArgs false
set_option maxRecDepth 10000
def iS (f:gT→Int):List g6→Int
  | []=>0
  | r::t=>(if r.Q2 then f r.iw else 0)+iS f t
def qw (f:gT→Int) (r:g6):Int:=if r.Q2 then f r.iw else 0
theorem xT (f:gT→Int):∀ (t:List g6) (k:Nat) (r z:g6),t[k]?=some r→iS f (t.set k z)=iS f t - qw f r+qw f z
  | [],k,r,z,h=>by simp at h
  | x::t,0,r,z,h=>by
    simp only [List.getElem?_cons_zero,Option.some.injEq] at h;subst h
    show qw f z+iS f t=qw f x+iS f t - qw f x+qw f z
    omega
  | x::t,k+1,r,z,h=>by
    rw [List.getElem?_cons_succ] at h;have:=xT f t k r z h
    show qw f x+iS f (t.set k z)=qw f x+iS f t - qw f r+qw f z
    omega
theorem tj:∀ (t:List g6) (s:gT) (B:Int),(∀ r,r ∈ t→iC r.iw=true)→0≤B→B+1000000 * (t.length:Int)≤1000000000→vX s B →
    (jd s t).bh=s.bh+iS gT.bh t∧(jd s t).gS=s.gS+iS gT.gS t∧(jd s t).gW=s.gW+iS gT.gW t
  | [],s,B,_,_,_,_=>⟨(Int.add_zero _).symm,(Int.add_zero _).symm,(Int.add_zero _).symm⟩
  | x::t,s,B,h,hB,hL,hs=>by
    have hx:=h x (by simp);simp only [List.length_cons] at hL;obtain ⟨w1,w2,w3,w4⟩:=zB hs hx (by omega);have e:jd s (x::t)=jd (if x.Q2 then iD s x.iw else s) t:=rfl;have ht:∀ r,r ∈ t→iC r.iw=true:=fun r hr=>h r (by simp [hr]);have d:∀ f:gT→Int,iS f (x::t)=(if x.Q2 then f x.iw else 0)+iS f t:=fun f=>rfl;rw [e,d,d,d];cases hxl:x.Q2
    · obtain ⟨a1,a2,a3⟩:=tj t s B ht hB (by omega) hs;simp only [Bool.false_eq_true,if_false];exact ⟨by omega,by omega,by omega⟩
    · obtain ⟨a1,a2,a3⟩:=tj t (iD s x.iw) (B+1000000) ht (by omega) (by omega) w4;simp only [if_true];exact ⟨by omega,by omega,by omega⟩
theorem B8:vX ⟨0,0,0⟩ 0:=by unfold vX;decide
theorem Tr.iS {t:List g6} (h:Tr t):(jd ⟨0,0,0⟩ t).bh=iS gT.bh t∧(jd ⟨0,0,0⟩ t).gS=iS gT.gS t∧(jd ⟨0,0,0⟩ t).gW=iS gT.gW t:=by
  have hl:=h.len;obtain ⟨a,b,c⟩:=tj t ⟨0,0,0⟩ 0 h.iw (by omega) (by omega) B8;simp only [Int.zero_add] at a b c;exact ⟨a,b,c⟩
theorem wX {t:List g6} {i j:Int} {z:g6} (h0:0≤i) (h1:i<(t.length:Int)) (hj:0≤j):nth (t.set i.toNat z) j=if i=j then z else nth t j:=by
  unfold nth
  by_cases e:i=j
  · subst e;rw [if_pos rfl,List.getElem?_set_self (by omega)];rfl
  · rw [if_neg e,List.getElem?_set_ne (by omega)]
theorem vp {t:List g6} {i:Int} (h0:0≤i) (h1:i<(t.length:Int)) (b:gT) {j:Int} (hj:0≤j):(nth (t.set i.toNat (mB (nth t i) b)) j).Q2=(nth t j).Q2∧(nth (t.set i.toNat (mB (nth t i) b)) j).Q4=(nth t j).Q4:=by
  rw [wX h0 h1 hj];split
  · rename_i e;subst e;exact ⟨rfl,rfl⟩
  · exact ⟨rfl,rfl⟩
theorem AY {t:List g6} {i:Int} (h0:0≤i) (h1:i<(t.length:Int)) (b:gT) (j:Int):iH (t.set i.toNat (mB (nth t i) b)) j=iH t j:=by
  unfold iH;cases hj:ic j 0 4
  · rfl
  · rw [(vp h0 h1 b (ir.1 hj).1).1]
theorem De {t:List g6} {i:Int} (h0:0≤i) (h1:i<(t.length:Int)) (b:gT):∀ (n:Nat) (j:Int),leads (t.set i.toNat (mB (nth t i) b)) n j=leads t n j
  | 0,j=>rfl
  | n+1,j=>by
    unfold leads;rw [AY h0 h1];cases hv:iH t j
    · rfl
    · have:=(kJ hv).1;have e:up (t.set i.toNat (mB (nth t i) b)) j=up t j:=(vp h0 h1 b this).2;rw [e,De h0 h1 b n (up t j)]
theorem Tr.set {t:List g6} (h:Tr t) {i:Int} (h0:0≤i) (h4:i≤4) (hv:(nth t i).Q2=true) {b:gT} (hb:iC b=true)
    (hs:iC ⟨Kx.iS gT.bh t - (nth t i).iw.bh+b.bh,Kx.iS gT.gS t - (nth t i).iw.gS+b.gS,Kx.iS gT.gW t - (nth t i).iw.gW+b.gW⟩=true) :
    Tr (t.set i.toNat (mB (nth t i) b))∧∀ f:gT→Int,Kx.iS f (t.set i.toNat (mB (nth t i) b))=Kx.iS f t - f (nth t i).iw+f b:=by
  have hl:=h.len
  have hi:i<(t.length:Int):=by omega
  have hg:=jv (l:=t) h0 hi
  have ht:∀ f:gT→Int,Kx.iS f (t.set i.toNat (mB (nth t i) b))=Kx.iS f t - f (nth t i).iw+f b:=fun f=>by
    rw [xT f t i.toNat _ _ hg];have e1:qw f (nth t i)=f (nth t i).iw:=if_pos hv;have e2:qw f (mB (nth t i) b)=f b:=if_pos hv;rw [e1,e2]
  have hbal:∀ r,r ∈ t.set i.toNat (mB (nth t i) b)→iC r.iw=true:=fun r hr=>by
    rcases List.mem_or_eq_of_mem_set hr with q | q
    · exact h.iw r q
    · rw [q];exact hb
  have hl':(t.set i.toNat (mB (nth t i) b)).length=5:=by rw [List.length_set];exact hl
  refine ⟨⟨hl',?_,?_,?_,hbal,?_,?_⟩,ht⟩
  · rw [(vp h0 hi b (by omega)).1];exact h.rC
  · rw [(vp h0 hi b (by omega)).2];exact h.B2
  · intro r hr hd
    rcases List.mem_or_eq_of_mem_set hr with q | q
    · exact h.dead r q hd
    · rw [q] at hd;have:(nth t i).Q2=false:=hd;rw [hv] at this;cases this
  · intro k r hr hlv;rw [De h0 hi];have hk:k<(t.set i.toNat (mB (nth t i) b)).length:=iU hr;have e1:=qk hr;have e2:=(vp h0 hi b (j:=(k:Int)) (by omega)).1;rw [e1,hlv] at e2;exact h.lead k (nth t (k:Int)) (jv (l:=t) (i:=(k:Int)) (by omega) (by omega)) e2.symm
  · obtain ⟨a1,a2,a3⟩:=tj _ ⟨0,0,0⟩ 0 hbal (by omega) (by omega) B8
    have e:jd ⟨0,0,0⟩ (t.set i.toNat (mB (nth t i) b))=⟨Kx.iS gT.bh t - (nth t i).iw.bh+b.bh,Kx.iS gT.gS t - (nth t i).iw.gS+b.gS,Kx.iS gT.gW t - (nth t i).iw.gW+b.gW⟩:=by
      generalize jd ⟨0,0,0⟩ (t.set i.toNat (mB (nth t i) b))=q at *;obtain ⟨q1,q2,q3⟩:=q;simp only [Int.zero_add,ht] at a1 a2 a3;subst a1 a2 a3;rfl
    rw [e];exact hs
theorem EF {a b:gT} (h:lY a b=true):(vl b a)=⟨b.bh - a.bh,b.gS - a.gS,b.gW - a.gW⟩∧iC ⟨b.bh - a.bh,b.gS - a.gS,b.gW - a.gW⟩=true:=by
  unfold lY at h;simp only [Rg,decide_eq_true_eq] at h;obtain ⟨h1,h2,h3,h4,h5⟩:=h;have a1:=iR.1 h1;have a2:=iR.1 h2;refine ⟨?_,iR.2 ⟨by simp only;omega,by simp only;omega,by simp only;omega⟩⟩;unfold vl;rw [ig (by omega) (by omega),ig (by omega) (by omega),ig (by omega) (by omega)]
theorem vn {t:List g6} {f:Int} {a:gT} (h:(iQ t f a).2=true):Tr (iQ t f a).1∧iC a=true∧∀ g:gT→Int,(∀ x y:gT,g ⟨x.bh - y.bh,x.gS - y.gS,x.gW - y.gW⟩=g x - g y)→iS g (iQ t f a).1=iS g t - g a:=by
  obtain ⟨h1,h2⟩:=vw h;have hT:=jL.1 h1;obtain ⟨f0,f4⟩:=kJ h2
  have hlv:(nth t f).Q2=true:=by
    unfold iH at h2;simp only [Rg] at h2;exact h2.2
  unfold iQ at *;rw [h1,h2] at *;simp only [Bool.and_self,if_true] at *;cases hf:lY a (nth t f).iw
  · rw [hf] at h;simp at h
  · simp only [if_true];obtain ⟨e,ok⟩:=EF hf
    have ha:iC a=true:=by
      unfold lY at hf;simp only [Rg] at hf;exact hf.1
    rw [e];have hl:=hT.len;have hm:nth t f ∈ t:=j7 f0 (by omega);have hS:=iR.1 hT.sum;obtain ⟨t1,t2,t3⟩:=hT.iS;have ha':=iR.1 ha;have ok':=iR.1 ok;obtain ⟨_,q⟩:=sK t ⟨0,0,0⟩ 0 hT.iw (by omega) (by omega) ⟨by decide,by decide⟩ ⟨by decide,by decide⟩ ⟨by decide,by decide⟩;obtain ⟨q1,q2,q3⟩:=q _ hm hlv;simp only at ok';obtain ⟨r1,r2⟩:=hT.set f0 f4 hlv ok (iR.2 ⟨by simp only;omega,by simp only;omega,by simp only;omega⟩);refine ⟨r1,ha,fun g hg=>?_⟩;rw [r2 g,hg];omega
end Go.Kx
namespace Go.Kx
open Go
open Go.IntKind (i64)
set_option linter.unusedVariables false
set_option linter.unusedSimpArgs false
set_option maxRecDepth 10000
theorem ur {p:cd} {now y:Int} (h:y ∈ threads p now):0≤y∧y≤9:=(sN h).2
theorem yq {p:cd} {now y:Int} (h:y ∈ threads p now):(nth p.heap.ag y).py=4∧iI (nth p.heap.ag y) now=false:=by
  obtain ⟨ok,y0,y9⟩:=sN h;have ar:=iT ok;unfold threads at h;rw [if_pos ok] at h;obtain ⟨i,b,h1,h2,h3⟩:=uH.1 h;simp only [Nat.zero_add,Rg,beq_iff_eq] at h2 h3;obtain ⟨hb,hk⟩:=h2;subst h3;rw [hb] at h1;refine ⟨hk,oe ar (((ue ar now).2 i).1 h1) fun q=>?_⟩;rw [q,ar.sv] at hk;cases hk
theorem LJ {p:cd} (h:ik p=true) (i:Int):iH p.QR (kK p i)=true:=by
  have hT:=jL.1 (lP h);unfold kK;split
  · rename_i q;simp only [Rg] at q;exact q.2
  · unfold iH;rw [hT.rC];rfl
theorem qu {p:cd} {now:Int} (h:pD p now=false):jC p now ∈ runnable p now:=by
  unfold pD at h;simp only [Bool.or_eq_false_iff] at h;exact Ax _ _ _ h.1
theorem BS {p:cd} {now:Int} (ok:ik p=true) {i:Int} (h:i ∈ runnable p now):(iQ p.QR (kK p (nth p.heap.ag i).res) ⟨0,0,1⟩).2=true:=by
  unfold runnable at h;obtain ⟨_,hm⟩:=List.mem_filter.1 h;unfold pb at hm;simp only [Rg,decide_eq_true_eq] at hm;have hT:=jL.1 (lP ok);obtain ⟨r0,r4⟩:=rU p (nth p.heap.ag i).res;have hl:=hT.len;have hb:=hT.iw _ (j7 (l:=p.QR) (i:=kK p (nth p.heap.ag i).res) r0 (by omega));have hb':=iR.1 hb;have hc:(nth p.QR (kK p (nth p.heap.ag i).res)).iw.gW > 0:=hm.2
  have hf:lY ⟨0,0,1⟩ (nth p.QR (kK p (nth p.heap.ag i).res)).iw=true:=by
    unfold lY;rw [hb];simp only [show iC ⟨0,0,1⟩=true from by decide,Re,Rg,decide_eq_true_eq];exact ⟨by omega,by omega,by omega⟩
  unfold iQ;rw [lP ok,LJ ok,hf];rfl
theorem N6 {p:cd} {now:Int} (ok:ik p=true) {i:Int} (h:i ∈ runnable p now):(jU (iQ p.QR (kK p (nth p.heap.ag i).res) ⟨0,0,1⟩).1).gW=(jU p.QR).gW - 1∧(jU (iQ p.QR (kK p (nth p.heap.ag i).res) ⟨0,0,1⟩).1).bh=(jU p.QR).bh∧(jU (iQ p.QR (kK p (nth p.heap.ag i).res) ⟨0,0,1⟩).1).gS=(jU p.QR).gS:=by
  have hT:=jL.1 (lP ok);obtain ⟨q,_,k⟩:=vn (BS ok h);unfold jU;rw [if_pos (jL.2 q),if_pos (lP ok),q.iS.1,q.iS.2.1,q.iS.2.2,hT.iS.1,hT.iS.2.1,hT.iS.2.2,k gT.gW (fun _ _=>rfl),k gT.bh (fun _ _=>rfl),k gT.gS (fun _ _=>rfl)];exact ⟨rfl,Int.sub_zero _,Int.sub_zero _⟩
structure Sk where
  Q3:Int
  py:Int
  box:Int
  iF:Int
  gZ:List Int
def jx (o:gE):Sk:=⟨o.Q3,o.py,o.box,o.iF,o.gZ⟩
theorem FD {α γ β:Type} {s:α→γ} {p:Nat→α→Bool} {q:Nat→γ→Bool} {h:Nat→α→β} {r:Nat→γ→β} (hp:∀ k y,p k y=q k (s y)) (hh:∀ k y,h k y=r k (s y)):∀ (l:List α) (k:Nat),kW p h k l=kW q r k (l.map s)
  | [],_=>rfl
  | y::l,k=>by
    unfold kW;simp only [List.map_cons,kW];rw [hp,hh,FD hp hh l (k+1)]
theorem yw {l:List gE} (i:Int) (h0:0≤i) (h1:i<(l.length:Int)):(l.map jx)[i.toNat]?=some (jx (nth l i)):=by
  rw [List.getElem?_map,jv h0 h1];rfl
theorem lD {l m:List gE} (h:l.map jx=m.map jx) {i:Int} (h0:0≤i) (h1:i<(l.length:Int)):jx (nth l i)=jx (nth m i):=by
  have hl:l.length=m.length:=by simpa using congrArg List.length h
  have a:=yw i h0 h1;rw [h,yw i h0 (by omega)] at a;exact (Option.some.inj a).symm
theorem vd {l m:List gE} (h:l.map jx=m.map jx) {i:Int} (h0:0≤i) (h1:i<(l.length:Int)):jr l i=jr m i:=by
  have e:=lD h h0 h1;have ek:(nth l i).py=(nth m i).py:=congrArg Sk.py e;have el:(nth l i).gZ=(nth m i).gZ:=congrArg Sk.gZ e;unfold jr;have key:∀ x:List gE,kW (wU x i) (fun k _=>(k:Int)) 0 x=kW (fun (k:Nat) (y:Sk)=>(decide ((k:Int) > 0)&&(y.py != 0&&((y.box==i)&&((nth x i).py==1)))) || (nth x i).gZ.contains (k:Int)) (fun k _=>(k:Int)) 0 (x.map jx):=fun x=>FD (s:=jx) (p:=wU x i) (q:=fun (k:Nat) (y:Sk)=>(decide ((k:Int) > 0)&&(y.py != 0&&((y.box==i)&&((nth x i).py==1)))) || (nth x i).gZ.contains (k:Int)) (h:=fun k _=>(k:Int)) (r:=fun k _=>(k:Int)) (fun k y=>rfl) (fun k y=>rfl) x 0;rw [key l,key m,h,ek,el]
theorem sb {a b:gE} (h:jx a=jx b) (now:Int):iI a now=iI b now:=by
  unfold iI;rw [show a.py=b.py from congrArg Sk.py h,show a.iF=b.iF from congrArg Sk.iF h]
theorem lL {l m:List gE} (hl:Ar l) (h:l.map jx=m.map jx) {now k:Int} (r:Reaches l now k):Reaches m now k:=by
  have hlen:=hl.len
  induction r with
  | root=>exact .root
  | step q1 q2 q3 ih =>
    obtain ⟨i0,i9⟩:=q1.mM hl;obtain ⟨k0,k1⟩:=mc q2;rw [vd h i0 (by omega)] at q2;rw [sb (lD h k0 k1)] at q3;exact .step ih q2 q3
theorem I6 {l m:List gE} (hl:Ar l) (hm:Ar m) (h:l.map jx=m.map jx) (now:Int):reach l now=reach m now:=by
  have a:=ue hl now;have b:=ue hm now;refine List.ext_getElem? fun k=>?_
  have hk:(reach l now)[k]?=some true ↔ (reach m now)[k]?=some true:=by
    rw [a.2 k,b.2 k];exact ⟨fun q=>lL hl h q,fun q=>lL hm h.symm q⟩
  cases ha:(reach l now)[k]? with
  | none =>
    have:=List.getElem?_eq_none_iff.1 ha;exact (List.getElem?_eq_none (by rw [b.1];rw [a.1] at this;exact this)).symm
  | some x =>
    have hlt:=iU ha
    have hkm:k<(reach m now).length:=by rw [b.1];rw [a.1] at hlt;exact hlt
    have hb:(reach m now)[k]?=some ((reach m now)[k]'hkm):=List.getElem?_eq_getElem _;rw [ha,hb] at hk;rw [hb];generalize (reach m now)[k]'hkm=y at *;cases x<;>cases y<;>simp at hk ⊢
theorem Ar.jx {l m:List gE} (hl:Ar l) (h:l.map jx=m.map jx) (ok:∀ o,o ∈ m→iN o=true):Ar m:=by
  have hlen:l.length=m.length:=by simpa using congrArg List.length h
  have h10:=hl.len;have e0:=lD h (i:=0) (by omega) (by omega);refine ⟨by omega,?_,?_,?_,ok,?_,?_⟩
  · rw [← hl.sv];exact (congrArg Sk.py e0).symm
  · rw [← hl.zr];exact (congrArg Sk.box e0).symm
  · rw [← hl.zG];exact (congrArg Sk.iF e0).symm
  · intro o ho y hy y0;obtain ⟨k,hk⟩:=List.getElem?_of_mem ho;have hkl:=iU hk;have e:=lD h (i:=(k:Int)) (by omega) (by omega)
    have el:(nth l (k:Int)).gZ=o.gZ:=by rw [show o=nth m (k:Int) from (qk hk).symm];exact congrArg Sk.gZ e
    have hm:=(hl.at (i:=(k:Int)) (by omega) (by omega)).2;have y9:=((ru (ok o ho)).2 y hy).2;have:=hl.gZ _ hm y (by rw [el];exact hy) y0
    rwa [show (nth l y).py=(nth m y).py from congrArg Sk.py (lD h y0 (by omega))] at this
  · intro k o hk k0 hne b0;have hkl:=iU hk;have e:=lD h (i:=(k:Int)) (by omega) (by omega);have eo:o=nth m (k:Int):=(qk hk).symm
    have eb:(nth l (k:Int)).box=o.box:=by rw [eo];exact congrArg Sk.box e
    have ek:(nth l (k:Int)).py=o.py:=by rw [eo];exact congrArg Sk.py e
    have b9:=ir.1 (mR (ok o (List.mem_of_getElem? hk)) (by simpa using hne)).1;have:=hl.box k (nth l (k:Int)) (jv (l:=l) (i:=(k:Int)) (by omega) (by omega)) k0 (by rw [ek];exact hne) (by rw [eb];exact b0);rw [eb] at this
    rwa [show (nth l o.box).py=(nth m o.box).py from congrArg Sk.py (lD h b0 (by omega))] at this
theorem yj (p:cd) (me now:Int):p.heap.ag.map jx=(o9 p me now).map jx:=by
  unfold o9;rw [List.map_map];refine List.map_congr_left fun o _=>?_
  show jx o=jx (if vA p me now o then yg o else o)
  split<;>rfl
theorem Lt {p:cd} {me now:Int} (h:∀ o,o ∈ p.heap.ag→iN o=true):∀ o,o ∈ o9 p me now→iN o=true:=by
  intro o ho;obtain ⟨x,hx,rfl⟩:=List.mem_map.1 (show o ∈ p.heap.ag.map _ from ho);have hok:=h x hx;split
  · rename_i q;unfold vA at q;simp only [Rg,decide_eq_true_eq] at q
    have hk:(x.py==0)=false:=by
      cases hk:x.py==0
      · rfl
      · unfold iN at hok;simp only [hk,Rb,Rg,decide_eq_true_eq] at hok;rw [hok.2.2] at q;simp [blank] at q
    unfold iN at hok ⊢;have hk':((yg x).py==0)=false:=hk;rw [hk] at hok;rw [hk'];simp only [Q9,Rg] at hok ⊢;obtain ⟨a1,a2,a3,a4,a5,a6,a7,a8⟩:=hok;refine ⟨a1,a2,a3,a4,a5,a6,a7,?_⟩;cases h4:x.py != 4
    · rw [h4] at a8;have h4':((yg x).py != 4)=false:=h4;rw [h4'];simp only [Q9,Rg] at a8 ⊢;exact ⟨rfl,show ic (-1) (-1) 999=true by decide,a8.2.2⟩
    · rw [h4] at a8;simp only [Rb,Rg,beq_iff_eq] at a8;omega
  · exact hok
end Go.Kx
namespace Go.Kx
open Go
open Go.IntKind (i64)
set_option linter.unusedVariables false
set_option linter.unusedSimpArgs false
set_option maxRecDepth 10000
theorem Mq {p:cd} (h:ik p=true) (me now:Int):Ar (o9 p me now):=by
  have ar:=iT h;exact ar.jx (yj p me now) (Lt ar.ok)
theorem MA {p:cd} (h:ik p=true) (me now:Int):ik (mu p (o9 p me now))=true:=by
  have hw:=jJ.2 (Mq h me now);unfold ik kb at *;simp only [Rg] at h ⊢;obtain ⟨a,b,c,⟨_,d⟩,e⟩:=h;exact ⟨a,b,c,⟨hw,d⟩,e⟩
theorem NM {l m:List gE} (h:l.map gE.bh=m.map gE.bh) (hl:∀ o,o ∈ l→iN o=true) (hm:∀ o,o ∈ m→iN o=true):((l.take 10).filter iN).foldl (fun n o=>i64.wrap (n+o.bh)) 0=((m.take 10).filter iN).foldl (fun n o=>i64.wrap (n+o.bh)) 0:=by
  rw [List.filter_eq_self.2 fun o ho=>hl o (List.mem_of_mem_take ho),List.filter_eq_self.2 fun o ho=>hm o (List.mem_of_mem_take ho)]
  have key:∀ (x:List gE) (s:Int),x.foldl (fun n o=>i64.wrap (n+o.bh)) s=(x.map gE.bh).foldl (fun n k=>i64.wrap (n+k)) s:=fun x s=>by rw [List.foldl_map]
  rw [key,key,List.map_take,List.map_take,h]
theorem OE {p:cd} (h:ik p=true) (me now:Int):kN (mu p (o9 p me now))=kN p:=by
  have ar:=iT h
  have hp:(o9 p me now).map gE.bh=p.heap.ag.map gE.bh:=by
    unfold o9;rw [List.map_map];refine List.map_congr_left fun o _=>?_
    show gE.bh (if vA p me now o then yg o else o)=o.bh
    split<;>rfl
  have e:held (mu p (o9 p me now))=held p:=NM hp (Mq h me now).ok ar.ok;unfold kN;rw [e];rfl
end Go.Kx
namespace Go.Kx
open Go
open Go.IntKind (i64)
set_option linter.unusedVariables false
set_option linter.unusedSimpArgs false
set_option maxRecDepth 10000
theorem Ml {l:List gE} {i:Int} {z:gE} (h0:0≤i) (h1:i<(l.length:Int)) (e:jx z=jx (nth l i)):(l.set i.toNat z).map jx=l.map jx:=by
  rw [List.map_set,e];exact nA (yw i h0 h1)
theorem NX {o:gE} (h:iN o=true) (hk:o.py=4) (hr:o.iG<1000000):iN (sE o)=true:=by
  have r0:=(Jj h).1
  have hk0:(o.py==0)=false:=by rw [hk];rfl
  have hk4:(o.py != 4)=false:=by rw [hk];rfl
  unfold iN at h ⊢;have hk0':((sE o).py==0)=false:=hk0;have hk4':((sE o).py != 4)=false:=hk4;rw [hk0] at h;rw [hk0'];simp only [Q9,Rg] at h ⊢;obtain ⟨a1,a2,a3,a4,a5,a6,a7,a8⟩:=h;rw [hk4] at a8;rw [hk4'];simp only [Q9,Rg] at a8 ⊢;exact ⟨a1,a2,a3,a4,a5,a6,a7,a8.1,a8.2.1,ir.2 ⟨by show 0≤i64.wrap (o.iG+1);rw [ig (by omega) (by omega)];omega,by show i64.wrap (o.iG+1)≤1000000;rw [ig (by omega) (by omega)];omega⟩⟩
def uJ (p : cd) (now : Int) : cd := cd.mk p.QQ p.own (iQ p.QR (kK p (nth p.heap.ag (jC p now)).res) ⟨0, 0, 1⟩).1 (gV.mk (p.heap.ag.set (jC p now).toNat (sE (nth p.heap.ag (jC p now)))) p.heap.gc) p.gR (jC p now) 0
        (gT.mk p.gP.bh p.gP.gS (i64.wrap (p.gP.gW + 1))) p.hY p.QX
theorem KE {p:cd} {now:Int} (ok:ik p=true) (hr:pD p now=false):kG p now=(uJ p now,jC p now):=by
  unfold kG;rw [if_pos ok,hr];rfl
theorem AM {p:cd} {now:Int} (hr:pD p now=false):p.gP.gW<1000000∧(nth p.heap.ag (jC p now)).iG<1000000:=by
  unfold pD at hr;simp only [Bool.or_eq_false_iff,decide_eq_false_iff_not] at hr;omega
theorem zD {p:cd} {now:Int} (ok:ik p=true) (hr:pD p now=false):(uJ p now).heap.ag.map jx=p.heap.ag.map jx∧Ar (uJ p now).heap.ag:=by
  have ar:=iT ok;obtain ⟨q0,q9⟩:=ur (List.mem_filter.1 (qu hr)).1;have hk:=(yq (List.mem_filter.1 (qu hr)).1).1;have hl:=ar.len;have hs:=Ml (l:=p.heap.ag) (z:=sE (nth p.heap.ag (jC p now))) q0 (by omega) rfl;refine ⟨hs,ar.jx hs.symm fun o ho=>?_⟩
  rcases List.mem_or_eq_of_mem_set ho with q | q
  · exact ar.ok o q
  · rw [q];exact NX (ar.ok _ (ar.at q0 q9).2) hk (AM hr).2
theorem Bp {p:cd} {now:Int} (ok:ik p=true) (hr:pD p now=false):ik (uJ p now)=true:=by
  have hA:=jJ.2 (zD ok hr).2;have hT:=jL.2 (vn (BS ok (qu hr))).1;obtain ⟨q0,q9⟩:=ur (List.mem_filter.1 (qu hr)).1;have hc:=(AM hr).1;have sp:=ui (nR ok);unfold ik kb pX at *;simp only [Rg] at ok ⊢;obtain ⟨a,b,c,⟨_,d⟩,e,f,g1,g2,g3,g4⟩:=ok;refine ⟨a,b,hT,⟨hA,d⟩,e,f,ir.2 ⟨q0,q9⟩,rfl,?_,g4⟩;refine iR.2 ⟨sp.1,sp.2.1,?_⟩
  show 0≤i64.wrap (p.gP.gW+1)∧i64.wrap (p.gP.gW+1)≤1000000
  rw [ig (by omega) (by omega)];omega
theorem NU {l m:List gE} (h:l.map gE.bh=m.map gE.bh) (hl:∀ o,o ∈ l→iN o=true) (hm:∀ o,o ∈ m→iN o=true):((l.take 10).filter iN).foldl (fun n o=>i64.wrap (n+o.bh)) 0=((m.take 10).filter iN).foldl (fun n o=>i64.wrap (n+o.bh)) 0:=by
  rw [List.filter_eq_self.2 fun o ho=>hl o (List.mem_of_mem_take ho),List.filter_eq_self.2 fun o ho=>hm o (List.mem_of_mem_take ho)]
  have key:∀ (x:List gE) (s:Int),x.foldl (fun n o=>i64.wrap (n+o.bh)) s=(x.map gE.bh).foldl (fun n k=>i64.wrap (n+k)) s:=fun x s=>by rw [List.foldl_map]
  rw [key,key,List.map_take,List.map_take,h]
theorem Ho {p:cd} {now:Int} (ok:ik p=true) (hr:pD p now=false):kN (uJ p now)=kN p:=by
  have ar:=iT ok;obtain ⟨q0,q9⟩:=ur (List.mem_filter.1 (qu hr)).1;have hl:=ar.len
  have hp:(uJ p now).heap.ag.map gE.bh=p.heap.ag.map gE.bh:=by
    show (p.heap.ag.set (jC p now).toNat (sE (nth p.heap.ag (jC p now)))).map gE.bh=_
    rw [List.map_set];exact nA (by rw [List.getElem?_map,jv q0 (by omega)];rfl)
  have e:held (uJ p now)=held p:=NU hp (zD ok hr).2.ok ar.ok;obtain ⟨s1,s2,s3⟩:=N6 ok (qu hr);have o1:=nR ok;have o2:=nR (Bp ok hr);have hc:=(AM hr).1;have sp:=ui o1;unfold kN;rw [o1,o2,e];simp only [if_true]
  show iD ⟨i64.wrap ((jU (iQ p.QR (kK p (nth p.heap.ag (jC p now)).res) ⟨0,0,1⟩).1).bh+held p),(jU (iQ p.QR (kK p (nth p.heap.ag (jC p now)).res) ⟨0,0,1⟩).1).gS,(jU (iQ p.QR (kK p (nth p.heap.ag (jC p now)).res) ⟨0,0,1⟩).1).gW⟩ ⟨p.gP.bh,p.gP.gS,i64.wrap (p.gP.gW+1)⟩=_
  rw [s1,s2,s3,ig (n:=p.gP.gW+1) (by omega) (by omega)];unfold iD;simp only;rw [show (jU p.QR).gW - 1+(p.gP.gW+1)=(jU p.QR).gW+p.gP.gW by omega]
theorem Ag {α β:Type} {p q:Nat→α→Bool} {h:Nat→α→β}:∀ (l:List α) (k:Nat),(∀ i y,l[i]?=some y→p (k+i) y=q (k+i) y)→kW p h k l=kW q h k l
  | [],_,_=>rfl
  | y::l,k,e=>by
    have h1:=e 0 y rfl
    have h2:=Ag (p:=p) (q:=q) (h:=h) l (k+1) fun i z hz=>by
      have:=e (i+1) z hz
      rwa [show k+1+i=k+(i+1) by omega]
    unfold kW;rw [Nat.add_zero] at h1;rw [h1,h2]
theorem Lv {p x:cd} {now:Int} (hp:ik p=true) (hx:ik x=true) (h:x.heap.ag.map jx=p.heap.ag.map jx):threads x now=threads p now:=by
  have ar:=iT hp;have ax:=iT hx;unfold threads;rw [if_pos hp,if_pos hx,I6 ax ar h];refine Ag _ 0 fun i y hy=>?_;have hi:=iU hy;have hlen:=(ue ar now).1;have h10:=ax.len;have h10p:=ar.len;rw [Nat.zero_add,show (nth x.heap.ag (i:Int)).py=(nth p.heap.ag (i:Int)).py from congrArg Sk.py (lD h (by omega) (by omega))]
theorem CG {α:Type} {p:Nat→α→Bool}:∀ (l:List α) (k:Nat),(kW p (fun k _=>(k:Int)) k l).Pairwise (·<·)∧∀ y,y ∈ kW p (fun k _=>(k:Int)) k l→(k:Int)≤y
  | [],_=>by simp [kW]
  | z::l,k=>by
    obtain ⟨a,b⟩:=CG (p:=p) l (k+1);unfold kW;split
    · refine ⟨List.pairwise_cons.2 ⟨fun y hy=>?_,a⟩,fun y hy=>?_⟩
      · have:=b y hy;omega
      · rcases List.mem_cons.1 hy with rfl | hy
        · exact Int.le_refl _
        · have:=b y hy;omega
    · exact ⟨a,fun y hy=>by have:=b y hy;omega⟩
theorem ze (p:cd) (now:Int):(runnable p now).Pairwise (·<·):=by
  unfold runnable;refine List.Pairwise.filter _ ?_;unfold threads;split
  · exact (CG _ 0).1
  · exact List.Pairwise.nil
theorem K7 {last:Int}:∀ (l:List Int) (a b:Int),l.Pairwise (·<·)→(∀ y,y ∈ l→0≤y)→(0≤a→∀ y,y ∈ l→a<y)→(0≤b→∀ y,y ∈ l→b<y) →
    vU last (-1) a b l=if 0≤b then b else match l.find? (fun y=>decide (y > last)) with | some y=>y | none=>if 0≤a then a else l.headD a
  | [],a,b,_,_,_,_=>by
    unfold vU
    by_cases hb:0≤b
    · simp [hb]
    · simp only [List.find?_nil,List.headD_nil,if_neg hb];rw [show decide (b ≥ 0)=false from decide_eq_false hb];simp
  | y::l,a,b,hp,h0,ha,hb=>by
    obtain ⟨h1,h2⟩:=List.pairwise_cons.1 hp;have y0:=h0 y (by simp);have g0:∀ z,z ∈ l→0≤z:=fun z hz=>h0 z (by simp [hz]);unfold vU;rw [show decide (y<0)=false from decide_eq_false (by omega),show (y==(-1:Int))=false from by rw [beq_eq_false_iff_ne];omega];simp only [Bool.false_eq_true,if_false]
    have ea:(if decide (a<0) || decide (y<a) then y else a)=if 0≤a then a else y:=by
      by_cases q:0≤a
      · have:=ha q y (by simp);rw [if_pos q,show decide (a<0)=false from decide_eq_false (by omega),show decide (y<a)=false from decide_eq_false (by omega)];rfl
      · rw [if_neg q,show decide (a<0)=true from decide_eq_true (by omega)];rfl
    have eb:(if decide (y > last)&&(decide (b<0) || decide (y<b)) then y else b)=if 0≤b then b else if y > last then y else b:=by
      by_cases q:0≤b
      · have:=hb q y (by simp);rw [if_pos q,show decide (b<0)=false from decide_eq_false (by omega),show decide (y<b)=false from decide_eq_false (by omega)];simp
      · rw [if_neg q,show decide (b<0)=true from decide_eq_true (by omega)];simp
    rw [ea,eb]
    rw [K7 l _ _ h2 g0 (fun _ z hz=>by split<;>rename_i q;exact ha q z (by simp [hz]);exact h1 z hz) (fun q2 z hz=>by
      by_cases q:0≤b
      · rw [if_pos q];exact hb q z (by simp [hz])
      · rw [if_neg q] at q2 ⊢
        by_cases q3:y > last
        · rw [if_pos q3];exact h1 z hz
        · rw [if_neg q3] at q2;exact absurd q2 q)]
    by_cases q:0≤b
    · simp [q]
    · simp only [if_neg q,List.find?_cons]
      by_cases q3:y > last
      · simp [q3,y0]
      · rw [if_neg q3,if_neg q,show decide (y > last)=false from decide_eq_false q3];simp only
        cases l.find? (fun y=>decide (y > last)) with
        | some z=>rfl
        | none =>
          simp only [List.headD_cons]
          by_cases qa:0≤a
          · simp [qa]
          · simp [qa,y0]
def ring (l:List Int) (k:Nat):Int:=nth l ((k % l.length:Nat):Int)
theorem LA {l:List Int} (h:0<l.length) (k:Nat):ring l k ∈ l:=by
  have:=Nat.mod_lt k h;exact j7 (by omega) (by omega)
theorem LQ {l:List Int} (hp:l.Pairwise (·<·)) {k i j:Nat} (hj:j<i) (hi:i<l.length) (e:ring l (k+i)=ring l (k+j)):False:=by
  have hn:0<l.length:=by omega
  have a1:=Nat.mod_lt (k+i) hn;have a2:=Nat.mod_lt (k+j) hn;have g1:=jv (l:=l) (i:=(((k+i) % l.length:Nat):Int)) (by omega) (by omega);have g2:=jv (l:=l) (i:=(((k+j) % l.length:Nat):Int)) (by omega) (by omega);have e:nth l (((k+i) % l.length:Nat):Int)=nth l (((k+j) % l.length:Nat):Int):=e;rw [e] at g1;rw [Int.toNat_natCast] at g1 g2;rw [List.getElem?_eq_getElem a1] at g1;rw [List.getElem?_eq_getElem a2] at g2;have hpw:=List.pairwise_iff_getElem.1 hp
  have e3:(k+i) % l.length=(k+j) % l.length:=by
    rcases Nat.lt_trichotomy ((k+i) % l.length) ((k+j) % l.length) with q | q | q
    · have:=hpw _ _ a1 a2 q;rw [Option.some.inj g1,Option.some.inj g2] at this;omega
    · exact q
    · have:=hpw _ _ a2 a1 q;rw [Option.some.inj g1,Option.some.inj g2] at this;omega
  have e4:=Nat.sub_mod_eq_zero_of_mod_eq e3;rw [show k+i - (k+j)=i - j by omega,Nat.mod_eq_of_lt (by omega)] at e4;omega
theorem JD {l:List Int} (hp:l.Pairwise (·<·)) (h0:∀ y,y ∈ l→0≤y) (hn:0<l.length) (k:Nat):oG l (ring l k) (-1)=ring l (k+1):=by
  have a1:=Nat.mod_lt k hn;have g1:=jv (l:=l) (i:=((k % l.length:Nat):Int)) (by omega) (by omega);rw [Int.toNat_natCast,List.getElem?_eq_getElem a1] at g1;have hpw:=List.pairwise_iff_getElem.1 hp;unfold oG;rw [K7 l (-1) (-1) hp h0 (fun q=>absurd q (by decide)) (fun q=>absurd q (by decide))];rw [if_neg (show ¬ (0:Int)≤-1 by decide)];have er:ring l k=l[k % l.length]:=(Option.some.inj g1).symm
  by_cases hl:k % l.length+1<l.length
  · have e2:(k+1) % l.length=k % l.length+1:=by rw [Nat.add_mod,Nat.mod_eq_of_lt (show 1<l.length by omega),Nat.mod_eq_of_lt hl]
    have hf:l.find? (fun y=>decide (y > ring l k))=some l[k % l.length+1]:=by
      rw [List.find?_eq_some_iff_getElem];refine ⟨by rw [er];exact decide_eq_true (hpw _ _ a1 hl (by omega)),k % l.length+1,hl,rfl,fun j hj=>?_⟩;rw [er]
      by_cases q:j=k % l.length
      · subst q;simp
      · have:=hpw j (k % l.length) (by omega) a1 (by omega);simp;omega
    rw [hf];have g2:=jv (l:=l) (i:=(((k+1) % l.length:Nat):Int)) (by omega) (by omega);rw [Int.toNat_natCast,e2,List.getElem?_eq_getElem hl] at g2
    have:ring l (k+1)=l[k % l.length+1]:=by unfold ring;rw [e2];exact (Option.some.inj g2).symm
    rw [this]
  · have e2:(k+1) % l.length=0:=by
      rw [Nat.add_mod]
      by_cases h1:l.length=1
      · rw [h1,Nat.mod_one]
      · rw [Nat.mod_eq_of_lt (show 1<l.length by omega),show k % l.length+1=l.length by omega,Nat.mod_self]
    have hf:l.find? (fun y=>decide (y > ring l k))=none:=by
      rw [List.find?_eq_none];intro y hy;obtain ⟨j,hj,rfl⟩:=List.getElem_of_mem hy;rw [er]
      by_cases q:j=k % l.length
      · subst q;simp
      · have:=hpw j (k % l.length) hj a1 (by omega);simp;omega
    rw [hf];simp only [if_neg (show ¬ (0:Int)≤-1 by decide)];unfold ring;rw [e2]
    cases l with
    | nil=>simp at hn
    | cons y l=>rfl
theorem LI {t:List g6} {f:Int} (h:(iQ t f ⟨0,0,1⟩).2=true):(∀ r,iH (iQ t f ⟨0,0,1⟩).1 r=iH t r)∧∀ r,0≤r→r≤4→(nth t r).iw.gW - 1≤(nth (iQ t f ⟨0,0,1⟩).1 r).iw.gW∧(nth (iQ t f ⟨0,0,1⟩).1 r).iw.gW≤(nth t r).iw.gW:=by
  obtain ⟨h1,h2⟩:=vw h;have hl:=(jL.1 h1).len;obtain ⟨f0,f4⟩:=kJ h2;unfold iQ at *;rw [h1,h2] at *;simp only [Bool.and_self,if_true] at *;cases hf:lY ⟨0,0,1⟩ (nth t f).iw
  · rw [hf] at h;simp at h
  · simp only [if_true];refine ⟨AY f0 (by omega) _,fun r r0 r4=>?_⟩;rw [wX f0 (by omega) r0];split
    · rename_i e;subst e
      show (nth t f).iw.gW - 1≤(vl (nth t f).iw ⟨0,0,1⟩).gW∧(vl (nth t f).iw ⟨0,0,1⟩).gW≤_
      rw [(EF hf).1];exact ⟨Int.le_refl _,by show (nth t f).iw.gW - 1≤_;omega⟩
    · omega
structure x8 (p x:cd) (l:List Int) (k0 i:Nat) (who:List Int):Prop where
  ok:ik x=true
  w:wP x
  sz:ij x≤20000+100 * i
  sk:x.heap.ag.map jx=p.heap.ag.map jx
  wt:∀ k,0≤k→k≤9→(nth x.heap.ag k).QW=(nth p.heap.ag k).QW∧(nth x.heap.ag k).res=(nth p.heap.ag k).res
  iG:∀ k,0≤k→k≤9→k ∉ who→(nth x.heap.ag k).iG=(nth p.heap.ag k).iG
  lv:∀ r,iH x.QR r=iH p.QR r
  iw:∀ r,0≤r→r≤4→(nth p.QR r).iw.gW - i≤(nth x.QR r).iw.gW∧(nth x.QR r).iw.gW≤(nth p.QR r).iw.gW
  sp:x.gP.gW=p.gP.gW+i
  wa:x.QY=0
  nx:oG l x.QZ (-1)=ring l (k0+i)
  wh:∀ s,s ∈ who→∃ j,j<i∧s=ring l (k0+j)
  wl:who.length=i
  sum:kN x=kN p
theorem x8.res {p x:cd} {l who:List Int} {k0 i:Nat} (h:x8 p x l k0 i who) (hp:ik p=true) {k:Int} (k0:0≤k) (k9:k≤9):(om p k).gW - i≤(om x k).gW∧(om x k).gW≤(om p k).gW:=by
  have e:kK x (nth x.heap.ag k).res=kK p (nth p.heap.ag k).res:=by
    rw [(h.wt k k0 k9).2];unfold kK;rw [lP h.ok,lP hp,h.lv]
  unfold om;rw [e];obtain ⟨r0,r4⟩:=rU p (nth p.heap.ag k).res;exact h.iw _ r0 r4
theorem x8.less {p x:cd} {now:Int} {l who:List Int} {k0 i:Nat} (h:x8 p x l k0 i who) (hp:ik p=true) {y:Int} (hy:y ∈ threads p now) (hm:pb x y=true):pb p y=true:=by
  obtain ⟨y0,y9⟩:=ur hy;have hr:=h.res hp y0 y9;unfold pb at *;rw [(h.wt y y0 y9).1] at hm;simp only [Rg,decide_eq_true_eq] at *;exact ⟨hm.1,by omega⟩
theorem x8.list {p x:cd} {now:Int} {who:List Int} {k0 i:Nat} (h:x8 p x (runnable p now) k0 i who) (hp:ik p=true) (hi:i<(runnable p now).length) (hc:∀ y,y ∈ runnable p now→((runnable p now).length:Int)≤(om p y).gW):runnable x now=runnable p now:=by
  show (threads x now).filter (pb x)=(threads p now).filter (pb p)
  rw [Lv hp h.ok h.sk];refine List.filter_congr fun y hy=>?_;rw [Bool.eq_iff_iff];refine ⟨h.less hp hy,fun q=>?_⟩;have hm:y ∈ runnable p now:=List.mem_filter.2 ⟨hy,q⟩;obtain ⟨y0,y9⟩:=ur hy;have hr:=h.res hp y0 y9;have:=hc y hm;unfold pb at *;rw [(h.wt y y0 y9).1];simp only [Rg,decide_eq_true_eq] at *;exact ⟨q.1,by omega⟩
theorem x8.step {p x:cd} {now:Int} {who:List Int} {k0 i:Nat} (h:x8 p x (runnable p now) k0 i who) (hp:ik p=true) (hi:i<(runnable p now).length) (hc:∀ y,y ∈ runnable p now→((runnable p now).length:Int)≤(om p y).gW∧(nth p.heap.ag y).iG+((runnable p now).length:Int)≤1000000)
    (hs:p.gP.gW+((runnable p now).length:Int)≤1000000) :
    (kG x now).2=ring (runnable p now) (k0+i)∧ring (runnable p now) (k0+i) ∉ who∧x8 p (kG x now).1 (runnable p now) k0 (i+1) (who++[ring (runnable p now) (k0+i)]):=by
  have hl:=h.list hp hi fun y hy=>(hc y hy).1
  have hn:0<(runnable p now).length:=by omega
  have hm:=LA hn (k0+i);obtain ⟨r0,r9⟩:=ur (List.mem_filter.1 hm).1
  have e:jC x now=ring (runnable p now) (k0+i):=by
    unfold jC;rw [hl,h.wa];exact h.nx
  have hnot:ring (runnable p now) (k0+i) ∉ who:=fun q=>by
    obtain ⟨j,hj,ej⟩:=h.wh _ q;exact LQ (ze p now) hj hi ej
  have hran:=h.iG _ r0 r9 hnot;have hcy:=hc _ hm
  have hnr:pD x now=false:=by
    unfold pD;rw [e,h.sp,hran];simp only [Bool.or_eq_false_iff,decide_eq_false_iff_not];omega
  have ax:=iT h.ok;have hlen:=ax.len;have hpay:=BS h.ok (qu hnr);obtain ⟨b1,b2⟩:=LI hpay;have hrs:=Jh x now;have hsz:=h.sz;rw [KE h.ok hnr] at hrs ⊢;dsimp only at *;have hsp:=ui (nR h.ok)
  have hset:∀ k,0≤k→nth (uJ x now).heap.ag k=if jC x now=k then sE (nth x.heap.ag (jC x now)) else nth x.heap.ag k:=fun k hk=>ko (by omega) (by omega) hk
  refine ⟨e,hnot,Bp h.ok hnr,?_,by omega,(zD h.ok hnr).1.trans h.sk,?_,?_,?_,?_,?_,rfl,?_,?_,?_,(Ho h.ok hnr).trans h.sum⟩
  · exact lz h.w (show n8 (nth x.heap.ag (jC x now)) from h.w _ (ax.at (by omega) (by omega)).2)
  · intro k q0 q9;rw [hset k q0];split
    · rename_i ek;rw [← ek];exact h.wt _ (by omega) (by omega)
    · exact h.wt k q0 q9
  · intro k q0 q9 hk;rw [hset k q0,if_neg (fun ek=>hk (by rw [← ek,e];simp))];exact h.iG k q0 q9 fun q=>hk (by simp [q])
  · intro r;exact (b1 r).trans (h.lv r)
  · intro r q0 q4;have a:=b2 r q0 q4;have b:=h.iw r q0 q4
    show (nth p.QR r).iw.gW - ((i+1:Nat):Int)≤(nth (iQ x.QR (kK x (nth x.heap.ag (jC x now)).res) ⟨0,0,1⟩).1 r).iw.gW∧(nth (iQ x.QR (kK x (nth x.heap.ag (jC x now)).res) ⟨0,0,1⟩).1 r).iw.gW≤_
    omega
  · show i64.wrap (x.gP.gW+1)=_
    rw [ig (by omega) (by omega),h.sp];omega
  · show oG (runnable p now) (jC x now) (-1)=_
    rw [e];exact JD (ze p now) (fun y hy=>(ur (List.mem_filter.1 hy).1).1) hn (k0+i)
  · intro s hs
    rcases List.mem_append.1 hs with q | q
    · obtain ⟨j,hj,ej⟩:=h.wh s q;exact ⟨j,by omega,ej⟩
    · rw [List.mem_singleton] at q;exact ⟨i,by omega,q⟩
  · simp [h.wl]
end Go.Kx
