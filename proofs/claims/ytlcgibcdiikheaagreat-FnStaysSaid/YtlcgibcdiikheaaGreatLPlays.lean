import Derived.Test.YtlcgibcdiikheaaGreatLSafeOp
namespace Go.Kx
open Go
set_option linter.unusedVariables false
set_option linter.unusedSimpArgs false
set_option maxRecDepth 10000
theorem Pl.t {k:Nat} {t:g7×List il} (h:Pl 200 k t) (hk:k<200):Wt t.1:=h.sg.t (by omega)
theorem Kz {b:List iO} (h:mH b=true):Pl 200 0 (jY b,([]:List il)):=⟨by simpa using Ns h,rfl⟩
theorem yu {b:List iO} {l:List ja} (h:(!mH b || decide ((l.length:Int) > 200))=false):mH b=true∧l.length≤200:=by
  simp only [Bool.or_eq_false_iff,Bool.not_eq_false',decide_eq_false_iff_not] at h;exact ⟨h.1,by omega⟩
theorem Of {N:Nat} (hN:gX≤N) {b:List iO} {l:List ja} (hb:iY jI b≤1048576):wC N b l=some (pS b l):=by
  have hB:(16777216:Nat)=gX:=rfl;unfold wC pS;simp only [Ei hN (show iY jI b<gX by omega),Q8,lM];cases h:!mH b || decide ((l.length:Int) > 200)
  case true=>rfl
  obtain ⟨ok,hl⟩:=yu h;simp only [Q9,Bg hN hb,Q8];refine Eq.trans (congrArg (fun o=>Option.bind o _) (kO l (fun k (t:g7×List il)=>(t.2,(k:Int),t.1.Q1,t.1.parts)) (fun _ t e=>od t e) (fun t=>(t.2,(l.length:Int),t.1.Q1,t.1.parts)) (Pl 200) ?_ ?_ (show l.length<N by omega) (t:=(jY b,[])) (Kz ok))) (by rw [Hs];rfl)
  · intro k t e hy hk hI;refine ⟨?_,hI.step (by decide) (by omega) e⟩;have h2:=hI.len;simp only [iX hk,Rb,iE,hy,Q8,show g7.mk t.1.Q1 t.1.parts=t.1 from rfl,JH hN (hI.t (by omega)),Lg (t:=t.2) (by omega),iZ (show k<gX by omega)];rfl
  · intro t _;simp only [iW,Q9]
theorem Cj {l:List ja}:∀ (m:List ja) (k:Nat) (t:g7×List il),k+m.length≤200→Pl 200 k t→Pl 200 (k+m.length) (m.foldl od t)
  | [],k,t,_,h=>h
  | e::m,k,t,hk,h=>by
    simp only [List.length_cons] at hk ⊢;have:=Cj (l:=l) m (k+1) (od t e) (by omega) (h.step (by decide) (by omega) e)
    rwa [show k+(m.length+1)=k+1+m.length by omega]
theorem Nw (b:List iO) (l:List ja):Sg 780200 (pS b l).1∧(pS b l).2.length≤l.length:=by
  unfold pS;cases h:!mH b || decide ((l.length:Int) > 200)
  · obtain ⟨ok,hl⟩:=yu h;have:=Cj (l:=l) l 0 (jY b,[]) (by omega) (Kz ok);rw [Nat.zero_add] at this;exact ⟨this.sg.mono (by omega),Nat.le_of_eq this.len⟩
  · exact ⟨⟨Nat.zero_le _,fun p hp=>by simp at hp⟩,Nat.zero_le _⟩
end Go.Kx
namespace Go.Kx
open Go
set_option linter.unusedVariables false
set_option linter.unusedSimpArgs false
set_option maxRecDepth 10000
def Px (l:List gE) (k:Nat) (b:Bool):Bool:=!b&&((nth l (k:Int)).py != 0)
def M9 (l:List gE) (now:Int):List Int:=kW (Px l) (fun k _=>(k:Int)) 0 (reach l now)
def Lr (now:Int) (k:Nat) (p:cd):List Int:=(M9 p.heap.ag now).map fun i=>lC (k:Int) i (nth p.heap.ag i).Q3
def Ku (w:g7):List Int:=if jj w then foldI (fun k acc p=>acc++Lr w.Q1 k p) 0 [] w.parts else []
end Go.Kx
namespace Go.Kx
open Go
set_option linter.unusedVariables false
set_option linter.unusedSimpArgs false
set_option maxRecDepth 10000
theorem Ip:kb qh=true:=by decide +kernel
theorem Iw {b:iO} (h:vi b=true):ik (nT b)=true:=by
  unfold vi at h;simp only [Rg] at h;obtain ⟨h1,h2,h3⟩:=h;unfold ik
  show (jE b.QQ&&(mJ b.own&&(jD (o5 b.jq)&&(kb qh&&(!decide (((([]:List i7)).length:Int) > 3)&&(([]:List i7).all ly&&pX (nT b)))))))=true
  rw [h2,h3,Bo,h1,Ip];rfl
theorem Li:EA qh 0=true:=by decide +kernel
theorem LF (b:iO):held (nT b)=0:=by
  show ((qh.ag.take 10).filter iN).foldl (fun n o=>IntKind.i64.wrap (n+o.bh)) 0=0
  decide +kernel
theorem N8 {b:iO} (h:vi b=true):kN (nT b)=b.jq:=by
  have h1:iC b.jq=true:=by
    unfold vi at h;simp only [Rg] at h;exact h.1
  have h2:=FG h1;unfold kN;rw [LF]
  have ht:jU (nT b).QR=b.jq:=by
    unfold jU;rw [show (nT b).QR=o5 b.jq from rfl,Bo,h1,if_pos rfl]
    show iD ⟨0,0,0⟩ b.jq=b.jq
    exact h2
  rw [ht,show (nT b).gP=⟨0,0,0⟩ from rfl,if_pos (by decide)];unfold iC wM at h1;simp only [Rg,ir] at h1;unfold iD;simp only [Int.add_zero];rw [ig (n:=b.jq.bh) (by omega) (by omega),ig (n:=b.jq.bh) (by omega) (by omega),ig (by omega) (by omega),ig (by omega) (by omega)]
end Go.Kx
namespace Go.Kx
open Go
set_option linter.unusedVariables false
set_option linter.unusedSimpArgs false
set_option maxRecDepth 10000
theorem Eu:∀ (l:List iO) (a:gT),(∀ x,x ∈ l→vi x=true)→nY a (lI l)=l.foldl (fun a b=>iD a b.jq) a
  | [],a,_=>rfl
  | x::l,a,h=>by
    have e:(oZ x).1=nT x:=by unfold oZ;rw [if_pos (h x (by simp))]
    show nY (iD a (kN (oZ x).1)) (lI l)=_
    rw [e,N8 (h x (by simp)),Eu l _ fun y hy=>h y (by simp [hy])];rfl
theorem C9:∀ (l:List iO) (a:gT),iC a=true→pR a l=true→iC (l.foldl (fun a b=>(kz a b.jq).1) a)=true
  | [],a,h,_=>h
  | x::l,a,_,h=>by
    unfold pR at h;simp only [Rg] at h;exact C9 l _ (J8 h.1).2.1 h.2.2.2
theorem OF {b:List iO} (h:mH b=true):(Wk (jY b)∧lp (jY b).parts=uC b∧(jY b).parts.length=b.length∧(jY b).Q1=0)∧∀ p,p ∈ (jY b).parts→∃ x,vi x=true∧p=nT x:=by
  have h':=h;unfold mH at h';rw [Rg,ir] at h';have hk:=yX b _ h'.1
  have hl:(lI b).length=b.length:=by unfold lI;rw [List.length_map]
  have hp:∀ p,p ∈ lI b→∃ x,vi x=true∧p=nT x:=fun p hp=>by
    obtain ⟨x,hx,rfl⟩:=List.mem_map.1 (show p ∈ b.map _ from hp);exact ⟨x,hk x hx,by unfold oZ;rw [if_pos (hk x hx)]⟩
  have hok:∀ p,p ∈ lI b→ik p=true:=fun p q=>by
    obtain ⟨x,hx,rfl⟩:=hp p q;exact Iw hx
  have hs:nY ⟨0,0,0⟩ (lI b)=uC b:=by
    rw [Eu b _ hk];unfold uC;rw [if_pos h]
  have ha:iC (uC b)=true:=by
    unfold uC;rw [if_pos h, ← Av b _ h'.1];exact C9 b _ (by decide) h'.1
  have e:lp (lI b)=uC b:=by rw [← DZ hok (by omega),hs]
  have ew:jY b=⟨0,lI b⟩:=by unfold jY;rw [if_pos h]
  rw [ew];exact ⟨⟨⟨⟨by dsimp only;omega,by dsimp only;omega⟩,⟨by show 1≤(lI b).length;omega,by show (lI b).length≤3;omega⟩,hok,by show iC (lp (lI b))=true;rw [e];exact ha⟩,e,hl,rfl⟩,hp⟩
end Go.Kx
namespace Go.Kx
open Go
set_option linter.unusedVariables false
set_option linter.unusedSimpArgs false
set_option maxRecDepth 10000
theorem O8 {b:List iO} (h:mH b=true):Tp (uC b) b.length (jY b)∧(jY b).Q1=0∧∀ p,0≤p→p<((jY b).parts.length:Int)→Sf (nth (jY b).parts p).heap 0:=by
  obtain ⟨⟨a,c,d,e⟩,hp⟩:=OF h;refine ⟨⟨nH.2 a,c,d⟩,e,fun p p0 p1=>?_⟩;obtain ⟨x,hx,e'⟩:=hp _ (j7 p0 p1);rw [e'];exact I9.1 Li
theorem Sf.rc {h:gV} {now:Int} (s:Sf h now):Rec (fun _=>0) (fun _=>False) h now 0 :=
  ⟨s,⟨fun _ f=>f.elim,fun _ f=>f.elim,fun _ _ _ _ _ a=>a.1.elim⟩,.inl fun _ a=>a.1.elim⟩
theorem Ce {S:gT} {m:Nat} {g:Int→Int→Int} {D:Int→Int→Prop}:∀ (l:List ja) (k n:Nat) (t:g7×List il),k+l.length≤200→Pl 200 k t→Tp S m t.1→t.1.Q1+l.length≤1000000→Rw g D t.1 t.1.Q1 n →
    Tp S m (l.foldl od t).1∧Rw g D (l.foldl od t).1 (l.foldl od t).1.Q1 (n - 3 * (l.filter fun e=>e.py==1).length)∧(l.foldl od t).1.Q1≤t.1.Q1+l.length∧t.1.Q1≤(l.foldl od t).1.Q1
  | [],k,n,t,_,_,h,_,r=>⟨h,r,by simp,Int.le_refl _⟩
  | e::l,k,n,t,hl,hp,h,hn,r=>by
    simp only [List.length_cons] at hl hn;obtain ⟨a,b,c,d1,d2⟩:=N4 h (hp.t (by omega)) r e
    have hm:t.1.Q1 ≠ 1000000:=by omega
    rw [List.foldl_cons];have et:(od t e).1=(pJ t.1 e).1:=rfl;have ps:=hp.step (by decide) (by omega) e;cases k1:e.py==1
    · have k1':e.py ≠ 1:=by simpa using k1
      rw [if_neg (fun q=>k1' q.1)] at b;obtain ⟨x1,x2,x3,x4⟩:=Ce l (k+1) n (od t e) (by omega) ps a (by rw [et,b];omega) (d1 (.inl k1'));rw [List.filter_cons,k1];rw [et,b] at x3 x4;exact ⟨x1,x2,by simp only [List.length_cons];omega,x4⟩
    · have k1':e.py=1:=by simpa using k1
      rw [if_pos ⟨k1',hm⟩] at b;obtain ⟨x1,x2,x3,x4⟩:=Ce l (k+1) (n - 3) (od t e) (by omega) ps a (by rw [et,b];omega) (d2 k1' hm);rw [List.filter_cons,k1];rw [et,b] at x3 x4;simp only [if_true,List.length_cons];refine ⟨x1,?_,by omega,by omega⟩
      have:n - 3 - 3 * (l.filter fun e=>e.py==1).length=n - 3 * ((l.filter fun e=>e.py==1).length+1):=by omega
      rw [← this];exact x2
theorem Nl {b:List iO} {l:List ja} (h:mH b=true) (hl:l.length≤200):Tp (uC b) b.length (pS b l).1∧(pS b l).2.length=l.length∧(0≤(pS b l).1.Q1∧(pS b l).1.Q1≤200)∧∀ p,0≤p→p<((pS b l).1.parts.length:Int)→Sf (nth (pS b l).1.parts p).heap (pS b l).1.Q1:=by
  obtain ⟨t,n0,s⟩:=O8 h
  have e:pS b l=l.foldl od (jY b,[]):=by
    unfold pS DS;rw [h,decide_eq_false (by omega)];rfl
  have hp:=Cj (l:=l) l 0 (jY b,[]) (by omega) (Kz h)
  obtain ⟨a,r,c,d⟩:=Ce (g:=fun _ _=>0) (D:=fun _ _=>False) l 0 0 (jY b,[]) (by omega) (Kz h) t (by show (jY b).Q1+_≤_;rw [n0];omega) fun p p0 p1=>by
    show Rec _ _ _ (jY b).Q1 0
    rw [n0];exact (s p p0 p1).rc
  rw [e];refine ⟨a,by have:=hp.len;omega,?_,fun p p0 p1=>(r p p0 p1).sf⟩;have c:(l.foldl od (jY b,[])).1.Q1≤(jY b).Q1+l.length:=c;have d:(jY b).Q1≤(l.foldl od (jY b,[])).1.Q1:=d;rw [n0] at c d;omega
end Go.Kx
namespace Go.Kx
open Go
set_option linter.unusedVariables false
set_option linter.unusedSimpArgs false
set_option maxRecDepth 10000
theorem WD.yes {α:Type} {o:Option Bool} {a b:Option α} {Q:α→Prop} (e:o=some true) (k:WD a Q):WD (o.bind fun y=>bif y then a else b) Q:=by rw [e];exact k
theorem WD.no {α:Type} {o:Option Bool} {a b:Option α} {Q:α→Prop} (e:o=some false) (k:WD b Q):WD (o.bind fun y=>bif y then a else b) Q:=by rw [e];exact k
theorem JA {w:g7} (hw:Wq w) (e:ja):(pJ w e).1.parts.length=w.parts.length:=by
  unfold Kx.pJ;cases e.py==1
  case true =>
    show (tick w).parts.length=_
    unfold Kx.tick;split
    · have key:∀ (l:List cd) (k:Nat) (t:g7),(foldI (fun k t (_:cd)=>kY w.parts.length k t) k t l).parts.length=t.parts.length:=by
        intro l
        induction l with
        | nil=>intro k t;rfl
        | cons y l ih =>
          intro k t;unfold foldI;rw [ih]
          show ((hZ t (k:Int)).parts.set k _).length=_
          rw [List.length_set];exact (zJ t _).2.1
      exact key _ _ _
    · rfl
  cases e.py==2
  case true =>
    show (lH w e.Q5 e.lj e.call).1.parts.length=_
    rcases G8 hw e.Q5 e.lj e.call with q | ⟨q,z,_,_,e2⟩
    · rw [q]
    · rw [e2];exact List.length_set
  cases e.py==3
  case false=>rfl
  show (w8 w e).parts.length=_
  rcases B1 w e with q | ⟨_,_,_,q⟩
  · rw [q]
  · rw [q];exact List.length_set
theorem IH {N:Nat} (hN:gX≤N) {b:List U8} {i h:Int} (hb:b.length≤1048576) (hi:0≤i):WD (ql N ⟨b,i,h⟩) (fun r=>0≤r.2.i∧r.1.length≤4∧∀ x,x ∈ r.1→jI x≤2000):=by
  unfold ql;dsimp only;refine WD.bind (Es hN hb hi) fun l ⟨l1,l2,l3,l4⟩=>WD.bind (kZ hb l1 16 (by decide)) fun k ⟨k1,_,_⟩=>?_;have l5:∀ x,x ∈ l.1→jI x≤1000:=fun x hx=>(l4 x hx).sz
  have l6:∀ (z:iO),jI z≤2000→∀ x,x ∈ l.1.set (0:Int).toNat z→jI x≤2000:=fun z hz x hx=>by
    rcases List.mem_or_eq_of_mem_set hx with q | rfl
    · exact Nat.le_trans (l5 x q) (by decide)
    · exact hz
  have l7:∀ (z:iO),(l.1.set (0:Int).toNat z).length≤4:=fun z=>by rw [List.length_set];omega
  refine WD.ite (fun _=>WD.ret ⟨k1,by simp,by simp⟩) fun _=>WD.ite (fun _=>?_) fun _=>WD.ite (fun _=>?_) fun _=>WD.ite (fun _=>?_) fun _=>WD.ite (fun _=>?_) fun _=>WD.ret ⟨k1,by dsimp only;omega,fun x hx=>Nat.le_trans (l5 x hx) (by decide)⟩
  · refine WD.bind (WD.loop (fun s=>0≤s.2.1∧s.1.length≤4∧∀ x,x ∈ s.1→jI x≤2000) (fun r=>0≤r.2.1∧r.1.length≤4∧∀ x,x ∈ r.1→jI x≤2000) (fun s=>4 - s.1.length) ⟨k1,by dsimp only;omega,fun x hx=>Nat.le_trans (l5 x hx) (by decide)⟩ (yY hN (by dsimp only;omega)) ?_) fun r hr=>WD.ret ⟨hr.1,hr.2.1,hr.2.2⟩;rintro ⟨s,i,h⟩ ⟨s1,s2,s3⟩;dsimp only at *;refine WD.ite (fun c=>?_) fun _=>WD.inr ⟨s1,s2,s3⟩;have c:=of_decide_eq_true c;refine WD.bind (HN hN hb s1) fun q ⟨q1,q2,q3,_⟩=>WD.step (yh (by omega)) (WD.inl ⟨q1,by simp only [List.length_append,List.length_cons,List.length_nil];omega,fun x hx=>?_⟩ (by simp only [List.length_append,List.length_cons,List.length_nil];omega))
    rcases List.mem_append.1 hx with q | q
    · exact s3 x q
    · rw [List.mem_singleton] at q;rw [q];exact Nat.le_trans q3 (by decide)
  · refine WD.bind (Gh hN hb k1) fun u ⟨u1,u2⟩=>WD.bind (qF (by decide) (by omega)) fun z hz=>WD.ret ⟨u1,l7 _,l6 _ ?_⟩;have:=l5 z hz;unfold jI lQ at *;dsimp only at *;omega
  · refine WD.bind (JV hb k1) fun u u1=>WD.bind (qF (by decide) (by omega)) fun z hz=>WD.step rfl (WD.ret ⟨u1,l7 _,l6 _ ?_⟩);have:=l5 z hz;unfold jI lQ at *;dsimp only at *;omega
  · refine WD.bind (Oo hN hb k1) fun u ⟨u1,u2⟩=>WD.bind (qF (by decide) (by omega)) fun z hz=>WD.ret ⟨u1,l7 _,l6 _ ?_⟩;have:=l5 z hz;unfold jI lQ at *;dsimp only at *;omega
theorem Mg {N:Nat} (hN:gX≤N) {b:List U8} {i h:Int} (hb:b.length≤1048576) (hi:0≤i) {w:g7} (hw:Wq w) (hA:∀ q,q ∈ w.parts→q.heap.ag.length≤1000000) (hn:0<w.parts.length):WD (sm N ⟨b,i,h⟩ w) (fun r=>0≤r.2.i):=by
  unfold sm;dsimp only;refine WD.bind (kZ hb hi _ (by omega)) fun p ⟨p1,p2,p3⟩=>WD.bind (kZ hb p1 10 (by decide)) fun k ⟨k1,_,_⟩=>WD.ite (fun _=>WD.ret k1) fun _=>?_;refine WD.bind (P:=fun (j:Bool×Int×Int)=>0≤j.2.1) (WD.ite (fun _=>WD.bind (oW hb k1 2) fun y y1=>WD.ret y1) fun _=>WD.ret k1) fun j j1=>WD.ite (fun _=>WD.bind (kZ hb j1 10 (by decide)) fun y ⟨y1,_,_⟩=>WD.ret y1) fun _=>?_;refine WD.bind (qF p2 p3) fun q hq=>WD.bind (N2 hN hb j1 (hA q hq) _) fun x x1=>WD.bind (kZ hb x1 _ (by omega)) fun z ⟨z1,z2,z3⟩=>?_;refine WD.bind (P:=fun (j:Bool×Int×Int)=>0≤j.2.1) (WD.ite (fun _=>WD.bind (oW hb z1 2) fun y y1=>WD.ret y1) fun _=>WD.ret z1) fun j j1=>?_;refine WD.bind (P:=fun (j:Int×Int×Int)=>0≤j.1) (WD.ite (fun _=>WD.bind (qF z2 z3) fun u hu=>WD.bind (IY hN hb j1 (hA u hu) _ _) fun v v1=>WD.ret v1) fun _=>WD.ret j1) fun j j1=>?_;refine WD.bind (P:=fun (j:Int×Int×Int)=>0≤j.1) (WD.ite (fun _=>WD.bind (qF z2 z3) fun u hu=>WD.bind (IY hN hb j1 (hA u hu) _ _) fun v v1=>WD.ret v1) fun _=>WD.ret j1) fun j j1=>?_;refine WD.bind (oW hb j1 4) fun y y1=>WD.bind (P:=fun (j:Int×Int×Int)=>0≤j.2.1) (WD.ite (fun _=>WD.step (xg hN (kn hw.qn hq) (hw.w q hq) _) (WD.ite (fun c=>?_) fun _=>WD.ret y1)) fun _=>WD.ret y1) fun j j1=>WD.ret j1;have c:=of_decide_eq_true c;exact WD.bind (kZ hb y1 _ c) fun u ⟨u1,u2,u3⟩=>WD.bind (qF u2 u3) fun v _=>WD.ret u1
theorem Ic {N:Nat} (hN:gX≤N) {b:List U8} {i h:Int} (hb:b.length≤1048576) (hi:0≤i) {l:List iO} (hl:iY jI l≤1048576) {m:Int} (m0:0≤m) (m9:m≤80):WD (qm N ⟨b,i,h⟩ l m) (fun r=>0≤r.2.i∧r.1.length≤80):=by
  unfold qm;dsimp only;refine WD.step (Bg hN hl) (WD.ite (fun _=>WD.ret ⟨hi,by simp⟩) fun c=>?_)
  have c:((jY l).parts.length:Int) ≠ 0:=by simpa using c
  have hok:mH l=true:=by
    cases q:mH l
    · exfalso
      unfold jY at c;rw [q] at c;exact c rfl
    · rfl
  rw [ig (n:=m+1) (by omega) (by omega)];refine WD.bind (kZ hb hi _ (by omega)) fun k ⟨k1,k2,k3⟩=>?_;refine WD.bind (WD.loop (fun s=>0≤s.2.1∧(s.1.length:Int)+s.2.1=k.1∧0≤s.2.2.1∧(∃ r,Pl 200 s.1.length (g7.mk s.2.2.2.2.1 s.2.2.2.2.2,r))∧0<s.2.2.2.2.2.length) (fun r=>r.1.length≤80∧0≤r.2.2.1) (fun s=>s.2.1.toNat) ⟨k2,by simp,k1,⟨[],Kz hok⟩,by dsimp only;omega⟩ (yY hN (by dsimp only;omega)) ?_) fun r hr=>WD.ret ⟨hr.2,hr.1⟩;rintro ⟨s,n,i,h,now,ps⟩ ⟨s1,s2,s3,⟨r,s4⟩,s5⟩;dsimp only at *;refine WD.ite (fun c=>?_) fun c=>WD.inr ⟨by dsimp only;omega,s3⟩;have c:=of_decide_eq_true c;have ht:=s4.t (by omega)
  have hA:∀ q,q ∈ ps→q.heap.ag.length≤1000000:=fun q hq=>by
    have h1:=(s4.sg.sz q hq).1;unfold ij my iY at h1;omega
  refine WD.bind (Mg hN hb s3 ht.q hA s5) fun e e1=>WD.step (JH hN ht e.1) (WD.step (yh (by omega)) ?_);rw [ig (n:=n - 1) (by omega) (by omega)];have pn:=s4.step (by decide) (by omega) e.1;refine WD.inl ⟨by dsimp only;omega,by simp only [List.length_append,List.length_cons,List.length_nil];omega,e1,⟨r++[(pJ (g7.mk now ps) e.1).2],?_⟩,?_⟩ (by dsimp only;omega)
  · rw [show (s++[e.1]).length=s.length+1 from by simp];exact pn
  · show 0<(pJ _ e.1).1.parts.length
    rw [JA ht.q];exact s5
theorem OM {N:Nat} (hN:gX≤N) {b:List U8} {i h:Int} (hb:b.length≤1048576) (hi:0≤i) {m:Int} (m0:0≤m) (m9:m≤80):WD (ve N ⟨b,i,h⟩ m) (fun r=>0≤r.2.2.i∧iY jI r.1≤1048576∧r.2.1.length≤201):=by
  unfold ve;dsimp only;refine WD.bind (Es hN hb hi) fun l ⟨l1,l2,l3,l4⟩=>WD.bind (oW hb l1 20) fun y y1=>?_;refine WD.bind (P:=fun (j:(List iO)×Int×Int)=>0≤j.2.1∧iY jI j.1≤1048576) (WD.ite (fun _=>WD.bind (IH hN hb y1) fun z ⟨z1,z2,z3⟩=>WD.ret ⟨z1,?_⟩) fun _=>WD.ret ⟨y1,?_⟩) fun j ⟨j1,j2⟩=>?_
  · have:=uy (f:=jI) (c:=2000) z3;unfold iY;dsimp only at *;omega
  · have:=uy (f:=jI) (c:=1000) fun y hy=>(l4 y hy).sz;unfold iY;dsimp only at *;omega
  refine WD.bind (Ic hN hb j1 j2 m0 m9) fun e ⟨e1,e2⟩=>WD.bind (kZ hb e1 20 (by decide)) fun k ⟨k1,_,_⟩=>WD.ite (fun _=>?_) fun _=>WD.ite (fun _=>?_) fun _=>WD.ret ⟨k1,j2,by dsimp only;omega⟩
  · refine WD.bind (zR hb k1 (by decide)) fun u ⟨u1,_⟩=>WD.step (a:=e.1++[ja.mk u.1 1 0 (iA.mk 0 0 0 0 0 0),ja.mk 2 3 0 (iA.mk 0 0 0 0 0 0),ja.mk 3 (-1) 0 (iA.mk 0 0 0 0 0 0),ja.mk 3 0 10 (iA.mk 0 0 0 0 0 0)]) ?_ (WD.ret ⟨u1,j2,by simp only [List.length_append,List.length_cons,List.length_nil];omega⟩);have:(16777216:Nat)=gX:=rfl;unfold app;rw [if_pos (by simp only [List.length_cons,List.length_nil];omega)]
  · refine WD.bind (WD.loop (fun s=>0≤s.2.1∧s.1.length≤201) (fun r=>0≤r.2.1∧r.1.length≤201) (fun s=>201 - s.1.length) ⟨k1,by dsimp only;omega⟩ (yY hN (by dsimp only;omega)) ?_) fun r hr=>WD.ret ⟨hr.1,j2,hr.2⟩;rintro ⟨s,i,h⟩ ⟨s1,s2⟩;dsimp only at *;refine WD.bind (kZ hb s1 2 (by decide)) fun u ⟨u1,u2,u3⟩=>?_;rw [ig (n:=200+u.1) (by omega) (by omega)];refine WD.ite (fun c=>?_) fun _=>WD.inr ⟨u1,s2⟩;have c:=of_decide_eq_true c;exact WD.step (yh (by omega)) (WD.inl ⟨u1,by simp only [List.length_append,List.length_cons,List.length_nil];omega⟩ (by simp only [List.length_append,List.length_cons,List.length_nil];omega))
theorem GP {N:Nat} (hN:gX≤N) {l:List U8} (hl:l.length≤1048576):WD (sr N l) (fun r=>iY jI r.1≤1048576∧r.2.length≤201):=by
  unfold sr;refine WD.bind (Ow hN hl) fun c c1=>WD.bind (P:=fun r=>0≤r∧r≤60) ?_ fun k ⟨k0,k9⟩=>?_
  · unfold wg;have e:Int.tdiv (l.length:Int) 20=(l.length:Int) / 20:=Int.tdiv_eq_ediv_of_nonneg (by omega);rw [e,ig (n:=(l.length:Int) / 20) (by omega) (by omega),ig (by omega) (by omega)];exact WD.ite (fun _=>WD.ret (by decide)) fun c=>WD.ret (by have:=of_decide_eq_false c;omega)
  · rw [ig (n:=20+k) (by omega) (by omega)];exact WD.bind (OM hN hl c1 (by omega) (by omega)) fun r ⟨_,r2,r3⟩=>WD.ret ⟨r2,r3⟩
end Go.Kx
namespace Go.Kx
open Go
set_option linter.unusedVariables false
set_option linter.unusedSimpArgs false
set_option maxRecDepth 10000
theorem Aj {l m:List gE} (hl:Ar l) (hm:Ar m) (h:l.map jx=m.map jx) {now k:Int}:Reaches l now k ↔ Reaches m now k:=⟨lL hl h,lL hm h.symm⟩
theorem JO {m:Nat} {p:cd} (ok:ik p=true) (hw:wP p) (hs:(sp p).bh≤1000000) (i:Int) {now:Int} (hn:1≤now∧now≤1000000) (hp:p.hY<3) (s:Sf p.heap now) :
    Ar (kA m p i now).heap.ag∧∀ k,Reaches p.heap.ag now k→Reaches (kA m p i now).heap.ag now k∧(nth (kA m p i now).heap.ag k).Q3=(nth p.heap.ag k).Q3:=by
  have ek:jB p now=p:=by
    unfold jB;rw [if_neg (by simp [hp])]
  obtain ⟨w1,w2⟩:=xt ok i now;obtain ⟨c1,c2⟩:=wY w1 (xV hw i now) (by rw [w2];exact hs) now 3;have s1:Sf (jQ p i now).heap now:=(HM ok i now _ _ _ s.rc).sf
  have h1:p.heap.ag.map jx=(jQ p i now).heap.ag.map jx:=by
    unfold jQ;split
    · exact yj p i now
    · rfl
  have a0:=iT ok;have a1:=iT w1
  have eC:(kT p i now).heap=BK now 3 (jQ p i now).heap:=by
    unfold kT kh;rw [ek,if_pos (by rw [w1];rfl)];exact zh now 3 _
  have eM:ik (kT p i now)=true:=by unfold kT;rw [ek];exact c1
  obtain ⟨g1,g2,g3⟩:=J2 now 3 _ s1
  have mid:∀ k,Reaches p.heap.ag now k→Reaches (kT p i now).heap.ag now k∧(nth (kT p i now).heap.ag k).Q3=(nth p.heap.ag k).Q3:=fun k r=>by
    have r1:=(Aj a0 a1 h1).1 r;obtain ⟨k0,k9⟩:=r.mM a0;rw [eC];refine ⟨(g2 k).2 r1,(g3 k r1).1.trans ?_⟩;have:=lD h1 k0 (by rw [a0.len];omega);exact (congrArg Sk.Q3 this).symm
  unfold kA;cases Int.tmod now (m:Int)==i
  · exact ⟨iT eM,mid⟩
  · show Ar (kG (kT p i now) now).1.heap.ag∧_
    clear eC;generalize kT p i now=q at *;have a2:=iT (AL eM now).1
    have h2:(q).heap.ag.map jx=(kG (q) now).1.heap.ag.map jx:=by
      unfold kG;rw [if_pos eM];split
      · rfl
      · rename_i c
        have hx:decide (jC (q) now<0)=false:=by
          unfold pD at c;cases e:decide (jC q now<0)
          · rfl
          · rw [e] at c;simp at c
        obtain ⟨_,n0,n9⟩:=vO hx;exact oJ n0 (by rw [(iT eM).len];omega) rfl
    refine ⟨a2,fun k r=>?_⟩;obtain ⟨b1,b2⟩:=mid k r;obtain ⟨k0,k9⟩:=r.mM a0;refine ⟨(Aj (iT eM) a2 h2).1 b1,Eq.trans ?_ b2⟩;have:=lD h2 k0 (by rw [(iT eM).len];omega);exact (congrArg Sk.Q3 this).symm
theorem IB {t:g7} (h:Wk t) (k j:Int) (j0:0≤j) (j1:j<(t.parts.length:Int)):(nth (hZ t k).parts j).hY=(nth t.parts j).hY:=by
  unfold hZ;split
  · have hlen:(jf (o8 (j6 t.parts) k (nth t.parts k).gR)).length=t.parts.length:=by
      unfold jf;rw [List.length_map];exact sC
    generalize jf (o8 (j6 t.parts) k (nth t.parts k).gR)=ts at *;obtain ⟨l1,l2⟩:=Bn t.parts ts hlen;have hg:=jv (l:=je t.parts ts) j0 (by omega);obtain ⟨p,x,a,b,c⟩:=l2 _ _ hg
    have hp:nth t.parts j=p:=by
      rw [jv j0 j1] at a;exact Option.some.inj a
    show (nth (je t.parts ts) j).hY=_
    rw [c,hp];rfl
  · rfl
theorem J4 {w:g7} (hT0:tb w.parts.length 0 (g7.mk (w.Q1+1) w.parts)) (ok:jj w=true) (hm:w.Q1 ≠ 1000000) (sf:∀ p,0≤p→p<(w.parts.length:Int)→Sf (nth w.parts p).heap w.Q1) :
    Jt w (w.Q1+1) w.parts.length (tick w)∧∀ p,0≤p→p<(w.parts.length:Int)→(nth w.parts p).hY<3→Ar (nth (tick w).parts p).heap.ag∧∀ k,Reaches (nth w.parts p).heap.ag (w.Q1+1) k→Reaches (nth (tick w).parts p).heap.ag (w.Q1+1) k∧(nth (nth (tick w).parts p).heap.ag k).Q3=(nth (nth w.parts p).heap.ag k).Q3:=by
  have hk:=nH.1 ok;have hn:=hk.Q1;have hl:=hT0.small;unfold Kx.tick;rw [ok,show (w.Q1==1000000)=false from by simpa using hm];simp only [Bool.not_false,Bool.and_self,if_true];rw [ig (by omega) (by omega)];have h0:Jt w (w.Q1+1) 0 (g7.mk (w.Q1+1) w.parts):=⟨⟨⟨by dsimp only;omega,by dsimp only;omega⟩,hk.len,hk.ok,hk.sum⟩,rfl,rfl,rfl,fun j _ _=>ot.refl _,fun j hj=>absurd hj (Nat.not_lt_zero _),hT0.w⟩
  have key:=yU (P:=fun k t=>(Jt w (w.Q1+1) k t∧tb w.parts.length k t)∧∀ p,0≤p→p<(w.parts.length:Int) →
      ((k:Int)≤p→(nth t.parts p).heap=(nth w.parts p).heap∧(nth t.parts p).hY=(nth w.parts p).hY) ∧
      (p<(k:Int)→(nth w.parts p).hY<3→Ar (nth t.parts p).heap.ag∧∀ k,Reaches (nth w.parts p).heap.ag (w.Q1+1) k→Reaches (nth t.parts p).heap.ag (w.Q1+1) k∧(nth (nth t.parts p).heap.ag k).Q3=(nth (nth w.parts p).heap.ag k).Q3))
    (f:=fun k t (_:cd)=>kY w.parts.length k t) w.parts 0 w.parts.length (g7.mk (w.Q1+1) w.parts) (by simp) (fun k t y _ hk' hp=>?_) ⟨⟨h0,hT0⟩,fun p p0 p1=>⟨fun _=>⟨rfl,rfl⟩,fun q=>by omega⟩⟩
  · obtain ⟨⟨a,_⟩,b⟩:=key;exact ⟨a,fun p p0 p1 hp=>(b p p0 p1).2 p1 hp⟩
  · obtain ⟨⟨a,a'⟩,b⟩:=hp;have hsz:∀ p,p ∈ (hZ t (k:Int)).parts→ij p≤2000000:=fun p hp'=>Nat.le_trans ((a'.gR (k:Int)).sz p hp').1 (by omega);refine ⟨⟨a.step hk' hl hsz,a'.step hk'⟩,fun p p0 p1=>?_⟩;have hT:=Cf a.wk (k:Int);have hlen:=hT.len.trans a.len;have hm':=j7 (l:=(hZ t (k:Int)).parts) (i:=(k:Int)) (by omega) (by omega);have hnow:(hZ t (k:Int)).Q1=w.Q1+1:=hT.Q1.trans a.at_;have hsum:=iR.1 hT.wk.sum;have hge:=(Ba _ hT.wk.ok).2 _ hm';have hh:=CY a.wk (k:Int);have hpr:∀ j,0≤j→j<(t.parts.length:Int)→(nth (hZ t (k:Int)).parts j).hY=(nth t.parts j).hY:=fun j j0 j1=>IB a.wk (k:Int) j j0 j1;have hla:=a.len;unfold kY;dsimp only;have hset:=w5 (l:=(hZ t (k:Int)).parts) (i:=(k:Int)) (z:=kA w.parts.length (nth (hZ t (k:Int)).parts (k:Int)) (k:Int) (hZ t (k:Int)).Q1) (by omega) (by omega) p0;rw [Int.toNat_natCast] at hset;rw [hset];obtain ⟨b1,b2⟩:=b p p0 p1
    by_cases e:(k:Int)=p
    · rw [if_pos e];refine ⟨fun q=>by omega,fun _ hp3=>?_⟩;obtain ⟨e1,e2⟩:=b1 (by omega);have eh:(nth (hZ t (k:Int)).parts (k:Int)).heap=(nth w.parts p).heap:=(hh (k:Int) (by omega) (by omega)).trans (by rw [e];exact e1);have ep:(nth (hZ t (k:Int)).parts (k:Int)).hY=(nth w.parts p).hY:=(hpr (k:Int) (by omega) (by omega)).trans (by rw [e];exact e2);rw [hnow];have:=JO (m:=w.parts.length) (hT.wk.ok _ hm') (hT.w a.w _ hm') (by omega) (k:Int) (now:=w.Q1+1) ⟨by omega,by omega⟩ (by rw [ep];exact hp3) (by rw [eh];exact (sf p p0 p1).mono (by omega));rw [eh] at this;exact this
    · rw [if_neg e];have eh:=hh p p0 (by omega);have ep:=hpr p p0 (by omega);refine ⟨fun q=>?_,fun q hp3=>?_⟩
      · obtain ⟨e1,e2⟩:=b1 (by omega);exact ⟨eh.trans e1,ep.trans e2⟩
      · have:=b2 (by omega) hp3;rw [eh];exact this
end Go.Kx
namespace Go.Kx
open Go
set_option linter.unusedVariables false
set_option linter.unusedSimpArgs false
set_option maxRecDepth 10000
theorem Gq {p i g:Int} (p0:0≤p) (p2:p≤2) (i0:0≤i) (i9:i≤9) (g0:0≤g) (g9:g≤999):nQ (lC p i g)=true∧og (lC p i g)=p∧nG (lC p i g)=i∧ym (lC p i g)=g:=by
  have e:lC p i g=(g * 10+i) * 3+p:=by
    unfold lC;rw [ir.2 ⟨p0,p2⟩,ir.2 ⟨i0,i9⟩,ir.2 ⟨g0,g9⟩,Bool.and_self,Bool.and_self,if_pos rfl,ig (n:=g * 10) (by omega) (by omega),ig (n:=g * 10+i) (by omega) (by omega),ig (n:=(g * 10+i) * 3) (by omega) (by omega),ig (by omega) (by omega)]
  have h:nQ (lC p i g)=true:=xU.2 (by rw [e];omega);unfold og nG ym;rw [h,if_pos rfl,if_pos rfl,if_pos rfl,e];exact ⟨rfl,by omega,by omega,by omega⟩
theorem I0 {l:List gE} (ar:Ar l) {now k:Int} (r:Reaches l now k):(nth l k).py ≠ 0:=by
  by_cases h:k=0
  · rw [h,ar.sv];decide
  · exact wB (oe ar r h)
theorem Nm {l:List gE} (ar:Ar l) {k:Int} (k0:0≤k) (k9:k≤9):0≤(nth l k).Q3∧(nth l k).Q3≤999:=by
  have h:=ar.ok _ (ar.at k0 k9).2;unfold iN at h;rw [Rg,ir] at h;exact h.1
theorem GA {l:List gE} (ar:Ar l) {now p k g:Int} (r:Reaches l now k) (p0:0≤p) (p2:p≤2) (hg:(nth l k).Q3=g):hD l now p (lC p k g)=k:=by
  obtain ⟨k0,k9⟩:=r.mM ar;obtain ⟨g0,g9⟩:=Nm ar k0 k9;rw [hg] at g0 g9;obtain ⟨h1,h2,h3,h4⟩:=Gq p0 p2 k0 k9 g0 g9
  have e:v5 l now p (lC p k g)=true:=by
    unfold v5;rw [h1,h2,h3,h4,jJ.2 ar,(qx ar k0).2 r,hg];have:=I0 ar r;simp [this]
  unfold hD;rw [e,h3];rfl
end Go.Kx
namespace Go.Kx
open Go
set_option linter.unusedVariables false
set_option linter.unusedSimpArgs false
set_option maxRecDepth 10000
theorem JE {x:List U8} (hx:Fit.fit x):∃ N,tH N x=some true:=by
  obtain ⟨N,hN1⟩:∃ N,gX+1≤N:=⟨gX+1,Nat.le_refl _⟩;have hN:gX≤N:=Nat.le_of_succ_le hN1
  suffices h:WD (tH N x) (fun r=>r=true) by
    obtain ⟨_,e,rfl⟩:=h;exact ⟨N,e⟩
  unfold tH zS;refine WD.step rfl (WD.ite (fun _=>WD.ret rfl) fun c=>?_)
  have hl:x.length≤1048576:=by have:=of_decide_eq_false c;omega
  refine WD.bind (GP hN hl) fun d ⟨d1,d2⟩=>?_;obtain ⟨b,l⟩:=d;dsimp only at *;have hB:(16777216:Nat)=gX:=rfl;refine WD.step (Of hN d1) ?_;refine WD.bind (P:=fun j=>j=false→(pS b l).1.parts.length ≠ 0∧¬ (pS b l).1.Q1 ≥ 1000000) (WD.ite (fun c=>WD.ret (by simp)) fun c=>WD.ret fun h=>⟨by simpa using c,of_decide_eq_false h⟩) fun j hj=>WD.ite (fun _=>WD.ret rfl) fun cj=>?_;obtain ⟨c1,c2⟩:=hj cj
  obtain ⟨ok,hl2⟩:mH b=true∧l.length≤200:=by
    cases q:!mH b || decide ((l.length:Int) > 200)
    · exact yu q
    · exfalso
      have e:pS b l=(⟨0,[]⟩,[]):=by unfold pS;rw [q];rfl
      rw [e] at c1;exact c1 rfl
  obtain ⟨t1,n1,_,s1⟩:=Nl ok hl2;have z1:=(Nw b l).1;generalize (pS b l).1=w at *;have b1:=z1.qn (by decide);have w1:wW w.parts:=fun p hp=>(z1.sz p hp).2;have hk:=nH.1 t1.ok;have hn:=hk.Q1;have h3:=hk.len;have hT:=(z1.t (by decide)).t t1.ok;have hT':=hT;rw [ig (by omega) (by omega)] at hT';refine WD.step (Ng hN b1 w1 fun _=>hT) ?_;have zx:=z1.tick (by decide);obtain ⟨jt,st⟩:=J4 hT' t1.ok (by omega) s1;generalize tick w=y at *;have e1:y.Q1=w.Q1+1:=jt.at_;have e2:y.parts.length=w.parts.length:=jt.len;refine WD.bind (P:=fun j=>j=false) ?_ fun j hj=>?_
  · refine WD.ite (fun c=>?_) fun _=>WD.ret ?_
    · rw [e1,ig (by omega) (by omega)] at c;simp at c
    · rw [e2];simp
  subst hj;rw [Q9]
  refine WD.bind (WD.loop (fun s=>0≤s) (fun r=>∃ n,r=Sum.inl n) (fun s=>((w.parts.length:Int) - s).toNat) (by decide) (yY hN (by omega)) ?_) fun r hr=>by obtain ⟨n,rfl⟩:=hr;exact WD.ret rfl
  intro s s0;refine WD.ite (fun c=>?_) fun _=>WD.inr ⟨_,rfl⟩;have c:=of_decide_eq_true c;refine WD.step (jh s0 c) ?_;rw [ig (n:=s+1) (by omega) (by omega)];refine WD.ite (fun _=>WD.inl (by omega) (by omega)) fun cp=>?_
  have cp:(nth w.parts s).hY<3:=by have:=of_decide_eq_false cp;omega
  have hm:=j7 s0 c;have hm2:=j7 (l:=y.parts) s0 (by omega);have ar:=iT (hk.ok _ hm);have ar2:=iT (jt.wk.ok _ hm2);have q1:=kC (kn b1 hm);have q2:=kC (kn (zx.qn (by decide)) hm2);obtain ⟨_,sta⟩:=st s s0 c cp;rw [← e1] at sta;refine WD.step (Cs hN q1.2.2.2.1 (w1 _ hm) _) ?_;have rl:=pE ar y.Q1
  refine WD.bind (WD.loop (fun s=>0≤s) (fun r=>∃ n,r=Sum.inl n) (fun s=>(10 - s).toNat) (by decide) (yY hN (by omega)) ?_) fun r hr=>by obtain ⟨n,rfl⟩:=hr;exact WD.inl (by omega) (by omega)
  intro k k0;refine WD.ite (fun c=>?_) fun _=>WD.inr ⟨_,rfl⟩;have c:=of_decide_eq_true c;rw [ig (n:=k+1) (by omega) (by omega)]
  refine WD.bind (P:=fun j=>j=false) (WD.step (jh k0 c) (WD.ite (fun cr=>?_) fun _=>WD.ret rfl)) fun j hj=>by subst hj;exact WD.inl (by omega) (by omega)
  have rr:=(qx ar k0).1 cr;obtain ⟨r1,r2⟩:=sta k rr;refine WD.step (jh s0 (by omega)) (WD.step (jh k0 (by rw [ar.len];omega)) (WD.step (uV _ _ _ _) (WD.step (uQ hN q2.2.2.2.1 ((zx.sz _ hm2).2) _ _ _) (WD.ret ?_))));rw [GA ar2 r1 s0 (by have:=hk.len;omega) r2];simp
end Go.Kx
