import Derived.Test.YtlcgibcdiikheaaGreatLDrawP
import Derived.Test.YtlcgibcdiikheaaGreatLWorld
namespace Go.Kx
open Go
set_option linter.unusedVariables false
set_option linter.unusedSimpArgs false
set_option maxRecDepth 10000
structure Bq (b:iu):Prop where
  ok:sZ b=true
  sz:iR b≤1000
  pg:0≤b.i7.gE∧b.i7.gE≤1000
  rt:0≤b.i7.gV∧b.i7.gV≤1000
  cp:0≤b.i7.hY∧b.i7.hY≤1000
theorem Bq.Hq {l:List Int} {o:List Int} {b:iu} (h:Bq b) (hl:iU ⟨l⟩=true) (ho:kp o=true) (h5:o.length≤100):Bq ⟨⟨l⟩,o,b.i7⟩:=by
  have h4:=qM hl;have h4:l.length=4:=h4;refine ⟨?_,?_,h.pg,h.rt,h.cp⟩
  · have:=h.ok;unfold sZ at *;simp only [H3] at *;exact ⟨this.1,hl,ho⟩
  · unfold iR jJ;simp only [h4];omega
theorem jt {k:Int} (h0:0≤k) (h4:k<4):kp [k]=true:=by
  have:k=0∨k=1∨k=2∨k=3:=by omega
  rcases this with rfl | rfl | rfl | rfl<;>decide
theorem BG {l:List Int} (h:iU ⟨l⟩=true) {k:Nat} {y:Int} (h0:0≤y) (h3:y≤3):iU ⟨l.set k y⟩=true:=by
  unfold iU at *;simp only [H3,List.length_set,List.all_eq_true,iG] at *;refine ⟨h.1,fun z hz=>?_⟩
  rcases List.mem_or_eq_of_mem_set hz with q | rfl
  · exact h.2 z q
  · exact ⟨h0,h3⟩
theorem Da {l:List Int} (h:iU ⟨l⟩=true) {y:Int} (hy:y ∈ l):0≤y∧y≤3:=by
  unfold iU at h;simp only [H3,List.all_eq_true,iG] at h;exact h.2 y hy
theorem yU {N:Nat} (hN:gS≤N) {b:List U8} {i h:Int} (hb:b.length≤1048576) (hi:0≤i):WD (nb N ⟨b,i,h⟩) (fun r=>0≤r.2.i∧1≤r.1.length∧r.1.length≤3∧∀ x,x ∈ r.1→Bq x):=by
  unfold nb;dsimp only;have hB:(16777216:Nat)=gS:=rfl;refine WD.bind (jx hb hi 3 (by decide)) fun n ⟨n1,n2,n3⟩=>?_;rw [iC (n:=1+n.1) (by omega) (by omega)];refine WD.bind (WD.loop (fun s=>0≤s.2.1∧(s.1.length:Int)+s.2.1=1+n.1∧0≤s.2.2.1∧iU ⟨s.2.2.2.2⟩=true∧∀ x,x ∈ s.1→Bq x) (fun r=>1≤r.1.length∧r.1.length≤3∧0≤r.2.2.1∧∀ x,x ∈ r.1→Bq x) (fun s=>s.2.1.toNat) ⟨by dsimp only;omega,by simp,n1,show iU ⟨[0,0,0,0]⟩=true by decide,by simp⟩ (tx hN (by dsimp only;omega)) ?_) fun r ⟨r1,r2,r3,r4⟩=>WD.ret ⟨r3,r1,r2,r4⟩;rintro ⟨l,k,i,h,lab⟩ ⟨s1,s2,s3,s4,s5⟩;dsimp only at *;refine WD.ite (fun c=>?_) (fun c=>WD.inr ?_)
  · have c:=of_decide_eq_true c;rw [iC (n:=k - 1) (by omega) (by omega)];refine WD.bind (zY hN hb s3) fun q ⟨q1,q2,q3,q4,q5,q6⟩=>?_;have hq:Bq q.1:=⟨q2,Nat.le_trans q3 (by decide),q4,q5,q6⟩
    have hq2:iU ⟨q.1.HB.Hz⟩=true∧kp q.1.own=true:=by
      have:=q2;unfold sZ at this;simp only [H3] at this;exact this.2
    have hlab:lab.length=4:=qM s4;refine WD.bind (lO hb q1 3) fun y y1=>WD.bind (P:=fun (j:(List Int)×(List Int))=>iU ⟨j.2⟩=true) (WD.ite (fun _=>WD.step (jw (by omega)) (WD.ret s4)) fun _=>WD.ret hq2.1) fun j j1=>?_;have hj4:j.2.length=4:=qM j1;refine WD.bind (lO hb y1 2) fun z z1=>WD.bind (P:=fun (m:Int×Int×(List Int))=>0≤m.1∧iU ⟨m.2.2⟩=true) (WD.ite (fun _=>?_) fun _=>WD.ret ⟨z1,j1⟩) fun m ⟨m1,m2⟩=>?_
    · refine WD.bind (jx hb z1 4 (by decide)) fun u ⟨u1,u2,u3⟩=>WD.step (jw (by omega)) (WD.bind (mD u2 (by omega)) fun v hv=>WD.step rfl (WD.ret ⟨u1,?_⟩));have:=Da j1 hv;rw [iC (n:=v+1) (by omega) (by omega)];exact BG j1 (by split<;>omega) (by split<;>omega)
    · refine WD.bind (lO hb m1 6) fun u u1=>WD.bind (P:=fun (m:Int×Int×(List Int))=>0≤m.1∧kp m.2.2=true∧m.2.2.length≤100) (WD.ite (fun _=>WD.bind (jx hb u1 4 (by decide)) fun v ⟨v1,v2,v3⟩=>WD.ret ⟨v1,jt v2 v3,by simp⟩) fun _=>WD.ret ⟨u1,hq2.2,by unfold iR at q3;dsimp only;omega⟩) fun o ⟨o1,o2,o3⟩=>?_;refine WD.step (sR (by omega)) (WD.inl ⟨by dsimp only;omega,by simp only [List.length_append,List.length_cons,List.length_nil];omega,o1,m2,fun x hx=>?_⟩ (by dsimp only;omega))
      rcases List.mem_append.1 hx with hx | hx
      · exact s5 x hx
      · rw [List.mem_singleton] at hx;rw [hx];exact hq.Hq j1 o2 o3
  · have c:=of_decide_eq_false c;exact ⟨by dsimp only;omega,by dsimp only;omega,s3,s5⟩
structure Ww (w:g6):Prop where
  len:w.parts.length≤3
  pw:∀ p,p ∈ w.parts→Pw p
theorem Ww.set {w:g6} (h:Ww w) (k:Nat) {p:bh} (hp:Pw p) (n:Int):Ww ⟨n,w.parts.set k p⟩:=by
  refine ⟨by show (w.parts.set k p).length≤3;rw [List.length_set];exact h.len,fun q hq=>?_⟩
  rcases List.mem_or_eq_of_mem_set hq with q1 | rfl
  · exact h.pw q q1
  · exact hp
theorem Ww.sz {w:g6} (h:Ww w):iL ib w.parts≤60003:=by
  have:=pM (f:=ib) (c:=20000) fun y hy=>(h.pw y hy).1;have:=h.len;unfold iL;omega
theorem Ww.oF {w:g6} (h:Ww w):iL ib w.parts<gS:=by
  have:=h.sz;have:(16777216:Nat)=gS:=rfl;omega
theorem Ww.w {w:g6} (h:Ww w):wW w.parts:=fun p hp=>(h.pw p hp).2
theorem Pw.ag {p:bh} (h:Pw p):p.py.ag.length≤1000000:=by
  have h1:=h.1;unfold ib ks iL at h1;omega
end Go.Kx
namespace Go.Kx
open Go
set_option linter.unusedVariables false
set_option linter.unusedSimpArgs false
set_option maxRecDepth 10000
theorem WD.yes {α:Type} {o:Option Bool} {a b:Option α} {Q:α→Prop} (e:o=some true) (k:WD a Q):WD (o.bind fun y=>bif y then a else b) Q:=by rw [e];exact k
theorem WD.no {α:Type} {o:Option Bool} {a b:Option α} {Q:α→Prop} (e:o=some false) (k:WD b Q):WD (o.bind fun y=>bif y then a else b) Q:=by rw [e];exact k
theorem BA {w:g6} (hw:Wq w) (e:iq):(qG w e).1.parts.length=w.parts.length:=by
  unfold Kx.qG;cases e.HA==1
  case true =>
    show (tick w).parts.length=_
    unfold Kx.tick;split
    · have key:∀ (l:List bh) (k:Nat) (t:g6),(foldI (fun k t (_:bh)=>kD w.parts.length k t) k t l).parts.length=t.parts.length:=by
        intro l
        induction l with
        | nil=>intro k t;rfl
        | cons y l ih =>
          intro k t;unfold foldI;rw [ih]
          show ((iw t (k:Int)).parts.set k _).length=_
          rw [List.length_set];exact (tQ t _).2.1
      exact key _ _ _
    · rfl
  cases e.HA==2
  case true =>
    show (mN w e.HS e.jC e.call).1.parts.length=_
    rcases Ae hw e.HS e.jC e.call with q | ⟨q,z,_,_,e2⟩
    · rw [q]
    · rw [e2];exact List.length_set
  cases e.HA==3
  case false=>rfl
  show (rp w e).parts.length=_
  rcases Ak w e with q | ⟨_,_,_,q⟩
  · rw [q]
  · rw [q];exact List.length_set
theorem Be {N:Nat} (hN:gS≤N) {b:List U8} {i h:Int} (hb:b.length≤1048576) (hi:0≤i):WD (mB N ⟨b,i,h⟩) (fun r=>0≤r.2.i∧r.1.length≤4∧∀ x,x ∈ r.1→iR x≤2000):=by
  unfold mB;dsimp only;refine WD.bind (yU hN hb hi) fun l ⟨l1,l2,l3,l4⟩=>WD.bind (jx hb l1 16 (by decide)) fun k ⟨k1,_,_⟩=>?_;have l5:∀ x,x ∈ l.1→iR x≤1000:=fun x hx=>(l4 x hx).sz
  have l6:∀ (z:iu),iR z≤2000→∀ x,x ∈ l.1.set (0:Int).toNat z→iR x≤2000:=fun z hz x hx=>by
    rcases List.mem_or_eq_of_mem_set hx with q | rfl
    · exact Nat.le_trans (l5 x q) (by decide)
    · exact hz
  have l7:∀ (z:iu),(l.1.set (0:Int).toNat z).length≤4:=fun z=>by rw [List.length_set];omega
  refine WD.ite (fun _=>WD.ret ⟨k1,by simp,by simp⟩) fun _=>WD.ite (fun _=>?_) fun _=>WD.ite (fun _=>?_) fun _=>WD.ite (fun _=>?_) fun _=>WD.ite (fun _=>?_) fun _=>WD.ret ⟨k1,by dsimp only;omega,fun x hx=>Nat.le_trans (l5 x hx) (by decide)⟩
  · refine WD.bind (WD.loop (fun s=>0≤s.2.1∧s.1.length≤4∧∀ x,x ∈ s.1→iR x≤2000) (fun r=>0≤r.2.1∧r.1.length≤4∧∀ x,x ∈ r.1→iR x≤2000) (fun s=>4 - s.1.length) ⟨k1,by dsimp only;omega,fun x hx=>Nat.le_trans (l5 x hx) (by decide)⟩ (tx hN (by dsimp only;omega)) ?_) fun r hr=>WD.ret ⟨hr.1,hr.2.1,hr.2.2⟩;rintro ⟨s,i,h⟩ ⟨s1,s2,s3⟩;dsimp only at *;refine WD.ite (fun c=>?_) fun _=>WD.inr ⟨s1,s2,s3⟩;have c:=of_decide_eq_true c;refine WD.bind (zY hN hb s1) fun q ⟨q1,q2,q3,_⟩=>WD.step (sR (by omega)) (WD.inl ⟨q1,by simp only [List.length_append,List.length_cons,List.length_nil];omega,fun x hx=>?_⟩ (by simp only [List.length_append,List.length_cons,List.length_nil];omega))
    rcases List.mem_append.1 hx with q | q
    · exact s3 x q
    · rw [List.mem_singleton] at q;rw [q];exact Nat.le_trans q3 (by decide)
  · refine WD.bind (uD hN hb k1) fun u ⟨u1,u2⟩=>WD.bind (mD (by decide) (by omega)) fun z hz=>WD.ret ⟨u1,l7 _,l6 _ ?_⟩;have:=l5 z hz;unfold iR jJ at *;dsimp only at *;omega
  · refine WD.bind (B6 hb k1) fun u u1=>WD.bind (mD (by decide) (by omega)) fun z hz=>WD.step rfl (WD.ret ⟨u1,l7 _,l6 _ ?_⟩);have:=l5 z hz;unfold iR jJ at *;dsimp only at *;omega
  · refine WD.bind (Fb hN hb k1) fun u ⟨u1,u2⟩=>WD.bind (mD (by decide) (by omega)) fun z hz=>WD.ret ⟨u1,l7 _,l6 _ ?_⟩;have:=l5 z hz;unfold iR jJ at *;dsimp only at *;omega
theorem Dj {N:Nat} (hN:gS≤N) {b:List U8} {i h:Int} (hb:b.length≤1048576) (hi:0≤i) {w:g6} (hw:Wq w) (hA:∀ q,q ∈ w.parts→q.py.ag.length≤1000000) (hn:0<w.parts.length):WD (nM N ⟨b,i,h⟩ w) (fun r=>0≤r.2.i):=by
  unfold nM;dsimp only;refine WD.bind (jx hb hi _ (by omega)) fun p ⟨p1,p2,p3⟩=>WD.bind (jx hb p1 10 (by decide)) fun k ⟨k1,_,_⟩=>WD.ite (fun _=>WD.ret k1) fun _=>?_;refine WD.bind (P:=fun (j:Bool×Int×Int)=>0≤j.2.1) (WD.ite (fun _=>WD.bind (lO hb k1 2) fun y y1=>WD.ret y1) fun _=>WD.ret k1) fun j j1=>WD.ite (fun _=>WD.bind (jx hb j1 10 (by decide)) fun y ⟨y1,_,_⟩=>WD.ret y1) fun _=>?_;refine WD.bind (mD p2 p3) fun q hq=>WD.bind (Ed hN hb j1 (hA q hq) _) fun x x1=>WD.bind (jx hb x1 _ (by omega)) fun z ⟨z1,z2,z3⟩=>?_;refine WD.bind (P:=fun (j:Bool×Int×Int)=>0≤j.2.1) (WD.ite (fun _=>WD.bind (lO hb z1 2) fun y y1=>WD.ret y1) fun _=>WD.ret z1) fun j j1=>?_;refine WD.bind (P:=fun (j:Int×Int×Int)=>0≤j.1) (WD.ite (fun _=>WD.bind (mD z2 z3) fun u hu=>WD.bind (A6 hN hb j1 (hA u hu) _ _) fun v v1=>WD.ret v1) fun _=>WD.ret j1) fun j j1=>?_;refine WD.bind (P:=fun (j:Int×Int×Int)=>0≤j.1) (WD.ite (fun _=>WD.bind (mD z2 z3) fun u hu=>WD.bind (A6 hN hb j1 (hA u hu) _ _) fun v v1=>WD.ret v1) fun _=>WD.ret j1) fun j j1=>?_;refine WD.bind (lO hb j1 4) fun y y1=>WD.bind (P:=fun (j:Int×Int×Int)=>0≤j.2.1) (WD.ite (fun _=>WD.step (r7 hN (jG hw.oF hq) (hw.w q hq) _) (WD.ite (fun c=>?_) fun _=>WD.ret y1)) fun _=>WD.ret y1) fun j j1=>WD.ret j1;have c:=of_decide_eq_true c;exact WD.bind (jx hb y1 _ c) fun u ⟨u1,u2,u3⟩=>WD.bind (mD u2 u3) fun v _=>WD.ret u1
theorem Ba {N:Nat} (hN:gS≤N) {b:List U8} {i h:Int} (hb:b.length≤1048576) (hi:0≤i) {l:List iu} (hl:iL iR l≤1048576) {m:Int} (m0:0≤m) (m9:m≤80):WD (mF N ⟨b,i,h⟩ l m) (fun r=>0≤r.2.i∧r.1.length≤80):=by
  unfold mF;dsimp only;refine WD.step (AY hN hl) (WD.ite (fun _=>WD.ret ⟨hi,by simp⟩) fun c=>?_)
  have c:((nT l).parts.length:Int) ≠ 0:=by simpa using c
  have hok:lC l=true:=by
    cases q:lC l
    · exfalso
      unfold nT at c;rw [q] at c;exact c rfl
    · rfl
  rw [iC (n:=m+1) (by omega) (by omega)];refine WD.bind (jx hb hi _ (by omega)) fun k ⟨k1,k2,k3⟩=>?_;refine WD.bind (WD.loop (fun s=>0≤s.2.1∧(s.1.length:Int)+s.2.1=k.1∧0≤s.2.2.1∧(∃ r,Pl 200 s.1.length (g6.mk s.2.2.2.2.1 s.2.2.2.2.2,r))∧0<s.2.2.2.2.2.length) (fun r=>r.1.length≤80∧0≤r.2.2.1) (fun s=>s.2.1.toNat) ⟨k2,by simp,k1,⟨[],Hn hok⟩,by dsimp only;omega⟩ (tx hN (by dsimp only;omega)) ?_) fun r hr=>WD.ret ⟨hr.2,hr.1⟩;rintro ⟨s,n,i,h,now,ps⟩ ⟨s1,s2,s3,⟨r,s4⟩,s5⟩;dsimp only at *;refine WD.ite (fun c=>?_) fun c=>WD.inr ⟨by dsimp only;omega,s3⟩;have c:=of_decide_eq_true c;have ht:=s4.t (by omega)
  have hA:∀ q,q ∈ ps→q.py.ag.length≤1000000:=fun q hq=>by
    have h1:=(s4.sg.sz q hq).1;unfold ib ks iL at h1;omega
  refine WD.bind (Dj hN hb s3 ht.q hA s5) fun e e1=>WD.step (E9 hN ht e.1) (WD.step (sR (by omega)) ?_);rw [iC (n:=n - 1) (by omega) (by omega)];have pn:=s4.step (by decide) (by omega) e.1;refine WD.inl ⟨by dsimp only;omega,by simp only [List.length_append,List.length_cons,List.length_nil];omega,e1,⟨r++[(qG (g6.mk now ps) e.1).2],?_⟩,?_⟩ (by dsimp only;omega)
  · rw [show (s++[e.1]).length=s.length+1 from by simp];exact pn
  · show 0<(qG _ e.1).1.parts.length
    rw [BA ht.q];exact s5
theorem Fq {N:Nat} (hN:gS≤N) {b:List U8} {i h:Int} (hb:b.length≤1048576) (hi:0≤i) {m:Int} (m0:0≤m) (m9:m≤80):WD (pT N ⟨b,i,h⟩ m) (fun r=>0≤r.2.2.i∧iL iR r.1≤1048576∧r.2.1.length≤201):=by
  unfold pT;dsimp only;refine WD.bind (yU hN hb hi) fun l ⟨l1,l2,l3,l4⟩=>WD.bind (lO hb l1 20) fun y y1=>?_;refine WD.bind (P:=fun (j:(List iu)×Int×Int)=>0≤j.2.1∧iL iR j.1≤1048576) (WD.ite (fun _=>WD.bind (Be hN hb y1) fun z ⟨z1,z2,z3⟩=>WD.ret ⟨z1,?_⟩) fun _=>WD.ret ⟨y1,?_⟩) fun j ⟨j1,j2⟩=>?_
  · have:=pM (f:=iR) (c:=2000) z3;unfold iL;dsimp only at *;omega
  · have:=pM (f:=iR) (c:=1000) fun y hy=>(l4 y hy).sz;unfold iL;dsimp only at *;omega
  refine WD.bind (Ba hN hb j1 j2 m0 m9) fun e ⟨e1,e2⟩=>WD.bind (jx hb e1 20 (by decide)) fun k ⟨k1,_,_⟩=>WD.ite (fun _=>?_) fun _=>WD.ite (fun _=>?_) fun _=>WD.ret ⟨k1,j2,by dsimp only;omega⟩
  · refine WD.bind (uv hb k1 (by decide)) fun u ⟨u1,_⟩=>WD.step (a:=e.1++[iq.mk u.1 1 0 (il.mk 0 0 0 0 0 0),iq.mk 2 3 0 (il.mk 0 0 0 0 0 0),iq.mk 3 (-1) 0 (il.mk 0 0 0 0 0 0),iq.mk 3 0 10 (il.mk 0 0 0 0 0 0)]) ?_ (WD.ret ⟨u1,j2,by simp only [List.length_append,List.length_cons,List.length_nil];omega⟩);have:(16777216:Nat)=gS:=rfl;unfold app;rw [if_pos (by simp only [List.length_cons,List.length_nil];omega)]
  · refine WD.bind (WD.loop (fun s=>0≤s.2.1∧s.1.length≤201) (fun r=>0≤r.2.1∧r.1.length≤201) (fun s=>201 - s.1.length) ⟨k1,by dsimp only;omega⟩ (tx hN (by dsimp only;omega)) ?_) fun r hr=>WD.ret ⟨hr.1,j2,hr.2⟩;rintro ⟨s,i,h⟩ ⟨s1,s2⟩;dsimp only at *;refine WD.bind (jx hb s1 2 (by decide)) fun u ⟨u1,u2,u3⟩=>?_;rw [iC (n:=200+u.1) (by omega) (by omega)];refine WD.ite (fun c=>?_) fun _=>WD.inr ⟨u1,s2⟩;have c:=of_decide_eq_true c;exact WD.step (sR (by omega)) (WD.inl ⟨u1,by simp only [List.length_append,List.length_cons,List.length_nil];omega⟩ (by simp only [List.length_append,List.length_cons,List.length_nil];omega))
end Go.Kx
namespace Go.Kx
open Go
set_option linter.unusedVariables false
set_option linter.unusedSimpArgs false
set_option maxRecDepth 10000
def oD (bs:List iu) (es:List iq) (l:iO):List iq:=es.filter fun e=>seen bs e l
theorem Cp (bs:List iu) (es:List iq) (l:iO):(oD bs es l).length≤es.length:=List.length_filter_le _ _
theorem wI {N:Nat} (hN:gS≤N) {bs:List iu} {es:List iq} {l:iO} (hb:iL iR bs<gS) (he:es.length<gS) (hl:l.Hz.length<gS):nG N bs es l=some (oD bs es l):=by
  unfold nG oD;rw [pJ es (fun _ e=>seen bs e l) (fun _ y=>y) he hN,nZ]
  · rfl
  · intro k t y hy hk ht;simp only [iX hk,HY,iz,hy,HW,BL hN hb hl,i5 (Nat.lt_trans hk he),kr ht (Nat.lt_of_le_of_lt hk he)];cases seen bs y l<;>rfl
  · intro t;simp only [iW,HX]
end Go.Kx
namespace Go.Kx
open Go
set_option linter.unusedVariables false
set_option linter.unusedSimpArgs false
set_option maxRecDepth 10000
theorem zB {N:Nat} (hN:gS≤N) {b:List U8} {i h:Int} (hb:b.length≤1048576) (hi:0≤i) {l:List iu} (hl:iL iR l≤1048576):WD (nR N ⟨b,i,h⟩ l) (fun r=>r.1.Hz.length<gS):=by
  have hB:(16777216:Nat)=gS:=rfl;unfold nR;dsimp only;refine WD.bind (P:=fun (j:Bool×Int×Int)=>0≤j.2.1∧(j.1=true→0<l.length)) (WD.ite (fun c=>WD.bind (lO hb hi 4) fun y y1=>WD.ret ⟨y1,fun _=>by have:=of_decide_eq_true c;omega⟩) fun _=>WD.ret ⟨hi,fun q=>by cases q⟩) fun j ⟨j1,j2⟩=>WD.ite (fun c=>?_) fun _=>WD.bind (uD hN hb j1) fun u ⟨_,u2⟩=>WD.ret (by dsimp only;omega);refine WD.bind (jx hb j1 _ (by have:=j2 c;omega)) fun k ⟨k1,k2,k3⟩=>WD.bind (mD k2 k3) fun z hz=>WD.ret ?_;have:=jG (f:=iR) (show iL iR l<gS by omega) hz;unfold iR jJ at this;dsimp only;omega
theorem yZ {N:Nat} (hN:gS≤N) {l:List U8} (hl:l.length≤1048576):WD (mZ N l) (fun r=>iL iR r.1≤1048576∧r.2.1.length≤201∧r.2.2.Hz.length<gS):=by
  unfold mZ;refine WD.bind (Fj hN hl) fun c c1=>WD.bind (Fq hN hl c1 (by decide) (by decide)) fun r ⟨r1,r2,r3⟩=>WD.bind (zB hN hl r1 r2) fun y y1=>WD.ret ⟨r2,r3,y1⟩
theorem Gj {N:Nat} (hN:gS≤N):rA N 3=some ⟨[3,3,3,3]⟩:=by
  have hB:(16777216:Nat)=gS:=rfl;obtain ⟨k,rfl⟩:∃ k,N=k+5:=⟨N - 5,by omega⟩;unfold rA;rw [ke];rfl
theorem Cf {b:List iu} (ok:lC b=true) {e:iq} (h:e.HA=1∨(0≤e.HS∧e.HS<(b.length:Int))):seen b e ⟨[3,3,3,3]⟩=true:=by
  unfold seen
  rcases h with h | ⟨h0,h1⟩
  · rw [h];rfl
  have hr:ia e.HS 0 ((b.length:Int) - 1)=true:=iG.2 ⟨h0,by omega⟩;have hm:=(Af hr).2;unfold lC at ok;rw [H3] at ok;have hb:=tg b _ ok.1 _ hm;unfold sZ at hb;simp only [H3] at hb;have hl:=nj.1 hb.2.1
  have:vN ((b[e.HS.toNat]?).getD gT.zero).HB ⟨[3,3,3,3]⟩=true:=by
    unfold vN my;rw [hb.2.1,show kp []=true by decide,show iU ⟨[3,3,3,3]⟩=true by decide,H0,H0,H0,lz];intro i y hy;have hi:=iQ hy;have h3:=(hl.2 y (List.mem_of_getElem? hy)).2;have h4:=hl.1;rw [Nat.zero_add]
    have:i=0∨i=1∨i=2∨i=3:=by omega
    rcases this with rfl | rfl | rfl | rfl<;>simp<;>omega
  rw [hr,this];simp
theorem Bf {x:List U8} (hx:Fit.fit x):∃ N,nY N x=some true:=by
  obtain ⟨N,hN⟩:∃ N,gS≤N:=⟨gS,Nat.le_refl _⟩
  suffices h:WD (nY N x) (fun r=>r=true) by
    obtain ⟨_,e,rfl⟩:=h;exact ⟨N,e⟩
  unfold nY ud;refine WD.step rfl (WD.ite (fun _=>WD.ret rfl) fun c=>?_)
  have hl:x.length≤1048576:=by have:=of_decide_eq_false c;omega
  refine WD.bind (yZ hN hl) fun d ⟨d1,d2,d3⟩=>?_;obtain ⟨b,l,lb⟩:=d;dsimp only at *;have hB:(16777216:Nat)=gS:=rfl
  have hb:iL iR b<gS:=by omega
  have hlB:l.length<gS:=by omega
  refine WD.step (wI hN hb hlB d3) ?_;have hml:=Cp b l lb
  have ft:∀ (i:Nat) (e:iq),l[i]?=some e→(l.take (i+1)).filter (fun e=>seen b e lb)=(l.take i).filter (fun e=>seen b e lb)++(if seen b e lb then [e] else []):=fun i e hy=>by
    rw [List.take_add_one,hy,List.filter_append];simp only [Option.toList_some,List.filter_cons,List.filter_nil]
  have fm:∀ (i:Nat),oD b l lb=(l.take i).filter (fun e=>seen b e lb)++(l.drop i).filter (fun e=>seen b e lb):=fun i=>by
    rw [← List.filter_append,List.take_append_drop];rfl
  refine WD.bind (WD.loop (fun s=>∃ i:Nat,s.2=(i:Int)∧i≤l.length∧s.1=(((l.take i).filter (fun e=>seen b e lb)).length:Int)) (fun r=>∃ n,r=Sum.inl (((oD b l lb).length:Int),n)) (fun s=>((l.length:Int) - s.2).toNat) ⟨0,rfl,Nat.zero_le _,by simp⟩ (tx hN (by dsimp only;omega)) ?_) fun r hr=>?_
  · rintro ⟨k,i'⟩ ⟨i,h1,h2,h3⟩;dsimp only at *;subst h1;subst h3
    refine WD.ite (fun c=>?_) fun c=>WD.inr ⟨_,by
      have c:=of_decide_eq_false c
      have:i=l.length:=by omega
      subst this
      rw [List.take_length];rfl⟩
    have c:=of_decide_eq_true c;obtain ⟨e,hy⟩:∃ e,l[i]?=some e:=⟨l[i]'(by omega),List.getElem?_eq_getElem _⟩;have hle:((l.take i).filter (fun e=>seen b e lb)).length≤l.length:=Nat.le_trans (List.length_filter_le _ _) (by rw [List.length_take];omega);have f1:=ft i e hy;refine WD.step ((iz l i).trans hy) (WD.step (BL hN hb d3) ?_);rw [iC (n:=(i:Int)+1) (by omega) (by omega)];refine WD.ite (fun q=>?_) fun q=>?_
    · rw [q,if_pos rfl] at f1;have f2:=fm (i+1);rw [f1] at f2
      have f3:(oD b l lb)[((l.take i).filter (fun e=>seen b e lb)).length]?=some e:=by
        rw [f2,List.append_assoc,List.getElem?_append_right (Nat.le_refl _),Nat.sub_self];rfl
      have f4:=iQ f3;rw [iC (n:=(((l.take i).filter (fun e=>seen b e lb)).length:Int)+1) (by omega) (by omega)];refine WD.bind (P:=fun j=>j=false) (WD.ite (fun z=>by have:=of_decide_eq_true z;omega) fun _=>WD.step ((iz _ _).trans f3) (WD.ret (by simp))) fun j hj=>?_;subst hj;refine WD.inl ⟨i+1,by dsimp only;omega,by omega,?_⟩ (by dsimp only;omega);dsimp only;rw [f1];simp
    · rw [q] at f1;refine WD.inl ⟨i+1,by dsimp only;omega,by omega,?_⟩ (by dsimp only;omega);dsimp only;rw [f1];simp
  obtain ⟨n,rfl⟩:=hr;rw [Sum.elim_inl]
  have again:oD b (oD b l lb) lb=oD b l lb:=by unfold oD;rw [List.filter_filter];simp
  refine WD.step (wI hN hb (by omega) d3) (WD.step (Gj hN) (WD.step (wI hN hb hlB (by decide)) ?_))
  have tk:pX (oD b l lb)=pX l:=by
    unfold pX oD;rw [List.filter_filter];congr 1;refine List.filter_congr fun e _=>?_;unfold seen;cases e.HA==1<;>rfl
  refine WD.bind (P:=fun j=>j=false) ?_ fun j hj=>?_
  · rw [again];refine WD.ite (fun q=>by simp at q) fun _=>WD.ite (fun q=>by simp at q) fun _=>?_;refine WD.step (ur hN (by omega)) (WD.step (ur hN hlB) ?_);rw [tk];exact WD.ite (fun q=>by simp at q) fun _=>WD.step (Ez hN hlB) (WD.step (ur hN hlB) (WD.ret (by simp)))
  subst hj;rw [HX];refine WD.step (yt hN hb) ?_;refine WD.bind (WD.loop (fun s=>∃ i:Nat,s.2=(i:Int)∧i≤l.length∧(s.1=true→lC b=true∧∀ e,e ∈ l.take i→e.HA=1∨(0≤e.HS∧e.HS<(b.length:Int)))) (fun r=>r.1=true→lC b=true∧∀ e,e ∈ l→e.HA=1∨(0≤e.HS∧e.HS<(b.length:Int))) (fun s=>((l.length:Int) - s.2).toNat) ⟨0,rfl,Nat.zero_le _,fun q=>⟨q,by simp⟩⟩ (tx hN (by dsimp only;omega)) ?_) fun r hr=>?_
  · rintro ⟨o,i'⟩ ⟨i,h1,h2,h3⟩;dsimp only at *;subst h1
    refine WD.ite (fun c=>?_) fun c=>WD.inr fun q=>by
      have c:=of_decide_eq_false c
      have:i=l.length:=by omega
      subst this;rw [List.take_length] at h3;exact h3 q
    have c:=of_decide_eq_true c;obtain ⟨e,hy⟩:∃ e,l[i]?=some e:=⟨l[i]'(by omega),List.getElem?_eq_getElem _⟩;rw [iC (n:=(i:Int)+1) (by omega) (by omega)]
    have nx:∀ z:Bool,(z=true→o=true∧(e.HA=1∨(0≤e.HS∧e.HS<(b.length:Int))))→WD (some (.inl (z,(i:Int)+1)):Option ((Bool×Int)⊕(Bool×Int))) (DO (fun (s:Bool×Int)=>∃ i:Nat,s.2=(i:Int)∧i≤l.length∧(s.1=true→lC b=true∧∀ e,e ∈ l.take i→e.HA=1∨(0≤e.HS∧e.HS<(b.length:Int)))) (fun r=>r.1=true→lC b=true∧∀ e,e ∈ l→e.HA=1∨(0≤e.HS∧e.HS<(b.length:Int))) (fun s=>((l.length:Int) - s.2).toNat) ((l.length:Int) - (i:Int)).toNat):=fun z hz=>by
      refine WD.inl ⟨i+1,by dsimp only;omega,by omega,fun q=>?_⟩ (by dsimp only;omega);obtain ⟨a1,a2⟩:=hz q;obtain ⟨b1,b2⟩:=h3 a1;refine ⟨b1,fun u hu=>?_⟩;rw [List.take_add_one,hy,List.mem_append] at hu
      rcases hu with hu | hu
      · exact b2 u hu
      · simp at hu;rw [hu];exact a2
    refine WD.ite (fun oc=>WD.step ((iz l i).trans hy) (WD.ite (fun k1=>nx true fun _=>⟨oc,.inl (by simpa using k1)⟩) fun _=>WD.ite (fun p0=>nx _ fun q=>⟨oc,.inr ⟨of_decide_eq_true p0,of_decide_eq_true q⟩⟩) fun _=>nx false fun q=>by cases q)) fun _=>nx false fun q=>by cases q
  · refine WD.ite (fun _=>WD.ret rfl) fun q=>WD.ret ?_;obtain ⟨ok,he⟩:=hr (by simpa using q);have:oD b l ⟨[3,3,3,3]⟩=l:=List.filter_eq_self.2 fun e h=>Cf ok (he e h);rw [this];simp
end Go.Kx
