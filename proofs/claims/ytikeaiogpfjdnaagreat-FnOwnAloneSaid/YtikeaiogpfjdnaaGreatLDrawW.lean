/- Plain laws: drawn worlds come to an end, and are small. No program in sight. -/
import Derived.Test.YtikeaiogpfjdnaaGreatLDrawP
import Derived.Test.YtikeaiogpfjdnaaGreatLReach
namespace Go.Kx
open Go
set_option linter.unusedVariables false
set_option linter.unusedSimpArgs false
set_option maxRecDepth 10000
structure Bq (b:jY):Prop where
  ok:yP b=true
  sz:kI b≤1000
  pg:0≤b.jT.cd∧b.jT.cd≤1000
  rt:0≤b.jT.ij∧b.jT.ij≤1000
  cp:0≤b.jT.iD∧b.jT.iD≤1000
theorem Bq.IE {l:List Int} {o:List Int} {b:jY} (h:Bq b) (hl:jG ⟨l⟩=true) (ho:lE o=true) (h5:o.length≤100):Bq ⟨⟨l⟩,o,b.jT⟩:=by
  have h4:=rT hl
  have h4:l.length=4:=h4
  refine ⟨?_,?_,h.pg,h.rt,h.cp⟩
  · have:=h.ok
    unfold yP at *
    simp only [Bool.and_eq_true] at *
    exact ⟨this.1,hl,ho⟩
  · unfold kI lA
    simp only [h4]
    omega
theorem kr {k:Int} (h0:0≤k) (h4:k<4):lE [k]=true:=by
  have:k=0∨k=1∨k=2∨k=3:=by omega
  rcases this with rfl | rfl | rfl | rfl <;> decide
theorem Dm {l:List Int} (h:jG ⟨l⟩=true) {k:Nat} {y:Int} (h0:0≤y) (h3:y≤3):jG ⟨l.set k y⟩=true:=by
  unfold jG at *
  simp only [Bool.and_eq_true,List.length_set,List.all_eq_true,jv] at *
  refine ⟨h.1,fun z hz=>?_⟩
  rcases List.mem_or_eq_of_mem_set hz with q | rfl
  · exact h.2 z q
  · exact ⟨h0,h3⟩
theorem EF {l:List Int} (h:jG ⟨l⟩=true) {y:Int} (hy:y ∈ l):0≤y∧y≤3:=by
  unfold jG at h
  simp only [Bool.and_eq_true,List.all_eq_true,jv] at h
  exact h.2 y hy
theorem E3 {N:Nat} (hN:im≤N) {b:List U8} {i h:Int} (hb:b.length≤1048576) (hi:0≤i):WD (qY N ⟨b,i,h⟩) (fun r=>0≤r.2.i∧1≤r.1.length∧r.1.length≤3∧∀ x,x ∈ r.1→Bq x):=by
  unfold qY
  dsimp only
  have hB:(16777216:Nat)=im:=rfl
  refine WD.bind (iP hb hi 3 (by decide)) fun n ⟨n1,n2,n3⟩=>?_
  rw [iX (n:=1+n.1) (by omega) (by omega)]
  refine WD.bind (WD.loop (fun s=>0≤s.2.1∧(s.1.length:Int)+s.2.1=1+n.1∧0≤s.2.2.1∧jG ⟨s.2.2.2.2⟩=true∧∀ x,x ∈ s.1→Bq x) (fun r=>1≤r.1.length∧r.1.length≤3∧0≤r.2.2.1∧∀ x,x ∈ r.1→Bq x) (fun s=>s.2.1.toNat) ⟨by dsimp only;omega,by simp,n1,show jG ⟨[0,0,0,0]⟩=true by decide,by simp⟩ (qp hN (by dsimp only;omega)) ?_) fun r ⟨r1,r2,r3,r4⟩=>WD.ret ⟨r3,r1,r2,r4⟩
  rintro ⟨l,k,i,h,lab⟩ ⟨s1,s2,s3,s4,s5⟩
  dsimp only at *
  refine WD.ite (fun c=>?_) (fun c=>WD.inr ?_)
  · have c:=of_decide_eq_true c
    rw [iX (n:=k - 1) (by omega) (by omega)]
    refine WD.bind (B5 hN hb s3) fun q ⟨q1,q2,q3,q4,q5,q6⟩=>?_
    have hq:Bq q.1:=⟨q2,Nat.le_trans q3 (by decide),q4,q5,q6⟩
    have hq2:jG ⟨q.1.label.levels⟩=true∧lE q.1.own=true:=by
      have:=q2
      unfold yP at this
      simp only [Bool.and_eq_true] at this
      exact this.2
    have hlab:lab.length=4:=rT s4
    refine WD.bind (kS hb q1 3) fun y y1=>WD.bind (P:=fun (j:(List Int)×(List Int))=>jG ⟨j.2⟩=true) (WD.ite (fun _=>WD.step (j9 (by omega)) (WD.ret s4)) fun _=>WD.ret hq2.1) fun j j1=>?_
    have hj4:j.2.length=4:=rT j1
    refine WD.bind (kS hb y1 2) fun z z1=>WD.bind (P:=fun (m:Int×Int×(List Int))=>0≤m.1∧jG ⟨m.2.2⟩=true) (WD.ite (fun _=>?_) fun _=>WD.ret ⟨z1,j1⟩) fun m ⟨m1,m2⟩=>?_
    · refine WD.bind (iP hb z1 4 (by decide)) fun u ⟨u1,u2,u3⟩=>WD.step (j9 (by omega)) (WD.bind (kg u2 (by omega)) fun v hv=>WD.step rfl (WD.ret ⟨u1,?_⟩))
      have:=EF j1 hv
      rw [iX (n:=v+1) (by omega) (by omega)]
      exact Dm j1 (by split <;> omega) (by split <;> omega)
    · refine WD.bind (kS hb m1 6) fun u u1=>WD.bind (P:=fun (m:Int×Int×(List Int))=>0≤m.1∧lE m.2.2=true∧m.2.2.length≤100) (WD.ite (fun _=>WD.bind (iP hb u1 4 (by decide)) fun v ⟨v1,v2,v3⟩=>WD.ret ⟨v1,kr v2 v3,by simp⟩) fun _=>WD.ret ⟨u1,hq2.2,by unfold kI at q3;dsimp only;omega⟩) fun o ⟨o1,o2,o3⟩=>?_
      refine WD.step (sv (by omega)) (WD.inl ⟨by dsimp only;omega,by simp only [List.length_append,List.length_cons,List.length_nil];omega,o1,m2,fun x hx=>?_⟩ (by dsimp only;omega))
      rcases List.mem_append.1 hx with hx | hx
      · exact s5 x hx
      · rw [List.mem_singleton] at hx
        rw [hx]
        exact hq.IE j1 o2 o3
  · have c:=of_decide_eq_false c
    exact ⟨by dsimp only;omega,by dsimp only;omega,s3,s5⟩
theorem Ag:∀ (l:List jY) (a:iB) (n:Nat),(∀ x,x ∈ l→Bq x)→l.length≤n→n≤3→(0≤a.cd∧a.cd≤1000 * (3 - (n:Int)))→(0≤a.ij∧a.ij≤1000 * (3 - (n:Int)))→(0≤a.iD∧a.iD≤1000 * (3 - (n:Int)))→sC a l=true
  | [],_,_,_,_,_,_,_,_=>rfl
  | b::l,a,n,h,hl,hn,h1,h2,h3=>by
    have hb:=h b (by simp)
    have g1:=hb.pg
    have g2:=hb.rt
    have g3:=hb.cp
    simp only [List.length_cons] at hl
    have hadd:kz a b.jT=(⟨a.cd+b.jT.cd,a.ij+b.jT.ij,a.iD+b.jT.iD⟩,true):=by
      have e1:iZ a b.jT=⟨a.cd+b.jT.cd,a.ij+b.jT.ij,a.iD+b.jT.iD⟩:=by
        unfold iZ
        rw [iX (by omega) (by omega),iX (by omega) (by omega),iX (by omega) (by omega)]
      have o1:je a=true:=kL.2 ⟨by omega,by omega,by omega⟩
      have o2:je b.jT=true:=kL.2 ⟨by omega,by omega,by omega⟩
      have o3:je ⟨a.cd+b.jT.cd,a.ij+b.jT.ij,a.iD+b.jT.iD⟩=true:=kL.2 ⟨by dsimp only;omega,by dsimp only;omega,by dsimp only;omega⟩
      unfold kz
      simp [o1,o2,e1,o3]
    have hok:=hb.ok
    unfold yP at hok
    simp only [Bool.and_eq_true] at hok
    unfold sC
    rw [hadd]
    simp only [Bool.true_and,Bool.and_eq_true]
    refine ⟨hok.2.1,hok.2.2,Ag l _ (n - 1) (fun x hx=>h x (by simp [hx])) (by omega) (by omega) ?_ ?_ ?_⟩ <;> dsimp only <;> omega
theorem GI {b:jY} (h:kI b≤1000):Pw (sN b):=by
  refine ⟨by rw [vo];omega,fun o ho=>?_⟩
  have:∀ o ∈ Ap, -9223372036854775808≤o.wait:=by decide
  exact this o ho
structure Ww (w:jw):Prop where
  len:w.parts.length≤3
  pw:∀ p,p ∈ w.parts→Pw p
theorem Ww.set {w:jw} (h:Ww w) (k:Nat) {p:gE} (hp:Pw p) (n:Int):Ww ⟨n,w.parts.set k p⟩:=by
  refine ⟨by show (w.parts.set k p).length≤3;rw [List.length_set];exact h.len,fun q hq=>?_⟩
  rcases List.mem_or_eq_of_mem_set hq with q1 | rfl
  · exact h.pw q q1
  · exact hp
theorem Ww.sz {w:jw} (h:Ww w):jl jh w.parts≤60003:=by
  have:=tD (f:=jh) (c:=20000) fun y hy=>(h.pw y hy).1
  have:=h.len
  unfold jl
  omega
theorem Ww.E9 {w:jw} (h:Ww w):jl jh w.parts<im:=by
  have:=h.sz
  have:(16777216:Nat)=im:=rfl
  omega
theorem Ww.w {w:jw} (h:Ww w):wW w.parts:=fun p hp=>(h.pw p hp).2
theorem Pw.ag {p:gE} (h:Pw p):p.heap.ag.length≤1000000:=by
  have h1:=h.1
  unfold jh ox jl at h1
  omega
theorem EU {N:Nat} (hN:im≤N) {b:List U8} {i h:Int} (hb:b.length≤1048576) (hi:0≤i):WD (pO N ⟨b,i,h⟩) (fun r=>0≤r.2.i∧Ww r.1∧1≤r.1.parts.length):=by
  unfold pO
  dsimp only
  have hB:(16777216:Nat)=im:=rfl
  refine WD.bind (E3 hN hb hi) fun l ⟨l1,l2,l3,l4⟩=>?_
  have hs:jl kI l.1≤1048576:=by
    have:=tD (f:=kI) (c:=1000) fun y hy=>(l4 y hy).sz
    unfold jl
    omega
  have hok:uN l.1=true:=by
    unfold uN
    rw [Ag l.1 ⟨0,0,0⟩ 3 l4 l3 (by decide) (by decide) (by decide) (by decide),Bool.true_and,jv]
    omega
  refine WD.step (CO hN hs) ?_
  rw [show vk l.1=⟨0,mV l.1⟩ from by unfold vk;rw [if_pos hok]]
  have hw:Ww ⟨0,mV l.1⟩∧(mV l.1).length=l.1.length:=by
    have e:(mV l.1).length=l.1.length:=by simp [mV]
    refine ⟨⟨by show (mV l.1).length≤3;omega,fun p hp=>?_⟩,e⟩
    obtain ⟨x,hx,rfl⟩:=List.mem_map.1 (show p ∈ l.1.map _ from hp)
    have hq:=l4 x hx
    rw [show (oR x).1=sN x from by unfold oR;rw [if_pos hq.ok]]
    exact GI hq.sz
  obtain ⟨hw,he⟩:=hw
  dsimp only
  refine WD.bind (WD.loop (fun s=>Ww ⟨0,s.1⟩∧1≤s.1.length∧0≤s.2.1∧s.2.1≤3∧0≤s.2.2.1) (fun r=>Ww ⟨0,r.1⟩∧1≤r.1.length∧0≤r.2.2.1) (fun s=>(3 - s.2.1).toNat) ⟨hw,by dsimp only;omega,by simp,by simp,l1⟩ (qp hN (by simp)) ?_) fun r ⟨r1,r2,r3⟩=>WD.bind (iP hb r3 6 (by decide)) fun y ⟨y1,_,_⟩=>WD.ret ⟨y1,⟨r1.len,r1.pw⟩,r2⟩
  rintro ⟨l,k,i,h⟩ ⟨s1,s2,s3,s4,s5⟩
  dsimp only at *
  have hl3:l.length≤3:=s1.len
  refine WD.ite (fun c=>?_) (fun c=>WD.inr ⟨s1,s2,s5⟩)
  have c:=of_decide_eq_true c
  rw [iX (n:=k+1) (by omega) (by omega)]
  refine WD.bind (kS hb s5 2) fun y y1=>WD.ite (fun _=>?_) fun _=>WD.inl ⟨s1,s2,by dsimp only;omega,by dsimp only;omega,y1⟩ (by dsimp only;omega)
  exact WD.bind (FX hN hb y1 k) fun p ⟨p1,p2⟩=>WD.bind (kg s3 c) fun z _=>WD.step rfl (WD.inl ⟨s1.set _ (p2.pw (by decide)) 0,by simp only [List.length_set];exact s2,by dsimp only;omega,by dsimp only;omega,p1⟩ (by dsimp only;omega))
theorem Br {N:Nat} (hN:im≤N) {b:List U8} {i h:Int} (hb:b.length≤1048576) (hi:0≤i):WD (sn N ⟨b,i,h⟩) (fun r=>0≤r.2.i∧Ww r.1):=by
  unfold sn
  dsimp only
  refine WD.bind (EU hN hb hi) fun w ⟨w1,w2,w3⟩=>WD.bind (iP hb w1 16 (by decide)) fun m ⟨m1,_,_⟩=>?_
  refine WD.bind (P:=fun (j:Int×Int×Int×(List gE))=>0≤j.1∧Ww ⟨j.2.2.1,j.2.2.2⟩) ?_ fun j ⟨j1,j2⟩=>WD.ret ⟨j1,j2⟩
  refine WD.ite (fun _=>WD.bind (CX hN hb m1) fun p ⟨p1,p2⟩=>WD.bind (kg (by decide) (by omega)) fun z _=>WD.step rfl (WD.ret ⟨p1,w2.set _ p2.pw _⟩)) fun _=>?_
  refine WD.ite (fun _=>WD.bind (kG hb m1 (by decide)) fun y ⟨y1,_⟩=>WD.ret ⟨y1,w2.len,w2.pw⟩) fun _=>?_
  refine WD.ite (fun _=>WD.ret ⟨m1,by simp,by simp⟩) fun _=>?_
  refine WD.ite (fun _=>WD.bind (kg (by decide) (by omega)) fun z hz=>WD.step rfl (WD.ret ⟨m1,w2.set (0:Int).toNat (p:=gE.mk z.label z.own z.tree z.heap z.ic z.next z.want (iB.mk z.dW.cd 1000000 z.dW.iD) z.iz z.lost) (w2.pw z hz) _⟩)) fun _=>WD.ret ⟨m1,w2⟩
theorem xq {N:Nat} (hN:im≤N) {l:List U8} (hl:l.length≤1048576):WD (mr N l) (fun r=>Ww r.1):=by
  unfold mr
  refine WD.bind (Hi hN hl) fun c c1=>WD.bind (Br hN hl c1) fun w ⟨w1,w2⟩=>WD.ite (fun _=>WD.ret w2) fun c=>?_
  have hn:0<w.1.parts.length:=by
    have:(w.1.parts.length:Int) ≠ 0:=by simpa using c
    omega
  refine WD.bind (iP hl w1 _ (by omega)) fun p ⟨p1,p2,p3⟩=>WD.bind (kg p2 p3) fun q hq=>WD.bind (Ci hN hl p1 (w2.pw q hq).ag _) fun x x1=>WD.bind (iP hl x1 _ (by omega)) fun k ⟨k1,k2,k3⟩=>WD.bind (kS hl k1 2) fun y y1=>?_
  refine WD.bind (P:=fun (j:Int×Int×Int×Int×Int×Int×Int×Int)=>0≤j.1) (WD.ite (fun _=>?_) fun _=>WD.ret y1) fun j j1=>?_
  · refine WD.bind (kG hl y1 (by decide)) fun z ⟨z1,_⟩=>WD.bind (kg k2 k3) fun u hu=>WD.bind (Df hN hl z1 (w2.pw u hu).ag _ _) fun v v1=>?_
    refine WD.bind (P:=fun (j:Int×Int×Int×Int)=>0≤j.1) (WD.ite (fun _=>WD.bind (Df hN hl v1 (w2.pw u hu).ag _ _) fun m m1=>WD.bind (iP hl m1 20 (by decide)) fun n ⟨n1,_,_⟩=>WD.ret n1) fun _=>WD.ret v1) fun j j1=>?_
    exact WD.ite (fun _=>WD.bind (iP hl j1 2 (by decide)) fun a ⟨a1,_,_⟩=>WD.bind (iP hl a1 3 (by decide)) fun b ⟨b1,_,_⟩=>WD.bind (iP hl b1 3 (by decide)) fun c ⟨c1,_,_⟩=>WD.bind (iP hl c1 2 (by decide)) fun d ⟨d1,_,_⟩=>WD.bind (iP hl d1 20 (by decide)) fun e ⟨e1,_,_⟩=>WD.ret e1) fun _=>WD.ret j1
  · exact WD.bind (kS hl j1 15) fun y y1=>WD.bind (P:=fun _=>True) (WD.ite (fun _=>WD.bind (kG hl y1 (by decide)) fun z _=>WD.ret trivial) fun _=>WD.ret trivial) fun m _=>WD.ret w2
end Go.Kx
/- The plain law of 'FnOwnAlone'. No program in sight. -/
namespace Go.Kx
open Go
set_option linter.unusedVariables false
set_option linter.unusedSimpArgs false
set_option maxRecDepth 10000
structure lF (w:List gE) (p k:Int) (l:List gE):Prop where
  len:l.length=w.length
  read:k=7→l=w
  own:k ≠ 17→∀ i,0≤i→i ≠ p→nth l i=nth w i
theorem lF.self (w:List gE) (p k:Int):lF w p k w:=⟨rfl,fun _=>rfl,fun _ _ _ _=>rfl⟩
theorem Gv {l:List gE} {p i:Int} {z:gE} (h0:0≤p) (hi:0≤i) (h:i ≠ p):nth (l.set p.toNat z) i=nth l i:=by
  unfold nth
  rw [List.getElem?_set_ne (by omega)]
theorem lF.at {w:List gE} {p k:Int} (h0:0≤p) (hk:k ≠ 7) (z:gE):lF w p k (w.set p.toNat z):=⟨List.length_set,fun h=>absurd h hk,fun _ i hi hne=>Gv h0 hi hne⟩
theorem xe {w:jw} (h:sE w=true) {p:gE} (hp:p ∈ w.parts):kh p=true:=by
  unfold sE at h
  simp only [Bool.and_eq_true,List.all_eq_true] at h
  exact h.2.2.1 p hp
theorem vh {N:Nat} (hN:im≤N) {w:jw} (hw:Ww w) {a b c:Int} (ha:lz w a=true) (hb:lz w b=true) (hc:lz w c=true):WD (nI N w a b c) (fun _=>True):=by
  unfold lz at *
  rw [jv] at *
  have hB:(16777216:Nat)=im:=rfl
  have small:∀ p ∈ w.parts,p.label.levels.length<im∧p.own.length<im:=fun p hp=>by
    have h1:=(hw.pw p hp).1
    have:=ny (p:=p) (by omega)
    exact ⟨this.1,this.2.1⟩
  unfold nI
  refine WD.bind (kg ha.1 (by omega)) fun x hx=>WD.bind (kg hb.1 (by omega)) fun y hy=>WD.bind (kg hc.1 (by omega)) fun z hz=>WD.step (Db hN (small x hx).2 (small y hy).1 (small z hz).1) (WD.ret trivial)
theorem zL {N:Nat} (hN:im+1≤N) {w:jw} (hw:Ww w) (p th:Int) (c:iS):WD (oE N w p th c) (fun r=>lF w.parts p c.kind r.1.parts):=by
  have hN':im≤N:=Nat.le_of_succ_le hN
  have hB:(16777216:Nat)=im:=rfl
  have hb:=hw.E9
  have hl:=hw.len
  unfold oE
  refine WD.step (BT hN' hb) (WD.bind (P:=fun j=>j=!(sE w&&lz w p)) ?_ fun j hj=>WD.ite (fun _=>WD.ret (lF.self _ _ _)) fun c1=>?_)
  · refine WD.step (Dy hN' hb) ?_
    cases sE w
    · exact WD.ret rfl
    · exact WD.step (zl (by omega) p) (WD.ret rfl)
  rw [hj] at c1
  have c1:sE w=true∧lz w p=true:=by simpa using c1
  obtain ⟨ok,hp⟩:=c1
  have hpp:=hp
  unfold lz at hpp
  rw [jv] at hpp
  have hm:nth w.parts p ∈ w.parts:=m7 hpp.1 (by omega)
  have hpw:=hw.pw _ hm
  have hsz:jh (nth w.parts p)<im:=by have:=hpw.1;omega
  refine WD.step (jj hpp.1 (by omega)) (WD.step (yW hN' hsz _ _) (WD.ite (fun _=>WD.ret (lF.self _ _ _)) fun _=>WD.step (BP (by omega) p c) (WD.ite (fun _=>WD.ret (lF.self _ _ _)) fun c3=>?_)))
  have ho:=Ea c3
  generalize other w p c=q at *
  have hqq:=ho
  unfold lz at hqq
  rw [jv] at hqq
  have hqm:nth w.parts q ∈ w.parts:=m7 hqq.1 (by omega)
  have hqw:=hw.pw _ hqm
  have hqsz:jh (nth w.parts q)<im:=by have:=hqw.1;omega
  refine WD.bind (P:=fun s=>Sum.elim (fun j=>lF w.parts p c.kind j.2.2.2) (fun r=>lF w.parts p c.kind r.1.parts) s) ?_ fun s hs=>?_
  · refine WD.ite (fun k7=>?_) fun k7=>WD.ite (fun k17=>?_) fun k17=>WD.ite (fun k16=>?_) fun k16=>?_
    · refine WD.bind (P:=fun _=>True) ?_ fun r _=>WD.ret (lF.self _ _ _)
      unfold rh
      refine WD.bind (vh hN' hw hp ho hp) fun y _=>WD.ite (fun _=>WD.ret trivial) fun _=>?_
      exact WD.step (jj hqq.1 (by omega)) (WD.step (uZ hN' hqsz) (WD.step (D2 hN' ⟨xe ok hqm,Nat.le_trans hqw.1 (by decide),hqw.2⟩ _ _ _ _) (WD.ret trivial)))
    · have hk:c.kind=17:=by simpa using k17
      have any:∀ z,lF w.parts p c.kind (w.parts.set q.toNat z):=fun z=>⟨List.length_set,fun h=>absurd (hk.symm.trans h) (by decide),fun h=>absurd hk h⟩
      refine WD.bind (P:=fun (r:Int×jw)=>lF w.parts p c.kind r.2.parts) ?_ fun r hr=>WD.ret hr
      unfold qh
      refine WD.step (mj _ _ _ _) (WD.ite (fun _=>WD.ret (lF.self _ _ _)) fun _=>WD.bind (vh hN' hw hp hp ho) fun y _=>WD.ite (fun _=>WD.ret (lF.self _ _ _)) fun _=>?_)
      have hab:jl iA (nth w.parts q).heap.ag<im:=(ny hqsz).2.2.2.1
      have ar:=nB (xe ok hqm)
      refine WD.step (jj hqq.1 (by omega)) (WD.step (vf hN' hab _ _ _) ?_)
      have hg:=wz (l:=(nth w.parts q).heap.ag) (now:=w.now) (me:=q) (h:=c.a) ar.len
      generalize iE (nth w.parts q).heap.ag w.now q c.a=g at *
      refine WD.bind (P:=fun j=>j=true→0≤g∧(nth (nth w.parts q).heap.ag g).queue.length<2) ?_ fun j hj=>WD.ite (fun cj=>?_) fun _=>WD.step rfl (WD.ret (any _))
      · refine WD.ite (fun g0=>?_) fun _=>WD.ret (by simp)
        have g0:=of_decide_eq_true g0
        refine WD.step (jj g0 (hg g0)) (WD.ite (fun _=>WD.ret fun q=>⟨g0,by have:=of_decide_eq_true q;omega⟩) fun _=>WD.ret (by simp))
      · obtain ⟨g0,g2⟩:=hj cj
        exact WD.step (jj g0 (hg g0)) (WD.step (sv (by omega)) (WD.ret (any _)))
    · have hk:c.kind ≠ 7:=by simpa using k7
      refine WD.bind (P:=fun (r:Int×Int×jw)=>lF w.parts p c.kind r.2.2.parts) ?_ fun r hr=>WD.ret hr
      unfold rf
      have hT:=qb.1 (wM (xe ok hm))
      refine WD.step (jj hpp.1 (by omega)) (WD.bind (P:=fun _=>True) (WD.ite (fun _=>WD.ret trivial) fun _=>WD.step (Cg _ _) (WD.ret trivial)) fun j _=>WD.ite (fun _=>WD.ret (lF.self _ _ _)) fun _=>WD.bind (vh hN' hw hp hp ho) fun y _=>WD.ite (fun _=>WD.ret (lF.self _ _ _)) fun _=>WD.step (rk _ hT.len _) (WD.ite (fun _=>WD.ret (lF.self _ _ _)) fun _=>WD.ite (fun _=>WD.ret (lF.self _ _ _)) fun ct=>?_))
      have ct:=of_decide_eq_false ct
      refine WD.step (sv (by omega)) (WD.bind (kg hpp.1 (by rw [List.length_set];omega)) fun z _=>WD.ret (lF.at hpp.1 hk _))
    · have hk:c.kind ≠ 7:=by simpa using k7
      refine WD.bind (P:=fun _=>True) (WD.step (Di hN (Nat.le_trans hpw.1 (by decide)) hpw.2 _ _ _ _) (WD.ret trivial)) fun j _=>WD.step (jj hpp.1 (by omega)) (WD.step rfl (WD.ret (lF.at hpp.1 hk _)))
  · cases s with
    | inl j =>
      simp only [Sum.elim_inl] at *
      exact WD.ite (fun _=>WD.ret hs) fun _=>WD.ret hs
    | inr r =>
      simp only [Sum.elim_inr] at *
      exact WD.ret hs
theorem Bd {x:List U8} (hx:Fit.fit x):∃ N,n7 N x=some true:=by
  obtain ⟨N,hN1⟩:∃ N,im+1≤N:=⟨im+1,Nat.le_refl _⟩
  have hN:im≤N:=Nat.le_of_succ_le hN1
  suffices h:WD (n7 N x) (fun r=>r=true) by
    obtain ⟨_,e,rfl⟩:=h
    exact ⟨N,e⟩
  unfold n7 wD
  refine WD.step rfl (WD.ite (fun _=>WD.ret rfl) fun c=>?_)
  have hl:x.length≤1048576:=by have:=of_decide_eq_false c;omega
  refine WD.bind (xq hN hl) fun d hd=>?_
  obtain ⟨w,p,th,c⟩:=d
  dsimp only at *
  have hB:(16777216:Nat)=im:=rfl
  have hlen:=hd.len
  refine WD.bind (zL hN1 hd p th c) fun r hr=>?_
  rw [hr.len]
  simp only [bne_self_eq_false,cond_false]
  refine WD.bind (WD.loop (fun s=>0≤s∧s≤(w.parts.length:Int)) (fun r=>∃ s,r=.inl s) (fun s=>((w.parts.length:Int) - s).toNat) ⟨Int.le_refl _,by omega⟩ (by omega) ?_) fun o ⟨s,ho⟩=>?_
  · intro s ⟨s1,s2⟩
    refine WD.ite (fun c=>?_) fun _=>WD.inr ⟨_,rfl⟩
    have c:=of_decide_eq_true c
    have hsz:jh (nth w.parts s)<im:=by have:=(hd.pw _ (m7 s1 c)).1;omega
    have hrl:=hr.len
    rw [iX (n:=s+1) (by omega) (by omega)]
    refine WD.bind (P:=fun j=>j=false) ?_ fun j hj=>?_
    · refine WD.ite (fun c1=>WD.ite (fun c2=>?_) fun _=>WD.ret rfl) fun _=>WD.ret rfl
      have e:=hr.own (by simpa using c2) s s1 (by simpa using c1)
      refine WD.step (jj s1 (by omega)) (WD.step (jj s1 c) ?_)
      rw [e]
      refine WD.step (yl hN hsz) (WD.ret ?_)
      rw [decide_eq_true rfl];rfl
    · rw [hj]
      refine WD.bind (P:=fun j=>j=false) ?_ fun j hj=>?_
      · refine WD.ite (fun c1=>?_) fun _=>WD.ret rfl
        have e:=hr.read (by simpa using c1)
        rw [e]
        refine WD.step (jj s1 c) (WD.step (jj s1 c) (WD.step (yl hN hsz) (WD.ret ?_)))
        rw [decide_eq_true rfl];rfl
      · rw [hj]
        exact WD.inl ⟨by omega,by omega⟩ (by omega)
  · rw [ho]
    exact WD.ret rfl
end Go.Kx
