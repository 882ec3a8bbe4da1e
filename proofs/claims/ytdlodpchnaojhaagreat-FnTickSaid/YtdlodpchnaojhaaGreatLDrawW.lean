/- Plain laws: drawn worlds come to an end, and are small. No program in sight. -/
import Derived.Test.YtdlodpchnaojhaaGreatLDrawP
import Derived.Test.YtdlodpchnaojhaaGreatLReach
import Derived.Test.YtdlodpchnaojhaaGreatLGcOk
import Derived.Test.YtdlodpchnaojhaaGreatLKeep
namespace Go.Kx
open Go
set_option linter.unusedVariables false
set_option linter.unusedSimpArgs false
set_option maxRecDepth 10000
structure Bq (b:km):Prop where
  ok:Be b=true
  sz:lp b≤1000
  pg:0≤b.j9.bh∧b.j9.bh≤1000
  rt:0≤b.j9.ib∧b.j9.ib≤1000
  cp:0≤b.j9.ik∧b.j9.ik≤1000
theorem Bq.L0 {l:List Int} {o:List Int} {b:km} (h:Bq b) (hl:kc ⟨l⟩=true) (ho:mX o=true) (h5:o.length≤100):Bq ⟨⟨l⟩,o,b.j9⟩:=by
  have h4:=sQ hl
  have h4:l.length=4:=h4
  refine ⟨?_,?_,h.pg,h.rt,h.cp⟩
  · have:=h.ok
    unfold Be at *
    simp only [Bool.and_eq_true] at *
    exact ⟨this.1,hl,ho⟩
  · unfold lp my
    simp only [h4]
    omega
theorem kH {k:Int} (h0:0≤k) (h4:k<4):mX [k]=true:=by
  have:k=0∨k=1∨k=2∨k=3:=by omega
  rcases this with rfl | rfl | rfl | rfl <;> decide
theorem Hh {l:List Int} (h:kc ⟨l⟩=true) {k:Nat} {y:Int} (h0:0≤y) (h3:y≤3):kc ⟨l.set k y⟩=true:=by
  unfold kc at *
  simp only [Bool.and_eq_true,List.length_set,List.all_eq_true,i7] at *
  refine ⟨h.1,fun z hz=>?_⟩
  rcases List.mem_or_eq_of_mem_set hz with q | rfl
  · exact h.2 z q
  · exact ⟨h0,h3⟩
theorem Hp {l:List Int} (h:kc ⟨l⟩=true) {y:Int} (hy:y ∈ l):0≤y∧y≤3:=by
  unfold kc at h
  simp only [Bool.and_eq_true,List.all_eq_true,i7] at h
  exact h.2 y hy
theorem H0 {N:Nat} (hN:im≤N) {b:List U8} {i h:Int} (hb:b.length≤1048576) (hi:0≤i):WD (rA N ⟨b,i,h⟩) (fun r=>0≤r.2.i∧1≤r.1.length∧r.1.length≤3∧∀ x,x ∈ r.1→Bq x):=by
  unfold rA
  dsimp only
  have hB:(16777216:Nat)=im:=rfl
  refine WD.bind (iX hb hi 3 (by decide)) fun n ⟨n1,n2,n3⟩=>?_
  rw [iI (n:=1+n.1) (by omega) (by omega)]
  refine WD.bind (WD.loop (fun s=>0≤s.2.1∧(s.1.length:Int)+s.2.1=1+n.1∧0≤s.2.2.1∧kc ⟨s.2.2.2.2⟩=true∧∀ x,x ∈ s.1→Bq x) (fun r=>1≤r.1.length∧r.1.length≤3∧0≤r.2.2.1∧∀ x,x ∈ r.1→Bq x) (fun s=>s.2.1.toNat) ⟨by dsimp only;omega,by simp,n1,show kc ⟨[0,0,0,0]⟩=true by decide,by simp⟩ (rn hN (by dsimp only;omega)) ?_) fun r ⟨r1,r2,r3,r4⟩=>WD.ret ⟨r3,r1,r2,r4⟩
  rintro ⟨l,k,i,h,lab⟩ ⟨s1,s2,s3,s4,s5⟩
  dsimp only at *
  refine WD.ite (fun c=>?_) (fun c=>WD.inr ?_)
  · have c:=of_decide_eq_true c
    rw [iI (n:=k - 1) (by omega) (by omega)]
    refine WD.bind (Em hN hb s3) fun q ⟨q1,q2,q3,q4,q5,q6⟩=>?_
    have hq:Bq q.1:=⟨q2,Nat.le_trans q3 (by decide),q4,q5,q6⟩
    have hq2:kc ⟨q.1.label.levels⟩=true∧mX q.1.own=true:=by
      have:=q2
      unfold Be at this
      simp only [Bool.and_eq_true] at this
      exact this.2
    have hlab:lab.length=4:=sQ s4
    refine WD.bind (mx hb q1 3) fun y y1=>WD.bind (P:=fun (j:(List Int)×(List Int))=>kc ⟨j.2⟩=true) (WD.ite (fun _=>WD.step (kA (by omega)) (WD.ret s4)) fun _=>WD.ret hq2.1) fun j j1=>?_
    have hj4:j.2.length=4:=sQ j1
    refine WD.bind (mx hb y1 2) fun z z1=>WD.bind (P:=fun (m:Int×Int×(List Int))=>0≤m.1∧kc ⟨m.2.2⟩=true) (WD.ite (fun _=>?_) fun _=>WD.ret ⟨z1,j1⟩) fun m ⟨m1,m2⟩=>?_
    · refine WD.bind (iX hb z1 4 (by decide)) fun u ⟨u1,u2,u3⟩=>WD.step (kA (by omega)) (WD.bind (lq u2 (by omega)) fun v hv=>WD.step rfl (WD.ret ⟨u1,?_⟩))
      have:=Hp j1 hv
      rw [iI (n:=v+1) (by omega) (by omega)]
      exact Hh j1 (by split <;> omega) (by split <;> omega)
    · refine WD.bind (mx hb m1 6) fun u u1=>WD.bind (P:=fun (m:Int×Int×(List Int))=>0≤m.1∧mX m.2.2=true∧m.2.2.length≤100) (WD.ite (fun _=>WD.bind (iX hb u1 4 (by decide)) fun v ⟨v1,v2,v3⟩=>WD.ret ⟨v1,kH v2 v3,by simp⟩) fun _=>WD.ret ⟨u1,hq2.2,by unfold lp at q3;dsimp only;omega⟩) fun o ⟨o1,o2,o3⟩=>?_
      refine WD.step (uv (by omega)) (WD.inl ⟨by dsimp only;omega,by simp only [List.length_append,List.length_cons,List.length_nil];omega,o1,m2,fun x hx=>?_⟩ (by dsimp only;omega))
      rcases List.mem_append.1 hx with hx | hx
      · exact s5 x hx
      · rw [List.mem_singleton] at hx
        rw [hx]
        exact hq.L0 j1 o2 o3
  · have c:=of_decide_eq_false c
    exact ⟨by dsimp only;omega,by dsimp only;omega,s3,s5⟩
theorem CY:∀ (l:List km) (a:ig) (n:Nat),(∀ x,x ∈ l→Bq x)→l.length≤n→n≤3→(0≤a.bh∧a.bh≤1000 * (3 - (n:Int)))→(0≤a.ib∧a.ib≤1000 * (3 - (n:Int)))→(0≤a.ik∧a.ik≤1000 * (3 - (n:Int)))→tI a l=true
  | [],_,_,_,_,_,_,_,_=>rfl
  | b::l,a,n,h,hl,hn,h1,h2,h3=>by
    have hb:=h b (by simp)
    have g1:=hb.pg
    have g2:=hb.rt
    have g3:=hb.cp
    simp only [List.length_cons] at hl
    have hadd:lH a b.j9=(⟨a.bh+b.j9.bh,a.ib+b.j9.ib,a.ik+b.j9.ik⟩,true):=by
      have e1:iV a b.j9=⟨a.bh+b.j9.bh,a.ib+b.j9.ib,a.ik+b.j9.ik⟩:=by
        unfold iV
        rw [iI (by omega) (by omega),iI (by omega) (by omega),iI (by omega) (by omega)]
      have o1:iY a=true:=jk.2 ⟨by omega,by omega,by omega⟩
      have o2:iY b.j9=true:=jk.2 ⟨by omega,by omega,by omega⟩
      have o3:iY ⟨a.bh+b.j9.bh,a.ib+b.j9.ib,a.ik+b.j9.ik⟩=true:=jk.2 ⟨by dsimp only;omega,by dsimp only;omega,by dsimp only;omega⟩
      unfold lH
      simp [o1,o2,e1,o3]
    have hok:=hb.ok
    unfold Be at hok
    simp only [Bool.and_eq_true] at hok
    unfold tI
    rw [hadd]
    simp only [Bool.true_and,Bool.and_eq_true]
    refine ⟨hok.2.1,hok.2.2,CY l _ (n - 1) (fun x hx=>h x (by simp [hx])) (by omega) (by omega) ?_ ?_ ?_⟩ <;> dsimp only <;> omega
theorem JK {b:km} (h:lp b≤1000):Pw (tE b):=by
  refine ⟨by rw [wq];omega,fun o ho=>?_⟩
  have:∀ o ∈ BO, -9223372036854775808≤o.wait:=by decide
  exact this o ho
structure Ww (w:iN):Prop where
  len:w.parts.length≤3
  pw:∀ p,p ∈ w.parts→Pw p
theorem Ww.set {w:iN} (h:Ww w) (k:Nat) {p:dW} (hp:Pw p) (n:Int):Ww ⟨n,w.parts.set k p⟩:=by
  refine ⟨by show (w.parts.set k p).length≤3;rw [List.length_set];exact h.len,fun q hq=>?_⟩
  rcases List.mem_or_eq_of_mem_set hq with q1 | rfl
  · exact h.pw q q1
  · exact hp
theorem Ww.sz {w:iN} (h:Ww w):jo iG w.parts≤60003:=by
  have:=tJ (f:=iG) (c:=20000) fun y hy=>(h.pw y hy).1
  have:=h.len
  unfold jo
  omega
theorem Ww.z7 {w:iN} (h:Ww w):jo iG w.parts<im:=by
  have:=h.sz
  have:(16777216:Nat)=im:=rfl
  omega
theorem Ww.w {w:iN} (h:Ww w):wW w.parts:=fun p hp=>(h.pw p hp).2
theorem Pw.ag {p:dW} (h:Pw p):p.heap.ag.length≤1000000:=by
  have h1:=h.1
  unfold iG mr jo at h1
  omega
theorem HO {N:Nat} (hN:im≤N) {b:List U8} {i h:Int} (hb:b.length≤1048576) (hi:0≤i):WD (qp N ⟨b,i,h⟩) (fun r=>0≤r.2.i∧Ww r.1∧1≤r.1.parts.length):=by
  unfold qp
  dsimp only
  have hB:(16777216:Nat)=im:=rfl
  refine WD.bind (H0 hN hb hi) fun l ⟨l1,l2,l3,l4⟩=>?_
  have hs:jo lp l.1≤1048576:=by
    have:=tJ (f:=lp) (c:=1000) fun y hy=>(l4 y hy).sz
    unfold jo
    omega
  have hok:vU l.1=true:=by
    unfold vU
    rw [CY l.1 ⟨0,0,0⟩ 3 l4 l3 (by decide) (by decide) (by decide) (by decide),Bool.true_and,i7]
    omega
  refine WD.step (EP hN hs) ?_
  rw [show wy l.1=⟨0,nA l.1⟩ from by unfold wy;rw [if_pos hok]]
  have hw:Ww ⟨0,nA l.1⟩∧(nA l.1).length=l.1.length:=by
    have e:(nA l.1).length=l.1.length:=by simp [nA]
    refine ⟨⟨by show (nA l.1).length≤3;omega,fun p hp=>?_⟩,e⟩
    obtain ⟨x,hx,rfl⟩:=List.mem_map.1 (show p ∈ l.1.map _ from hp)
    have hq:=l4 x hx
    rw [show (pn x).1=tE x from by unfold pn;rw [if_pos hq.ok]]
    exact JK hq.sz
  obtain ⟨hw,he⟩:=hw
  dsimp only
  refine WD.bind (WD.loop (fun s=>Ww ⟨0,s.1⟩∧1≤s.1.length∧0≤s.2.1∧s.2.1≤3∧0≤s.2.2.1) (fun r=>Ww ⟨0,r.1⟩∧1≤r.1.length∧0≤r.2.2.1) (fun s=>(3 - s.2.1).toNat) ⟨hw,by dsimp only;omega,by simp,by simp,l1⟩ (rn hN (by simp)) ?_) fun r ⟨r1,r2,r3⟩=>WD.bind (iX hb r3 6 (by decide)) fun y ⟨y1,_,_⟩=>WD.ret ⟨y1,⟨r1.len,r1.pw⟩,r2⟩
  rintro ⟨l,k,i,h⟩ ⟨s1,s2,s3,s4,s5⟩
  dsimp only at *
  have hl3:l.length≤3:=s1.len
  refine WD.ite (fun c=>?_) (fun c=>WD.inr ⟨s1,s2,s5⟩)
  have c:=of_decide_eq_true c
  rw [iI (n:=k+1) (by omega) (by omega)]
  refine WD.bind (mx hb s5 2) fun y y1=>WD.ite (fun _=>?_) fun _=>WD.inl ⟨s1,s2,by dsimp only;omega,by dsimp only;omega,y1⟩ (by dsimp only;omega)
  exact WD.bind (I2 hN hb y1 k) fun p ⟨p1,p2⟩=>WD.bind (lq s3 c) fun z _=>WD.step rfl (WD.inl ⟨s1.set _ (p2.pw (by decide)) 0,by simp only [List.length_set];exact s2,by dsimp only;omega,by dsimp only;omega,p1⟩ (by dsimp only;omega))
theorem DJ {N:Nat} (hN:im≤N) {b:List U8} {i h:Int} (hb:b.length≤1048576) (hi:0≤i):WD (tj N ⟨b,i,h⟩) (fun r=>0≤r.2.i∧Ww r.1):=by
  unfold tj
  dsimp only
  refine WD.bind (HO hN hb hi) fun w ⟨w1,w2,w3⟩=>WD.bind (iX hb w1 16 (by decide)) fun m ⟨m1,_,_⟩=>?_
  refine WD.bind (P:=fun (j:Int×Int×Int×(List dW))=>0≤j.1∧Ww ⟨j.2.2.1,j.2.2.2⟩) ?_ fun j ⟨j1,j2⟩=>WD.ret ⟨j1,j2⟩
  refine WD.ite (fun _=>WD.bind (Fh hN hb m1) fun p ⟨p1,p2⟩=>WD.bind (lq (by decide) (by omega)) fun z _=>WD.step rfl (WD.ret ⟨p1,w2.set _ p2.pw _⟩)) fun _=>?_
  refine WD.ite (fun _=>WD.bind (lP hb m1 (by decide)) fun y ⟨y1,_⟩=>WD.ret ⟨y1,w2.len,w2.pw⟩) fun _=>?_
  refine WD.ite (fun _=>WD.ret ⟨m1,by simp,by simp⟩) fun _=>?_
  refine WD.ite (fun _=>WD.bind (lq (by decide) (by omega)) fun z hz=>WD.step rfl (WD.ret ⟨m1,w2.set (0:Int).toNat (p:=dW.mk z.label z.own z.tree z.heap z.ij z.next z.want (ig.mk z.gE.bh 1000000 z.gE.ik) z.iH z.lost) (w2.pw z hz) _⟩)) fun _=>WD.ret ⟨m1,w2⟩
theorem Dz {N:Nat} (hN:im≤N) {l:List U8} (hl:l.length≤1048576):WD (qe N l) (fun r=>Ww r):=by
  unfold qe
  exact WD.bind (JN hN hl) fun c c1=>WD.bind (DJ hN hl c1) fun w ⟨_,w2⟩=>WD.ret w2
end Go.Kx
/- The plain law of 'FnTick'. No program in sight. -/
namespace Go.Kx
open Go
set_option linter.unusedVariables false
set_option linter.unusedSimpArgs false
set_option maxRecDepth 10000
theorem IH {p q:dW} (hp:iS p=true) (hq:iS q=true) (h:kF q=kF p):sp q=sp p:=by
  rw [← (xZ hp).1, ← (xZ hq).1,h]
theorem FX {o:cd} (h:jt o=true) (hk:(o.kind==0)=false) {t:Int} (h0:0≤t) (h1:t≤1000000):jt (CJ o t)=true :=
  wS h hk rfl rfl (oN h (Ep hk)).1 rfl (i7.2 ⟨h0,h1⟩) rfl (show np o=true from vD h hk) rfl rfl rfl
theorem Gc {p:dW} (h:iS p=true) (now:Int):iS (kD p now)=true∧sp (kD p now)=sp p:=by
  unfold kD
  split
  · rename_i c
    simp only [Bool.and_eq_true,i7] at c
    have ar:=jS h
    have key:Ar (pV p now)∧mD (pV p now)=mD p.heap.ag:=by
      unfold pV
      cases v:decide (o8 p now ≥ 0)
      · exact ⟨ar,rfl⟩
      · simp only [if_true]
        have hv:=wu v
        obtain ⟨v0,v9⟩:=sw hv
        have hk:=(BR hv).1
        have hk0:((nth p.heap.ag (o8 p now)).kind==0)=false:=by rw [hk];rfl
        refine ⟨ar.swap v0 v9 rfl rfl rfl (fun e=>?_) (FX (ar.ok _ (ar.at v0 v9).2) hk0 ?_ ?_),?_⟩
        · rw [e,ar.tO] at hk;exact absurd hk (by decide)
        · rw [iI (by omega) (by omega)];omega
        · rw [iI (by omega) (by omega)];omega
        · rw [uP v0 (by have:=ar.len;omega)]
          show _ - _+(nth p.heap.ag (o8 p now)).bh=_
          omega
    refine ⟨?_,?_⟩
    · have hA:=kf.2 key.1
      unfold iS ku uX at *
      simp only [Bool.and_eq_true] at h ⊢
      obtain ⟨a,b,c,⟨_,d⟩,e,f,g1,g2,g3,g4,g5⟩:=h
      exact ⟨a,b,c,⟨hA,d⟩,e,f,g1,g2,g3,by decide,g5⟩
    · unfold sp
      dsimp only
      rw [key.2]
  · exact ⟨h,rfl⟩
theorem Ga {p:dW} (h:iS p=true) (me now:Int):iS (lf p me now)=true∧sp (lf p me now)=sp p:=by
  unfold lf
  split
  · exact ⟨Iw h me now,IH h (Iw h me now) (KD h me now)⟩
  · exact ⟨h,rfl⟩
theorem H7 {p:dW} (h:iS p=true) (now:Int):iS (lC p now).1=true∧sp (lC p now).1=sp p∧(lC p now).1.want=0:=by
  cases hr:pO p now
  · rw [GK h hr]
    exact ⟨z4 h hr,IH h (z4 h hr) (Ea h hr),rfl⟩
  · have e:lC p now=(dW.mk p.label p.own p.tree p.heap p.ij p.next 0 p.gE p.iH p.lost, -1):=by
      unfold lC
      rw [if_pos h,hr]
      rfl
    rw [e]
    refine ⟨?_,rfl,rfl⟩
    unfold iS uX at *
    simp only [Bool.and_eq_true] at h ⊢
    obtain ⟨a,b,c,d,e,f,g1,g2,g3⟩:=h
    exact ⟨a,b,c,d,e,f,g1,show iE 0 0 10=true by decide,g3⟩
structure nC (p q:dW):Prop where
  label:q.label=p.label
  own:q.own=p.own
  lost:q.lost=p.lost
theorem nC.refl (p:dW):nC p p:=⟨rfl,rfl,rfl⟩
theorem nC.trans {p q r:dW} (h:nC p q) (k:nC q r):nC p r:=⟨k.label.trans h.label,k.own.trans h.own,k.lost.trans h.lost⟩
theorem Ky (p:dW) (now:Int):nC p (kD p now):=by unfold kD;split <;> exact ⟨rfl,rfl,rfl⟩
theorem JS (p:dW) (me now:Int):nC p (lf p me now):=by unfold lf;split <;> exact ⟨rfl,rfl,rfl⟩
theorem Gl (p:dW) (now n:Int):nC p (kO p now n).1:=by unfold kO;split <;> exact ⟨rfl,rfl,rfl⟩
theorem K7 (p:dW) (now:Int):nC p (lC p now).1:=by
  unfold lC
  split
  · split <;> exact ⟨rfl,rfl,rfl⟩
  · exact ⟨rfl,rfl,rfl⟩
theorem Bp {n:Nat} {p:dW} (h:iS p=true) (hw:wP p) (hs:(sp p).bh≤1000000) (i now:Int):iS (l5 n p i now)=true∧sp (l5 n p i now)=sp p∧nC p (l5 n p i now)∧(Int.tmod now (n:Int)=i→(l5 n p i now).want=0):=by
  obtain ⟨k1,k2⟩:=Gc h now
  obtain ⟨w1,w2⟩:=Ga k1 i now
  have e:sp (lf (kD p now) i now)=sp p:=w2.trans k2
  obtain ⟨c1,c2⟩:=BY w1 (CC (CB hw now) i now) (by rw [e];exact hs) now 3
  have kk:nC p (oG p i now):=((Ky p now).trans (JS _ i now)).trans (Gl _ now 3)
  have m1:iS (oG p i now)=true:=c1
  have m2:sp (oG p i now)=sp p:=c2.trans e
  unfold l5
  cases hc:Int.tmod now (n:Int)==i
  · exact ⟨m1,m2,kk,fun q=>by rw [q] at hc;simp at hc⟩
  · obtain ⟨r1,r2,r3⟩:=H7 m1 now
    exact ⟨r1,r2.trans m2,kk.trans (K7 _ now),fun _=>r3⟩
def m4 (f:ig→Int):List (List ir)→Int
  | []=>0
  | t::l=>jG f t+m4 f l
theorem yL (f:ig→Int):∀ (l:List (List ir)) (k:Nat) (y z:List ir),l[k]?=some y→m4 f (l.set k z)=m4 f l - jG f y+jG f z
  | [],k,y,z,h=>by simp at h
  | x::l,0,y,z,h=>by
    simp at h;subst h
    show jG f z+m4 f l=(jG f x+m4 f l) - jG f x+jG f z
    omega
  | x::l,k+1,y,z,h=>by
    show jG f x+m4 f (l.set k z)=jG f x+m4 f l - jG f y+jG f z
    rw [yL f l k y z (by simpa using h)];omega
theorem J8 {ts:List iZ} {p:Int} (h0:0≤p) (h1:p<(ts.length:Int)):(jL ts)[p.toNat]?=some (nth ts p).list:=by
  unfold jL
  rw [List.getElem?_map,ky h0 h1];rfl
theorem J1 {ts:List iZ} (k:Nat) (t:List ir):jL (ts.set k (iZ.mk t))=(jL ts).set k t:=by
  unfold jL
  rw [List.map_set]
theorem HC {ts:List iZ} {i j:Int} {z:iZ} (h0:0≤i) (h1:i<(ts.length:Int)) (hj:0≤j):nth (ts.set i.toNat z) j=if i=j then z else nth ts j:=by
  unfold nth
  by_cases e:i=j
  · subst e
    rw [if_pos rfl,List.getElem?_set_self (by omega)]
    rfl
  · rw [if_neg e,List.getElem?_set_ne (by omega)]
structure Tk (ts us:List iZ):Prop where
  ok:l8 us=true
  pg:m4 ig.bh (jL us)=m4 ig.bh (jL ts)
  rt:m4 ig.ib (jL us)=m4 ig.ib (jL ts)
  cp:m4 ig.ik (jL us)=m4 ig.ik (jL ts)
theorem Gs {ts:List iZ} (h:l8 ts=true) (p:Int) (t:jw):Tk ts (mw ts p t).1:=by
  unfold mw
  split
  · rename_i c
    rw [Bool.and_eq_true] at c
    obtain ⟨c1,c2⟩:=c
    obtain ⟨_,_,⟨p0,p1⟩,⟨q0,q1⟩,_⟩:=uI c1
    obtain ⟨k1,k2,k3⟩:=yN (Gn c1)
    have e1:=k3 ig.bh fun _ _=>rfl
    have e2:=k3 ig.ib fun _ _=>rfl
    have e3:=k3 ig.ik fun _ _=>rfl
    unfold nq at c2
    have hpl:=wg ts p t
    have hpt:k4 ts p t=ts.set p.toNat (iZ.mk (jq (nth ts p).list t.res (lu t.kp (tG ts p t))).1):=rfl
    have hq:j8 (nth (k4 ts p t) t.jJ).list=true:=by
      rw [hpt,HC p0 p1 q0]
      split
      · exact ko.2 k1
      · exact Ac h q0 q1
    have hT:=ko.1 hq
    obtain ⟨t1,t2,t3⟩:=hT.jG
    have hS:=jk.1 hT.sum
    rw [t1,t2,t3] at hS
    have ha:=jk.1 k2
    have hts:jU (nth (k4 ts p t) t.jJ).list=⟨jG ig.bh (nth (k4 ts p t) t.jJ).list,jG ig.ib (nth (k4 ts p t) t.jJ).list,jG ig.ik (nth (k4 ts p t) t.jJ).list⟩:=by
      unfold jU
      rw [if_pos hq, ← t1, ← t2, ← t3]
    have hfit:jG ig.bh (nth (k4 ts p t) t.jJ).list+(lu t.kp (tG ts p t)).bh≤1000000∧jG ig.ib (nth (k4 ts p t) t.jJ).list+(lu t.kp (tG ts p t)).ib≤1000000∧jG ig.ik (nth (k4 ts p t) t.jJ).list+(lu t.kp (tG ts p t)).ik≤1000000:=by
      unfold lJ at c2
      rw [hq,k2,hts] at c2
      simp only [Bool.true_and] at c2
      split at c2
      · rename_i ok
        have:=jk.1 ok
        unfold iV at this
        dsimp only at this
        rw [iI (by omega) (by omega),iI (by omega) (by omega),iI (by omega) (by omega)] at this
        omega
      · cases c2
    obtain ⟨_,b1,b2,b3,b4⟩:=A7 hT t.mf k2 hfit.1 hfit.2.1 hfit.2.2
    have hne:t.jJ<((k4 ts p t).length:Int):=by rw [hpl];exact q1
    have tt:∀ f:ig→Int,m4 f (jL ((k4 ts p t).set t.jJ.toNat (iZ.mk (nq ts p t).1)))=m4 f (jL ts) - jG f (nth ts p).list+jG f (jq (nth ts p).list t.res (lu t.kp (tG ts p t))).1 - jG f (nth (k4 ts p t) t.jJ).list+jG f (nq ts p t).1:=fun f=>by
      rw [J1,yL f _ _ _ _ (J8 q0 hne),hpt,J1,yL f _ _ _ _ (J8 p0 p1)]
    refine ⟨?_,?_,?_,?_⟩
    · unfold l8 at h ⊢
      rw [List.all_eq_true] at h ⊢
      intro y hy
      rcases List.mem_or_eq_of_mem_set hy with q | rfl
      · rcases List.mem_or_eq_of_mem_set (show y ∈ ts.set _ _ from q) with q | rfl
        · exact h y q
        · exact ko.2 k1
      · exact ko.2 b1
    · dsimp only
      rw [tt,show jG ig.bh (nq ts p t).1=_ from b2];omega
    · dsimp only
      rw [tt,show jG ig.ib (nq ts p t).1=_ from b3];omega
    · dsimp only
      rw [tt,show jG ig.ik (nq ts p t).1=_ from b4];omega
  · exact ⟨h,rfl,rfl,rfl⟩
theorem yw (p:Int):∀ (ij:List jw) (ts:List iZ),l8 ts=true→Tk ts (rS ts p ij)
  | [],ts,h=>⟨h,rfl,rfl,rfl⟩
  | t::ij,ts,h=>by
    have a:=Gs h p t
    have b:=yw p ij _ a.ok
    exact ⟨b.ok,b.pg.trans a.pg,b.rt.trans a.rt,b.cp.trans a.cp⟩
def lG:List dW→ig
  | []=>⟨0,0,0⟩
  | p::l=>⟨(sp p).bh+(lG l).bh,(sp p).ib+(lG l).ib,(sp p).ik+(lG l).ik⟩
theorem CH:∀ (l:List dW) (s:ig) (n:Nat),(∀ p,p ∈ l→iS p=true)→l.length≤n→n≤3→uz s (3000000 * (3 - (n:Int))) →
    n8 s l=⟨s.bh+(lG l).bh,s.ib+(lG l).ib,s.ik+(lG l).ik⟩∧(0≤(lG l).bh∧0≤(lG l).ib∧0≤(lG l).ik)
  | [],s,n,_,_,_,_=>by
    refine ⟨?_,by decide⟩
    show s=_
    unfold lG
    simp only [Int.add_zero]
  | p::l,s,n,h,hl,hn,hs=>by
    obtain ⟨e,⟨r1,r2,r3⟩,_⟩:=xZ (h p (by simp))
    simp only [List.length_cons] at hl
    unfold uz at hs
    have e2:iV s (kF p)=⟨s.bh+(sp p).bh,s.ib+(sp p).ib,s.ik+(sp p).ik⟩:=by
      rw [e]
      unfold iV
      rw [iI (by omega) (by omega),iI (by omega) (by omega),iI (by omega) (by omega)]
    have hb:uz ⟨s.bh+(sp p).bh,s.ib+(sp p).ib,s.ik+(sp p).ik⟩ (3000000 * (3 - ((n - 1:Nat):Int))):=by
      unfold uz
      dsimp only
      omega
    obtain ⟨a,b⟩:=CH l _ (n - 1) (fun q hq=>h q (by simp [hq])) (by omega) (by omega) hb
    have e3:n8 s (p::l)=n8 (iV s (kF p)) l:=rfl
    rw [e3,e2,a]
    have e4:lG (p::l)=⟨(sp p).bh+(lG l).bh,(sp p).ib+(lG l).ib,(sp p).ik+(lG l).ik⟩:=rfl
    rw [e4]
    dsimp only
    refine ⟨by rw [Int.add_assoc,Int.add_assoc,Int.add_assoc],by omega,by omega,by omega⟩
structure Wk (w:iN):Prop where
  now:0≤w.now∧w.now≤1000000
  len:1≤w.parts.length∧w.parts.length≤3
  ok:∀ p,p ∈ w.parts→iS p=true
  sum:iY (lG w.parts)=true
theorem z8 {l:List dW} (h:∀ p,p ∈ l→iS p=true) (h3:l.length≤3):n8 ⟨0,0,0⟩ l=lG l:=by
  have:=(CH l ⟨0,0,0⟩ 3 h h3 (by decide) (by unfold uz;decide)).1
  rw [this]
  simp only [Int.zero_add]
theorem tQ {w:iN}:kR w=true ↔ Wk w:=by
  unfold kR
  simp only [Bool.and_eq_true,i7,List.all_eq_true]
  constructor
  · rintro ⟨a,b,c,d⟩
    rw [z8 c (by omega)] at d
    exact ⟨a,by omega,c,d⟩
  · rintro ⟨a,b,c,d⟩
    refine ⟨a,by omega,c,?_⟩
    rw [z8 c b.2];exact d
theorem FU:∀ (l:List dW),(∀ p,p ∈ l→iS p=true)→(0≤(lG l).bh)∧∀ p,p ∈ l→(sp p).bh≤(lG l).bh
  | [],_=>⟨by decide,fun p hp=>by simp at hp⟩
  | q::l,h=>by
    obtain ⟨_,⟨r1,_,_⟩,_⟩:=xZ (h q (by simp))
    obtain ⟨a,b⟩:=FU l fun p hp=>h p (by simp [hp])
    have e:(lG (q::l)).bh=(sp q).bh+(lG l).bh:=rfl
    rw [e]
    refine ⟨by omega,fun p hp=>?_⟩
    rcases List.mem_cons.1 hp with rfl | hp
    · omega
    · have:=b p hp;omega
theorem EF:∀ (l:List dW) (k:Nat) (y z:dW),l[k]?=some y→sp z=sp y→lG (l.set k z)=lG l
  | [],k,y,z,h,_=>by simp at h
  | x::l,0,y,z,h,e=>by
    simp at h;subst h
    show ig.mk ((sp z).bh+(lG l).bh) _ _=_
    rw [e];rfl
  | x::l,k+1,y,z,h,e=>by
    show ig.mk ((sp x).bh+(lG (l.set k z)).bh) _ _=_
    rw [EF l k y z (by simpa using h) e];rfl
theorem K1 {p:dW} (h:iS p=true) {t:List ir} (ht:j8 t=true):iS (mY p t)=true:=by
  unfold iS at h ⊢
  simp only [Bool.and_eq_true] at h ⊢
  exact ⟨h.1,h.2.1,ht,h.2.2.2⟩
theorem D7:∀ (l:List dW) (ts:List (List ir)),ts.length=l.length →
    (lG (jD l ts)).bh=(lG l).bh - m4 ig.bh (kC l)+m4 ig.bh ts∧(lG (jD l ts)).ib=(lG l).ib - m4 ig.ib (kC l)+m4 ig.ib ts∧(lG (jD l ts)).ik=(lG l).ik - m4 ig.ik (kC l)+m4 ig.ik ts
  | [],[],_=>by decide
  | [],_::_,h=>by simp at h
  | _::_,[],h=>by simp at h
  | p::l,t::ts,h=>by
    obtain ⟨a,b,c⟩:=D7 l ts (by simpa using h)
    have e:jD (p::l) (t::ts)=mY p t::jD l ts:=rfl
    have e1:∀ f:ig→Int,m4 f (kC (p::l))=jG f p.tree+m4 f (kC l):=fun f=>rfl
    have e2:∀ f:ig→Int,m4 f (t::ts)=jG f t+m4 f ts:=fun f=>rfl
    have e3:∀ q m,lG (q::m)=⟨(sp q).bh+(lG m).bh,(sp q).ib+(lG m).ib,(sp q).ik+(lG m).ik⟩:=fun q m=>rfl
    have e4:sp (mY p t)=⟨jG ig.bh t+mD p.heap.ag+p.gE.bh,jG ig.ib t+p.gE.ib,jG ig.ik t+p.gE.ik⟩:=rfl
    have e5:sp p=⟨jG ig.bh p.tree+mD p.heap.ag+p.gE.bh,jG ig.ib p.tree+p.gE.ib,jG ig.ik p.tree+p.gE.ik⟩:=rfl
    rw [e,e3,e3,e4,e5,e1,e1,e1,e2,e2,e2]
    dsimp only
    omega
theorem GB:∀ (l:List dW) (ts:List (List ir)),ts.length=l.length→(jD l ts).length=l.length∧∀ (k:Nat) (q:dW),(jD l ts)[k]?=some q→∃ p t,l[k]?=some p∧t ∈ ts∧q=mY p t
  | [],[],_=>⟨rfl,fun k q h=>by simp [jD] at h⟩
  | [],_::_,h=>by simp at h
  | _::_,[],h=>by simp at h
  | p::l,t::ts,h=>by
    obtain ⟨a,b⟩:=GB l ts (by simpa using h)
    have e:jD (p::l) (t::ts)=mY p t::jD l ts:=rfl
    rw [e]
    refine ⟨by simp [a],fun k q hq=>?_⟩
    cases k with
    | zero=>simp at hq;exact ⟨p,t,rfl,by simp,hq.symm⟩
    | succ k =>
      obtain ⟨p',t',h1,h2,h3⟩:=b k q (by simpa using hq)
      exact ⟨p',t',by simpa using h1,by simp [h2],h3⟩
theorem H5 (l:List dW):jL (kG l)=kC l:=by
  unfold jL kG
  rw [List.map_map]
  exact (List.map_congr_left fun _ _=>rfl).trans (List.map_id _)
structure LD (t u:iN):Prop where
  wk:Wk u
  sum:lG u.parts=lG t.parts
  now:u.now=t.now
  len:u.parts.length=t.parts.length
  ly:∀ j,0≤j→j<(t.parts.length:Int)→nC (nth t.parts j) (nth u.parts j)∧(nth u.parts j).want=(nth t.parts j).want
  w:wW t.parts→wW u.parts
theorem IV {t:iN} (h:Wk t) (k:Int):LD t (iT t k):=by
  unfold iT
  split
  · have h0:l8 (kG t.parts)=true:=by
      unfold l8
      rw [List.all_eq_true]
      intro y hy
      obtain ⟨x,hx,rfl⟩:=List.mem_map.1 (show y ∈ (kC t.parts).map iZ.mk from hy)
      obtain ⟨p,hp,rfl⟩:=List.mem_map.1 (show x ∈ t.parts.map _ from hx)
      exact lB (h.ok p hp)
    have hk:=yw k (nth t.parts k).ij (kG t.parts) h0
    have hlen:(jL (rS (kG t.parts) k (nth t.parts k).ij)).length=t.parts.length:=by
      unfold jL
      rw [List.length_map]
      exact zv
    generalize hu:jL (rS (kG t.parts) k (nth t.parts k).ij)=ts at *
    have hts:∀ x,x ∈ ts→j8 x=true:=fun x hx=>by
      rw [← hu] at hx
      obtain ⟨y,hy,rfl⟩:=List.mem_map.1 (show x ∈ (rS (kG t.parts) k (nth t.parts k).ij).map _ from hx)
      have:=hk.ok
      unfold l8 at this
      rw [List.all_eq_true] at this
      exact this y hy
    have e1:=hk.pg
    have e2:=hk.rt
    have e3:=hk.cp
    rw [H5,hu] at e1 e2 e3
    obtain ⟨s1,s2,s3⟩:=D7 t.parts ts hlen
    obtain ⟨l1,l2⟩:=GB t.parts ts hlen
    have hs:lG (jD t.parts ts)=lG t.parts:=by
      generalize lG (jD t.parts ts)=a at *
      generalize lG t.parts=b at *
      obtain ⟨a1,a2,a3⟩:=a
      obtain ⟨b1,b2,b3⟩:=b
      dsimp only at *
      have:a1=b1:=by omega
      have:a2=b2:=by omega
      have:a3=b3:=by omega
      subst_vars;rfl
    have hall:∀ q,q ∈ jD t.parts ts→∃ p x,p ∈ t.parts∧x ∈ ts∧q=mY p x:=fun q hq=>by
      obtain ⟨i,hi⟩:=List.getElem?_of_mem hq
      obtain ⟨p,x,a,b,c⟩:=l2 i q hi
      exact ⟨p,x,List.mem_of_getElem? a,b,c⟩
    refine ⟨⟨h.now,by show 1≤(jD t.parts ts).length∧(jD t.parts ts).length≤3;rw [l1];exact h.len,fun q hq=>?_,by show iY (lG (jD t.parts ts))=true;rw [hs];exact h.sum⟩,hs,rfl,l1,fun j j0 j1=>?_,fun hw q hq=>?_⟩
    · obtain ⟨p,x,hp,hx,rfl⟩:=hall q hq
      exact K1 (h.ok p hp) (hts x hx)
    · have hg:=ky (l:=jD t.parts ts) j0 (by omega)
      obtain ⟨p,x,a,b,c⟩:=l2 _ _ hg
      have hp:nth t.parts j=p:=by
        rw [ky j0 j1] at a
        exact Option.some.inj a
      rw [hp]
      show nC p (nth (jD t.parts ts) j)∧(nth (jD t.parts ts) j).want=p.want
      rw [c]
      exact ⟨⟨rfl,rfl,rfl⟩,rfl⟩
    · obtain ⟨p,x,hp,hx,rfl⟩:=hall q hq
      exact hw p hp
  · exact ⟨h,rfl,rfl,rfl,fun j _ _=>⟨nC.refl _,rfl⟩,fun h=>h⟩
structure Jt (w:iN) (now:Int) (k:Nat) (t:iN):Prop where
  wk:Wk t
  at_:t.now=now
  len:t.parts.length=w.parts.length
  sum:lG t.parts=lG w.parts
  ly:∀ j,0≤j→j<(w.parts.length:Int)→nC (nth w.parts j) (nth t.parts j)
  want:∀ j:Nat,j<k→Int.tmod now (w.parts.length:Int)=(j:Int)→(nth t.parts (j:Int)).want=0
  w:wW t.parts
theorem H6 {l:List dW} {i j:Int} {z:dW} (h0:0≤i) (h1:i<(l.length:Int)) (hj:0≤j):nth (l.set i.toNat z) j=if i=j then z else nth l j:=by
  unfold nth
  by_cases e:i=j
  · subst e
    rw [if_pos rfl,List.getElem?_set_self (by omega)]
    rfl
  · rw [if_neg e,List.getElem?_set_ne (by omega)]
theorem E1 {n:Nat} {p:dW} (hw:wP p) (hb:iG p≤2000000) (i now:Int):wP (l5 n p i now):=(yp (n:=n) hb (Nat.le_refl _) hw i now).2
theorem Jt.step {w:iN} {now:Int} {k:Nat} {t:iN} (h:Jt w now k t) (hk:k<w.parts.length) (hn:w.parts.length≤3) (hsz:∀ p,p ∈ (iT t (k:Int)).parts→iG p≤2000000):Jt w now (k+1) (m3 w.parts.length k t):=by
  have hT:=IV h.wk (k:Int)
  have hlen:=hT.len.trans h.len
  have hm:=kT (l:=(iT t (k:Int)).parts) (i:=(k:Int)) (by omega) (by omega)
  have hok:=hT.wk.ok _ hm
  have hww:=hT.w h.w
  have hsum:=jk.1 hT.wk.sum
  have hge:=(FU _ hT.wk.ok).2 _ hm
  obtain ⟨a1,a2,a3,a4⟩:=Bp (n:=w.parts.length) hok (hww _ hm) (by omega) (k:Int) (iT t (k:Int)).now
  have hnow:(iT t (k:Int)).now=now:=hT.now.trans h.at_
  have hg:=ky (l:=(iT t (k:Int)).parts) (i:=(k:Int)) (by omega) (by omega)
  rw [Int.toNat_natCast] at hg
  have hs:=EF _ k _ _ hg a2
  have hset:∀ j,0≤j→nth ((iT t (k:Int)).parts.set k (l5 w.parts.length (nth (iT t (k:Int)).parts (k:Int)) (k:Int) (iT t (k:Int)).now)) j=if (k:Int)=j then l5 w.parts.length (nth (iT t (k:Int)).parts (k:Int)) (k:Int) (iT t (k:Int)).now else nth (iT t (k:Int)).parts j:=fun j hj=>by
    have:=H6 (l:=(iT t (k:Int)).parts) (i:=(k:Int)) (z:=l5 w.parts.length (nth (iT t (k:Int)).parts (k:Int)) (k:Int) (iT t (k:Int)).now) (by omega) (by omega) hj
    rwa [Int.toNat_natCast] at this
  unfold m3
  refine ⟨⟨hT.wk.now,?_,fun q hq=>?_,?_⟩,hnow,?_,?_,fun j j0 j1=>?_,fun j hj e=>?_,fun q hq=>?_⟩
  · show 1≤(List.set _ _ _).length∧(List.set _ _ _).length≤3
    rw [List.length_set];exact hT.wk.len
  · rcases List.mem_or_eq_of_mem_set (show q ∈ List.set _ _ _ from hq) with q1 | rfl
    · exact hT.wk.ok q q1
    · exact a1
  · show iY (lG (List.set _ _ _))=true
    rw [hs];exact hT.wk.sum
  · show (List.set _ _ _).length=_
    rw [List.length_set];exact hlen
  · show lG (List.set _ _ _)=_
    rw [hs,hT.sum];exact h.sum
  · show nC (nth w.parts j) (nth (List.set _ _ _) j)
    have b1:=h.ly j j0 j1
    have b2:=(hT.ly j j0 (by have:=h.len;omega)).1
    rw [hset j j0]
    split
    · rename_i ej
      subst ej
      exact (b1.trans b2).trans a3
    · exact b1.trans b2
  · show (nth ((iT t (k:Int)).parts.set k (l5 w.parts.length (nth (iT t (k:Int)).parts (k:Int)) (k:Int) (iT t (k:Int)).now)) (j:Int)).want=0
    rw [hset (j:Int) (by omega)]
    split
    · rename_i ej
      exact a4 (by rw [hnow,e];exact ej.symm)
    · rename_i ej
      have hjk:j<k:=by omega
      rw [(hT.ly (j:Int) (by omega) (by have:=h.len;omega)).2]
      exact h.want j hjk e
  · rcases List.mem_or_eq_of_mem_set (show q ∈ List.set _ _ _ from hq) with q1 | rfl
    · exact hww q q1
    · exact E1 (hww _ hm) (hsz _ hm) _ _
theorem AY {α τ:Type} {P:Nat→τ→Prop} {f:Nat→τ→α→τ}:∀ (l:List α) (k n:Nat) (t:τ),k+l.length=n→(∀ j t y,k≤j→j<n→P j t→P (j+1) (f j t y))→P k t→P n (foldI f k t l)
  | [],k,n,t,e,_,h=>by
    simp at e
    subst e
    exact h
  | y::l,k,n,t,e,hs,h=>by
    simp only [List.length_cons] at e
    unfold foldI
    exact AY l (k+1) n _ (by omega) (fun j t y hj hn hp=>hs j t y (by omega) hn hp) (hs k t y (Nat.le_refl _) (by omega) h)
theorem Hy {w:iN} (hw:Ww w) (ok:kR w=true) (hm:(w.now==1000000)=false):Jt w (w.now+1) w.parts.length (tick w):=by
  have hk:=tQ.1 ok
  have hm:w.now ≠ 1000000:=by simpa using hm
  have hn:=hk.now
  have hl:=hw.len
  unfold tick
  rw [ok,show (w.now==1000000)=false from by simpa using hm]
  simp only [Bool.not_false,Bool.and_self,if_true]
  rw [iI (by omega) (by omega)]
  have hT0:sn w.parts.length 0 (iN.mk (w.now+1) w.parts):=⟨rfl,hl,fun p hp=>⟨Nat.le_trans (hw.pw p hp).1 (by decide),(hw.pw p hp).2⟩⟩
  have h0:Jt w (w.now+1) 0 (iN.mk (w.now+1) w.parts):=⟨⟨⟨by dsimp only;omega,by dsimp only;omega⟩,hk.len,hk.ok,hk.sum⟩,rfl,rfl,rfl,fun j _ _=>nC.refl _,fun j hj=>absurd hj (Nat.not_lt_zero _),hw.w⟩
  refine (AY (P:=fun k t=>Jt w (w.now+1) k t∧sn w.parts.length k t) w.parts 0 w.parts.length _ (by simp) (fun k t y _ hk' hp=>?_) ⟨h0,hT0⟩).1
  refine ⟨hp.1.step hk' hl fun p hp'=>?_,hp.2.step hk'⟩
  exact Nat.le_trans ((hp.2.ij (k:Int)).sz p hp').1 (by omega)
theorem Hq {x:List U8} (hx:Fit.fit x):∃ N,tu N x=some true:=by
  obtain ⟨N,hN⟩:∃ N,im≤N:=⟨im,Nat.le_refl _⟩
  suffices h:WD (tu N x) (fun r=>r=true) by
    obtain ⟨_,e,rfl⟩:=h
    exact ⟨N,e⟩
  unfold tu xU
  refine WD.step rfl (WD.ite (fun _=>WD.ret rfl) fun c=>?_)
  have hl:x.length≤1048576:=by have:=of_decide_eq_false c;omega
  refine WD.bind (Dz hN hl) fun w hw=>?_
  have hB:(16777216:Nat)=im:=rfl
  have hM:nV w≤1048576:=by have:=hw.sz;unfold nV;omega
  have hlen:=hw.len
  have htb:=Jp hM hw.w
  refine WD.step (JY hN hM hw.w) ?_
  refine WD.bind (P:=fun j=>j=!(kR w&&!(w.now==1000000))) ?_ fun j hj=>WD.ite (fun c=>?_) fun c=>?_
  · refine WD.step (xh hN hw.z7 hw.w) ?_
    cases ok:kR w
    · exact WD.ret rfl
    · have hn:=(tQ.1 ok).now
      refine WD.ret ?_
      rw [Bool.true_and,Bool.not_not,Bool.eq_iff_iff]
      simp only [decide_eq_true_eq,beq_iff_eq]
      omega
  · rw [hj] at c
    have e:tick w=w:=by unfold tick;cases q:(kR w&&!(w.now==1000000)) <;> simp [q] at c ⊢
    rw [e]
    exact WD.step (Dg hN hw.z7) (WD.ret (decide_eq_true rfl))
  · rw [hj] at c
    have c:kR w=true∧(w.now==1000000)=false:=by simpa using c
    obtain ⟨ok,hm⟩:=c
    have J:=Hy hw ok hm
    have hk:=tQ.1 ok
    have hn:=hk.now
    rw [J.len]
    simp only [bne_self_eq_false,cond_false]
    refine WD.bind (WD.loop (fun s=>0≤s∧s≤(w.parts.length:Int)) (fun r=>∃ s,r=.inl s) (fun s=>((w.parts.length:Int) - s).toNat) ⟨Int.le_refl _,by omega⟩ (by omega) ?_) fun r ⟨s,hr⟩=>?_
    · intro s ⟨s1,s2⟩
      refine WD.ite (fun c=>?_) fun _=>WD.inr ⟨_,rfl⟩
      have c:=of_decide_eq_true c
      have hJl:=J.len
      have kk:=J.ly s s1 c
      have hsz:=(hw.pw _ (kT s1 c)).1
      have hb:iG (nth w.parts s)<im:=by omega
      have hzp:=mq hb
      refine WD.bind (P:=fun j=>j=false) ?_ fun j hj=>?_
      · refine WD.step (jC s1 (by omega)) (WD.step (jC s1 c) ?_)
        rw [kk.label,kk.own,kk.lost]
        refine WD.step (yG hN hzp.1) ?_
        rw [decide_eq_true rfl]
        simp only [Bool.not_true,cond_false]
        refine WD.step (KZ hN hzp.2.1) ?_
        simp only [Bool.not_true,cond_false,bne_self_eq_false]
        refine WD.ite (fun cw=>?_) fun _=>WD.ret rfl
        refine WD.step (FD (show (w.parts.length:Int) ≠ 0 by omega)) (WD.ret ?_)
        have cw:(nth (tick w).parts s).want ≠ 0:=by simpa using cw
        rw [J.at_,beq_eq_false_iff_ne]
        intro e
        refine cw ?_
        have:=J.want s.toNat (by omega) (by rw [e];omega)
        rwa [Int.toNat_of_nonneg s1] at this
      · rw [hj,iI (n:=s+1) (by omega) (by omega)]
        exact WD.inl ⟨by omega,by omega⟩ (by omega)
    · rw [hr]
      simp only [Sum.elim_inl]
      rw [J.at_,iI (n:=w.now+1) (by omega) (by omega),beq_self_eq_true,cond_true]
      have okx:=tQ.2 J.wk
      refine WD.step (xh hN htb J.w) ?_
      rw [okx,cond_true]
      refine WD.step (FE hN htb) (WD.step (E5 hN hw.z7 hw.w) (WD.ret ?_))
      unfold vk
      rw [if_pos okx,if_pos ok,z8 J.wk.ok J.wk.len.2,z8 hk.ok hk.len.2,J.sum]
      exact decide_eq_true rfl
end Go.Kx
