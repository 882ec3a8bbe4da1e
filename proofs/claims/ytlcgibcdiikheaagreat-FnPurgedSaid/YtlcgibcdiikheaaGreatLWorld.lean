import Derived.Test.YtlcgibcdiikheaaGreatLCall
namespace Go.Kx
open Go
open Go.IntKind (i64)
set_option linter.unusedVariables false
set_option linter.unusedSimpArgs false
set_option maxRecDepth 10000
structure Wq (w:g6):Prop where
  oF:iL ib w.parts<gS
  each:∀ p,p ∈ w.parts→ib p≤3000000
  w:wW w.parts
theorem Dd {α:Type} {l:List α} {i:Int} {y:α} (h0:0≤i) (h1:i<(l.length:Int)):idx (l.set i.toNat y) i=some y:=by
  have:=Ew (l:=l) (k:=i.toNat) (y:=y) (by omega)
  rwa [Int.toNat_of_nonneg h0] at this
theorem FP {α:Type} {t:List α} {z:α} (h:t.length≤1000000):app t [z]=some (t++[z]):=kr h (by decide)
def qj (w:g6) (q:Int) (z:bh):g6:=g6.mk w.HQ (w.parts.set q.toNat z)
def qQ (w:g6) (p a b:Int):Bool:=my (nth w.parts p).own (nth w.parts a).HB (nth w.parts b).HB
def Dr (p:bh):bh:=bh.mk p.HB p.own p.HC p.py p.gR p.HH p.HJ p.gP p.g8 (if 1000000<i64.wrap (p.HG+1) then 1000000 else i64.wrap (p.HG+1))
def qk (l:List cd) (i:Int):Bool:=decide (i ≥ 0)&&(((nth l i).HA==3)&&decide (((nth l i).HE.length:Int)<2))
def FU (p:bh) (i n:Int):bh:=mW p (p.py.ag.set i.toNat (nH (nth p.py.ag i) ((nth p.py.ag i).HE++[jg.mk (-1) n])))
def rK (c:il):iS:=iS.mk c.a c.b c.c (i64.wrap (Int.tdiv c.d 10)) (Int.tmod c.d 10) c.e
def tv (w:g6) (p q:Int) (c:il):Int×Int×g6 :=
  bif !qQ w p q p then (3,0,w) else ((jh (nth w.parts q) q w.HQ c).1,(jh (nth w.parts q) q w.HQ c).2.1,w)
def vx (p:bh) (i n:Int):bh:=bif qk p.py.ag i then FU p i n else Dr p
def vK (w:g6) (p q:Int) (c:il):Int×Int×g6 :=
  bif !ia c.b 0 999 then (2,0,w) else bif !qQ w p p q then (3,0,w) else
  (0,0,qj w q (vx (nth w.parts q) (hO (nth w.parts q).py.ag w.HQ q c.a) c.b))
def xM (w:g6) (p q:Int) (c:il):Int×Int×g6 :=
  bif decide (c.d<0) || !mh (rK c) then (2,0,w) else bif !qQ w p p q then (3,0,w) else
  bif !jc (nth w.parts p).HC c.a then (6,0,w) else bif decide (((nth w.parts p).gR.length:Int) ≥ 3) then (7,0,w) else
  (0,i64.wrap ((((nth w.parts p).gR++[rK c]).length:Int) - 1),qj w p (sX (nth w.parts p) ((nth w.parts p).gR++[rK c])))
def sh (r:Int×Int×g6):g6×hZ:=bif r.1 != 0 then (r.2.2,hZ.mk r.1 0) else (r.2.2,hZ.mk 0 r.2.1)
def mN (w:g6) (p th:Int) (c:il):g6×hZ :=
  bif !jy w || !jk w p then (w,hZ.mk 2 0) else bif !mI (nth w.parts p) w.HQ th then (w,hZ.mk 1 0) else
  bif decide (other w p c<0) then (w,hZ.mk 2 0) else
  bif c.HA==7 then sh (tv w p (other w p c) c) else bif c.HA==17 then sh (vK w p (other w p c) c) else bif c.HA==16 then sh (xM w p (other w p c) c) else
  (qj w p (mx (nth w.parts p) p w.HQ th c).1,(mx (nth w.parts p) p w.HQ th c).2)
theorem E2 (w:g6) (p q:Int) (c:il):(tv w p q c).2.2=w:=by
  unfold tv;cases !qQ w p q p<;>rfl
theorem wB {w:g6} (h:jy w=true) {p:bh} (hp:p ∈ w.parts):jr p=true:=by
  unfold jy at h;simp only [H3,List.all_eq_true] at h;exact h.2.2.1 p hp
theorem wx {w:g6} {p:Int} (h:jk w p=true):0≤p∧p<(w.parts.length:Int):=by
  unfold jk at h;rw [iG] at h;omega
theorem Wq.EO {w:g6} (h:Wq w) (ok:jy w=true) {p:bh} (hp:p ∈ w.parts):ll p:=⟨wB ok hp,h.each p hp,h.w p hp⟩
section
variable {N:Nat} {w:g6} {p q:Int} {c:il}
theorem Db {P:bh} {me now:Int} (h:(c.HA==7)=true):fin c P (jh P me now c)=(P,bif (jh P me now c).1==0 then hZ.mk 0 (jh P me now c).2.1 else hZ.mk (jh P me now c).1 0):=by
  have hp:(jh P me now c).2.2=P:=by
    unfold jh;rw [h];cases jf P.py.ag now me c.a 2 != 0
    · cases !ia c.b 0 (((nth P.py.ag (hO P.py.ag now me c.a)).HI.length:Int) - 1)<;>rfl
    · rfl
  have h1:(c.HA==1)=false:=by
    have:c.HA=7:=by simpa using h
    rw [this];rfl
  unfold fin;rw [hp,h1];cases (jh P me now c).1==0<;>rfl
theorem E8 (hN:gS≤N) (hw:Wq w) (ok:jy w=true) (hp:jk w p=true) (hq:jk w q=true) (hk:(c.HA==7)=true):oO N w p q c=some (sh (tv w p q c)):=by
  obtain ⟨p1,p2⟩:=jT hp;obtain ⟨q1,q2⟩:=jT hq;obtain ⟨q0,q9⟩:=wx hq
  have hc:c.HA=7:=by simpa using hk
  unfold oO tv qQ;simp only [p1,q1,HW,sM hN (kc (jG hw.oF p2)).2.1 (kc (jG hw.oF q2)).1 (kc (jG hw.oF p2)).1];cases my (nth w.parts p).own (nth w.parts q).HB (nth w.parts p).HB
  · rfl
  simp only [HZ,HX,BK hN (hw.EO ok q2) q w.HQ (c:=c) (by rw [hc];rfl) (by rw [hc];rfl),HW,xe];rw [Db hk];simp only [HW];rw [show w.parts.set q.toNat (bh.mk (nth w.parts q).HB (nth w.parts q).own (nth w.parts q).HC (g7.mk (nth w.parts q).py.ag (jK.mk (nth w.parts q).py.gc.HD (nth w.parts q).py.gc.HL (nth w.parts q).py.gc.HF (nth w.parts q).py.gc.gQ)) (nth w.parts q).gR (nth w.parts q).HH (nth w.parts q).HJ (nth w.parts q).gP (nth w.parts q).g8 (nth w.parts q).HG)=w.parts from pK (oB q0 q9)];unfold sh bne;cases (jh (nth w.parts q) q w.HQ c).1==0<;>rfl
theorem FH (hN:gS≤N) (hw:Wq w) (ok:jy w=true) (hp:jk w p=true) (hq:jk w q=true) (c:il):o6 N w p q c=some (sh (vK w p q c)):=by
  obtain ⟨p1,p2⟩:=jT hp;obtain ⟨q1,q2⟩:=jT hq;have ar:=jU (wB ok q2);have hb:=(kc (jG hw.oF q2)).2.2.2.1;unfold o6 vK qQ;simp only [ke,p1,q1,sM hN (kc (jG hw.oF p2)).2.1 (kc (jG hw.oF p2)).1 (kc (jG hw.oF q2)).1,HW];cases ia c.b 0 999
  · rfl
  cases my (nth w.parts p).own (nth w.parts p).HB (nth w.parts q).HB
  · rfl
  simp only [HZ,HX,HW,qW hN hb (hw.w _ q2)];have hg:=uy (l:=(nth w.parts q).py.ag) (now:=w.HQ) (me:=q) (h:=c.a) ar.len;generalize hO (nth w.parts q).py.ag w.HQ q c.a=g at *;unfold vx
  have e:(bif decide (g<0) then some true else (idx (nth w.parts q).py.ag g).bind fun y84=>bif y84.HA != 3 then some true else some (decide ((y84.HE.length:Int) ≥ 2)))=some (!qk (nth w.parts q).py.ag g):=by
    unfold qk
    by_cases h:g<0
    · rw [decide_eq_true h,decide_eq_false (show ¬ g ≥ 0 by omega)];rfl
    rw [decide_eq_false h,decide_eq_true (show g ≥ 0 by omega),HX,je (by omega) (hg (by omega)),HW,lB,H0,Bool.not_and];unfold bne
    by_cases k:((nth (nth w.parts q).py.ag g).HE.length:Int)<2
    · rw [decide_eq_true k,decide_eq_false (show ¬ ((nth (nth w.parts q).py.ag g).HE.length:Int) ≥ 2 by omega)];rfl
    · rw [decide_eq_false k,decide_eq_true (show ((nth (nth w.parts q).py.ag g).HE.length:Int) ≥ 2 by omega)];rfl
  rw [e,HW];cases h:qk (nth w.parts q).py.ag g
  · rfl
  have h':=h;unfold qk at h';simp only [H3,decide_eq_true_eq] at h';rw [HZ,HX,je h'.1 (hg h'.1),HW,jw (Nat.lt_trans (show _<2 by omega) (by decide)),HW,FP (by omega)];rfl
theorem Gp (hN:gS≤N) (hw:Wq w) (ok:jy w=true) (hp:jk w p=true) (hq:jk w q=true) (c:il):qc N w p q c=some (sh (xM w p q c)):=by
  obtain ⟨p1,p2⟩:=jT hp;obtain ⟨q1,q2⟩:=jT hq;obtain ⟨p0,p9⟩:=wx hp;have hT:=uK (wB ok p2);unfold qc xM qQ;simp only [p1,q1,uc,sM hN (kc (jG hw.oF p2)).2.1 (kc (jG hw.oF p2)).1 (kc (jG hw.oF q2)).1,pd hN,hT,H0,HW];cases decide (c.d<0)
  case true=>rfl
  show (bif !mh (rK c) then _ else _)=some (sh (bif !mh (rK c) then _ else _))
  cases mh (rK c)
  case false=>rfl
  cases my (nth w.parts p).own (nth w.parts p).HB (nth w.parts q).HB
  case false=>rfl
  cases jc (nth w.parts p).HC c.a
  case false=>rfl
  cases h:decide (((nth w.parts p).gR.length:Int) ≥ 3)
  case true=>rfl
  have h:=of_decide_eq_false h;simp only [HZ,HX];rw [jw (Nat.lt_trans (show _<3 by omega) (by decide)),HW,FP (by omega),HW,HW,Dd p0 p9];rfl
theorem zD (hN:gS≤N) (hw:Wq w) (p th:Int) (c:il):na N w p th c=some (mN w p th c):=by
  have hl:w.parts.length<16777216:=lr hw.oF;unfold na mN;simp only [qz hN hw.oF,rN hN hw.oF hw.w,ke,HW,lB];rw [iC (by omega) (by omega),show ia p 0 ((w.parts.length:Int) - 1)=jk w p from rfl];cases hok:!jy w || !jk w p
  case true=>rfl
  have hok:jy w=true∧jk w p=true:=by simpa using hok
  obtain ⟨ok,hp⟩:=hok;obtain ⟨p1,p2⟩:=jT hp;simp only [HX,p1,HW,xv hN (jG hw.oF p2) (hw.w _ p2)];cases hc:mI (nth w.parts p) w.HQ th
  case false=>rfl
  simp only [HZ,HX,zz hl,HW,AT hN (hw.each _ p2) (hw.w _ p2)]
  have hself:((c.HA==7) || ((c.HA==17) || (c.HA==16)))=false→decide (other w p c<0)=false:=fun h=>by
    have h0:=wx hp;simp only [Bool.or_eq_false_iff] at h;unfold other target;rw [h.1,h.2.1,h.2.2];simp only [Bool.or_self,Bool.false_eq_true,if_false,hp,if_true];exact decide_eq_false (by omega)
  cases k7:c.HA==7
  case true =>
    simp only [HY,HW];cases ho:decide (other w p c<0)
    case true=>rfl
    simp only [HX,E8 hN hw ok hp (rR ho) k7,HW]
  cases k17:c.HA==17
  case true =>
    simp only [HY,HX,HW];cases ho:decide (other w p c<0)
    case true=>rfl
    simp only [HX,FH hN hw ok hp (rR ho),HW]
  cases k16:c.HA==16
  case true =>
    simp only [HY,HX,HW];cases ho:decide (other w p c<0)
    case true=>rfl
    simp only [HX,Gp hN hw ok hp (rR ho),HW]
  rw [hself (by rw [k7,k17,k16];rfl)];simp only [HX,HW];rfl
end
end Go.Kx
namespace Go.Kx
open Go
open Go.IntKind (i64)
set_option linter.unusedVariables false
set_option linter.unusedSimpArgs false
set_option maxRecDepth 10000
theorem Cn {p:bh} (hp:ll p) {now me h:Int} (n:Int):oI p (vx p (hO p.py.ag now me h) n):=by
  unfold vx;have hg:=uy (l:=p.py.ag) (now:=now) (me:=me) (h:=h) hp.ar.len;generalize hO p.py.ag now me h=g at *;cases q:qk p.py.ag g
  · exact lZ rfl rfl rfl (by show iL gX p.py.ag≤_;omega) (Nat.le_succ _) (Nat.le_refl _) hp.w rfl
  · unfold qk at q;simp only [H3,decide_eq_true_eq] at q;have hl:=hp.ar.len;have g9:=hg q.1;have ho:=oU hp.ar q.1 (by omega);have hwi:lN (nth p.py.ag g):=hp.w _ (kv q.1 g9);refine lZ rfl rfl rfl (Nat.le_trans (qF ?_) (by omega)) (Nat.le_succ _) (Nat.le_refl _) (jL hp.w hwi) List.length_set;unfold gX at ho;unfold gX nH;simp only [List.length_append,List.length_cons,List.length_nil];omega
theorem Ey {p:bh} (hp:ll p) (t:iS):oI p (sX p (p.gR++[t])):=by
  refine ⟨?_,hp.w,rfl⟩;unfold ib sX;simp only [List.length_append,List.length_cons,List.length_nil];omega
theorem Ae {w:g6} (hw:Wq w) (p th:Int) (c:il):(mN w p th c).1=w∨∃ q z,jk w q=true∧oI (nth w.parts q) z∧(mN w p th c).1=qj w q z:=by
  unfold mN;cases hok:!jy w || !jk w p
  case true=>exact .inl rfl
  have hok:jy w=true∧jk w p=true:=by simpa using hok
  obtain ⟨ok,hp⟩:=hok;obtain ⟨p1,p2⟩:=jT hp;have pp:=hw.EO ok p2;cases hc:mI (nth w.parts p) w.HQ th
  case false=>exact .inl rfl
  cases ho:decide (other w p c<0)
  case true=>exact .inl rfl
  have hq:=rR ho;generalize other w p c=q at *;obtain ⟨q1,q2⟩:=jT hq;have pq:=hw.EO ok q2;simp only [HX,HZ]
  have f3:∀ r:Int×Int×g6,(sh r).1=r.2.2:=fun r=>by unfold sh;cases r.1 != 0<;>rfl
  cases c.HA==7
  case true=>rw [HY,f3,E2];exact .inl rfl
  cases c.HA==17
  case true =>
    rw [HX,HY,f3];unfold vK;cases ia c.b 0 999
    case false=>exact .inl rfl
    cases qQ w p p q
    case false=>exact .inl rfl
    exact .inr ⟨q,_,hq,Cn pq c.b,rfl⟩
  cases c.HA==16
  case true =>
    rw [HX,HX,HY,f3];unfold xM;cases decide (c.d<0) || !mh (rK c)
    case true=>exact .inl rfl
    cases qQ w p p q
    case false=>exact .inl rfl
    cases jc (nth w.parts p).HC c.a
    case false=>exact .inl rfl
    cases decide (((nth w.parts p).gR.length:Int) ≥ 3)
    case true=>exact .inl rfl
    exact .inr ⟨p,_,hp,Ey pp (rK c),rfl⟩
  have h:=z5 pp.sz pp.w p w.HQ th c;exact .inr ⟨p,_,hp,⟨h.1,h.2,yp pp.sz pp.w p w.HQ th c⟩,rfl⟩
end Go.Kx
namespace Go.Kx
open Go
open Go.IntKind (i64)
set_option linter.unusedVariables false
set_option linter.unusedSimpArgs false
set_option maxRecDepth 10000
def vy (p:bh) (t:Int):bh:=bh.mk p.HB p.own p.HC p.py p.gR p.HH (i64.wrap (t+1)) p.gP p.g8 p.HG
def rp (w:g6) (e:iq):g6:=bif jy w&&(jk w e.HS&&ia e.jC 0 9) then qj w e.HS (vy (nth w.parts e.HS) e.jC) else w
def qG (w:g6) (e:iq):g6×hZ :=
  bif e.HA==1 then (tick w,hZ.mk 0 0) else bif e.HA==2 then mN w e.HS e.jC e.call else bif e.HA==3 then (rp w e,hZ.mk 0 0) else (w,hZ.mk 2 0)
structure Wt (w:g6):Prop where
  q:Wq w
  t:jy w=true→qI w.parts.length 0 (g6.mk (i64.wrap (w.HQ+1)) w.parts)
theorem E9 {N:Nat} (hN:gS≤N) {w:g6} (hw:Wt w) (e:iq):rz N w e=some (qG w e):=by
  have hb:=hw.q.oF;have hl:w.parts.length<16777216:=lr hb;unfold rz qG;cases e.HA==1
  case true=>simp only [HY,Ei hN hb hw.q.w hw.t,HW]
  cases e.HA==2
  case true=>simp only [HY,HX,zD hN hw.q,HW]
  cases e.HA==3
  case false=>simp only [HX,qz hN hb,HW]
  simp only [HY,HX,qz hN hb,rN hN hb hw.q.w,ke,ny,HW];rw [iC (by omega) (by omega),show ia e.HS 0 ((w.parts.length:Int) - 1)=jk w e.HS from rfl];unfold rp;cases jy w
  · rfl
  cases hp:jk w e.HS
  · rfl
  cases ia e.jC 0 9
  · rfl
  simp only [HY,Bool.and_self,HW,(jT hp).1];rfl
theorem Ak (w:g6) (e:iq):rp w e=w∨(jy w=true∧jk w e.HS=true∧(0≤e.jC∧e.jC≤9)∧rp w e=qj w e.HS (vy (nth w.parts e.HS) e.jC)):=by
  unfold rp;cases h:jy w&&(jk w e.HS&&ia e.jC 0 9)
  · exact .inl rfl
  · simp only [H3,iG] at h;exact .inr ⟨h.1,h.2.1,h.2.2,rfl⟩
end Go.Kx
namespace Go.Kx
open Go
open Go.IntKind (i64)
set_option linter.unusedVariables false
set_option linter.unusedSimpArgs false
set_option maxRecDepth 10000
structure Sg (c:Nat) (w:g6):Prop where
  len:w.parts.length≤3
  sz:∀ p,p ∈ w.parts→ib p≤c∧wP p
theorem Sg.mono {c d:Nat} {w:g6} (h:Sg c w) (hd:c≤d):Sg d w:=⟨h.len,fun p hp=>⟨Nat.le_trans (h.sz p hp).1 hd,(h.sz p hp).2⟩⟩
theorem Sg.oF {c:Nat} {w:g6} (h:Sg c w) (hc:c≤1048576):iL ib w.parts<gS:=by
  have hB:(16777216:Nat)=gS:=rfl;have h1:mT ib w.parts≤c * w.parts.length:=pM fun y hy=>(h.sz y hy).1;have h4:c * w.parts.length≤1048576 * 3:=Nat.mul_le_mul hc h.len;have:=h.len;unfold iL;omega
theorem Sg.t {c:Nat} {w:g6} (h:Sg c w) (hc:c≤1048576):Wt w :=
  ⟨⟨h.oF hc,fun p hp=>by have:=(h.sz p hp).1;omega,fun p hp=>(h.sz p hp).2⟩,fun hw=>⟨rfl,(zZ hw).2.1,fun p hp=>⟨by have:=(h.sz p hp).1;omega,(h.sz p hp).2⟩⟩⟩
theorem Sg.gR {c:Nat} {t:g6} (h:Sg c t) (p:Int):Sg c (iw t p)∧(iw t p).parts.length=t.parts.length:=by
  obtain ⟨_,h2,h3⟩:=tQ t p;refine ⟨⟨by rw [h2];exact h.len,fun q hq=>?_⟩,h2⟩;obtain ⟨y,hy,e1,e2⟩:=h3 q hq;obtain ⟨a,b⟩:=h.sz y hy;exact ⟨by omega,by unfold wP at *;rw [e2];exact b⟩
theorem Sg.step {c n k:Nat} {t:g6} (h:Sg c t) (hk:k<t.parts.length) (hc:c≤2000000):Sg (c+1300) (kD n k t)∧(kD n k t).parts.length=t.parts.length:=by
  obtain ⟨hT,hl⟩:=h.gR (k:Int)
  have e:(kD n k t).parts.length=t.parts.length:=by
    show ((iw t (k:Int)).parts.set k _).length=_
    rw [List.length_set];exact hl
  refine ⟨⟨by rw [e];exact h.len,fun q hq=>?_⟩,e⟩
  rcases List.mem_or_eq_of_mem_set (show q ∈ (iw t (k:Int)).parts.set k _ from hq) with h1 | h1
  · obtain ⟨a,b⟩:=hT.sz q h1;exact ⟨by omega,b⟩
  · subst h1;obtain ⟨a,b⟩:=hT.sz _ (kv (l:=(iw t (k:Int)).parts) (i:=(k:Int)) (by omega) (by omega));exact uP (n:=n) a (by omega) b (k:Int) (iw t (k:Int)).HQ
theorem Dv {n:Nat}:∀ (l:List bh) (k c:Nat) (t:g6),k+l.length=t.parts.length→c+1300 * l.length≤2000000→Sg c t→Sg (c+1300 * l.length) (foldI (fun k t (_:bh)=>kD n k t) k t l)
  | [],k,c,t,_,_,h=>h
  | y::l,k,c,t,hk,hc,h=>by
    simp only [List.length_cons] at hk hc ⊢;obtain ⟨a,b⟩:=h.step (n:=n) (k:=k) (by omega) (by omega);have:=Dv (n:=n) l (k+1) (c+1300) (kD n k t) (by omega) (by omega) a;exact this.mono (by omega)
theorem Sg.tick {c:Nat} {w:g6} (h:Sg c w) (hc:c≤1000000):Sg (c+3900) (tick w):=by
  unfold Kx.tick;split
  · have hl:=h.len;exact (Dv w.parts 0 c (g6.mk (i64.wrap (w.HQ+1)) w.parts) (by dsimp only;omega) (by omega) ⟨h.len,h.sz⟩).mono (by omega)
  · exact h.mono (by omega)
theorem Sg.put {c:Nat} {w:g6} (h:Sg c w) {q:Int} {z:bh} (hz:ib z≤c+300∧wP z):Sg (c+300) (qj w q z):=by
  refine ⟨by show (w.parts.set _ _).length≤3;rw [List.length_set];exact h.len,fun y hy=>?_⟩
  rcases List.mem_or_eq_of_mem_set (show y ∈ w.parts.set q.toNat z from hy) with a | rfl
  · have:=h.sz y a;exact ⟨by omega,this.2⟩
  · exact hz
theorem Sg.qG {c:Nat} {w:g6} (h:Sg c w) (hc:c≤1000000) (e:iq):Sg (c+3900) (qG w e).1:=by
  unfold Kx.qG;cases e.HA==1
  case true=>exact h.tick hc
  cases e.HA==2
  case true =>
    show Sg (c+3900) (mN w e.HS e.jC e.call).1
    rcases Ae (h.t (by omega)).q e.HS e.jC e.call with q | ⟨q,z,hq,hn,e2⟩
    · rw [q];exact h.mono (by omega)
    · rw [e2];have:=h.sz _ (jT hq).2;have:=hn.sz;exact (h.put ⟨by omega,hn.w⟩).mono (by omega)
  cases e.HA==3
  case false=>exact h.mono (by omega)
  show Sg (c+3900) (rp w e)
  rcases Ak w e with q | ⟨_,hp,_,q⟩
  · rw [q];exact h.mono (by omega)
  · rw [q];have:=h.sz _ (jT hp).2;have h3:ib (vy (nth w.parts e.HS) e.jC)=ib (nth w.parts e.HS):=rfl;have h4:=this.1;exact (h.put (q:=e.HS) (z:=vy (nth w.parts e.HS) e.jC) ⟨by omega,this.2⟩).mono (by omega)
def Cq (t:g6×List hZ) (e:iq):g6×List hZ:=((qG t.1 e).1,t.2++[(qG t.1 e).2])
def C3 (w:g6) (l:List iq):g6×List hZ:=l.foldl Cq (w,[])
def GS (b:List iu) (l:List iq):g6×List hZ:=bif !lC b || decide ((l.length:Int) > 200) then (g6.mk 0 [],[]) else C3 (nT b) l
structure Pl (c k:Nat) (t:g6×List hZ):Prop where
  sg:Sg (c+3900 * k) t.1
  len:t.2.length=k
theorem Pl.step {c k:Nat} {t:g6×List hZ} (h:Pl c k t) (hc:c≤200000) (hk:k<200) (e:iq):Pl c (k+1) (Cq t e) :=
  ⟨(h.sg.qG (by omega) e).mono (by omega),by show (t.2++[_]).length=_;rw [List.length_append,h.len];rfl⟩
theorem tg:∀ (l:List iu) (a:ig),qm a l=true→∀ x,x ∈ l→sZ x=true
  | [],_,_,x,hx=>by simp at hx
  | y::l,a,h,x,hx=>by
    unfold qm at h;simp only [H3] at h
    rcases List.mem_cons.1 hx with rfl | hx
    · have ha:iT x.i7=true:=by
        have:=h.1;unfold kj at this;split at this
        · rename_i q;simp only [H3] at q;exact q.1.2
        · simp at this
      unfold sZ;rw [ha,h.2.1,h.2.2.1];rfl
    · exact tg l _ h.2.2.2 x hx
theorem Cc {l:List Int} (h:kp l=true):∀ (k:Nat) (y:Int),l[k]?=some y→(k:Int)≤y∧y≤3
  | 0,y,hy=>by
    have:=lz.1 h 0 y hy;unfold rk at this;simp only [H3,iG] at this;omega
  | k+1,y,hy=>by
    have hk:=iQ hy;have h0:=Cc h k l[k] (List.getElem?_eq_getElem (by omega));have:=lz.1 h (k+1) y hy;unfold rk at this;simp only [H3,iG,Nat.zero_add] at this;have h2:=this.2;simp [List.getElem?_eq_getElem (show k<l.length by omega)] at h2;omega
theorem iJ {l:List Int} (h:kp l=true):l.length≤4:=by
  by_cases q:l.length≤4
  · exact q
  · have:=Cc h 4 l[4] (List.getElem?_eq_getElem (by omega));omega
theorem EU {b:iu} (h:sZ b=true):iR b≤100:=by
  unfold sZ at h;simp only [H3] at h;have h1:=(nj.1 h.2.1).1;have h2:=iJ h.2.2;unfold iR jJ;omega
theorem D7 {b:List iu} (h:lC b=true):Sg 200 (nT b):=by
  unfold nT;rw [if_pos h];unfold lC at h;rw [H3,iG] at h;have hk:=tg b _ h.1;refine ⟨by show (pj b).length≤3;unfold pj;rw [List.length_map];omega,fun p hp=>?_⟩;obtain ⟨x,hx,rfl⟩:=List.mem_map.1 (show p ∈ b.map _ from hp);have ok:=hk x hx;rw [show (pF x).1=uj x from by unfold pF;rw [if_pos ok]];refine ⟨?_,fun o ho=>?_⟩
  · rw [vP];have:=EU ok;omega
  · have:∀ o ∈ Bz, -9223372036854775808≤o.HK:=by decide
    exact this o ho
end Go.Kx
namespace Go.Kx
open Go
open Go.IntKind (i64)
set_option linter.unusedVariables false
set_option linter.unusedSimpArgs false
set_option maxRecDepth 10000
theorem Pl.t {k:Nat} {t:g6×List hZ} (h:Pl 200 k t) (hk:k<200):Wt t.1:=h.sg.t (by omega)
theorem Hn {b:List iu} (h:lC b=true):Pl 200 0 (nT b,([]:List hZ)):=⟨by simpa using D7 h,rfl⟩
end Go.Kx
