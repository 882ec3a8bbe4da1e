import Derived.Test.YtlcgibcdiikheaaGreatLTick
namespace Go.Kx
open Go
open Go.IntKind (i64)
set_option linter.unusedVariables false
set_option linter.unusedSimpArgs false
set_option maxRecDepth 10000
structure Wq (w:g7):Prop where
  qn:iY ij w.parts<gX
  each:∀ p,p ∈ w.parts→ij p≤3000000
  w:wW w.parts
theorem Mb {α:Type} {l:List α} {i:Int} {y:α} (h0:0≤i) (h1:i<(l.length:Int)):idx (l.set i.toNat y) i=some y:=by
  have:=M5 (l:=l) (k:=i.toNat) (y:=y) (by omega)
  rwa [Int.toNat_of_nonneg h0] at this
theorem Lg {α:Type} {t:List α} {z:α} (h:t.length≤1000000):app t [z]=some (t++[z]):=kX h (by decide)
def ni (w:g7) (q:Int) (z:cd):g7:=g7.mk w.Q1 (w.parts.set q.toNat z)
def sO (w:g7) (p a b:Int):Bool:=vr (nth w.parts p).own (nth w.parts a).QQ (nth w.parts b).QQ
def EU (p:cd):cd:=cd.mk p.QQ p.own p.QR p.heap p.gR p.QZ p.QY p.gP p.hY (if 1000000<i64.wrap (p.QX+1) then 1000000 else i64.wrap (p.QX+1))
def pQ (l:List gE) (i:Int):Bool:=decide (i ≥ 0)&&(((nth l i).py==3)&&decide (((nth l i).QU.length:Int)<2))
def OP (p:cd) (i n:Int):cd:=mu p (p.heap.ag.set i.toNat (n5 (nth p.heap.ag i) ((nth p.heap.ag i).QU++[jw.mk (-1) n])))
def tZ (c:iA):i7:=i7.mk c.a c.b c.c (i64.wrap (Int.tdiv c.d 10)) (Int.tmod c.d 10) c.e
def zK (w:g7) (p q:Int) (c:iA):Int×Int×g7 :=
  bif !sO w p q p then (3,0,w) else ((jT (nth w.parts q) q w.Q1 c).1,(jT (nth w.parts q) q w.Q1 c).2.1,w)
def vD (p:cd) (i n:Int):cd:=bif pQ p.heap.ag i then OP p i n else EU p
def xY (w:g7) (p q:Int) (c:iA):Int×Int×g7 :=
  bif !ic c.b 0 999 then (2,0,w) else bif !sO w p p q then (3,0,w) else
  (0,0,ni w q (vD (nth w.parts q) (hD (nth w.parts q).heap.ag w.Q1 q c.a) c.b))
def zX (w:g7) (p q:Int) (c:iA):Int×Int×g7 :=
  bif decide (c.d<0) || !ly (tZ c) then (2,0,w) else bif !sO w p p q then (3,0,w) else
  bif !iH (nth w.parts p).QR c.a then (6,0,w) else bif decide (((nth w.parts p).gR.length:Int) ≥ 3) then (7,0,w) else
  (0,i64.wrap ((((nth w.parts p).gR++[tZ c]).length:Int) - 1),ni w p (vt (nth w.parts p) ((nth w.parts p).gR++[tZ c])))
def sU (r:Int×Int×g7):g7×il:=bif r.1 != 0 then (r.2.2,il.mk r.1 0) else (r.2.2,il.mk 0 r.2.1)
def lH (w:g7) (p th:Int) (c:iA):g7×il :=
  bif !jj w || !ju w p then (w,il.mk 2 0) else bif !mQ (nth w.parts p) w.Q1 th then (w,il.mk 1 0) else
  bif decide (other w p c<0) then (w,il.mk 2 0) else
  bif c.py==7 then sU (zK w p (other w p c) c) else bif c.py==17 then sU (xY w p (other w p c) c) else bif c.py==16 then sU (zX w p (other w p c) c) else
  (ni w p (mZ (nth w.parts p) p w.Q1 th c).1,(mZ (nth w.parts p) p w.Q1 th c).2)
theorem Fb (w:g7) (p q:Int) (c:iA):(zK w p q c).2.2=w:=by
  unfold zK;cases !sO w p q p<;>rfl
theorem Cp {w:g7} (h:jj w=true) {p:cd} (hp:p ∈ w.parts):ik p=true:=by
  unfold jj at h;simp only [Rg,List.all_eq_true] at h;exact h.2.2.1 p hp
theorem zQ {w:g7} {p:Int} (h:ju w p=true):0≤p∧p<(w.parts.length:Int):=by
  unfold ju at h;rw [ir] at h;omega
theorem Wq.Dc {w:g7} (h:Wq w) (ok:jj w=true) {p:cd} (hp:p ∈ w.parts):lB p:=⟨Cp ok hp,h.each p hp,h.w p hp⟩
section
variable {N:Nat} {w:g7} {p q:Int} {c:iA}
theorem Mk {P:cd} {me now:Int} (h:(c.py==7)=true):fin c P (jT P me now c)=(P,bif (jT P me now c).1==0 then il.mk 0 (jT P me now c).2.1 else il.mk (jT P me now c).1 0):=by
  have hp:(jT P me now c).2.2=P:=by
    unfold jT;rw [h];cases jl P.heap.ag now me c.a 2 != 0
    · cases !ic c.b 0 (((nth P.heap.ag (hD P.heap.ag now me c.a)).QV.length:Int) - 1)<;>rfl
    · rfl
  have h1:(c.py==1)=false:=by
    have:c.py=7:=by simpa using h
    rw [this];rfl
  unfold fin;rw [hp,h1];cases (jT P me now c).1==0<;>rfl
theorem OR (hN:gX≤N) (hw:Wq w) (ok:jj w=true) (hp:ju w p=true) (hq:ju w q=true) (hk:(c.py==7)=true):te N w p q c=some (sU (zK w p q c)):=by
  obtain ⟨p1,p2⟩:=kp hp;obtain ⟨q1,q2⟩:=kp hq;obtain ⟨q0,q9⟩:=zQ hq
  have hc:c.py=7:=by simpa using hk
  unfold te zK sO;simp only [p1,q1,Q8,yb hN (kC (kn hw.qn p2)).2.1 (kC (kn hw.qn q2)).1 (kC (kn hw.qn p2)).1];cases vr (nth w.parts p).own (nth w.parts q).QQ (nth w.parts p).QQ
  · rfl
  simp only [Rd,Q9,JG hN (hw.Dc ok q2) q w.Q1 (c:=c) (by rw [hc];rfl) (by rw [hc];rfl),Q8,CL];rw [Mk hk];simp only [Q8];rw [show w.parts.set q.toNat (cd.mk (nth w.parts q).QQ (nth w.parts q).own (nth w.parts q).QR (gV.mk (nth w.parts q).heap.ag (ka.mk (nth w.parts q).heap.gc.QS (nth w.parts q).heap.gc.Q0 (nth w.parts q).heap.gc.QT (nth w.parts q).heap.gc.gQ)) (nth w.parts q).gR (nth w.parts q).QZ (nth w.parts q).QY (nth w.parts q).gP (nth w.parts q).hY (nth w.parts q).QX)=w.parts from nA (jv q0 q9)];unfold sU bne;cases (jT (nth w.parts q) q w.Q1 c).1==0<;>rfl
theorem Pe (hN:gX≤N) (hw:Wq w) (ok:jj w=true) (hp:ju w p=true) (hq:ju w q=true) (c:iA):tF N w p q c=some (sU (xY w p q c)):=by
  obtain ⟨p1,p2⟩:=kp hp;obtain ⟨q1,q2⟩:=kp hq;have ar:=iT (Cp ok q2);have hb:=(kC (kn hw.qn q2)).2.2.2.1;unfold tF xY sO;simp only [mF,p1,q1,yb hN (kC (kn hw.qn p2)).2.1 (kC (kn hw.qn p2)).1 (kC (kn hw.qn q2)).1,Q8];cases ic c.b 0 999
  · rfl
  cases vr (nth w.parts p).own (nth w.parts p).QQ (nth w.parts q).QQ
  · rfl
  simp only [Rd,Q9,Q8,uQ hN hb (hw.w _ q2)];have hg:=uq (l:=(nth w.parts q).heap.ag) (now:=w.Q1) (me:=q) (h:=c.a) ar.len;generalize hD (nth w.parts q).heap.ag w.Q1 q c.a=g at *;unfold vD
  have e:(bif decide (g<0) then some true else (idx (nth w.parts q).heap.ag g).bind fun y84=>bif y84.py != 3 then some true else some (decide ((y84.QU.length:Int) ≥ 2)))=some (!pQ (nth w.parts q).heap.ag g):=by
    unfold pQ
    by_cases h:g<0
    · rw [decide_eq_true h,decide_eq_false (show ¬ g ≥ 0 by omega)];rfl
    rw [decide_eq_false h,decide_eq_true (show g ≥ 0 by omega),Q9,jh (by omega) (hg (by omega)),Q8,lM,Re,Bool.not_and];unfold bne
    by_cases k:((nth (nth w.parts q).heap.ag g).QU.length:Int)<2
    · rw [decide_eq_true k,decide_eq_false (show ¬ ((nth (nth w.parts q).heap.ag g).QU.length:Int) ≥ 2 by omega)];rfl
    · rw [decide_eq_false k,decide_eq_true (show ((nth (nth w.parts q).heap.ag g).QU.length:Int) ≥ 2 by omega)];rfl
  rw [e,Q8];cases h:pQ (nth w.parts q).heap.ag g
  · rfl
  have h':=h;unfold pQ at h';simp only [Rg,decide_eq_true_eq] at h';rw [Rd,Q9,jh h'.1 (hg h'.1),Q8,km (Nat.lt_trans (show _<2 by omega) (by decide)),Q8,Lg (by omega)];rfl
theorem PR (hN:gX≤N) (hw:Wq w) (ok:jj w=true) (hp:ju w p=true) (hq:ju w q=true) (c:iA):uN N w p q c=some (sU (zX w p q c)):=by
  obtain ⟨p1,p2⟩:=kp hp;obtain ⟨q1,q2⟩:=kp hq;obtain ⟨p0,p9⟩:=zQ hp;have hT:=lP (Cp ok p2);unfold uN zX sO;simp only [p1,q1,zL,yb hN (kC (kn hw.qn p2)).2.1 (kC (kn hw.qn p2)).1 (kC (kn hw.qn q2)).1,uf hN,hT,Re,Q8];cases decide (c.d<0)
  case true=>rfl
  show (bif !ly (tZ c) then _ else _)=some (sU (bif !ly (tZ c) then _ else _))
  cases ly (tZ c)
  case false=>rfl
  cases vr (nth w.parts p).own (nth w.parts p).QQ (nth w.parts q).QQ
  case false=>rfl
  cases iH (nth w.parts p).QR c.a
  case false=>rfl
  cases h:decide (((nth w.parts p).gR.length:Int) ≥ 3)
  case true=>rfl
  have h:=of_decide_eq_false h;simp only [Rd,Q9];rw [km (Nat.lt_trans (show _<3 by omega) (by decide)),Q8,Lg (by omega),Q8,Q8,Mb p0 p9];rfl
theorem FP (hN:gX≤N) (hw:Wq w) (p th:Int) (c:iA):qI N w p th c=some (lH w p th c):=by
  have hl:w.parts.length<16777216:=lN hw.qn;unfold qI lH;simp only [vF hN hw.qn,xu hN hw.qn hw.w,mF,Q8,lM];rw [ig (by omega) (by omega),show ic p 0 ((w.parts.length:Int) - 1)=ju w p from rfl];cases hok:!jj w || !ju w p
  case true=>rfl
  have hok:jj w=true∧ju w p=true:=by simpa using hok
  obtain ⟨ok,hp⟩:=hok;obtain ⟨p1,p2⟩:=kp hp;simp only [Q9,p1,Q8,Cw hN (kn hw.qn p2) (hw.w _ p2)];cases hc:mQ (nth w.parts p) w.Q1 th
  case false=>rfl
  simp only [Rd,Q9,FX hl,Q8,IE hN (hw.each _ p2) (hw.w _ p2)]
  have hself:((c.py==7) || ((c.py==17) || (c.py==16)))=false→decide (other w p c<0)=false:=fun h=>by
    have h0:=zQ hp;simp only [Bool.or_eq_false_iff] at h;unfold other target;rw [h.1,h.2.1,h.2.2];simp only [Bool.or_self,Bool.false_eq_true,if_false,hp,if_true];exact decide_eq_false (by omega)
  cases k7:c.py==7
  case true =>
    simp only [Rb,Q8];cases ho:decide (other w p c<0)
    case true=>rfl
    simp only [Q9,OR hN hw ok hp (uF ho) k7,Q8]
  cases k17:c.py==17
  case true =>
    simp only [Rb,Q9,Q8];cases ho:decide (other w p c<0)
    case true=>rfl
    simp only [Q9,Pe hN hw ok hp (uF ho),Q8]
  cases k16:c.py==16
  case true =>
    simp only [Rb,Q9,Q8];cases ho:decide (other w p c<0)
    case true=>rfl
    simp only [Q9,PR hN hw ok hp (uF ho),Q8]
  rw [hself (by rw [k7,k17,k16];rfl)];simp only [Q9,Q8];rfl
end
end Go.Kx
namespace Go.Kx
open Go
open Go.IntKind (i64)
set_option linter.unusedVariables false
set_option linter.unusedSimpArgs false
set_option maxRecDepth 10000
theorem C6 {p:cd} (hp:lB p) {now me h:Int} (n:Int):sq p (vD p (hD p.heap.ag now me h) n):=by
  unfold vD;have hg:=uq (l:=p.heap.ag) (now:=now) (me:=me) (h:=h) hp.ar.len;generalize hD p.heap.ag now me h=g at *;cases q:pQ p.heap.ag g
  · exact o4 rfl rfl rfl (by show iY ib p.heap.ag≤_;omega) (Nat.le_succ _) (Nat.le_refl _) hp.w rfl
  · unfold pQ at q;simp only [Rg,decide_eq_true_eq] at q;have hl:=hp.ar.len;have g9:=hg q.1;have ho:=tM hp.ar q.1 (by omega);have hwi:n8 (nth p.heap.ag g):=hp.w _ (j7 q.1 g9);refine o4 rfl rfl rfl (Nat.le_trans (vL ?_) (by omega)) (Nat.le_succ _) (Nat.le_refl _) (lz hp.w hwi) List.length_set;unfold ib at ho;unfold ib n5;simp only [List.length_append,List.length_cons,List.length_nil];omega
theorem Hn {p:cd} (hp:lB p) (t:i7):sq p (vt p (p.gR++[t])):=by
  refine ⟨?_,hp.w,rfl⟩;unfold ij vt;simp only [List.length_append,List.length_cons,List.length_nil];omega
theorem G8 {w:g7} (hw:Wq w) (p th:Int) (c:iA):(lH w p th c).1=w∨∃ q z,ju w q=true∧sq (nth w.parts q) z∧(lH w p th c).1=ni w q z:=by
  unfold lH;cases hok:!jj w || !ju w p
  case true=>exact .inl rfl
  have hok:jj w=true∧ju w p=true:=by simpa using hok
  obtain ⟨ok,hp⟩:=hok;obtain ⟨p1,p2⟩:=kp hp;have pp:=hw.Dc ok p2;cases hc:mQ (nth w.parts p) w.Q1 th
  case false=>exact .inl rfl
  cases ho:decide (other w p c<0)
  case true=>exact .inl rfl
  have hq:=uF ho;generalize other w p c=q at *;obtain ⟨q1,q2⟩:=kp hq;have pq:=hw.Dc ok q2;simp only [Q9,Rd]
  have f3:∀ r:Int×Int×g7,(sU r).1=r.2.2:=fun r=>by unfold sU;cases r.1 != 0<;>rfl
  cases c.py==7
  case true=>rw [Rb,f3,Fb];exact .inl rfl
  cases c.py==17
  case true =>
    rw [Q9,Rb,f3];unfold xY;cases ic c.b 0 999
    case false=>exact .inl rfl
    cases sO w p p q
    case false=>exact .inl rfl
    exact .inr ⟨q,_,hq,C6 pq c.b,rfl⟩
  cases c.py==16
  case true =>
    rw [Q9,Q9,Rb,f3];unfold zX;cases decide (c.d<0) || !ly (tZ c)
    case true=>exact .inl rfl
    cases sO w p p q
    case false=>exact .inl rfl
    cases iH (nth w.parts p).QR c.a
    case false=>exact .inl rfl
    cases decide (((nth w.parts p).gR.length:Int) ≥ 3)
    case true=>exact .inl rfl
    exact .inr ⟨p,_,hp,Hn pp (tZ c),rfl⟩
  have h:=Cm pp.sz pp.w p w.Q1 th c;exact .inr ⟨p,_,hp,⟨h.1,h.2,AH pp.sz pp.w p w.Q1 th c⟩,rfl⟩
end Go.Kx
namespace Go.Kx
open Go
open Go.IntKind (i64)
set_option linter.unusedVariables false
set_option linter.unusedSimpArgs false
set_option maxRecDepth 10000
def vP (p:cd) (t:Int):cd:=cd.mk p.QQ p.own p.QR p.heap p.gR p.QZ (i64.wrap (t+1)) p.gP p.hY p.QX
def w8 (w:g7) (e:ja):g7:=bif jj w&&(ju w e.Q5&&ic e.lj 0 9) then ni w e.Q5 (vP (nth w.parts e.Q5) e.lj) else w
def pJ (w:g7) (e:ja):g7×il :=
  bif e.py==1 then (tick w,il.mk 0 0) else bif e.py==2 then lH w e.Q5 e.lj e.call else bif e.py==3 then (w8 w e,il.mk 0 0) else (w,il.mk 2 0)
structure Wt (w:g7):Prop where
  q:Wq w
  t:jj w=true→tb w.parts.length 0 (g7.mk (i64.wrap (w.Q1+1)) w.parts)
theorem JH {N:Nat} (hN:gX≤N) {w:g7} (hw:Wt w) (e:ja):vx N w e=some (pJ w e):=by
  have hb:=hw.q.qn;have hl:w.parts.length<16777216:=lN hb;unfold vx pJ;cases e.py==1
  case true=>simp only [Rb,N1 hN hb hw.q.w hw.t,Q8]
  cases e.py==2
  case true=>simp only [Rb,Q9,FP hN hw.q,Q8]
  cases e.py==3
  case false=>simp only [Q9,vF hN hb,Q8]
  simp only [Rb,Q9,vF hN hb,xu hN hb hw.q.w,mF,sn,Q8];rw [ig (by omega) (by omega),show ic e.Q5 0 ((w.parts.length:Int) - 1)=ju w e.Q5 from rfl];unfold w8;cases jj w
  · rfl
  cases hp:ju w e.Q5
  · rfl
  cases ic e.lj 0 9
  · rfl
  simp only [Rb,Bool.and_self,Q8,(kp hp).1];rfl
theorem B1 (w:g7) (e:ja):w8 w e=w∨(jj w=true∧ju w e.Q5=true∧(0≤e.lj∧e.lj≤9)∧w8 w e=ni w e.Q5 (vP (nth w.parts e.Q5) e.lj)):=by
  unfold w8;cases h:jj w&&(ju w e.Q5&&ic e.lj 0 9)
  · exact .inl rfl
  · simp only [Rg,ir] at h;exact .inr ⟨h.1,h.2.1,h.2.2,rfl⟩
end Go.Kx
namespace Go.Kx
open Go
open Go.IntKind (i64)
set_option linter.unusedVariables false
set_option linter.unusedSimpArgs false
set_option maxRecDepth 10000
structure Sg (c:Nat) (w:g7):Prop where
  len:w.parts.length≤3
  sz:∀ p,p ∈ w.parts→ij p≤c∧wP p
theorem Sg.mono {c d:Nat} {w:g7} (h:Sg c w) (hd:c≤d):Sg d w:=⟨h.len,fun p hp=>⟨Nat.le_trans (h.sz p hp).1 hd,(h.sz p hp).2⟩⟩
theorem Sg.qn {c:Nat} {w:g7} (h:Sg c w) (hc:c≤1048576):iY ij w.parts<gX:=by
  have hB:(16777216:Nat)=gX:=rfl;have h1:oU ij w.parts≤c * w.parts.length:=uy fun y hy=>(h.sz y hy).1;have h4:c * w.parts.length≤1048576 * 3:=Nat.mul_le_mul hc h.len;have:=h.len;unfold iY;omega
theorem Sg.t {c:Nat} {w:g7} (h:Sg c w) (hc:c≤1048576):Wt w :=
  ⟨⟨h.qn hc,fun p hp=>by have:=(h.sz p hp).1;omega,fun p hp=>(h.sz p hp).2⟩,fun hw=>⟨rfl,(Cr hw).2.1,fun p hp=>⟨by have:=(h.sz p hp).1;omega,(h.sz p hp).2⟩⟩⟩
theorem Sg.gR {c:Nat} {t:g7} (h:Sg c t) (p:Int):Sg c (hZ t p)∧(hZ t p).parts.length=t.parts.length:=by
  obtain ⟨_,h2,h3⟩:=zJ t p;refine ⟨⟨by rw [h2];exact h.len,fun q hq=>?_⟩,h2⟩;obtain ⟨y,hy,e1,e2⟩:=h3 q hq;obtain ⟨a,b⟩:=h.sz y hy;exact ⟨by omega,by unfold wP at *;rw [e2];exact b⟩
theorem Sg.step {c n k:Nat} {t:g7} (h:Sg c t) (hk:k<t.parts.length) (hc:c≤2000000):Sg (c+1300) (kY n k t)∧(kY n k t).parts.length=t.parts.length:=by
  obtain ⟨hT,hl⟩:=h.gR (k:Int)
  have e:(kY n k t).parts.length=t.parts.length:=by
    show ((hZ t (k:Int)).parts.set k _).length=_
    rw [List.length_set];exact hl
  refine ⟨⟨by rw [e];exact h.len,fun q hq=>?_⟩,e⟩
  rcases List.mem_or_eq_of_mem_set (show q ∈ (hZ t (k:Int)).parts.set k _ from hq) with h1 | h1
  · obtain ⟨a,b⟩:=hT.sz q h1;exact ⟨by omega,b⟩
  · subst h1;obtain ⟨a,b⟩:=hT.sz _ (j7 (l:=(hZ t (k:Int)).parts) (i:=(k:Int)) (by omega) (by omega));exact xG (n:=n) a (by omega) b (k:Int) (hZ t (k:Int)).Q1
theorem MP {n:Nat}:∀ (l:List cd) (k c:Nat) (t:g7),k+l.length=t.parts.length→c+1300 * l.length≤2000000→Sg c t→Sg (c+1300 * l.length) (foldI (fun k t (_:cd)=>kY n k t) k t l)
  | [],k,c,t,_,_,h=>h
  | y::l,k,c,t,hk,hc,h=>by
    simp only [List.length_cons] at hk hc ⊢;obtain ⟨a,b⟩:=h.step (n:=n) (k:=k) (by omega) (by omega);have:=MP (n:=n) l (k+1) (c+1300) (kY n k t) (by omega) (by omega) a;exact this.mono (by omega)
theorem Sg.tick {c:Nat} {w:g7} (h:Sg c w) (hc:c≤1000000):Sg (c+3900) (tick w):=by
  unfold Kx.tick;split
  · have hl:=h.len;exact (MP w.parts 0 c (g7.mk (i64.wrap (w.Q1+1)) w.parts) (by dsimp only;omega) (by omega) ⟨h.len,h.sz⟩).mono (by omega)
  · exact h.mono (by omega)
theorem Sg.put {c:Nat} {w:g7} (h:Sg c w) {q:Int} {z:cd} (hz:ij z≤c+300∧wP z):Sg (c+300) (ni w q z):=by
  refine ⟨by show (w.parts.set _ _).length≤3;rw [List.length_set];exact h.len,fun y hy=>?_⟩
  rcases List.mem_or_eq_of_mem_set (show y ∈ w.parts.set q.toNat z from hy) with a | rfl
  · have:=h.sz y a;exact ⟨by omega,this.2⟩
  · exact hz
theorem Sg.pJ {c:Nat} {w:g7} (h:Sg c w) (hc:c≤1000000) (e:ja):Sg (c+3900) (pJ w e).1:=by
  unfold Kx.pJ;cases e.py==1
  case true=>exact h.tick hc
  cases e.py==2
  case true =>
    show Sg (c+3900) (lH w e.Q5 e.lj e.call).1
    rcases G8 (h.t (by omega)).q e.Q5 e.lj e.call with q | ⟨q,z,hq,hn,e2⟩
    · rw [q];exact h.mono (by omega)
    · rw [e2];have:=h.sz _ (kp hq).2;have:=hn.sz;exact (h.put ⟨by omega,hn.w⟩).mono (by omega)
  cases e.py==3
  case false=>exact h.mono (by omega)
  show Sg (c+3900) (w8 w e)
  rcases B1 w e with q | ⟨_,hp,_,q⟩
  · rw [q];exact h.mono (by omega)
  · rw [q];have:=h.sz _ (kp hp).2;have h3:ij (vP (nth w.parts e.Q5) e.lj)=ij (nth w.parts e.Q5):=rfl;have h4:=this.1;exact (h.put (q:=e.Q5) (z:=vP (nth w.parts e.Q5) e.lj) ⟨by omega,this.2⟩).mono (by omega)
def od (t:g7×List il) (e:ja):g7×List il:=((pJ t.1 e).1,t.2++[(pJ t.1 e).2])
def DS (w:g7) (l:List ja):g7×List il:=l.foldl od (w,[])
def pS (b:List iO) (l:List ja):g7×List il:=bif !mH b || decide ((l.length:Int) > 200) then (g7.mk 0 [],[]) else DS (jY b) l
theorem Hs {α τ:Type} (f:τ→α→τ):∀ (l:List α) (k:Nat) (t:τ),foldI (fun _ t y=>f t y) k t l=l.foldl f t
  | [],_,_=>rfl
  | y::l,k,t=>Hs f l (k+1) (f t y)
structure Pl (c k:Nat) (t:g7×List il):Prop where
  sg:Sg (c+3900 * k) t.1
  len:t.2.length=k
theorem Pl.step {c k:Nat} {t:g7×List il} (h:Pl c k t) (hc:c≤200000) (hk:k<200) (e:ja):Pl c (k+1) (od t e) :=
  ⟨(h.sg.pJ (by omega) e).mono (by omega),by show (t.2++[_]).length=_;rw [List.length_append,h.len];rfl⟩
theorem yX:∀ (l:List iO) (a:gT),pR a l=true→∀ x,x ∈ l→vi x=true
  | [],_,_,x,hx=>by simp at hx
  | y::l,a,h,x,hx=>by
    unfold pR at h;simp only [Rg] at h
    rcases List.mem_cons.1 hx with rfl | hx
    · have ha:iC x.jq=true:=by
        have:=h.1;unfold kz at this;split at this
        · rename_i q;simp only [Rg] at q;exact q.1.2
        · simp at this
      unfold vi;rw [ha,h.2.1,h.2.2.1];rfl
    · exact yX l _ h.2.2.2 x hx
theorem JB {l:List Int} (h:mJ l=true):∀ (k:Nat) (y:Int),l[k]?=some y→(k:Int)≤y∧y≤3
  | 0,y,hy=>by
    have:=mq.1 h 0 y hy;unfold wN at this;simp only [Rg,ir] at this;omega
  | k+1,y,hy=>by
    have hk:=iU hy;have h0:=JB h k l[k] (List.getElem?_eq_getElem (by omega));have:=mq.1 h (k+1) y hy;unfold wN at this;simp only [Rg,ir,Nat.zero_add] at this;have h2:=this.2;simp [List.getElem?_eq_getElem (show k<l.length by omega)] at h2;omega
theorem jc {l:List Int} (h:mJ l=true):l.length≤4:=by
  by_cases q:l.length≤4
  · exact q
  · have:=JB h 4 l[4] (List.getElem?_eq_getElem (by omega));omega
theorem Ph {b:iO} (h:vi b=true):jI b≤100:=by
  unfold vi at h;simp only [Rg] at h;have h1:=(xF.1 h.2.1).1;have h2:=jc h.2.2;unfold jI lQ;omega
theorem Ns {b:List iO} (h:mH b=true):Sg 200 (jY b):=by
  unfold jY;rw [if_pos h];unfold mH at h;rw [Rg,ir] at h;have hk:=yX b _ h.1;refine ⟨by show (lI b).length≤3;unfold lI;rw [List.length_map];omega,fun p hp=>?_⟩;obtain ⟨x,hx,rfl⟩:=List.mem_map.1 (show p ∈ b.map _ from hp);have ok:=hk x hx;rw [show (oZ x).1=nT x from by unfold oZ;rw [if_pos ok]];refine ⟨?_,fun o ho=>?_⟩
  · rw [Bd];have:=Ph ok;omega
  · have:∀ o ∈ KI, -9223372036854775808≤o.QW:=by decide
    exact this o ho
end Go.Kx
namespace Go.Kx
open Go
open Go.IntKind (i64)
set_option linter.unusedVariables false
set_option linter.unusedSimpArgs false
set_option maxRecDepth 10000
structure TK (t u:List g6):Prop where
  tr:Tr u
  pg:iS gT.bh u=iS gT.bh t
  rt:iS gT.gS u=iS gT.gS t
  cp:iS gT.gW u=iS gT.gW t
theorem MT {t u:List g6} (h:Tr t) (len:u.length=5) (rC:(nth u 0).Q2=true) (B2:(nth u 0).Q4=-1) (dead:∀ r,r ∈ u→r.Q2=false→r=nX) (iw:∀ r,r ∈ u→iC r.iw=true)
    (lead:∀ (k:Nat) (r:g6),u[k]?=some r→r.Q2=true→leads u 5 (k:Int)=true) (pg:iS gT.bh u=iS gT.bh t) (rt:iS gT.gS u=iS gT.gS t) (cp:iS gT.gW u=iS gT.gW t):TK t u:=by
  refine ⟨⟨len,rC,B2,dead,iw,lead,?_⟩,pg,rt,cp⟩;obtain ⟨a1,a2,a3⟩:=tj u ⟨0,0,0⟩ 0 iw (by omega) (by omega) B8;obtain ⟨t1,t2,t3⟩:=h.iS;have hS:=iR.1 h.sum;simp only [Int.zero_add] at a1 a2 a3;exact iR.2 ⟨by omega,by omega,by omega⟩
theorem A1 {t:List g6}:∀ (n:Nat) (j:Int),leads t n j=true→leads t (n+1) j=true
  | 0,j,h=>by simp [leads] at h
  | n+1,j,h=>by
    unfold leads at h ⊢;simp only [Bool.or_eq_true,Rg] at h ⊢
    rcases h with h | ⟨h1,h2⟩
    · exact .inl h
    · exact .inr ⟨h1,A1 n _ h2⟩
theorem uc {t:List g6} {n:Nat} {j:Int} (h:leads t (n+1) j=true) (hj:j ≠ 0):iH t j=true∧leads t n (up t j)=true:=by
  unfold leads at h;simp only [Bool.or_eq_true,Rg,beq_iff_eq] at h;exact h.resolve_left hj
theorem BL {t:List g6} {i:Int} (hi:i ≠ 0) (hu:up t i=i):∀ n,leads t n i=false
  | 0=>rfl
  | n+1=>by
    cases h:leads t (n+1) i
    · rfl
    · have:=(uc h hi).2;rw [hu,BL hi hu n] at this;cases this
theorem wx {t:List g6} {i:Int} (h:iH t i=true):0≤i∧i≤4∧(nth t i).Q2=true:=by
  have:=kJ h;unfold iH at h;simp only [Rg] at h;exact ⟨this.1,this.2,h.2⟩
theorem H8 {t:List g6} {k:Int} (k0:0≤k) (k4:k≤4) (hk:(nth t k).Q2=false) (h0:(nth t 0).Q2=true) {f:Int} (h:leads t 5 f=true):leads t 4 f=true:=by
  cases h4:leads t 4 f
  case true=>rfl
  have key:∀ n j,leads t (n+1) j=true→leads t n j=false→(j=0∧n=0)∨(j ≠ 0∧iH t j=true∧leads t n (up t j)=true∧∀ m,n=m+1→leads t m (up t j)=false):=fun n j a b=>by
    by_cases hj:j=0
    · cases n with
      | zero=>exact .inl ⟨hj,rfl⟩
      | succ m=>unfold leads at b;rw [hj] at b;simp at b
    · obtain ⟨c1,c2⟩:=uc a hj;refine .inr ⟨hj,c1,c2,fun m e=>?_⟩;subst e;unfold leads at b;rw [c1] at b;simp only [Bool.or_eq_false_iff,Re] at b;exact b.2
  have r:∀ j,iH t j=true→j ≠ 0→1≤j∧j≤4∧j ≠ k:=fun j hl hj=>by
    obtain ⟨a,b,c⟩:=wx hl;refine ⟨by omega,b,fun e=>?_⟩;rw [e,hk] at c;cases c
  have hk0:k ≠ 0:=fun e=>by rw [e,h0] at hk;cases hk
  rcases key 4 f h h4 with ⟨_,q⟩ | ⟨n0,l0,a0,b0⟩
  · cases q
  rcases key 3 _ a0 (b0 3 rfl) with ⟨_,q⟩ | ⟨n1,l1,a1,b1⟩
  · cases q
  rcases key 2 _ a1 (b1 2 rfl) with ⟨_,q⟩ | ⟨n2,l2,a2,b2⟩
  · cases q
  rcases key 1 _ a2 (b2 1 rfl) with ⟨_,q⟩ | ⟨n3,l3,a3,b3⟩
  · cases q
  have n4:up t (up t (up t (up t f)))=0:=by
    unfold leads at a3;simpa [leads] using a3
  have r0:=r _ l0 n0;have r1:=r _ l1 n1;have r2:=r _ l2 n2;have r3:=r _ l3 n3
  have e01:f ≠ up t f:=fun e=>by rw [← e, ← e, ← e, ← e] at n4;exact n0 n4
  have e12:up t f ≠ up t (up t f):=fun e=>by rw [← e, ← e, ← e] at n4;exact n1 n4
  have e23:up t (up t f) ≠ up t (up t (up t f)):=fun e=>by rw [← e, ← e] at n4;exact n2 n4
  have e02:f ≠ up t (up t f):=fun e=>by rw [← e, ← e] at n4;exact n0 n4
  have e13:up t f ≠ up t (up t (up t f)):=fun e=>by rw [← e] at n4;exact n2 n4
  have e03:f ≠ up t (up t (up t f)):=fun e=>by rw [← e] at n4;exact n1 n4
  generalize up t (up t (up t f))=d at *;generalize up t (up t f)=c at *;generalize up t f=b at *;omega
theorem Bc:∀ (l:List Bool) (j k:Nat),vC j l=some k→j≤k∧l[k - j]?=some false
  | [],j,k,h=>by simp [vC] at h
  | b::l,j,k,h=>by
    unfold vC at h;cases b
    · simp only [Bool.false_eq_true,if_false,Option.some.injEq] at h;subst h;simp
    · simp only [if_true] at h;obtain ⟨a,c⟩:=Bc l (j+1) k h;refine ⟨by omega,?_⟩;rw [show k - j=(k - (j+1))+1 by omega,List.getElem?_cons_succ];exact c
theorem Ol {t:List g6} {f:Int} {a:gT} (j:Int) (h:(iQ t f a).2=true) (h0:0≤j):(nth (iQ t f a).1 j).Q2=(nth t j).Q2∧(nth (iQ t f a).1 j).Q4=(nth t j).Q4:=by
  obtain ⟨h1,h2⟩:=vw h;have hT:=jL.1 h1;obtain ⟨f0,f4⟩:=kJ h2;have hl:=hT.len;unfold iQ;split
  · split
    · exact vp f0 (by omega) _ h0
    · exact ⟨rfl,rfl⟩
  · exact ⟨rfl,rfl⟩
theorem Ix {t:List g6} {f:Int} {a:gT} (h:(mA t f a).2.2=true):TK t (mA t f a).1:=by
  unfold mA at h ⊢;cases hp:(iQ t f a).2
  case false=>rw [hp] at h;simp at h
  rw [hp] at h;simp only [if_true] at h ⊢
  cases hf:vC 0 (t.map g6.Q2) with
  | none=>rw [hf] at h;simp at h
  | some k =>
    simp only;obtain ⟨tOk,lf⟩:=vw hp;have hT:=jL.1 tOk;obtain ⟨hu,ha,hg⟩:=vn hp;have hpl:=ET t f a;have hup:=fun j=>Ol (t:=t) (f:=f) (a:=a) j hp;generalize (iQ t f a).1=u at *;obtain ⟨_,hk⟩:=Bc _ _ _ hf;rw [Nat.sub_zero, ← hpl,List.getElem?_map] at hk;obtain ⟨r,hr,hrl⟩:=Option.map_eq_some_iff.1 hk;have hl:=hu.len;have hk5:k<u.length:=iU hr;have hz:=hu.dead r (List.mem_of_getElem? hr) hrl;have hnk:nth u (k:Int)=r:=qk hr
    have n0:k ≠ 0:=fun e=>by
      subst e;have:=hu.rC;rw [show (0:Int)=((0:Nat):Int) from rfl,hnk,hrl] at this;cases this
    have hn:∀ j:Int,0≤j→nth (u.set k (g6.mk true f a)) j=if (k:Int)=j then g6.mk true f a else nth u j:=fun j hj=>by
      have:=wX (t:=u) (i:=(k:Int)) (z:=g6.mk true f a) (by omega) (by omega) hj
      rwa [Int.toNat_natCast] at this
    have hts:∀ g:gT→Int,iS g (u.set k (g6.mk true f a))=iS g u+g a:=fun g=>by
      rw [xT g u k r _ hr]
      have e1:qw g r=0:=by unfold qw;rw [hrl];rfl
      have e2:qw g (g6.mk true f a)=g a:=rfl;rw [e1,e2];omega
    have lst:∀ (n:Nat) (j:Int),leads u n j=true→leads (u.set k (g6.mk true f a)) n j=true:=by
      intro n
      induction n with
      | zero=>intro j hj;simp [leads] at hj
      | succ n ih =>
        intro j hj
        by_cases j0:j=0
        · unfold leads;rw [j0];rfl
        · obtain ⟨c1,c2⟩:=uc hj j0;obtain ⟨d0,d4,d5⟩:=wx c1
          have hne:(k:Int) ≠ j:=fun e=>by rw [← e,hnk,hrl] at d5;cases d5
          have e1:nth (u.set k (g6.mk true f a)) j=nth u j:=by rw [hn j d0,if_neg hne]
          have e2:up (u.set k (g6.mk true f a)) j=up u j:=by unfold up;rw [e1]
          have e3:iH (u.set k (g6.mk true f a)) j=true:=by unfold iH at c1 ⊢;rw [e1];exact c1
          unfold leads;rw [e2,e3,ih _ c2];simp
    obtain ⟨f0,f4,fl⟩:=wx lf
    have ful:(nth u f).Q2=true:=by rw [(hup f f0).1];exact fl
    have fu5:leads u 5 f=true:=by
      have:=hu.lead f.toNat _ (jv (l:=u) f0 (by omega)) ful
      rwa [Int.toNat_of_nonneg f0] at this
    have fu4:=H8 (t:=u) (k:=(k:Int)) (by omega) (by omega) (by rw [hnk];exact hrl) hu.rC fu5;refine MT hT (by rw [List.length_set];exact hl) ?_ ?_ ?_ ?_ ?_ ?_ ?_ ?_
    · rw [hn 0 (by omega),if_neg (by omega)];exact hu.rC
    · rw [hn 0 (by omega),if_neg (by omega)];exact hu.B2
    · intro x hx hd
      rcases List.mem_or_eq_of_mem_set hx with q | q
      · exact hu.dead x q hd
      · rw [q] at hd;cases hd
    · intro x hx
      rcases List.mem_or_eq_of_mem_set hx with q | q
      · exact hu.iw x q
      · rw [q];exact ha
    · intro j x hx hxl
      by_cases e:k=j
      · subst e;have e1:=hn (k:Int) (by omega);rw [if_pos rfl] at e1;unfold leads;rw [show up (u.set k (g6.mk true f a)) (k:Int)=f from by unfold up;rw [e1],lst 4 f fu4,show iH (u.set k (g6.mk true f a)) (k:Int)=true from by unfold iH;rw [e1,ir.2 ⟨by omega,by omega⟩];rfl];simp
      · rw [List.getElem?_set_ne e] at hx;exact lst 5 _ (hu.lead j x hx hxl)
    · rw [hts,hg gT.bh fun _ _=>rfl];omega
    · rw [hts,hg gT.gS fun _ _=>rfl];omega
    · rw [hts,hg gT.gW fun _ _=>rfl];omega
theorem Kc {t:List g6} {f g:Int} {a:gT} (h:(nu t f g a).2=true):TK t (nu t f g a).1:=by
  unfold nu at h ⊢;cases hp:(iQ t f a).2&&iH t g
  case false=>rw [hp] at h;simp at h
  simp only [if_true];rw [Rg] at hp;obtain ⟨tOk,lf⟩:=vw hp.1;have hT:=jL.1 tOk;obtain ⟨hu,ha,hg⟩:=vn hp.1;have g1:=hg gT.bh fun _ _=>rfl;have g2:=hg gT.gS fun _ _=>rfl;have g3:=hg gT.gW fun _ _=>rfl;obtain ⟨t1,t2,t3⟩:=hT.iS;have hS:=iR.1 hT.sum;obtain ⟨_,b2,b3,b4,b5⟩:=zq hu g ha (by omega) (by omega) (by omega);exact ⟨b2,by omega,by omega,by omega⟩
theorem HO {g:gT→Int} {f:g6→g6} (h:∀ r,(f r).Q2=r.Q2∧(f r).iw=r.iw):∀ t:List g6,iS g (t.map f)=iS g t
  | []=>rfl
  | r::t=>by
    show (if (f r).Q2 then g (f r).iw else 0)+iS g (t.map f)=(if r.Q2 then g r.iw else 0)+iS g t
    rw [(h r).1,(h r).2,HO h t]
theorem D1 (i u:Int) (r:g6):(mY i u r).Q2=r.Q2∧(mY i u r).iw=r.iw:=by
  unfold mY;split<;>exact ⟨rfl,rfl⟩
theorem JZ {t:List g6} {i:Int} (h:(ny t i).2=true):TK t (ny t i).1:=by
  unfold ny at h ⊢;cases hc:(jD t&&iH t i)&&(i != 0)
  case false=>rw [hc] at h;simp at h
  simp only [if_true];simp only [Rg,bne_iff_ne] at hc;obtain ⟨⟨tOk,li⟩,i0⟩:=hc;have hT:=jL.1 tOk;have hl:=hT.len;obtain ⟨a0,a4,al⟩:=wx li
  have lead5:leads t 5 i=true:=by
    have:=hT.lead i.toNat _ (jv (l:=t) a0 (by omega)) al
    rwa [Int.toNat_of_nonneg a0] at this
  have hne:up t i ≠ i:=fun e=>by rw [BL i0 e 5] at lead5;cases lead5
  have lu:iH t (up t i)=true:=by
    by_cases e:up t i=0
    · rw [e];unfold iH;rw [hT.rC];rfl
    · exact (uc (uc lead5 i0).2 e).1
  obtain ⟨u0,u4,ul⟩:=wx lu;have hfit:=Ha hT ⟨u0,u4⟩ ⟨a0,a4⟩ hne ul al
  have hW:iC (iD (nth t (up t i)).iw (nth t i).iw)=true:=by
    unfold kz at hfit;split at hfit
    · rename_i q;simp only [Rg] at q;exact q.2
    · simp at hfit
  unfold dropped;generalize hu:up t i=u at *;generalize hw:mB (nth t u) (iD (nth t u).iw (nth t i).iw)=W
  have Wl:W.Q2=true:=by rw [← hw];exact ul
  have Wp:W.Q4=(nth t u).Q4:=by rw [← hw];rfl
  have Wb:W.iw=iD (nth t u).iw (nth t i).iw:=by rw [← hw];rfl
  have hn:∀ j:Int,0≤j→j≤4→nth (((t.set u.toNat W).set i.toNat nX).map (mY i u)) j=mY i u (if i=j then nX else if u=j then W else nth t j):=fun j j0 j4=>by
    have e1:=wX (t:=t.set u.toNat W) (i:=i) (z:=nX) a0 (by rw [List.length_set];omega) j0;have e2:=wX (t:=t) (i:=u) (z:=W) u0 (by omega) j0;rw [e2] at e1;rw [← e1]
    have hlen:j<((((t.set u.toNat W).set i.toNat nX)).length:Int):=by simp only [List.length_set];omega
    have g:=jv (l:=(t.set u.toNat W).set i.toNat nX) j0 hlen
    have:(((t.set u.toNat W).set i.toNat nX).map (mY i u))[j.toNat]?=some (mY i u (nth ((t.set u.toNat W).set i.toNat nX) j)):=by rw [List.getElem?_map,g];rfl
    have:=qk this
    rwa [Int.toNat_of_nonneg j0] at this
  generalize hTT:((t.set u.toNat W).set i.toNat nX).map (mY i u)=T at *
  have hTl:T.length=5:=by rw [← hTT];simp only [List.length_map,List.length_set];exact hl
  have hni:nth T i=nX:=by rw [hn i a0 a4,if_pos rfl];unfold mY nX;rfl
  have hnl:∀ j:Int,0≤j→j≤4→i ≠ j→(nth T j).Q2=(nth t j).Q2:=fun j j0 j4 e=>by
    rw [hn j j0 j4,if_neg e,(D1 i u _).1];split
    · rename_i q;subst q;rw [Wl,ul]
    · rfl
  have hnp:∀ j:Int,0≤j→j≤4→i ≠ j→(nth t j).Q2=true→(nth T j).Q4=if (nth t j).Q4=i then u else (nth t j).Q4:=fun j j0 j4 e hv=>by
    rw [hn j j0 j4,if_neg e]
    have key:∀ x:g6,x.Q2=true→(mY i u x).Q4=if x.Q4=i then u else x.Q4:=fun x hx=>by
      unfold mY
      by_cases q:x.Q4=i
      · rw [if_pos q,hx,if_pos (by simpa using q)]
      · rw [if_neg q,hx,if_neg (by simpa using q)]
    split
    · rename_i q;subst q;rw [key W Wl,Wp]
    · exact key _ hv
  have lst:∀ (n:Nat) (j:Int),j ≠ i→leads t n j=true→leads T n j=true:=by
    intro n
    induction n using Nat.strongRecOn with
    | _ n ih =>
      intro j hj hL
      cases n with
      | zero=>simp [leads] at hL
      | succ n =>
        by_cases j0:j=0
        · unfold leads;rw [j0];rfl
        obtain ⟨c1,c2⟩:=uc hL j0;obtain ⟨d0,d4,d5⟩:=wx c1
        have e3:iH T j=true:=by unfold iH;rw [hnl j d0 d4 (Ne.symm hj),d5,ir.2 ⟨d0,d4⟩];rfl
        have e2:=hnp j d0 d4 (Ne.symm hj) d5
        have goal:leads T n (nth T j).Q4=true:=by
          by_cases q:(nth t j).Q4=i
          · rw [e2,if_pos q]
            have c3:leads t n i=true:=by rw [← q];exact c2
            cases n with
            | zero=>simp [leads] at c3
            | succ m =>
              have c4:=(uc c3 i0).2;rw [hu] at c4;exact A1 m u (ih m (by omega) u hne c4)
          · rw [e2,if_neg q];exact ih n (by omega) _ q c2
        unfold leads;rw [e3,show up T j=(nth T j).Q4 from rfl,goal];simp
  have hidx:∀ (k:Nat) (x:g6),T[k]?=some x→k<5∧x=nth T (k:Int):=fun k x hx=>⟨by have:=iU hx;omega,(qk hx).symm⟩;have hgu:=jv (l:=t) u0 (by omega)
  have hgi:(t.set u.toNat W)[i.toNat]?=some (nth t i):=by rw [List.getElem?_set_ne (by omega)];exact jv a0 (by omega)
  have hts:∀ g:gT→Int,g W.iw=g (nth t u).iw+g (nth t i).iw→iS g T=iS g t:=fun g hg=>by
    rw [← hTT,HO (D1 i u),xT g _ _ _ _ hgi,xT g _ _ _ _ hgu];have e1:qw g (nth t u)=g (nth t u).iw:=if_pos ul;have e2:qw g (nth t i)=g (nth t i).iw:=if_pos al;have e3:qw g W=g W.iw:=if_pos Wl;have e4:qw g nX=0:=rfl;rw [e1,e2,e3,e4,hg];omega
  have bu:=iR.1 (hT.iw _ (j7 u0 (by omega)));have bi:=iR.1 (hT.iw _ (j7 a0 (by omega)));refine MT hT hTl ?_ ?_ ?_ ?_ ?_ ?_ ?_ ?_
  · rw [hnl 0 (by omega) (by omega) i0];exact hT.rC
  · rw [hnp 0 (by omega) (by omega) i0 hT.rC,hT.B2,if_neg (by omega)]
  · intro x hx hd;obtain ⟨k,hk⟩:=List.getElem?_of_mem hx;obtain ⟨k5,e⟩:=hidx k x hk;rw [e] at hd ⊢
    by_cases q:i=(k:Int)
    · rw [← q,hni]
    · have hd':=hd;rw [hnl _ (by omega) (by omega) q] at hd';have hz:=hT.dead _ (j7 (l:=t) (i:=(k:Int)) (by omega) (by omega)) hd';rw [hn _ (by omega) (by omega),if_neg q,if_neg (fun e=>by rw [← e,ul] at hd';cases hd'),hz];rfl
  · intro x hx;obtain ⟨k,hk⟩:=List.getElem?_of_mem hx;obtain ⟨k5,e⟩:=hidx k x hk;rw [e,hn _ (by omega) (by omega),(D1 i u _).2];split
    · exact FB
    · split
      · rw [Wb];exact hW
      · exact hT.iw _ (j7 (by omega) (by omega))
  · intro k x hk hxl;obtain ⟨k5,e⟩:=hidx k x hk;rw [e] at hxl
    have q:(k:Int) ≠ i:=fun q=>by rw [q,hni] at hxl;cases hxl
    rw [hnl _ (by omega) (by omega) (Ne.symm q)] at hxl;exact lst 5 _ q (hT.lead k _ (jv (l:=t) (i:=(k:Int)) (by omega) (by omega)) hxl)
  · refine hts _ ?_;rw [Wb];exact ig (by omega) (by omega)
  · refine hts _ ?_;rw [Wb];exact ig (by omega) (by omega)
  · refine hts _ ?_;rw [Wb];exact ig (by omega) (by omega)
end Go.Kx
namespace Go.Kx
open Go
open Go.IntKind (i64)
set_option linter.unusedVariables false
set_option linter.unusedSimpArgs false
set_option maxRecDepth 10000
structure Gd (p q:cd):Prop where
  ok:ik q=true
  sp:Kx.sp q=Kx.sp p
theorem Gd.self {p:cd} (h:ik p=true):Gd p p:=⟨h,rfl⟩
theorem mg {p:cd} (h:ik p=true):Hk p.heap:=by
  unfold ik at h;simp only [Rg] at h;exact kq.1 h.2.2.2.1
theorem xL {p:cd} (h:ik p=true) {H:gV} (hH:Hk H) (hg:ll H.ag=ll p.heap.ag):Gd p (m4 p H):=by
  have hA:=kq.2 hH;refine ⟨?_,?_⟩
  · unfold ik at *;simp only [Rg] at h ⊢;obtain ⟨a,b,c,d,e⟩:=h;exact ⟨a,b,c,hA,e⟩
  · unfold Kx.sp
    show gT.mk (_+ll H.ag+_) _ _=_
    rw [hg];rfl
theorem BW {p:cd} (h:ik p=true) {t:List g6} (ht:TK p.QR t):Gd p (wI p t):=by
  have hA:=jL.2 ht.tr;refine ⟨?_,?_⟩
  · unfold ik at *;simp only [Rg] at h ⊢;obtain ⟨a,b,c,d⟩:=h;exact ⟨a,b,hA,d⟩
  · unfold Kx.sp
    show gT.mk (iS gT.bh t+_+_) (iS gT.gS t+_) (iS gT.gW t+_)=_
    rw [ht.pg,ht.rt,ht.cp];rfl
theorem HL {p:cd} (h:ik p=true) {t:List i7} (h3:t.length≤3) (ht:∀ x,x ∈ t→ly x=true):Gd p (vt p t):=by
  refine ⟨?_,rfl⟩;unfold ik at *;simp only [Rg,List.all_eq_true] at h ⊢;obtain ⟨a,b,c,d,e,f,g⟩:=h;refine ⟨a,b,c,d,?_,ht,g⟩
  show (!decide ((t.length:Int) > 3))=true
  rw [decide_eq_false (by omega)];rfl
theorem G6 {p:cd} (h:ik p=true):p.gR.length≤3∧∀ x,x ∈ p.gR→ly x=true:=by
  unfold ik at h;simp only [Rg,List.all_eq_true,Bool.not_eq_true',decide_eq_false_iff_not] at h;obtain ⟨a,b,c,d,e,f,g⟩:=h;exact ⟨by omega,f⟩
theorem Hk.ag {h:gV} (q:Hk h) {l:List gE} (hl:Ar l):Hk (gV.mk l h.gc):=⟨hl,q.ph,q.rd,q.gr,q.nd⟩
theorem wQ {l:List gE} {i:Int} (h0:0≤i) (h1:i<(l.length:Int)) {z:gE} (e:z.bh=(nth l i).bh):ll (l.set i.toNat z)=ll l:=by
  rw [uE h0 h1];omega
theorem Lz {h:gV} (q:Hk h) (i:Int):Hk (rm h i)∧ll (rm h i).ag=ll h.ag:=by
  unfold rm;cases c:kb h&&ic i 0 9
  · exact ⟨q,rfl⟩
  · rw [Rg,ir] at c;exact ⟨q.jG c.2.1 c.2.2,C0 q.ar c.2.1 c.2.2⟩
theorem CU {h:gV} (q:Hk h) (x i:Int):Hk (mi h x i)∧ll (mi h x i).ag=ll h.ag:=by
  unfold mi;cases decide (x ≥ 0)
  · exact ⟨q,rfl⟩
  · exact Lz q i
theorem Ar.bx {l:List gE} (h:Ar l) {i:Int} (h0:0≤i) (h9:i≤9) (hk:(nth l i).py ≠ 0) (hb:0≤(nth l i).box):(nth l (nth l i).box).py ≠ 0:=by
  by_cases e:i=0
  · subst e;rw [h.zr] at hb;exact absurd hb (by decide)
  · have:=h.len;exact h.box i.toNat _ (jv h0 (by omega)) (by omega) hk hb
theorem Ar.O9 {l:List gE} (h:Ar l) {i:Int} (h0:0≤i) (h9:i≤9) {z:gE} (hk:z.py=(nth l i).py) (hb:i=0→z.box=-1) (hb':z.py ≠ 0→0≤z.box→(nth l z.box).py ≠ 0)
    (hl:∀ y,y ∈ z.gZ→0≤y→(nth l y).py ≠ 0) (ht:i=0→z.iF=1000000) (ok:iN z=true):Ar (l.set i.toNat z):=by
  have h10:=h.len
  have hn:∀ j,0≤j→nth (l.set i.toNat z) j=if i=j then z else nth l j:=fun j hj=>ko h0 (by omega) hj
  have hkind:∀ j,0≤j→(nth (l.set i.toNat z) j).py=(nth l j).py:=fun j hj=>by
    rw [hn j hj];split
    · rename_i e;rw [← e];exact hk
    · rfl
  refine ⟨by rw [List.length_set];exact h10,by rw [hkind 0 (by omega)];exact h.sv,?_,?_,?_,?_,?_⟩
  · rw [hn 0 (by omega)];split
    · rename_i e;exact hb e
    · exact h.zr
  · rw [hn 0 (by omega)];split
    · rename_i e;exact ht e
    · exact h.zG
  · intro o ho
    rcases List.mem_or_eq_of_mem_set ho with q | rfl
    · exact h.ok o q
    · exact ok
  · intro o ho y hy y0;rw [hkind y y0]
    rcases List.mem_or_eq_of_mem_set ho with q | rfl
    · exact h.gZ o q y hy y0
    · exact hl y hy y0
  · intro k o hko k0 hne b0;rw [hkind o.box b0]
    by_cases e:k=i.toNat
    · subst e;rw [List.getElem?_set_self (by omega)] at hko;have:z=o:=Option.some.inj hko;subst this;exact hb' hne b0
    · rw [List.getElem?_set_ne (Ne.symm e)] at hko;exact h.box k o hko k0 hne b0
theorem yR {o:gE} (h:o.py ≠ 0):(o.py==0)=false:=by simpa using h
theorem Ka {l:List gE} {now me h k:Int} (q:jl l now me h k=0) (k0:k ≠ 0):(nth l (hD l now me h)).py=k:=(kU q).2.2.2.2 k0
theorem LR {l:List gE} {now me h k:Int} (q:jl l now me h k=0):nQ h=true:=by
  unfold jl at q;cases e:nQ h
  · rw [e] at q;simp at q
  · rfl
theorem GZ {p:cd} (hp:lB p) (me now:Int) (c:iA):Gd p (uW p me now c).2.2:=by
  unfold uW;cases q1:!ic c.b 0 1
  case true=>exact Gd.self hp.ok
  cases q2:jl p.heap.ag now me c.a 0 != 0
  case true=>exact Gd.self hp.ok
  cases q3:(c.py==2)&&(jl p.heap.ag now me c.c 0 != 0)
  case true=>exact Gd.self hp.ok
  simp only [Q9];obtain ⟨ar,g0,g9,gk,_⟩:=kU (jM q2)
  have hx:∀ x,x=(bif c.py==2 then hD p.heap.ag now me c.c else -1)→x=-1∨(0≤x∧x≤9∧(nth p.heap.ag x).py ≠ 0):=fun x e=>by
    cases k2:c.py==2
    · rw [k2] at e;exact .inl e
    · rw [k2] at e q3;have:=kU (jM (by simpa using q3));rw [e];exact .inr ⟨this.2.1,this.2.2.1,this.2.2.2.1⟩
  have hx:=hx _ rfl;generalize (bif c.py==2 then hD p.heap.ag now me c.c else -1)=x at *;generalize hD p.heap.ag now me c.a=i at *;have hi:=ar.at g0 g9;have hl:=ar.len;have ho:=ar.ok _ hi.2;have hk:=yR gk;have hL:=nE ho hk;have hb:=mR ho (yO hk)
  have okz:iN (linked (nth p.heap.ag i) c.b x)=true:=by
    refine o6 ho hk rfl rfl hb.1 rfl hb.2.2.1 rfl ?_ rfl rfl rfl;unfold lZ at hL ⊢;simp only [Rg,List.all_eq_true] at hL ⊢;refine ⟨fun y hy=>?_,hL.2.1,hL.2.2.1,?_,hL.2.2.2.2⟩
    · rcases List.mem_or_eq_of_mem_set hy with q | q
      · exact hL.1 y q
      · rw [q,ir];omega
    · show (((List.set _ _ _).length:Int)==2)=true
      rw [List.length_set];exact hL.2.2.2.1
  have arz:Ar (p.heap.ag.set i.toNat (linked (nth p.heap.ag i) c.b x)):=by
    refine ar.O9 g0 g9 rfl (fun e=>by rw [e];exact ar.zr) (fun _ b=>ar.bx g0 g9 gk b) (fun y hy y0=>?_) (fun e=>by rw [e];exact ar.zG) okz
    rcases List.mem_or_eq_of_mem_set hy with q | q
    · exact ar.gZ _ hi.2 y q y0
    · subst q
      rcases hx with q | q
      · omega
      · exact q.2.2
  obtain ⟨s1,s2⟩:=CU ((mg hp.ok).ag arz) x x;exact xL hp.ok s1 (s2.trans (wQ g0 (by omega) rfl))
theorem Hg {p:cd} (hp:lB p) (me now:Int) (c:iA):Gd p (uL p me now c).2.2:=by
  unfold uL;cases q2:jl p.heap.ag now me c.a 0 != 0
  case true=>exact Gd.self hp.ok
  cases q1:hD p.heap.ag now me c.a==0
  case true=>exact Gd.self hp.ok
  cases q3:(c.py==4)&&(jl p.heap.ag now me c.b 1 != 0)
  case true=>exact Gd.self hp.ok
  simp only [Q9];obtain ⟨ar,g0,g9,gk,_⟩:=kU (jM q2)
  have hx:∀ x,x=(bif c.py==4 then hD p.heap.ag now me c.b else -1)→x=-1∨(0≤x∧x≤9∧(nth p.heap.ag x).py ≠ 0):=fun x e=>by
    cases k2:c.py==4
    · rw [k2] at e;exact .inl e
    · rw [k2] at e q3;have:=kU (jM (by simpa using q3));rw [e];exact .inr ⟨this.2.1,this.2.2.1,this.2.2.2.1⟩
  have hx:=hx _ rfl;generalize (bif c.py==4 then hD p.heap.ag now me c.b else -1)=x at *;generalize hD p.heap.ag now me c.a=i at *
  have hi0:i ≠ 0:=by simpa using q1
  have hi:=ar.at g0 g9;have hl:=ar.len;have ho:=ar.ok _ hi.2;have hk:=yR gk;have hL:=nE ho hk;have hb:=mR ho (yO hk)
  have okz:iN (boxed (nth p.heap.ag i) x)=true:=by
    refine o6 ho hk rfl rfl ?_ rfl hb.2.2.1 rfl hL rfl rfl rfl
    show ic x (-1) 9=true
    rw [ir];omega
  have arz:Ar (p.heap.ag.set i.toNat (boxed (nth p.heap.ag i) x)):=by
    refine ar.O9 g0 g9 rfl (fun e=>absurd e hi0) (fun _ b=>?_) (fun y hy y0=>ar.gZ _ hi.2 y hy y0) (fun e=>absurd e hi0) okz;have b:0≤x:=b
    rcases hx with q | q
    · omega
    · exact q.2.2
  obtain ⟨s1,s2⟩:=CU ((mg hp.ok).ag arz) x i;exact xL hp.ok s1 (s2.trans (wQ g0 (by omega) rfl))
theorem B4 {p:cd} (h:ik p=true) {i:Int} (g0:0≤i) (g9:i≤9) {z:gE} (hk:z.py=(nth p.heap.ag i).py) (hb:z.box=(nth p.heap.ag i).box) (hl:z.gZ=(nth p.heap.ag i).gZ) (ht:i=0→z.iF=(nth p.heap.ag i).iF)
    (hg:z.bh=(nth p.heap.ag i).bh) (ok:iN z=true):Gd p (mu p (p.heap.ag.set i.toNat z)):=by
  have ar:=iT h;have hlen:=ar.len;exact xL h ((mg h).ag (ar.swap g0 g9 hk hb hl ht ok)) (wQ g0 (by omega) hg)
theorem GX {p:cd} (hp:lB p) (me now:Int) (c:iA):Gd p (jT p me now c).2.2:=by
  unfold jT;cases q2:jl p.heap.ag now me c.a 2 != 0
  case true=>exact Gd.self hp.ok
  cases q1:!ic c.b 0 (((nth p.heap.ag (hD p.heap.ag now me c.a)).QV.length:Int) - 1)
  case true=>exact Gd.self hp.ok
  cases c.py==7
  case true=>exact Gd.self hp.ok
  cases q3:!ic c.c 0 999
  case true=>exact Gd.self hp.ok
  simp only [Q9];obtain ⟨ar,g0,g9,gk,_⟩:=kU (jM q2);generalize hD p.heap.ag now me c.a=i at *;have ho:=ar.ok _ (ar.at g0 g9).2;have hk:=yR gk;have hL:=nE ho hk;have hb:=mR ho (yO hk);refine B4 hp.ok g0 g9 rfl rfl rfl (fun _=>rfl) rfl (o6 ho hk rfl rfl hb.1 rfl hb.2.2.1 rfl ?_ rfl rfl rfl);unfold lZ at hL ⊢;simp only [Rg,List.all_eq_true] at hL ⊢;refine ⟨hL.1,fun y hy=>?_,hL.2.2.1,hL.2.2.2.1,?_,hL.2.2.2.2.2⟩
  · rcases List.mem_or_eq_of_mem_set hy with q | q
    · exact hL.2.1 y q
    · rw [q];simpa using q3
  · show (((List.set _ _ _).length:Int)==_)=true
    rw [List.length_set];exact hL.2.2.2.2.1
theorem J8 {a b:gT} (h:(kz a b).2=true):(kz a b).1=⟨a.bh+b.bh,a.gS+b.gS,a.gW+b.gW⟩∧iC (kz a b).1=true∧iC b=true:=by
  unfold kz at h ⊢;cases q:iC a&&iC b&&iC (iD a b)
  · rw [q] at h;simp at h
  · simp only [if_true];simp only [Rg] at q;have a1:=iR.1 q.1.1;have b1:=iR.1 q.1.2;refine ⟨?_,q.2,q.1.2⟩;unfold iD;rw [ig (by omega) (by omega),ig (by omega) (by omega),ig (by omega) (by omega)]
theorem HT {p:cd} (h:ik p=true) {f:Int} {a:gT} (hc:oc p f a=true):ik (qy p f a)=true∧iS gT.bh (qy p f a).QR=iS gT.bh p.QR - a.bh ∧
    (qy p f a).gP.bh=p.gP.bh∧iS gT.gS (qy p f a).QR+(qy p f a).gP.gS=iS gT.gS p.QR+p.gP.gS∧iS gT.gW (qy p f a).QR+(qy p f a).gP.gW=iS gT.gW p.QR - a.gW+p.gP.gW:=by
  unfold oc at hc;rw [Rg] at hc;obtain ⟨hT,ha,hg⟩:=vn hc.1;obtain ⟨e,s1,s2⟩:=J8 hc.2;have g1:=hg gT.bh fun _ _=>rfl;have g2:=hg gT.gS fun _ _=>rfl;have g3:=hg gT.gW fun _ _=>rfl;have hA:=jL.2 hT;refine ⟨?_,g1,?_,?_,?_⟩
  · unfold ik pX at *;simp only [Rg] at h ⊢;obtain ⟨a,b,c,d,e,f,g1,g2,g3,g4⟩:=h;exact ⟨a,b,hA,d,e,f,g1,g2,s1,g4⟩
  · show (kz p.gP (gT.mk 0 a.gS 0)).1.bh=_
    rw [e];exact Int.add_zero _
  · show iS gT.gS (iQ p.QR f a).1+(kz p.gP (gT.mk 0 a.gS 0)).1.gS=_
    rw [e,g2];dsimp only;omega
  · show iS gT.gW (iQ p.QR f a).1+(kz p.gP (gT.mk 0 a.gS 0)).1.gW=_
    rw [e,g3];dsimp only;omega
theorem Mz {p q:cd} (h1:iS gT.bh q.QR+ll q.heap.ag+q.gP.bh=iS gT.bh p.QR+ll p.heap.ag+p.gP.bh) (h2:iS gT.gS q.QR+q.gP.gS=iS gT.gS p.QR+p.gP.gS) (h3:iS gT.gW q.QR+q.gP.gW=iS gT.gW p.QR+p.gP.gW):sp q=sp p:=by
  unfold sp;rw [h1,h2,h3]
theorem D8 {p:cd} (hp:lB p) (me now:Int) (c:iA):Gd p (ss p me now c).2.2:=by
  unfold ss;cases q2:jl p.heap.ag now me c.a 0 != 0
  case true=>exact Gd.self hp.ok
  cases q1:(hD p.heap.ag now me c.a==0) || (!ic c.b 1 1000 || decide (i64.wrap ((nth p.heap.ag (hD p.heap.ag now me c.a)).iF+c.b) > 1000000))
  case true=>exact Gd.self hp.ok
  cases q3:!oc p (kK p (nth p.heap.ag (hD p.heap.ag now me c.a)).res) (gT.mk 0 (i64.wrap ((nth p.heap.ag (hD p.heap.ag now me c.a)).bh * c.b)) 0)
  case true=>exact Gd.self hp.ok
  simp only [Q9];obtain ⟨ar,g0,g9,gk,_⟩:=kU (jM q2)
  have q3:oc p (kK p (nth p.heap.ag (hD p.heap.ag now me c.a)).res) (gT.mk 0 (i64.wrap ((nth p.heap.ag (hD p.heap.ag now me c.a)).bh * c.b)) 0)=true:=by simpa using q3
  generalize hD p.heap.ag now me c.a=i at *;simp only [Bool.or_eq_false_iff,Bool.not_eq_false',ir,decide_eq_false_iff_not,beq_eq_false_iff_ne] at q1;obtain ⟨i0,b1,t1⟩:=q1;have ho:=ar.ok _ (ar.at g0 g9).2;have hl:=ar.len;have hk:=yR gk;have hb:=mR ho (yO hk);have ht:=ir.1 hb.2.2.1;obtain ⟨p1,p2,p3,p4,p5⟩:=HT hp.ok q3
  have g:=B4 (i:=i) (z:=nq (nth p.heap.ag i) (i64.wrap ((nth p.heap.ag i).iF+c.b))) p1 g0 g9 rfl rfl rfl (fun e=>absurd e i0) rfl (by
    refine o6 ho hk rfl rfl hb.1 rfl ?_ rfl (show lZ (nth p.heap.ag i)=true from nE ho hk) rfl rfl rfl;rw [ig (by omega) (by omega)] at t1 ⊢
    show ic ((nth p.heap.ag i).iF+c.b) 0 1000000=true
    rw [ir];omega)
  refine ⟨g.ok,g.sp.trans (Mz ?_ p4 ?_)⟩
  · rw [p2,p3,JS];dsimp only;omega
  · rw [p5];dsimp only;omega
theorem Po {p:cd} (hp:lB p) (c:iA):Gd p (vZ p c).2.2:=by
  unfold vZ;cases c.py==9
  · cases c.py==10
    · cases q:!(ny p.QR c.a).2
      · exact BW hp.ok (JZ (by simpa using q))
      · exact Gd.self hp.ok
    · cases !ic c.a 0 4 || (!ic c.b 0 4 || (!ic c.c 0 2 || !wM c.d))
      case true=>exact Gd.self hp.ok
      cases q:!(nu p.QR c.a c.b (lG c.c c.d)).2
      · exact BW hp.ok (Kc (by simpa using q))
      · exact Gd.self hp.ok
  · cases !ic c.a 0 4 || !iC (gT.mk c.b c.c c.d)
    case true=>exact Gd.self hp.ok
    cases q:!(mA p.QR c.a (gT.mk c.b c.c c.d)).2.2
    · exact BW hp.ok (Ix (by simpa using q))
    · exact Gd.self hp.ok
end Go.Kx
namespace Go.Kx
open Go
open Go.IntKind (i64)
set_option linter.unusedVariables false
set_option linter.unusedSimpArgs false
set_option maxRecDepth 10000
theorem Ft {l:List gE} {o:gE}:∀ (m:List gE) (k:Nat),l.drop k=m→(rD l o k m).2<0∨∃ (j:Nat) (x:gE),k≤j∧l[j]?=some x∧x.py=0∧x.Q3<999∧rD l o k m=(l.set j (kB o (i64.wrap (x.Q3+1))),(j:Int))∧kM (l.set j (kB o (i64.wrap (x.Q3+1))))=true
  | [],k,h=>.inl (by unfold rD;show (-1:Int)<0;decide)
  | x::m,k,h=>by
    have hx:l[k]?=some x:=by
      have:=congrArg (fun q=>q[0]?) h;simpa using this
    have hm:l.drop (k+1)=m:=by
      rw [← List.drop_drop,h];rfl
    unfold rD;split
    · rcases Ft m (k+1) hm with e | ⟨j,y,a,b⟩
      · exact .inl e
      · exact .inr ⟨j,y,by omega,b⟩
    · rename_i c;simp only [Bool.or_eq_true,not_or,bne_iff_ne,ne_eq,Decidable.not_not,decide_eq_true_eq] at c;unfold putAt;split
      · rename_i q;rw [Rg] at q;exact .inr ⟨k,x,Nat.le_refl _,hx,c.1,by omega,rfl,q.1⟩
      · exact .inl (show (-1:Int)<0 by decide)
theorem Af {l:List gE} {o:gE} (h:decide ((kI l o).2<0)=false):Ar l∧∃ (j:Nat),1≤j∧j<10∧(nth l (j:Int)).py=0∧(nth l (j:Int)).Q3<999∧kI l o=(l.set j (kB o (i64.wrap ((nth l (j:Int)).Q3+1))),(j:Int))∧Ar (l.set j (kB o (i64.wrap ((nth l (j:Int)).Q3+1)))):=by
  have h:=of_decide_eq_false h;unfold kI at *;cases ha:kM l
  · rw [ha] at h;exact absurd (show (-1:Int)<0 by decide) h
  rw [ha] at h;simp only [if_true] at h ⊢;have ar:=jJ.1 ha
  rcases Ft (o:=o) (l.drop 1) 1 rfl with e | ⟨j,x,a,b,c,d,e,f⟩
  · exact absurd e h
  · have hj:=iU b;have hl:=ar.len;refine ⟨ar,j,a,by omega,?_⟩;rw [qk b];exact ⟨c,d,e,jJ.1 f⟩
theorem GD {o:gE} (h:iN o=true) (hk:o.py=0):o.bh=0:=by
  rw [ra h (by simpa using hk)];rfl
theorem K6 {h:gV} (q:Hk h) (i:Int):Hk (ng h i)∧ll (ng h i).ag=ll h.ag:=by
  unfold ng;split
  · rename_i c;simp only [Rg,ir,bne_iff_ne] at c;have hl:=q.ar.len;exact ⟨q.ag (q.ar.mark c.2.1.1 c.2.1.2 _ fun _=>yR c.2.2),wQ c.2.1.1 (by omega) rfl⟩
  · exact ⟨q,rfl⟩
theorem Hj {p:cd} (hp:lB p) (me now:Int) (c:iA) (h0:((rN p me now c).1==0)=true):Gd p (rN p me now c).2.2:=by
  unfold rN at h0 ⊢;cases q1:sD now c
  case true=>exact Gd.self hp.ok
  cases q2:jl p.heap.ag now me c.b 1 != 0
  case true=>exact Gd.self hp.ok
  cases q3:!oc p c.e (cost c)
  case true=>exact Gd.self hp.ok
  cases q4:decide ((kI p.heap.ag (newObj now (hD p.heap.ag now me c.b) c)).2<0)
  case true=>rw [q1,q2,q3,q4] at h0;cases h0
  simp only [Q9]
  have q3:oc p c.e (cost c)=true:=by simpa using q3
  obtain ⟨p1,p2,p3,p4,p5⟩:=HT hp.ok q3;obtain ⟨ar,j,j1,j9,jk,jg,e,arj⟩:=Af q4;have hl:=ar.len;rw [e];generalize hD p.heap.ag now me c.b=b at *;generalize i64.wrap ((nth p.heap.ag (j:Int)).Q3+1)=g at *;have hb:=xC q1;obtain ⟨b1,b2⟩:=K6 ((mg hp.ok).ag arj) (j:Int);have pj:=GD (ar.ok _ (ar.at (i:=(j:Int)) (by omega) (by omega)).2) jk;have ps:=uE (l:=p.heap.ag) (i:=(j:Int)) (by omega) (by omega) (kB (newObj now b c) g);rw [Int.toNat_natCast] at ps;have pz:(kB (newObj now b c) g).bh=c.c:=rfl
  have key:ll (ng (gV.mk (p.heap.ag.set j (kB (newObj now b c) g)) p.heap.gc) (j:Int)).ag=ll p.heap.ag+c.c:=by
    rw [b2]
    show ll (p.heap.ag.set j _)=_
    rw [ps,pj,pz];omega
  refine ⟨?_,Mz ?_ p4 ?_⟩
  · have hA:=kq.2 b1;unfold ik at *;simp only [Rg] at p1 ⊢;obtain ⟨a1,a2,a3,a4,a5⟩:=p1;exact ⟨a1,a2,a3,hA,a5⟩
  · show iS gT.bh (qy p c.e (cost c)).QR+ll (ng (gV.mk (p.heap.ag.set j (kB (newObj now b c) g)) p.heap.gc) (j:Int)).ag+(qy p c.e (cost c)).gP.bh=_
    rw [key,p2,p3]
    show _ - c.c+_+_=_
    omega
  · show iS gT.gW (qy p c.e (cost c)).QR+(qy p c.e (cost c)).gP.gW=_
    rw [p5]
    show _ - 0+_=_
    omega
theorem yK {o z:gE} (h:iN o=true) (hk:o.py=4) (e1:z.Q3=o.Q3) (e2:z.py=o.py) (e8:z.box=o.box) (e3:z.res=o.res) (e9:z.iF=o.iF) (e4:z.bh=o.bh) (hl:lZ z=lZ o)
    (hw:(z.QW==0 || ic (i64.wrap (z.QW - 1)) 0 29999)=true) (hg:ic z.iK (-1) 999=true) (e7:z.iG=o.iG):iN z=true:=by
  unfold iN at h ⊢;rw [e1,e2,e3,e4,e7,e8,e9,hl,hk];rw [hk] at h;rw [show ((4:Int)==0)=false from rfl,show ((4:Int) != 4)=false from rfl] at h ⊢;simp only [Q9,Rg] at h ⊢;obtain ⟨a1,a2,a3,a4,a5,a6,a7,a8,a9,a10⟩:=h;exact ⟨a1,a2,a3,a4,a5,a6,a7,hw,hg,a10⟩
theorem Lo {o:gE} (h:iN o=true) (hw:o.QW ≠ 0):o.py=4:=by
  cases hk:o.py==0
  · unfold iN at h;rw [hk] at h;simp only [Q9,Rg] at h;obtain ⟨a1,a2,a3,a4,a5,a6,a7,a8⟩:=h;cases h4:o.py != 4
    · simpa using h4
    · rw [h4] at a8;simp only [Rb,Rg,beq_iff_eq] at a8;exact absurd a8.1 hw
  · rw [ra h hk] at hw;exact absurd rfl hw
theorem GW {o:gE} (h:iN o=true) (hk:o.py=4):ic o.iK (-1) 999=true∧(o.QW==0 || ic (i64.wrap (o.QW - 1)) 0 29999)=true:=by
  unfold iN at h;rw [hk] at h;rw [show ((4:Int)==0)=false from rfl,show ((4:Int) != 4)=false from rfl] at h;simp only [Q9,Rg] at h;obtain ⟨a1,a2,a3,a4,a5,a6,a7,a8,a9,a10⟩:=h;exact ⟨a9,a8⟩
theorem yI {o:gE} (h:iN o=true) (hk:o.py=3) {q:List jw} (hq:q.length≤2) (hm:∀ m,m ∈ q→uR m=true):iN (n5 o q)=true:=by
  have hk0:(o.py==0)=false:=by rw [hk];rfl
  have hL:=nE h hk0;have hb:=mR h (yO hk0);refine o6 h hk0 rfl rfl hb.1 rfl hb.2.2.1 rfl ?_ rfl rfl rfl;unfold lZ at hL ⊢;simp only [Rg,List.all_eq_true] at hL ⊢;refine ⟨hL.1,hL.2.1,hm,hL.2.2.2.1,hL.2.2.2.2.1,?_⟩
  show decide ((q.length:Int)≤(bif o.py==3 then 2 else 0))=true
  rw [hk];exact decide_eq_true (by show (q.length:Int)≤2;omega)
theorem EI {o:gE} (h:iN o=true) (hk:o.py=3):o.QU.length≤2∧∀ m,m ∈ o.QU→uR m=true:=by
  have hk0:(o.py==0)=false:=by rw [hk];rfl
  have hL:=nE h hk0;unfold lZ at hL;simp only [Rg,List.all_eq_true,decide_eq_true_eq] at hL;have h2:=hL.2.2.2.2.2;rw [hk] at h2;have h2:(o.QU.length:Int)≤2:=h2;exact ⟨by omega,hL.2.2.1⟩
theorem Ey (p i g:Int):lC p i g=-1∨(0≤lC p i g∧lC p i g≤29999):=by
  unfold lC;split
  · rename_i h;simp only [Rg,ir] at h;right;rw [ig (n:=g * 10) (by omega) (by omega),ig (n:=g * 10+i) (by omega) (by omega),ig (n:=(g * 10+i) * 3) (by omega) (by omega),ig (by omega) (by omega)];omega
  · exact .inl rfl
theorem KG {s n:Int} (hs:s=-1∨(0≤s∧s≤29999)) (hn:ic n 0 999=true):uR ⟨s,n⟩=true:=by
  unfold uR;simp only [hn,Rd,Bool.or_false]
  rcases hs with e | e
  · subst e;rfl
  · rw [ir.2 e];cases s != -1<;>rfl
theorem xO {l:List gE} (ar:Ar l) {i:Int} (h0:0≤i) (h9:i≤9) {z:gE} (hk:z.py=(nth l i).py) (hb:z.box=(nth l i).box) (hl:z.gZ=(nth l i).gZ) (ht:z.iF=(nth l i).iF) (hg:z.bh=(nth l i).bh) (ok:iN z=true) :
    Ar (l.set i.toNat z)∧ll (l.set i.toNat z)=ll l:=⟨ar.swap h0 h9 hk hb hl (fun _=>ht) ok,wQ h0 (by have:=ar.len;omega) hg⟩
theorem Mh {l:List gE} (ar:Ar l) {k w b:Int} (hk:k≤9) (hw:w ≠ 0) (hb:ic b 0 999=true):Ar (uY l k w b)∧ll (uY l k w b)=ll l:=by
  unfold uY;cases q:decide (k ≥ 0)&&((nth l k).QW==w)
  · exact ⟨ar,rfl⟩
  simp only [Rg,decide_eq_true_eq,beq_iff_eq] at q;simp only [Rb];have k0:0≤k:=q.1;have hl:=ar.len;have ok:=ar.ok _ (ar.at k0 hk).2;have k4:=Lo ok (by rw [q.2];exact hw);obtain ⟨g1,g2⟩:=GW ok k4;have ok1:iN (waiting (nth l k) 0)=true:=yK ok k4 rfl rfl rfl rfl rfl rfl rfl rfl g1 rfl;obtain ⟨a1,a2⟩:=xO ar k0 hk (z:=waiting (nth l k) 0) rfl rfl rfl rfl rfl ok1
  have e:nth (l.set k.toNat (waiting (nth l k) 0)) k=waiting (nth l k) 0:=by rw [ko k0 (by omega) k0,if_pos rfl]
  obtain ⟨b1,b2⟩:=xO a1 k0 hk (z:=yC (nth (l.set k.toNat (waiting (nth l k) 0)) k) b) rfl rfl rfl rfl rfl (by
    rw [e];have hb1:=ir.1 hb
    exact yK ok1 k4 rfl rfl rfl rfl rfl rfl rfl rfl (ir.2 ⟨by show (-1:Int)≤b;omega,by show b≤999;omega⟩) rfl)
  exact ⟨b1,b2.trans a2⟩
theorem HH {p:cd} (hp:lB p) (me now:Int) {th:Int} (t0:0≤th) (t9:th≤9) (tk:(nth p.heap.ag th).py=4) (c:iA):Gd p (uT p me now th c).2.2:=by
  unfold uT;cases q2:jl p.heap.ag now me c.a 3 != 0
  case true=>exact Gd.self hp.ok
  obtain ⟨ar,g0,g9,gk,_⟩:=kU (jM q2);have k3:=Ka (jM q2) (by decide);have ha:=xU.1 (LR (jM q2));cases q1:!ic c.b 0 999
  case true=>exact Gd.self hp.ok
  have q1:ic c.b 0 999=true:=by simpa using q1
  simp only [Q9];generalize hD p.heap.ag now me c.a=i at *;have hl:=ar.len;have ok:=ar.ok _ (ar.at g0 g9).2;obtain ⟨u1,u2⟩:=EI ok k3;have hA:=mg hp.ok;cases c.py==12
  · cases q4:((nth p.heap.ag i).QU.length:Int)==0
    case true=>exact Gd.self hp.ok
    simp only [Q9];obtain ⟨a1,a2⟩:=xO ar g0 g9 (z:=n5 (nth p.heap.ag i) ((nth p.heap.ag i).QU.drop 1)) rfl rfl rfl rfl rfl (yI ok k3 (by rw [List.length_drop];omega) fun m hm=>u2 m (List.mem_of_mem_drop hm))
    have hlen:(served p.heap.ag i).length=10:=by unfold served;rw [List.length_set];exact hl
    have hgl:=uq (l:=served p.heap.ag i) (now:=now) (me:=me) (h:=(nth (nth p.heap.ag i).QU 0).Q6) hlen;generalize hgs:hD (served p.heap.ag i) now me (nth (nth p.heap.ag i).QU 0).Q6=k at *;obtain ⟨b1,b2⟩:=Mh (l:=served p.heap.ag i) a1 (k:=k) (w:=i64.wrap (c.a+1)) (b:=c.b) (by omega) (by rw [ig (by omega) (by omega)];omega) q1;exact xL hp.ok (hA.ag b1) (b2.trans a2)
  · cases q4:decide (((nth p.heap.ag i).QU.length:Int) ≥ 2)
    case true=>exact Gd.self hp.ok
    have q4:=of_decide_eq_false q4;simp only [Q9]
    obtain ⟨a1,a2⟩:=xO ar g0 g9 (z:=n5 (nth p.heap.ag i) ((nth p.heap.ag i).QU++[jw.mk (lC me th (nth p.heap.ag th).Q3) c.b])) rfl rfl rfl rfl rfl (yI ok k3 (by simp only [List.length_append,List.length_cons,List.length_nil];omega) fun m hm=>by
      rcases List.mem_append.1 hm with e | e
      · exact u2 m e
      · rw [List.mem_singleton] at e;rw [e];exact KG (Ey _ _ _) q1)
    have hne:i ≠ th:=fun e=>by rw [e,tk] at k3;exact absurd k3 (by decide)
    have e:nth (asked p.heap.ag i me th c) th=nth p.heap.ag th:=by
      unfold asked;rw [ko g0 (by omega) t0,if_neg hne]
    have okt:=ar.ok _ (ar.at t0 t9).2;obtain ⟨v1,v2⟩:=GW okt tk
    obtain ⟨b1,b2⟩:=xO (l:=asked p.heap.ag i me th c) a1 t0 t9 (z:=waiting (nth (asked p.heap.ag i me th c) th) (i64.wrap (c.a+1))) rfl rfl rfl rfl rfl (by
      rw [e];refine yK okt tk rfl rfl rfl rfl rfl rfl rfl ?_ v1 rfl
      show (i64.wrap (c.a+1)==0 || ic (i64.wrap (i64.wrap (c.a+1) - 1)) 0 29999)=true
      rw [ig (n:=c.a+1) (by omega) (by omega),ig (by omega) (by omega),show ic (c.a+1 - 1) 0 29999=true from ir.2 ⟨by omega,by omega⟩,Bool.or_true])
    exact xL hp.ok (hA.ag b1) (b2.trans a2)
theorem Md {p:cd} (hp:lB p) (c:iA):Gd p (uu p c).2.2:=by
  unfold uu;cases !ic c.a 0 ((p.gR.length:Int) - 1)
  case true=>exact Gd.self hp.ok
  obtain ⟨h3,ht⟩:=G6 hp.ok;refine HL hp.ok (by simp only [List.length_append,List.length_take,List.length_drop];omega) fun x hx=>?_
  rcases List.mem_append.1 hx with e | e
  · exact ht x (List.mem_of_mem_take e)
  · exact ht x (List.mem_of_mem_drop e)
theorem PY {p:cd} (hp:lB p) (me now:Int) {th:Int} (t0:0≤th) (t9:th≤9) (tk:(nth p.heap.ag th).py=4) (c:iA) (h:((mn p me now th c).1==0)=true):Gd p (mn p me now th c).2.2:=by
  unfold mn at *;cases k1:c.py==1
  case true=>rw [k1] at h;exact Hj hp _ _ _ h
  cases (c.py==2) || (c.py==3)
  case true=>exact GZ hp _ _ _
  cases (c.py==4) || (c.py==5)
  case true=>exact Hg hp _ _ _
  cases (c.py==6) || (c.py==7)
  case true=>exact GX hp _ _ _
  cases c.py==8
  case true=>exact D8 hp _ _ _
  cases (c.py==9) || ((c.py==10) || (c.py==11))
  case true=>exact Po hp _
  cases (c.py==12) || (c.py==13)
  case true=>exact HH hp _ _ t0 t9 tk _
  cases c.py==14
  case true=>simp only [Q9,Rb,B0];exact Gd.self hp.ok
  cases c.py==15
  case true=>exact Md hp _
  exact Gd.self hp.ok
theorem E6 {n:Int} (h0:0≤n) (h1:n≤1000000):ic (if 1000000<i64.wrap (n+1) then 1000000 else i64.wrap (n+1)) 0 1000000=true:=by
  rw [ig (by omega) (by omega),ir];split<;>omega
theorem yn {p:cd} (h:ik p=true):(0≤p.hY∧p.hY≤1000000)∧(0≤p.QX∧p.QX≤1000000):=by
  unfold ik pX at h;simp only [Rg,ir] at h;obtain ⟨a,b,c,d,e,f,g1,g2,g3,g4,g5⟩:=h;exact ⟨g4,g5⟩
theorem I4 {p:cd} (h:ik p=true):Gd p (z4 p):=by
  refine ⟨?_,rfl⟩;have r:=E6 (yn h).1.1 (yn h).1.2;unfold ik pX at *;simp only [Rg] at h ⊢;obtain ⟨a,b,c,d,e,f,g1,g2,g3,g4,g5⟩:=h;exact ⟨a,b,c,d,e,f,g1,g2,g3,r,g5⟩
theorem Nc {p:cd} (h:ik p=true):Gd p (EU p):=by
  refine ⟨?_,rfl⟩;have r:=E6 (yn h).2.1 (yn h).2.2;unfold ik pX at *;simp only [Rg] at h ⊢;obtain ⟨a,b,c,d,e,f,g1,g2,g3,g4,g5⟩:=h;exact ⟨a,b,c,d,e,f,g1,g2,g3,g4,r⟩
theorem Ej {p:cd} {now th:Int} (h:mQ p now th=true):(nth p.heap.ag th).py=4:=by
  unfold mQ at h;simp only [Rg] at h;exact (yq (now:=now) (by simpa using h.1)).1
theorem Nj {p:cd} (hp:lB p) (me now th:Int) (c:iA):Gd p (mZ p me now th c).1:=by
  unfold mZ;cases !ik p || (!ic me 0 2 || !ic now 0 1000000)
  case true=>exact Gd.self hp.ok
  cases hc:mQ p now th
  · exact Gd.self hp.ok
  obtain ⟨_,t0,t9⟩:=uU hc;simp only [Rd,Q9];unfold fin;cases h:(mn p me now th c).1==0
  · cases (c.py==1)&&(((mn p me now th c).1==6) || ((mn p me now th c).1==7))
    · exact Gd.self hp.ok
    · exact I4 hp.ok
  · exact PY hp me now t0 t9 (Ej hc) c h
theorem Ht {p:cd} (hp:lB p) {now me h:Int} {n:Int} (hn:ic n 0 999=true):Gd p (vD p (hD p.heap.ag now me h) n):=by
  unfold vD;have hg:=uq (l:=p.heap.ag) (now:=now) (me:=me) (h:=h) hp.ar.len;generalize hD p.heap.ag now me h=g at *;cases q:pQ p.heap.ag g
  · exact Nc hp.ok
  · unfold pQ at q;simp only [Rg,decide_eq_true_eq,beq_iff_eq] at q;have hl:=hp.ar.len;have g9:=hg q.1;have ok:=hp.ar.ok _ (hp.ar.at q.1 (by omega)).2;obtain ⟨u1,u2⟩:=EI ok q.2.1;refine B4 hp.ok q.1 (by omega) rfl rfl rfl (fun _=>rfl) rfl (yI ok q.2.1 (by simp only [List.length_append,List.length_cons,List.length_nil];omega) fun m hm=>?_)
    rcases List.mem_append.1 hm with e | e
    · exact u2 m e
    · rw [List.mem_singleton] at e;rw [e];exact KG (.inl rfl) hn
theorem Kd {w:g7} (hw:Wq w) (ok:jj w=true) (p th:Int) (c:iA):(lH w p th c).1=w∨∃ q z,ju w q=true∧sq (nth w.parts q) z∧Gd (nth w.parts q) z∧(lH w p th c).1=ni w q z:=by
  unfold lH;cases hok:!jj w || !ju w p
  case true=>exact .inl rfl
  have hp:ju w p=true:=by rw [ok] at hok;simpa using hok
  obtain ⟨p1,p2⟩:=kp hp;have pp:=hw.Dc ok p2;cases hc:mQ (nth w.parts p) w.Q1 th
  case false=>exact .inl rfl
  cases ho:decide (other w p c<0)
  case true=>exact .inl rfl
  have hq:=uF ho;generalize other w p c=q at *;obtain ⟨q1,q2⟩:=kp hq;have pq:=hw.Dc ok q2;simp only [Q9,Rd]
  have f3:∀ r:Int×Int×g7,(sU r).1=r.2.2:=fun r=>by unfold sU;cases r.1 != 0<;>rfl
  cases c.py==7
  case true=>rw [Rb,f3,Fb];exact .inl rfl
  cases c.py==17
  case true =>
    rw [Q9,Rb,f3];unfold xY;cases hb:ic c.b 0 999
    case false=>exact .inl rfl
    cases sO w p p q
    case false=>exact .inl rfl
    exact .inr ⟨q,_,hq,C6 pq c.b,Ht pq hb,rfl⟩
  cases c.py==16
  case true =>
    rw [Q9,Q9,Rb,f3];unfold zX;cases h1:decide (c.d<0) || !ly (tZ c)
    case true=>exact .inl rfl
    cases sO w p p q
    case false=>exact .inl rfl
    cases iH (nth w.parts p).QR c.a
    case false=>exact .inl rfl
    cases h3:decide (((nth w.parts p).gR.length:Int) ≥ 3)
    case true=>exact .inl rfl
    have h3:=of_decide_eq_false h3;simp only [Bool.or_eq_false_iff,Bool.not_eq_false'] at h1;refine .inr ⟨p,_,hp,Hn pp (tZ c),HL pp.ok (by simp only [List.length_append,List.length_cons,List.length_nil];omega) fun x hx=>?_,rfl⟩
    rcases List.mem_append.1 hx with e | e
    · exact (G6 pp.ok).2 x e
    · rw [List.mem_singleton] at e;rw [e];exact h1.2
  have h:=Cm pp.sz pp.w p w.Q1 th c;exact .inr ⟨p,_,hp,⟨h.1,h.2,AH pp.sz pp.w p w.Q1 th c⟩,Nj pp p w.Q1 th c,rfl⟩
end Go.Kx
