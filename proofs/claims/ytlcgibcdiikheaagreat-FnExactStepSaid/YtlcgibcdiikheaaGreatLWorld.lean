import Derived.Test.YtlcgibcdiikheaaGreatLCall
namespace Go.Kx
open Go
open Go.IntKind (i64)
set_option linter.unusedVariables false
set_option linter.unusedSimpArgs false
set_option maxRecDepth 10000
structure Wq (w:qi):Prop where
  wU:qU qh w.parts<pW
  each:∀ p,p ∈ w.parts→qh p≤3000000
  w:wW w.parts
theorem JX {α:Type} {l:List α} {i:Int} {y:α} (h0:0≤i) (h1:i<(l.length:Int)):idx (l.set i.toNat y) i=some y:=by
  have:=LB (l:=l) (k:=i.toNat) (y:=y) (by omega)
  rwa [Int.toNat_of_nonneg h0] at this
theorem MK {α:Type} {t:List α} {z:α} (h:t.length≤1000000):app t [z]=some (t++[z]):=tQ h (by decide)
def Br (w:qi) (q:Int) (z:cd):qi:=qi.mk w.Vo (w.parts.set q.toNat z)
def xP (w:qi) (p a b:Int):Bool:=yL (nth w.parts p).own (nth w.parts a).Vb (nth w.parts b).Vb
def PK (p:cd):cd:=cd.mk p.Vb p.own p.Vd p.U7 p.pU p.Vj p.Vk p.bh p.pZ (if 1000000<i64.wrap (p.Vi+1) then 1000000 else i64.wrap (p.Vi+1))
def xw (l:List j8) (i:Int):Bool:=decide (i ≥ 0)&&(((nth l i).Vc==3)&&decide (((nth l i).Vf.length:Int)<2))
def S0 (p:cd) (i n:Int):cd:=v8 p (p.U7.ag.set i.toNat (xz (nth p.U7.ag i) ((nth p.U7.ag i).Vf++[qM.mk (-1) n])))
def BA (c:qD):qB:=qB.mk c.a c.b c.c (i64.wrap (Int.tdiv c.d 10)) (Int.tmod c.d 10) c.e
def BO (w:qi) (p q:Int) (c:qD):Int×Int×qi :=
  bif !xP w p q p then (3,0,w) else ((rz (nth w.parts q) q w.Vo c).1,(rz (nth w.parts q) q w.Vo c).2.1,w)
def E7 (p:cd) (i n:Int):cd:=bif xw p.U7.ag i then S0 p i n else PK p
def BS (w:qi) (p q:Int) (c:qD):Int×Int×qi :=
  bif !qn c.b 0 999 then (2,0,w) else bif !xP w p p q then (3,0,w) else
  (0,0,Br w q (E7 (nth w.parts q) (ql (nth w.parts q).U7.ag w.Vo q c.a) c.b))
def FB (w:qi) (p q:Int) (c:qD):Int×Int×qi :=
  bif decide (c.d<0) || !td (BA c) then (2,0,w) else bif !xP w p p q then (3,0,w) else
  bif !ru (nth w.parts p).Vd c.a then (6,0,w) else bif decide (((nth w.parts p).pU.length:Int) ≥ 3) then (7,0,w) else
  (0,i64.wrap ((((nth w.parts p).pU++[BA c]).length:Int) - 1),Br w p (D3 (nth w.parts p) ((nth w.parts p).pU++[BA c])))
def B5 (r:Int×Int×qi):qi×qo:=bif r.1 != 0 then (r.2.2,qo.mk r.1 0) else (r.2.2,qo.mk 0 r.2.1)
def vM (w:qi) (p th:Int) (c:qD):qi×qo :=
  bif !rT w || !rp w p then (w,qo.mk 2 0) else bif !uT (nth w.parts p) w.Vo th then (w,qo.mk 1 0) else
  bif decide (other w p c<0) then (w,qo.mk 2 0) else
  bif c.Vc==7 then B5 (BO w p (other w p c) c) else bif c.Vc==17 then B5 (BS w p (other w p c) c) else bif c.Vc==16 then B5 (FB w p (other w p c) c) else
  (Br w p (vZ (nth w.parts p) p w.Vo th c).1,(vZ (nth w.parts p) p w.Vo th c).2)
theorem Ks (r:Int×Int×qi):(bif r.1 != 0 then some (qi.mk r.2.2.Vo r.2.2.parts,qo.mk r.1 0) else some (qi.mk r.2.2.Vo r.2.2.parts,qo.mk 0 r.2.1))=some (B5 r):=by
  unfold B5;cases r.1 != 0<;>rfl
theorem O7 (w:qi) (p q:Int) (c:qD):(BO w p q c).2.2=w:=by
  unfold BO;cases !xP w p q p<;>rfl
theorem DN {w:qi} (h:rT w=true) {p:cd} (hp:p ∈ w.parts):rF p=true:=by
  unfold rT at h;simp only [VB,List.all_eq_true] at h;exact h.2.2.1 p hp
theorem FA {w:qi} {p:Int} (h:rp w p=true):0≤p∧p<(w.parts.length:Int):=by
  unfold rp at h;rw [rk] at h;omega
theorem Wq.Qn {w:qi} (h:Wq w) (ok:rT w=true) {p:cd} (hp:p ∈ w.parts):tT p:=⟨DN ok hp,h.each p hp,h.w p hp⟩
section
variable {N:Nat} {w:qi} {p q:Int} {c:qD}
theorem EX (hN:pW≤N) (hw:Wq w) {a b d:Int} (ha:rp w a=true) (hb:rp w b=true) (hd:rp w d=true):w9 N w a b d=some (xP w a b d):=by
  obtain ⟨a1,a2⟩:=r8 ha;obtain ⟨b1,b2⟩:=r8 hb;obtain ⟨d1,d2⟩:=r8 hd;unfold w9 xP;simp only [a1,b1,d1,Vw,Np hN (sm (rE hw.wU a2)).2.1 (sm (rE hw.wU b2)).1 (sm (rE hw.wU d2)).1]
theorem Pq {P:cd} {me now:Int} (h:(c.Vc==7)=true):fin c P (rz P me now c)=(P,bif (rz P me now c).1==0 then qo.mk 0 (rz P me now c).2.1 else qo.mk (rz P me now c).1 0):=by
  have hp:(rz P me now c).2.2=P:=by
    unfold rz;rw [h];cases rq P.U7.ag now me c.a 2 != 0
    · cases !qn c.b 0 (((nth P.U7.ag (ql P.U7.ag now me c.a)).Vh.length:Int) - 1)<;>rfl
    · rfl
  have h1:(c.Vc==1)=false:=by
    have:c.Vc=7:=by simpa using h
    rw [this];rfl
  unfold fin;rw [hp,h1];cases (rz P me now c).1==0<;>rfl
theorem SQ (hN:pW≤N) (hw:Wq w) (ok:rT w=true) (hp:rp w p=true) (hq:rp w q=true) (c:qD):yl N w p q c=some ((BO w p q c).1,(BO w p q c).2.1):=by
  obtain ⟨q1,q2⟩:=r8 hq;unfold yl BO;simp only [EX hN hw hp hq hp,Vw];cases xP w p q p
  · rfl
  simp only [Vz,Vx,q1,Vw,xR hN (rE hw.wU q2),OR hN (hw.Qn ok q2)]
theorem S3 (hN:pW≤N) (hw:Wq w) (ok:rT w=true) (hp:rp w p=true) (hq:rp w q=true) (hk:(c.Vc==7)=true):zB N w p q c=some (B5 (BO w p q c)):=by
  obtain ⟨p1,p2⟩:=r8 hp;obtain ⟨q1,q2⟩:=r8 hq;obtain ⟨q0,q9⟩:=FA hq
  have hc:c.Vc=7:=by simpa using hk
  unfold zB BO xP;simp only [p1,q1,Vw,Ec hN (sm (rE hw.wU p2)).2.1 (sm (rE hw.wU q2)).1 (sm (rE hw.wU p2)).1];cases yL (nth w.parts p).own (nth w.parts q).Vb (nth w.parts p).Vb
  · rfl
  simp only [Vz,Vx,O4 hN (hw.Qn ok q2) q w.Vo (c:=c) (by rw [hc];rfl) (by rw [hc];rfl),Vw,Ir];rw [Pq hk];simp only [Vw];rw [show w.parts.set q.toNat (cd.mk (nth w.parts q).Vb (nth w.parts q).own (nth w.parts q).Vd (qd.mk (nth w.parts q).U7.ag (rl.mk (nth w.parts q).U7.gc.Ve (nth w.parts q).U7.gc.Vn (nth w.parts q).U7.gc.Vg (nth w.parts q).U7.gc.pT)) (nth w.parts q).pU (nth w.parts q).Vj (nth w.parts q).Vk (nth w.parts q).bh (nth w.parts q).pZ (nth w.parts q).Vi)=w.parts from vR (xl q0 q9)];unfold B5 bne;cases (rz (nth w.parts q) q w.Vo c).1==0<;>rfl
theorem Sn (hN:pW≤N) (hw:Wq w) (ok:rT w=true) (hp:rp w p=true) (hq:rp w q=true) (c:qD):xv N w p q c=some ((BS w p q c).1,(BS w p q c).2.2):=by
  obtain ⟨q1,q2⟩:=r8 hq;have ar:=sg (DN ok q2);have hb:=(sm (rE hw.wU q2)).2.2.2.1;unfold xv BS;simp only [uA,EX hN hw hp hp hq,Vw];cases qn c.b 0 999
  · rfl
  cases xP w p p q
  · rfl
  simp only [Vz,Vx,q1,Vw,CB hN hb];have hg:=CG (l:=(nth w.parts q).U7.ag) (now:=w.Vo) (me:=q) (h:=c.a) ar.len;generalize ql (nth w.parts q).U7.ag w.Vo q c.a=g at *;unfold E7
  have e:(bif decide (g ≥ 0) then (idx (nth w.parts q).U7.ag g).bind fun y45=>bif y45.Vc==3 then some (decide ((y45.Vf.length:Int)<2)) else some false else some false)=some (xw (nth w.parts q).U7.ag g):=by
    unfold xw;cases h:decide (g ≥ 0)
    · rfl
    have h:=of_decide_eq_true h;rw [ri h (hg h),Vw];simp only [Vy,VA,tz]
  rw [e,Vw];cases h:xw (nth w.parts q).U7.ag g
  · rfl
  have h':=h;unfold xw at h';simp only [VB,decide_eq_true_eq] at h';rw [Vy,ri h'.1 (hg h'.1),Vw,MK (by omega)];rfl
theorem Td (hN:pW≤N) (hw:Wq w) (ok:rT w=true) (hp:rp w p=true) (hq:rp w q=true) (c:qD):zW N w p q c=some (B5 (BS w p q c)):=by
  obtain ⟨p1,p2⟩:=r8 hp;obtain ⟨q1,q2⟩:=r8 hq;have ar:=sg (DN ok q2);have hb:=(sm (rE hw.wU q2)).2.2.2.1;unfold zW BS xP;simp only [ua,p1,q1,Ec hN (sm (rE hw.wU p2)).2.1 (sm (rE hw.wU p2)).1 (sm (rE hw.wU q2)).1,Vw];cases qn c.b 0 999
  · rfl
  cases yL (nth w.parts p).own (nth w.parts p).Vb (nth w.parts q).Vb
  · rfl
  simp only [Vz,Vx,Vw,Cf hN hb (hw.w _ q2)];have hg:=CG (l:=(nth w.parts q).U7.ag) (now:=w.Vo) (me:=q) (h:=c.a) ar.len;generalize ql (nth w.parts q).U7.ag w.Vo q c.a=g at *;unfold E7
  have e:(bif decide (g<0) then some true else (idx (nth w.parts q).U7.ag g).bind fun y84=>bif y84.Vc != 3 then some true else some (decide ((y84.Vf.length:Int) ≥ 2)))=some (!xw (nth w.parts q).U7.ag g):=by
    unfold xw
    by_cases h:g<0
    · rw [decide_eq_true h,decide_eq_false (show ¬ g ≥ 0 by omega)];rfl
    rw [decide_eq_false h,decide_eq_true (show g ≥ 0 by omega),Vx,ri (by omega) (hg (by omega)),Vw,sA,VA,Bool.not_and];unfold bne
    by_cases k:((nth (nth w.parts q).U7.ag g).Vf.length:Int)<2
    · rw [decide_eq_true k,decide_eq_false (show ¬ ((nth (nth w.parts q).U7.ag g).Vf.length:Int) ≥ 2 by omega)];rfl
    · rw [decide_eq_false k,decide_eq_true (show ((nth (nth w.parts q).U7.ag g).Vf.length:Int) ≥ 2 by omega)];rfl
  rw [e,Vw];cases h:xw (nth w.parts q).U7.ag g
  · rfl
  have h':=h;unfold xw at h';simp only [VB,decide_eq_true_eq] at h';rw [Vz,Vx,ri h'.1 (hg h'.1),Vw,sh (Nat.lt_trans (show _<2 by omega) (by decide)),Vw,MK (by omega)];rfl
theorem TZ (hN:pW≤N) (hw:Wq w) (ok:rT w=true) (hp:rp w p=true) (hq:rp w q=true) (c:qD):ye N w p q c=some (FB w p q c):=by
  obtain ⟨p1,p2⟩:=r8 hp;obtain ⟨p0,p9⟩:=FA hp;have hT:=zr.1 (Dy (DN ok p2));unfold ye FB;simp only [p1,FE,EX hN hw hp hp hq,yW N hT.len,Vw,sA]
  show (bif (decide (c.d<0) || !td (BA c)) then _ else _)=_
  cases decide (c.d<0) || !td (BA c)
  case true=>rfl
  cases xP w p p q
  case false=>rfl
  cases ru (nth w.parts p).Vd c.a
  case false=>rfl
  cases h:decide (((nth w.parts p).pU.length:Int) ≥ 3)
  case true=>rfl
  have h:=of_decide_eq_false h;simp only [Vz,Vx];rw [MK (by omega),Vw,JX p0 p9];rfl
theorem Tm (hN:pW≤N) (hw:Wq w) (ok:rT w=true) (hp:rp w p=true) (hq:rp w q=true) (c:qD):AX N w p q c=some (B5 (FB w p q c)):=by
  obtain ⟨p1,p2⟩:=r8 hp;obtain ⟨q1,q2⟩:=r8 hq;obtain ⟨p0,p9⟩:=FA hp;have hT:=Dy (DN ok p2);unfold AX FB xP;simp only [p1,q1,Fv,Ec hN (sm (rE hw.wU p2)).2.1 (sm (rE hw.wU p2)).1 (sm (rE hw.wU q2)).1,Af hN,hT,VA,Vw];cases decide (c.d<0)
  case true=>rfl
  show (bif !td (BA c) then _ else _)=some (B5 (bif !td (BA c) then _ else _))
  cases td (BA c)
  case false=>rfl
  cases yL (nth w.parts p).own (nth w.parts p).Vb (nth w.parts q).Vb
  case false=>rfl
  cases ru (nth w.parts p).Vd c.a
  case false=>rfl
  cases h:decide (((nth w.parts p).pU.length:Int) ≥ 3)
  case true=>rfl
  have h:=of_decide_eq_false h;simp only [Vz,Vx];rw [sh (Nat.lt_trans (show _<3 by omega) (by decide)),Vw,MK (by omega),Vw,Vw,JX p0 p9];rfl
theorem Lz (hN:pW+1≤N) (hw:Wq w) (p th:Int) (c:qD):xV N w p th c=some (vM w p th c):=by
  have hN':pW≤N:=Nat.le_of_succ_le hN;have hl:=rS hw.wU;unfold xV vM;simp only [zZ hN' hw.wU,Dq hN' hw.wU,Du hl,Vw,sA];cases hok:!rT w || !rp w p
  case true=>rfl
  have hok:rT w=true∧rp w p=true:=by simpa using hok
  obtain ⟨ok,hp⟩:=hok;obtain ⟨p1,p2⟩:=r8 hp;simp only [Vx,p1,Vw,Io hN' (rE hw.wU p2)];cases hc:uT (nth w.parts p) w.Vo th
  case false=>rfl
  simp only [Vz,Vx,Lu hl,Vw];cases ho:decide (other w p c<0)
  case true=>rfl
  have hq:=BI ho;generalize other w p c=q at *;simp only [Vx];cases c.Vc==7
  case true=>simp only [Vy,SQ hN' hw ok hp hq,Vw];rw [← Ks,O7];rfl
  cases c.Vc==17
  case true=>simp only [Vy,Vx,Sn hN' hw ok hp hq,Vw];unfold BS;cases qn c.b 0 999<;>cases xP w p p q<;>rfl
  cases c.Vc==16
  case true=>simp only [Vy,Vx,TZ hN' hw ok hp hq,Vw];rw [← Ks];rfl
  simp only [Vx,Mt hN (hw.each _ p2) (hw.w _ p2),Vw];rfl
theorem KJ (hN:pW≤N) (hw:Wq w) (p th:Int) (c:qD):xX N w p th c=some (vM w p th c):=by
  have hl:w.parts.length<16777216:=rS hw.wU;unfold xX vM;simp only [BZ hN hw.wU,Dg hN hw.wU hw.w,ua,Vw,sA];rw [rG (by omega) (by omega),show qn p 0 ((w.parts.length:Int) - 1)=rp w p from rfl];cases hok:!rT w || !rp w p
  case true=>rfl
  have hok:rT w=true∧rp w p=true:=by simpa using hok
  obtain ⟨ok,hp⟩:=hok;obtain ⟨p1,p2⟩:=r8 hp;simp only [Vx,p1,Vw,It hN (rE hw.wU p2) (hw.w _ p2)];cases hc:uT (nth w.parts p) w.Vo th
  case false=>rfl
  simp only [Vz,Vx,Kz hl,Vw,Mu hN (hw.each _ p2) (hw.w _ p2)]
  have hself:((c.Vc==7) || ((c.Vc==17) || (c.Vc==16)))=false→decide (other w p c<0)=false:=fun h=>by
    have h0:=FA hp;simp only [Bool.or_eq_false_iff] at h;unfold other target;rw [h.1,h.2.1,h.2.2];simp only [Bool.or_self,Bool.false_eq_true,if_false,hp,if_true];exact decide_eq_false (by omega)
  cases k7:c.Vc==7
  case true =>
    simp only [Vy,Vw];cases ho:decide (other w p c<0)
    case true=>rfl
    simp only [Vx,S3 hN hw ok hp (BI ho) k7,Vw]
  cases k17:c.Vc==17
  case true =>
    simp only [Vy,Vx,Vw];cases ho:decide (other w p c<0)
    case true=>rfl
    simp only [Vx,Td hN hw ok hp (BI ho),Vw]
  cases k16:c.Vc==16
  case true =>
    simp only [Vy,Vx,Vw];cases ho:decide (other w p c<0)
    case true=>rfl
    simp only [Vx,Tm hN hw ok hp (BI ho),Vw]
  rw [hself (by rw [k7,k17,k16];rfl)];simp only [Vx,Vw];rfl
end
end Go.Kx
namespace Go.Kx
open Go
open Go.IntKind (i64)
set_option linter.unusedVariables false
set_option linter.unusedSimpArgs false
set_option maxRecDepth 10000
theorem Pa {p:cd} (hp:tT p) {now me h:Int} (n:Int):yT p (E7 p (ql p.U7.ag now me h) n):=by
  unfold E7;have hg:=CG (l:=p.U7.ag) (now:=now) (me:=me) (h:=h) hp.ar.len;generalize ql p.U7.ag now me h=g at *;cases q:xw p.U7.ag g
  · exact wv rfl rfl rfl (by show qU qf p.U7.ag≤_;omega) (Nat.le_succ _) (Nat.le_refl _) hp.w rfl
  · unfold xw at q;simp only [VB,decide_eq_true_eq] at q;have hl:=hp.ar.len;have g9:=hg q.1;have ho:=wO hp.ar q.1 (by omega);have hwi:wg (nth p.U7.ag g):=hp.w _ (tP q.1 g9);refine wv rfl rfl rfl (Nat.le_trans (BR ?_) (by omega)) (Nat.le_succ _) (Nat.le_refl _) (s6 hp.w hwi) List.length_set;unfold qf at ho;unfold qf xz;simp only [List.length_append,List.length_cons,List.length_nil];omega
theorem RM {p:cd} (hp:tT p) (t:qB):yT p (D3 p (p.pU++[t])):=by
  refine ⟨?_,hp.w,rfl⟩;unfold qh D3;simp only [List.length_append,List.length_cons,List.length_nil];omega
theorem RJ {w:qi} (hw:Wq w) (p th:Int) (c:qD):(vM w p th c).1=w∨∃ q z,rp w q=true∧yT (nth w.parts q) z∧(vM w p th c).1=Br w q z:=by
  unfold vM;cases hok:!rT w || !rp w p
  case true=>exact .inl rfl
  have hok:rT w=true∧rp w p=true:=by simpa using hok
  obtain ⟨ok,hp⟩:=hok;obtain ⟨p1,p2⟩:=r8 hp;have pp:=hw.Qn ok p2;cases hc:uT (nth w.parts p) w.Vo th
  case false=>exact .inl rfl
  cases ho:decide (other w p c<0)
  case true=>exact .inl rfl
  have hq:=BI ho;generalize other w p c=q at *;obtain ⟨q1,q2⟩:=r8 hq;have pq:=hw.Qn ok q2;simp only [Vx,Vz]
  have f3:∀ r:Int×Int×qi,(B5 r).1=r.2.2:=fun r=>by unfold B5;cases r.1 != 0<;>rfl
  cases c.Vc==7
  case true=>rw [Vy,f3,O7];exact .inl rfl
  cases c.Vc==17
  case true =>
    rw [Vx,Vy,f3];unfold BS;cases qn c.b 0 999
    case false=>exact .inl rfl
    cases xP w p p q
    case false=>exact .inl rfl
    exact .inr ⟨q,_,hq,Pa pq c.b,rfl⟩
  cases c.Vc==16
  case true =>
    rw [Vx,Vx,Vy,f3];unfold FB;cases decide (c.d<0) || !td (BA c)
    case true=>exact .inl rfl
    cases xP w p p q
    case false=>exact .inl rfl
    cases ru (nth w.parts p).Vd c.a
    case false=>exact .inl rfl
    cases decide (((nth w.parts p).pU.length:Int) ≥ 3)
    case true=>exact .inl rfl
    exact .inr ⟨p,_,hp,RM pp (BA c),rfl⟩
  have h:=RS pp.sz pp.w p w.Vo th c;exact .inr ⟨p,_,hp,⟨h.1,h.2,PH pp.sz pp.w p w.Vo th c⟩,rfl⟩
theorem MN {w:qi} {q:Int} (hq:rp w q=true) {z:cd} (hn:yT (nth w.parts q) z):qU qh (Br w q z).parts≤2 * qU qh w.parts+300:=by
  have h1:qU qh (w.parts.set q.toNat z)≤_:=Bh;have h2:qh (nth w.parts q)≤qU qh w.parts:=Nat.le_of_lt_succ (rE (Nat.lt_succ_self _) (r8 hq).2);have h3:=hn.sz
  show qU qh (w.parts.set q.toNat z)≤_
  omega
theorem QY {w:qi} (hw:Wq w) (p th:Int) (c:qD):qU qh (vM w p th c).1.parts≤2 * qU qh w.parts+300:=by
  rcases RJ hw p th c with e | ⟨q,z,hq,hn,e⟩
  · rw [e];omega
  · rw [e];exact MN hq hn
end Go.Kx
namespace Go.Kx
open Go
open Go.IntKind (i64)
set_option linter.unusedVariables false
set_option linter.unusedSimpArgs false
set_option maxRecDepth 10000
def E6 (p:cd) (t:Int):cd:=cd.mk p.Vb p.own p.Vd p.U7 p.pU p.Vj (i64.wrap (t+1)) p.bh p.pZ p.Vi
def C3 (w:qi) (e:ui):qi:=bif rT w&&(rp w e.U9&&qn e.qA 0 9) then Br w e.U9 (E6 (nth w.parts e.U9) e.qA) else w
def Ge (w:qi) (e:ui):qi×qo :=
  bif e.Vc==1 then (tick w,qo.mk 0 0) else bif e.Vc==2 then vM w e.U9 e.qA e.call else bif e.Vc==3 then (C3 w e,qo.mk 0 0) else (w,qo.mk 2 0)
structure Wt (w:qi):Prop where
  q:Wq w
  t:rT w=true→AJ w.parts.length 0 (qi.mk (i64.wrap (w.Vo+1)) w.parts)
theorem R6 {N:Nat} (hN:pW+1≤N) {w:qi} (hw:Wt w) (e:ui):Bp N w e=some (Ge w e):=by
  have hN':pW≤N:=Nat.le_of_succ_le hN;have hb:=hw.q.wU;unfold Bp Ge;cases e.Vc==1
  case true=>simp only [Vy,Q5 hN' hb hw.q.w hw.t,Vw]
  cases e.Vc==2
  case true=>simp only [Vy,Vx,Lz hN hw.q,Vw]
  cases e.Vc==3
  case false=>simp only [Vx,zZ hN' hb,Vw]
  simp only [Vy,Vx,zZ hN' hb,Dq hN' hb,Du (rS hb),Ah,Vw];unfold C3;cases rT w
  · rfl
  cases hp:rp w e.U9
  · rfl
  cases qn e.qA 0 9
  · rfl
  simp only [Vy,Bool.and_self,Vw,(r8 hp).1];rfl
theorem S1 {N:Nat} (hN:pW≤N) {w:qi} (hw:Wt w) (e:ui):Db N w e=some (Ge w e):=by
  have hb:=hw.q.wU;have hl:w.parts.length<16777216:=rS hb;unfold Db Ge;cases e.Vc==1
  case true=>simp only [Vy,Ru hN hb hw.q.w hw.t,Vw]
  cases e.Vc==2
  case true=>simp only [Vy,Vx,KJ hN hw.q,Vw]
  cases e.Vc==3
  case false=>simp only [Vx,BZ hN hb,Vw]
  simp only [Vy,Vx,BZ hN hb,Dg hN hb hw.q.w,ua,zj,Vw];rw [rG (by omega) (by omega),show qn e.U9 0 ((w.parts.length:Int) - 1)=rp w e.U9 from rfl];unfold C3;cases rT w
  · rfl
  cases hp:rp w e.U9
  · rfl
  cases qn e.qA 0 9
  · rfl
  simp only [Vy,Bool.and_self,Vw,(r8 hp).1];rfl
theorem RB (w:qi) (e:ui):C3 w e=w∨(rT w=true∧rp w e.U9=true∧(0≤e.qA∧e.qA≤9)∧C3 w e=Br w e.U9 (E6 (nth w.parts e.U9) e.qA)):=by
  unfold C3;cases h:rT w&&(rp w e.U9&&qn e.qA 0 9)
  · exact .inl rfl
  · simp only [VB,rk] at h;exact .inr ⟨h.1,h.2.1,h.2.2,rfl⟩
end Go.Kx
namespace Go.Kx
open Go
open Go.IntKind (i64)
set_option linter.unusedVariables false
set_option linter.unusedSimpArgs false
set_option maxRecDepth 10000
theorem RF {w:qi} (hM:sF w≤1048576) (hq:Wq w) (e:ui):qU qh (Ge w e).1.parts<pW:=by
  have hB:(16777216:Nat)=pW:=rfl
  have hs:qU qh w.parts≤1048576:=by unfold sF at hM;omega
  unfold Ge;cases e.Vc==1
  case true=>exact Rk hM hq.w
  cases e.Vc==2
  case true=>have:=QY hq e.U9 e.qA e.call;show qU qh (vM w e.U9 e.qA e.call).1.parts<pW;omega
  cases e.Vc==3
  case false=>show qU qh w.parts<pW;omega
  show qU qh (C3 w e).parts<pW
  rcases RB w e with q | ⟨_,hp,_,q⟩
  · rw [q];omega
  · rw [q];have h1:qU qh (w.parts.set e.U9.toNat (E6 (nth w.parts e.U9) e.qA))≤_:=Bh;have h2:qh (nth w.parts e.U9)≤qU qh w.parts:=Nat.le_of_lt_succ (rE (Nat.lt_succ_self _) (r8 hp).2);have h3:qh (E6 (nth w.parts e.U9) e.qA)=qh (nth w.parts e.U9):=rfl
    show qU qh (w.parts.set e.U9.toNat (E6 (nth w.parts e.U9) e.qA))<pW
    omega
theorem IW {w:qi} {e:ui} (hw:Fit.fit w) (he:Fit.fit e):∃ N,wI N w e=some true:=by
  suffices h:∀ N,pW+1≤N→wI N w e=some true from ⟨pW+1,h (pW+1) (Nat.le_refl _)⟩
  intro N hN';have hN:pW≤N:=Nat.le_of_succ_le hN';unfold wI;refine guard (by decide) (by decide) (PZ hN (by decide) (by decide) hw) fun b h0 h1 hs=>?_;have hb:sF w<pW:=small hs;have hB:(16777216:Nat)=pW:=rfl
  have hs':qU qh w.parts≤1048576:=by unfold sF at hs;omega
  have hb':qU qh w.parts<pW:=by omega
  have hq:Wq w:=⟨hb',fun q hq=>by have:=rE (Nat.lt_succ_of_le hs') hq;omega,NK hw⟩;have ht:Wt w:=⟨hq,R2 hs (NK hw)⟩;have sw:=RF hs hq e;simp only [P6 hN hb,Pz,S1 hN ht,R6 hN' ht,Vw];generalize Ge w e=r at *;obtain ⟨q,v⟩:=r;simp only at sw ⊢
  have b2:sF q<pW:=by unfold sF;omega
  have s1:=E0 w.parts;have s2:=E0 q.parts;have n1:decide (1+((qb si w.parts:Nat):Int)<0)=false:=decide_eq_false (by omega);have n2:decide (1+((qb si q.parts:Nat):Int)<0)=false:=decide_eq_false (by omega)
  simp only [JB hN b2,JB hN hb,PD,Vw,Vz,Vx,FN hN (n:=1) hb (by decide) (by omega),FN hN (n:=1) b2 (by decide) (by omega),tw (tD _ _ _ _),n1,n2,
    K8 hN (n:=1) (x:=q) (z:=qi.mk q.Vo (sv AD si 1 q.parts)) b2 (by decide) (by omega) rfl,bne_self_eq_false]
end Go.Kx
