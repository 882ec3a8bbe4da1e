import Derived.Test.YtlcgibcdiikheaaGreatLGcOk
namespace Go.Kx
open Go
open Go.IntKind (i64)
set_option linter.unusedVariables false
set_option linter.unusedSimpArgs false
set_option maxRecDepth 10000
structure Wq (w:iC):Prop where
  oy:jr iH w.parts<ir
  each:∀ p,p ∈ w.parts→iH p≤3000000
  w:wW w.parts
theorem zU {α:Type} {l:List α} {i:Int} {y:α} (h0:0≤i) (h1:i<(l.length:Int)):idx (l.set i.toNat y) i=some y:=by
  have:=Gn (l:=l) (k:=i.toNat) (y:=y) (by omega)
  rwa [Int.toNat_of_nonneg h0] at this
theorem G7 {α:Type} {t:List α} {z:α} (h:t.length≤1000000):app t [z]=some (t++[z]):=l5 h (by decide)
def pD (w:iC) (q:Int) (z:cd):iC:=iC.mk w.PQ (w.parts.set q.toNat z)
def nS (w:iC) (p a b:Int):Bool:=ru (nth w.parts p).own (nth w.parts a).PB (nth w.parts b).PB
def Dm (p:cd):cd:=cd.mk p.PB p.own p.PC p.py p.ia p.PJ p.PI p.hY p.ik (if 1000000<i64.wrap (p.PH+1) then 1000000 else i64.wrap (p.PH+1))
def oh (l:List gE) (i:Int):Bool:=decide (i ≥ 0)&&(((nth l i).Pz==3)&&decide (((nth l i).PE.length:Int)<2))
def MM (p:cd) (i n:Int):cd:=nf p (p.py.ag.set i.toNat (nR (nth p.py.ag i) ((nth p.py.ag i).PE++[je.mk (-1) n])))
def sd (c:iJ):iZ:=iZ.mk c.a c.b c.c (i64.wrap (Int.tdiv c.d 10)) (Int.tmod c.d 10) c.e
def uH (w:iC) (p q:Int) (c:iJ):Int×Int×iC :=
  bif !nS w p q p then (3,0,w) else ((jw (nth w.parts q) q w.PQ c).1,(jw (nth w.parts q) q w.PQ c).2.1,w)
def wG (p:cd) (i n:Int):cd:=bif oh p.py.ag i then MM p i n else Dm p
def tj (w:iC) (p q:Int) (c:iJ):Int×Int×iC :=
  bif !iA c.b 0 999 then (2,0,w) else bif !nS w p p q then (3,0,w) else
  (0,0,pD w q (wG (nth w.parts q) (iy (nth w.parts q).py.ag w.PQ q c.a) c.b))
def wX (w:iC) (p q:Int) (c:iJ):Int×Int×iC :=
  bif decide (c.d<0) || !lA (sd c) then (2,0,w) else bif !nS w p p q then (3,0,w) else
  bif !iW (nth w.parts p).PC c.a then (6,0,w) else bif decide (((nth w.parts p).ia.length:Int) ≥ 3) then (7,0,w) else
  (0,i64.wrap ((((nth w.parts p).ia++[sd c]).length:Int) - 1),pD w p (wq (nth w.parts p) ((nth w.parts p).ia++[sd c])))
def sw (r:Int×Int×iC):iC×iG:=bif r.1 != 0 then (r.2.2,iG.mk r.1 0) else (r.2.2,iG.mk 0 r.2.1)
def lD (w:iC) (p th:Int) (c:iJ):iC×iG :=
  bif !j8 w || !jA w p then (w,iG.mk 2 0) else bif !lJ (nth w.parts p) w.PQ th then (w,iG.mk 1 0) else
  bif decide (other w p c<0) then (w,iG.mk 2 0) else
  bif c.Pz==7 then sw (uH w p (other w p c) c) else bif c.Pz==17 then sw (tj w p (other w p c) c) else bif c.Pz==16 then sw (wX w p (other w p c) c) else
  (pD w p (mB (nth w.parts p) p w.PQ th c).1,(mB (nth w.parts p) p w.PQ th c).2)
theorem C7 (r:Int×Int×iC):(bif r.1 != 0 then some (iC.mk r.2.2.PQ r.2.2.parts,iG.mk r.1 0) else some (iC.mk r.2.2.PQ r.2.2.parts,iG.mk 0 r.2.1))=some (sw r):=by
  unfold sw;cases r.1 != 0<;>rfl
theorem yi (w:iC) (p q:Int) (c:iJ):(uH w p q c).2.2=w:=by
  unfold uH;cases !nS w p q p<;>rfl
theorem xt {w:iC} (h:j8 w=true) {p:cd} (hp:p ∈ w.parts):iO p=true:=by
  unfold j8 at h;simp only [PY,List.all_eq_true] at h;exact h.2.2.1 p hp
theorem u5 {w:iC} {p:Int} (h:jA w p=true):0≤p∧p<(w.parts.length:Int):=by
  unfold jA at h;rw [iS] at h;omega
theorem Wq.GL {w:iC} (h:Wq w) (ok:j8 w=true) {p:cd} (hp:p ∈ w.parts):kU p:=⟨xt ok hp,h.each p hp,h.w p hp⟩
section
variable {N:Nat} {w:iC} {p q:Int} {c:iJ}
theorem yP (hN:ir≤N) (hw:Wq w) {a b d:Int} (ha:jA w a=true) (hb:jA w b=true) (hd:jA w d=true):pn N w a b d=some (nS w a b d):=by
  obtain ⟨a1,a2⟩:=ki ha;obtain ⟨b1,b2⟩:=ki hb;obtain ⟨d1,d2⟩:=ki hd;unfold pn nS;simp only [a1,b1,d1,PT,HA hN (kS (jY hw.oy a2)).2.1 (kS (jY hw.oy b2)).1 (kS (jY hw.oy d2)).1]
theorem Kh {P:cd} {me now:Int} (h:(c.Pz==7)=true):fin c P (jw P me now c)=(P,bif (jw P me now c).1==0 then iG.mk 0 (jw P me now c).2.1 else iG.mk (jw P me now c).1 0):=by
  have hp:(jw P me now c).2.2=P:=by
    unfold jw;rw [h];cases jq P.py.ag now me c.a 2 != 0
    · cases !iA c.b 0 (((nth P.py.ag (iy P.py.ag now me c.a)).PG.length:Int) - 1)<;>rfl
    · rfl
  have h1:(c.Pz==1)=false:=by
    have:c.Pz=7:=by simpa using h
    rw [this];rfl
  unfold fin;rw [hp,h1];cases (jw P me now c).1==0<;>rfl
theorem MQ (hN:ir≤N) (hw:Wq w) (ok:j8 w=true) (hp:jA w p=true) (hq:jA w q=true) (c:iJ):qj N w p q c=some ((uH w p q c).1,(uH w p q c).2.1):=by
  obtain ⟨q1,q2⟩:=ki hq;unfold qj uH;simp only [yP hN hw hp hq hp,PT];cases nS w p q p
  · rfl
  simp only [PW,PU,q1,PT,xB hN (jY hw.oy q2),I7 hN (hw.GL ok q2)]
theorem M8 (hN:ir≤N) (hw:Wq w) (ok:j8 w=true) (hp:jA w p=true) (hq:jA w q=true) (hk:(c.Pz==7)=true):sZ N w p q c=some (sw (uH w p q c)):=by
  obtain ⟨p1,p2⟩:=ki hp;obtain ⟨q1,q2⟩:=ki hq;obtain ⟨q0,q9⟩:=u5 hq
  have hc:c.Pz=7:=by simpa using hk
  unfold sZ uH nS;simp only [p1,q1,PT,xL hN (kS (jY hw.oy p2)).2.1 (kS (jY hw.oy q2)).1 (kS (jY hw.oy p2)).1];cases ru (nth w.parts p).own (nth w.parts q).PB (nth w.parts p).PB
  · rfl
  simp only [PW,PU,Ie hN (hw.GL ok q2) q w.PQ (c:=c) (by rw [hc];rfl) (by rw [hc];rfl),PT,BU];rw [Kh hk];simp only [PT];rw [show w.parts.set q.toNat (cd.mk (nth w.parts q).PB (nth w.parts q).own (nth w.parts q).PC (il.mk (nth w.parts q).py.ag (jv.mk (nth w.parts q).py.gc.PD (nth w.parts q).py.gc.PL (nth w.parts q).py.gc.PF (nth w.parts q).py.gc.hZ)) (nth w.parts q).ia (nth w.parts q).PJ (nth w.parts q).PI (nth w.parts q).hY (nth w.parts q).ik (nth w.parts q).PH)=w.parts from oe (jM q0 q9)];unfold sw bne;cases (jw (nth w.parts q) q w.PQ c).1==0<;>rfl
theorem NJ (hN:ir≤N) (hw:Wq w) (ok:j8 w=true) (hp:jA w p=true) (hq:jA w q=true) (c:iJ):pE N w p q c=some ((tj w p q c).1,(tj w p q c).2.2):=by
  obtain ⟨q1,q2⟩:=ki hq;have ar:=kf (xt ok q2);have hb:=(kS (jY hw.oy q2)).2.2.2.1;unfold pE tj;simp only [nO,yP hN hw hp hp hq,PT];cases iA c.b 0 999
  · rfl
  cases nS w p p q
  · rfl
  simp only [PW,PU,q1,PT,xU hN hb];have hg:=uc (l:=(nth w.parts q).py.ag) (now:=w.PQ) (me:=q) (h:=c.a) ar.len;generalize iy (nth w.parts q).py.ag w.PQ q c.a=g at *;unfold wG
  have e:(bif decide (g ≥ 0) then (idx (nth w.parts q).py.ag g).bind fun y45=>bif y45.Pz==3 then some (decide ((y45.PE.length:Int)<2)) else some false else some false)=some (oh (nth w.parts q).py.ag g):=by
    unfold oh;cases h:decide (g ≥ 0)
    · rfl
    have h:=of_decide_eq_true h;rw [jC h (hg h),PT];simp only [PV,PX,mj]
  rw [e,PT];cases h:oh (nth w.parts q).py.ag g
  · rfl
  have h':=h;unfold oh at h';simp only [PY,decide_eq_true_eq] at h';rw [PV,jC h'.1 (hg h'.1),PT,G7 (by omega)];rfl
theorem MY (hN:ir≤N) (hw:Wq w) (ok:j8 w=true) (hp:jA w p=true) (hq:jA w q=true) (c:iJ):sW N w p q c=some (sw (tj w p q c)):=by
  obtain ⟨p1,p2⟩:=ki hp;obtain ⟨q1,q2⟩:=ki hq;have ar:=kf (xt ok q2);have hb:=(kS (jY hw.oy q2)).2.2.2.1;unfold sW tj nS;simp only [nE,p1,q1,xL hN (kS (jY hw.oy p2)).2.1 (kS (jY hw.oy p2)).1 (kS (jY hw.oy q2)).1,PT];cases iA c.b 0 999
  · rfl
  cases ru (nth w.parts p).own (nth w.parts p).PB (nth w.parts q).PB
  · rfl
  simp only [PW,PU,PT,xT hN hb (hw.w _ q2)];have hg:=uc (l:=(nth w.parts q).py.ag) (now:=w.PQ) (me:=q) (h:=c.a) ar.len;generalize iy (nth w.parts q).py.ag w.PQ q c.a=g at *;unfold wG
  have e:(bif decide (g<0) then some true else (idx (nth w.parts q).py.ag g).bind fun y84=>bif y84.Pz != 3 then some true else some (decide ((y84.PE.length:Int) ≥ 2)))=some (!oh (nth w.parts q).py.ag g):=by
    unfold oh
    by_cases h:g<0
    · rw [decide_eq_true h,decide_eq_false (show ¬ g ≥ 0 by omega)];rfl
    rw [decide_eq_false h,decide_eq_true (show g ≥ 0 by omega),PU,jC (by omega) (hg (by omega)),PT,lq,PX,Bool.not_and];unfold bne
    by_cases k:((nth (nth w.parts q).py.ag g).PE.length:Int)<2
    · rw [decide_eq_true k,decide_eq_false (show ¬ ((nth (nth w.parts q).py.ag g).PE.length:Int) ≥ 2 by omega)];rfl
    · rw [decide_eq_false k,decide_eq_true (show ((nth (nth w.parts q).py.ag g).PE.length:Int) ≥ 2 by omega)];rfl
  rw [e,PT];cases h:oh (nth w.parts q).py.ag g
  · rfl
  have h':=h;unfold oh at h';simp only [PY,decide_eq_true_eq] at h';rw [PW,PU,jC h'.1 (hg h'.1),PT,jT (Nat.lt_trans (show _<2 by omega) (by decide)),PT,G7 (by omega)];rfl
theorem Ov (hN:ir≤N) (hw:Wq w) (ok:j8 w=true) (hp:jA w p=true) (hq:jA w q=true) (c:iJ):qq N w p q c=some (wX w p q c):=by
  obtain ⟨p1,p2⟩:=ki hp;obtain ⟨p0,p9⟩:=u5 hp;have hT:=jG.1 (kY (xt ok p2));unfold qq wX;simp only [p1,GC,yP hN hw hp hp hq,tz N hT.len,PT,lq]
  show (bif (decide (c.d<0) || !lA (sd c)) then _ else _)=_
  cases decide (c.d<0) || !lA (sd c)
  case true=>rfl
  cases nS w p p q
  case false=>rfl
  cases iW (nth w.parts p).PC c.a
  case false=>rfl
  cases h:decide (((nth w.parts p).ia.length:Int) ≥ 3)
  case true=>rfl
  have h:=of_decide_eq_false h;simp only [PW,PU];rw [G7 (by omega),PT,zU p0 p9];rfl
theorem N6 (hN:ir≤N) (hw:Wq w) (ok:j8 w=true) (hp:jA w p=true) (hq:jA w q=true) (c:iJ):ug N w p q c=some (sw (wX w p q c)):=by
  obtain ⟨p1,p2⟩:=ki hp;obtain ⟨q1,q2⟩:=ki hq;obtain ⟨p0,p9⟩:=u5 hp;have hT:=kY (xt ok p2);unfold ug wX nS;simp only [p1,q1,Bv,xL hN (kS (jY hw.oy p2)).2.1 (kS (jY hw.oy p2)).1 (kS (jY hw.oy q2)).1,vd hN,hT,PX,PT];cases decide (c.d<0)
  case true=>rfl
  show (bif !lA (sd c) then _ else _)=some (sw (bif !lA (sd c) then _ else _))
  cases lA (sd c)
  case false=>rfl
  cases ru (nth w.parts p).own (nth w.parts p).PB (nth w.parts q).PB
  case false=>rfl
  cases iW (nth w.parts p).PC c.a
  case false=>rfl
  cases h:decide (((nth w.parts p).ia.length:Int) ≥ 3)
  case true=>rfl
  have h:=of_decide_eq_false h;simp only [PW,PU];rw [jT (Nat.lt_trans (show _<3 by omega) (by decide)),PT,G7 (by omega),PT,PT,zU p0 p9];rfl
theorem EM (hN:ir+1≤N) (hw:Wq w) (p th:Int) (c:iJ):qy N w p th c=some (lD w p th c):=by
  have hN':ir≤N:=Nat.le_of_succ_le hN;have hl:=mG hw.oy;unfold qy lD;simp only [EB hN' hw.oy,JJ hN' hw.oy,Cf hl,PT,lq];cases hok:!j8 w || !jA w p
  case true=>rfl
  have hok:j8 w=true∧jA w p=true:=by simpa using hok
  obtain ⟨ok,hp⟩:=hok;obtain ⟨p1,p2⟩:=ki hp;simp only [PU,p1,PT,Ce hN' (jY hw.oy p2)];cases hc:lJ (nth w.parts p) w.PQ th
  case false=>rfl
  simp only [PW,PU,Fb hl,PT];cases ho:decide (other w p c<0)
  case true=>rfl
  have hq:=tN ho;generalize other w p c=q at *;simp only [PU];cases c.Pz==7
  case true=>simp only [PV,MQ hN' hw ok hp hq,PT];rw [← C7,yi];rfl
  cases c.Pz==17
  case true=>simp only [PV,PU,NJ hN' hw ok hp hq,PT];unfold tj;cases iA c.b 0 999<;>cases nS w p p q<;>rfl
  cases c.Pz==16
  case true=>simp only [PV,PU,Ov hN' hw ok hp hq,PT];rw [← C7];rfl
  simp only [PU,Hl hN (hw.each _ p2) (hw.w _ p2),PT];rfl
theorem EI (hN:ir≤N) (hw:Wq w) (p th:Int) (c:iJ):qx N w p th c=some (lD w p th c):=by
  have hl:w.parts.length<16777216:=mG hw.oy;unfold qx lD;simp only [JM hN hw.oy,Cy hN hw.oy hw.w,nE,PT,lq];rw [iE (by omega) (by omega),show iA p 0 ((w.parts.length:Int) - 1)=jA w p from rfl];cases hok:!j8 w || !jA w p
  case true=>rfl
  have hok:j8 w=true∧jA w p=true:=by simpa using hok
  obtain ⟨ok,hp⟩:=hok;obtain ⟨p1,p2⟩:=ki hp;simp only [PU,p1,PT,BR hN (jY hw.oy p2) (hw.w _ p2)];cases hc:lJ (nth w.parts p) w.PQ th
  case false=>rfl
  simp only [PW,PU,Fp hl,PT,Av hN (hw.each _ p2) (hw.w _ p2)]
  have hself:((c.Pz==7) || ((c.Pz==17) || (c.Pz==16)))=false→decide (other w p c<0)=false:=fun h=>by
    have h0:=u5 hp;simp only [Bool.or_eq_false_iff] at h;unfold other target;rw [h.1,h.2.1,h.2.2];simp only [Bool.or_self,Bool.false_eq_true,if_false,hp,if_true];exact decide_eq_false (by omega)
  cases k7:c.Pz==7
  case true =>
    simp only [PV,PT];cases ho:decide (other w p c<0)
    case true=>rfl
    simp only [PU,M8 hN hw ok hp (tN ho) k7,PT]
  cases k17:c.Pz==17
  case true =>
    simp only [PV,PU,PT];cases ho:decide (other w p c<0)
    case true=>rfl
    simp only [PU,MY hN hw ok hp (tN ho),PT]
  cases k16:c.Pz==16
  case true =>
    simp only [PV,PU,PT];cases ho:decide (other w p c<0)
    case true=>rfl
    simp only [PU,N6 hN hw ok hp (tN ho),PT]
  rw [hself (by rw [k7,k17,k16];rfl)];simp only [PU,PT];rfl
end
end Go.Kx
namespace Go.Kx
open Go
open Go.IntKind (i64)
set_option linter.unusedVariables false
set_option linter.unusedSimpArgs false
set_option maxRecDepth 10000
theorem BW {p:cd} (hp:kU p) {now me h:Int} (n:Int):rj p (wG p (iy p.py.ag now me h) n):=by
  unfold wG;have hg:=uc (l:=p.py.ag) (now:=now) (me:=me) (h:=h) hp.ar.len;generalize iy p.py.ag now me h=g at *;cases q:oh p.py.ag g
  · exact oO rfl rfl rfl (by show jr iz p.py.ag≤_;omega) (Nat.le_succ _) (Nat.le_refl _) hp.w rfl
  · unfold oh at q;simp only [PY,decide_eq_true_eq] at q;have hl:=hp.ar.len;have g9:=hg q.1;have ho:=oQ hp.ar q.1 (by omega);have hwi:nn (nth p.py.ag g):=hp.w _ (lh q.1 g9);refine oO rfl rfl rfl (Nat.le_trans (vi ?_) (by omega)) (Nat.le_succ _) (Nat.le_refl _) (kR hp.w hwi) List.length_set;unfold iz at ho;unfold iz nR;simp only [List.length_append,List.length_cons,List.length_nil];omega
theorem GO {p:cd} (hp:kU p) (t:iZ):rj p (wq p (p.ia++[t])):=by
  refine ⟨?_,hp.w,rfl⟩;unfold iH wq;simp only [List.length_append,List.length_cons,List.length_nil];omega
theorem F7 {w:iC} (hw:Wq w) (p th:Int) (c:iJ):(lD w p th c).1=w∨∃ q z,jA w q=true∧rj (nth w.parts q) z∧(lD w p th c).1=pD w q z:=by
  unfold lD;cases hok:!j8 w || !jA w p
  case true=>exact .inl rfl
  have hok:j8 w=true∧jA w p=true:=by simpa using hok
  obtain ⟨ok,hp⟩:=hok;obtain ⟨p1,p2⟩:=ki hp;have pp:=hw.GL ok p2;cases hc:lJ (nth w.parts p) w.PQ th
  case false=>exact .inl rfl
  cases ho:decide (other w p c<0)
  case true=>exact .inl rfl
  have hq:=tN ho;generalize other w p c=q at *;obtain ⟨q1,q2⟩:=ki hq;have pq:=hw.GL ok q2;simp only [PU,PW]
  have f3:∀ r:Int×Int×iC,(sw r).1=r.2.2:=fun r=>by unfold sw;cases r.1 != 0<;>rfl
  cases c.Pz==7
  case true=>rw [PV,f3,yi];exact .inl rfl
  cases c.Pz==17
  case true =>
    rw [PU,PV,f3];unfold tj;cases iA c.b 0 999
    case false=>exact .inl rfl
    cases nS w p p q
    case false=>exact .inl rfl
    exact .inr ⟨q,_,hq,BW pq c.b,rfl⟩
  cases c.Pz==16
  case true =>
    rw [PU,PU,PV,f3];unfold wX;cases decide (c.d<0) || !lA (sd c)
    case true=>exact .inl rfl
    cases nS w p p q
    case false=>exact .inl rfl
    cases iW (nth w.parts p).PC c.a
    case false=>exact .inl rfl
    cases decide (((nth w.parts p).ia.length:Int) ≥ 3)
    case true=>exact .inl rfl
    exact .inr ⟨p,_,hp,GO pp (sd c),rfl⟩
  have h:=BE pp.sz pp.w p w.PQ th c;exact .inr ⟨p,_,hp,⟨h.1,h.2,zS pp.sz pp.w p w.PQ th c⟩,rfl⟩
theorem Hv {w:iC} {q:Int} (hq:jA w q=true) {z:cd} (hn:rj (nth w.parts q) z):jr iH (pD w q z).parts≤2 * jr iH w.parts+300:=by
  have h1:jr iH (w.parts.set q.toNat z)≤_:=va;have h2:iH (nth w.parts q)≤jr iH w.parts:=Nat.le_of_lt_succ (jY (Nat.lt_succ_self _) (ki hq).2);have h3:=hn.sz
  show jr iH (w.parts.set q.toNat z)≤_
  omega
theorem Mr {w:iC} (hw:Wq w) (p th:Int) (c:iJ):jr iH (lD w p th c).1.parts≤2 * jr iH w.parts+300:=by
  rcases F7 hw p th c with e | ⟨q,z,hq,hn,e⟩
  · rw [e];omega
  · rw [e];exact Hv hq hn
end Go.Kx
namespace Go.Kx
open Go
open Go.IntKind (i64)
set_option linter.unusedVariables false
set_option linter.unusedSimpArgs false
set_option maxRecDepth 10000
structure Gd (p q:cd):Prop where
  ok:iO q=true
  sp:Kx.sp q=Kx.sp p
theorem Gd.self {p:cd} (h:iO p=true):Gd p p:=⟨h,rfl⟩
theorem tb {p:cd} (h:iO p=true):Hk p.py:=by
  unfold iO at h;simp only [PY] at h;exact nV.1 h.2.2.2.1
theorem xm {p:cd} (h:iO p=true) {H:il} (hH:Hk H) (hg:kQ H.ag=kQ p.py.ag):Gd p (mC p H):=by
  have hA:=nV.2 hH;refine ⟨?_,?_⟩
  · unfold iO at *;simp only [PY] at h ⊢;obtain ⟨a,b,c,d,e⟩:=h;exact ⟨a,b,c,hA,e⟩
  · unfold Kx.sp
    show ic.mk (_+kQ H.ag+_) _ _=_
    rw [hg];rfl
theorem BH {p:cd} (h:iO p=true) {t:List im} (ht:TK p.PC t):Gd p (wu p t):=by
  have hA:=jG.2 ht.tr;refine ⟨?_,?_⟩
  · unfold iO at *;simp only [PY] at h ⊢;obtain ⟨a,b,c,d⟩:=h;exact ⟨a,b,hA,d⟩
  · unfold Kx.sp
    show ic.mk (jh ic.bh t+_+_) (jh ic.ib t+_) (jh ic.ij t+_)=_
    rw [ht.pg,ht.rt,ht.cp];rfl
theorem Ga {p:cd} (h:iO p=true) {t:List iZ} (h3:t.length≤3) (ht:∀ x,x ∈ t→lA x=true):Gd p (wq p t):=by
  refine ⟨?_,rfl⟩;unfold iO at *;simp only [PY,List.all_eq_true] at h ⊢;obtain ⟨a,b,c,d,e,f,g⟩:=h;refine ⟨a,b,c,d,?_,ht,g⟩
  show (!decide ((t.length:Int) > 3))=true
  rw [decide_eq_false (by omega)];rfl
theorem FQ {p:cd} (h:iO p=true):p.ia.length≤3∧∀ x,x ∈ p.ia→lA x=true:=by
  unfold iO at h;simp only [PY,List.all_eq_true,Bool.not_eq_true',decide_eq_false_iff_not] at h;obtain ⟨a,b,c,d,e,f,g⟩:=h;exact ⟨by omega,f⟩
theorem Hk.ag {h:il} (q:Hk h) {l:List gE} (hl:Ar l):Hk (il.mk l h.gc):=⟨hl,q.ph,q.rd,q.gr,q.nd⟩
theorem wH {l:List gE} {i:Int} (h0:0≤i) (h1:i<(l.length:Int)) {z:gE} (e:z.bh=(nth l i).bh):kQ (l.set i.toNat z)=kQ l:=by
  rw [tG h0 h1];omega
theorem J9 {h:il} (q:Hk h) (i:Int):Hk (qE h i)∧kQ (qE h i).ag=kQ h.ag:=by
  unfold qE;cases c:kB h&&iA i 0 9
  · exact ⟨q,rfl⟩
  · rw [PY,iS] at c;exact ⟨q.mb c.2.1 c.2.2,Ci q.ar c.2.1 c.2.2⟩
theorem Cs {h:il} (q:Hk h) (x i:Int):Hk (mD h x i)∧kQ (mD h x i).ag=kQ h.ag:=by
  unfold mD;cases decide (x ≥ 0)
  · exact ⟨q,rfl⟩
  · exact J9 q i
theorem Ar.bx {l:List gE} (h:Ar l) {i:Int} (h0:0≤i) (h9:i≤9) (hk:(nth l i).Pz ≠ 0) (hb:0≤(nth l i).box):(nth l (nth l i).box).Pz ≠ 0:=by
  by_cases e:i=0
  · subst e;rw [h.yf] at hb;exact absurd hb (by decide)
  · have:=h.len;exact h.box i.toNat _ (jM h0 (by omega)) (by omega) hk hb
theorem Ar.NH {l:List gE} (h:Ar l) {i:Int} (h0:0≤i) (h9:i≤9) {z:gE} (hk:z.Pz=(nth l i).Pz) (hb:i=0→z.box=-1) (hb':z.Pz ≠ 0→0≤z.box→(nth l z.box).Pz ≠ 0)
    (hl:∀ y,y ∈ z.ig→0≤y→(nth l y).Pz ≠ 0) (ht:i=0→z.iK=1000000) (ok:ja z=true):Ar (l.set i.toNat z):=by
  have h10:=h.len
  have hn:∀ j,0≤j→nth (l.set i.toNat z) j=if i=j then z else nth l j:=fun j hj=>tH h0 (by omega) hj
  have hkind:∀ j,0≤j→(nth (l.set i.toNat z) j).Pz=(nth l j).Pz:=fun j hj=>by
    rw [hn j hj];split
    · rename_i e;rw [← e];exact hk
    · rfl
  refine ⟨by rw [List.length_set];exact h10,by rw [hkind 0 (by omega)];exact h.uC,?_,?_,?_,?_,?_⟩
  · rw [hn 0 (by omega)];split
    · rename_i e;exact hb e
    · exact h.yf
  · rw [hn 0 (by omega)];split
    · rename_i e;exact ht e
    · exact h.z7
  · intro o ho
    rcases List.mem_or_eq_of_mem_set ho with q | rfl
    · exact h.ok o q
    · exact ok
  · intro o ho y hy y0;rw [hkind y y0]
    rcases List.mem_or_eq_of_mem_set ho with q | rfl
    · exact h.ig o q y hy y0
    · exact hl y hy y0
  · intro k o hko k0 hne b0;rw [hkind o.box b0]
    by_cases e:k=i.toNat
    · subst e;rw [List.getElem?_set_self (by omega)] at hko;have:z=o:=Option.some.inj hko;subst this;exact hb' hne b0
    · rw [List.getElem?_set_ne (Ne.symm e)] at hko;exact h.box k o hko k0 hne b0
theorem yg {o:gE} (h:o.Pz ≠ 0):(o.Pz==0)=false:=by simpa using h
theorem Ii {l:List gE} {now me h k:Int} (q:jq l now me h k=0) (k0:k ≠ 0):(nth l (iy l now me h)).Pz=k:=(kV q).2.2.2.2 k0
theorem K0 {l:List gE} {now me h k:Int} (q:jq l now me h k=0):nG h=true:=by
  unfold jq at q;cases e:nG h
  · rw [e] at q;simp at q
  · rfl
theorem L6 {p:cd} (hp:kU p) (me now:Int) (c:iJ):Gd p (mI p me now c).2.2:=by
  unfold mI;cases q1:!iA c.b 0 1
  case true=>exact Gd.self hp.ok
  cases q2:jq p.py.ag now me c.a 0 != 0
  case true=>exact Gd.self hp.ok
  cases q3:(c.Pz==2)&&(jq p.py.ag now me c.c 0 != 0)
  case true=>exact Gd.self hp.ok
  simp only [PU];obtain ⟨ar,g0,g9,gk,_⟩:=kV (jX q2)
  have hx:∀ x,x=(bif c.Pz==2 then iy p.py.ag now me c.c else -1)→x=-1∨(0≤x∧x≤9∧(nth p.py.ag x).Pz ≠ 0):=fun x e=>by
    cases k2:c.Pz==2
    · rw [k2] at e;exact .inl e
    · rw [k2] at e q3;have:=kV (jX (by simpa using q3));rw [e];exact .inr ⟨this.2.1,this.2.2.1,this.2.2.2.1⟩
  have hx:=hx _ rfl;generalize (bif c.Pz==2 then iy p.py.ag now me c.c else -1)=x at *;generalize iy p.py.ag now me c.a=i at *;have hi:=ar.at g0 g9;have hl:=ar.len;have ho:=ar.ok _ hi.2;have hk:=yg gk;have hL:=np ho hk;have hb:=mJ ho (yy hk)
  have okz:ja (linked (nth p.py.ag i) c.b x)=true:=by
    refine o9 ho hk rfl rfl hb.1 rfl hb.2.2.1 rfl ?_ rfl rfl rfl;unfold lH at hL ⊢;simp only [PY,List.all_eq_true] at hL ⊢;refine ⟨fun y hy=>?_,hL.2.1,hL.2.2.1,?_,hL.2.2.2.2⟩
    · rcases List.mem_or_eq_of_mem_set hy with q | q
      · exact hL.1 y q
      · rw [q,iS];omega
    · show (((List.set _ _ _).length:Int)==2)=true
      rw [List.length_set];exact hL.2.2.2.1
  have arz:Ar (p.py.ag.set i.toNat (linked (nth p.py.ag i) c.b x)):=by
    refine ar.NH g0 g9 rfl (fun e=>by rw [e];exact ar.yf) (fun _ b=>ar.bx g0 g9 gk b) (fun y hy y0=>?_) (fun e=>by rw [e];exact ar.z7) okz
    rcases List.mem_or_eq_of_mem_set hy with q | q
    · exact ar.ig _ hi.2 y q y0
    · subst q
      rcases hx with q | q
      · omega
      · exact q.2.2
  obtain ⟨s1,s2⟩:=Cs ((tb hp.ok).ag arz) x x;exact xm hp.ok s1 (s2.trans (wH g0 (by omega) rfl))
theorem Mh {p:cd} (hp:kU p) (me now:Int) (c:iJ):Gd p (mE p me now c).2.2:=by
  unfold mE;cases q2:jq p.py.ag now me c.a 0 != 0
  case true=>exact Gd.self hp.ok
  cases q1:iy p.py.ag now me c.a==0
  case true=>exact Gd.self hp.ok
  cases q3:(c.Pz==4)&&(jq p.py.ag now me c.b 1 != 0)
  case true=>exact Gd.self hp.ok
  simp only [PU];obtain ⟨ar,g0,g9,gk,_⟩:=kV (jX q2)
  have hx:∀ x,x=(bif c.Pz==4 then iy p.py.ag now me c.b else -1)→x=-1∨(0≤x∧x≤9∧(nth p.py.ag x).Pz ≠ 0):=fun x e=>by
    cases k2:c.Pz==4
    · rw [k2] at e;exact .inl e
    · rw [k2] at e q3;have:=kV (jX (by simpa using q3));rw [e];exact .inr ⟨this.2.1,this.2.2.1,this.2.2.2.1⟩
  have hx:=hx _ rfl;generalize (bif c.Pz==4 then iy p.py.ag now me c.b else -1)=x at *;generalize iy p.py.ag now me c.a=i at *
  have hi0:i ≠ 0:=by simpa using q1
  have hi:=ar.at g0 g9;have hl:=ar.len;have ho:=ar.ok _ hi.2;have hk:=yg gk;have hL:=np ho hk;have hb:=mJ ho (yy hk)
  have okz:ja (boxed (nth p.py.ag i) x)=true:=by
    refine o9 ho hk rfl rfl ?_ rfl hb.2.2.1 rfl hL rfl rfl rfl
    show iA x (-1) 9=true
    rw [iS];omega
  have arz:Ar (p.py.ag.set i.toNat (boxed (nth p.py.ag i) x)):=by
    refine ar.NH g0 g9 rfl (fun e=>absurd e hi0) (fun _ b=>?_) (fun y hy y0=>ar.ig _ hi.2 y hy y0) (fun e=>absurd e hi0) okz;have b:0≤x:=b
    rcases hx with q | q
    · omega
    · exact q.2.2
  obtain ⟨s1,s2⟩:=Cs ((tb hp.ok).ag arz) x i;exact xm hp.ok s1 (s2.trans (wH g0 (by omega) rfl))
theorem BA {p:cd} (h:iO p=true) {i:Int} (g0:0≤i) (g9:i≤9) {z:gE} (hk:z.Pz=(nth p.py.ag i).Pz) (hb:z.box=(nth p.py.ag i).box) (hl:z.ig=(nth p.py.ag i).ig) (ht:i=0→z.iK=(nth p.py.ag i).iK)
    (hg:z.bh=(nth p.py.ag i).bh) (ok:ja z=true):Gd p (nf p (p.py.ag.set i.toNat z)):=by
  have ar:=kf h;have hlen:=ar.len;exact xm h ((tb h).ag (ar.swap g0 g9 hk hb hl ht ok)) (wH g0 (by omega) hg)
theorem Mf {p:cd} (hp:kU p) (me now:Int) (c:iJ):Gd p (jw p me now c).2.2:=by
  unfold jw;cases q2:jq p.py.ag now me c.a 2 != 0
  case true=>exact Gd.self hp.ok
  cases q1:!iA c.b 0 (((nth p.py.ag (iy p.py.ag now me c.a)).PG.length:Int) - 1)
  case true=>exact Gd.self hp.ok
  cases c.Pz==7
  case true=>exact Gd.self hp.ok
  cases q3:!iA c.c 0 999
  case true=>exact Gd.self hp.ok
  simp only [PU];obtain ⟨ar,g0,g9,gk,_⟩:=kV (jX q2);generalize iy p.py.ag now me c.a=i at *;have ho:=ar.ok _ (ar.at g0 g9).2;have hk:=yg gk;have hL:=np ho hk;have hb:=mJ ho (yy hk);refine BA hp.ok g0 g9 rfl rfl rfl (fun _=>rfl) rfl (o9 ho hk rfl rfl hb.1 rfl hb.2.2.1 rfl ?_ rfl rfl rfl);unfold lH at hL ⊢;simp only [PY,List.all_eq_true] at hL ⊢;refine ⟨hL.1,fun y hy=>?_,hL.2.2.1,hL.2.2.2.1,?_,hL.2.2.2.2.2⟩
  · rcases List.mem_or_eq_of_mem_set hy with q | q
    · exact hL.2.1 y q
    · rw [q];simpa using q3
  · show (((List.set _ _ _).length:Int)==_)=true
    rw [List.length_set];exact hL.2.2.2.2.1
theorem MS {a b:ic} (h:(kv a b).2=true):(kv a b).1=⟨a.bh+b.bh,a.ib+b.ib,a.ij+b.ij⟩∧iU (kv a b).1=true∧iU b=true:=by
  unfold kv at h ⊢;cases q:iU a&&iU b&&iU (iV a b)
  · rw [q] at h;simp at h
  · simp only [if_true];simp only [PY] at q;have a1:=jd.1 q.1.1;have b1:=jd.1 q.1.2;refine ⟨?_,q.2,q.1.2⟩;unfold iV;rw [iE (by omega) (by omega),iE (by omega) (by omega),iE (by omega) (by omega)]
theorem FO {p:cd} (h:iO p=true) {f:Int} {a:ic} (hc:mn p f a=true):iO (pM p f a)=true∧jh ic.bh (pM p f a).PC=jh ic.bh p.PC - a.bh ∧
    (pM p f a).hY.bh=p.hY.bh∧jh ic.ib (pM p f a).PC+(pM p f a).hY.ib=jh ic.ib p.PC+p.hY.ib∧jh ic.ij (pM p f a).PC+(pM p f a).hY.ij=jh ic.ij p.PC - a.ij+p.hY.ij:=by
  unfold mn at hc;rw [PY] at hc;obtain ⟨hT,ha,hg⟩:=uW hc.1;obtain ⟨e,s1,s2⟩:=MS hc.2;have g1:=hg ic.bh fun _ _=>rfl;have g2:=hg ic.ib fun _ _=>rfl;have g3:=hg ic.ij fun _ _=>rfl;have hA:=jG.2 hT;refine ⟨?_,g1,?_,?_,?_⟩
  · unfold iO rq at *;simp only [PY] at h ⊢;obtain ⟨a,b,c,d,e,f,g1,g2,g3,g4⟩:=h;exact ⟨a,b,hA,d,e,f,g1,g2,s1,g4⟩
  · show (kv p.hY (ic.mk 0 a.ib 0)).1.bh=_
    rw [e];exact Int.add_zero _
  · show jh ic.ib (iX p.PC f a).1+(kv p.hY (ic.mk 0 a.ib 0)).1.ib=_
    rw [e,g2];dsimp only;omega
  · show jh ic.ij (iX p.PC f a).1+(kv p.hY (ic.mk 0 a.ib 0)).1.ij=_
    rw [e,g3];dsimp only;omega
theorem Lj {p q:cd} (h1:jh ic.bh q.PC+kQ q.py.ag+q.hY.bh=jh ic.bh p.PC+kQ p.py.ag+p.hY.bh) (h2:jh ic.ib q.PC+q.hY.ib=jh ic.ib p.PC+p.hY.ib) (h3:jh ic.ij q.PC+q.hY.ij=jh ic.ij p.PC+p.hY.ij):sp q=sp p:=by
  unfold sp;rw [h1,h2,h3]
theorem K5 {p:cd} (hp:kU p) (me now:Int) (c:iJ):Gd p (kO p me now c).2.2:=by
  unfold kO;cases q2:jq p.py.ag now me c.a 0 != 0
  case true=>exact Gd.self hp.ok
  cases q1:(iy p.py.ag now me c.a==0) || (!iA c.b 1 1000 || decide (i64.wrap ((nth p.py.ag (iy p.py.ag now me c.a)).iK+c.b) > 1000000))
  case true=>exact Gd.self hp.ok
  cases q3:!mn p (kJ p (nth p.py.ag (iy p.py.ag now me c.a)).res) (ic.mk 0 (i64.wrap ((nth p.py.ag (iy p.py.ag now me c.a)).bh * c.b)) 0)
  case true=>exact Gd.self hp.ok
  simp only [PU];obtain ⟨ar,g0,g9,gk,_⟩:=kV (jX q2)
  have q3:mn p (kJ p (nth p.py.ag (iy p.py.ag now me c.a)).res) (ic.mk 0 (i64.wrap ((nth p.py.ag (iy p.py.ag now me c.a)).bh * c.b)) 0)=true:=by simpa using q3
  generalize iy p.py.ag now me c.a=i at *;simp only [Bool.or_eq_false_iff,Bool.not_eq_false',iS,decide_eq_false_iff_not,beq_eq_false_iff_ne] at q1;obtain ⟨i0,b1,t1⟩:=q1;have ho:=ar.ok _ (ar.at g0 g9).2;have hl:=ar.len;have hk:=yg gk;have hb:=mJ ho (yy hk);have ht:=iS.1 hb.2.2.1;obtain ⟨p1,p2,p3,p4,p5⟩:=FO hp.ok q3
  have g:=BA (i:=i) (z:=AX (nth p.py.ag i) (i64.wrap ((nth p.py.ag i).iK+c.b))) p1 g0 g9 rfl rfl rfl (fun e=>absurd e i0) rfl (by
    refine o9 ho hk rfl rfl hb.1 rfl ?_ rfl (show lH (nth p.py.ag i)=true from np ho hk) rfl rfl rfl;rw [iE (by omega) (by omega)] at t1 ⊢
    show iA ((nth p.py.ag i).iK+c.b) 0 1000000=true
    rw [iS];omega)
  refine ⟨g.ok,g.sp.trans (Lj ?_ p4 ?_)⟩
  · rw [p2,p3,BP];dsimp only;omega
  · rw [p5];dsimp only;omega
theorem Nd {p:cd} (hp:kU p) (c:iJ):Gd p (mU p c).2.2:=by
  unfold mU;cases c.Pz==9
  · cases c.Pz==10
    · cases q:!(l7 p.PC c.a).2
      · exact BH hp.ok (Ir (by simpa using q))
      · exact Gd.self hp.ok
    · cases !iA c.a 0 4 || (!iA c.b 0 4 || (!iA c.c 0 2 || !v7 c.d))
      case true=>exact Gd.self hp.ok
      cases q:!(l6 p.PC c.a c.b (lF c.c c.d)).2
      · exact BH hp.ok (JZ (by simpa using q))
      · exact Gd.self hp.ok
  · cases !iA c.a 0 4 || !iU (ic.mk c.b c.c c.d)
    case true=>exact Gd.self hp.ok
    cases q:!(k6 p.PC c.a (ic.mk c.b c.c c.d)).2.2
    · exact BH hp.ok (GY (by simpa using q))
    · exact Gd.self hp.ok
end Go.Kx
namespace Go.Kx
open Go
open Go.IntKind (i64)
set_option linter.unusedVariables false
set_option linter.unusedSimpArgs false
set_option maxRecDepth 10000
theorem D2 {l:List gE} {o:gE}:∀ (m:List gE) (k:Nat),l.drop k=m→(pA l o k m).2<0∨∃ (j:Nat) (x:gE),k≤j∧l[j]?=some x∧x.Pz=0∧x.PO<999∧pA l o k m=(l.set j (kn o (i64.wrap (x.PO+1))),(j:Int))∧kp (l.set j (kn o (i64.wrap (x.PO+1))))=true
  | [],k,h=>.inl (by unfold pA;show (-1:Int)<0;decide)
  | x::m,k,h=>by
    have hx:l[k]?=some x:=by
      have:=congrArg (fun q=>q[0]?) h;simpa using this
    have hm:l.drop (k+1)=m:=by
      rw [← List.drop_drop,h];rfl
    unfold pA;split
    · rcases D2 m (k+1) hm with e | ⟨j,y,a,b⟩
      · exact .inl e
      · exact .inr ⟨j,y,by omega,b⟩
    · rename_i c;simp only [Bool.or_eq_true,not_or,bne_iff_ne,ne_eq,Decidable.not_not,decide_eq_true_eq] at c;unfold putAt;split
      · rename_i q;rw [PY] at q;exact .inr ⟨k,x,Nat.le_refl _,hx,c.1,by omega,rfl,q.1⟩
      · exact .inl (show (-1:Int)<0 by decide)
theorem E6 {l:List gE} {o:gE} (h:decide ((kr l o).2<0)=false):Ar l∧∃ (j:Nat),1≤j∧j<10∧(nth l (j:Int)).Pz=0∧(nth l (j:Int)).PO<999∧kr l o=(l.set j (kn o (i64.wrap ((nth l (j:Int)).PO+1))),(j:Int))∧Ar (l.set j (kn o (i64.wrap ((nth l (j:Int)).PO+1)))):=by
  have h:=of_decide_eq_false h;unfold kr at *;cases ha:kp l
  · rw [ha] at h;exact absurd (show (-1:Int)<0 by decide) h
  rw [ha] at h;simp only [if_true] at h ⊢;have ar:=j7.1 ha
  rcases D2 (o:=o) (l.drop 1) 1 rfl with e | ⟨j,x,a,b,c,d,e,f⟩
  · exact absurd e h
  · have hj:=jl b;have hl:=ar.len;refine ⟨ar,j,a,by omega,?_⟩;rw [tn b];exact ⟨c,d,e,j7.1 f⟩
theorem EY {o:gE} (h:ja o=true) (hk:o.Pz=0):o.bh=0:=by
  rw [sM h (by simpa using hk)];rfl
theorem Ja {h:il} (q:Hk h) (i:Int):Hk (mW h i)∧kQ (mW h i).ag=kQ h.ag:=by
  unfold mW;split
  · rename_i c;simp only [PY,iS,bne_iff_ne] at c;have hl:=q.ar.len;exact ⟨q.ag (q.ar.mark c.2.1.1 c.2.1.2 _ fun _=>yg c.2.2),wH c.2.1.1 (by omega) rfl⟩
  · exact ⟨q,rfl⟩
theorem Mk {p:cd} (hp:kU p) (me now:Int) (c:iJ) (h0:((lY p me now c).1==0)=true):Gd p (lY p me now c).2.2:=by
  unfold lY at h0 ⊢;cases q1:qG now c
  case true=>exact Gd.self hp.ok
  cases q2:jq p.py.ag now me c.b 1 != 0
  case true=>exact Gd.self hp.ok
  cases q3:!mn p c.e (cost c)
  case true=>exact Gd.self hp.ok
  cases q4:decide ((kr p.py.ag (newObj now (iy p.py.ag now me c.b) c)).2<0)
  case true=>rw [q1,q2,q3,q4] at h0;cases h0
  simp only [PU]
  have q3:mn p c.e (cost c)=true:=by simpa using q3
  obtain ⟨p1,p2,p3,p4,p5⟩:=FO hp.ok q3;obtain ⟨ar,j,j1,j9,jk,jg,e,arj⟩:=E6 q4;have hl:=ar.len;rw [e];generalize iy p.py.ag now me c.b=b at *;generalize i64.wrap ((nth p.py.ag (j:Int)).PO+1)=g at *;have hb:=vh q1;obtain ⟨b1,b2⟩:=Ja ((tb hp.ok).ag arj) (j:Int);have pj:=EY (ar.ok _ (ar.at (i:=(j:Int)) (by omega) (by omega)).2) jk;have ps:=tG (l:=p.py.ag) (i:=(j:Int)) (by omega) (by omega) (kn (newObj now b c) g);rw [Int.toNat_natCast] at ps;have pz:(kn (newObj now b c) g).bh=c.c:=rfl
  have key:kQ (mW (il.mk (p.py.ag.set j (kn (newObj now b c) g)) p.py.gc) (j:Int)).ag=kQ p.py.ag+c.c:=by
    rw [b2]
    show kQ (p.py.ag.set j _)=_
    rw [ps,pj,pz];omega
  refine ⟨?_,Lj ?_ p4 ?_⟩
  · have hA:=nV.2 b1;unfold iO at *;simp only [PY] at p1 ⊢;obtain ⟨a1,a2,a3,a4,a5⟩:=p1;exact ⟨a1,a2,a3,hA,a5⟩
  · show jh ic.bh (pM p c.e (cost c)).PC+kQ (mW (il.mk (p.py.ag.set j (kn (newObj now b c) g)) p.py.gc) (j:Int)).ag+(pM p c.e (cost c)).hY.bh=_
    rw [key,p2,p3]
    show _ - c.c+_+_=_
    omega
  · show jh ic.ij (pM p c.e (cost c)).PC+(pM p c.e (cost c)).hY.ij=_
    rw [p5]
    show _ - 0+_=_
    omega
theorem yI {o z:gE} (h:ja o=true) (hk:o.Pz=4) (e1:z.PO=o.PO) (e2:z.Pz=o.Pz) (e8:z.box=o.box) (e3:z.res=o.res) (e9:z.iK=o.iK) (e4:z.bh=o.bh) (hl:lH z=lH o)
    (hw:(z.PK==0 || iA (i64.wrap (z.PK - 1)) 0 29999)=true) (hg:iA z.iP (-1) 999=true) (e7:z.iM=o.iM):ja z=true:=by
  unfold ja at h ⊢;rw [e1,e2,e3,e4,e7,e8,e9,hl,hk];rw [hk] at h;rw [show ((4:Int)==0)=false from rfl,show ((4:Int) != 4)=false from rfl] at h ⊢;simp only [PU,PY] at h ⊢;obtain ⟨a1,a2,a3,a4,a5,a6,a7,a8,a9,a10⟩:=h;exact ⟨a1,a2,a3,a4,a5,a6,a7,hw,hg,a10⟩
theorem KK {o:gE} (h:ja o=true) (hw:o.PK ≠ 0):o.Pz=4:=by
  cases hk:o.Pz==0
  · unfold ja at h;rw [hk] at h;simp only [PU,PY] at h;obtain ⟨a1,a2,a3,a4,a5,a6,a7,a8⟩:=h;cases h4:o.Pz != 4
    · simpa using h4
    · rw [h4] at a8;simp only [PV,PY,beq_iff_eq] at a8;exact absurd a8.1 hw
  · rw [sM h hk] at hw;exact absurd rfl hw
theorem GD {o:gE} (h:ja o=true) (hk:o.Pz=4):iA o.iP (-1) 999=true∧(o.PK==0 || iA (i64.wrap (o.PK - 1)) 0 29999)=true:=by
  unfold ja at h;rw [hk] at h;rw [show ((4:Int)==0)=false from rfl,show ((4:Int) != 4)=false from rfl] at h;simp only [PU,PY] at h;obtain ⟨a1,a2,a3,a4,a5,a6,a7,a8,a9,a10⟩:=h;exact ⟨a9,a8⟩
theorem yx {o:gE} (h:ja o=true) (hk:o.Pz=3) {q:List je} (hq:q.length≤2) (hm:∀ m,m ∈ q→uL m=true):ja (nR o q)=true:=by
  have hk0:(o.Pz==0)=false:=by rw [hk];rfl
  have hL:=np h hk0;have hb:=mJ h (yy hk0);refine o9 h hk0 rfl rfl hb.1 rfl hb.2.2.1 rfl ?_ rfl rfl rfl;unfold lH at hL ⊢;simp only [PY,List.all_eq_true] at hL ⊢;refine ⟨hL.1,hL.2.1,hm,hL.2.2.2.1,hL.2.2.2.2.1,?_⟩
  show decide ((q.length:Int)≤(bif o.Pz==3 then 2 else 0))=true
  rw [hk];exact decide_eq_true (by show (q.length:Int)≤2;omega)
theorem DM {o:gE} (h:ja o=true) (hk:o.Pz=3):o.PE.length≤2∧∀ m,m ∈ o.PE→uL m=true:=by
  have hk0:(o.Pz==0)=false:=by rw [hk];rfl
  have hL:=np h hk0;unfold lH at hL;simp only [PY,List.all_eq_true,decide_eq_true_eq] at hL;have h2:=hL.2.2.2.2.2;rw [hk] at h2;have h2:(o.PE.length:Int)≤2:=h2;exact ⟨by omega,hL.2.2.1⟩
theorem Dh (p i g:Int):ox p i g=-1∨(0≤ox p i g∧ox p i g≤29999):=by
  unfold ox;split
  · rename_i h;simp only [PY,iS] at h;right;rw [iE (n:=g * 10) (by omega) (by omega),iE (n:=g * 10+i) (by omega) (by omega),iE (n:=(g * 10+i) * 3) (by omega) (by omega),iE (by omega) (by omega)];omega
  · exact .inl rfl
theorem JE {s n:Int} (hs:s=-1∨(0≤s∧s≤29999)) (hn:iA n 0 999=true):uL ⟨s,n⟩=true:=by
  unfold uL;simp only [hn,PW,Bool.or_false]
  rcases hs with e | e
  · subst e;rfl
  · rw [iS.2 e];cases s != -1<;>rfl
theorem xx {l:List gE} (ar:Ar l) {i:Int} (h0:0≤i) (h9:i≤9) {z:gE} (hk:z.Pz=(nth l i).Pz) (hb:z.box=(nth l i).box) (hl:z.ig=(nth l i).ig) (ht:z.iK=(nth l i).iK) (hg:z.bh=(nth l i).bh) (ok:ja z=true) :
    Ar (l.set i.toNat z)∧kQ (l.set i.toNat z)=kQ l:=⟨ar.swap h0 h9 hk hb hl (fun _=>ht) ok,wH h0 (by have:=ar.len;omega) hg⟩
theorem KZ {l:List gE} (ar:Ar l) {k w b:Int} (hk:k≤9) (hw:w ≠ 0) (hb:iA b 0 999=true):Ar (vC l k w b)∧kQ (vC l k w b)=kQ l:=by
  unfold vC;cases q:decide (k ≥ 0)&&((nth l k).PK==w)
  · exact ⟨ar,rfl⟩
  simp only [PY,decide_eq_true_eq,beq_iff_eq] at q;simp only [PV];have k0:0≤k:=q.1;have hl:=ar.len;have ok:=ar.ok _ (ar.at k0 hk).2;have k4:=KK ok (by rw [q.2];exact hw);obtain ⟨g1,g2⟩:=GD ok k4;have ok1:ja (waiting (nth l k) 0)=true:=yI ok k4 rfl rfl rfl rfl rfl rfl rfl rfl g1 rfl;obtain ⟨a1,a2⟩:=xx ar k0 hk (z:=waiting (nth l k) 0) rfl rfl rfl rfl rfl ok1
  have e:nth (l.set k.toNat (waiting (nth l k) 0)) k=waiting (nth l k) 0:=by rw [tH k0 (by omega) k0,if_pos rfl]
  obtain ⟨b1,b2⟩:=xx a1 k0 hk (z:=xI (nth (l.set k.toNat (waiting (nth l k) 0)) k) b) rfl rfl rfl rfl rfl (by
    rw [e];have hb1:=iS.1 hb
    exact yI ok1 k4 rfl rfl rfl rfl rfl rfl rfl rfl (iS.2 ⟨by show (-1:Int)≤b;omega,by show b≤999;omega⟩) rfl)
  exact ⟨b1,b2.trans a2⟩
theorem Mp {p:cd} (hp:kU p) (me now:Int) {th:Int} (t0:0≤th) (t9:th≤9) (tk:(nth p.py.ag th).Pz=4) (c:iJ):Gd p (lQ p me now th c).2.2:=by
  unfold lQ;cases q2:jq p.py.ag now me c.a 3 != 0
  case true=>exact Gd.self hp.ok
  obtain ⟨ar,g0,g9,gk,_⟩:=kV (jX q2);have k3:=Ii (jX q2) (by decide);have ha:=zd.1 (K0 (jX q2));cases q1:!iA c.b 0 999
  case true=>exact Gd.self hp.ok
  have q1:iA c.b 0 999=true:=by simpa using q1
  simp only [PU];generalize iy p.py.ag now me c.a=i at *;have hl:=ar.len;have ok:=ar.ok _ (ar.at g0 g9).2;obtain ⟨u1,u2⟩:=DM ok k3;have hA:=tb hp.ok;cases c.Pz==12
  · cases q4:((nth p.py.ag i).PE.length:Int)==0
    case true=>exact Gd.self hp.ok
    simp only [PU];obtain ⟨a1,a2⟩:=xx ar g0 g9 (z:=nR (nth p.py.ag i) ((nth p.py.ag i).PE.drop 1)) rfl rfl rfl rfl rfl (yx ok k3 (by rw [List.length_drop];omega) fun m hm=>u2 m (List.mem_of_mem_drop hm))
    have hlen:(served p.py.ag i).length=10:=by unfold served;rw [List.length_set];exact hl
    have hgl:=uc (l:=served p.py.ag i) (now:=now) (me:=me) (h:=(nth (nth p.py.ag i).PE 0).PS) hlen;generalize hgs:iy (served p.py.ag i) now me (nth (nth p.py.ag i).PE 0).PS=k at *;obtain ⟨b1,b2⟩:=KZ (l:=served p.py.ag i) a1 (k:=k) (w:=i64.wrap (c.a+1)) (b:=c.b) (by omega) (by rw [iE (by omega) (by omega)];omega) q1;exact xm hp.ok (hA.ag b1) (b2.trans a2)
  · cases q4:decide (((nth p.py.ag i).PE.length:Int) ≥ 2)
    case true=>exact Gd.self hp.ok
    have q4:=of_decide_eq_false q4;simp only [PU]
    obtain ⟨a1,a2⟩:=xx ar g0 g9 (z:=nR (nth p.py.ag i) ((nth p.py.ag i).PE++[je.mk (ox me th (nth p.py.ag th).PO) c.b])) rfl rfl rfl rfl rfl (yx ok k3 (by simp only [List.length_append,List.length_cons,List.length_nil];omega) fun m hm=>by
      rcases List.mem_append.1 hm with e | e
      · exact u2 m e
      · rw [List.mem_singleton] at e;rw [e];exact JE (Dh _ _ _) q1)
    have hne:i ≠ th:=fun e=>by rw [e,tk] at k3;exact absurd k3 (by decide)
    have e:nth (asked p.py.ag i me th c) th=nth p.py.ag th:=by
      unfold asked;rw [tH g0 (by omega) t0,if_neg hne]
    have okt:=ar.ok _ (ar.at t0 t9).2;obtain ⟨v1,v2⟩:=GD okt tk
    obtain ⟨b1,b2⟩:=xx (l:=asked p.py.ag i me th c) a1 t0 t9 (z:=waiting (nth (asked p.py.ag i me th c) th) (i64.wrap (c.a+1))) rfl rfl rfl rfl rfl (by
      rw [e];refine yI okt tk rfl rfl rfl rfl rfl rfl rfl ?_ v1 rfl
      show (i64.wrap (c.a+1)==0 || iA (i64.wrap (i64.wrap (c.a+1) - 1)) 0 29999)=true
      rw [iE (n:=c.a+1) (by omega) (by omega),iE (by omega) (by omega),show iA (c.a+1 - 1) 0 29999=true from iS.2 ⟨by omega,by omega⟩,Bool.or_true])
    exact xm hp.ok (hA.ag b1) (b2.trans a2)
theorem Ki {p:cd} (hp:kU p) (c:iJ):Gd p (sh p c).2.2:=by
  unfold sh;cases !iA c.a 0 ((p.ia.length:Int) - 1)
  case true=>exact Gd.self hp.ok
  obtain ⟨h3,ht⟩:=FQ hp.ok;refine Ga hp.ok (by simp only [List.length_append,List.length_take,List.length_drop];omega) fun x hx=>?_
  rcases List.mem_append.1 hx with e | e
  · exact ht x (List.mem_of_mem_take e)
  · exact ht x (List.mem_of_mem_drop e)
theorem N9 {p:cd} (hp:kU p) (me now:Int) {th:Int} (t0:0≤th) (t9:th≤9) (tk:(nth p.py.ag th).Pz=4) (c:iJ) (h:((jJ p me now th c).1==0)=true):Gd p (jJ p me now th c).2.2:=by
  unfold jJ at *;cases k1:c.Pz==1
  case true=>rw [k1] at h;exact Mk hp _ _ _ h
  cases (c.Pz==2) || (c.Pz==3)
  case true=>exact L6 hp _ _ _
  cases (c.Pz==4) || (c.Pz==5)
  case true=>exact Mh hp _ _ _
  cases (c.Pz==6) || (c.Pz==7)
  case true=>exact Mf hp _ _ _
  cases c.Pz==8
  case true=>exact K5 hp _ _ _
  cases (c.Pz==9) || ((c.Pz==10) || (c.Pz==11))
  case true=>exact Nd hp _
  cases (c.Pz==12) || (c.Pz==13)
  case true=>exact Mp hp _ _ t0 t9 tk _
  cases c.Pz==14
  case true=>simp only [PU,PV,xu];exact Gd.self hp.ok
  cases c.Pz==15
  case true=>exact Ki hp _
  exact Gd.self hp.ok
theorem C8 {n:Int} (h0:0≤n) (h1:n≤1000000):iA (if 1000000<i64.wrap (n+1) then 1000000 else i64.wrap (n+1)) 0 1000000=true:=by
  rw [iE (by omega) (by omega),iS];split<;>omega
theorem xW {p:cd} (h:iO p=true):(0≤p.ik∧p.ik≤1000000)∧(0≤p.PH∧p.PH≤1000000):=by
  unfold iO rq at h;simp only [PY,iS] at h;obtain ⟨a,b,c,d,e,f,g1,g2,g3,g4,g5⟩:=h;exact ⟨g4,g5⟩
theorem HM {p:cd} (h:iO p=true):Gd p (vV p):=by
  refine ⟨?_,rfl⟩;have r:=C8 (xW h).1.1 (xW h).1.2;unfold iO rq at *;simp only [PY] at h ⊢;obtain ⟨a,b,c,d,e,f,g1,g2,g3,g4,g5⟩:=h;exact ⟨a,b,c,d,e,f,g1,g2,g3,r,g5⟩
theorem LZ {p:cd} (h:iO p=true):Gd p (Dm p):=by
  refine ⟨?_,rfl⟩;have r:=C8 (xW h).2.1 (xW h).2.2;unfold iO rq at *;simp only [PY] at h ⊢;obtain ⟨a,b,c,d,e,f,g1,g2,g3,g4,g5⟩:=h;exact ⟨a,b,c,d,e,f,g1,g2,g3,g4,r⟩
theorem J8 {p:cd} {now th:Int} (h:lJ p now th=true):(nth p.py.ag th).Pz=4:=by
  unfold lJ at h;simp only [PY] at h;exact (An (now:=now) (by simpa using h.1)).1
theorem ME {p:cd} (hp:kU p) (me now th:Int) (c:iJ):Gd p (mB p me now th c).1:=by
  unfold mB;cases !iO p || (!iA me 0 2 || !iA now 0 1000000)
  case true=>exact Gd.self hp.ok
  cases hc:lJ p now th
  · exact Gd.self hp.ok
  obtain ⟨_,t0,t9⟩:=uj hc;simp only [PW,PU];unfold fin;cases h:(jJ p me now th c).1==0
  · cases (c.Pz==1)&&(((jJ p me now th c).1==6) || ((jJ p me now th c).1==7))
    · exact Gd.self hp.ok
    · exact HM hp.ok
  · exact N9 hp me now t0 t9 (J8 hc) c h
theorem Mj {p:cd} (hp:kU p) {now me h:Int} {n:Int} (hn:iA n 0 999=true):Gd p (wG p (iy p.py.ag now me h) n):=by
  unfold wG;have hg:=uc (l:=p.py.ag) (now:=now) (me:=me) (h:=h) hp.ar.len;generalize iy p.py.ag now me h=g at *;cases q:oh p.py.ag g
  · exact LZ hp.ok
  · unfold oh at q;simp only [PY,decide_eq_true_eq,beq_iff_eq] at q;have hl:=hp.ar.len;have g9:=hg q.1;have ok:=hp.ar.ok _ (hp.ar.at q.1 (by omega)).2;obtain ⟨u1,u2⟩:=DM ok q.2.1;refine BA hp.ok q.1 (by omega) rfl rfl rfl (fun _=>rfl) rfl (yx ok q.2.1 (by simp only [List.length_append,List.length_cons,List.length_nil];omega) fun m hm=>?_)
    rcases List.mem_append.1 hm with e | e
    · exact u2 m e
    · rw [List.mem_singleton] at e;rw [e];exact JE (.inl rfl) hn
theorem IG {w:iC} (hw:Wq w) (ok:j8 w=true) (p th:Int) (c:iJ):(lD w p th c).1=w∨∃ q z,jA w q=true∧rj (nth w.parts q) z∧Gd (nth w.parts q) z∧(lD w p th c).1=pD w q z:=by
  unfold lD;cases hok:!j8 w || !jA w p
  case true=>exact .inl rfl
  have hp:jA w p=true:=by rw [ok] at hok;simpa using hok
  obtain ⟨p1,p2⟩:=ki hp;have pp:=hw.GL ok p2;cases hc:lJ (nth w.parts p) w.PQ th
  case false=>exact .inl rfl
  cases ho:decide (other w p c<0)
  case true=>exact .inl rfl
  have hq:=tN ho;generalize other w p c=q at *;obtain ⟨q1,q2⟩:=ki hq;have pq:=hw.GL ok q2;simp only [PU,PW]
  have f3:∀ r:Int×Int×iC,(sw r).1=r.2.2:=fun r=>by unfold sw;cases r.1 != 0<;>rfl
  cases c.Pz==7
  case true=>rw [PV,f3,yi];exact .inl rfl
  cases c.Pz==17
  case true =>
    rw [PU,PV,f3];unfold tj;cases hb:iA c.b 0 999
    case false=>exact .inl rfl
    cases nS w p p q
    case false=>exact .inl rfl
    exact .inr ⟨q,_,hq,BW pq c.b,Mj pq hb,rfl⟩
  cases c.Pz==16
  case true =>
    rw [PU,PU,PV,f3];unfold wX;cases h1:decide (c.d<0) || !lA (sd c)
    case true=>exact .inl rfl
    cases nS w p p q
    case false=>exact .inl rfl
    cases iW (nth w.parts p).PC c.a
    case false=>exact .inl rfl
    cases h3:decide (((nth w.parts p).ia.length:Int) ≥ 3)
    case true=>exact .inl rfl
    have h3:=of_decide_eq_false h3;simp only [Bool.or_eq_false_iff,Bool.not_eq_false'] at h1;refine .inr ⟨p,_,hp,GO pp (sd c),Ga pp.ok (by simp only [List.length_append,List.length_cons,List.length_nil];omega) fun x hx=>?_,rfl⟩
    rcases List.mem_append.1 hx with e | e
    · exact (FQ pp.ok).2 x e
    · rw [List.mem_singleton] at e;rw [e];exact h1.2
  have h:=BE pp.sz pp.w p w.PQ th c;exact .inr ⟨p,_,hp,⟨h.1,h.2,zS pp.sz pp.w p w.PQ th c⟩,ME pp p w.PQ th c,rfl⟩
end Go.Kx
namespace Go.Kx
open Go
open Go.IntKind (i64)
set_option linter.unusedVariables false
set_option linter.unusedSimpArgs false
set_option maxRecDepth 10000
def Rk (n:Int):Prop:=0≤n∧n≤8
theorem su:Rk 0:=by unfold Rk;decide
theorem vx:Rk 2:=by unfold Rk;decide
theorem NU:Rk 3:=by unfold Rk;decide
theorem OK:Rk 5:=by unfold Rk;decide
theorem JX:Rk 6:=by unfold Rk;decide
theorem OC:Rk 7:=by unfold Rk;decide
theorem OH:Rk 8:=by unfold Rk;decide
theorem lP {α:Type} {b:Bool} {x y:Int×α} (hx:Rk x.1) (hy:Rk y.1):Rk (bif b then x else y).1:=by cases b<;>assumption
theorem Lf {b:Bool} {x y:Int} (hx:Rk x) (hy:Rk y):Rk (bif b then x else y):=by cases b<;>assumption
theorem AQ (l:List gE) (now me h k:Int):Rk (jq l now me h k):=by
  unfold jq;exact Lf (Lf (by unfold Rk;decide) (Lf (by unfold Rk;decide) (Lf OK su))) vx
theorem NY (p:cd) (me now th:Int) (c:iJ):Rk (jJ p me now th c).1:=by
  unfold jJ;refine lP ?_ (lP ?_ (lP ?_ (lP ?_ (lP ?_ (lP ?_ (lP ?_ (lP ?_ (lP ?_ vx))))))))
  · unfold lY;exact lP vx (lP (AQ _ _ _ _ _) (lP JX (lP OC su)))
  · unfold mI;exact lP vx (lP (AQ _ _ _ _ _) (lP (AQ _ _ _ _ _) su))
  · unfold mE;exact lP (AQ _ _ _ _ _) (lP OK (lP (AQ _ _ _ _ _) su))
  · unfold jw;exact lP (AQ _ _ _ _ _) (lP vx (lP su (lP vx su)))
  · unfold kO;exact lP (AQ _ _ _ _ _) (lP vx (lP JX su))
  · unfold mU;exact lP (lP vx (lP JX su)) (lP (lP vx (lP JX su)) (lP vx su))
  · unfold lQ;exact lP (AQ _ _ _ _ _) (lP vx (lP (lP OH su) (lP OH su)))
  · unfold tf;exact lP su (lP su (lP su vx))
  · unfold sh;exact lP vx su
theorem Mb (p:cd) (me now:Int) (c:iJ):Rk (jw p me now c).1:=by
  unfold jw;exact lP (AQ _ _ _ _ _) (lP vx (lP su (lP vx su)))
structure Rf (w:iC) (p:Int) (c:iJ) (r:iC×iG):Prop where
  v8:Rk r.2.code
  PQ:r.1.PQ=w.PQ
  Oz:r.2.code=0→j8 w=true
  PR:r.2.code ≠ 0→r.2.PR=0
  OJ:c.Pz=1→r.2.code=6∨r.2.code=7→jA w p=true∧r.1=pD w p (vV (nth w.parts p))
  same:r.2.code ≠ 0→¬(c.Pz=1∧(r.2.code=6∨r.2.code=7))→r.1=w
theorem Rf.no {w:iC} {p:Int} {c:iJ} {k:Int} (h1:1≤k) (h5:k≤5):Rf w p c (w,⟨k,0⟩) :=
  ⟨⟨by dsimp only;omega,by dsimp only;omega⟩,rfl,fun e=>absurd e (by dsimp only;omega),fun _=>rfl,fun _ e=>absurd e (by dsimp only;omega),fun _ _=>rfl⟩
theorem Rf.three {w:iC} {p:Int} {c:iJ} {r:Int×Int×iC} (ok:j8 w=true) (h:Rk r.1) (hn:r.2.2.PQ=w.PQ) (hs:r.1 ≠ 0→r.2.2=w) (hk:c.Pz ≠ 1):Rf w p c (sw r):=by
  unfold sw;cases q:r.1 != 0
  · exact ⟨su,hn,fun _=>ok,fun e=>absurd rfl e,fun e=>absurd e hk,fun e=>absurd rfl e⟩
  · have q':r.1 ≠ 0:=by simpa using q
    exact ⟨h,hn,fun e=>absurd e q',fun _=>rfl,fun e=>absurd e hk,fun _ _=>hs q'⟩
theorem refused {w:iC} (p th:Int) (c:iJ):Rf w p c (lD w p th c):=by
  unfold lD;cases hok:!j8 w || !jA w p
  case true=>exact Rf.no (by decide) (by decide)
  have hok:j8 w=true∧jA w p=true:=by simpa using hok
  obtain ⟨ok,hp⟩:=hok;cases hc:lJ (nth w.parts p) w.PQ th
  case false=>exact Rf.no (by decide) (by decide)
  cases ho:decide (other w p c<0)
  case true=>exact Rf.no (by decide) (by decide)
  generalize other w p c=q at *;simp only [PU,PW];cases k7:c.Pz==7
  case true =>
    have hk:c.Pz ≠ 1:=by rw [show c.Pz=7 by simpa using k7];decide
    rw [PV];refine Rf.three ok ?_ (by rw [yi]) (fun _=>yi _ _ _ _) hk;unfold uH;exact lP NU (Mb _ _ _ _)
  cases k17:c.Pz==17
  case true =>
    have hk:c.Pz ≠ 1:=by rw [show c.Pz=17 by simpa using k17];decide
    rw [PU,PV];unfold tj;cases iA c.b 0 999
    case false=>exact Rf.three ok vx rfl (fun _=>rfl) hk
    cases nS w p p q
    case false=>exact Rf.three ok NU rfl (fun _=>rfl) hk
    exact Rf.three ok su rfl (fun e=>absurd rfl e) hk
  cases k16:c.Pz==16
  case true =>
    have hk:c.Pz ≠ 1:=by rw [show c.Pz=16 by simpa using k16];decide
    rw [PU,PU,PV];unfold wX;cases decide (c.d<0) || !lA (sd c)
    case true=>exact Rf.three ok vx rfl (fun _=>rfl) hk
    cases nS w p p q
    case false=>exact Rf.three ok NU rfl (fun _=>rfl) hk
    cases iW (nth w.parts p).PC c.a
    case false=>exact Rf.three ok JX rfl (fun _=>rfl) hk
    cases decide (((nth w.parts p).ia.length:Int) ≥ 3)
    case true=>exact Rf.three ok OC rfl (fun _=>rfl) hk
    exact Rf.three ok su rfl (fun e=>absurd rfl e) hk
  simp only [PU];have hpp:=u5 hp
  have e:pD w p (nth w.parts p)=w:=by unfold pD;rw [oe (jM hpp.1 hpp.2)]
  unfold mB;cases !iO (nth w.parts p) || (!iA p 0 2 || !iA w.PQ 0 1000000)
  case true=>rw [PV,e];exact Rf.no (by decide) (by decide)
  rw [hc];simp only [PW,PU];have rk:=NY (nth w.parts p) p w.PQ th c;unfold fin;cases h0:(jJ (nth w.parts p) p w.PQ th c).1==0
  · have n0:(jJ (nth w.parts p) p w.PQ th c).1 ≠ 0:=by simpa using h0
    rw [PU];cases hq:(c.Pz==1)&&(((jJ (nth w.parts p) p w.PQ th c).1==6) || ((jJ (nth w.parts p) p w.PQ th c).1==7))
    · rw [PU,e]
      have hq:¬(c.Pz=1∧((jJ (nth w.parts p) p w.PQ th c).1=6∨(jJ (nth w.parts p) p w.PQ th c).1=7)):=fun h=>by
        have:((c.Pz==1)&&(((jJ (nth w.parts p) p w.PQ th c).1==6) || ((jJ (nth w.parts p) p w.PQ th c).1==7)))=true:=by simpa using h
        rw [hq] at this;cases this
      exact ⟨rk,rfl,fun h=>absurd h n0,fun _=>rfl,fun a b=>absurd ⟨a,b⟩ hq,fun _ _=>rfl⟩
    · rw [PV]
      have hq:c.Pz=1∧((jJ (nth w.parts p) p w.PQ th c).1=6∨(jJ (nth w.parts p) p w.PQ th c).1=7):=by simpa using hq
      exact ⟨rk,rfl,fun h=>absurd h n0,fun _=>rfl,fun _ _=>⟨hp,rfl⟩,fun _ h=>absurd hq h⟩
  · exact ⟨su,rfl,fun _=>ok,fun h=>absurd rfl h,fun _ h=>absurd h (show ¬((0:Int)=6∨(0:Int)=7) by decide),fun h=>absurd rfl h⟩
theorem J2 {N:Nat} {k:Int} (h:Rk k):∃ s,ur N k=some s∧(s.toList==(⟨#[]⟩:ByteArray).toList)=false:=by
  have:k=0∨k=1∨k=2∨k=3∨k=4∨k=5∨k=6∨k=7∨k=8:=by unfold Rk at h;omega
  rcases this with rfl | rfl | rfl | rfl | rfl | rfl | rfl | rfl | rfl<;>exact ⟨_,rfl,by simp [ByteArray.toList,ByteArray.toList.loop,ByteArray.size]⟩
theorem Ka {w:iC} (ok:j8 w=true) {q:Int} (hq:jA w q=true) {z:cd} (h:Gd (nth w.parts q) z):j8 (pD w q z)=true∧lr (pD w q z).parts=lr w.parts:=by
  have k:=zy.1 ok;have r:=u5 hq;have e:lr (w.parts.set q.toNat z)=lr w.parts:=Bt _ _ _ _ (jM r.1 r.2) h.sp;refine ⟨zy.2 ⟨k.PQ,by show 1≤(w.parts.set _ _).length∧(w.parts.set _ _).length≤3;rw [List.length_set];exact k.len,fun y hy=>?_,by show iU (lr (w.parts.set _ _))=true;rw [e];exact k.sum⟩,e⟩
  rcases List.mem_or_eq_of_mem_set hy with a | rfl
  · exact k.ok y a
  · exact h.ok
theorem LV {w:iC} (hw:Wq w) (ok:j8 w=true) (p th:Int) (c:iJ):j8 (lD w p th c).1=true∧lr (lD w p th c).1.parts=lr w.parts:=by
  rcases IG hw ok p th c with e | ⟨q,z,hq,_,hg,e⟩
  · rw [e];exact ⟨ok,rfl⟩
  · rw [e];exact Ka ok hq hg
theorem Ww.q {w:iC} (h:Ww w):Wq w:=⟨h.oy,fun p hp=>Nat.le_trans (h.pw p hp).1 (by decide),h.w⟩
theorem EU {x:List U8} (hx:Fit.fit x):∃ N,qz N x=some true:=by
  obtain ⟨N,hN1⟩:∃ N,ir+1≤N:=⟨ir+1,Nat.le_refl _⟩;have hN:ir≤N:=Nat.le_of_succ_le hN1
  suffices h:WD (qz N x) (fun r=>r=true) by
    obtain ⟨_,e,rfl⟩:=h;exact ⟨N,e⟩
  unfold qz zg;refine WD.step rfl (WD.ite (fun _=>WD.ret rfl) fun c=>?_)
  have hl:x.length≤1048576:=by have:=of_decide_eq_false c;omega
  refine WD.bind (zW hN hl) fun d hd=>?_;obtain ⟨w,p,th,c⟩:=d;dsimp only at *;have hB:(16777216:Nat)=ir:=rfl;have hq:=hd.q;have hrf:=refused (w:=w) p th c;have hgood:=fun ok=>LV hq ok p th c;have hin:=F7 hq p th c;have hbig:=hd.sz;have hsz:=Mr hq p th c;refine WD.step (EM hN1 hq p th c) (WD.step (EI hN hq p th c) ?_);generalize lD w p th c=r at *;obtain ⟨y,k,v⟩:=r;dsimp only at *;obtain ⟨v8,now,Oz,val,OJ,same⟩:=hrf;dsimp only at *;obtain ⟨s,hs,hse⟩:=J2 (N:=N) v8;unfold Rk at v8;refine WD.step (a:=false) ?_ ?_
  · rw [decide_eq_true rfl,decide_eq_false (show ¬ k<0 by omega),decide_eq_false (show ¬ k > 8 by omega)];simp only [PW,PU];rw [hs,PT,hse]
  rw [PU]
  have hwy:wW y.parts:=by
    rcases hin with e | ⟨q,z,h1,h2,e⟩
    · rw [e];exact hd.w
    · rw [e];intro u hu
      rcases List.mem_or_eq_of_mem_set (show u ∈ w.parts.set q.toNat z from hu) with a | rfl
      · exact hd.w u a
      · exact h2.w
  have hby:jr iH y.parts<ir:=by omega
  refine WD.ite (fun c0=>?_) fun c0=>?_
  · have c0:k=0:=by simpa using c0
    have g:=(hgood (Oz c0)).1;refine WD.step (a:=true) ?_ (WD.ret rfl);rw [Cy hN hby hwy,PT,g,PV,now,beq_self_eq_true]
  · have c0:k ≠ 0:=by simpa using c0
    have hlen:y.parts.length=w.parts.length:=by
      rcases hin with e | ⟨q,z,h1,h2,e⟩
      · rw [e]
      · rw [e];exact List.length_set
    refine WD.step (a:=false) ?_ ?_
    · rw [val c0,hlen];simp
    rw [PU]
    by_cases hp:c.Pz=1∧(k=6∨k=7)
    · obtain ⟨h1,h2⟩:=OJ hp.1 hp.2;have r:=u5 h1
      have ey:y.parts=w.parts.set p.toNat (vV (nth w.parts p)):=by rw [h2];rfl
      refine WD.step (a:=true) ?_ ?_
      · rw [hp.1];simp only [beq_self_eq_true,PV]
        rcases hp.2 with e | e<;>rw [e]<;>rfl
      rw [PV,ey,zU r.1 r.2,PT,(ki h1).1,PT];refine WD.bind (P:=fun r=>r=.inl w.parts) ?_ fun r hr=>?_
      · rw [show (vV (nth w.parts p)).ik=(if 1000000<i64.wrap ((nth w.parts p).ik+1) then 1000000 else i64.wrap ((nth w.parts p).ik+1)) from rfl];simp only [bne_self_eq_false,PU,PT];refine WD.ret ?_;rw [List.set_set];exact congrArg Sum.inl (oe (jM r.1 r.2))
      · rw [hr];simp only [Sum.elim_inl];refine WD.step (zt hN (a:=iC.mk y.PQ w.parts) (b:=w) hd.oy) (WD.ret ?_);rw [now];exact decide_eq_true rfl
    · refine WD.step (a:=false) ?_ ?_
      · cases h1:c.Pz==1
        · rfl
        · rw [PV]
          have h1:c.Pz=1:=by simpa using h1
          have h6:k ≠ 6:=fun e=>hp ⟨h1,.inl e⟩;have h7:k ≠ 7:=fun e=>hp ⟨h1,.inr e⟩;rw [show (k==6)=false by simpa using h6,show (k==7)=false by simpa using h7];rfl
      rw [PU,PT];simp only [Sum.elim_inl];have e:=same c0 hp;rw [e];refine WD.step (zt hN (a:=w) (b:=w) hd.oy) (WD.ret ?_);exact decide_eq_true rfl
end Go.Kx
