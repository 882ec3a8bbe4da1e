import Derived.Test.YtdlodpchnaojhaaGreatLCall
namespace Go.Kx
open Go
open Go.IntKind (i64)
set_option linter.unusedVariables false
set_option linter.unusedSimpArgs false
set_option maxRecDepth 10000
structure Wq (w:hO):Prop where
  nG:iQ ic w.parts<gS
  each:∀ p,p ∈ w.parts→ic p≤3000000
  w:wW w.parts
theorem CL {α:Type} {l:List α} {i:Int} {y:α} (h0:0≤i) (h1:i<(l.length:Int)):idx (l.set i.toNat y) i=some y:=by
  have:=F5 (l:=l) (k:=i.toNat) (y:=y) (by omega)
  rwa [Int.toNat_of_nonneg h0] at this
theorem A2 {α:Type} {t:List α} {z:α} (h:t.length≤1000000):app t [z]=some (t++[z]):=j6 h (by decide)
def tT (w:hO) (q:Int) (z:cd):hO:=hO.mk w.Oc (w.parts.set q.toNat z)
def pE (w:hO) (p a b:Int):Bool:=oB (nth w.parts p).own (nth w.parts a).NZ (nth w.parts b).NZ
def JJ (p:cd):cd:=cd.mk p.NZ p.own p.N1 p.py p.gR p.N6 p.N7 p.bh p.gW (if 1000000<i64.wrap (p.N5+1) then 1000000 else i64.wrap (p.N5+1))
def oU (l:List gP) (i:Int):Bool:=decide (i ≥ 0)&&(((nth l i).N0==3)&&decide (((nth l i).N4.length:Int)<2))
def Mn (p:cd) (i n:Int):cd:=ns p (p.py.ag.set i.toNat (oV (nth p.py.ag i) ((nth p.py.ag i).N4++[iS.mk (-1) n])))
def tZ (c:ir):iL:=iL.mk c.a c.b c.c (i64.wrap (Int.tdiv c.d 10)) (Int.tmod c.d 10) c.e
def uw (w:hO) (p q:Int) (c:ir):Int×Int×hO :=
  bif !pE w p q p then (3,0,w) else ((jb (nth w.parts q) q w.Oc c).1,(jb (nth w.parts q) q w.Oc c).2.1,w)
def x8 (p:cd) (i n:Int):cd:=bif oU p.py.ag i then Mn p i n else JJ p
def uG (w:hO) (p q:Int) (c:ir):Int×Int×hO :=
  bif !ia c.b 0 999 then (2,0,w) else bif !pE w p p q then (3,0,w) else
  (0,0,tT w q (x8 (nth w.parts q) (hY (nth w.parts q).py.ag w.Oc q c.a) c.b))
def yK (w:hO) (p q:Int) (c:ir):Int×Int×hO :=
  bif decide (c.d<0) || !ku (tZ c) then (2,0,w) else bif !pE w p p q then (3,0,w) else
  bif !i9 (nth w.parts p).N1 c.a then (6,0,w) else bif decide (((nth w.parts p).gR.length:Int) ≥ 3) then (7,0,w) else
  (0,i64.wrap ((((nth w.parts p).gR++[tZ c]).length:Int) - 1),tT w p (xy (nth w.parts p) ((nth w.parts p).gR++[tZ c])))
def uM (r:Int×Int×hO):hO×g6:=bif r.1 != 0 then (r.2.2,g6.mk r.1 0) else (r.2.2,g6.mk 0 r.2.1)
def od (w:hO) (p th:Int) (c:ir):hO×g6 :=
  bif !ju w || !iX w p then (w,g6.mk 2 0) else bif !l7 (nth w.parts p) w.Oc th then (w,g6.mk 1 0) else
  bif decide (other w p c<0) then (w,g6.mk 2 0) else
  bif c.N0==7 then uM (uw w p (other w p c) c) else bif c.N0==17 then uM (uG w p (other w p c) c) else bif c.N0==16 then uM (yK w p (other w p c) c) else
  (tT w p (nw (nth w.parts p) p w.Oc th c).1,(nw (nth w.parts p) p w.Oc th c).2)
theorem DR (r:Int×Int×hO):(bif r.1 != 0 then some (hO.mk r.2.2.Oc r.2.2.parts,g6.mk r.1 0) else some (hO.mk r.2.2.Oc r.2.2.parts,g6.mk 0 r.2.1))=some (uM r):=by
  unfold uM;cases r.1 != 0<;>rfl
theorem Hn (w:hO) (p q:Int) (c:ir):(uw w p q c).2.2=w:=by
  unfold uw;cases !pE w p q p<;>rfl
theorem wZ {w:hO} (h:ju w=true) {p:cd} (hp:p ∈ w.parts):jd p=true:=by
  unfold ju at h;simp only [Oq,List.all_eq_true] at h;exact h.2.2.1 p hp
theorem yO {w:hO} {p:Int} (h:iX w p=true):0≤p∧p<(w.parts.length:Int):=by
  unfold iX at h;rw [iR] at h;omega
theorem Wq.JS {w:hO} (h:Wq w) (ok:ju w=true) {p:cd} (hp:p ∈ w.parts):k6 p:=⟨wZ ok hp,h.each p hp,h.w p hp⟩
section
variable {N:Nat} {w:hO} {p q:Int} {c:ir}
theorem x6 (hN:gS≤N) (hw:Wq w) {a b d:Int} (ha:iX w a=true) (hb:iX w b=true) (hd:iX w d=true):oG N w a b d=some (pE w a b d):=by
  obtain ⟨a1,a2⟩:=jw ha;obtain ⟨b1,b2⟩:=jw hb;obtain ⟨d1,d2⟩:=jw hd;unfold oG pE;simp only [a1,b1,d1,Ok,AG hN (jK (jm hw.nG a2)).2.1 (jK (jm hw.nG b2)).1 (jK (jm hw.nG d2)).1]
theorem Jy {P:cd} {me now:Int} (h:(c.N0==7)=true):fin c P (jb P me now c)=(P,bif (jb P me now c).1==0 then g6.mk 0 (jb P me now c).2.1 else g6.mk (jb P me now c).1 0):=by
  have hp:(jb P me now c).2.2=P:=by
    unfold jb;rw [h];cases i7 P.py.ag now me c.a 2 != 0
    · cases !ia c.b 0 (((nth P.py.ag (hY P.py.ag now me c.a)).N8.length:Int) - 1)<;>rfl
    · rfl
  have h1:(c.N0==1)=false:=by
    have:c.N0=7:=by simpa using h
    rw [this];rfl
  unfold fin;rw [hp,h1];cases (jb P me now c).1==0<;>rfl
theorem LG (hN:gS≤N) (hw:Wq w) (ok:ju w=true) (hp:iX w p=true) (hq:iX w q=true) (c:ir):qa N w p q c=some ((uw w p q c).1,(uw w p q c).2.1):=by
  obtain ⟨q1,q2⟩:=jw hq;unfold qa uw;simp only [x6 hN hw hp hq hp,Ok];cases pE w p q p
  · rfl
  simp only [On,Ol,q1,Ok,pC hN (jm hw.nG q2),Hx hN (hw.JS ok q2)]
theorem LN (hN:gS≤N) (hw:Wq w) (ok:ju w=true) (hp:iX w p=true) (hq:iX w q=true) (hk:(c.N0==7)=true):sm N w p q c=some (uM (uw w p q c)):=by
  obtain ⟨p1,p2⟩:=jw hp;obtain ⟨q1,q2⟩:=jw hq;obtain ⟨q0,q9⟩:=yO hq
  have hc:c.N0=7:=by simpa using hk
  unfold sm uw pE;simp only [p1,q1,Ok,xx hN (jK (jm hw.nG p2)).2.1 (jK (jm hw.nG q2)).1 (jK (jm hw.nG p2)).1];cases oB (nth w.parts p).own (nth w.parts q).NZ (nth w.parts p).NZ
  · rfl
  simp only [On,Ol,IB hN (hw.JS ok q2) q w.Oc (c:=c) (by rw [hc];rfl) (by rw [hc];rfl),Ok,BS];rw [Jy hk];simp only [Ok];rw [show w.parts.set q.toNat (cd.mk (nth w.parts q).NZ (nth w.parts q).own (nth w.parts q).N1 (g5.mk (nth w.parts q).py.ag (iW.mk (nth w.parts q).py.gc.N2 (nth w.parts q).py.gc.Oa (nth w.parts q).py.gc.N3 (nth w.parts q).py.gc.gQ)) (nth w.parts q).gR (nth w.parts q).N6 (nth w.parts q).N7 (nth w.parts q).bh (nth w.parts q).gW (nth w.parts q).N5)=w.parts from nh (oY q0 q9)];unfold uM bne;cases (jb (nth w.parts q) q w.Oc c).1==0<;>rfl
theorem Lg (hN:gS≤N) (hw:Wq w) (ok:ju w=true) (hp:iX w p=true) (hq:iX w q=true) (c:ir):o7 N w p q c=some ((uG w p q c).1,(uG w p q c).2.2):=by
  obtain ⟨q1,q2⟩:=jw hq;have ar:=jF (wZ ok q2);have hb:=(jK (jm hw.nG q2)).2.2.2.1;unfold o7 uG;simp only [lv,x6 hN hw hp hp hq,Ok];cases ia c.b 0 999
  · rfl
  cases pE w p p q
  · rfl
  simp only [On,Ol,q1,Ok,uZ hN hb];have hg:=va (l:=(nth w.parts q).py.ag) (now:=w.Oc) (me:=q) (h:=c.a) ar.len;generalize hY (nth w.parts q).py.ag w.Oc q c.a=g at *;unfold x8
  have e:(bif decide (g ≥ 0) then (idx (nth w.parts q).py.ag g).bind fun y45=>bif y45.N0==3 then some (decide ((y45.N4.length:Int)<2)) else some false else some false)=some (oU (nth w.parts q).py.ag g):=by
    unfold oU;cases h:decide (g ≥ 0)
    · rfl
    have h:=of_decide_eq_true h;rw [iT h (hg h),Ok];simp only [Om,Oo,kp]
  rw [e,Ok];cases h:oU (nth w.parts q).py.ag g
  · rfl
  have h':=h;unfold oU at h';simp only [Oq,decide_eq_true_eq] at h';rw [Om,iT h'.1 (hg h'.1),Ok,A2 (by omega)];rfl
theorem LP (hN:gS≤N) (hw:Wq w) (ok:ju w=true) (hp:iX w p=true) (hq:iX w q=true) (c:ir):rQ N w p q c=some (uM (uG w p q c)):=by
  obtain ⟨p1,p2⟩:=jw hp;obtain ⟨q1,q2⟩:=jw hq;have ar:=jF (wZ ok q2);have hb:=(jK (jm hw.nG q2)).2.2.2.1;unfold rQ uG pE;simp only [k5,p1,q1,xx hN (jK (jm hw.nG p2)).2.1 (jK (jm hw.nG p2)).1 (jK (jm hw.nG q2)).1,Ok];cases ia c.b 0 999
  · rfl
  cases oB (nth w.parts p).own (nth w.parts p).NZ (nth w.parts q).NZ
  · rfl
  simp only [On,Ol,Ok,u6 hN hb (hw.w _ q2)];have hg:=va (l:=(nth w.parts q).py.ag) (now:=w.Oc) (me:=q) (h:=c.a) ar.len;generalize hY (nth w.parts q).py.ag w.Oc q c.a=g at *;unfold x8
  have e:(bif decide (g<0) then some true else (idx (nth w.parts q).py.ag g).bind fun y84=>bif y84.N0 != 3 then some true else some (decide ((y84.N4.length:Int) ≥ 2)))=some (!oU (nth w.parts q).py.ag g):=by
    unfold oU
    by_cases h:g<0
    · rw [decide_eq_true h,decide_eq_false (show ¬ g ≥ 0 by omega)];rfl
    rw [decide_eq_false h,decide_eq_true (show g ≥ 0 by omega),Ol,iT (by omega) (hg (by omega)),Ok,jR,Oo,Bool.not_and];unfold bne
    by_cases k:((nth (nth w.parts q).py.ag g).N4.length:Int)<2
    · rw [decide_eq_true k,decide_eq_false (show ¬ ((nth (nth w.parts q).py.ag g).N4.length:Int) ≥ 2 by omega)];rfl
    · rw [decide_eq_false k,decide_eq_true (show ((nth (nth w.parts q).py.ag g).N4.length:Int) ≥ 2 by omega)];rfl
  rw [e,Ok];cases h:oU (nth w.parts q).py.ag g
  · rfl
  have h':=h;unfold oU at h';simp only [Oq,decide_eq_true_eq] at h';rw [On,Ol,iT h'.1 (hg h'.1),Ok,jG (Nat.lt_trans (show _<2 by omega) (by decide)),Ok,A2 (by omega)];rfl
theorem MI (hN:gS≤N) (hw:Wq w) (ok:ju w=true) (hp:iX w p=true) (hq:iX w q=true) (c:ir):pK N w p q c=some (yK w p q c):=by
  obtain ⟨p1,p2⟩:=jw hp;obtain ⟨p0,p9⟩:=yO hp;have hT:=rE.1 (wI (wZ ok p2));unfold pK yK;simp only [p1,yR,x6 hN hw hp hp hq,rk N hT.len,Ok,jR]
  show (bif (decide (c.d<0) || !ku (tZ c)) then _ else _)=_
  cases decide (c.d<0) || !ku (tZ c)
  case true=>rfl
  cases pE w p p q
  case false=>rfl
  cases i9 (nth w.parts p).N1 c.a
  case false=>rfl
  cases h:decide (((nth w.parts p).gR.length:Int) ≥ 3)
  case true=>rfl
  have h:=of_decide_eq_false h;simp only [On,Ol];rw [A2 (by omega),Ok,CL p0 p9];rfl
theorem MJ (hN:gS≤N) (hw:Wq w) (ok:ju w=true) (hp:iX w p=true) (hq:iX w q=true) (c:ir):sZ N w p q c=some (uM (yK w p q c)):=by
  obtain ⟨p1,p2⟩:=jw hp;obtain ⟨q1,q2⟩:=jw hq;obtain ⟨p0,p9⟩:=yO hp;have hT:=wI (wZ ok p2);unfold sZ yK pE;simp only [p1,q1,yD,xx hN (jK (jm hw.nG p2)).2.1 (jK (jm hw.nG p2)).1 (jK (jm hw.nG q2)).1,sH hN,hT,Oo,Ok];cases decide (c.d<0)
  case true=>rfl
  show (bif !ku (tZ c) then _ else _)=some (uM (bif !ku (tZ c) then _ else _))
  cases ku (tZ c)
  case false=>rfl
  cases oB (nth w.parts p).own (nth w.parts p).NZ (nth w.parts q).NZ
  case false=>rfl
  cases i9 (nth w.parts p).N1 c.a
  case false=>rfl
  cases h:decide (((nth w.parts p).gR.length:Int) ≥ 3)
  case true=>rfl
  have h:=of_decide_eq_false h;simp only [On,Ol];rw [jG (Nat.lt_trans (show _<3 by omega) (by decide)),Ok,A2 (by omega),Ok,Ok,CL p0 p9];rfl
theorem EO (hN:gS+1≤N) (hw:Wq w) (p th:Int) (c:ir):pR N w p th c=some (od w p th c):=by
  have hN':gS≤N:=Nat.le_of_succ_le hN;have hl:=jz hw.nG;unfold pR od;simp only [sa hN' hw.nG,wu hN' hw.nG,wh hl,Ok,jR];cases hok:!ju w || !iX w p
  case true=>rfl
  have hok:ju w=true∧iX w p=true:=by simpa using hok
  obtain ⟨ok,hp⟩:=hok;obtain ⟨p1,p2⟩:=jw hp;simp only [Ol,p1,Ok,B5 hN' (jm hw.nG p2)];cases hc:l7 (nth w.parts p) w.Oc th
  case false=>rfl
  simp only [On,Ol,EH hl,Ok];cases ho:decide (other w p c<0)
  case true=>rfl
  have hq:=uq ho;generalize other w p c=q at *;simp only [Ol];cases c.N0==7
  case true=>simp only [Om,LG hN' hw ok hp hq,Ok];rw [← DR,Hn];rfl
  cases c.N0==17
  case true=>simp only [Om,Ol,Lg hN' hw ok hp hq,Ok];unfold uG;cases ia c.b 0 999<;>cases pE w p p q<;>rfl
  cases c.N0==16
  case true=>simp only [Om,Ol,MI hN' hw ok hp hq,Ok];rw [← DR];rfl
  simp only [Ol,Gs hN (hw.each _ p2) (hw.w _ p2),Ok];rfl
theorem E9 (hN:gS≤N) (hw:Wq w) (p th:Int) (c:ir):pM N w p th c=some (od w p th c):=by
  have hl:w.parts.length<16777216:=jz hw.nG;unfold pM od;simp only [uI hN hw.nG,vZ hN hw.nG hw.w,k5,Ok,jR];rw [iY (by omega) (by omega),show ia p 0 ((w.parts.length:Int) - 1)=iX w p from rfl];cases hok:!ju w || !iX w p
  case true=>rfl
  have hok:ju w=true∧iX w p=true:=by simpa using hok
  obtain ⟨ok,hp⟩:=hok;obtain ⟨p1,p2⟩:=jw hp;simp only [Ol,p1,Ok,BA hN (jm hw.nG p2) (hw.w _ p2)];cases hc:l7 (nth w.parts p) w.Oc th
  case false=>rfl
  simp only [On,Ol,E6 hl,Ok,GX hN (hw.each _ p2) (hw.w _ p2)]
  have hself:((c.N0==7) || ((c.N0==17) || (c.N0==16)))=false→decide (other w p c<0)=false:=fun h=>by
    have h0:=yO hp;simp only [Bool.or_eq_false_iff] at h;unfold other target;rw [h.1,h.2.1,h.2.2];simp only [Bool.or_self,Bool.false_eq_true,if_false,hp,if_true];exact decide_eq_false (by omega)
  cases k7:c.N0==7
  case true =>
    simp only [Om,Ok];cases ho:decide (other w p c<0)
    case true=>rfl
    simp only [Ol,LN hN hw ok hp (uq ho) k7,Ok]
  cases k17:c.N0==17
  case true =>
    simp only [Om,Ol,Ok];cases ho:decide (other w p c<0)
    case true=>rfl
    simp only [Ol,LP hN hw ok hp (uq ho),Ok]
  cases k16:c.N0==16
  case true =>
    simp only [Om,Ol,Ok];cases ho:decide (other w p c<0)
    case true=>rfl
    simp only [Ol,MJ hN hw ok hp (uq ho),Ok]
  rw [hself (by rw [k7,k17,k16];rfl)];simp only [Ol,Ok];rfl
end
end Go.Kx
namespace Go.Kx
open Go
open Go.IntKind (i64)
set_option linter.unusedVariables false
set_option linter.unusedSimpArgs false
set_option maxRecDepth 10000
theorem IP {p:cd} (hp:k6 p) {now me h:Int} (n:Int):rO p (x8 p (hY p.py.ag now me h) n):=by
  unfold x8;have hg:=va (l:=p.py.ag) (now:=now) (me:=me) (h:=h) hp.ar.len;generalize hY p.py.ag now me h=g at *;cases q:oU p.py.ag g
  · exact nL rfl rfl rfl (by show iQ hX p.py.ag≤_;omega) (Nat.le_succ _) (Nat.le_refl _) hp.w rfl
  · unfold oU at q;simp only [Oq,decide_eq_true_eq] at q;have hl:=hp.ar.len;have g9:=hg q.1;have ho:=n7 hp.ar q.1 (by omega);have hwi:nB (nth p.py.ag g):=hp.w _ (kJ q.1 g9);refine nL rfl rfl rfl (Nat.le_trans (uA ?_) (by omega)) (Nat.le_succ _) (Nat.le_refl _) (kr hp.w hwi) List.length_set;unfold hX at ho;unfold hX oV;simp only [List.length_append,List.length_cons,List.length_nil];omega
theorem KD {p:cd} (hp:k6 p) (t:iL):rO p (xy p (p.gR++[t])):=by
  refine ⟨?_,hp.w,rfl⟩;unfold ic xy;simp only [List.length_append,List.length_cons,List.length_nil];omega
theorem KC {w:hO} (hw:Wq w) (p th:Int) (c:ir):(od w p th c).1=w∨∃ q z,iX w q=true∧rO (nth w.parts q) z∧(od w p th c).1=tT w q z:=by
  unfold od;cases hok:!ju w || !iX w p
  case true=>exact .inl rfl
  have hok:ju w=true∧iX w p=true:=by simpa using hok
  obtain ⟨ok,hp⟩:=hok;obtain ⟨p1,p2⟩:=jw hp;have pp:=hw.JS ok p2;cases hc:l7 (nth w.parts p) w.Oc th
  case false=>exact .inl rfl
  cases ho:decide (other w p c<0)
  case true=>exact .inl rfl
  have hq:=uq ho;generalize other w p c=q at *;obtain ⟨q1,q2⟩:=jw hq;have pq:=hw.JS ok q2;simp only [Ol,On]
  have f3:∀ r:Int×Int×hO,(uM r).1=r.2.2:=fun r=>by unfold uM;cases r.1 != 0<;>rfl
  cases c.N0==7
  case true=>rw [Om,f3,Hn];exact .inl rfl
  cases c.N0==17
  case true =>
    rw [Ol,Om,f3];unfold uG;cases ia c.b 0 999
    case false=>exact .inl rfl
    cases pE w p p q
    case false=>exact .inl rfl
    exact .inr ⟨q,_,hq,IP pq c.b,rfl⟩
  cases c.N0==16
  case true =>
    rw [Ol,Ol,Om,f3];unfold yK;cases decide (c.d<0) || !ku (tZ c)
    case true=>exact .inl rfl
    cases pE w p p q
    case false=>exact .inl rfl
    cases i9 (nth w.parts p).N1 c.a
    case false=>exact .inl rfl
    cases decide (((nth w.parts p).gR.length:Int) ≥ 3)
    case true=>exact .inl rfl
    exact .inr ⟨p,_,hp,KD pp (tZ c),rfl⟩
  have h:=K0 pp.sz pp.w p w.Oc th c;exact .inr ⟨p,_,hp,⟨h.1,h.2,Jl pp.sz pp.w p w.Oc th c⟩,rfl⟩
end Go.Kx
namespace Go.Kx
open Go
open Go.IntKind (i64)
set_option linter.unusedVariables false
set_option linter.unusedSimpArgs false
set_option maxRecDepth 10000
def AH (p:cd) (t:Int):cd:=cd.mk p.NZ p.own p.N1 p.py p.gR p.N6 (i64.wrap (t+1)) p.bh p.gW p.N5
def vA (w:hO) (e:iA):hO:=bif ju w&&(iX w e.NX&&ia e.ig 0 9) then tT w e.NX (AH (nth w.parts e.NX) e.ig) else w
def wy (w:hO) (e:iA):hO×g6 :=
  bif e.N0==1 then (tick w,g6.mk 0 0) else bif e.N0==2 then od w e.NX e.ig e.call else bif e.N0==3 then (vA w e,g6.mk 0 0) else (w,g6.mk 2 0)
structure Wt (w:hO):Prop where
  q:Wq w
  t:ju w=true→uJ w.parts.length 0 (hO.mk (i64.wrap (w.Oc+1)) w.parts)
theorem Ls {N:Nat} (hN:gS+1≤N) {w:hO} (hw:Wt w) (e:iA):vG N w e=some (wy w e):=by
  have hN':gS≤N:=Nat.le_of_succ_le hN;have hb:=hw.q.nG;unfold vG wy;cases e.N0==1
  case true=>simp only [Om,KM hN' hb hw.q.w hw.t,Ok]
  cases e.N0==2
  case true=>simp only [Om,Ol,EO hN hw.q,Ok]
  cases e.N0==3
  case false=>simp only [Ol,sa hN' hb,Ok]
  simp only [Om,Ol,sa hN' hb,wu hN' hb,wh (jz hb),sE,Ok];unfold vA;cases ju w
  · rfl
  cases hp:iX w e.NX
  · rfl
  cases ia e.ig 0 9
  · rfl
  simp only [Om,Bool.and_self,Ok,(jw hp).1];rfl
theorem Mq {N:Nat} (hN:gS≤N) {w:hO} (hw:Wt w) (e:iA):vH N w e=some (wy w e):=by
  have hb:=hw.q.nG;have hl:w.parts.length<16777216:=jz hb;unfold vH wy;cases e.N0==1
  case true=>simp only [Om,K9 hN hb hw.q.w hw.t,Ok]
  cases e.N0==2
  case true=>simp only [Om,Ol,E9 hN hw.q,Ok]
  cases e.N0==3
  case false=>simp only [Ol,uI hN hb,Ok]
  simp only [Om,Ol,uI hN hb,vZ hN hb hw.q.w,k5,qR,Ok];rw [iY (by omega) (by omega),show ia e.NX 0 ((w.parts.length:Int) - 1)=iX w e.NX from rfl];unfold vA;cases ju w
  · rfl
  cases hp:iX w e.NX
  · rfl
  cases ia e.ig 0 9
  · rfl
  simp only [Om,Bool.and_self,Ok,(jw hp).1];rfl
theorem La (w:hO) (e:iA):vA w e=w∨(ju w=true∧iX w e.NX=true∧(0≤e.ig∧e.ig≤9)∧vA w e=tT w e.NX (AH (nth w.parts e.NX) e.ig)):=by
  unfold vA;cases h:ju w&&(iX w e.NX&&ia e.ig 0 9)
  · exact .inl rfl
  · simp only [Oq,iR] at h;exact .inr ⟨h.1,h.2.1,h.2.2,rfl⟩
end Go.Kx
namespace Go.Kx
open Go
open Go.IntKind (i64)
set_option linter.unusedVariables false
set_option linter.unusedSimpArgs false
set_option maxRecDepth 10000
structure Sg (c:Nat) (w:hO):Prop where
  len:w.parts.length≤3
  sz:∀ p,p ∈ w.parts→ic p≤c∧wP p
theorem Sg.mono {c d:Nat} {w:hO} (h:Sg c w) (hd:c≤d):Sg d w:=⟨h.len,fun p hp=>⟨Nat.le_trans (h.sz p hp).1 hd,(h.sz p hp).2⟩⟩
theorem Sg.nG {c:Nat} {w:hO} (h:Sg c w) (hc:c≤1048576):iQ ic w.parts<gS:=by
  have hB:(16777216:Nat)=gS:=rfl;have h1:iV ic w.parts≤c * w.parts.length:=yz fun y hy=>(h.sz y hy).1;have h4:c * w.parts.length≤1048576 * 3:=Nat.mul_le_mul hc h.len;have:=h.len;unfold iQ;omega
theorem Sg.t {c:Nat} {w:hO} (h:Sg c w) (hc:c≤1048576):Wt w :=
  ⟨⟨h.nG hc,fun p hp=>by have:=(h.sz p hp).1;omega,fun p hp=>(h.sz p hp).2⟩,fun hw=>⟨rfl,(A6 hw).2.1,fun p hp=>⟨by have:=(h.sz p hp).1;omega,(h.sz p hp).2⟩⟩⟩
theorem Sg.gR {c:Nat} {t:hO} (h:Sg c t) (p:Int):Sg c (il t p)∧(il t p).parts.length=t.parts.length:=by
  obtain ⟨_,h2,h3⟩:=BQ t p;refine ⟨⟨by rw [h2];exact h.len,fun q hq=>?_⟩,h2⟩;obtain ⟨y,hy,e1,e2⟩:=h3 q hq;obtain ⟨a,b⟩:=h.sz y hy;exact ⟨by omega,by unfold wP at *;rw [e2];exact b⟩
theorem Sg.step {c n k:Nat} {t:hO} (h:Sg c t) (hk:k<t.parts.length) (hc:c≤2000000):Sg (c+1300) (lJ n k t)∧(lJ n k t).parts.length=t.parts.length:=by
  obtain ⟨hT,hl⟩:=h.gR (k:Int)
  have e:(lJ n k t).parts.length=t.parts.length:=by
    show ((il t (k:Int)).parts.set k _).length=_
    rw [List.length_set];exact hl
  refine ⟨⟨by rw [e];exact h.len,fun q hq=>?_⟩,e⟩
  rcases List.mem_or_eq_of_mem_set (show q ∈ (il t (k:Int)).parts.set k _ from hq) with h1 | h1
  · obtain ⟨a,b⟩:=hT.sz q h1;exact ⟨by omega,b⟩
  · subst h1;obtain ⟨a,b⟩:=hT.sz _ (kJ (l:=(il t (k:Int)).parts) (i:=(k:Int)) (by omega) (by omega));exact zn (n:=n) a (by omega) b (k:Int) (il t (k:Int)).Oc
theorem Kh {n:Nat}:∀ (l:List cd) (k c:Nat) (t:hO),k+l.length=t.parts.length→c+1300 * l.length≤2000000→Sg c t→Sg (c+1300 * l.length) (foldI (fun k t (_:cd)=>lJ n k t) k t l)
  | [],k,c,t,_,_,h=>h
  | y::l,k,c,t,hk,hc,h=>by
    simp only [List.length_cons] at hk hc ⊢;obtain ⟨a,b⟩:=h.step (n:=n) (k:=k) (by omega) (by omega);have:=Kh (n:=n) l (k+1) (c+1300) (lJ n k t) (by omega) (by omega) a;exact this.mono (by omega)
theorem Sg.tick {c:Nat} {w:hO} (h:Sg c w) (hc:c≤1000000):Sg (c+3900) (tick w):=by
  unfold Kx.tick;split
  · have hl:=h.len;exact (Kh w.parts 0 c (hO.mk (i64.wrap (w.Oc+1)) w.parts) (by dsimp only;omega) (by omega) ⟨h.len,h.sz⟩).mono (by omega)
  · exact h.mono (by omega)
theorem Sg.put {c:Nat} {w:hO} (h:Sg c w) {q:Int} {z:cd} (hz:ic z≤c+300∧wP z):Sg (c+300) (tT w q z):=by
  refine ⟨by show (w.parts.set _ _).length≤3;rw [List.length_set];exact h.len,fun y hy=>?_⟩
  rcases List.mem_or_eq_of_mem_set (show y ∈ w.parts.set q.toNat z from hy) with a | rfl
  · have:=h.sz y a;exact ⟨by omega,this.2⟩
  · exact hz
theorem Sg.wy {c:Nat} {w:hO} (h:Sg c w) (hc:c≤1000000) (e:iA):Sg (c+3900) (wy w e).1:=by
  unfold Kx.wy;cases e.N0==1
  case true=>exact h.tick hc
  cases e.N0==2
  case true =>
    show Sg (c+3900) (od w e.NX e.ig e.call).1
    rcases KC (h.t (by omega)).q e.NX e.ig e.call with q | ⟨q,z,hq,hn,e2⟩
    · rw [q];exact h.mono (by omega)
    · rw [e2];have:=h.sz _ (jw hq).2;have:=hn.sz;exact (h.put ⟨by omega,hn.w⟩).mono (by omega)
  cases e.N0==3
  case false=>exact h.mono (by omega)
  show Sg (c+3900) (vA w e)
  rcases La w e with q | ⟨_,hp,_,q⟩
  · rw [q];exact h.mono (by omega)
  · rw [q];have:=h.sz _ (jw hp).2;have h3:ic (AH (nth w.parts e.NX) e.ig)=ic (nth w.parts e.NX):=rfl;have h4:=this.1;exact (h.put (q:=e.NX) (z:=AH (nth w.parts e.NX) e.ig) ⟨by omega,this.2⟩).mono (by omega)
def wQ (t:hO×List g6) (e:iA):hO×List g6:=((wy t.1 e).1,t.2++[(wy t.1 e).2])
def zv (w:hO) (l:List iA):hO×List g6:=l.foldl wQ (w,[])
def sD (b:List iC) (l:List iA):hO×List g6:=bif !mW b || decide ((l.length:Int) > 200) then (hO.mk 0 [],[]) else zv (mS b) l
theorem Bu {α τ:Type} (f:τ→α→τ):∀ (l:List α) (k:Nat) (t:τ),foldI (fun _ t y=>f t y) k t l=l.foldl f t
  | [],_,_=>rfl
  | y::l,k,t=>Bu f l (k+1) (f t y)
structure Pl (c k:Nat) (t:hO×List g6):Prop where
  sg:Sg (c+3900 * k) t.1
  len:t.2.length=k
theorem Pl.step {c k:Nat} {t:hO×List g6} (h:Pl c k t) (hc:c≤200000) (hk:k<200) (e:iA):Pl c (k+1) (wQ t e) :=
  ⟨(h.sg.wy (by omega) e).mono (by omega),by show (t.2++[_]).length=_;rw [List.length_append,h.len];rfl⟩
theorem B2:∀ (l:List iC) (a:hJ),tP a l=true→∀ x,x ∈ l→Dc x=true
  | [],_,_,x,hx=>by simp at hx
  | y::l,a,h,x,hx=>by
    unfold tP at h;simp only [Oq] at h
    rcases List.mem_cons.1 hx with rfl | hx
    · have ha:iH x.jU=true:=by
        have:=h.1;unfold kf at this;split at this
        · rename_i q;simp only [Oq] at q;exact q.1.2
        · simp at this
      unfold Dc;rw [ha,h.2.1,h.2.2.1];rfl
    · exact B2 l _ h.2.2.2 x hx
theorem Hy {l:List Int} (h:lp l=true):∀ (k:Nat) (y:Int),l[k]?=some y→(k:Int)≤y∧y≤3
  | 0,y,hy=>by
    have:=lQ.1 h 0 y hy;unfold vk at this;simp only [Oq,iR] at this;omega
  | k+1,y,hy=>by
    have hk:=ja hy;have h0:=Hy h k l[k] (List.getElem?_eq_getElem (by omega));have:=lQ.1 h (k+1) y hy;unfold vk at this;simp only [Oq,iR,Nat.zero_add] at this;have h2:=this.2;simp [List.getElem?_eq_getElem (show k<l.length by omega)] at h2;omega
theorem iU {l:List Int} (h:lp l=true):l.length≤4:=by
  by_cases q:l.length≤4
  · exact q
  · have:=Hy h 4 l[4] (List.getElem?_eq_getElem (by omega));omega
theorem L0 {b:iC} (h:Dc b=true):iZ b≤100:=by
  unfold Dc at h;simp only [Oq] at h;have h1:=(oz.1 h.2.1).1;have h2:=iU h.2.2;unfold iZ jQ;omega
theorem KF {b:List iC} (h:mW b=true):Sg 200 (mS b):=by
  unfold mS;rw [if_pos h];unfold mW at h;rw [Oq,iR] at h;have hk:=B2 b _ h.1;refine ⟨by show (sI b).length≤3;unfold sI;rw [List.length_map];omega,fun p hp=>?_⟩;obtain ⟨x,hx,rfl⟩:=List.mem_map.1 (show p ∈ b.map _ from hp);have ok:=hk x hx;rw [show (qh x).1=yx x from by unfold qh;rw [if_pos ok]];refine ⟨?_,fun o ho=>?_⟩
  · rw [Aa];have:=L0 ok;omega
  · have:∀ o ∈ HB, -9223372036854775808≤o.N9:=by decide
    exact this o ho
end Go.Kx
namespace Go.Kx
open Go
open Go.IntKind (i64)
set_option linter.unusedVariables false
set_option linter.unusedSimpArgs false
set_option maxRecDepth 10000
theorem Pl.t {k:Nat} {t:hO×List g6} (h:Pl 200 k t) (hk:k<200):Wt t.1:=h.sg.t (by omega)
theorem L3 {b:List iC} (h:mW b=true):Pl 200 0 (mS b,([]:List g6)):=⟨by simpa using KF h,rfl⟩
theorem xu {b:List iC} {l:List iA} (h:(!mW b || decide ((l.length:Int) > 200))=false):mW b=true∧l.length≤200:=by
  simp only [Bool.or_eq_false_iff,Bool.not_eq_false',decide_eq_false_iff_not] at h;exact ⟨h.1,by omega⟩
theorem Lu {N:Nat} (hN:gS+1≤N) {b:List iC} {l:List iA} (hb:iQ iZ b<gS):vn N b l=some (sD b l):=by
  have hN':gS≤N:=Nat.le_of_succ_le hN;have hB:(16777216:Nat)=gS:=rfl;unfold vn sD;simp only [Dv hN' hb,Ok,jR];cases h:!mW b || decide ((l.length:Int) > 200)
  case true=>rfl
  obtain ⟨ok,hl⟩:=xu h;simp only [Ol,GG hN hb,Ok];refine Eq.trans (congrArg (fun o=>Option.bind o _) (jM l (fun k (t:hO×List g6)=>(t.2,(k:Int),t.1.Oc,t.1.parts)) (fun _ t e=>wQ t e) (fun t=>(t.2,(l.length:Int),t.1.Oc,t.1.parts)) (Pl 200) ?_ ?_ (show l.length<N by omega) (t:=(mS b,[])) (L3 ok))) (by rw [Bu];rfl)
  · intro k t e hy hk hI;refine ⟨?_,hI.step (by decide) (by omega) e⟩;have h2:=hI.len;simp only [iE hk,Om,ij,hy,Ok,show hO.mk t.1.Oc t.1.parts=t.1 from rfl,Ls hN (hI.t (by omega)),A2 (t:=t.2) (by omega),iK (show k<gS by omega)];rfl
  · intro t _;simp only [iF,Ol]
theorem Lz {N:Nat} (hN:gS≤N) {b:List iC} {l:List iA} (hb:iQ iZ b≤1048576):vt N b l=some (sD b l):=by
  have hB:(16777216:Nat)=gS:=rfl;unfold vt sD;simp only [DJ hN (show iQ iZ b<gS by omega),Ok,jR];cases h:!mW b || decide ((l.length:Int) > 200)
  case true=>rfl
  obtain ⟨ok,hl⟩:=xu h;simp only [Ol,Gq hN hb,Ok];refine Eq.trans (congrArg (fun o=>Option.bind o _) (jM l (fun k (t:hO×List g6)=>(t.2,(k:Int),t.1.Oc,t.1.parts)) (fun _ t e=>wQ t e) (fun t=>(t.2,(l.length:Int),t.1.Oc,t.1.parts)) (Pl 200) ?_ ?_ (show l.length<N by omega) (t:=(mS b,[])) (L3 ok))) (by rw [Bu];rfl)
  · intro k t e hy hk hI;refine ⟨?_,hI.step (by decide) (by omega) e⟩;have h2:=hI.len;simp only [iE hk,Om,ij,hy,Ok,show hO.mk t.1.Oc t.1.parts=t.1 from rfl,Mq hN (hI.t (by omega)),A2 (t:=t.2) (by omega),iK (show k<gS by omega)];rfl
  · intro t _;simp only [iF,Ol]
theorem Fj {l:List iA}:∀ (m:List iA) (k:Nat) (t:hO×List g6),k+m.length≤200→Pl 200 k t→Pl 200 (k+m.length) (m.foldl wQ t)
  | [],k,t,_,h=>h
  | e::m,k,t,hk,h=>by
    simp only [List.length_cons] at hk ⊢;have:=Fj (l:=l) m (k+1) (wQ t e) (by omega) (h.step (by decide) (by omega) e)
    rwa [show k+(m.length+1)=k+1+m.length by omega]
end Go.Kx
namespace Go.Kx
open Go
open Go.IntKind (i64)
set_option linter.unusedVariables false
set_option linter.unusedSimpArgs false
set_option maxRecDepth 10000
def yI (b:List iC) (l:List iA) (x:iI) (r:List g6):List g6:=lZ (fun k _=>seen b (nth l (k:Int)) x) (fun _ y=>y) 0 r
theorem xN (b:List iC) (l:List iA):(sD b l).2.length≤l.length∧((sD b l).2.length≤200):=by
  unfold sD;cases h:!mW b || decide ((l.length:Int) > 200)
  · obtain ⟨ok,hl⟩:=xu h;have:=Fj (l:=l) l 0 (mS b,[]) (by omega) (L3 ok);rw [Nat.zero_add] at this;have e:=this.len;exact ⟨Nat.le_of_eq e,by show (zv (mS b) l).2.length≤200;unfold zv;omega⟩
  · exact ⟨Nat.zero_le _,Nat.zero_le _⟩
theorem Cm {N:Nat} (hN:gS+1≤N) {b:List iC} {l:List iA} {x:iI} (hb:iQ iZ b<gS) (hx:x.NY.length<gS):mO N b l x=some (yI b l x (sD b l).2):=by
  have hN':gS≤N:=Nat.le_of_succ_le hN;have hB:(16777216:Nat)=gS:=rfl;unfold mO yI;obtain ⟨p1,p2⟩:=xN b l;simp only [Lu hN hb,Ok];generalize (sD b l).2=r at *;rw [mB r (fun k _=>seen b (nth l (k:Int)) x) (fun _ y=>y) (show r.length<gS by omega) hN']
  · rfl
  · intro k t y hy hk ht;simp only [iE hk,Om,ij r k,hy,Ok,iT (l:=l) (i:=(k:Int)) (by omega) (by omega),Lf hN' hb hx,iK (show k<gS by omega),j6 ht (show k+1<gS by omega)];cases seen b (nth l (k:Int)) x<;>rfl
  · intro t;simp only [iF,Ol]
theorem Ca {N:Nat} (hN:gS≤N) {b:List iC} {l:List iA} {x:iI} (hb:iQ iZ b≤1048576) (hx:x.NY.length<gS):nY N b l x=some (yI b l x (sD b l).2):=by
  have hB:(16777216:Nat)=gS:=rfl
  have hb':iQ iZ b<gS:=by omega
  unfold nY yI;obtain ⟨p1,p2⟩:=xN b l;simp only [Lz hN hb,Ok];generalize (sD b l).2=r at *;rw [mB r (fun k _=>seen b (nth l (k:Int)) x) (fun _ y=>y) (show r.length<gS by omega) hN]
  · rfl
  · intro k t y hy hk ht;simp only [iE hk,Om,ij r k,hy,Ok,iT (l:=l) (i:=(k:Int)) (by omega) (by omega),Ld hN hb' hx,iK (show k<gS by omega),j6 ht (show k+1<gS by omega)];cases seen b (nth l (k:Int)) x<;>rfl
  · intro t;simp only [iF,Ol]
theorem xb {x:List iC} {e:List iA} {l:iI} (hx:Fit.fit x) (he:Fit.fit e) (hl:Fit.fit l):∃ N,la N x e l=some true:=by
  suffices h:∀ N,gS+1≤N→la N x e l=some true from ⟨gS+1,h (gS+1) (Nat.le_refl _)⟩
  intro N hN';have hN:gS≤N:=Nat.le_of_succ_le hN';unfold la;refine guard (by decide) (by decide) (JQ hN (by decide) (by decide) hx) fun b h0 h1 hs=>?_;refine guard h0 h1 (H3 hN h0 h1 he) fun b h0 h1 hs2=>?_;refine guard h0 h1 (Dh hN h0 h1 hl) fun b h0 h1 hs3=>?_;have hB:(16777216:Nat)=gS:=rfl;have b1:iQ iZ x<gS:=small hs;have b2:e.length<gS:=small hs2;have b3:jQ l<gS:=small hs3;have b4:l.NY.length<gS:=b3;have hs3':l.NY.length≤1048576:=hs3;have p2:=(xN x e).2;simp only [I7 hN b1,Ir hN b2,CQ hN b3,Ca hN hs b4,Cm hN' b1 b4,Ok];have p3:(yI x e l (sD x e).2).length≤(sD x e).2.length:=uF _ _ _ _;generalize yI x e l (sD x e).2=v at *
  have b5:v.length<gS:=by omega
  have s1:=BX x;have s2:=z6 e;have s3:=yF l.NY;have s4:=AA v;have n1:decide (1+((iV ma x:Nat):Int)+((iV lM e:Nat):Int)+((iV j8 l.NY:Nat):Int)<0)=false:=decide_eq_false (by omega);have n2:decide (1+((iV j4 v:Nat):Int)<0)=false:=decide_eq_false (by omega)
  simp only [IQ hN b5,Jw hN b1,HR hN b2,C8 hN b3,Ok,On,Ol,
    Ey hN (n:=1) b1 (by decide) (by omega),Dk hN (n:=1+((iV ma x:Nat):Int)) b2 (by omega) (by omega),ER hN (n:=1+((iV ma x:Nat):Int)+((iV lM e:Nat):Int)) b3 (by omega) (by omega),
    CX hN (n:=1) b5 (by decide) (by omega),C7 hN (n:=1) b5 (by decide) (by omega),lr (pe _ _ _ _),n1,n2,bne_self_eq_false]
end Go.Kx
