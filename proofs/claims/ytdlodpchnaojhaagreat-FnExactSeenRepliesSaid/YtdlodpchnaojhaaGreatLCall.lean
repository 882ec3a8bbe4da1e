import Derived.Test.YtdlodpchnaojhaaGreatLTaps
namespace Go.Kx
open Go
open Go.IntKind (i64)
set_option linter.unusedVariables false
set_option linter.unusedSimpArgs false
set_option maxRecDepth 10000
theorem wa (p:cd):cd.mk p.NZ p.own p.N1 p.py p.gR p.N6 p.N7 p.bh p.gW p.N5=p:=rfl
theorem vL (g:iW):iW.mk g.N2 g.Oa g.N3 g.gQ=g:=rfl
theorem vl (h:g5):g5.mk h.ag h.gc=h:=rfl
theorem LH (a:hJ):hJ.mk a.gE a.gT a.g8=a:=rfl
def i7 (l:List gP) (now me h kind:Int):Int:=bif mU h then (bif mX h != me then 3 else (bif decide (hY l now me h<0) then 4 else (bif (kind != 0)&&((nth l (hY l now me h)).N0 != kind) then 5 else 0))) else 2
theorem yH {l:List gP} {now me h:Int} (q:decide (hY l now me h<0)=false):Ar l∧0≤hY l now me h∧hY l now me h≤9∧(nth l (hY l now me h)).N0 ≠ 0:=by
  unfold hY at *;cases hg:AT l now me h
  · rw [hg] at q;simp at q
  · simp only [Om];unfold AT at hg;simp only [Oq] at hg;obtain ⟨⟨h1,h2,_⟩,h3,_⟩:=hg;obtain ⟨a,b⟩:=zF h2;exact ⟨j5.1 h1,a,b,by simpa using h3⟩
theorem mb {l:List gP} {now me h k:Int} (q:i7 l now me h k=0):Ar l∧0≤hY l now me h∧hY l now me h≤9∧(nth l (hY l now me h)).N0 ≠ 0∧(k ≠ 0→(nth l (hY l now me h)).N0=k):=by
  unfold i7 at q;cases h1:mU h
  · rw [h1] at q;simp at q
  cases h2:mX h != me
  case true=>rw [h1,h2] at q;simp at q
  cases h3:decide (hY l now me h<0)
  case true=>rw [h1,h2,h3] at q;simp at q
  obtain ⟨a,b,c,d⟩:=yH h3;refine ⟨a,b,c,d,fun hk=>?_⟩;rw [h1,h2,h3] at q;simp only [Om,Ol] at q
  have hk':(k != 0)=true:=by simpa using hk
  rw [hk'] at q;cases h4:(nth l (hY l now me h)).N0 != k
  · simpa using h4
  · rw [h4] at q;simp at q
theorem wM {N:Nat} (hN:gS≤N) {x:ik} (hb:iQ hX x.NX.py.ag<gS) (h k:Int):jT N x h k=some (bif i7 x.NX.py.ag x.Oc x.me h k==0 then hY x.NX.py.ag x.Oc x.me h else 0,i7 x.NX.py.ag x.Oc x.me h k,x):=by
  unfold jT i7;simp only [pD,vT,uZ hN hb,Ok];rw [show ia h 0 29999=mU h from rfl];cases mU h
  · rfl
  cases mX h != x.me
  case true=>rfl
  cases q:decide (hY x.NX.py.ag x.Oc x.me h<0)
  case true=>rfl
  obtain ⟨ar,g0,g9,_⟩:=yH q;simp only [On,Ol,(ar.at g0 g9).1,Ok];cases k != 0<;>cases (nth x.NX.py.ag (hY x.NX.py.ag x.Oc x.me h)).N0 != k<;>rfl
theorem AO {N:Nat} (hN:gS≤N) {p:cd} (hb:iQ hX p.py.ag<gS) (hw:wP p) (me now h:Int):mr N p me now h=some (bif i7 p.py.ag now me h 0==0 then hY p.py.ag now me h else -1,i7 p.py.ag now me h 0):=by
  unfold mr i7;simp only [rD,vp,u6 hN hb hw,Ok];rw [show ia h 0 29999=mU h from rfl];cases mU h
  · rfl
  cases mX h != me
  case true=>rfl
  cases q:decide (hY p.py.ag now me h<0)<;>rfl
theorem z3 {N:Nat} (hN:gS≤N) {p:cd} (hb:iQ hX p.py.ag<gS) (hw:wP p) (me now h:Int) {k:Int} (hk:0<k):m8 N p me now h k=some (bif i7 p.py.ag now me h k==0 then hY p.py.ag now me h else -1,i7 p.py.ag now me h k):=by
  unfold m8;rw [AO hN hb hw];have k1:decide (k > 0)=true:=decide_eq_true hk
  have k2:(k != 0)=true:=by simp;omega
  simp only [Ok,k1,Om];unfold i7;rw [k2];cases mU h
  · rfl
  cases mX h != me
  case true=>rfl
  cases q:decide (hY p.py.ag now me h<0)
  case true=>rfl
  obtain ⟨ar,g0,g9,_⟩:=yH q;simp only [bne_self_eq_false,Bool.false_and,Oo,Om,Ol,beq_self_eq_true,(ar.at g0 g9).1,Ok];cases (nth p.py.ag (hY p.py.ag now me h)).N0 != k<;>rfl
def tY (h:g5) (i:Int):g5:=bif j9 h&&ia i 0 9 then ou h i else h
theorem II {N:Nat} (hN:gS≤N) {h:g5} (h1:iQ hX h.ag<gS) (h2:h.gc.gQ.length+1<gS) (i:Int):oH N h i=some (tY h i):=by
  have h2':h.gc.gQ.length<gS:=by omega
  unfold oH tY;simp only [uT hN h1 h2',xa hN h1 h2',sE,Ok];cases q:j9 h
  · rfl
  cases hi:ia i 0 9
  · rfl
  have ar:=mC q;have hl:=ar.len;rw [iR] at hi;simp only [Om,Ok,Bool.and_self,FI hN hi.1 (show i<(h.ag.length:Int) by omega) h2]
theorem Iu {N:Nat} (hN:gS≤N) {h:g5} (h1:iQ hX h.ag<gS) (h2:h.gc.gQ.length+1<gS) (hw:wA h.ag) (i:Int):oy N h i=some (tY h i):=by
  have h2':h.gc.gQ.length<gS:=by omega
  unfold oy tY;simp only [wq hN h1 h2',xt hN h1 h2' hw,qR,Ok];cases q:j9 h
  · rfl
  cases hi:ia i 0 9
  · rfl
  have ar:=mC q;have hl:=ar.len;rw [iR] at hi;simp only [On,Om,Ol,Ok,Bool.and_self,Au hN hi.1 (show i<(h.ag.length:Int) by omega) h2]
def linked (o:gP) (b x:Int):gP:=gP.mk o.Oe o.N0 o.box o.Od o.iw o.gE o.N9 o.iv o.iu o.Ob (o.gX.set b.toNat x) o.N8 o.N4
def boxed (o:gP) (b:Int):gP:=gP.mk o.Oe o.N0 b o.Od o.iw o.gE o.N9 o.iv o.iu o.Ob o.gX o.N8 o.N4
def written (o:gP) (b x:Int):gP:=gP.mk o.Oe o.N0 o.box o.Od o.iw o.gE o.N9 o.iv o.iu o.Ob o.gX (o.N8.set b.toNat x) o.N4
def oV (o:gP) (q:List iS):gP:=gP.mk o.Oe o.N0 o.box o.Od o.iw o.gE o.N9 o.iv o.iu o.Ob o.gX o.N8 q
def waiting (o:gP) (x:Int):gP:=gP.mk o.Oe o.N0 o.box o.Od o.iw o.gE x o.iv o.iu o.Ob o.gX o.N8 o.N4
def zR (o:gP) (x:Int):gP:=gP.mk o.Oe o.N0 o.box o.Od o.iw o.gE o.N9 x o.iu o.Ob o.gX o.N8 o.N4
def pB (p:cd) (h:g5):cd:=cd.mk p.NZ p.own p.N1 h p.gR p.N6 p.N7 p.bh p.gW p.N5
def xC (p:cd) (t:List g7):cd:=cd.mk p.NZ p.own t p.py p.gR p.N6 p.N7 p.bh p.gW p.N5
def xy (p:cd) (t:List iL):cd:=cd.mk p.NZ p.own p.N1 p.py t p.N6 p.N7 p.bh p.gW p.N5
def mM (h:g5) (c i:Int):g5:=bif decide (c ≥ 0) then tY h i else h
def Mh (p:cd) (i b x:Int):cd:=pB p (mM (g5.mk (p.py.ag.set i.toNat (linked (nth p.py.ag i) b x)) p.py.gc) x x)
def mE (p:cd) (me now:Int) (c:ir):Int×Int×cd :=
  bif !ia c.b 0 1 then (2,0,p) else
  bif i7 p.py.ag now me c.a 0 != 0 then (i7 p.py.ag now me c.a 0,0,p) else
  bif (c.N0==2)&&(i7 p.py.ag now me c.c 0 != 0) then (i7 p.py.ag now me c.c 0,0,p) else
  (0,0,Mh p (hY p.py.ag now me c.a) c.b (bif c.N0==2 then hY p.py.ag now me c.c else -1))
structure k6 (p:cd):Prop where
  ok:jd p=true
  sz:ic p≤3000000
  w:wP p
theorem k6.ar {p:cd} (h:k6 p):Ar p.py.ag:=jF h.ok
theorem k6.b4 {p:cd} (h:k6 p):iQ hX p.py.ag<gS:=(jK (p:=p) (Nat.lt_of_le_of_lt h.sz (by decide))).2.2.2.1
theorem k6.b5 {p:cd} (h:k6 p):p.py.gc.gQ.length+1<gS:=by
  have:=h.sz;have hB:(16777216:Nat)=gS:=rfl;unfold ic oD vD at this;omega
theorem n7 {l:List gP} (h:Ar l) {i:Int} (h0:0≤i) (h9:i≤9):hX (nth l i)≤12:=xw (h.ok _ (h.at h0 h9).2)
theorem yB {l:List gP} (h:Ar l) {i:Int} {o:gP} (ho:hX o≤100000):iQ hX (l.set i.toNat o)<gS:=JN h ho _
theorem yl (o:gP) (b x:Int):hX (linked o b x)=hX o:=by unfold hX linked;simp only [List.length_set]
theorem yy {l:List Int} (h:l.length=2) {b:Int} (hb:ia b 0 1=true):idx l b=some (nth l b):=by
  rw [iR] at hb;exact iT hb.1 (by omega)
theorem j7 {a:Int} (h:(a != 0)=false):a=0:=by simpa using h
theorem FF {N:Nat} (hN:gS≤N) {h:g5} (h1:iQ hX h.ag<gS) (h2:h.gc.gQ.length+1<gS) (c i:Int) {β:Type} (f:g5→Option β):(bif decide (c ≥ 0) then (oH N h i).bind f else f h)=f (mM h c i):=by
  unfold mM;rw [II hN h1 h2];cases decide (c ≥ 0)<;>rfl
theorem Lv {N:Nat} (hN:gS≤N) {p:cd} (hp:k6 p) (me now th:Int) (c:ir):nX N (ik.mk p me now th) c=some ((mE p me now c).1,ik.mk (mE p me now c).2.2 me now th):=by
  have h4:=hp.b4;unfold nX mE;simp only [lv,wM hN,h4,Ok,vL,vl,wa];cases q1:ia c.b 0 1
  · rfl
  cases q2:i7 p.py.ag now me c.a 0 != 0
  case true=>rfl
  have q2':=j7 q2;obtain ⟨ar,g0,g9,gk,_⟩:=mb q2';have l2:=wv (ar.ok _ (ar.at g0 g9).2) (by simpa using gk);simp only [On,Ol,q2',beq_self_eq_true,Om];generalize hY p.py.ag now me c.a=i at *;have hs:∀ x,iQ hX (p.py.ag.set i.toNat (linked (nth p.py.ag i) c.b x))<gS:=fun x=>yB ar (by rw [yl];have:=n7 ar g0 g9;omega);cases hk:c.N0==2
  · simp only [Ol,Ok,Sum.elim_inl,(ar.at g0 g9).1,yy l2 q1,Bool.false_and];rfl
  · cases q3:i7 p.py.ag now me c.c 0 != 0
    · have q3':=j7 q3;simp only [Om,Ol,Ok,Sum.elim_inl,(ar.at g0 g9).1,yy l2 q1,Bool.and_false,q3',beq_self_eq_true];generalize hY p.py.ag now me c.c=x;exact FF (h:=g5.mk (p.py.ag.set i.toNat (linked (nth p.py.ag i) c.b x)) p.py.gc) hN (hs x) hp.b5 x x fun y=>some ((0:Int),ik.mk (pB p y) me now th)
    · rfl
def FP (p:cd):cd:=cd.mk p.NZ p.own p.N1 p.py p.gR p.N6 p.N7 p.bh (if 1000000<i64.wrap (p.gW+1) then 1000000 else i64.wrap (p.gW+1)) p.N5
def fin (c:ir) (p:cd) (r:Int×Int×cd):cd×g6:=bif r.1==0 then (r.2.2,g6.mk 0 r.2.1) else (bif (c.N0==1)&&((r.1==6) || (r.1==7)) then FP p else p,g6.mk r.1 0)
theorem uv (c:ir) (p q:cd) (v:Int):fin c p (0,v,q)=(q,g6.mk 0 v):=rfl
theorem lf {c:ir} {p q:cd} {k v:Int} (h:(k != 0)=true) (hc:(c.N0==1)=false):fin c p (k,v,q)=(p,g6.mk k 0):=by
  unfold fin
  have:(k==0)=false:=by simpa [bne] using h
  rw [this,hc];rfl
theorem yS {N:Nat} (hN:gS≤N) {h:g5} (h1:iQ hX h.ag<gS) (h2:h.gc.gQ.length+1<gS) (hw:wA h.ag) (c i:Int) {β:Type} (f:g5→Option β):((bif decide (c ≥ 0) then ((oy N h i).bind fun y=>some (y.ag,y.gc.N2,y.gc.Oa,y.gc.N3,y.gc.gQ)) else (some (h.ag,h.gc.N2,h.gc.Oa,h.gc.N3,h.gc.gQ)):Option ((List gP)×Int×Int×Int×(List Int))).bind fun j=>f (g5.mk j.1 (iW.mk j.2.1 j.2.2.1 j.2.2.2.1 j.2.2.2.2)))=f (mM h c i):=by
  unfold mM;rw [Iu hN h1 h2 hw];cases decide (c ≥ 0)<;>rfl
theorem Ms {N:Nat} (hN:gS≤N) {p:cd} (hp:k6 p) (me now:Int) {c:ir} (hc:(c.N0==1)=false):sf N p me now c=some (fin c p (mE p me now c)):=by
  have h4:=hp.b4;unfold sf mE;simp only [k5,AO hN h4 hp.w,Ok];cases q1:ia c.b 0 1
  · simp only [Bool.not_false,Om,lf (show ((2:Int) != 0)=true from rfl) hc]
  cases q2:i7 p.py.ag now me c.a 0 != 0
  case true=>simp only [On,Ol,Om,lf q2 hc]
  have q2':=j7 q2;obtain ⟨ar,g0,g9,gk,_⟩:=mb q2';have l2:=wv (ar.ok _ (ar.at g0 g9).2) (by simpa using gk);simp only [On,Ol,q2',beq_self_eq_true,Om];generalize hY p.py.ag now me c.a=i at *;have hs:∀ x,iQ hX (p.py.ag.set i.toNat (linked (nth p.py.ag i) c.b x))<gS:=fun x=>yB ar (by rw [yl];have:=n7 ar g0 g9;omega);have hx:∀ x,wA (p.py.ag.set i.toNat (linked (nth p.py.ag i) c.b x)):=fun x=>kr hp.w (show nB (nth p.py.ag i) from hp.w _ (ar.at g0 g9).2);cases hk:c.N0==2
  · simp only [Ol,Ok,Sum.elim_inl,(ar.at g0 g9).1,yy l2 q1,Bool.false_and,uv];exact yS (h:=g5.mk (p.py.ag.set i.toNat (linked (nth p.py.ag i) c.b (-1))) p.py.gc) hN (hs (-1)) hp.b5 (hx (-1)) (-1) (-1) fun y=>some (pB p y,g6.mk 0 0)
  · cases q3:i7 p.py.ag now me c.c 0 != 0
    · have q3':=j7 q3;simp only [Om,Ol,Ok,Sum.elim_inl,(ar.at g0 g9).1,yy l2 q1,Bool.and_false,q3',beq_self_eq_true,uv];generalize hY p.py.ag now me c.c=x;exact yS (h:=g5.mk (p.py.ag.set i.toNat (linked (nth p.py.ag i) c.b x)) p.py.gc) hN (hs x) hp.b5 (hx x) x x fun y=>some (pB p y,g6.mk 0 0)
    · simp only [Om,Ol,Ok,Sum.elim_inr,Bool.and_true,lf q3 hc]
def Me (p:cd) (i x:Int):cd:=pB p (mM (g5.mk (p.py.ag.set i.toNat (boxed (nth p.py.ag i) x)) p.py.gc) x i)
def mz (p:cd) (me now:Int) (c:ir):Int×Int×cd :=
  bif i7 p.py.ag now me c.a 0 != 0 then (i7 p.py.ag now me c.a 0,0,p) else
  bif hY p.py.ag now me c.a==0 then (5,0,p) else
  bif (c.N0==4)&&(i7 p.py.ag now me c.b 1 != 0) then (i7 p.py.ag now me c.b 1,0,p) else
  (0,0,Me p (hY p.py.ag now me c.a) (bif c.N0==4 then hY p.py.ag now me c.b else -1))
theorem Mk {N:Nat} (hN:gS≤N) {p:cd} (hp:k6 p) (me now th:Int) (c:ir):n5 N (ik.mk p me now th) c=some ((mz p me now c).1,ik.mk (mz p me now c).2.2 me now th):=by
  have h4:=hp.b4;unfold n5 mz;simp only [wM hN,h4,Ok,vL,vl,wa];cases q2:i7 p.py.ag now me c.a 0 != 0
  case true=>rfl
  have q2':=j7 q2;obtain ⟨ar,g0,g9,gk,_⟩:=mb q2';simp only [On,Ol,q2',beq_self_eq_true,Om];generalize hY p.py.ag now me c.a=i at *;cases hi:i==0
  case true=>rfl
  have hs:∀ x,iQ hX (p.py.ag.set i.toNat (boxed (nth p.py.ag i) x))<gS:=fun x=>yB ar (by have:hX (nth p.py.ag i)≤12:=n7 ar g0 g9;show hX (nth p.py.ag i)≤_;omega);cases hk:c.N0==4
  · simp only [Ol,Ok,Sum.elim_inl,(ar.at g0 g9).1,Bool.false_and];rfl
  · cases q3:i7 p.py.ag now me c.b 1 != 0
    · have q3':=j7 q3;simp only [Om,Ol,Ok,Sum.elim_inl,(ar.at g0 g9).1,Bool.and_false,q3',beq_self_eq_true];generalize hY p.py.ag now me c.b=x;exact FF (h:=g5.mk (p.py.ag.set i.toNat (boxed (nth p.py.ag i) x)) p.py.gc) hN (hs x) hp.b5 x i fun y=>some ((0:Int),ik.mk (pB p y) me now th)
    · rfl
theorem LI {N:Nat} (hN:gS≤N) {p:cd} (hp:k6 p) (me now:Int) {c:ir} (hc:(c.N0==1)=false):sb N p me now c=some (fin c p (mz p me now c)):=by
  have h4:=hp.b4;unfold sb mz;simp only [AO hN h4 hp.w,z3 hN h4 hp.w _ _ _ (show (0:Int)<1 by decide),Ok];cases q2:i7 p.py.ag now me c.a 0 != 0
  case true=>simp only [Om,lf q2 hc]
  have q2':=j7 q2;obtain ⟨ar,g0,g9,gk,_⟩:=mb q2';simp only [On,Ol,q2',beq_self_eq_true,Om];generalize hY p.py.ag now me c.a=i at *;cases hi:i==0
  case true=>simp only [Om,lf (show ((5:Int) != 0)=true from rfl) hc]
  have hs:∀ x,iQ hX (p.py.ag.set i.toNat (boxed (nth p.py.ag i) x))<gS:=fun x=>yB ar (by have:hX (nth p.py.ag i)≤12:=n7 ar g0 g9;show hX (nth p.py.ag i)≤_;omega);have hx:∀ x,wA (p.py.ag.set i.toNat (boxed (nth p.py.ag i) x)):=fun x=>kr hp.w (show nB (nth p.py.ag i) from hp.w _ (ar.at g0 g9).2);cases hk:c.N0==4
  · simp only [Ol,Ok,Sum.elim_inl,(ar.at g0 g9).1,Bool.false_and,uv];exact yS (h:=g5.mk (p.py.ag.set i.toNat (boxed (nth p.py.ag i) (-1))) p.py.gc) hN (hs (-1)) hp.b5 (hx (-1)) (-1) i fun y=>some (pB p y,g6.mk 0 0)
  · cases q3:i7 p.py.ag now me c.b 1 != 0
    · have q3':=j7 q3;simp only [Om,Ol,Ok,Sum.elim_inl,(ar.at g0 g9).1,Bool.and_false,q3',beq_self_eq_true,uv];generalize hY p.py.ag now me c.b=x;exact yS (h:=g5.mk (p.py.ag.set i.toNat (boxed (nth p.py.ag i) x)) p.py.gc) hN (hs x) hp.b5 (hx x) x i fun y=>some (pB p y,g6.mk 0 0)
    · simp only [Om,Ol,Ok,Sum.elim_inr,Bool.and_true,lf q3 hc]
def KH (p:cd) (i b x:Int):cd:=ns p (p.py.ag.set i.toNat (written (nth p.py.ag i) b x))
def jb (p:cd) (me now:Int) (c:ir):Int×Int×cd :=
  bif i7 p.py.ag now me c.a 2 != 0 then (i7 p.py.ag now me c.a 2,0,p) else
  bif !ia c.b 0 (((nth p.py.ag (hY p.py.ag now me c.a)).N8.length:Int) - 1) then (2,0,p) else
  bif c.N0==7 then (0,nth (nth p.py.ag (hY p.py.ag now me c.a)).N8 c.b,p) else
  bif !ia c.c 0 999 then (2,0,p) else (0,0,KH p (hY p.py.ag now me c.a) c.b c.c)
theorem CD {α:Type} {l:List α} (h:l.length<gS):i64.wrap ((l.length:Int) - 1)=(l.length:Int) - 1:=by
  have:l.length<16777216:=h;exact iY (by omega) (by omega)
theorem DU {o:gP} (h:hX o≤12):o.N8.length<gS:=by
  have hB:(16777216:Nat)=gS:=rfl;unfold hX at h;omega
theorem Hx {N:Nat} (hN:gS≤N) {p:cd} (hp:k6 p) (me now th:Int) (c:ir):mJ N (ik.mk p me now th) c=some ((jb p me now c).1,(jb p me now c).2.1,ik.mk (jb p me now c).2.2 me now th):=by
  have h4:=hp.b4;unfold mJ jb;simp only [wM hN,h4,lv,Ok,vL,vl,wa];cases q2:i7 p.py.ag now me c.a 2 != 0
  case true=>rfl
  have q2':=j7 q2;obtain ⟨ar,g0,g9,gk,_⟩:=mb q2';simp only [On,Ol,q2',beq_self_eq_true,Om];generalize hY p.py.ag now me c.a=i at *;have ho:=n7 ar g0 g9;simp only [(ar.at g0 g9).1,Ok,CD (DU ho)];cases q3:ia c.b 0 (((nth p.py.ag i).N8.length:Int) - 1)
  · rfl
  have hd:idx (nth p.py.ag i).N8 c.b=some (nth (nth p.py.ag i).N8 c.b):=by
    rw [iR] at q3;exact iT q3.1 (by omega)
  simp only [On,Ol,hd,Ok];cases c.N0==7
  · cases ia c.c 0 999<;>rfl
  · rfl
theorem IB {N:Nat} (hN:gS≤N) {p:cd} (hp:k6 p) (me now:Int) {c:ir} (hc:(c.N0==1)=false) (hk:(c.N0==6)=!(c.N0==7)):oT N p me now c=some (fin c p (jb p me now c)):=by
  have h4:=hp.b4;unfold oT jb;simp only [z3 hN h4 hp.w _ _ _ (show (0:Int)<2 by decide),k5,Ok];cases q2:i7 p.py.ag now me c.a 2 != 0
  case true=>simp only [Om,lf q2 hc]
  have q2':=j7 q2;obtain ⟨ar,g0,g9,gk,_⟩:=mb q2';simp only [On,Ol,q2',beq_self_eq_true,Om];generalize hY p.py.ag now me c.a=i at *;have ho:=n7 ar g0 g9;simp only [(ar.at g0 g9).1,Ok,CD (DU ho)];cases q3:ia c.b 0 (((nth p.py.ag i).N8.length:Int) - 1)
  · simp only [Bool.not_false,Om,Ok,lf (show ((2:Int) != 0)=true from rfl) hc]
  have hd:idx (nth p.py.ag i).N8 c.b=some (nth (nth p.py.ag i).N8 c.b):=by
    rw [iR] at q3;exact iT q3.1 (by omega)
  rw [hk];simp only [On,Ol,hd,Ok];cases c.N0==7
  · cases ia c.c 0 999
    · simp only [Bool.not_false,Om,Ol,Ok,lf (show ((2:Int) != 0)=true from rfl) hc]
    · rfl
  · rfl
def nm (p:cd) (f:Int) (a:hJ):Bool:=(ji p.N1 f a).2&&(kf p.bh (hJ.mk 0 a.gT 0)).2
def yg (p:cd) (f:Int) (a:hJ):cd:=cd.mk p.NZ p.own (ji p.N1 f a).1 p.py p.gR p.N6 p.N7 (kf p.bh (hJ.mk 0 a.gT 0)).1 p.gW p.N5
theorem Iy (p:cd) (f:Int) (a:hJ):(yg p f a).py=p.py:=rfl
theorem k6.b3 {p:cd} (h:k6 p):p.N1.length<gS:=(jK (p:=p) (Nat.lt_of_le_of_lt h.sz (by decide))).2.2.1
theorem JV {N:Nat} (hN:gS≤N) {x:ik} (hB:x.NX.N1.length<gS) (f:Int) (a:hJ):ng N x f a=some (nm x.NX f a,bif nm x.NX f a then ik.mk (yg x.NX f a) x.me x.Oc x.ig else x):=by
  unfold ng nm;simp only [um hN hB,DL,Ok,jR];cases (ji x.NX.N1 f a).2<;>cases (kf x.NX.bh (hJ.mk 0 a.gT 0)).2<;>rfl
def kz (p:cd) (me now:Int) (c:ir):Int×Int×cd :=
  bif i7 p.py.ag now me c.a 0 != 0 then (i7 p.py.ag now me c.a 0,0,p) else
  bif (hY p.py.ag now me c.a==0) || (!ia c.b 1 1000 || decide (i64.wrap ((nth p.py.ag (hY p.py.ag now me c.a)).iw+c.b) > 1000000)) then (2,0,p) else
  bif !nm p (nE p (nth p.py.ag (hY p.py.ag now me c.a)).Od) (hJ.mk 0 (i64.wrap ((nth p.py.ag (hY p.py.ag now me c.a)).gE * c.b)) 0) then (6,0,p) else
  (0,0,ns (yg p (nE p (nth p.py.ag (hY p.py.ag now me c.a)).Od) (hJ.mk 0 (i64.wrap ((nth p.py.ag (hY p.py.ag now me c.a)).gE * c.b)) 0)) (p.py.ag.set (hY p.py.ag now me c.a).toNat (Hq (nth p.py.ag (hY p.py.ag now me c.a)) (i64.wrap ((nth p.py.ag (hY p.py.ag now me c.a)).iw+c.b)))))
theorem KL {N:Nat} (hN:gS≤N) {p:cd} (hp:k6 p) (me now th:Int) (c:ir):ny N (ik.mk p me now th) c=some ((kz p me now c).1,ik.mk (kz p me now c).2.2 me now th):=by
  have h4:=hp.b4;have h3:=hp.b3;unfold ny kz;simp only [wM hN,h4,lv,Ok,vL,vl,wa];cases q2:i7 p.py.ag now me c.a 0 != 0
  case true=>rfl
  have q2':=j7 q2;obtain ⟨ar,g0,g9,gk,_⟩:=mb q2';simp only [On,Ol,q2',beq_self_eq_true,Om];generalize hY p.py.ag now me c.a=i at *;simp only [(ar.at g0 g9).1,Ok,jR,A5 hN,JV hN,h3];cases ((i==0) || (!ia c.b 1 1000 || decide (i64.wrap ((nth p.py.ag i).iw+c.b) > 1000000)))
  · cases nm p (nE p (nth p.py.ag i).Od) (hJ.mk 0 (i64.wrap ((nth p.py.ag i).gE * c.b)) 0)<;>rfl
  · rfl
theorem K4 {N:Nat} (hN:gS≤N) {p:cd} (hp:k6 p) (me now:Int) {c:ir} (hc:(c.N0==1)=false):re N p me now c=some (fin c p (kz p me now c)):=by
  have h4:=hp.b4;have h3:=hp.b3;unfold re kz;simp only [AO hN h4 hp.w,k5,Ok];cases q2:i7 p.py.ag now me c.a 0 != 0
  case true=>simp only [Om,lf q2 hc]
  have q2':=j7 q2;obtain ⟨ar,g0,g9,gk,_⟩:=mb q2';simp only [On,Ol,q2',beq_self_eq_true,Om];generalize hY p.py.ag now me c.a=i at *;simp only [(ar.at g0 g9).1,Ok,jR,wV hN,sX hN h3,vJ];cases ((i==0) || (!ia c.b 1 1000 || decide (i64.wrap ((nth p.py.ag i).iw+c.b) > 1000000)))
  · unfold nm;cases (ji p.N1 (nE p (nth p.py.ag i).Od) (hJ.mk 0 (i64.wrap ((nth p.py.ag i).gE * c.b)) 0)).2<;>cases (kf p.bh (hJ.mk 0 (i64.wrap ((nth p.py.ag i).gE * c.b)) 0)).2<;>simp only [On,Bool.not_false,Bool.and_self,Bool.and_false,Bool.false_and,Bool.or_self,Bool.or_true,Bool.true_or,Bool.false_or,Bool.or_false,Oo,Bool.and_true,Om,Ol,lf (show ((6:Int) != 0)=true from rfl) hc,uv]
    rfl
  · simp only [Om,lf (show ((2:Int) != 0)=true from rfl) hc]
def mL (p:cd) (c:ir):Int×Int×cd :=
  bif c.N0==9 then
    bif !ia c.a 0 4 || !iH (hJ.mk c.b c.c c.d) then (2,0,p) else
    bif !(ly p.N1 c.a (hJ.mk c.b c.c c.d)).2.2 then (6,0,p) else (0,(ly p.N1 c.a (hJ.mk c.b c.c c.d)).2.1,xC p (ly p.N1 c.a (hJ.mk c.b c.c c.d)).1)
  else bif c.N0==10 then
    bif !ia c.a 0 4 || (!ia c.b 0 4 || (!ia c.c 0 2 || !wU c.d)) then (2,0,p) else
    bif !(mR p.N1 c.a c.b (lh c.c c.d)).2 then (6,0,p) else (0,0,xC p (mR p.N1 c.a c.b (lh c.c c.d)).1)
  else bif !(mQ p.N1 c.a).2 then (2,0,p) else (0,0,xC p (mQ p.N1 c.a).1)
theorem IA {N:Nat} (hN:gS≤N) {p:cd} (hp:k6 p) (me now th:Int) (c:ir):mG N (ik.mk p me now th) c=some ((mL p c).1,(mL p c).2.1,ik.mk (mL p c).2.2 me now th):=by
  have h3:=hp.b3;unfold mG mL;simp only [uu,qe,lv,AU,xh,EE hN h3,Hg hN h3,Hi hN h3,Ok,jR];cases c.N0==9
  · cases c.N0==10
    · cases (mQ p.N1 c.a).2<;>rfl
    · cases (!ia c.a 0 4 || (!ia c.b 0 4 || (!ia c.c 0 2 || !wU c.d)))
      · cases (mR p.N1 c.a c.b (lh c.c c.d)).2<;>rfl
      · rfl
  · cases (!ia c.a 0 4 || !iH (hJ.mk c.b c.c c.d))
    · cases (ly p.N1 c.a (hJ.mk c.b c.c c.d)).2.2<;>rfl
    · rfl
theorem MX {N:Nat} (hN:gS≤N) {p:cd} (hp:k6 p) {c:ir} (hc:(c.N0==1)=false):s5 N p c=some (fin c p (mL p c)):=by
  have h3:=hp.b3;have n2:=fun q=>lf (p:=p) (q:=q) (v:=0) (show ((2:Int) != 0)=true from rfl) hc;have n6:=fun q=>lf (p:=p) (q:=q) (v:=0) (show ((6:Int) != 0)=true from rfl) hc;unfold s5 mL;simp only [vd,qt,k5,M8,D5,ED hN h3,GC hN h3,Gk hN h3,Ok,jR];cases c.N0==9
  · cases c.N0==10
    · cases (mQ p.N1 c.a).2
      · simp only [Bool.not_false,Om,Ol,n2]
      · rfl
    · cases (!ia c.a 0 4 || (!ia c.b 0 4 || (!ia c.c 0 2 || !wU c.d)))
      · cases (mR p.N1 c.a c.b (lh c.c c.d)).2
        · simp only [Bool.not_false,Om,Ol,n6]
        · rfl
      · simp only [Om,Ol,n2]
  · cases (!ia c.a 0 4 || !iH (hJ.mk c.b c.c c.d))
    · cases (ly p.N1 c.a (hJ.mk c.b c.c c.d)).2.2
      · simp only [Bool.not_false,Om,Ol,n6]
      · rfl
    · simp only [Om,n2]
def tE (p:cd) (th a:Int):Int×Int×cd :=
  bif a==0 then (0,(nth p.py.ag th).iu,p) else bif a==1 then (0,(nth p.py.ag th).iv,p) else
  bif (a==2) || ((a==3) || (a==4)) then (0,kv (sB p th) (i64.wrap (a - 2)),p) else (2,0,p)
theorem AX (a b c:Bool):(bif a then some a else bif b then some b else some c)=some (a || (b || c)):=by cases a<;>cases b<;>rfl
theorem LA (a b:Bool):(bif a then some a else some b)=some (a || b):=by cases a<;>rfl
theorem LQ {N:Nat} (hN:gS≤N) {p:cd} (hp:k6 p) (me now:Int) {th:Int} (h0:0≤th) (h9:th≤9) (a:Int):og N (ik.mk p me now th) a=some ((tE p th a).1,(tE p th a).2.1,ik.mk (tE p th a).2.2 me now th):=by
  unfold og tE;simp only [(hp.ar.at h0 h9).1,yA hN hp.ok h0 h9,BL,Ok,AX];cases a==0
  · cases a==1
    · cases (a==2) || ((a==3) || (a==4))<;>rfl
    · rfl
  · rfl
theorem LL {N:Nat} (hN:gS≤N) {p:cd} (hp:k6 p) {th:Int} (h0:0≤th) (h9:th≤9) {c:ir} (hc:(c.N0==1)=false):sc N p th c=some (fin c p (tE p th c.a)):=by
  unfold sc tE;obtain ⟨r0,r4⟩:=ui p (nth p.py.ag th).Od;simp only [(hp.ar.at h0 h9).1,wV hN,wS hp.ok r0 r4,B8,Ok,AX,LH];cases c.a==0
  · cases c.a==1
    · cases (c.a==2) || ((c.a==3) || (c.a==4))
      · simp only [Ol,lf (show ((2:Int) != 0)=true from rfl) hc]
      · rfl
    · rfl
  · rfl
theorem CT {l:List gP} {o:gP}:∀ (m:List gP) (k:Nat),u5 l o k m=(l, -1)∨∃ (j:Nat) (g:Int),j<k+m.length∧u5 l o k m=(l.set j (ks o g),(j:Int))∧jJ (l.set j (ks o g))=true
  | [],k=>.inl rfl
  | x::m,k=>by
    unfold u5;split
    · rcases CT (l:=l) (o:=o) m (k+1) with h | ⟨j,g,h1,h2,h3⟩
      · exact .inl h
      · exact .inr ⟨j,g,by simp only [List.length_cons];omega,h2,h3⟩
    · unfold putAt;split
      · rename_i q;simp only [Oq] at q;exact .inr ⟨k,_,by simp,rfl,q.1⟩
      · exact .inl rfl
theorem wH {l:List gP} {o:gP} (h:decide ((kG l o).2<0)=false):∃ (j:Nat) (g:Int),kG l o=(l.set j (ks o g),(j:Int))∧Ar (l.set j (ks o g))∧j<10:=by
  unfold kG at *;cases ha:jJ l
  · rw [ha] at h;simp at h
  · rw [ha] at h;simp only [if_true] at *;have hl:=(j5.1 ha).len
    rcases CT (l:=l) (o:=o) (l.drop 1) 1 with e | ⟨j,g,h1,h2,h3⟩
    · rw [e] at h;simp at h
    · exact ⟨j,g,h2,j5.1 h3,by simp only [List.length_drop] at h1;omega⟩
def newObj (now box:Int) (c:ir):gP:=gP.mk 0 c.a box c.e (i64.wrap (now+c.d)) c.c 0 0 0 false [-1, -1] (bif c.a==2 then List.replicate c.c.toNat 0 else []) []
def rq (now:Int) (c:ir):Bool:=!ia c.a 1 4 || (!ia c.c 0 8 || (!ia c.d 1 1000 || (decide (i64.wrap (now+c.d) > 1000000) || !ia c.e 0 4)))
def cost (c:ir):hJ:=hJ.mk c.c (i64.wrap (c.c * c.d)) 0
def l5 (p:cd) (me now:Int) (c:ir):Int×Int×cd :=
  bif rq now c then (2,0,p) else
  bif i7 p.py.ag now me c.b 1 != 0 then (i7 p.py.ag now me c.b 1,0,p) else
  bif !nm p c.e (cost c) then (6,0,p) else
  bif decide ((kG p.py.ag (newObj now (hY p.py.ag now me c.b) c)).2<0) then (7,0,yg p c.e (cost c)) else
  (0,tO me (kG p.py.ag (newObj now (hY p.py.ag now me c.b) c)).2 (nth (kG p.py.ag (newObj now (hY p.py.ag now me c.b) c)).1 (kG p.py.ag (newObj now (hY p.py.ag now me c.b) c)).2).Oe,
    pB (yg p c.e (cost c)) (oo (g5.mk (kG p.py.ag (newObj now (hY p.py.ag now me c.b) c)).1 p.py.gc) (kG p.py.ag (newObj now (hY p.py.ag now me c.b) c)).2))
theorem wG {now:Int} {c:ir} (h:rq now c=false):0≤c.c∧c.c≤8:=by
  unfold rq at h;simp only [Bool.or_eq_false_iff,Bool.not_eq_false'] at h;exact iR.1 h.2.1
theorem yt {now box:Int} {c:ir} (h:0≤c.c∧c.c≤8):hX (newObj now box c)≤100:=by
  unfold hX newObj;cases c.a==2
  · simp
  · simp only [Om,List.length_replicate,List.length_cons,List.length_nil];omega
theorem zx (now box:Int) (c:ir):nB (newObj now box c):=by show (-9223372036854775808:Int)≤0;decide
theorem LY {c:Int} (h:0≤c∧c≤8):mk Int c=some (List.replicate c.toNat 0):=by
  have hB:(16777216:Nat)=gS:=rfl;unfold mk;rw [if_pos ⟨h.1,by omega⟩];rfl
theorem Ko (a b c d e:Bool):(bif a then some true else bif b then some true else bif c then some true else bif d then some true else some e)=some (a || (b || (c || (d || e)))):=by cases a<;>cases b<;>cases c<;>cases d<;>rfl
theorem Md {N:Nat} (hN:gS+1≤N) {p:cd} (hp:k6 p) (me now th:Int) (c:ir):nT N (ik.mk p me now th) c=some ((l5 p me now c).1,(l5 p me now c).2.1,ik.mk (l5 p me now c).2.2 me now th):=by
  have hN':gS≤N:=Nat.le_of_succ_le hN;have h4:=hp.b4;have h3:=hp.b3;have h5:=hp.b5;unfold nT l5;simp only [wM hN',h4,lv,uu,Ok,vL,vl,wa,Ko];rw [show (!ia c.a 1 4 || (!ia c.c 0 8 || (!ia c.d 1 1000 || (decide (i64.wrap (now+c.d) > 1000000) || !ia c.e 0 4))))=rq now c from rfl];cases q1:rq now c
  case true=>rfl
  have hc:=wG q1;cases q2:i7 p.py.ag now me c.b 1 != 0
  case true=>rfl
  have q2':=j7 q2;simp only [Ol,Om,q2',beq_self_eq_true];generalize hY p.py.ag now me c.b=box;rw [show hJ.mk c.c (i64.wrap (c.c * c.d)) 0=cost c from rfl];simp only [JV hN' (x:=ik.mk p me now th) h3,Ok];cases q3:nm p c.e (cost c)
  · rfl
  simp only [On,Ol,Om,LY hc,Ok,Iy];rw [show (bif c.a==2 then some (List.replicate c.c.toNat 0) else some ([]:List Int))=some (bif c.a==2 then List.replicate c.c.toNat 0 else []) from pd _ _ _];simp only [Ok];rw [show gP.mk 0 c.a box c.e (i64.wrap (now+c.d)) c.c 0 0 0 false [-1, -1] (bif c.a==2 then List.replicate c.c.toNat 0 else []) []=newObj now box c from rfl];have ho:=yt (now:=now) (box:=box) hc;rw [An hN h4 (o:=newObj now box c) (by omega)];simp only [Ok];cases q4:decide ((kG p.py.ag (newObj now box c)).2<0)
  case true=>rfl
  obtain ⟨j,g,e,ar,hj⟩:=wH q4;have h1:=ar.sz;have hB:(16777216:Nat)=gS:=rfl;rw [e];simp only [Ol,(ar.at (i:=(j:Int)) (by omega) (by omega)).1,Ok,Az];rw [DS hN' (h:=g5.mk (p.py.ag.set j (ks (newObj now box c) g)) p.py.gc) (by show iQ hX (p.py.ag.set j (ks (newObj now box c) g))<gS;omega) (by show p.py.gc.gQ.length<gS;omega)];rfl
theorem Di (l:List gP) (now me h k:Int):(i7 l now me h k==6)=false∧(i7 l now me h k==7)=false:=by
  unfold i7;cases mU h
  · exact ⟨rfl,rfl⟩
  cases mX h != me
  case true=>exact ⟨rfl,rfl⟩
  cases decide (hY l now me h<0)
  case true=>exact ⟨rfl,rfl⟩
  cases (k != 0)&&((nth l (hY l now me h)).N0 != k)<;>exact ⟨rfl,rfl⟩
theorem Ed {c:ir} {p q:cd} {k v:Int} (h:(k != 0)=true) (h6:(k==6)=false) (h7:(k==7)=false):fin c p (k,v,q)=(p,g6.mk k 0):=by
  unfold fin
  have:(k==0)=false:=by simpa [bne] using h
  rw [this];simp only [Ol,h6,h7,Bool.or_self,Bool.and_false]
theorem BM {c:ir} {p q:cd} {k v:Int} (h:(k != 0)=true) (h6:((k==6) || (k==7))=true) (hc:(c.N0==1)=true):fin c p (k,v,q)=(FP p,g6.mk k 0):=by
  unfold fin
  have:(k==0)=false:=by simpa [bne] using h
  rw [this];simp only [Ol,h6,hc,Bool.and_self,Om]
theorem Mm {N:Nat} (hN:gS≤N) {p:cd} (hp:k6 p) (me now:Int) {c:ir} (hc1:(c.N0==1)=true):si N p me now c=some (fin c p (l5 p me now c)):=by
  have h4:=hp.b4;have h3:=hp.b3;have h5:=hp.b5;unfold si l5;simp only [z3 hN h4 hp.w _ _ _ (show (0:Int)<1 by decide),k5,vd,Ok,Ko];rw [show (!ia c.a 1 4 || (!ia c.c 0 8 || (!ia c.d 1 1000 || (decide (i64.wrap (now+c.d) > 1000000) || !ia c.e 0 4))))=rq now c from rfl];cases q1:rq now c
  case true=>simp only [Om,Ed (show ((2:Int) != 0)=true from rfl) rfl rfl]
  have hc:=wG q1;cases q2:i7 p.py.ag now me c.b 1 != 0
  case true=>simp only [Om,Ol,Ed q2 (Di _ _ _ _ _).1 (Di _ _ _ _ _).2]
  have q2':=j7 q2;simp only [Ol,Om,q2',beq_self_eq_true];generalize hY p.py.ag now me c.b=box;rw [show hJ.mk c.c (i64.wrap (c.c * c.d)) 0=cost c from rfl];simp only [sX hN h3,vJ,Ok,jR];rw [show (!(ji p.N1 c.e (cost c)).2 || !(kf p.bh (hJ.mk 0 (i64.wrap (c.c * c.d)) 0)).2)=!nm p c.e (cost c) by unfold nm;rw [Bool.not_and];rfl];cases q3:nm p c.e (cost c)
  · simp only [Bool.not_false,Om,BM (show ((6:Int) != 0)=true from rfl) rfl hc1];rfl
  simp only [On,Ol,Om,LY hc,Ok];rw [show (bif c.a==2 then some (List.replicate c.c.toNat 0) else some ([]:List Int))=some (bif c.a==2 then List.replicate c.c.toNat 0 else []) from pd _ _ _];simp only [Ok];rw [show gP.mk 0 c.a box c.e (i64.wrap (now+c.d)) c.c 0 0 0 false [-1, -1] (bif c.a==2 then List.replicate c.c.toNat 0 else []) []=newObj now box c from rfl];have ho:=yt (now:=now) (box:=box) hc;rw [Ap hN h4 hp.w (o:=newObj now box c) (by omega) (zx _ _ _)];simp only [Ok];cases q4:decide ((kG p.py.ag (newObj now box c)).2<0)
  case true =>
    simp only [Om,BM (show ((7:Int) != 0)=true from rfl) rfl hc1];rfl
  obtain ⟨j,g,e,ar,hj⟩:=wH q4;have h1:=ar.sz;have hB:(16777216:Nat)=gS:=rfl;have hw':wA (p.py.ag.set j (ks (newObj now box c) g)):=kr hp.w (zN (zx _ _ _));rw [e];simp only [Ol,(ar.at (i:=(j:Int)) (by omega) (by omega)).1,Ok,AE];rw [D0 hN (h:=g5.mk (p.py.ag.set j (ks (newObj now box c) g)) p.py.gc) (by show iQ hX (p.py.ag.set j (ks (newObj now box c) g))<gS;omega) (by show p.py.gc.gQ.length<gS;omega) hw'];rfl
def xd (l:List gP) (k w b:Int):List gP:=bif decide (k ≥ 0)&&((nth l k).N9==w) then (l.set k.toNat (waiting (nth l k) 0)).set k.toNat (zR (nth (l.set k.toNat (waiting (nth l k) 0)) k) b) else l
theorem B4 {l:List gP} {k w b:Int} (h:0≤k→k<(l.length:Int)) {β:Type} (f:List gP→Option β) :
    ((bif decide (k ≥ 0) then ((idx l k).bind fun y=>some (y.N9==w)) else (some false):Option Bool).bind fun j=>(bif j then ((idx l k).bind fun y=>(some (l.set (k:Int).toNat (waiting y 0))).bind fun z=>(idx z k).bind fun x=>(some (z.set (k:Int).toNat (zR x b))).bind fun v=>some v) else (some l):Option (List gP)).bind f)=f (xd l k w b):=by
  unfold xd;cases hk:decide (k ≥ 0)
  · rfl
  have k0:0≤k:=by simpa using hk
  have e:=iT k0 (h k0);have e2:∀ z,idx (l.set k.toNat z) k=some (nth (l.set k.toNat z) k):=fun z=>iT k0 (by simp only [List.length_set];exact h k0);simp only [Om,e,e2,Ok,Oo];cases (nth l k).N9==w<;>rfl
def asked (l:List gP) (g me th:Int) (c:ir):List gP:=l.set g.toNat (oV (nth l g) ((nth l g).N4++[iS.mk (tO me th (nth l th).Oe) c.b]))
def served (l:List gP) (g:Int):List gP:=l.set g.toNat (oV (nth l g) ((nth l g).N4.drop 1))
def lA (p:cd) (me now th:Int) (c:ir):Int×Int×cd :=
  bif i7 p.py.ag now me c.a 3 != 0 then (i7 p.py.ag now me c.a 3,0,p) else
  bif !ia c.b 0 999 then (2,0,p) else
  bif c.N0==12 then
    bif decide (((nth p.py.ag (hY p.py.ag now me c.a)).N4.length:Int) ≥ 2) then (8,0,p) else
    (0,0,ns p ((asked p.py.ag (hY p.py.ag now me c.a) me th c).set th.toNat (waiting (nth (asked p.py.ag (hY p.py.ag now me c.a) me th c) th) (i64.wrap (c.a+1)))))
  else
    bif ((nth p.py.ag (hY p.py.ag now me c.a)).N4.length:Int)==0 then (8,0,p) else
    (0,(nth (nth p.py.ag (hY p.py.ag now me c.a)).N4 0).n,ns p (xd (served p.py.ag (hY p.py.ag now me c.a)) (hY (served p.py.ag (hY p.py.ag now me c.a)) now me (nth (nth p.py.ag (hY p.py.ag now me c.a)).N4 0).Oj) (i64.wrap (c.a+1)) c.b))
theorem Dl {α:Type} {l:List α} {k:Nat} (h:k≤l.length):sub l (k:Int) (l.length:Int)=some (l.drop k):=by
  unfold sub;rw [if_pos ⟨by omega,by omega,by omega⟩];simp only [Int.toNat_natCast];rw [List.take_of_length_le (by simp)]
theorem xM {o:gP} (h:hX o≤12):o.N4.length≤12:=by unfold hX at h;omega
theorem BF {o:gP} {q:List iS} (h:hX o≤12) (hq:q.length≤20):hX (oV o q)≤100000:=by
  unfold hX at h;unfold hX oV;simp only;omega
theorem va {l:List gP} {now me h:Int} (hl:l.length=10) (h0:0≤hY l now me h):hY l now me h<(l.length:Int):=by
  obtain ⟨_,_,h9,_⟩:=yH (l:=l) (now:=now) (me:=me) (h:=h) (decide_eq_false (by omega));omega
theorem Ll {N:Nat} (hN:gS≤N) {p:cd} (hp:k6 p) (me now:Int) {th:Int} (t0:0≤th) (t9:th≤9) {c:ir} (hk:(c.N0==13)=!(c.N0==12)):nQ N (ik.mk p me now th) c=some ((lA p me now th c).1,(lA p me now th c).2.1,ik.mk (lA p me now th c).2.2 me now th):=by
  have h4:=hp.b4;unfold nQ lA;simp only [wM hN,h4,lv,Ok,vL,vl,wa];cases q2:i7 p.py.ag now me c.a 3 != 0
  case true=>rfl
  have q2':=j7 q2;obtain ⟨ar,g0,g9,gk,_⟩:=mb q2';simp only [On,Ol,q2',beq_self_eq_true,Om];generalize hY p.py.ag now me c.a=i at *;have ho:=n7 ar g0 g9;have hq:=xM ho;have hl:=ar.len;have hB:(16777216:Nat)=gS:=rfl;simp only [(ar.at g0 g9).1,(ar.at t0 t9).1,Ok];cases q3:ia c.b 0 999
  · rfl
  rw [hk];cases q4:c.N0==12
  · simp only [On,Bool.not_false,Ol,Om,Ok];cases q5:((nth p.py.ag i).N4.length:Int)==0
    case true=>rfl
    have l1:1≤(nth p.py.ag i).N4.length:=by rw [beq_eq_false_iff_ne] at q5;omega
    have hsub:sub (nth p.py.ag i).N4 1 ((nth p.py.ag i).N4.length:Int)=some ((nth p.py.ag i).N4.drop 1):=Dl l1;have happ:app ([]:List iS) ((nth p.py.ag i).N4.drop 1)=some ((nth p.py.ag i).N4.drop 1):=jG (by simp only [List.length_drop];omega);have hi0:idx (nth p.py.ag i).N4 0=some (nth (nth p.py.ag i).N4 0):=iT (i:=0) (by decide) (by omega);simp only [Ol,hsub,happ,hi0,Ok];have hs:iQ hX (p.py.ag.set i.toNat (oV (nth p.py.ag i) ((nth p.py.ag i).N4.drop 1)))<gS:=yB ar (BF ho (by simp only [List.length_drop];omega));have e1:=uZ hN hs now me (nth (nth p.py.ag i).N4 0).Oj;unfold oV at e1;rw [e1,Ok];exact B4 (l:=served p.py.ag i) (va (by unfold served;simp only [List.length_set];exact hl)) fun z=>some ((0:Int),(nth (nth p.py.ag i).N4 0).n,ik.mk (ns p z) me now th)
  · simp only [On,Bool.not_false,Ol,Om,Ok,jR,Bool.or_false];cases q5:decide (((nth p.py.ag i).N4.length:Int) ≥ 2)
    case true=>rfl
    have happ:∀ m,app (nth p.py.ag i).N4 [m]=some ((nth p.py.ag i).N4++[m]):=fun m=>j6 hq (by omega);have e2:∀ z,idx (p.py.ag.set i.toNat z) th=some (nth (p.py.ag.set i.toNat z) th):=fun z=>iT t0 (by simp only [List.length_set];omega);simp only [Ol,Az,happ,e2,Ok];rfl
theorem Mi {N:Nat} (hN:gS≤N) {p:cd} (hp:k6 p) (me now:Int) {th:Int} (t0:0≤th) (t9:th≤9) {c:ir} (hc:(c.N0==1)=false):rW N p me now th c=some (fin c p (lA p me now th c)):=by
  have h4:=hp.b4;unfold rW lA;simp only [z3 hN h4 hp.w _ _ _ (show (0:Int)<3 by decide),k5,Ok];cases q2:i7 p.py.ag now me c.a 3 != 0
  case true=>simp only [Om,lf q2 hc]
  have q2':=j7 q2;obtain ⟨ar,g0,g9,gk,_⟩:=mb q2';simp only [On,Ol,q2',beq_self_eq_true,Om];generalize hY p.py.ag now me c.a=i at *;have ho:=n7 ar g0 g9;have hq:=xM ho;have hl:=ar.len;have hB:(16777216:Nat)=gS:=rfl;simp only [(ar.at g0 g9).1,(ar.at t0 t9).1,Ok];cases q3:ia c.b 0 999
  · simp only [Bool.not_false,Om,lf (show ((2:Int) != 0)=true from rfl) hc]
  cases q4:c.N0==12
  · simp only [On,Bool.not_false,Ol,Om,Ok];cases q5:((nth p.py.ag i).N4.length:Int)==0
    case true=>simp only [Om,lf (show ((8:Int) != 0)=true from rfl) hc]
    have l1:1≤(nth p.py.ag i).N4.length:=by rw [beq_eq_false_iff_ne] at q5;omega
    have hsub:sub (nth p.py.ag i).N4 1 ((nth p.py.ag i).N4.length:Int)=some ((nth p.py.ag i).N4.drop 1):=Dl l1;have happ:app ([]:List iS) ((nth p.py.ag i).N4.drop 1)=some ((nth p.py.ag i).N4.drop 1):=jG (by simp only [List.length_drop];omega);have hi0:idx (nth p.py.ag i).N4 0=some (nth (nth p.py.ag i).N4 0):=iT (i:=0) (by decide) (by omega);simp only [Ol,hsub,happ,hi0,Ok,uv];have hs:iQ hX (p.py.ag.set i.toNat (oV (nth p.py.ag i) ((nth p.py.ag i).N4.drop 1)))<gS:=yB ar (BF ho (by simp only [List.length_drop];omega));have hx:wA (p.py.ag.set i.toNat (oV (nth p.py.ag i) ((nth p.py.ag i).N4.drop 1))):=kr hp.w (show nB (nth p.py.ag i) from hp.w _ (ar.at g0 g9).2);have e1:=u6 hN hs hx now me (nth (nth p.py.ag i).N4 0).Oj;unfold oV at e1;rw [e1,Ok];exact B4 (l:=served p.py.ag i) (va (by unfold served;simp only [List.length_set];exact hl)) fun z=>some (ns p z,g6.mk 0 (nth (nth p.py.ag i).N4 0).n)
  · simp only [On,Bool.not_false,Ol,Om,Ok,jR,Bool.or_false];cases q5:decide (((nth p.py.ag i).N4.length:Int) ≥ 2)
    case true=>simp only [Om,lf (show ((8:Int) != 0)=true from rfl) hc]
    have happ:∀ m,app (nth p.py.ag i).N4 [m]=some ((nth p.py.ag i).N4++[m]):=fun m=>j6 hq (by omega);have hap0:app ([]:List iS) (nth p.py.ag i).N4=some (nth p.py.ag i).N4:=jG (by omega);have e2:∀ z,idx (p.py.ag.set i.toNat z) th=some (nth (p.py.ag.set i.toNat z) th):=fun z=>iT t0 (by simp only [List.length_set];omega);simp only [Ol,AE,hap0,happ,e2,Ok,uv];rfl
def vc (p:cd) (c:ir):Int×Int×cd:=bif !ia c.a 0 ((p.gR.length:Int) - 1) then (2,0,p) else (0,0,xy p (p.gR.take c.a.toNat++p.gR.drop (c.a.toNat+1)))
theorem Du {α:Type} {l:List α} {i j:Int} (h0:0≤i) (h1:i≤j) (h2:j≤(l.length:Int)):sub l i j=some ((l.drop i.toNat).take (j.toNat - i.toNat)):=by
  unfold sub;rw [if_pos ⟨h0,h1,h2⟩]
theorem k6.b6 {p:cd} (h:k6 p):p.gR.length<gS:=(jK (p:=p) (Nat.lt_of_le_of_lt h.sz (by decide))).2.2.2.2.2
theorem HI {α:Type} {l:List α} (hl:l.length<gS) {a:Int} (h:ia a 0 ((l.length:Int) - 1)=true):i64.wrap (a+1)=a+1∧sub l 0 a=some (l.take a.toNat)∧sub l (a+1) (l.length:Int)=some (l.drop (a.toNat+1))∧∃ m,sub l a (a+1)=some m:=by
  have hB:(16777216:Nat)=gS:=rfl;rw [iR] at h;refine ⟨iY (by omega) (by omega),?_,?_,_,Du h.1 (by omega) (by omega)⟩
  · rw [Du (Int.le_refl 0) h.1 (by omega)];simp
  · rw [Du (by omega) (by omega) (Int.le_refl _),show (a+1).toNat=a.toNat+1 by omega,List.take_of_length_le (by simp)]
theorem DM (N:Nat) {l:List iL} (hl:l.length<gS) {a:Int} (h:ia a 0 ((l.length:Int) - 1)=true):pc N l a (i64.wrap (a+1))=some (l.take a.toNat++l.drop (a.toNat+1)):=by
  obtain ⟨h1,h2,h3,m,h4⟩:=HI hl h;unfold pc
  have hne:(a==a+1)=false:=by rw [beq_eq_false_iff_ne];omega
  simp only [h1,h2,h3,h4,hne,Ok,Ol]
def kg (p:cd) (me now th:Int) (c:ir):Int×Int×cd :=
  bif c.N0==1 then l5 p me now c else bif (c.N0==2) || (c.N0==3) then mE p me now c else bif (c.N0==4) || (c.N0==5) then mz p me now c else
  bif (c.N0==6) || (c.N0==7) then jb p me now c else bif c.N0==8 then kz p me now c else bif (c.N0==9) || ((c.N0==10) || (c.N0==11)) then mL p c else
  bif (c.N0==12) || (c.N0==13) then lA p me now th c else bif c.N0==14 then tE p th c.a else bif c.N0==15 then vc p c else (2,0,p)
theorem Bq (p:cd) (me now:Int) (c:ir):(mE p me now c).2.1=0∧cd.mk p.NZ p.own p.N1 (mE p me now c).2.2.py p.gR (mE p me now c).2.2.N6 (mE p me now c).2.2.N7 (mE p me now c).2.2.bh (mE p me now c).2.2.gW (mE p me now c).2.2.N5=(mE p me now c).2.2:=by
  unfold mE;cases !ia c.b 0 1
  · cases i7 p.py.ag now me c.a 0 != 0
    · cases (c.N0==2)&&(i7 p.py.ag now me c.c 0 != 0)<;>exact ⟨rfl,rfl⟩
    · exact ⟨rfl,rfl⟩
  · exact ⟨rfl,rfl⟩
theorem A4 (p:cd) (me now:Int) (c:ir):(mz p me now c).2.1=0∧cd.mk p.NZ p.own p.N1 (mz p me now c).2.2.py p.gR (mz p me now c).2.2.N6 (mz p me now c).2.2.N7 (mz p me now c).2.2.bh (mz p me now c).2.2.gW (mz p me now c).2.2.N5=(mz p me now c).2.2:=by
  unfold mz;cases i7 p.py.ag now me c.a 0 != 0
  · cases hY p.py.ag now me c.a==0
    · cases (c.N0==4)&&(i7 p.py.ag now me c.b 1 != 0)<;>exact ⟨rfl,rfl⟩
    · exact ⟨rfl,rfl⟩
  · exact ⟨rfl,rfl⟩
theorem FK (p:cd) (me now:Int) (c:ir):cd.mk p.NZ p.own p.N1 (g5.mk (jb p me now c).2.2.py.ag (iW.mk (jb p me now c).2.2.py.gc.N2 (jb p me now c).2.2.py.gc.Oa (jb p me now c).2.2.py.gc.N3 p.py.gc.gQ)) p.gR (jb p me now c).2.2.N6 (jb p me now c).2.2.N7 (jb p me now c).2.2.bh (jb p me now c).2.2.gW (jb p me now c).2.2.N5=(jb p me now c).2.2:=by
  unfold jb;cases i7 p.py.ag now me c.a 2 != 0
  · cases !ia c.b 0 (((nth p.py.ag (hY p.py.ag now me c.a)).N8.length:Int) - 1)
    · cases c.N0==7
      · cases !ia c.c 0 999<;>rfl
      · rfl
    · rfl
  · rfl
theorem zJ (p:cd) (me now:Int) (c:ir):(kz p me now c).2.1=0∧cd.mk p.NZ p.own (kz p me now c).2.2.N1 (g5.mk (kz p me now c).2.2.py.ag (iW.mk (kz p me now c).2.2.py.gc.N2 (kz p me now c).2.2.py.gc.Oa (kz p me now c).2.2.py.gc.N3 p.py.gc.gQ)) p.gR (kz p me now c).2.2.N6 (kz p me now c).2.2.N7 (kz p me now c).2.2.bh (kz p me now c).2.2.gW (kz p me now c).2.2.N5=(kz p me now c).2.2:=by
  unfold kz;cases i7 p.py.ag now me c.a 0 != 0
  · cases (hY p.py.ag now me c.a==0) || (!ia c.b 1 1000 || decide (i64.wrap ((nth p.py.ag (hY p.py.ag now me c.a)).iw+c.b) > 1000000))
    · cases nm p (nE p (nth p.py.ag (hY p.py.ag now me c.a)).Od) (hJ.mk 0 (i64.wrap ((nth p.py.ag (hY p.py.ag now me c.a)).gE * c.b)) 0)<;>exact ⟨rfl,rfl⟩
    · exact ⟨rfl,rfl⟩
  · exact ⟨rfl,rfl⟩
theorem IJ (p:cd) (c:ir):cd.mk p.NZ p.own (mL p c).2.2.N1 (g5.mk p.py.ag (iW.mk (mL p c).2.2.py.gc.N2 (mL p c).2.2.py.gc.Oa (mL p c).2.2.py.gc.N3 p.py.gc.gQ)) p.gR (mL p c).2.2.N6 (mL p c).2.2.N7 (mL p c).2.2.bh (mL p c).2.2.gW (mL p c).2.2.N5=(mL p c).2.2:=by
  unfold mL;cases c.N0==9
  · cases c.N0==10
    · cases !(mQ p.N1 c.a).2<;>rfl
    · cases (!ia c.a 0 4 || (!ia c.b 0 4 || (!ia c.c 0 2 || !wU c.d)))
      · cases !(mR p.N1 c.a c.b (lh c.c c.d)).2<;>rfl
      · rfl
  · cases (!ia c.a 0 4 || !iH (hJ.mk c.b c.c c.d))
    · cases !(ly p.N1 c.a (hJ.mk c.b c.c c.d)).2.2<;>rfl
    · rfl
theorem FX (p:cd) (me now th:Int) (c:ir):cd.mk p.NZ p.own p.N1 (g5.mk (lA p me now th c).2.2.py.ag (iW.mk (lA p me now th c).2.2.py.gc.N2 (lA p me now th c).2.2.py.gc.Oa (lA p me now th c).2.2.py.gc.N3 p.py.gc.gQ)) p.gR (lA p me now th c).2.2.N6 (lA p me now th c).2.2.N7 (lA p me now th c).2.2.bh (lA p me now th c).2.2.gW (lA p me now th c).2.2.N5=(lA p me now th c).2.2:=by
  unfold lA;cases i7 p.py.ag now me c.a 3 != 0
  · cases !ia c.b 0 999
    · cases c.N0==12
      · cases ((nth p.py.ag (hY p.py.ag now me c.a)).N4.length:Int)==0<;>rfl
      · cases decide (((nth p.py.ag (hY p.py.ag now me c.a)).N4.length:Int) ≥ 2)<;>rfl
    · rfl
  · rfl
theorem Fu (p:cd) (me now:Int) (c:ir):cd.mk p.NZ p.own (l5 p me now c).2.2.N1 (l5 p me now c).2.2.py p.gR (l5 p me now c).2.2.N6 (l5 p me now c).2.2.N7 (l5 p me now c).2.2.bh (l5 p me now c).2.2.gW (l5 p me now c).2.2.N5=(l5 p me now c).2.2:=by
  unfold l5;cases rq now c
  · cases i7 p.py.ag now me c.b 1 != 0
    · cases !nm p c.e (cost c)
      · cases decide ((kG p.py.ag (newObj now (hY p.py.ag now me c.b) c)).2<0)<;>rfl
      · rfl
    · rfl
  · rfl
theorem yG (p:cd) (th a:Int):(tE p th a).2.2=p:=by
  unfold tE;cases a==0
  · cases a==1
    · cases (a==2) || ((a==3) || (a==4))<;>rfl
    · rfl
  · rfl
theorem Ib {a m n:Int} (hne:m ≠ n) (h:((a==m) || (a==n))=true):(a==m)=!(a==n):=by
  simp only [Bool.or_eq_true,beq_iff_eq] at h
  rcases h with h | h
  · subst h
    have:(a==n)=false:=by rw [beq_eq_false_iff_ne];exact hne
    rw [this];simp
  · subst h
    have:(a==m)=false:=by rw [beq_eq_false_iff_ne];exact fun q=>hne q.symm
    rw [this];simp
theorem Nj {N:Nat} (hN:gS+1≤N) {p:cd} (hp:k6 p) (me now:Int) {th:Int} (t0:0≤th) (t9:th≤9) (c:ir):qb N (ik.mk p me now th) c=some ((kg p me now th c).1,(kg p me now th c).2.1,ik.mk (kg p me now th c).2.2 me now th):=by
  have hN':gS≤N:=Nat.le_of_succ_le hN;unfold qb kg;simp only [Md hN hp,Lv hN' hp,Mk hN' hp,Hx hN' hp,KL hN' hp,IA hN' hp,LQ hN' hp _ _ t0 t9,lv,Ok,LA,AX,(Bq p me now c).2,(A4 p me now c).2,FK,(zJ p me now c).2,IJ,Fu,yG,vL,vl,wa];cases c.N0==1
  case true=>rfl
  cases (c.N0==2) || (c.N0==3)
  case true=>simp only [Ol,Om,(Bq p me now c).1]
  cases (c.N0==4) || (c.N0==5)
  case true=>simp only [Ol,Om,(A4 p me now c).1]
  cases (c.N0==6) || (c.N0==7)
  case true=>rfl
  cases c.N0==8
  case true=>simp only [Ol,Om,(zJ p me now c).1]
  cases (c.N0==9) || ((c.N0==10) || (c.N0==11))
  case true=>rfl
  cases hg:(c.N0==12) || (c.N0==13)
  case true =>
    have:(c.N0==13)=!(c.N0==12):=by
      rw [Bool.or_comm] at hg;exact Ib (by decide) hg
    simp only [Ol,Om,Ll hN' hp me now t0 t9 this,Ok,FX]
  cases c.N0==14
  case true=>simp only [Ol,Om,yG]
  cases c.N0==15
  case false=>rfl
  have h6:=hp.b6;unfold vc;simp only [Ol,Om,CD h6];cases hi:ia c.a 0 ((p.gR.length:Int) - 1)
  · rfl
  simp only [On,Ol,DM N h6 hi,Ok];rfl
theorem u9 {p:cd} {now th:Int} (h:l7 p now th=true):jd p=true∧0≤th∧th≤9:=by
  unfold l7 at h;simp only [Oq] at h;exact xz (now:=now) (by simpa using h.1)
def nw (p:cd) (me now th:Int) (c:ir):cd×g6 :=
  bif !jd p || (!ia me 0 2 || !ia now 0 1000000) then (p,g6.mk 2 0) else bif !l7 p now th then (p,g6.mk 1 0) else fin c p (kg p me now th c)
theorem Mx (p:cd) (me now th:Int) (c:ir):cd.mk p.NZ p.own (kg p me now th c).2.2.N1 (kg p me now th c).2.2.py (kg p me now th c).2.2.gR (kg p me now th c).2.2.N6 (kg p me now th c).2.2.N7 (kg p me now th c).2.2.bh (kg p me now th c).2.2.gW (kg p me now th c).2.2.N5=(kg p me now th c).2.2:=by
  unfold kg;cases c.N0==1
  case true=>rw [Om, ← Fu]
  cases (c.N0==2) || (c.N0==3)
  case true=>rw [Ol,Om, ← (Bq p me now c).2]
  cases (c.N0==4) || (c.N0==5)
  case true=>rw [Ol,Ol,Om, ← (A4 p me now c).2]
  cases (c.N0==6) || (c.N0==7)
  case true=>rw [Ol,Ol,Ol,Om, ← FK]
  cases c.N0==8
  case true=>rw [Ol,Ol,Ol,Ol,Om, ← (zJ p me now c).2]
  cases (c.N0==9) || ((c.N0==10) || (c.N0==11))
  case true=>simp only [Ol,Om];rw [← IJ]
  cases (c.N0==12) || (c.N0==13)
  case true=>simp only [Ol,Om];rw [← FX]
  cases c.N0==14
  case true=>simp only [Ol,Om,yG,wa]
  cases c.N0==15
  case false=>rfl
  simp only [Ol,Om];unfold vc;cases !ia c.a 0 ((p.gR.length:Int) - 1)<;>rfl
theorem Gs {N:Nat} (hN:gS+1≤N) {p:cd} (hb:ic p≤3000000) (hw:wP p) (me now th:Int) (c:ir):qN N p me now th c=some (nw p me now th c):=by
  have hN':gS≤N:=Nat.le_of_succ_le hN;have hB:ic p<gS:=Nat.lt_of_le_of_lt hb (by decide);unfold qN nw;simp only [sK hN' hB,xE,vu,pC hN' hB,B5 hN' hB,Ok,jR];cases !jd p || (!ia me 0 2 || !ia now 0 1000000)
  case true=>rfl
  cases hc:l7 p now th
  · rfl
  obtain ⟨ok,t0,t9⟩:=u9 hc;simp only [On,Ol,Nj hN ⟨ok,hb,hw⟩ me now t0 t9,Ok,Mx,kp];unfold fin;cases (kg p me now th c).1==0
  · simp only [Ol];cases (c.N0==1)&&(((kg p me now th c).1==6) || ((kg p me now th c).1==7))<;>rfl
  · rfl
theorem BS (p:cd) (me now:Int) (c:ir) {β:Type} (x:Option β):kI p.NZ.NY (fin c p (jb p me now c)).1.NZ.NY (kI p.own (fin c p (jb p me now c)).1.own (kI p.N1 (fin c p (jb p me now c)).1.N1 (kI p.py.ag (fin c p (jb p me now c)).1.py.ag (kI p.py.gc.gQ (fin c p (jb p me now c)).1.py.gc.gQ (kI p.gR (fin c p (jb p me now c)).1.gR x)))))=x:=by
  have h:(jb p me now c).2.2.NZ=p.NZ∧(jb p me now c).2.2.own=p.own∧(jb p me now c).2.2.N1=p.N1∧(jb p me now c).2.2.py.ag.length=p.py.ag.length∧(jb p me now c).2.2.py.gc=p.py.gc∧(jb p me now c).2.2.gR=p.gR:=by
    unfold jb;cases i7 p.py.ag now me c.a 2 != 0
    case true=>exact ⟨rfl,rfl,rfl,rfl,rfl,rfl⟩
    cases !ia c.b 0 (((nth p.py.ag (hY p.py.ag now me c.a)).N8.length:Int) - 1)
    case true=>exact ⟨rfl,rfl,rfl,rfl,rfl,rfl⟩
    cases c.N0==7
    case true=>exact ⟨rfl,rfl,rfl,rfl,rfl,rfl⟩
    cases !ia c.c 0 999
    case true=>exact ⟨rfl,rfl,rfl,rfl,rfl,rfl⟩
    exact ⟨rfl,rfl,rfl,List.length_set,rfl,rfl⟩
  have g:(fin c p (jb p me now c)).1.NZ.NY.length=p.NZ.NY.length∧(fin c p (jb p me now c)).1.own.length=p.own.length∧(fin c p (jb p me now c)).1.N1.length=p.N1.length∧(fin c p (jb p me now c)).1.py.ag.length=p.py.ag.length∧(fin c p (jb p me now c)).1.py.gc.gQ.length=p.py.gc.gQ.length∧(fin c p (jb p me now c)).1.gR.length=p.gR.length:=by
    unfold fin;cases (jb p me now c).1==0
    · cases (c.N0==1)&&(((jb p me now c).1==6) || ((jb p me now c).1==7))<;>exact ⟨rfl,rfl,rfl,rfl,rfl,rfl⟩
    · simp only [Om];rw [h.1,h.2.1,h.2.2.1,h.2.2.2.2.1,h.2.2.2.2.2];exact ⟨rfl,rfl,rfl,h.2.2.2.1,rfl,rfl⟩
  rw [lr g.1,lr g.2.1,lr g.2.2.1,lr g.2.2.2.1,lr g.2.2.2.2.1,lr g.2.2.2.2.2]
theorem GX {N:Nat} (hN:gS≤N) {p:cd} (hb:ic p≤3000000) (hw:wP p) (me now th:Int) (c:ir):qZ N p me now th c=some (nw p me now th c):=by
  have hB:ic p<gS:=Nat.lt_of_le_of_lt hb (by decide);unfold qZ nw;simp only [sF hN hB hw,k5,qz hN hB,BA hN hB hw,Ok,jR,LA,AX];cases !jd p || (!ia me 0 2 || !ia now 0 1000000)
  case true=>rfl
  cases hc:l7 p now th
  · rfl
  obtain ⟨ok,t0,t9⟩:=u9 hc;have hp:k6 p:=⟨ok,hb,hw⟩;simp only [On,Ol];unfold kg;cases hk:c.N0==1
  case true=>simp only [Om,Mm hN hp me now hk,Ok]
  simp only [Ol];cases (c.N0==2) || (c.N0==3)
  case true=>simp only [Om,Ms hN hp me now hk,Ok]
  simp only [Ol];cases (c.N0==4) || (c.N0==5)
  case true=>simp only [Om,LI hN hp me now hk,Ok]
  simp only [Ol];cases hd:(c.N0==6) || (c.N0==7)
  case true =>
    simp only [Om,IB hN hp me now hk (Ib (by decide) hd),Ok]
    all_goals (rw [BS];rfl)
  simp only [Ol];cases c.N0==8
  case true=>simp only [Om,K4 hN hp me now hk,Ok]
  simp only [Ol];cases (c.N0==9) || ((c.N0==10) || (c.N0==11))
  case true=>simp only [Om,MX hN hp hk,Ok]
  simp only [Ol];cases (c.N0==12) || (c.N0==13)
  case true=>simp only [Om,Mi hN hp me now t0 t9 hk,Ok]
  simp only [Ol];cases c.N0==14
  case true=>simp only [Om,LL hN hp t0 t9 hk,Ok]
  simp only [Ol];cases c.N0==15
  case false=>simp only [Ol,lf (show ((2:Int) != 0)=true from rfl) hk]
  have h6:=hp.b6;unfold vc;simp only [Om,CD h6];cases hi:ia c.a 0 ((p.gR.length:Int) - 1)
  · simp only [Bool.not_false,Om,lf (show ((2:Int) != 0)=true from rfl) hk]
  obtain ⟨h1,h2,h3,_⟩:=HI h6 hi;have hB':(16777216:Nat)=gS:=rfl;have a1:app ([]:List iL) (p.gR.take c.a.toNat)=some (p.gR.take c.a.toNat):=jG (by simp only [List.length_take];omega)
  have a2:app (p.gR.take c.a.toNat) (p.gR.drop (c.a.toNat+1))=some (p.gR.take c.a.toNat++p.gR.drop (c.a.toNat+1)):=by
    unfold app;rw [if_pos (by simp only [List.length_take,List.length_drop];omega)]
  simp only [On,Ol,h1,h2,h3,a1,a2,Ok,uv];rfl
structure rO (p q:cd):Prop where
  sz:ic q≤ic p+300
  w:wP q
  ln:q.py.ag.length=p.py.ag.length
theorem nL {p q:cd} (h1:q.NZ=p.NZ) (h2:q.own=p.own) (h3:q.N1.length=p.N1.length) (h4:iQ hX q.py.ag≤iQ hX p.py.ag+250) (h5:q.py.gc.gQ.length≤p.py.gc.gQ.length+1) (h6:q.gR.length≤p.gR.length) (h7:wA q.py.ag) (h8:q.py.ag.length=p.py.ag.length):rO p q:=by
  refine ⟨?_,h7,h8⟩;unfold ic oD vD jQ;rw [h1,h2];omega
theorem jt {p:cd} (h:k6 p):rO p p:=⟨by omega,h.w,rfl⟩
theorem uA {l:List gP} {k:Nat} {o:gP} (ho:hX o≤100):iQ hX (l.set k o)≤iQ hX l+100:=Nat.le_trans w6 (by omega)
theorem Ax (h:g5) (c i:Int):(mM h c i).ag.length=h.ag.length:=by
  unfold mM tY ou;cases decide (c ≥ 0)
  · rfl
  cases j9 h&&ia i 0 9
  · rfl
  simp only [Om];split
  · simp only [List.length_set]
  · rfl
theorem AL {h:g5} (hw:wA h.ag) (c i:Int):iQ hX (mM h c i).ag=iQ hX h.ag∧wA (mM h c i).ag∧(mM h c i).gc.gQ.length≤h.gc.gQ.length+1:=by
  unfold mM tY;cases decide (c ≥ 0)
  · exact ⟨rfl,hw,Nat.le_succ _⟩
  cases q:j9 h&&ia i 0 9
  · exact ⟨rfl,hw,Nat.le_succ _⟩
  simp only [Oq,iR] at q;have hl:=(mC q.1).len;simp only [Om];refine ⟨?_,?_,xc h i⟩
  · unfold ou;split
    · exact pI q.2.1 (by omega) rfl
    · rfl
  · unfold ou;split
    · exact kr hw (show nB (marked (nth h.ag i) true) from hw (nth h.ag i) (kJ q.2.1 (by omega)))
    · exact hw
theorem K7 {p:cd} (hp:k6 p) (me now:Int) (c:ir):rO p (mE p me now c).2.2:=by
  unfold mE;cases !ia c.b 0 1
  case true=>exact jt hp
  cases q2:i7 p.py.ag now me c.a 0 != 0
  case true=>exact jt hp
  obtain ⟨ar,g0,g9,_,_⟩:=mb (j7 q2);cases (c.N0==2)&&(i7 p.py.ag now me c.c 0 != 0)
  case true=>exact jt hp
  simp only [Ol];generalize (bif c.N0==2 then hY p.py.ag now me c.c else -1)=x;have ho:=n7 ar g0 g9;obtain ⟨a,b,d⟩:=AL (h:=g5.mk (p.py.ag.set (hY p.py.ag now me c.a).toNat (linked (nth p.py.ag (hY p.py.ag now me c.a)) c.b x)) p.py.gc) (kr hp.w (show nB (nth p.py.ag (hY p.py.ag now me c.a)) from hp.w _ (ar.at g0 g9).2)) x x;refine nL rfl rfl rfl ?_ d (Nat.le_refl _) b (by show (mM _ _ _).ag.length=_;rw [Ax];exact List.length_set);refine Nat.le_trans (Nat.le_of_eq a) (Nat.le_trans (uA (by rw [yl];omega)) (by omega))
theorem KY {p:cd} (hp:k6 p) (me now:Int) (c:ir):rO p (mz p me now c).2.2:=by
  unfold mz;cases q2:i7 p.py.ag now me c.a 0 != 0
  case true=>exact jt hp
  obtain ⟨ar,g0,g9,_,_⟩:=mb (j7 q2);cases hY p.py.ag now me c.a==0
  case true=>exact jt hp
  cases (c.N0==4)&&(i7 p.py.ag now me c.b 1 != 0)
  case true=>exact jt hp
  simp only [Ol];generalize (bif c.N0==4 then hY p.py.ag now me c.b else -1)=x;have ho:=n7 ar g0 g9;obtain ⟨a,b,d⟩:=AL (h:=g5.mk (p.py.ag.set (hY p.py.ag now me c.a).toNat (boxed (nth p.py.ag (hY p.py.ag now me c.a)) x)) p.py.gc) (kr hp.w (show nB (nth p.py.ag (hY p.py.ag now me c.a)) from hp.w _ (ar.at g0 g9).2)) x (hY p.py.ag now me c.a);refine nL rfl rfl rfl ?_ d (Nat.le_refl _) b (by show (mM _ _ _).ag.length=_;rw [Ax];exact List.length_set);refine Nat.le_trans (Nat.le_of_eq a) (Nat.le_trans (uA (show hX (nth p.py.ag (hY p.py.ag now me c.a))≤100 by omega)) (by omega))
theorem KP {p:cd} (hp:k6 p) (me now:Int) (c:ir):rO p (jb p me now c).2.2:=by
  unfold jb;cases q2:i7 p.py.ag now me c.a 2 != 0
  case true=>exact jt hp
  obtain ⟨ar,g0,g9,_,_⟩:=mb (j7 q2);cases !ia c.b 0 (((nth p.py.ag (hY p.py.ag now me c.a)).N8.length:Int) - 1)
  case true=>exact jt hp
  cases c.N0==7
  case true=>exact jt hp
  cases !ia c.c 0 999
  case true=>exact jt hp
  have ho:=n7 ar g0 g9;refine nL rfl rfl rfl ?_ (Nat.le_succ _) (Nat.le_refl _) (kr hp.w (show nB (nth p.py.ag (hY p.py.ag now me c.a)) from hp.w _ (ar.at g0 g9).2)) List.length_set;refine Nat.le_trans (uA (o:=written (nth p.py.ag (hY p.py.ag now me c.a)) c.b c.c) ?_) (by omega);unfold hX written at *;simp only [List.length_set];omega
theorem JL {p:cd} (hp:k6 p) (me now:Int) (c:ir):rO p (kz p me now c).2.2:=by
  unfold kz;cases q2:i7 p.py.ag now me c.a 0 != 0
  case true=>exact jt hp
  obtain ⟨ar,g0,g9,_,_⟩:=mb (j7 q2);cases (hY p.py.ag now me c.a==0) || (!ia c.b 1 1000 || decide (i64.wrap ((nth p.py.ag (hY p.py.ag now me c.a)).iw+c.b) > 1000000))
  case true=>exact jt hp
  cases !nm p (nE p (nth p.py.ag (hY p.py.ag now me c.a)).Od) (hJ.mk 0 (i64.wrap ((nth p.py.ag (hY p.py.ag now me c.a)).gE * c.b)) 0)
  case true=>exact jt hp
  have ho:=n7 ar g0 g9;refine nL rfl rfl (kW _ _ _) ?_ (Nat.le_succ _) (Nat.le_refl _) (kr hp.w (show nB (nth p.py.ag (hY p.py.ag now me c.a)) from hp.w _ (ar.at g0 g9).2)) List.length_set;exact Nat.le_trans (uA (show hX (nth p.py.ag (hY p.py.ag now me c.a))≤100 by omega)) (by omega)
theorem Bf {p:cd} (hp:k6 p) {t:List g7} (h:t.length=p.N1.length):rO p (xC p t):=nL rfl rfl h (by show iQ hX p.py.ag≤_;omega) (Nat.le_succ _) (Nat.le_refl _) hp.w rfl
theorem Lk {p:cd} (hp:k6 p) (c:ir):rO p (mL p c).2.2:=by
  unfold mL;cases c.N0==9
  · cases c.N0==10
    · cases !(mQ p.N1 c.a).2
      · exact Bf hp (DB _ _)
      · exact jt hp
    · cases (!ia c.a 0 4 || (!ia c.b 0 4 || (!ia c.c 0 2 || !wU c.d)))
      · cases !(mR p.N1 c.a c.b (lh c.c c.d)).2
        · exact Bf hp (Dw _ _ _ _)
        · exact jt hp
      · exact jt hp
  · cases (!ia c.a 0 4 || !iH (hJ.mk c.b c.c c.d))
    · cases !(ly p.N1 c.a (hJ.mk c.b c.c c.d)).2.2
      · exact Bf hp (Cu _ _ _)
      · exact jt hp
    · exact jt hp
theorem Lb (h:g5) (i:Int):(oo h i).ag.length=h.ag.length:=by
  unfold oo;split
  · simp only [List.length_set]
  · rfl
theorem Lm (l:List gP) (k w b:Int):(xd l k w b).length=l.length:=by
  unfold xd;cases decide (k ≥ 0)&&((nth l k).N9==w)
  · rfl
  · simp only [Om,List.length_set]
theorem K6 {h:g5} (hw:wA h.ag) (i:Int):iQ hX (oo h i).ag=iQ hX h.ag∧wA (oo h i).ag∧(oo h i).gc.gQ.length=h.gc.gQ.length:=by
  unfold oo;split
  · rename_i q;simp only [Oq,iR] at q;have hl:=(mC q.1).len;exact ⟨pI q.2.1.1 (by omega) rfl,kr hw (show nB (nth h.ag i) from hw _ (kJ q.2.1.1 (by omega))),rfl⟩
  · exact ⟨rfl,hw,rfl⟩
theorem K3 {p:cd} (hp:k6 p) (f:Int) (a:hJ):rO p (yg p f a):=nL rfl rfl (kW _ _ _) (by show iQ hX p.py.ag≤_;omega) (Nat.le_succ _) (Nat.le_refl _) hp.w rfl
theorem KI {p:cd} (hp:k6 p) (me now:Int) (c:ir):rO p (l5 p me now c).2.2:=by
  unfold l5;cases q1:rq now c
  case true=>exact jt hp
  cases i7 p.py.ag now me c.b 1 != 0
  case true=>exact jt hp
  cases !nm p c.e (cost c)
  case true=>exact jt hp
  generalize hY p.py.ag now me c.b=box;cases q4:decide ((kG p.py.ag (newObj now box c)).2<0)
  case true=>exact K3 hp _ _
  obtain ⟨j,g,e,ar,hj⟩:=wH q4;simp only [Ol];rw [e];have ho:=yt (now:=now) (box:=box) (wG q1);obtain ⟨a,b,d⟩:=K6 (h:=g5.mk (p.py.ag.set j (ks (newObj now box c) g)) p.py.gc) (kr hp.w (zN (zx _ _ _))) (j:Int);refine nL rfl rfl (kW _ _ _) ?_ (by show (oo _ _).gc.gQ.length≤_;rw [d];exact Nat.le_succ _) (Nat.le_refl _) b (by show (oo _ _).ag.length=_;rw [Lb];exact List.length_set);exact Nat.le_trans (Nat.le_of_eq a) (Nat.le_trans (uA (show hX (newObj now box c)≤100 from ho)) (by omega))
theorem Jk {l:List gP} (h:wA l) {i:Int} (h0:0≤i) (h1:i<(l.length:Int)):nB (nth l i):=h _ (kJ h0 h1)
theorem Mf {l:List gP} (hw:wA l) {k w b:Int} (h:0≤k→k<(l.length:Int)):iQ hX (xd l k w b)=iQ hX l∧wA (xd l k w b):=by
  unfold xd;cases q:decide (k ≥ 0)&&((nth l k).N9==w)
  · exact ⟨rfl,hw⟩
  simp only [Oq,decide_eq_true_eq] at q;have k1:=h q.1
  have w0:nB (waiting (nth l k) 0):=by show (-9223372036854775808:Int)≤0;decide
  have w1:=kr (k:=k.toNat) hw w0
  have k2:k<((l.set k.toNat (waiting (nth l k) 0)).length:Int):=by simp only [List.length_set];exact k1
  simp only [Om];exact ⟨(pI (z:=zR (nth (l.set k.toNat (waiting (nth l k) 0)) k) b) q.1 k2 rfl).trans (pI q.1 k1 rfl),kr w1 (show nB (nth (l.set k.toNat (waiting (nth l k) 0)) k) from Jk w1 q.1 k2)⟩
theorem Ns (n:Int):-9223372036854775808≤i64.wrap n:=by
  simp [IntKind.wrap,IntKind.signed,IntKind.bits];split<;>omega
theorem K1 {p:cd} (hp:k6 p) (me now:Int) {th:Int} (t0:0≤th) (t9:th≤9) (c:ir):rO p (lA p me now th c).2.2:=by
  unfold lA;cases q2:i7 p.py.ag now me c.a 3 != 0
  case true=>exact jt hp
  obtain ⟨ar,g0,g9,_,_⟩:=mb (j7 q2);cases !ia c.b 0 999
  case true=>exact jt hp
  simp only [Ol];generalize hY p.py.ag now me c.a=i at *;have ho:=n7 ar g0 g9;have hl:=ar.len;have hwi:nB (nth p.py.ag i):=hp.w _ (ar.at g0 g9).2
  have qs:∀ q,q.length≤20→hX (oV (nth p.py.ag i) q)≤100:=fun q hq=>by
    unfold hX at ho;unfold hX oV;simp only;omega
  have hq:=xM ho;cases c.N0==12
  · cases ((nth p.py.ag i).N4.length:Int)==0
    case true=>exact jt hp
    have hw1:wA (served p.py.ag i):=kr hp.w hwi;obtain ⟨a,b⟩:=Mf (l:=served p.py.ag i) hw1 (k:=hY (served p.py.ag i) now me (nth (nth p.py.ag i).N4 0).Oj) (w:=i64.wrap (c.a+1)) (b:=c.b) (va (by unfold served;simp only [List.length_set];exact hl));refine nL rfl rfl rfl ?_ (Nat.le_succ _) (Nat.le_refl _) b (by show (xd _ _ _ _).length=_;rw [Lm];exact List.length_set);refine Nat.le_trans (Nat.le_of_eq a) (Nat.le_trans (uA (qs _ (by simp only [List.length_drop];omega))) (by omega))
  · cases decide (((nth p.py.ag i).N4.length:Int) ≥ 2)
    case true=>exact jt hp
    have hw1:wA (asked p.py.ag i me th c):=kr hp.w hwi
    have hl1:(asked p.py.ag i me th c).length=10:=by unfold asked;simp only [List.length_set];exact hl
    have e:iQ hX ((asked p.py.ag i me th c).set th.toNat (waiting (nth (asked p.py.ag i me th c) th) (i64.wrap (c.a+1))))=iQ hX (asked p.py.ag i me th c):=pI t0 (by omega) rfl;refine nL rfl rfl rfl ?_ (Nat.le_succ _) (Nat.le_refl _) (kr hw1 (Ns _)) (by show (List.set _ _ _).length=_;rw [List.length_set,hl1,hl]);refine Nat.le_trans (Nat.le_of_eq e) (Nat.le_trans (uA (qs _ (by simp only [List.length_append,List.length_cons,List.length_nil];omega))) (by omega))
theorem Je {p:cd} (hp:k6 p) (c:ir):rO p (vc p c).2.2:=by
  unfold vc;cases hi:ia c.a 0 ((p.gR.length:Int) - 1)
  · exact jt hp
  · exact nL rfl rfl rfl (by show iQ hX p.py.ag≤_;omega) (Nat.le_succ _) (by show (p.gR.take c.a.toNat++p.gR.drop (c.a.toNat+1)).length≤_;simp only [List.length_append,List.length_take,List.length_drop];omega) hp.w rfl
theorem J4 {p:cd} (hp:k6 p) (me now:Int) {th:Int} (t0:0≤th) (t9:th≤9) (c:ir):rO p (kg p me now th c).2.2:=by
  unfold kg;cases c.N0==1
  case true=>exact KI hp _ _ _
  cases (c.N0==2) || (c.N0==3)
  case true=>exact K7 hp _ _ _
  cases (c.N0==4) || (c.N0==5)
  case true=>exact KY hp _ _ _
  cases (c.N0==6) || (c.N0==7)
  case true=>exact KP hp _ _ _
  cases c.N0==8
  case true=>exact JL hp _ _ _
  cases (c.N0==9) || ((c.N0==10) || (c.N0==11))
  case true=>exact Lk hp _
  cases (c.N0==12) || (c.N0==13)
  case true=>exact K1 hp _ _ t0 t9 _
  cases c.N0==14
  case true=>simp only [Ol,Om,yG];exact jt hp
  cases c.N0==15
  case true=>exact Je hp _
  exact jt hp
theorem K0 {p:cd} (hb:ic p≤3000000) (hw:wP p) (me now th:Int) (c:ir):ic (nw p me now th c).1≤ic p+300∧wP (nw p me now th c).1:=by
  unfold nw;cases !jd p || (!ia me 0 2 || !ia now 0 1000000)
  case true=>exact ⟨Nat.le_add_right _ _,hw⟩
  cases hc:l7 p now th
  · exact ⟨Nat.le_add_right _ _,hw⟩
  obtain ⟨ok,t0,t9⟩:=u9 hc;have hp:k6 p:=⟨ok,hb,hw⟩;simp only [On,Ol];unfold fin;cases (kg p me now th c).1==0
  · cases (c.N0==1)&&(((kg p me now th c).1==6) || ((kg p me now th c).1==7))<;>exact ⟨Nat.le_add_right (ic p) _,hw⟩
  · have h:=J4 hp me now t0 t9 c;exact ⟨h.sz,h.w⟩
theorem Jl {p:cd} (hb:ic p≤3000000) (hw:wP p) (me now th:Int) (c:ir):(nw p me now th c).1.py.ag.length=p.py.ag.length:=by
  unfold nw;cases !jd p || (!ia me 0 2 || !ia now 0 1000000)
  case true=>rfl
  cases hc:l7 p now th
  · rfl
  obtain ⟨ok,t0,t9⟩:=u9 hc;simp only [On,Ol];unfold fin;cases (kg p me now th c).1==0
  · cases (c.N0==1)&&(((kg p me now th c).1==6) || ((kg p me now th c).1==7))<;>rfl
  · exact (J4 ⟨ok,hb,hw⟩ me now t0 t9 c).ln
end Go.Kx
