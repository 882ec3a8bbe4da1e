import Derived.Test.YtlcgibcdiikheaaGreatLTaps
namespace Go.Kx
open Go
open Go.IntKind (i64)
set_option linter.unusedVariables false
set_option linter.unusedSimpArgs false
set_option maxRecDepth 10000
theorem EV (a:ig):ig.mk a.gE a.gV a.hY=a:=rfl
def jf (l:List cd) (now me h kind:Int):Int:=bif nU h then (bif nt h != me then 3 else (bif decide (hO l now me h<0) then 4 else (bif (kind != 0)&&((nth l (hO l now me h)).HA != kind) then 5 else 0))) else 2
theorem wE {l:List cd} {now me h:Int} (q:decide (hO l now me h<0)=false):Ar l∧0≤hO l now me h∧hO l now me h≤9∧(nth l (hO l now me h)).HA ≠ 0:=by
  unfold hO at *;cases hg:xJ l now me h
  · rw [hg] at q;simp at q
  · simp only [HY];unfold xJ at hg;simp only [H3] at hg;obtain ⟨⟨h1,h2,_⟩,h3,_⟩:=hg;obtain ⟨a,b⟩:=yV h2;exact ⟨km.1 h1,a,b,by simpa using h3⟩
theorem np {l:List cd} {now me h k:Int} (q:jf l now me h k=0):Ar l∧0≤hO l now me h∧hO l now me h≤9∧(nth l (hO l now me h)).HA ≠ 0∧(k ≠ 0→(nth l (hO l now me h)).HA=k):=by
  unfold jf at q;cases h1:nU h
  · rw [h1] at q;simp at q
  cases h2:nt h != me
  case true=>rw [h1,h2] at q;simp at q
  cases h3:decide (hO l now me h<0)
  case true=>rw [h1,h2,h3] at q;simp at q
  obtain ⟨a,b,c,d⟩:=wE h3;refine ⟨a,b,c,d,fun hk=>?_⟩;rw [h1,h2,h3] at q;simp only [HY,HX] at q
  have hk':(k != 0)=true:=by simpa using hk
  rw [hk'] at q;cases h4:(nth l (hO l now me h)).HA != k
  · simpa using h4
  · rw [h4] at q;simp at q
theorem vn {N:Nat} (hN:gS≤N) {p:bh} (hb:iL gX p.py.ag<gS) (hw:wP p) (me now h:Int):k6 N p me now h=some (bif jf p.py.ag now me h 0==0 then hO p.py.ag now me h else -1,jf p.py.ag now me h 0):=by
  unfold k6 jf;simp only [oz,rF,qW hN hb hw,HW];rw [show ia h 0 29999=nU h from rfl];cases nU h
  · rfl
  cases nt h != me
  case true=>rfl
  cases q:decide (hO p.py.ag now me h<0)<;>rfl
theorem vF {N:Nat} (hN:gS≤N) {p:bh} (hb:iL gX p.py.ag<gS) (hw:wP p) (me now h:Int) {k:Int} (hk:0<k):lL N p me now h k=some (bif jf p.py.ag now me h k==0 then hO p.py.ag now me h else -1,jf p.py.ag now me h k):=by
  unfold lL;rw [vn hN hb hw];have k1:decide (k > 0)=true:=decide_eq_true hk
  have k2:(k != 0)=true:=by simp;omega
  simp only [HW,k1,HY];unfold jf;rw [k2];cases nU h
  · rfl
  cases nt h != me
  case true=>rfl
  cases q:decide (hO p.py.ag now me h<0)
  case true=>rfl
  obtain ⟨ar,g0,g9,_⟩:=wE q;simp only [bne_self_eq_false,Bool.false_and,H0,HY,HX,beq_self_eq_true,(ar.at g0 g9).1,HW];cases (nth p.py.ag (hO p.py.ag now me h)).HA != k<;>rfl
def sy (h:g7) (i:Int):g7:=bif ki h&&ia i 0 9 then mA h i else h
theorem BF {N:Nat} (hN:gS≤N) {h:g7} (h1:iL gX h.ag<gS) (h2:h.gc.gQ.length+1<gS) (hw:wA h.ag) (i:Int):mw N h i=some (sy h i):=by
  have h2':h.gc.gQ.length<gS:=by omega
  unfold mw sy;simp only [rX hN h1 h2',sI hN h1 h2' hw,ny,HW];cases q:ki h
  · rfl
  cases hi:ia i 0 9
  · rfl
  have ar:=oh q;have hl:=ar.len;rw [iG] at hi;simp only [HZ,HY,HX,HW,Bool.and_self,wh hN hi.1 (show i<(h.ag.length:Int) by omega) h2]
def linked (o:cd) (b x:Int):cd:=cd.mk o.HR o.HA o.box o.HP o.iK o.gE o.HK o.iF o.iE o.HM (o.g5.set b.toNat x) o.HI o.HE
def boxed (o:cd) (b:Int):cd:=cd.mk o.HR o.HA b o.HP o.iK o.gE o.HK o.iF o.iE o.HM o.g5 o.HI o.HE
def written (o:cd) (b x:Int):cd:=cd.mk o.HR o.HA o.box o.HP o.iK o.gE o.HK o.iF o.iE o.HM o.g5 (o.HI.set b.toNat x) o.HE
def nH (o:cd) (q:List jg):cd:=cd.mk o.HR o.HA o.box o.HP o.iK o.gE o.HK o.iF o.iE o.HM o.g5 o.HI q
def waiting (o:cd) (x:Int):cd:=cd.mk o.HR o.HA o.box o.HP o.iK o.gE x o.iF o.iE o.HM o.g5 o.HI o.HE
def ve (o:cd) (x:Int):cd:=cd.mk o.HR o.HA o.box o.HP o.iK o.gE o.HK x o.iE o.HM o.g5 o.HI o.HE
def lu (p:bh) (h:g7):bh:=bh.mk p.HB p.own p.HC h p.gR p.HH p.HJ p.gP p.g8 p.HG
def sU (p:bh) (t:List gW):bh:=bh.mk p.HB p.own t p.py p.gR p.HH p.HJ p.gP p.g8 p.HG
def sX (p:bh) (t:List iS):bh:=bh.mk p.HB p.own p.HC p.py t p.HH p.HJ p.gP p.g8 p.HG
def lY (h:g7) (c i:Int):g7:=bif decide (c ≥ 0) then sy h i else h
def FD (p:bh) (i b x:Int):bh:=lu p (lY (g7.mk (p.py.ag.set i.toNat (linked (nth p.py.ag i) b x)) p.py.gc) x x)
def tP (p:bh) (me now:Int) (c:il):Int×Int×bh :=
  bif !ia c.b 0 1 then (2,0,p) else
  bif jf p.py.ag now me c.a 0 != 0 then (jf p.py.ag now me c.a 0,0,p) else
  bif (c.HA==2)&&(jf p.py.ag now me c.c 0 != 0) then (jf p.py.ag now me c.c 0,0,p) else
  (0,0,FD p (hO p.py.ag now me c.a) c.b (bif c.HA==2 then hO p.py.ag now me c.c else -1))
structure ll (p:bh):Prop where
  ok:jr p=true
  sz:ib p≤3000000
  w:wP p
theorem ll.ar {p:bh} (h:ll p):Ar p.py.ag:=jU h.ok
theorem ll.b4 {p:bh} (h:ll p):iL gX p.py.ag<gS:=(kc (p:=p) (Nat.lt_of_le_of_lt h.sz (by decide))).2.2.2.1
theorem ll.b5 {p:bh} (h:ll p):p.py.gc.gQ.length+1<gS:=by
  have:=h.sz;have hB:(16777216:Nat)=gS:=rfl;unfold ib ks oX at this;omega
theorem oU {l:List cd} (h:Ar l) {i:Int} (h0:0≤i) (h9:i≤9):gX (nth l i)≤12:=sF (h.ok _ (h.at h0 h9).2)
theorem AS {l:List cd} (h:Ar l) {i:Int} {o:cd} (ho:gX o≤100000):iL gX (l.set i.toNat o)<gS:=Fu h ho _
theorem xu (o:cd) (b x:Int):gX (linked o b x)=gX o:=by unfold gX linked;simp only [List.length_set]
theorem zS {l:List Int} (h:l.length=2) {b:Int} (hb:ia b 0 1=true):idx l b=some (nth l b):=by
  rw [iG] at hb;exact je hb.1 (by omega)
theorem kX {a:Int} (h:(a != 0)=false):a=0:=by simpa using h
def z6 (p:bh):bh:=bh.mk p.HB p.own p.HC p.py p.gR p.HH p.HJ p.gP (if 1000000<i64.wrap (p.g8+1) then 1000000 else i64.wrap (p.g8+1)) p.HG
def fin (c:il) (p:bh) (r:Int×Int×bh):bh×hZ:=bif r.1==0 then (r.2.2,hZ.mk 0 r.2.1) else (bif (c.HA==1)&&((r.1==6) || (r.1==7)) then z6 p else p,hZ.mk r.1 0)
theorem qv (c:il) (p q:bh) (v:Int):fin c p (0,v,q)=(q,hZ.mk 0 v):=rfl
theorem kl {c:il} {p q:bh} {k v:Int} (h:(k != 0)=true) (hc:(c.HA==1)=false):fin c p (k,v,q)=(p,hZ.mk k 0):=by
  unfold fin
  have:(k==0)=false:=by simpa [bne] using h
  rw [this,hc];rfl
theorem um {N:Nat} (hN:gS≤N) {h:g7} (h1:iL gX h.ag<gS) (h2:h.gc.gQ.length+1<gS) (hw:wA h.ag) (c i:Int) {β:Type} (f:g7→Option β):((bif decide (c ≥ 0) then ((mw N h i).bind fun y=>some (y.ag,y.gc.HD,y.gc.HL,y.gc.HF,y.gc.gQ)) else (some (h.ag,h.gc.HD,h.gc.HL,h.gc.HF,h.gc.gQ)):Option ((List cd)×Int×Int×Int×(List Int))).bind fun j=>f (g7.mk j.1 (jK.mk j.2.1 j.2.2.1 j.2.2.2.1 j.2.2.2.2)))=f (lY h c i):=by
  unfold lY;rw [BF hN h1 h2 hw];cases decide (c ≥ 0)<;>rfl
theorem E6 {N:Nat} (hN:gS≤N) {p:bh} (hp:ll p) (me now:Int) {c:il} (hc:(c.HA==1)=false):o8 N p me now c=some (fin c p (tP p me now c)):=by
  have h4:=hp.b4;unfold o8 tP;simp only [ke,vn hN h4 hp.w,HW];cases q1:ia c.b 0 1
  · simp only [Bool.not_false,HY,kl (show ((2:Int) != 0)=true from rfl) hc]
  cases q2:jf p.py.ag now me c.a 0 != 0
  case true=>simp only [HZ,HX,HY,kl q2 hc]
  have q2':=kX q2;obtain ⟨ar,g0,g9,gk,_⟩:=np q2';have l2:=xb (ar.ok _ (ar.at g0 g9).2) (by simpa using gk);simp only [HZ,HX,q2',beq_self_eq_true,HY];generalize hO p.py.ag now me c.a=i at *;have hs:∀ x,iL gX (p.py.ag.set i.toNat (linked (nth p.py.ag i) c.b x))<gS:=fun x=>AS ar (by rw [xu];have:=oU ar g0 g9;omega);have hx:∀ x,wA (p.py.ag.set i.toNat (linked (nth p.py.ag i) c.b x)):=fun x=>jL hp.w (show lN (nth p.py.ag i) from hp.w _ (ar.at g0 g9).2);cases hk:c.HA==2
  · simp only [HX,HW,Sum.elim_inl,(ar.at g0 g9).1,zS l2 q1,Bool.false_and,qv];exact um (h:=g7.mk (p.py.ag.set i.toNat (linked (nth p.py.ag i) c.b (-1))) p.py.gc) hN (hs (-1)) hp.b5 (hx (-1)) (-1) (-1) fun y=>some (lu p y,hZ.mk 0 0)
  · cases q3:jf p.py.ag now me c.c 0 != 0
    · have q3':=kX q3;simp only [HY,HX,HW,Sum.elim_inl,(ar.at g0 g9).1,zS l2 q1,Bool.and_false,q3',beq_self_eq_true,qv];generalize hO p.py.ag now me c.c=x;exact um (h:=g7.mk (p.py.ag.set i.toNat (linked (nth p.py.ag i) c.b x)) p.py.gc) hN (hs x) hp.b5 (hx x) x x fun y=>some (lu p y,hZ.mk 0 0)
    · simp only [HY,HX,HW,Sum.elim_inr,Bool.and_true,kl q3 hc]
def EN (p:bh) (i x:Int):bh:=lu p (lY (g7.mk (p.py.ag.set i.toNat (boxed (nth p.py.ag i) x)) p.py.gc) x i)
def tK (p:bh) (me now:Int) (c:il):Int×Int×bh :=
  bif jf p.py.ag now me c.a 0 != 0 then (jf p.py.ag now me c.a 0,0,p) else
  bif hO p.py.ag now me c.a==0 then (5,0,p) else
  bif (c.HA==4)&&(jf p.py.ag now me c.b 1 != 0) then (jf p.py.ag now me c.b 1,0,p) else
  (0,0,EN p (hO p.py.ag now me c.a) (bif c.HA==4 then hO p.py.ag now me c.b else -1))
theorem FF {N:Nat} (hN:gS≤N) {p:bh} (hp:ll p) (me now:Int) {c:il} (hc:(c.HA==1)=false):oZ N p me now c=some (fin c p (tK p me now c)):=by
  have h4:=hp.b4;unfold oZ tK;simp only [vn hN h4 hp.w,vF hN h4 hp.w _ _ _ (show (0:Int)<1 by decide),HW];cases q2:jf p.py.ag now me c.a 0 != 0
  case true=>simp only [HY,kl q2 hc]
  have q2':=kX q2;obtain ⟨ar,g0,g9,gk,_⟩:=np q2';simp only [HZ,HX,q2',beq_self_eq_true,HY];generalize hO p.py.ag now me c.a=i at *;cases hi:i==0
  case true=>simp only [HY,kl (show ((5:Int) != 0)=true from rfl) hc]
  have hs:∀ x,iL gX (p.py.ag.set i.toNat (boxed (nth p.py.ag i) x))<gS:=fun x=>AS ar (by have:gX (nth p.py.ag i)≤12:=oU ar g0 g9;show gX (nth p.py.ag i)≤_;omega);have hx:∀ x,wA (p.py.ag.set i.toNat (boxed (nth p.py.ag i) x)):=fun x=>jL hp.w (show lN (nth p.py.ag i) from hp.w _ (ar.at g0 g9).2);cases hk:c.HA==4
  · simp only [HX,HW,Sum.elim_inl,(ar.at g0 g9).1,Bool.false_and,qv];exact um (h:=g7.mk (p.py.ag.set i.toNat (boxed (nth p.py.ag i) (-1))) p.py.gc) hN (hs (-1)) hp.b5 (hx (-1)) (-1) i fun y=>some (lu p y,hZ.mk 0 0)
  · cases q3:jf p.py.ag now me c.b 1 != 0
    · have q3':=kX q3;simp only [HY,HX,HW,Sum.elim_inl,(ar.at g0 g9).1,Bool.and_false,q3',beq_self_eq_true,qv];generalize hO p.py.ag now me c.b=x;exact um (h:=g7.mk (p.py.ag.set i.toNat (boxed (nth p.py.ag i) x)) p.py.gc) hN (hs x) hp.b5 (hx x) x i fun y=>some (lu p y,hZ.mk 0 0)
    · simp only [HY,HX,HW,Sum.elim_inr,Bool.and_true,kl q3 hc]
def EE (p:bh) (i b x:Int):bh:=mW p (p.py.ag.set i.toNat (written (nth p.py.ag i) b x))
def jh (p:bh) (me now:Int) (c:il):Int×Int×bh :=
  bif jf p.py.ag now me c.a 2 != 0 then (jf p.py.ag now me c.a 2,0,p) else
  bif !ia c.b 0 (((nth p.py.ag (hO p.py.ag now me c.a)).HI.length:Int) - 1) then (2,0,p) else
  bif c.HA==7 then (0,nth (nth p.py.ag (hO p.py.ag now me c.a)).HI c.b,p) else
  bif !ia c.c 0 999 then (2,0,p) else (0,0,EE p (hO p.py.ag now me c.a) c.b c.c)
theorem DM {α:Type} {l:List α} (h:l.length<gS):i64.wrap ((l.length:Int) - 1)=(l.length:Int) - 1:=by
  have:l.length<16777216:=h;exact iC (by omega) (by omega)
theorem CM {o:cd} (h:gX o≤12):o.HI.length<gS:=by
  have hB:(16777216:Nat)=gS:=rfl;unfold gX at h;omega
theorem BK {N:Nat} (hN:gS≤N) {p:bh} (hp:ll p) (me now:Int) {c:il} (hc:(c.HA==1)=false) (hk:(c.HA==6)=!(c.HA==7)):mC N p me now c=some (fin c p (jh p me now c)):=by
  have h4:=hp.b4;unfold mC jh;simp only [vF hN h4 hp.w _ _ _ (show (0:Int)<2 by decide),ke,HW];cases q2:jf p.py.ag now me c.a 2 != 0
  case true=>simp only [HY,kl q2 hc]
  have q2':=kX q2;obtain ⟨ar,g0,g9,gk,_⟩:=np q2';simp only [HZ,HX,q2',beq_self_eq_true,HY];generalize hO p.py.ag now me c.a=i at *;have ho:=oU ar g0 g9;simp only [(ar.at g0 g9).1,HW,DM (CM ho)];cases q3:ia c.b 0 (((nth p.py.ag i).HI.length:Int) - 1)
  · simp only [Bool.not_false,HY,HW,kl (show ((2:Int) != 0)=true from rfl) hc]
  have hd:idx (nth p.py.ag i).HI c.b=some (nth (nth p.py.ag i).HI c.b):=by
    rw [iG] at q3;exact je q3.1 (by omega)
  rw [hk];simp only [HZ,HX,hd,HW];cases c.HA==7
  · cases ia c.c 0 999
    · simp only [Bool.not_false,HY,HX,HW,kl (show ((2:Int) != 0)=true from rfl) hc]
    · rfl
  · rfl
def qA (p:bh) (f:Int) (a:ig):Bool:=(jz p.HC f a).2&&(kj p.gP (ig.mk 0 a.gV 0)).2
def wv (p:bh) (f:Int) (a:ig):bh:=bh.mk p.HB p.own (jz p.HC f a).1 p.py p.gR p.HH p.HJ (kj p.gP (ig.mk 0 a.gV 0)).1 p.g8 p.HG
theorem ll.b3 {p:bh} (h:ll p):p.HC.length<gS:=(kc (p:=p) (Nat.lt_of_le_of_lt h.sz (by decide))).2.2.1
def sC (p:bh) (me now:Int) (c:il):Int×Int×bh :=
  bif jf p.py.ag now me c.a 0 != 0 then (jf p.py.ag now me c.a 0,0,p) else
  bif (hO p.py.ag now me c.a==0) || (!ia c.b 1 1000 || decide (i64.wrap ((nth p.py.ag (hO p.py.ag now me c.a)).iK+c.b) > 1000000)) then (2,0,p) else
  bif !qA p (nv p (nth p.py.ag (hO p.py.ag now me c.a)).HP) (ig.mk 0 (i64.wrap ((nth p.py.ag (hO p.py.ag now me c.a)).gE * c.b)) 0) then (6,0,p) else
  (0,0,mW (wv p (nv p (nth p.py.ag (hO p.py.ag now me c.a)).HP) (ig.mk 0 (i64.wrap ((nth p.py.ag (hO p.py.ag now me c.a)).gE * c.b)) 0)) (p.py.ag.set (hO p.py.ag now me c.a).toNat (Ck (nth p.py.ag (hO p.py.ag now me c.a)) (i64.wrap ((nth p.py.ag (hO p.py.ag now me c.a)).iK+c.b)))))
theorem D6 {N:Nat} (hN:gS≤N) {p:bh} (hp:ll p) (me now:Int) {c:il} (hc:(c.HA==1)=false):nI N p me now c=some (fin c p (sC p me now c)):=by
  have h4:=hp.b4;have h3:=hp.b3;unfold nI sC;simp only [vn hN h4 hp.w,ke,HW];cases q2:jf p.py.ag now me c.a 0 != 0
  case true=>simp only [HY,kl q2 hc]
  have q2':=kX q2;obtain ⟨ar,g0,g9,gk,_⟩:=np q2';simp only [HZ,HX,q2',beq_self_eq_true,HY];generalize hO p.py.ag now me c.a=i at *;simp only [(ar.at g0 g9).1,HW,lB,sr hN,px hN h3,ri];cases ((i==0) || (!ia c.b 1 1000 || decide (i64.wrap ((nth p.py.ag i).iK+c.b) > 1000000)))
  · unfold qA;cases (jz p.HC (nv p (nth p.py.ag i).HP) (ig.mk 0 (i64.wrap ((nth p.py.ag i).gE * c.b)) 0)).2<;>cases (kj p.gP (ig.mk 0 (i64.wrap ((nth p.py.ag i).gE * c.b)) 0)).2<;>simp only [HZ,Bool.not_false,Bool.and_self,Bool.and_false,Bool.false_and,Bool.or_self,Bool.or_true,Bool.true_or,Bool.false_or,Bool.or_false,H0,Bool.and_true,HY,HX,kl (show ((6:Int) != 0)=true from rfl) hc,qv]
    rfl
  · simp only [HY,kl (show ((2:Int) != 0)=true from rfl) hc]
def vo (p:bh) (c:il):Int×Int×bh :=
  bif c.HA==9 then
    bif !ia c.a 0 4 || !iT (ig.mk c.b c.c c.d) then (2,0,p) else
    bif !(mn p.HC c.a (ig.mk c.b c.c c.d)).2.2 then (6,0,p) else (0,(mn p.HC c.a (ig.mk c.b c.c c.d)).2.1,sU p (mn p.HC c.a (ig.mk c.b c.c c.d)).1)
  else bif c.HA==10 then
    bif !ia c.a 0 4 || (!ia c.b 0 4 || (!ia c.c 0 2 || !vr c.d)) then (2,0,p) else
    bif !(nw p.HC c.a c.b (pQ c.c c.d)).2 then (6,0,p) else (0,0,sU p (nw p.HC c.a c.b (pQ c.c c.d)).1)
  else bif !(nX p.HC c.a).2 then (2,0,p) else (0,0,sU p (nX p.HC c.a).1)
theorem Gm {N:Nat} (hN:gS≤N) {p:bh} (hp:ll p) {c:il} (hc:(c.HA==1)=false):pW N p c=some (fin c p (vo p c)):=by
  have h3:=hp.b3;have n2:=fun q=>kl (p:=p) (q:=q) (v:=0) (show ((2:Int) != 0)=true from rfl) hc;have n6:=fun q=>kl (p:=p) (q:=q) (v:=0) (show ((6:Int) != 0)=true from rfl) hc;unfold pW vo;simp only [rh,nq,ke,GF,yk,zA hN h3,Bl hN h3,Bi hN h3,HW,lB];cases c.HA==9
  · cases c.HA==10
    · cases (nX p.HC c.a).2
      · simp only [Bool.not_false,HY,HX,n2]
      · rfl
    · cases (!ia c.a 0 4 || (!ia c.b 0 4 || (!ia c.c 0 2 || !vr c.d)))
      · cases (nw p.HC c.a c.b (pQ c.c c.d)).2
        · simp only [Bool.not_false,HY,HX,n6]
        · rfl
      · simp only [HY,HX,n2]
  · cases (!ia c.a 0 4 || !iT (ig.mk c.b c.c c.d))
    · cases (mn p.HC c.a (ig.mk c.b c.c c.d)).2.2
      · simp only [Bool.not_false,HY,HX,n6]
      · rfl
    · simp only [HY,n2]
def tR (p:bh) (th a:Int):Int×Int×bh :=
  bif a==0 then (0,(nth p.py.ag th).iE,p) else bif a==1 then (0,(nth p.py.ag th).iF,p) else
  bif (a==2) || ((a==3) || (a==4)) then (0,uu (rL p th) (i64.wrap (a - 2)),p) else (2,0,p)
theorem Cx (a b c:Bool):(bif a then some a else bif b then some b else some c)=some (a || (b || c)):=by cases a<;>cases b<;>rfl
theorem GX (a b:Bool):(bif a then some a else some b)=some (a || b):=by cases a<;>rfl
theorem E3 {N:Nat} (hN:gS≤N) {p:bh} (hp:ll p) {th:Int} (h0:0≤th) (h9:th≤9) {c:il} (hc:(c.HA==1)=false):oP N p th c=some (fin c p (tR p th c.a)):=by
  unfold oP tR;obtain ⟨r0,r4⟩:=r8 p (nth p.py.ag th).HP;simp only [(hp.ar.at h0 h9).1,sr hN,uo hp.ok r0 r4,xk,HW,Cx,EV];cases c.a==0
  · cases c.a==1
    · cases (c.a==2) || ((c.a==3) || (c.a==4))
      · simp only [HX,kl (show ((2:Int) != 0)=true from rfl) hc]
      · rfl
    · rfl
  · rfl
theorem yu {l:List cd} {o:cd}:∀ (m:List cd) (k:Nat),qq l o k m=(l, -1)∨∃ (j:Nat) (g:Int),j<k+m.length∧qq l o k m=(l.set j (kJ o g),(j:Int))∧kg (l.set j (kJ o g))=true
  | [],k=>.inl rfl
  | x::m,k=>by
    unfold qq;split
    · rcases yu (l:=l) (o:=o) m (k+1) with h | ⟨j,g,h1,h2,h3⟩
      · exact .inl h
      · exact .inr ⟨j,g,by simp only [List.length_cons];omega,h2,h3⟩
    · unfold putAt;split
      · rename_i q;simp only [H3] at q;exact .inr ⟨k,_,by simp,rfl,q.1⟩
      · exact .inl rfl
theorem uF {l:List cd} {o:cd} (h:decide ((jX l o).2<0)=false):∃ (j:Nat) (g:Int),jX l o=(l.set j (kJ o g),(j:Int))∧Ar (l.set j (kJ o g))∧j<10:=by
  unfold jX at *;cases ha:kg l
  · rw [ha] at h;simp at h
  · rw [ha] at h;simp only [if_true] at *;have hl:=(km.1 ha).len
    rcases yu (l:=l) (o:=o) (l.drop 1) 1 with e | ⟨j,g,h1,h2,h3⟩
    · rw [e] at h;simp at h
    · exact ⟨j,g,h2,km.1 h3,by simp only [List.length_drop] at h1;omega⟩
def newObj (now box:Int) (c:il):cd:=cd.mk 0 c.a box c.e (i64.wrap (now+c.d)) c.c 0 0 0 false [-1, -1] (bif c.a==2 then List.replicate c.c.toNat 0 else []) []
def rf (now:Int) (c:il):Bool:=!ia c.a 1 4 || (!ia c.c 0 8 || (!ia c.d 1 1000 || (decide (i64.wrap (now+c.d) > 1000000) || !ia c.e 0 4)))
def cost (c:il):ig:=ig.mk c.c (i64.wrap (c.c * c.d)) 0
def tA (p:bh) (me now:Int) (c:il):Int×Int×bh :=
  bif rf now c then (2,0,p) else
  bif jf p.py.ag now me c.b 1 != 0 then (jf p.py.ag now me c.b 1,0,p) else
  bif !qA p c.e (cost c) then (6,0,p) else
  bif decide ((jX p.py.ag (newObj now (hO p.py.ag now me c.b) c)).2<0) then (7,0,wv p c.e (cost c)) else
  (0,sP me (jX p.py.ag (newObj now (hO p.py.ag now me c.b) c)).2 (nth (jX p.py.ag (newObj now (hO p.py.ag now me c.b) c)).1 (jX p.py.ag (newObj now (hO p.py.ag now me c.b) c)).2).HR,
    lu (wv p c.e (cost c)) (m8 (g7.mk (jX p.py.ag (newObj now (hO p.py.ag now me c.b) c)).1 p.py.gc) (jX p.py.ag (newObj now (hO p.py.ag now me c.b) c)).2))
theorem uO {now:Int} {c:il} (h:rf now c=false):0≤c.c∧c.c≤8:=by
  unfold rf at h;simp only [Bool.or_eq_false_iff,Bool.not_eq_false'] at h;exact iG.1 h.2.1
theorem xd {now box:Int} {c:il} (h:0≤c.c∧c.c≤8):gX (newObj now box c)≤100:=by
  unfold gX newObj;cases c.a==2
  · simp
  · simp only [HY,List.length_replicate,List.length_cons,List.length_nil];omega
theorem u9 (now box:Int) (c:il):lN (newObj now box c):=by show (-9223372036854775808:Int)≤0;decide
theorem GL {c:Int} (h:0≤c∧c≤8):mk Int c=some (List.replicate c.toNat 0):=by
  have hB:(16777216:Nat)=gS:=rfl;unfold mk;rw [if_pos ⟨h.1,by omega⟩];rfl
theorem Gh (a b c d e:Bool):(bif a then some true else bif b then some true else bif c then some true else bif d then some true else some e)=some (a || (b || (c || (d || e)))):=by cases a<;>cases b<;>cases c<;>cases d<;>rfl
theorem yW (l:List cd) (now me h k:Int):(jf l now me h k==6)=false∧(jf l now me h k==7)=false:=by
  unfold jf;cases nU h
  · exact ⟨rfl,rfl⟩
  cases nt h != me
  case true=>exact ⟨rfl,rfl⟩
  cases decide (hO l now me h<0)
  case true=>exact ⟨rfl,rfl⟩
  cases (k != 0)&&((nth l (hO l now me h)).HA != k)<;>exact ⟨rfl,rfl⟩
theorem yg {c:il} {p q:bh} {k v:Int} (h:(k != 0)=true) (h6:(k==6)=false) (h7:(k==7)=false):fin c p (k,v,q)=(p,hZ.mk k 0):=by
  unfold fin
  have:(k==0)=false:=by simpa [bne] using h
  rw [this];simp only [HX,h6,h7,Bool.or_self,Bool.and_false]
theorem w8 {c:il} {p q:bh} {k v:Int} (h:(k != 0)=true) (h6:((k==6) || (k==7))=true) (hc:(c.HA==1)=true):fin c p (k,v,q)=(z6 p,hZ.mk k 0):=by
  unfold fin
  have:(k==0)=false:=by simpa [bne] using h
  rw [this];simp only [HX,h6,hc,Bool.and_self,HY]
theorem FV {N:Nat} (hN:gS≤N) {p:bh} (hp:ll p) (me now:Int) {c:il} (hc1:(c.HA==1)=true):o5 N p me now c=some (fin c p (tA p me now c)):=by
  have h4:=hp.b4;have h3:=hp.b3;have h5:=hp.b5;unfold o5 tA;simp only [vF hN h4 hp.w _ _ _ (show (0:Int)<1 by decide),ke,rh,HW,Gh];rw [show (!ia c.a 1 4 || (!ia c.c 0 8 || (!ia c.d 1 1000 || (decide (i64.wrap (now+c.d) > 1000000) || !ia c.e 0 4))))=rf now c from rfl];cases q1:rf now c
  case true=>simp only [HY,yg (show ((2:Int) != 0)=true from rfl) rfl rfl]
  have hc:=uO q1;cases q2:jf p.py.ag now me c.b 1 != 0
  case true=>simp only [HY,HX,yg q2 (yW _ _ _ _ _).1 (yW _ _ _ _ _).2]
  have q2':=kX q2;simp only [HX,HY,q2',beq_self_eq_true];generalize hO p.py.ag now me c.b=box;rw [show ig.mk c.c (i64.wrap (c.c * c.d)) 0=cost c from rfl];simp only [px hN h3,ri,HW,lB];rw [show (!(jz p.HC c.e (cost c)).2 || !(kj p.gP (ig.mk 0 (i64.wrap (c.c * c.d)) 0)).2)=!qA p c.e (cost c) by unfold qA;rw [Bool.not_and];rfl];cases q3:qA p c.e (cost c)
  · simp only [Bool.not_false,HY,w8 (show ((6:Int) != 0)=true from rfl) rfl hc1];rfl
  simp only [HZ,HX,HY,GL hc,HW];rw [show (bif c.a==2 then some (List.replicate c.c.toNat 0) else some ([]:List Int))=some (bif c.a==2 then List.replicate c.c.toNat 0 else []) from ti _ _ _];simp only [HW];rw [show cd.mk 0 c.a box c.e (i64.wrap (now+c.d)) c.c 0 0 0 false [-1, -1] (bif c.a==2 then List.replicate c.c.toNat 0 else []) []=newObj now box c from rfl];have ho:=xd (now:=now) (box:=box) hc;rw [vE hN h4 hp.w (o:=newObj now box c) (by omega) (u9 _ _ _)];simp only [HW];cases q4:decide ((jX p.py.ag (newObj now box c)).2<0)
  case true =>
    simp only [HY,w8 (show ((7:Int) != 0)=true from rfl) rfl hc1];rfl
  obtain ⟨j,g,e,ar,hj⟩:=uF q4;have h1:=ar.sz;have hB:(16777216:Nat)=gS:=rfl;have hw':wA (p.py.ag.set j (kJ (newObj now box c) g)):=jL hp.w (sO (u9 _ _ _));rw [e];simp only [HX,(ar.at (i:=(j:Int)) (by omega) (by omega)).1,HW,qX];rw [yQ hN (h:=g7.mk (p.py.ag.set j (kJ (newObj now box c) g)) p.py.gc) (by show iL gX (p.py.ag.set j (kJ (newObj now box c) g))<gS;omega) (by show p.py.gc.gQ.length<gS;omega) hw'];rfl
def sV (l:List cd) (k w b:Int):List cd:=bif decide (k ≥ 0)&&((nth l k).HK==w) then (l.set k.toNat (waiting (nth l k) 0)).set k.toNat (ve (nth (l.set k.toNat (waiting (nth l k) 0)) k) b) else l
theorem Co {l:List cd} {k w b:Int} (h:0≤k→k<(l.length:Int)) {β:Type} (f:List cd→Option β) :
    ((bif decide (k ≥ 0) then ((idx l k).bind fun y=>some (y.HK==w)) else (some false):Option Bool).bind fun j=>(bif j then ((idx l k).bind fun y=>(some (l.set (k:Int).toNat (waiting y 0))).bind fun z=>(idx z k).bind fun x=>(some (z.set (k:Int).toNat (ve x b))).bind fun v=>some v) else (some l):Option (List cd)).bind f)=f (sV l k w b):=by
  unfold sV;cases hk:decide (k ≥ 0)
  · rfl
  have k0:0≤k:=by simpa using hk
  have e:=je k0 (h k0);have e2:∀ z,idx (l.set k.toNat z) k=some (nth (l.set k.toNat z) k):=fun z=>je k0 (by simp only [List.length_set];exact h k0);simp only [HY,e,e2,HW,H0];cases (nth l k).HK==w<;>rfl
def asked (l:List cd) (g me th:Int) (c:il):List cd:=l.set g.toNat (nH (nth l g) ((nth l g).HE++[jg.mk (sP me th (nth l th).HR) c.b]))
def served (l:List cd) (g:Int):List cd:=l.set g.toNat (nH (nth l g) ((nth l g).HE.drop 1))
def tC (p:bh) (me now th:Int) (c:il):Int×Int×bh :=
  bif jf p.py.ag now me c.a 3 != 0 then (jf p.py.ag now me c.a 3,0,p) else
  bif !ia c.b 0 999 then (2,0,p) else
  bif c.HA==12 then
    bif decide (((nth p.py.ag (hO p.py.ag now me c.a)).HE.length:Int) ≥ 2) then (8,0,p) else
    (0,0,mW p ((asked p.py.ag (hO p.py.ag now me c.a) me th c).set th.toNat (waiting (nth (asked p.py.ag (hO p.py.ag now me c.a) me th c) th) (i64.wrap (c.a+1)))))
  else
    bif ((nth p.py.ag (hO p.py.ag now me c.a)).HE.length:Int)==0 then (8,0,p) else
    (0,(nth (nth p.py.ag (hO p.py.ag now me c.a)).HE 0).n,mW p (sV (served p.py.ag (hO p.py.ag now me c.a)) (hO (served p.py.ag (hO p.py.ag now me c.a)) now me (nth (nth p.py.ag (hO p.py.ag now me c.a)).HE 0).HV) (i64.wrap (c.a+1)) c.b))
theorem CZ {α:Type} {l:List α} {k:Nat} (h:k≤l.length):sub l (k:Int) (l.length:Int)=some (l.drop k):=by
  unfold sub;rw [if_pos ⟨by omega,by omega,by omega⟩];simp only [Int.toNat_natCast];rw [List.take_of_length_le (by simp)]
theorem xn {o:cd} (h:gX o≤12):o.HE.length≤12:=by unfold gX at h;omega
theorem B5 {o:cd} {q:List jg} (h:gX o≤12) (hq:q.length≤20):gX (nH o q)≤100000:=by
  unfold gX at h;unfold gX nH;simp only;omega
theorem uy {l:List cd} {now me h:Int} (hl:l.length=10) (h0:0≤hO l now me h):hO l now me h<(l.length:Int):=by
  obtain ⟨_,_,h9,_⟩:=wE (l:=l) (now:=now) (me:=me) (h:=h) (decide_eq_false (by omega));omega
theorem EZ {N:Nat} (hN:gS≤N) {p:bh} (hp:ll p) (me now:Int) {th:Int} (t0:0≤th) (t9:th≤9) {c:il} (hc:(c.HA==1)=false):oQ N p me now th c=some (fin c p (tC p me now th c)):=by
  have h4:=hp.b4;unfold oQ tC;simp only [vF hN h4 hp.w _ _ _ (show (0:Int)<3 by decide),ke,HW];cases q2:jf p.py.ag now me c.a 3 != 0
  case true=>simp only [HY,kl q2 hc]
  have q2':=kX q2;obtain ⟨ar,g0,g9,gk,_⟩:=np q2';simp only [HZ,HX,q2',beq_self_eq_true,HY];generalize hO p.py.ag now me c.a=i at *;have ho:=oU ar g0 g9;have hq:=xn ho;have hl:=ar.len;have hB:(16777216:Nat)=gS:=rfl;simp only [(ar.at g0 g9).1,(ar.at t0 t9).1,HW];cases q3:ia c.b 0 999
  · simp only [Bool.not_false,HY,kl (show ((2:Int) != 0)=true from rfl) hc]
  cases q4:c.HA==12
  · simp only [HZ,Bool.not_false,HX,HY,HW];cases q5:((nth p.py.ag i).HE.length:Int)==0
    case true=>simp only [HY,kl (show ((8:Int) != 0)=true from rfl) hc]
    have l1:1≤(nth p.py.ag i).HE.length:=by rw [beq_eq_false_iff_ne] at q5;omega
    have hsub:sub (nth p.py.ag i).HE 1 ((nth p.py.ag i).HE.length:Int)=some ((nth p.py.ag i).HE.drop 1):=CZ l1;have happ:app ([]:List jg) ((nth p.py.ag i).HE.drop 1)=some ((nth p.py.ag i).HE.drop 1):=jw (by simp only [List.length_drop];omega);have hi0:idx (nth p.py.ag i).HE 0=some (nth (nth p.py.ag i).HE 0):=je (i:=0) (by decide) (by omega);simp only [HX,hsub,happ,hi0,HW,qv];have hs:iL gX (p.py.ag.set i.toNat (nH (nth p.py.ag i) ((nth p.py.ag i).HE.drop 1)))<gS:=AS ar (B5 ho (by simp only [List.length_drop];omega));have hx:wA (p.py.ag.set i.toNat (nH (nth p.py.ag i) ((nth p.py.ag i).HE.drop 1))):=jL hp.w (show lN (nth p.py.ag i) from hp.w _ (ar.at g0 g9).2);have e1:=qW hN hs hx now me (nth (nth p.py.ag i).HE 0).HV;unfold nH at e1;rw [e1,HW];exact Co (l:=served p.py.ag i) (uy (by unfold served;simp only [List.length_set];exact hl)) fun z=>some (mW p z,hZ.mk 0 (nth (nth p.py.ag i).HE 0).n)
  · simp only [HZ,Bool.not_false,HX,HY,HW,lB,Bool.or_false];cases q5:decide (((nth p.py.ag i).HE.length:Int) ≥ 2)
    case true=>simp only [HY,kl (show ((8:Int) != 0)=true from rfl) hc]
    have happ:∀ m,app (nth p.py.ag i).HE [m]=some ((nth p.py.ag i).HE++[m]):=fun m=>kr hq (by omega);have hap0:app ([]:List jg) (nth p.py.ag i).HE=some (nth p.py.ag i).HE:=jw (by omega);have e2:∀ z,idx (p.py.ag.set i.toNat z) th=some (nth (p.py.ag.set i.toNat z) th):=fun z=>je t0 (by simp only [List.length_set];omega);simp only [HX,qX,hap0,happ,e2,HW,qv];rfl
def uw (p:bh) (c:il):Int×Int×bh:=bif !ia c.a 0 ((p.gR.length:Int) - 1) then (2,0,p) else (0,0,sX p (p.gR.take c.a.toNat++p.gR.drop (c.a.toNat+1)))
theorem yI {α:Type} {l:List α} {i j:Int} (h0:0≤i) (h1:i≤j) (h2:j≤(l.length:Int)):sub l i j=some ((l.drop i.toNat).take (j.toNat - i.toNat)):=by
  unfold sub;rw [if_pos ⟨h0,h1,h2⟩]
theorem ll.b6 {p:bh} (h:ll p):p.gR.length<gS:=(kc (p:=p) (Nat.lt_of_le_of_lt h.sz (by decide))).2.2.2.2.2
theorem E0 {α:Type} {l:List α} (hl:l.length<gS) {a:Int} (h:ia a 0 ((l.length:Int) - 1)=true):i64.wrap (a+1)=a+1∧sub l 0 a=some (l.take a.toNat)∧sub l (a+1) (l.length:Int)=some (l.drop (a.toNat+1))∧∃ m,sub l a (a+1)=some m:=by
  have hB:(16777216:Nat)=gS:=rfl;rw [iG] at h;refine ⟨iC (by omega) (by omega),?_,?_,_,yI h.1 (by omega) (by omega)⟩
  · rw [yI (Int.le_refl 0) h.1 (by omega)];simp
  · rw [yI (by omega) (by omega) (Int.le_refl _),show (a+1).toNat=a.toNat+1 by omega,List.take_of_length_le (by simp)]
def oL (p:bh) (me now th:Int) (c:il):Int×Int×bh :=
  bif c.HA==1 then tA p me now c else bif (c.HA==2) || (c.HA==3) then tP p me now c else bif (c.HA==4) || (c.HA==5) then tK p me now c else
  bif (c.HA==6) || (c.HA==7) then jh p me now c else bif c.HA==8 then sC p me now c else bif (c.HA==9) || ((c.HA==10) || (c.HA==11)) then vo p c else
  bif (c.HA==12) || (c.HA==13) then tC p me now th c else bif c.HA==14 then tR p th c.a else bif c.HA==15 then uw p c else (2,0,p)
theorem Ev (p:bh) (th a:Int):(tR p th a).2.2=p:=by
  unfold tR;cases a==0
  · cases a==1
    · cases (a==2) || ((a==3) || (a==4))<;>rfl
    · rfl
  · rfl
theorem Ff {a m n:Int} (hne:m ≠ n) (h:((a==m) || (a==n))=true):(a==m)=!(a==n):=by
  simp only [Bool.or_eq_true,beq_iff_eq] at h
  rcases h with h | h
  · subst h
    have:(a==n)=false:=by rw [beq_eq_false_iff_ne];exact hne
    rw [this];simp
  · subst h
    have:(a==m)=false:=by rw [beq_eq_false_iff_ne];exact fun q=>hne q.symm
    rw [this];simp
theorem sQ {p:bh} {now th:Int} (h:mI p now th=true):jr p=true∧0≤th∧th≤9:=by
  unfold mI at h;simp only [H3] at h;exact vJ (now:=now) (by simpa using h.1)
def mx (p:bh) (me now th:Int) (c:il):bh×hZ :=
  bif !jr p || (!ia me 0 2 || !ia now 0 1000000) then (p,hZ.mk 2 0) else bif !mI p now th then (p,hZ.mk 1 0) else fin c p (oL p me now th c)
theorem xe (p:bh) (me now:Int) (c:il) {β:Type} (x:Option β):kU p.HB.Hz (fin c p (jh p me now c)).1.HB.Hz (kU p.own (fin c p (jh p me now c)).1.own (kU p.HC (fin c p (jh p me now c)).1.HC (kU p.py.ag (fin c p (jh p me now c)).1.py.ag (kU p.py.gc.gQ (fin c p (jh p me now c)).1.py.gc.gQ (kU p.gR (fin c p (jh p me now c)).1.gR x)))))=x:=by
  have h:(jh p me now c).2.2.HB=p.HB∧(jh p me now c).2.2.own=p.own∧(jh p me now c).2.2.HC=p.HC∧(jh p me now c).2.2.py.ag.length=p.py.ag.length∧(jh p me now c).2.2.py.gc=p.py.gc∧(jh p me now c).2.2.gR=p.gR:=by
    unfold jh;cases jf p.py.ag now me c.a 2 != 0
    case true=>exact ⟨rfl,rfl,rfl,rfl,rfl,rfl⟩
    cases !ia c.b 0 (((nth p.py.ag (hO p.py.ag now me c.a)).HI.length:Int) - 1)
    case true=>exact ⟨rfl,rfl,rfl,rfl,rfl,rfl⟩
    cases c.HA==7
    case true=>exact ⟨rfl,rfl,rfl,rfl,rfl,rfl⟩
    cases !ia c.c 0 999
    case true=>exact ⟨rfl,rfl,rfl,rfl,rfl,rfl⟩
    exact ⟨rfl,rfl,rfl,List.length_set,rfl,rfl⟩
  have g:(fin c p (jh p me now c)).1.HB.Hz.length=p.HB.Hz.length∧(fin c p (jh p me now c)).1.own.length=p.own.length∧(fin c p (jh p me now c)).1.HC.length=p.HC.length∧(fin c p (jh p me now c)).1.py.ag.length=p.py.ag.length∧(fin c p (jh p me now c)).1.py.gc.gQ.length=p.py.gc.gQ.length∧(fin c p (jh p me now c)).1.gR.length=p.gR.length:=by
    unfold fin;cases (jh p me now c).1==0
    · cases (c.HA==1)&&(((jh p me now c).1==6) || ((jh p me now c).1==7))<;>exact ⟨rfl,rfl,rfl,rfl,rfl,rfl⟩
    · simp only [HY];rw [h.1,h.2.1,h.2.2.1,h.2.2.2.2.1,h.2.2.2.2.2];exact ⟨rfl,rfl,rfl,h.2.2.2.1,rfl,rfl⟩
  rw [ox g.1,ox g.2.1,ox g.2.2.1,ox g.2.2.2.1,ox g.2.2.2.2.1,ox g.2.2.2.2.2]
theorem AT {N:Nat} (hN:gS≤N) {p:bh} (hb:ib p≤3000000) (hw:wP p) (me now th:Int) (c:il):n7 N p me now th c=some (mx p me now th c):=by
  have hB:ib p<gS:=Nat.lt_of_le_of_lt hb (by decide);unfold n7 mx;simp only [ph hN hB hw,ke,nS hN hB,xv hN hB hw,HW,lB,GX,Cx];cases !jr p || (!ia me 0 2 || !ia now 0 1000000)
  case true=>rfl
  cases hc:mI p now th
  · rfl
  obtain ⟨ok,t0,t9⟩:=sQ hc;have hp:ll p:=⟨ok,hb,hw⟩;simp only [HZ,HX];unfold oL;cases hk:c.HA==1
  case true=>simp only [HY,FV hN hp me now hk,HW]
  simp only [HX];cases (c.HA==2) || (c.HA==3)
  case true=>simp only [HY,E6 hN hp me now hk,HW]
  simp only [HX];cases (c.HA==4) || (c.HA==5)
  case true=>simp only [HY,FF hN hp me now hk,HW]
  simp only [HX];cases hd:(c.HA==6) || (c.HA==7)
  case true =>
    simp only [HY,BK hN hp me now hk (Ff (by decide) hd),HW]
    all_goals (rw [xe];rfl)
  simp only [HX];cases c.HA==8
  case true=>simp only [HY,D6 hN hp me now hk,HW]
  simp only [HX];cases (c.HA==9) || ((c.HA==10) || (c.HA==11))
  case true=>simp only [HY,Gm hN hp hk,HW]
  simp only [HX];cases (c.HA==12) || (c.HA==13)
  case true=>simp only [HY,EZ hN hp me now t0 t9 hk,HW]
  simp only [HX];cases c.HA==14
  case true=>simp only [HY,E3 hN hp t0 t9 hk,HW]
  simp only [HX];cases c.HA==15
  case false=>simp only [HX,kl (show ((2:Int) != 0)=true from rfl) hk]
  have h6:=hp.b6;unfold uw;simp only [HY,DM h6];cases hi:ia c.a 0 ((p.gR.length:Int) - 1)
  · simp only [Bool.not_false,HY,kl (show ((2:Int) != 0)=true from rfl) hk]
  obtain ⟨h1,h2,h3,_⟩:=E0 h6 hi;have hB':(16777216:Nat)=gS:=rfl;have a1:app ([]:List iS) (p.gR.take c.a.toNat)=some (p.gR.take c.a.toNat):=jw (by simp only [List.length_take];omega)
  have a2:app (p.gR.take c.a.toNat) (p.gR.drop (c.a.toNat+1))=some (p.gR.take c.a.toNat++p.gR.drop (c.a.toNat+1)):=by
    unfold app;rw [if_pos (by simp only [List.length_take,List.length_drop];omega)]
  simp only [HZ,HX,h1,h2,h3,a1,a2,HW,qv];rfl
structure oI (p q:bh):Prop where
  sz:ib q≤ib p+300
  w:wP q
  ln:q.py.ag.length=p.py.ag.length
theorem lZ {p q:bh} (h1:q.HB=p.HB) (h2:q.own=p.own) (h3:q.HC.length=p.HC.length) (h4:iL gX q.py.ag≤iL gX p.py.ag+250) (h5:q.py.gc.gQ.length≤p.py.gc.gQ.length+1) (h6:q.gR.length≤p.gR.length) (h7:wA q.py.ag) (h8:q.py.ag.length=p.py.ag.length):oI p q:=by
  refine ⟨?_,h7,h8⟩;unfold ib ks oX jJ;rw [h1,h2];omega
theorem iZ {p:bh} (h:ll p):oI p p:=⟨by omega,h.w,rfl⟩
theorem qF {l:List cd} {k:Nat} {o:cd} (ho:gX o≤100):iL gX (l.set k o)≤iL gX l+100:=Nat.le_trans su (by omega)
theorem vM (h:g7) (c i:Int):(lY h c i).ag.length=h.ag.length:=by
  unfold lY sy mA;cases decide (c ≥ 0)
  · rfl
  cases ki h&&ia i 0 9
  · rfl
  simp only [HY];split
  · simp only [List.length_set]
  · rfl
theorem vv {h:g7} (hw:wA h.ag) (c i:Int):iL gX (lY h c i).ag=iL gX h.ag∧wA (lY h c i).ag∧(lY h c i).gc.gQ.length≤h.gc.gQ.length+1:=by
  unfold lY sy;cases decide (c ≥ 0)
  · exact ⟨rfl,hw,Nat.le_succ _⟩
  cases q:ki h&&ia i 0 9
  · exact ⟨rfl,hw,Nat.le_succ _⟩
  simp only [H3,iG] at q;have hl:=(oh q.1).len;simp only [HY];refine ⟨?_,?_,sY h i⟩
  · unfold mA;split
    · exact mu q.2.1 (by omega) rfl
    · rfl
  · unfold mA;split
    · exact jL hw (show lN (marked (nth h.ag i) true) from hw (nth h.ag i) (kv q.2.1 (by omega)))
    · exact hw
theorem Eb {p:bh} (hp:ll p) (me now:Int) (c:il):oI p (tP p me now c).2.2:=by
  unfold tP;cases !ia c.b 0 1
  case true=>exact iZ hp
  cases q2:jf p.py.ag now me c.a 0 != 0
  case true=>exact iZ hp
  obtain ⟨ar,g0,g9,_,_⟩:=np (kX q2);cases (c.HA==2)&&(jf p.py.ag now me c.c 0 != 0)
  case true=>exact iZ hp
  simp only [HX];generalize (bif c.HA==2 then hO p.py.ag now me c.c else -1)=x;have ho:=oU ar g0 g9;obtain ⟨a,b,d⟩:=vv (h:=g7.mk (p.py.ag.set (hO p.py.ag now me c.a).toNat (linked (nth p.py.ag (hO p.py.ag now me c.a)) c.b x)) p.py.gc) (jL hp.w (show lN (nth p.py.ag (hO p.py.ag now me c.a)) from hp.w _ (ar.at g0 g9).2)) x x;refine lZ rfl rfl rfl ?_ d (Nat.le_refl _) b (by show (lY _ _ _).ag.length=_;rw [vM];exact List.length_set);refine Nat.le_trans (Nat.le_of_eq a) (Nat.le_trans (qF (by rw [xu];omega)) (by omega))
theorem EG {p:bh} (hp:ll p) (me now:Int) (c:il):oI p (tK p me now c).2.2:=by
  unfold tK;cases q2:jf p.py.ag now me c.a 0 != 0
  case true=>exact iZ hp
  obtain ⟨ar,g0,g9,_,_⟩:=np (kX q2);cases hO p.py.ag now me c.a==0
  case true=>exact iZ hp
  cases (c.HA==4)&&(jf p.py.ag now me c.b 1 != 0)
  case true=>exact iZ hp
  simp only [HX];generalize (bif c.HA==4 then hO p.py.ag now me c.b else -1)=x;have ho:=oU ar g0 g9;obtain ⟨a,b,d⟩:=vv (h:=g7.mk (p.py.ag.set (hO p.py.ag now me c.a).toNat (boxed (nth p.py.ag (hO p.py.ag now me c.a)) x)) p.py.gc) (jL hp.w (show lN (nth p.py.ag (hO p.py.ag now me c.a)) from hp.w _ (ar.at g0 g9).2)) x (hO p.py.ag now me c.a);refine lZ rfl rfl rfl ?_ d (Nat.le_refl _) b (by show (lY _ _ _).ag.length=_;rw [vM];exact List.length_set);refine Nat.le_trans (Nat.le_of_eq a) (Nat.le_trans (qF (show gX (nth p.py.ag (hO p.py.ag now me c.a))≤100 by omega)) (by omega))
theorem Es {p:bh} (hp:ll p) (me now:Int) (c:il):oI p (jh p me now c).2.2:=by
  unfold jh;cases q2:jf p.py.ag now me c.a 2 != 0
  case true=>exact iZ hp
  obtain ⟨ar,g0,g9,_,_⟩:=np (kX q2);cases !ia c.b 0 (((nth p.py.ag (hO p.py.ag now me c.a)).HI.length:Int) - 1)
  case true=>exact iZ hp
  cases c.HA==7
  case true=>exact iZ hp
  cases !ia c.c 0 999
  case true=>exact iZ hp
  have ho:=oU ar g0 g9;refine lZ rfl rfl rfl ?_ (Nat.le_succ _) (Nat.le_refl _) (jL hp.w (show lN (nth p.py.ag (hO p.py.ag now me c.a)) from hp.w _ (ar.at g0 g9).2)) List.length_set;refine Nat.le_trans (qF (o:=written (nth p.py.ag (hO p.py.ag now me c.a)) c.b c.c) ?_) (by omega);unfold gX written at *;simp only [List.length_set];omega
theorem CT {p:bh} (hp:ll p) (me now:Int) (c:il):oI p (sC p me now c).2.2:=by
  unfold sC;cases q2:jf p.py.ag now me c.a 0 != 0
  case true=>exact iZ hp
  obtain ⟨ar,g0,g9,_,_⟩:=np (kX q2);cases (hO p.py.ag now me c.a==0) || (!ia c.b 1 1000 || decide (i64.wrap ((nth p.py.ag (hO p.py.ag now me c.a)).iK+c.b) > 1000000))
  case true=>exact iZ hp
  cases !qA p (nv p (nth p.py.ag (hO p.py.ag now me c.a)).HP) (ig.mk 0 (i64.wrap ((nth p.py.ag (hO p.py.ag now me c.a)).gE * c.b)) 0)
  case true=>exact iZ hp
  have ho:=oU ar g0 g9;refine lZ rfl rfl (kC _ _ _) ?_ (Nat.le_succ _) (Nat.le_refl _) (jL hp.w (show lN (nth p.py.ag (hO p.py.ag now me c.a)) from hp.w _ (ar.at g0 g9).2)) List.length_set;exact Nat.le_trans (qF (show gX (nth p.py.ag (hO p.py.ag now me c.a))≤100 by omega)) (by omega)
theorem wR {p:bh} (hp:ll p) {t:List gW} (h:t.length=p.HC.length):oI p (sU p t):=lZ rfl rfl h (by show iL gX p.py.ag≤_;omega) (Nat.le_succ _) (Nat.le_refl _) hp.w rfl
theorem EL {p:bh} (hp:ll p) (c:il):oI p (vo p c).2.2:=by
  unfold vo;cases c.HA==9
  · cases c.HA==10
    · cases !(nX p.HC c.a).2
      · exact wR hp (yO _ _)
      · exact iZ hp
    · cases (!ia c.a 0 4 || (!ia c.b 0 4 || (!ia c.c 0 2 || !vr c.d)))
      · cases !(nw p.HC c.a c.b (pQ c.c c.d)).2
        · exact wR hp (yq _ _ _ _)
        · exact iZ hp
      · exact iZ hp
  · cases (!ia c.a 0 4 || !iT (ig.mk c.b c.c c.d))
    · cases !(mn p.HC c.a (ig.mk c.b c.c c.d)).2.2
      · exact wR hp (xH _ _ _)
      · exact iZ hp
    · exact iZ hp
theorem Ek (h:g7) (i:Int):(m8 h i).ag.length=h.ag.length:=by
  unfold m8;split
  · simp only [List.length_set]
  · rfl
theorem FI (l:List cd) (k w b:Int):(sV l k w b).length=l.length:=by
  unfold sV;cases decide (k ≥ 0)&&((nth l k).HK==w)
  · rfl
  · simp only [HY,List.length_set]
theorem Eo {h:g7} (hw:wA h.ag) (i:Int):iL gX (m8 h i).ag=iL gX h.ag∧wA (m8 h i).ag∧(m8 h i).gc.gQ.length=h.gc.gQ.length:=by
  unfold m8;split
  · rename_i q;simp only [H3,iG] at q;have hl:=(oh q.1).len;exact ⟨mu q.2.1.1 (by omega) rfl,jL hw (show lN (nth h.ag i) from hw _ (kv q.2.1.1 (by omega))),rfl⟩
  · exact ⟨rfl,hw,rfl⟩
theorem Em {p:bh} (hp:ll p) (f:Int) (a:ig):oI p (wv p f a):=lZ rfl rfl (kC _ _ _) (by show iL gX p.py.ag≤_;omega) (Nat.le_succ _) (Nat.le_refl _) hp.w rfl
theorem Eg {p:bh} (hp:ll p) (me now:Int) (c:il):oI p (tA p me now c).2.2:=by
  unfold tA;cases q1:rf now c
  case true=>exact iZ hp
  cases jf p.py.ag now me c.b 1 != 0
  case true=>exact iZ hp
  cases !qA p c.e (cost c)
  case true=>exact iZ hp
  generalize hO p.py.ag now me c.b=box;cases q4:decide ((jX p.py.ag (newObj now box c)).2<0)
  case true=>exact Em hp _ _
  obtain ⟨j,g,e,ar,hj⟩:=uF q4;simp only [HX];rw [e];have ho:=xd (now:=now) (box:=box) (uO q1);obtain ⟨a,b,d⟩:=Eo (h:=g7.mk (p.py.ag.set j (kJ (newObj now box c) g)) p.py.gc) (jL hp.w (sO (u9 _ _ _))) (j:Int);refine lZ rfl rfl (kC _ _ _) ?_ (by show (m8 _ _).gc.gQ.length≤_;rw [d];exact Nat.le_succ _) (Nat.le_refl _) b (by show (m8 _ _).ag.length=_;rw [Ek];exact List.length_set);exact Nat.le_trans (Nat.le_of_eq a) (Nat.le_trans (qF (show gX (newObj now box c)≤100 from ho)) (by omega))
theorem CG {l:List cd} (h:wA l) {i:Int} (h0:0≤i) (h1:i<(l.length:Int)):lN (nth l i):=h _ (kv h0 h1)
theorem ES {l:List cd} (hw:wA l) {k w b:Int} (h:0≤k→k<(l.length:Int)):iL gX (sV l k w b)=iL gX l∧wA (sV l k w b):=by
  unfold sV;cases q:decide (k ≥ 0)&&((nth l k).HK==w)
  · exact ⟨rfl,hw⟩
  simp only [H3,decide_eq_true_eq] at q;have k1:=h q.1
  have w0:lN (waiting (nth l k) 0):=by show (-9223372036854775808:Int)≤0;decide
  have w1:=jL (k:=k.toNat) hw w0
  have k2:k<((l.set k.toNat (waiting (nth l k) 0)).length:Int):=by simp only [List.length_set];exact k1
  simp only [HY];exact ⟨(mu (z:=ve (nth (l.set k.toNat (waiting (nth l k) 0)) k) b) q.1 k2 rfl).trans (mu q.1 k1 rfl),jL w1 (show lN (nth (l.set k.toNat (waiting (nth l k) 0)) k) from CG w1 q.1 k2)⟩
theorem GR (n:Int):-9223372036854775808≤i64.wrap n:=by
  simp [IntKind.wrap,IntKind.signed,IntKind.bits];split<;>omega
theorem Et {p:bh} (hp:ll p) (me now:Int) {th:Int} (t0:0≤th) (t9:th≤9) (c:il):oI p (tC p me now th c).2.2:=by
  unfold tC;cases q2:jf p.py.ag now me c.a 3 != 0
  case true=>exact iZ hp
  obtain ⟨ar,g0,g9,_,_⟩:=np (kX q2);cases !ia c.b 0 999
  case true=>exact iZ hp
  simp only [HX];generalize hO p.py.ag now me c.a=i at *;have ho:=oU ar g0 g9;have hl:=ar.len;have hwi:lN (nth p.py.ag i):=hp.w _ (ar.at g0 g9).2
  have qs:∀ q,q.length≤20→gX (nH (nth p.py.ag i) q)≤100:=fun q hq=>by
    unfold gX at ho;unfold gX nH;simp only;omega
  have hq:=xn ho;cases c.HA==12
  · cases ((nth p.py.ag i).HE.length:Int)==0
    case true=>exact iZ hp
    have hw1:wA (served p.py.ag i):=jL hp.w hwi;obtain ⟨a,b⟩:=ES (l:=served p.py.ag i) hw1 (k:=hO (served p.py.ag i) now me (nth (nth p.py.ag i).HE 0).HV) (w:=i64.wrap (c.a+1)) (b:=c.b) (uy (by unfold served;simp only [List.length_set];exact hl));refine lZ rfl rfl rfl ?_ (Nat.le_succ _) (Nat.le_refl _) b (by show (sV _ _ _ _).length=_;rw [FI];exact List.length_set);refine Nat.le_trans (Nat.le_of_eq a) (Nat.le_trans (qF (qs _ (by simp only [List.length_drop];omega))) (by omega))
  · cases decide (((nth p.py.ag i).HE.length:Int) ≥ 2)
    case true=>exact iZ hp
    have hw1:wA (asked p.py.ag i me th c):=jL hp.w hwi
    have hl1:(asked p.py.ag i me th c).length=10:=by unfold asked;simp only [List.length_set];exact hl
    have e:iL gX ((asked p.py.ag i me th c).set th.toNat (waiting (nth (asked p.py.ag i me th c) th) (i64.wrap (c.a+1))))=iL gX (asked p.py.ag i me th c):=mu t0 (by omega) rfl;refine lZ rfl rfl rfl ?_ (Nat.le_succ _) (Nat.le_refl _) (jL hw1 (GR _)) (by show (List.set _ _ _).length=_;rw [List.length_set,hl1,hl]);refine Nat.le_trans (Nat.le_of_eq e) (Nat.le_trans (qF (qs _ (by simp only [List.length_append,List.length_cons,List.length_nil];omega))) (by omega))
theorem Dk {p:bh} (hp:ll p) (c:il):oI p (uw p c).2.2:=by
  unfold uw;cases hi:ia c.a 0 ((p.gR.length:Int) - 1)
  · exact iZ hp
  · exact lZ rfl rfl rfl (by show iL gX p.py.ag≤_;omega) (Nat.le_succ _) (by show (p.gR.take c.a.toNat++p.gR.drop (c.a.toNat+1)).length≤_;simp only [List.length_append,List.length_take,List.length_drop];omega) hp.w rfl
theorem Du {p:bh} (hp:ll p) (me now:Int) {th:Int} (t0:0≤th) (t9:th≤9) (c:il):oI p (oL p me now th c).2.2:=by
  unfold oL;cases c.HA==1
  case true=>exact Eg hp _ _ _
  cases (c.HA==2) || (c.HA==3)
  case true=>exact Eb hp _ _ _
  cases (c.HA==4) || (c.HA==5)
  case true=>exact EG hp _ _ _
  cases (c.HA==6) || (c.HA==7)
  case true=>exact Es hp _ _ _
  cases c.HA==8
  case true=>exact CT hp _ _ _
  cases (c.HA==9) || ((c.HA==10) || (c.HA==11))
  case true=>exact EL hp _
  cases (c.HA==12) || (c.HA==13)
  case true=>exact Et hp _ _ t0 t9 _
  cases c.HA==14
  case true=>simp only [HX,HY,Ev];exact iZ hp
  cases c.HA==15
  case true=>exact Dk hp _
  exact iZ hp
theorem z5 {p:bh} (hb:ib p≤3000000) (hw:wP p) (me now th:Int) (c:il):ib (mx p me now th c).1≤ib p+300∧wP (mx p me now th c).1:=by
  unfold mx;cases !jr p || (!ia me 0 2 || !ia now 0 1000000)
  case true=>exact ⟨Nat.le_add_right _ _,hw⟩
  cases hc:mI p now th
  · exact ⟨Nat.le_add_right _ _,hw⟩
  obtain ⟨ok,t0,t9⟩:=sQ hc;have hp:ll p:=⟨ok,hb,hw⟩;simp only [HZ,HX];unfold fin;cases (oL p me now th c).1==0
  · cases (c.HA==1)&&(((oL p me now th c).1==6) || ((oL p me now th c).1==7))<;>exact ⟨Nat.le_add_right (ib p) _,hw⟩
  · have h:=Du hp me now t0 t9 c;exact ⟨h.sz,h.w⟩
theorem yp {p:bh} (hb:ib p≤3000000) (hw:wP p) (me now th:Int) (c:il):(mx p me now th c).1.py.ag.length=p.py.ag.length:=by
  unfold mx;cases !jr p || (!ia me 0 2 || !ia now 0 1000000)
  case true=>rfl
  cases hc:mI p now th
  · rfl
  obtain ⟨ok,t0,t9⟩:=sQ hc;simp only [HZ,HX];unfold fin;cases (oL p me now th c).1==0
  · cases (c.HA==1)&&(((oL p me now th c).1==6) || ((oL p me now th c).1==7))<;>rfl
  · exact (Du ⟨ok,hb,hw⟩ me now t0 t9 c).ln
end Go.Kx
