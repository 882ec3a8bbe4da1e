import Derived.Test.YtlcgibcdiikheaaGreatLPay
namespace Go.Kx
open Go
open Go.IntKind (i64)
set_option linter.unusedVariables false
set_option linter.unusedSimpArgs false
set_option maxRecDepth 10000
theorem w5 (p:bh):bh.mk p.Pe p.own p.Pg p.py p.gR p.Pn p.Pp p.cd p.g5 p.Pm=p:=rfl
theorem wF (g:i7):i7.mk g.Ph g.Pr g.Pj g.gQ=g:=rfl
theorem wI (h:g7):g7.mk h.ag h.gc=h:=rfl
theorem MO (a:hO):hO.mk a.gE a.gX a.g8=a:=rfl
def jc (l:List gP) (now me h kind:Int):Int:=bif m8 h then (bif nb h != me then 3 else (bif decide (ib l now me h<0) then 4 else (bif (kind != 0)&&((nth l (ib l now me h)).Pf != kind) then 5 else 0))) else 2
theorem zI {l:List gP} {now me h:Int} (q:decide (ib l now me h<0)=false):Ar l∧0≤ib l now me h∧ib l now me h≤9∧(nth l (ib l now me h)).Pf ≠ 0:=by
  unfold ib at *;cases hg:AV l now me h
  · rw [hg] at q;simp at q
  · simp only [PD];unfold AV at hg;simp only [PG] at hg;obtain ⟨⟨h1,h2,_⟩,h3,_⟩:=hg;obtain ⟨a,b⟩:=Av h2;exact ⟨kl.1 h1,a,b,by simpa using h3⟩
theorem mq {l:List gP} {now me h k:Int} (q:jc l now me h k=0):Ar l∧0≤ib l now me h∧ib l now me h≤9∧(nth l (ib l now me h)).Pf ≠ 0∧(k ≠ 0→(nth l (ib l now me h)).Pf=k):=by
  unfold jc at q;cases h1:m8 h
  · rw [h1] at q;simp at q
  cases h2:nb h != me
  case true=>rw [h1,h2] at q;simp at q
  cases h3:decide (ib l now me h<0)
  case true=>rw [h1,h2,h3] at q;simp at q
  obtain ⟨a,b,c,d⟩:=zI h3;refine ⟨a,b,c,d,fun hk=>?_⟩;rw [h1,h2,h3] at q;simp only [PD,PC] at q
  have hk':(k != 0)=true:=by simpa using hk
  rw [hk'] at q;cases h4:(nth l (ib l now me h)).Pf != k
  · simpa using h4
  · rw [h4] at q;simp at q
theorem xz {N:Nat} (hN:gT≤N) {x:iu} (hb:iQ hY x.Pc.py.ag<gT) (h k:Int):j4 N x h k=some (bif jc x.Pc.py.ag x.Pt x.me h k==0 then ib x.Pc.py.ag x.Pt x.me h else 0,jc x.Pc.py.ag x.Pt x.me h k,x):=by
  unfold j4 jc;simp only [pG,wj,vH hN hb,PB];rw [show ig h 0 29999=m8 h from rfl];cases m8 h
  · rfl
  cases nb h != x.me
  case true=>rfl
  cases q:decide (ib x.Pc.py.ag x.Pt x.me h<0)
  case true=>rfl
  obtain ⟨ar,g0,g9,_⟩:=zI q;simp only [PE,PC,(ar.at g0 g9).1,PB];cases k != 0<;>cases (nth x.Pc.py.ag (ib x.Pc.py.ag x.Pt x.me h)).Pf != k<;>rfl
theorem A8 {N:Nat} (hN:gT≤N) {p:bh} (hb:iQ hY p.py.ag<gT) (hw:wP p) (me now h:Int):mG N p me now h=some (bif jc p.py.ag now me h 0==0 then ib p.py.ag now me h else -1,jc p.py.ag now me h 0):=by
  unfold mG jc;simp only [r9,wq,vF hN hb hw,PB];rw [show ig h 0 29999=m8 h from rfl];cases m8 h
  · rfl
  cases nb h != me
  case true=>rfl
  cases q:decide (ib p.py.ag now me h<0)<;>rfl
theorem AX {N:Nat} (hN:gT≤N) {p:bh} (hb:iQ hY p.py.ag<gT) (hw:wP p) (me now h:Int) {k:Int} (hk:0<k):nh N p me now h k=some (bif jc p.py.ag now me h k==0 then ib p.py.ag now me h else -1,jc p.py.ag now me h k):=by
  unfold nh;rw [A8 hN hb hw];have k1:decide (k > 0)=true:=decide_eq_true hk
  have k2:(k != 0)=true:=by simp;omega
  simp only [PB,k1,PD];unfold jc;rw [k2];cases m8 h
  · rfl
  cases nb h != me
  case true=>rfl
  cases q:decide (ib p.py.ag now me h<0)
  case true=>rfl
  obtain ⟨ar,g0,g9,_⟩:=zI q;simp only [bne_self_eq_false,Bool.false_and,PF,PD,PC,beq_self_eq_true,(ar.at g0 g9).1,PB];cases (nth p.py.ag (ib p.py.ag now me h)).Pf != k<;>rfl
def uH (h:g7) (i:Int):g7:=bif kp h&&ig i 0 9 then n7 h i else h
theorem JS {N:Nat} (hN:gT≤N) {h:g7} (h1:iQ hY h.ag<gT) (h2:h.gc.gQ.length+1<gT) (i:Int):oO N h i=some (uH h i):=by
  have h2':h.gc.gQ.length<gT:=by omega
  unfold oO uH;simp only [vD hN h1 h2',yl hN h1 h2',tg,PB];cases q:kp h
  · rfl
  cases hi:ig i 0 9
  · rfl
  have ar:=mN q;have hl:=ar.len;rw [iW] at hi;simp only [PD,PB,Bool.and_self,Gk hN hi.1 (show i<(h.ag.length:Int) by omega) h2]
theorem Iy {N:Nat} (hN:gT≤N) {h:g7} (h1:iQ hY h.ag<gT) (h2:h.gc.gQ.length+1<gT) (hw:wA h.ag) (i:Int):oH N h i=some (uH h i):=by
  have h2':h.gc.gQ.length<gT:=by omega
  unfold oH uH;simp only [wS hN h1 h2',yq hN h1 h2' hw,qV,PB];cases q:kp h
  · rfl
  cases hi:ig i 0 9
  · rfl
  have ar:=mN q;have hl:=ar.len;rw [iW] at hi;simp only [PE,PD,PC,PB,Bool.and_self,AP hN hi.1 (show i<(h.ag.length:Int) by omega) h2]
def linked (o:gP) (b x:Int):gP:=gP.mk o.Pw o.Pf o.box o.Pu o.iz o.gE o.Pq o.iy o.im o.Ps (o.gZ.set b.toNat x) o.Po o.Pk
def boxed (o:gP) (b:Int):gP:=gP.mk o.Pw o.Pf b o.Pu o.iz o.gE o.Pq o.iy o.im o.Ps o.gZ o.Po o.Pk
def written (o:gP) (b x:Int):gP:=gP.mk o.Pw o.Pf o.box o.Pu o.iz o.gE o.Pq o.iy o.im o.Ps o.gZ (o.Po.set b.toNat x) o.Pk
def oX (o:gP) (q:List iM):gP:=gP.mk o.Pw o.Pf o.box o.Pu o.iz o.gE o.Pq o.iy o.im o.Ps o.gZ o.Po q
def waiting (o:gP) (x:Int):gP:=gP.mk o.Pw o.Pf o.box o.Pu o.iz o.gE x o.iy o.im o.Ps o.gZ o.Po o.Pk
def Ay (o:gP) (x:Int):gP:=gP.mk o.Pw o.Pf o.box o.Pu o.iz o.gE o.Pq x o.im o.Ps o.gZ o.Po o.Pk
def pH (p:bh) (h:g7):bh:=bh.mk p.Pe p.own p.Pg h p.gR p.Pn p.Pp p.cd p.g5 p.Pm
def yi (p:bh) (t:List g6):bh:=bh.mk p.Pe p.own t p.py p.gR p.Pn p.Pp p.cd p.g5 p.Pm
def yp (p:bh) (t:List iB):bh:=bh.mk p.Pe p.own p.Pg p.py t p.Pn p.Pp p.cd p.g5 p.Pm
def mZ (h:g7) (c i:Int):g7:=bif decide (c ≥ 0) then uH h i else h
def MA (p:bh) (i b x:Int):bh:=pH p (mZ (g7.mk (p.py.ag.set i.toNat (linked (nth p.py.ag i) b x)) p.py.gc) x x)
def mO (p:bh) (me now:Int) (c:iA):Int×Int×bh :=
  bif !ig c.b 0 1 then (2,0,p) else
  bif jc p.py.ag now me c.a 0 != 0 then (jc p.py.ag now me c.a 0,0,p) else
  bif (c.Pf==2)&&(jc p.py.ag now me c.c 0 != 0) then (jc p.py.ag now me c.c 0,0,p) else
  (0,0,MA p (ib p.py.ag now me c.a) c.b (bif c.Pf==2 then ib p.py.ag now me c.c else -1))
structure lu (p:bh):Prop where
  ok:jk p=true
  sz:ic p≤3000000
  w:wP p
theorem lu.ar {p:bh} (h:lu p):Ar p.py.ag:=jQ h.ok
theorem lu.b4 {p:bh} (h:lu p):iQ hY p.py.ag<gT:=(jY (p:=p) (Nat.lt_of_le_of_lt h.sz (by decide))).2.2.2.1
theorem lu.b5 {p:bh} (h:lu p):p.py.gc.gQ.length+1<gT:=by
  have:=h.sz;have hB:(16777216:Nat)=gT:=rfl;unfold ic k5 oV at this;omega
theorem oG {l:List gP} (h:Ar l) {i:Int} (h0:0≤i) (h9:i≤9):hY (nth l i)≤12:=yo (h.ok _ (h.at h0 h9).2)
theorem zy {l:List gP} (h:Ar l) {i:Int} {o:gP} (ho:hY o≤100000):iQ hY (l.set i.toNat o)<gT:=KW h ho _
theorem yG (o:gP) (b x:Int):hY (linked o b x)=hY o:=by unfold hY linked;simp only [List.length_set]
theorem zD {l:List Int} (h:l.length=2) {b:Int} (hb:ig b 0 1=true):idx l b=some (nth l b):=by
  rw [iW] at hb;exact i9 hb.1 (by omega)
theorem kj {a:Int} (h:(a != 0)=false):a=0:=by simpa using h
theorem Gm {N:Nat} (hN:gT≤N) {h:g7} (h1:iQ hY h.ag<gT) (h2:h.gc.gQ.length+1<gT) (c i:Int) {β:Type} (f:g7→Option β):(bif decide (c ≥ 0) then (oO N h i).bind f else f h)=f (mZ h c i):=by
  unfold mZ;rw [JS hN h1 h2];cases decide (c ≥ 0)<;>rfl
theorem ND {N:Nat} (hN:gT≤N) {p:bh} (hp:lu p) (me now th:Int) (c:iA):oB N (iu.mk p me now th) c=some ((mO p me now c).1,iu.mk (mO p me now c).2.2 me now th):=by
  have h4:=hp.b4;unfold oB mO;simp only [lQ,xz hN,h4,PB,wF,wI,w5];cases q1:ig c.b 0 1
  · rfl
  cases q2:jc p.py.ag now me c.a 0 != 0
  case true=>rfl
  have q2':=kj q2;obtain ⟨ar,g0,g9,gk,_⟩:=mq q2';have l2:=xa (ar.ok _ (ar.at g0 g9).2) (by simpa using gk);simp only [PE,PC,q2',beq_self_eq_true,PD];generalize ib p.py.ag now me c.a=i at *;have hs:∀ x,iQ hY (p.py.ag.set i.toNat (linked (nth p.py.ag i) c.b x))<gT:=fun x=>zy ar (by rw [yG];have:=oG ar g0 g9;omega);cases hk:c.Pf==2
  · simp only [PC,PB,Sum.elim_inl,(ar.at g0 g9).1,zD l2 q1,Bool.false_and];rfl
  · cases q3:jc p.py.ag now me c.c 0 != 0
    · have q3':=kj q3;simp only [PD,PC,PB,Sum.elim_inl,(ar.at g0 g9).1,zD l2 q1,Bool.and_false,q3',beq_self_eq_true];generalize ib p.py.ag now me c.c=x;exact Gm (h:=g7.mk (p.py.ag.set i.toNat (linked (nth p.py.ag i) c.b x)) p.py.gc) hN (hs x) hp.b5 x x fun y=>some ((0:Int),iu.mk (pH p y) me now th)
    · rfl
def GA (p:bh):bh:=bh.mk p.Pe p.own p.Pg p.py p.gR p.Pn p.Pp p.cd (if 1000000<i64.wrap (p.g5+1) then 1000000 else i64.wrap (p.g5+1)) p.Pm
def fin (c:iA) (p:bh) (r:Int×Int×bh):bh×hX:=bif r.1==0 then (r.2.2,hX.mk 0 r.2.1) else (bif (c.Pf==1)&&((r.1==6) || (r.1==7)) then GA p else p,hX.mk r.1 0)
theorem uT (c:iA) (p q:bh) (v:Int):fin c p (0,v,q)=(q,hX.mk 0 v):=rfl
theorem lB {c:iA} {p q:bh} {k v:Int} (h:(k != 0)=true) (hc:(c.Pf==1)=false):fin c p (k,v,q)=(p,hX.mk k 0):=by
  unfold fin
  have:(k==0)=false:=by simpa [bne] using h
  rw [this,hc];rfl
theorem zr {N:Nat} (hN:gT≤N) {h:g7} (h1:iQ hY h.ag<gT) (h2:h.gc.gQ.length+1<gT) (hw:wA h.ag) (c i:Int) {β:Type} (f:g7→Option β):((bif decide (c ≥ 0) then ((oH N h i).bind fun y=>some (y.ag,y.gc.Ph,y.gc.Pr,y.gc.Pj,y.gc.gQ)) else (some (h.ag,h.gc.Ph,h.gc.Pr,h.gc.Pj,h.gc.gQ)):Option ((List gP)×Int×Int×Int×(List Int))).bind fun j=>f (g7.mk j.1 (i7.mk j.2.1 j.2.2.1 j.2.2.2.1 j.2.2.2.2)))=f (mZ h c i):=by
  unfold mZ;rw [Iy hN h1 h2 hw];cases decide (c ≥ 0)<;>rfl
theorem M9 {N:Nat} (hN:gT≤N) {p:bh} (hp:lu p) (me now:Int) {c:iA} (hc:(c.Pf==1)=false):sv N p me now c=some (fin c p (mO p me now c)):=by
  have h4:=hp.b4;unfold sv mO;simp only [lv,A8 hN h4 hp.w,PB];cases q1:ig c.b 0 1
  · simp only [Bool.not_false,PD,lB (show ((2:Int) != 0)=true from rfl) hc]
  cases q2:jc p.py.ag now me c.a 0 != 0
  case true=>simp only [PE,PC,PD,lB q2 hc]
  have q2':=kj q2;obtain ⟨ar,g0,g9,gk,_⟩:=mq q2';have l2:=xa (ar.ok _ (ar.at g0 g9).2) (by simpa using gk);simp only [PE,PC,q2',beq_self_eq_true,PD];generalize ib p.py.ag now me c.a=i at *;have hs:∀ x,iQ hY (p.py.ag.set i.toNat (linked (nth p.py.ag i) c.b x))<gT:=fun x=>zy ar (by rw [yG];have:=oG ar g0 g9;omega);have hx:∀ x,wA (p.py.ag.set i.toNat (linked (nth p.py.ag i) c.b x)):=fun x=>kD hp.w (show nC (nth p.py.ag i) from hp.w _ (ar.at g0 g9).2);cases hk:c.Pf==2
  · simp only [PC,PB,Sum.elim_inl,(ar.at g0 g9).1,zD l2 q1,Bool.false_and,uT];exact zr (h:=g7.mk (p.py.ag.set i.toNat (linked (nth p.py.ag i) c.b (-1))) p.py.gc) hN (hs (-1)) hp.b5 (hx (-1)) (-1) (-1) fun y=>some (pH p y,hX.mk 0 0)
  · cases q3:jc p.py.ag now me c.c 0 != 0
    · have q3':=kj q3;simp only [PD,PC,PB,Sum.elim_inl,(ar.at g0 g9).1,zD l2 q1,Bool.and_false,q3',beq_self_eq_true,uT];generalize ib p.py.ag now me c.c=x;exact zr (h:=g7.mk (p.py.ag.set i.toNat (linked (nth p.py.ag i) c.b x)) p.py.gc) hN (hs x) hp.b5 (hx x) x x fun y=>some (pH p y,hX.mk 0 0)
    · simp only [PD,PC,PB,Sum.elim_inr,Bool.and_true,lB q3 hc]
def Mx (p:bh) (i x:Int):bh:=pH p (mZ (g7.mk (p.py.ag.set i.toNat (boxed (nth p.py.ag i) x)) p.py.gc) x i)
def mU (p:bh) (me now:Int) (c:iA):Int×Int×bh :=
  bif jc p.py.ag now me c.a 0 != 0 then (jc p.py.ag now me c.a 0,0,p) else
  bif ib p.py.ag now me c.a==0 then (5,0,p) else
  bif (c.Pf==4)&&(jc p.py.ag now me c.b 1 != 0) then (jc p.py.ag now me c.b 1,0,p) else
  (0,0,Mx p (ib p.py.ag now me c.a) (bif c.Pf==4 then ib p.py.ag now me c.b else -1))
theorem MX {N:Nat} (hN:gT≤N) {p:bh} (hp:lu p) (me now th:Int) (c:iA):oc N (iu.mk p me now th) c=some ((mU p me now c).1,iu.mk (mU p me now c).2.2 me now th):=by
  have h4:=hp.b4;unfold oc mU;simp only [xz hN,h4,PB,wF,wI,w5];cases q2:jc p.py.ag now me c.a 0 != 0
  case true=>rfl
  have q2':=kj q2;obtain ⟨ar,g0,g9,gk,_⟩:=mq q2';simp only [PE,PC,q2',beq_self_eq_true,PD];generalize ib p.py.ag now me c.a=i at *;cases hi:i==0
  case true=>rfl
  have hs:∀ x,iQ hY (p.py.ag.set i.toNat (boxed (nth p.py.ag i) x))<gT:=fun x=>zy ar (by have:hY (nth p.py.ag i)≤12:=oG ar g0 g9;show hY (nth p.py.ag i)≤_;omega);cases hk:c.Pf==4
  · simp only [PC,PB,Sum.elim_inl,(ar.at g0 g9).1,Bool.false_and];rfl
  · cases q3:jc p.py.ag now me c.b 1 != 0
    · have q3':=kj q3;simp only [PD,PC,PB,Sum.elim_inl,(ar.at g0 g9).1,Bool.and_false,q3',beq_self_eq_true];generalize ib p.py.ag now me c.b=x;exact Gm (h:=g7.mk (p.py.ag.set i.toNat (boxed (nth p.py.ag i) x)) p.py.gc) hN (hs x) hp.b5 x i fun y=>some ((0:Int),iu.mk (pH p y) me now th)
    · rfl
theorem Nc {N:Nat} (hN:gT≤N) {p:bh} (hp:lu p) (me now:Int) {c:iA} (hc:(c.Pf==1)=false):so N p me now c=some (fin c p (mU p me now c)):=by
  have h4:=hp.b4;unfold so mU;simp only [A8 hN h4 hp.w,AX hN h4 hp.w _ _ _ (show (0:Int)<1 by decide),PB];cases q2:jc p.py.ag now me c.a 0 != 0
  case true=>simp only [PD,lB q2 hc]
  have q2':=kj q2;obtain ⟨ar,g0,g9,gk,_⟩:=mq q2';simp only [PE,PC,q2',beq_self_eq_true,PD];generalize ib p.py.ag now me c.a=i at *;cases hi:i==0
  case true=>simp only [PD,lB (show ((5:Int) != 0)=true from rfl) hc]
  have hs:∀ x,iQ hY (p.py.ag.set i.toNat (boxed (nth p.py.ag i) x))<gT:=fun x=>zy ar (by have:hY (nth p.py.ag i)≤12:=oG ar g0 g9;show hY (nth p.py.ag i)≤_;omega);have hx:∀ x,wA (p.py.ag.set i.toNat (boxed (nth p.py.ag i) x)):=fun x=>kD hp.w (show nC (nth p.py.ag i) from hp.w _ (ar.at g0 g9).2);cases hk:c.Pf==4
  · simp only [PC,PB,Sum.elim_inl,(ar.at g0 g9).1,Bool.false_and,uT];exact zr (h:=g7.mk (p.py.ag.set i.toNat (boxed (nth p.py.ag i) (-1))) p.py.gc) hN (hs (-1)) hp.b5 (hx (-1)) (-1) i fun y=>some (pH p y,hX.mk 0 0)
  · cases q3:jc p.py.ag now me c.b 1 != 0
    · have q3':=kj q3;simp only [PD,PC,PB,Sum.elim_inl,(ar.at g0 g9).1,Bool.and_false,q3',beq_self_eq_true,uT];generalize ib p.py.ag now me c.b=x;exact zr (h:=g7.mk (p.py.ag.set i.toNat (boxed (nth p.py.ag i) x)) p.py.gc) hN (hs x) hp.b5 (hx x) x i fun y=>some (pH p y,hX.mk 0 0)
    · simp only [PD,PC,PB,Sum.elim_inr,Bool.and_true,lB q3 hc]
def Ml (p:bh) (i b x:Int):bh:=nB p (p.py.ag.set i.toNat (written (nth p.py.ag i) b x))
def jf (p:bh) (me now:Int) (c:iA):Int×Int×bh :=
  bif jc p.py.ag now me c.a 2 != 0 then (jc p.py.ag now me c.a 2,0,p) else
  bif !ig c.b 0 (((nth p.py.ag (ib p.py.ag now me c.a)).Po.length:Int) - 1) then (2,0,p) else
  bif c.Pf==7 then (0,nth (nth p.py.ag (ib p.py.ag now me c.a)).Po c.b,p) else
  bif !ig c.c 0 999 then (2,0,p) else (0,0,Ml p (ib p.py.ag now me c.a) c.b c.c)
theorem Dc {α:Type} {l:List α} (h:l.length<gT):i64.wrap ((l.length:Int) - 1)=(l.length:Int) - 1:=by
  have:l.length<16777216:=h;exact jg (by omega) (by omega)
theorem Dv {o:gP} (h:hY o≤12):o.Po.length<gT:=by
  have hB:(16777216:Nat)=gT:=rfl;unfold hY at h;omega
theorem JZ {N:Nat} (hN:gT≤N) {p:bh} (hp:lu p) (me now th:Int) (c:iA):mW N (iu.mk p me now th) c=some ((jf p me now c).1,(jf p me now c).2.1,iu.mk (jf p me now c).2.2 me now th):=by
  have h4:=hp.b4;unfold mW jf;simp only [xz hN,h4,lQ,PB,wF,wI,w5];cases q2:jc p.py.ag now me c.a 2 != 0
  case true=>rfl
  have q2':=kj q2;obtain ⟨ar,g0,g9,gk,_⟩:=mq q2';simp only [PE,PC,q2',beq_self_eq_true,PD];generalize ib p.py.ag now me c.a=i at *;have ho:=oG ar g0 g9;simp only [(ar.at g0 g9).1,PB,Dc (Dv ho)];cases q3:ig c.b 0 (((nth p.py.ag i).Po.length:Int) - 1)
  · rfl
  have hd:idx (nth p.py.ag i).Po c.b=some (nth (nth p.py.ag i).Po c.b):=by
    rw [iW] at q3;exact i9 q3.1 (by omega)
  simp only [PE,PC,hd,PB];cases c.Pf==7
  · cases ig c.c 0 999<;>rfl
  · rfl
theorem Il {N:Nat} (hN:gT≤N) {p:bh} (hp:lu p) (me now:Int) {c:iA} (hc:(c.Pf==1)=false) (hk:(c.Pf==6)=!(c.Pf==7)):o3 N p me now c=some (fin c p (jf p me now c)):=by
  have h4:=hp.b4;unfold o3 jf;simp only [AX hN h4 hp.w _ _ _ (show (0:Int)<2 by decide),lv,PB];cases q2:jc p.py.ag now me c.a 2 != 0
  case true=>simp only [PD,lB q2 hc]
  have q2':=kj q2;obtain ⟨ar,g0,g9,gk,_⟩:=mq q2';simp only [PE,PC,q2',beq_self_eq_true,PD];generalize ib p.py.ag now me c.a=i at *;have ho:=oG ar g0 g9;simp only [(ar.at g0 g9).1,PB,Dc (Dv ho)];cases q3:ig c.b 0 (((nth p.py.ag i).Po.length:Int) - 1)
  · simp only [Bool.not_false,PD,PB,lB (show ((2:Int) != 0)=true from rfl) hc]
  have hd:idx (nth p.py.ag i).Po c.b=some (nth (nth p.py.ag i).Po c.b):=by
    rw [iW] at q3;exact i9 q3.1 (by omega)
  rw [hk];simp only [PE,PC,hd,PB];cases c.Pf==7
  · cases ig c.c 0 999
    · simp only [Bool.not_false,PD,PC,PB,lB (show ((2:Int) != 0)=true from rfl) hc]
    · rfl
  · rfl
def nH (p:bh) (f:Int) (a:hO):Bool:=(jo p.Pg f a).2&&(kt p.cd (hO.mk 0 a.gX 0)).2
def yE (p:bh) (f:Int) (a:hO):bh:=bh.mk p.Pe p.own (jo p.Pg f a).1 p.py p.gR p.Pn p.Pp (kt p.cd (hO.mk 0 a.gX 0)).1 p.g5 p.Pm
theorem JN (p:bh) (f:Int) (a:hO):(yE p f a).py=p.py:=rfl
theorem lu.b3 {p:bh} (h:lu p):p.Pg.length<gT:=(jY (p:=p) (Nat.lt_of_le_of_lt h.sz (by decide))).2.2.1
theorem Lc {N:Nat} (hN:gT≤N) {x:iu} (hB:x.Pc.Pg.length<gT) (f:Int) (a:hO):nt N x f a=some (nH x.Pc f a,bif nH x.Pc f a then iu.mk (yE x.Pc f a) x.me x.Pt x.ir else x):=by
  unfold nt nH;simp only [uV hN hB,Dz,PB,j1];cases (jo x.Pc.Pg f a).2<;>cases (kt x.Pc.cd (hO.mk 0 a.gX 0)).2<;>rfl
def kO (p:bh) (me now:Int) (c:iA):Int×Int×bh :=
  bif jc p.py.ag now me c.a 0 != 0 then (jc p.py.ag now me c.a 0,0,p) else
  bif (ib p.py.ag now me c.a==0) || (!ig c.b 1 1000 || decide (i64.wrap ((nth p.py.ag (ib p.py.ag now me c.a)).iz+c.b) > 1000000)) then (2,0,p) else
  bif !nH p (nN p (nth p.py.ag (ib p.py.ag now me c.a)).Pu) (hO.mk 0 (i64.wrap ((nth p.py.ag (ib p.py.ag now me c.a)).gE * c.b)) 0) then (6,0,p) else
  (0,0,nB (yE p (nN p (nth p.py.ag (ib p.py.ag now me c.a)).Pu) (hO.mk 0 (i64.wrap ((nth p.py.ag (ib p.py.ag now me c.a)).gE * c.b)) 0)) (p.py.ag.set (ib p.py.ag now me c.a).toNat (IF (nth p.py.ag (ib p.py.ag now me c.a)) (i64.wrap ((nth p.py.ag (ib p.py.ag now me c.a)).iz+c.b)))))
theorem Mj {N:Nat} (hN:gT≤N) {p:bh} (hp:lu p) (me now th:Int) (c:iA):nL N (iu.mk p me now th) c=some ((kO p me now c).1,iu.mk (kO p me now c).2.2 me now th):=by
  have h4:=hp.b4;have h3:=hp.b3;unfold nL kO;simp only [xz hN,h4,lQ,PB,wF,wI,w5];cases q2:jc p.py.ag now me c.a 0 != 0
  case true=>rfl
  have q2':=kj q2;obtain ⟨ar,g0,g9,gk,_⟩:=mq q2';simp only [PE,PC,q2',beq_self_eq_true,PD];generalize ib p.py.ag now me c.a=i at *;simp only [(ar.at g0 g9).1,PB,j1,BJ hN,Lc hN,h3];cases ((i==0) || (!ig c.b 1 1000 || decide (i64.wrap ((nth p.py.ag i).iz+c.b) > 1000000)))
  · cases nH p (nN p (nth p.py.ag i).Pu) (hO.mk 0 (i64.wrap ((nth p.py.ag i).gE * c.b)) 0)<;>rfl
  · rfl
theorem Mr {N:Nat} (hN:gT≤N) {p:bh} (hp:lu p) (me now:Int) {c:iA} (hc:(c.Pf==1)=false):rp N p me now c=some (fin c p (kO p me now c)):=by
  have h4:=hp.b4;have h3:=hp.b3;unfold rp kO;simp only [A8 hN h4 hp.w,lv,PB];cases q2:jc p.py.ag now me c.a 0 != 0
  case true=>simp only [PD,lB q2 hc]
  have q2':=kj q2;obtain ⟨ar,g0,g9,gk,_⟩:=mq q2';simp only [PE,PC,q2',beq_self_eq_true,PD];generalize ib p.py.ag now me c.a=i at *;simp only [(ar.at g0 g9).1,PB,j1,xC hN,tw hN h3,wo];cases ((i==0) || (!ig c.b 1 1000 || decide (i64.wrap ((nth p.py.ag i).iz+c.b) > 1000000)))
  · unfold nH;cases (jo p.Pg (nN p (nth p.py.ag i).Pu) (hO.mk 0 (i64.wrap ((nth p.py.ag i).gE * c.b)) 0)).2<;>cases (kt p.cd (hO.mk 0 (i64.wrap ((nth p.py.ag i).gE * c.b)) 0)).2<;>simp only [PE,Bool.not_false,Bool.and_self,Bool.and_false,Bool.false_and,Bool.or_self,Bool.or_true,Bool.true_or,Bool.false_or,Bool.or_false,PF,Bool.and_true,PD,PC,lB (show ((6:Int) != 0)=true from rfl) hc,uT]
    rfl
  · simp only [PD,lB (show ((2:Int) != 0)=true from rfl) hc]
def mV (p:bh) (c:iA):Int×Int×bh :=
  bif c.Pf==9 then
    bif !ig c.a 0 4 || !iN (hO.mk c.b c.c c.d) then (2,0,p) else
    bif !(lM p.Pg c.a (hO.mk c.b c.c c.d)).2.2 then (6,0,p) else (0,(lM p.Pg c.a (hO.mk c.b c.c c.d)).2.1,yi p (lM p.Pg c.a (hO.mk c.b c.c c.d)).1)
  else bif c.Pf==10 then
    bif !ig c.a 0 4 || (!ig c.b 0 4 || (!ig c.c 0 2 || !xA c.d)) then (2,0,p) else
    bif !(m3 p.Pg c.a c.b (lz c.c c.d)).2 then (6,0,p) else (0,0,yi p (m3 p.Pg c.a c.b (lz c.c c.d)).1)
  else bif !(m4 p.Pg c.a).2 then (2,0,p) else (0,0,yi p (m4 p.Pg c.a).1)
theorem Jx {N:Nat} (hN:gT≤N) {p:bh} (hp:lu p) (me now th:Int) (c:iA):mL N (iu.mk p me now th) c=some ((mV p c).1,(mV p c).2.1,iu.mk (mV p c).2.2 me now th):=by
  have h3:=hp.b3;unfold mL mV;simp only [vj,qz,lQ,AU,xW,FW hN h3,GW hN h3,HA hN h3,PB,j1];cases c.Pf==9
  · cases c.Pf==10
    · cases (m4 p.Pg c.a).2<;>rfl
    · cases (!ig c.a 0 4 || (!ig c.b 0 4 || (!ig c.c 0 2 || !xA c.d)))
      · cases (m3 p.Pg c.a c.b (lz c.c c.d)).2<;>rfl
      · rfl
  · cases (!ig c.a 0 4 || !iN (hO.mk c.b c.c c.d))
    · cases (lM p.Pg c.a (hO.mk c.b c.c c.d)).2.2<;>rfl
    · rfl
theorem NZ {N:Nat} (hN:gT≤N) {p:bh} (hp:lu p) {c:iA} (hc:(c.Pf==1)=false):ub N p c=some (fin c p (mV p c)):=by
  have h3:=hp.b3;have n2:=fun q=>lB (p:=p) (q:=q) (v:=0) (show ((2:Int) != 0)=true from rfl) hc;have n6:=fun q=>lB (p:=p) (q:=q) (v:=0) (show ((6:Int) != 0)=true from rfl) hc;unfold ub mV;simp only [vT,qt,lv,Ol,Di,Fb hN h3,H8 hN h3,H3 hN h3,PB,j1];cases c.Pf==9
  · cases c.Pf==10
    · cases (m4 p.Pg c.a).2
      · simp only [Bool.not_false,PD,PC,n2]
      · rfl
    · cases (!ig c.a 0 4 || (!ig c.b 0 4 || (!ig c.c 0 2 || !xA c.d)))
      · cases (m3 p.Pg c.a c.b (lz c.c c.d)).2
        · simp only [Bool.not_false,PD,PC,n6]
        · rfl
      · simp only [PD,PC,n2]
  · cases (!ig c.a 0 4 || !iN (hO.mk c.b c.c c.d))
    · cases (lM p.Pg c.a (hO.mk c.b c.c c.d)).2.2
      · simp only [Bool.not_false,PD,PC,n6]
      · rfl
    · simp only [PD,n2]
def tU (p:bh) (th a:Int):Int×Int×bh :=
  bif a==0 then (0,(nth p.py.ag th).im,p) else bif a==1 then (0,(nth p.py.ag th).iy,p) else
  bif (a==2) || ((a==3) || (a==4)) then (0,kM (s6 p th) (i64.wrap (a - 2)),p) else (2,0,p)
theorem A4 (a b c:Bool):(bif a then some a else bif b then some b else some c)=some (a || (b || c)):=by cases a<;>cases b<;>rfl
theorem M4 (a b:Bool):(bif a then some a else some b)=some (a || b):=by cases a<;>rfl
theorem Nb {N:Nat} (hN:gT≤N) {p:bh} (hp:lu p) (me now:Int) {th:Int} (h0:0≤th) (h9:th≤9) (a:Int):oE N (iu.mk p me now th) a=some ((tU p th a).1,(tU p th a).2.1,iu.mk (tU p th a).2.2 me now th):=by
  unfold oE tU;simp only [(hp.ar.at h0 h9).1,zH hN hp.ok h0 h9,Cg,PB,A4];cases a==0
  · cases a==1
    · cases (a==2) || ((a==3) || (a==4))<;>rfl
    · rfl
  · rfl
theorem Nv {N:Nat} (hN:gT≤N) {p:bh} (hp:lu p) {th:Int} (h0:0≤th) (h9:th≤9) {c:iA} (hc:(c.Pf==1)=false):sB N p th c=some (fin c p (tU p th c.a)):=by
  unfold sB tU;obtain ⟨r0,r4⟩:=vf p (nth p.py.ag th).Pu;simp only [(hp.ar.at h0 h9).1,xC hN,xH hp.ok r0 r4,Ca,PB,A4,MO];cases c.a==0
  · cases c.a==1
    · cases (c.a==2) || ((c.a==3) || (c.a==4))
      · simp only [PC,lB (show ((2:Int) != 0)=true from rfl) hc]
      · rfl
    · rfl
  · rfl
theorem Dl {l:List gP} {o:gP}:∀ (m:List gP) (k:Nat),vL l o k m=(l, -1)∨∃ (j:Nat) (g:Int),j<k+m.length∧vL l o k m=(l.set j (kH o g),(j:Int))∧jX (l.set j (kH o g))=true
  | [],k=>.inl rfl
  | x::m,k=>by
    unfold vL;split
    · rcases Dl (l:=l) (o:=o) m (k+1) with h | ⟨j,g,h1,h2,h3⟩
      · exact .inl h
      · exact .inr ⟨j,g,by simp only [List.length_cons];omega,h2,h3⟩
    · unfold putAt;split
      · rename_i q;simp only [PG] at q;exact .inr ⟨k,_,by simp,rfl,q.1⟩
      · exact .inl rfl
theorem xd {l:List gP} {o:gP} (h:decide ((kT l o).2<0)=false):∃ (j:Nat) (g:Int),kT l o=(l.set j (kH o g),(j:Int))∧Ar (l.set j (kH o g))∧j<10:=by
  unfold kT at *;cases ha:jX l
  · rw [ha] at h;simp at h
  · rw [ha] at h;simp only [if_true] at *;have hl:=(kl.1 ha).len
    rcases Dl (l:=l) (o:=o) (l.drop 1) 1 with e | ⟨j,g,h1,h2,h3⟩
    · rw [e] at h;simp at h
    · exact ⟨j,g,h2,kl.1 h3,by simp only [List.length_drop] at h1;omega⟩
def newObj (now box:Int) (c:iA):gP:=gP.mk 0 c.a box c.e (i64.wrap (now+c.d)) c.c 0 0 0 false [-1, -1] (bif c.a==2 then List.replicate c.c.toNat 0 else []) []
def rY (now:Int) (c:iA):Bool:=!ig c.a 1 4 || (!ig c.c 0 8 || (!ig c.d 1 1000 || (decide (i64.wrap (now+c.d) > 1000000) || !ig c.e 0 4)))
def cost (c:iA):hO:=hO.mk c.c (i64.wrap (c.c * c.d)) 0
def mj (p:bh) (me now:Int) (c:iA):Int×Int×bh :=
  bif rY now c then (2,0,p) else
  bif jc p.py.ag now me c.b 1 != 0 then (jc p.py.ag now me c.b 1,0,p) else
  bif !nH p c.e (cost c) then (6,0,p) else
  bif decide ((kT p.py.ag (newObj now (ib p.py.ag now me c.b) c)).2<0) then (7,0,yE p c.e (cost c)) else
  (0,uw me (kT p.py.ag (newObj now (ib p.py.ag now me c.b) c)).2 (nth (kT p.py.ag (newObj now (ib p.py.ag now me c.b) c)).1 (kT p.py.ag (newObj now (ib p.py.ag now me c.b) c)).2).Pw,
    pH (yE p c.e (cost c)) (oC (g7.mk (kT p.py.ag (newObj now (ib p.py.ag now me c.b) c)).1 p.py.gc) (kT p.py.ag (newObj now (ib p.py.ag now me c.b) c)).2))
theorem xe {now:Int} {c:iA} (h:rY now c=false):0≤c.c∧c.c≤8:=by
  unfold rY at h;simp only [Bool.or_eq_false_iff,Bool.not_eq_false'] at h;exact iW.1 h.2.1
theorem zf {now box:Int} {c:iA} (h:0≤c.c∧c.c≤8):hY (newObj now box c)≤100:=by
  unfold hY newObj;cases c.a==2
  · simp
  · simp only [PD,List.length_replicate,List.length_cons,List.length_nil];omega
theorem Aj (now box:Int) (c:iA):nC (newObj now box c):=by show (-9223372036854775808:Int)≤0;decide
theorem MK {c:Int} (h:0≤c∧c≤8):mk Int c=some (List.replicate c.toNat 0):=by
  have hB:(16777216:Nat)=gT:=rfl;unfold mk;rw [if_pos ⟨h.1,by omega⟩];rfl
theorem Lb (a b c d e:Bool):(bif a then some true else bif b then some true else bif c then some true else bif d then some true else some e)=some (a || (b || (c || (d || e)))):=by cases a<;>cases b<;>cases c<;>cases d<;>rfl
theorem M7 {N:Nat} (hN:gT+1≤N) {p:bh} (hp:lu p) (me now th:Int) (c:iA):ox N (iu.mk p me now th) c=some ((mj p me now c).1,(mj p me now c).2.1,iu.mk (mj p me now c).2.2 me now th):=by
  have hN':gT≤N:=Nat.le_of_succ_le hN;have h4:=hp.b4;have h3:=hp.b3;have h5:=hp.b5;unfold ox mj;simp only [xz hN',h4,lQ,vj,PB,wF,wI,w5,Lb];rw [show (!ig c.a 1 4 || (!ig c.c 0 8 || (!ig c.d 1 1000 || (decide (i64.wrap (now+c.d) > 1000000) || !ig c.e 0 4))))=rY now c from rfl];cases q1:rY now c
  case true=>rfl
  have hc:=xe q1;cases q2:jc p.py.ag now me c.b 1 != 0
  case true=>rfl
  have q2':=kj q2;simp only [PC,PD,q2',beq_self_eq_true];generalize ib p.py.ag now me c.b=box;rw [show hO.mk c.c (i64.wrap (c.c * c.d)) 0=cost c from rfl];simp only [Lc hN' (x:=iu.mk p me now th) h3,PB];cases q3:nH p c.e (cost c)
  · rfl
  simp only [PE,PC,PD,MK hc,PB,JN];rw [show (bif c.a==2 then some (List.replicate c.c.toNat 0) else some ([]:List Int))=some (bif c.a==2 then List.replicate c.c.toNat 0 else []) from pD _ _ _];simp only [PB];rw [show gP.mk 0 c.a box c.e (i64.wrap (now+c.d)) c.c 0 0 0 false [-1, -1] (bif c.a==2 then List.replicate c.c.toNat 0 else []) []=newObj now box c from rfl];have ho:=zf (now:=now) (box:=box) hc;rw [AH hN h4 (o:=newObj now box c) (by omega)];simp only [PB];cases q4:decide ((kT p.py.ag (newObj now box c)).2<0)
  case true=>rfl
  obtain ⟨j,g,e,ar,hj⟩:=xd q4;have h1:=ar.sz;have hB:(16777216:Nat)=gT:=rfl;rw [e];simp only [PC,(ar.at (i:=(j:Int)) (by omega) (by omega)).1,PB,AJ];rw [DB hN' (h:=g7.mk (p.py.ag.set j (kH (newObj now box c) g)) p.py.gc) (by show iQ hY (p.py.ag.set j (kH (newObj now box c) g))<gT;omega) (by show p.py.gc.gQ.length<gT;omega)];rfl
theorem EE (l:List gP) (now me h k:Int):(jc l now me h k==6)=false∧(jc l now me h k==7)=false:=by
  unfold jc;cases m8 h
  · exact ⟨rfl,rfl⟩
  cases nb h != me
  case true=>exact ⟨rfl,rfl⟩
  cases decide (ib l now me h<0)
  case true=>exact ⟨rfl,rfl⟩
  cases (k != 0)&&((nth l (ib l now me h)).Pf != k)<;>exact ⟨rfl,rfl⟩
theorem DX {c:iA} {p q:bh} {k v:Int} (h:(k != 0)=true) (h6:(k==6)=false) (h7:(k==7)=false):fin c p (k,v,q)=(p,hX.mk k 0):=by
  unfold fin
  have:(k==0)=false:=by simpa [bne] using h
  rw [this];simp only [PC,h6,h7,Bool.or_self,Bool.and_false]
theorem Cc {c:iA} {p q:bh} {k v:Int} (h:(k != 0)=true) (h6:((k==6) || (k==7))=true) (hc:(c.Pf==1)=true):fin c p (k,v,q)=(GA p,hX.mk k 0):=by
  unfold fin
  have:(k==0)=false:=by simpa [bne] using h
  rw [this];simp only [PC,h6,hc,Bool.and_self,PD]
theorem MD {N:Nat} (hN:gT≤N) {p:bh} (hp:lu p) (me now:Int) {c:iA} (hc1:(c.Pf==1)=true):sr N p me now c=some (fin c p (mj p me now c)):=by
  have h4:=hp.b4;have h3:=hp.b3;have h5:=hp.b5;unfold sr mj;simp only [AX hN h4 hp.w _ _ _ (show (0:Int)<1 by decide),lv,vT,PB,Lb];rw [show (!ig c.a 1 4 || (!ig c.c 0 8 || (!ig c.d 1 1000 || (decide (i64.wrap (now+c.d) > 1000000) || !ig c.e 0 4))))=rY now c from rfl];cases q1:rY now c
  case true=>simp only [PD,DX (show ((2:Int) != 0)=true from rfl) rfl rfl]
  have hc:=xe q1;cases q2:jc p.py.ag now me c.b 1 != 0
  case true=>simp only [PD,PC,DX q2 (EE _ _ _ _ _).1 (EE _ _ _ _ _).2]
  have q2':=kj q2;simp only [PC,PD,q2',beq_self_eq_true];generalize ib p.py.ag now me c.b=box;rw [show hO.mk c.c (i64.wrap (c.c * c.d)) 0=cost c from rfl];simp only [tw hN h3,wo,PB,j1];rw [show (!(jo p.Pg c.e (cost c)).2 || !(kt p.cd (hO.mk 0 (i64.wrap (c.c * c.d)) 0)).2)=!nH p c.e (cost c) by unfold nH;rw [Bool.not_and];rfl];cases q3:nH p c.e (cost c)
  · simp only [Bool.not_false,PD,Cc (show ((6:Int) != 0)=true from rfl) rfl hc1];rfl
  simp only [PE,PC,PD,MK hc,PB];rw [show (bif c.a==2 then some (List.replicate c.c.toNat 0) else some ([]:List Int))=some (bif c.a==2 then List.replicate c.c.toNat 0 else []) from pD _ _ _];simp only [PB];rw [show gP.mk 0 c.a box c.e (i64.wrap (now+c.d)) c.c 0 0 0 false [-1, -1] (bif c.a==2 then List.replicate c.c.toNat 0 else []) []=newObj now box c from rfl];have ho:=zf (now:=now) (box:=box) hc;rw [Bn hN h4 hp.w (o:=newObj now box c) (by omega) (Aj _ _ _)];simp only [PB];cases q4:decide ((kT p.py.ag (newObj now box c)).2<0)
  case true =>
    simp only [PD,Cc (show ((7:Int) != 0)=true from rfl) rfl hc1];rfl
  obtain ⟨j,g,e,ar,hj⟩:=xd q4;have h1:=ar.sz;have hB:(16777216:Nat)=gT:=rfl;have hw':wA (p.py.ag.set j (kH (newObj now box c) g)):=kD hp.w (At (Aj _ _ _));rw [e];simp only [PC,(ar.at (i:=(j:Int)) (by omega) (by omega)).1,PB,A1];rw [Er hN (h:=g7.mk (p.py.ag.set j (kH (newObj now box c) g)) p.py.gc) (by show iQ hY (p.py.ag.set j (kH (newObj now box c) g))<gT;omega) (by show p.py.gc.gQ.length<gT;omega) hw'];rfl
def xN (l:List gP) (k w b:Int):List gP:=bif decide (k ≥ 0)&&((nth l k).Pq==w) then (l.set k.toNat (waiting (nth l k) 0)).set k.toNat (Ay (nth (l.set k.toNat (waiting (nth l k) 0)) k) b) else l
theorem Ce {l:List gP} {k w b:Int} (h:0≤k→k<(l.length:Int)) {β:Type} (f:List gP→Option β) :
    ((bif decide (k ≥ 0) then ((idx l k).bind fun y=>some (y.Pq==w)) else (some false):Option Bool).bind fun j=>(bif j then ((idx l k).bind fun y=>(some (l.set (k:Int).toNat (waiting y 0))).bind fun z=>(idx z k).bind fun x=>(some (z.set (k:Int).toNat (Ay x b))).bind fun v=>some v) else (some l):Option (List gP)).bind f)=f (xN l k w b):=by
  unfold xN;cases hk:decide (k ≥ 0)
  · rfl
  have k0:0≤k:=by simpa using hk
  have e:=i9 k0 (h k0);have e2:∀ z,idx (l.set k.toNat z) k=some (nth (l.set k.toNat z) k):=fun z=>i9 k0 (by simp only [List.length_set];exact h k0);simp only [PD,e,e2,PB,PF];cases (nth l k).Pq==w<;>rfl
def asked (l:List gP) (g me th:Int) (c:iA):List gP:=l.set g.toNat (oX (nth l g) ((nth l g).Pk++[iM.mk (uw me th (nth l th).Pw) c.b]))
def served (l:List gP) (g:Int):List gP:=l.set g.toNat (oX (nth l g) ((nth l g).Pk.drop 1))
def lL (p:bh) (me now th:Int) (c:iA):Int×Int×bh :=
  bif jc p.py.ag now me c.a 3 != 0 then (jc p.py.ag now me c.a 3,0,p) else
  bif !ig c.b 0 999 then (2,0,p) else
  bif c.Pf==12 then
    bif decide (((nth p.py.ag (ib p.py.ag now me c.a)).Pk.length:Int) ≥ 2) then (8,0,p) else
    (0,0,nB p ((asked p.py.ag (ib p.py.ag now me c.a) me th c).set th.toNat (waiting (nth (asked p.py.ag (ib p.py.ag now me c.a) me th c) th) (i64.wrap (c.a+1)))))
  else
    bif ((nth p.py.ag (ib p.py.ag now me c.a)).Pk.length:Int)==0 then (8,0,p) else
    (0,(nth (nth p.py.ag (ib p.py.ag now me c.a)).Pk 0).n,nB p (xN (served p.py.ag (ib p.py.ag now me c.a)) (ib (served p.py.ag (ib p.py.ag now me c.a)) now me (nth (nth p.py.ag (ib p.py.ag now me c.a)).Pk 0).PA) (i64.wrap (c.a+1)) c.b))
theorem ES {α:Type} {l:List α} {k:Nat} (h:k≤l.length):sub l (k:Int) (l.length:Int)=some (l.drop k):=by
  unfold sub;rw [if_pos ⟨by omega,by omega,by omega⟩];simp only [Int.toNat_natCast];rw [List.take_of_length_le (by simp)]
theorem yJ {o:gP} (h:hY o≤12):o.Pk.length≤12:=by unfold hY at h;omega
theorem CE {o:gP} {q:List iM} (h:hY o≤12) (hq:q.length≤20):hY (oX o q)≤100000:=by
  unfold hY at h;unfold hY oX;simp only;omega
theorem vO {l:List gP} {now me h:Int} (hl:l.length=10) (h0:0≤ib l now me h):ib l now me h<(l.length:Int):=by
  obtain ⟨_,_,h9,_⟩:=zI (l:=l) (now:=now) (me:=me) (h:=h) (decide_eq_false (by omega));omega
theorem MT {N:Nat} (hN:gT≤N) {p:bh} (hp:lu p) (me now:Int) {th:Int} (t0:0≤th) (t9:th≤9) {c:iA} (hk:(c.Pf==13)=!(c.Pf==12)):og N (iu.mk p me now th) c=some ((lL p me now th c).1,(lL p me now th c).2.1,iu.mk (lL p me now th c).2.2 me now th):=by
  have h4:=hp.b4;unfold og lL;simp only [xz hN,h4,lQ,PB,wF,wI,w5];cases q2:jc p.py.ag now me c.a 3 != 0
  case true=>rfl
  have q2':=kj q2;obtain ⟨ar,g0,g9,gk,_⟩:=mq q2';simp only [PE,PC,q2',beq_self_eq_true,PD];generalize ib p.py.ag now me c.a=i at *;have ho:=oG ar g0 g9;have hq:=yJ ho;have hl:=ar.len;have hB:(16777216:Nat)=gT:=rfl;simp only [(ar.at g0 g9).1,(ar.at t0 t9).1,PB];cases q3:ig c.b 0 999
  · rfl
  rw [hk];cases q4:c.Pf==12
  · simp only [PE,Bool.not_false,PC,PD,PB];cases q5:((nth p.py.ag i).Pk.length:Int)==0
    case true=>rfl
    have l1:1≤(nth p.py.ag i).Pk.length:=by rw [beq_eq_false_iff_ne] at q5;omega
    have hsub:sub (nth p.py.ag i).Pk 1 ((nth p.py.ag i).Pk.length:Int)=some ((nth p.py.ag i).Pk.drop 1):=ES l1;have happ:app ([]:List iM) ((nth p.py.ag i).Pk.drop 1)=some ((nth p.py.ag i).Pk.drop 1):=jS (by simp only [List.length_drop];omega);have hi0:idx (nth p.py.ag i).Pk 0=some (nth (nth p.py.ag i).Pk 0):=i9 (i:=0) (by decide) (by omega);simp only [PC,hsub,happ,hi0,PB];have hs:iQ hY (p.py.ag.set i.toNat (oX (nth p.py.ag i) ((nth p.py.ag i).Pk.drop 1)))<gT:=zy ar (CE ho (by simp only [List.length_drop];omega));have e1:=vH hN hs now me (nth (nth p.py.ag i).Pk 0).PA;unfold oX at e1;rw [e1,PB];exact Ce (l:=served p.py.ag i) (vO (by unfold served;simp only [List.length_set];exact hl)) fun z=>some ((0:Int),(nth (nth p.py.ag i).Pk 0).n,iu.mk (nB p z) me now th)
  · simp only [PE,Bool.not_false,PC,PD,PB,j1,Bool.or_false];cases q5:decide (((nth p.py.ag i).Pk.length:Int) ≥ 2)
    case true=>rfl
    have happ:∀ m,app (nth p.py.ag i).Pk [m]=some ((nth p.py.ag i).Pk++[m]):=fun m=>kB hq (by omega);have e2:∀ z,idx (p.py.ag.set i.toNat z) th=some (nth (p.py.ag.set i.toNat z) th):=fun z=>i9 t0 (by simp only [List.length_set];omega);simp only [PC,AJ,happ,e2,PB];rfl
theorem Nw {N:Nat} (hN:gT≤N) {p:bh} (hp:lu p) (me now:Int) {th:Int} (t0:0≤th) (t9:th≤9) {c:iA} (hc:(c.Pf==1)=false):sO N p me now th c=some (fin c p (lL p me now th c)):=by
  have h4:=hp.b4;unfold sO lL;simp only [AX hN h4 hp.w _ _ _ (show (0:Int)<3 by decide),lv,PB];cases q2:jc p.py.ag now me c.a 3 != 0
  case true=>simp only [PD,lB q2 hc]
  have q2':=kj q2;obtain ⟨ar,g0,g9,gk,_⟩:=mq q2';simp only [PE,PC,q2',beq_self_eq_true,PD];generalize ib p.py.ag now me c.a=i at *;have ho:=oG ar g0 g9;have hq:=yJ ho;have hl:=ar.len;have hB:(16777216:Nat)=gT:=rfl;simp only [(ar.at g0 g9).1,(ar.at t0 t9).1,PB];cases q3:ig c.b 0 999
  · simp only [Bool.not_false,PD,lB (show ((2:Int) != 0)=true from rfl) hc]
  cases q4:c.Pf==12
  · simp only [PE,Bool.not_false,PC,PD,PB];cases q5:((nth p.py.ag i).Pk.length:Int)==0
    case true=>simp only [PD,lB (show ((8:Int) != 0)=true from rfl) hc]
    have l1:1≤(nth p.py.ag i).Pk.length:=by rw [beq_eq_false_iff_ne] at q5;omega
    have hsub:sub (nth p.py.ag i).Pk 1 ((nth p.py.ag i).Pk.length:Int)=some ((nth p.py.ag i).Pk.drop 1):=ES l1;have happ:app ([]:List iM) ((nth p.py.ag i).Pk.drop 1)=some ((nth p.py.ag i).Pk.drop 1):=jS (by simp only [List.length_drop];omega);have hi0:idx (nth p.py.ag i).Pk 0=some (nth (nth p.py.ag i).Pk 0):=i9 (i:=0) (by decide) (by omega);simp only [PC,hsub,happ,hi0,PB,uT];have hs:iQ hY (p.py.ag.set i.toNat (oX (nth p.py.ag i) ((nth p.py.ag i).Pk.drop 1)))<gT:=zy ar (CE ho (by simp only [List.length_drop];omega));have hx:wA (p.py.ag.set i.toNat (oX (nth p.py.ag i) ((nth p.py.ag i).Pk.drop 1))):=kD hp.w (show nC (nth p.py.ag i) from hp.w _ (ar.at g0 g9).2);have e1:=vF hN hs hx now me (nth (nth p.py.ag i).Pk 0).PA;unfold oX at e1;rw [e1,PB];exact Ce (l:=served p.py.ag i) (vO (by unfold served;simp only [List.length_set];exact hl)) fun z=>some (nB p z,hX.mk 0 (nth (nth p.py.ag i).Pk 0).n)
  · simp only [PE,Bool.not_false,PC,PD,PB,j1,Bool.or_false];cases q5:decide (((nth p.py.ag i).Pk.length:Int) ≥ 2)
    case true=>simp only [PD,lB (show ((8:Int) != 0)=true from rfl) hc]
    have happ:∀ m,app (nth p.py.ag i).Pk [m]=some ((nth p.py.ag i).Pk++[m]):=fun m=>kB hq (by omega);have hap0:app ([]:List iM) (nth p.py.ag i).Pk=some (nth p.py.ag i).Pk:=jS (by omega);have e2:∀ z,idx (p.py.ag.set i.toNat z) th=some (nth (p.py.ag.set i.toNat z) th):=fun z=>i9 t0 (by simp only [List.length_set];omega);simp only [PC,A1,hap0,happ,e2,PB,uT];rfl
def vQ (p:bh) (c:iA):Int×Int×bh:=bif !ig c.a 0 ((p.gR.length:Int) - 1) then (2,0,p) else (0,0,yp p (p.gR.take c.a.toNat++p.gR.drop (c.a.toNat+1)))
theorem Ei {α:Type} {l:List α} {i j:Int} (h0:0≤i) (h1:i≤j) (h2:j≤(l.length:Int)):sub l i j=some ((l.drop i.toNat).take (j.toNat - i.toNat)):=by
  unfold sub;rw [if_pos ⟨h0,h1,h2⟩]
theorem lu.b6 {p:bh} (h:lu p):p.gR.length<gT:=(jY (p:=p) (Nat.lt_of_le_of_lt h.sz (by decide))).2.2.2.2.2
theorem JG {α:Type} {l:List α} (hl:l.length<gT) {a:Int} (h:ig a 0 ((l.length:Int) - 1)=true):i64.wrap (a+1)=a+1∧sub l 0 a=some (l.take a.toNat)∧sub l (a+1) (l.length:Int)=some (l.drop (a.toNat+1))∧∃ m,sub l a (a+1)=some m:=by
  have hB:(16777216:Nat)=gT:=rfl;rw [iW] at h;refine ⟨jg (by omega) (by omega),?_,?_,_,Ei h.1 (by omega) (by omega)⟩
  · rw [Ei (Int.le_refl 0) h.1 (by omega)];simp
  · rw [Ei (by omega) (by omega) (Int.le_refl _),show (a+1).toNat=a.toNat+1 by omega,List.take_of_length_le (by simp)]
theorem ED (N:Nat) {l:List iB} (hl:l.length<gT) {a:Int} (h:ig a 0 ((l.length:Int) - 1)=true):o8 N l a (i64.wrap (a+1))=some (l.take a.toNat++l.drop (a.toNat+1)):=by
  obtain ⟨h1,h2,h3,m,h4⟩:=JG hl h;unfold o8
  have hne:(a==a+1)=false:=by rw [beq_eq_false_iff_ne];omega
  simp only [h1,h2,h3,h4,hne,PB,PC]
def kv (p:bh) (me now th:Int) (c:iA):Int×Int×bh :=
  bif c.Pf==1 then mj p me now c else bif (c.Pf==2) || (c.Pf==3) then mO p me now c else bif (c.Pf==4) || (c.Pf==5) then mU p me now c else
  bif (c.Pf==6) || (c.Pf==7) then jf p me now c else bif c.Pf==8 then kO p me now c else bif (c.Pf==9) || ((c.Pf==10) || (c.Pf==11)) then mV p c else
  bif (c.Pf==12) || (c.Pf==13) then lL p me now th c else bif c.Pf==14 then tU p th c.a else bif c.Pf==15 then vQ p c else (2,0,p)
theorem BR (p:bh) (me now:Int) (c:iA):(mO p me now c).2.1=0∧bh.mk p.Pe p.own p.Pg (mO p me now c).2.2.py p.gR (mO p me now c).2.2.Pn (mO p me now c).2.2.Pp (mO p me now c).2.2.cd (mO p me now c).2.2.g5 (mO p me now c).2.2.Pm=(mO p me now c).2.2:=by
  unfold mO;cases !ig c.b 0 1
  · cases jc p.py.ag now me c.a 0 != 0
    · cases (c.Pf==2)&&(jc p.py.ag now me c.c 0 != 0)<;>exact ⟨rfl,rfl⟩
    · exact ⟨rfl,rfl⟩
  · exact ⟨rfl,rfl⟩
theorem BZ (p:bh) (me now:Int) (c:iA):(mU p me now c).2.1=0∧bh.mk p.Pe p.own p.Pg (mU p me now c).2.2.py p.gR (mU p me now c).2.2.Pn (mU p me now c).2.2.Pp (mU p me now c).2.2.cd (mU p me now c).2.2.g5 (mU p me now c).2.2.Pm=(mU p me now c).2.2:=by
  unfold mU;cases jc p.py.ag now me c.a 0 != 0
  · cases ib p.py.ag now me c.a==0
    · cases (c.Pf==4)&&(jc p.py.ag now me c.b 1 != 0)<;>exact ⟨rfl,rfl⟩
    · exact ⟨rfl,rfl⟩
  · exact ⟨rfl,rfl⟩
theorem GD (p:bh) (me now:Int) (c:iA):bh.mk p.Pe p.own p.Pg (g7.mk (jf p me now c).2.2.py.ag (i7.mk (jf p me now c).2.2.py.gc.Ph (jf p me now c).2.2.py.gc.Pr (jf p me now c).2.2.py.gc.Pj p.py.gc.gQ)) p.gR (jf p me now c).2.2.Pn (jf p me now c).2.2.Pp (jf p me now c).2.2.cd (jf p me now c).2.2.g5 (jf p me now c).2.2.Pm=(jf p me now c).2.2:=by
  unfold jf;cases jc p.py.ag now me c.a 2 != 0
  · cases !ig c.b 0 (((nth p.py.ag (ib p.py.ag now me c.a)).Po.length:Int) - 1)
    · cases c.Pf==7
      · cases !ig c.c 0 999<;>rfl
      · rfl
    · rfl
  · rfl
theorem As (p:bh) (me now:Int) (c:iA):(kO p me now c).2.1=0∧bh.mk p.Pe p.own (kO p me now c).2.2.Pg (g7.mk (kO p me now c).2.2.py.ag (i7.mk (kO p me now c).2.2.py.gc.Ph (kO p me now c).2.2.py.gc.Pr (kO p me now c).2.2.py.gc.Pj p.py.gc.gQ)) p.gR (kO p me now c).2.2.Pn (kO p me now c).2.2.Pp (kO p me now c).2.2.cd (kO p me now c).2.2.g5 (kO p me now c).2.2.Pm=(kO p me now c).2.2:=by
  unfold kO;cases jc p.py.ag now me c.a 0 != 0
  · cases (ib p.py.ag now me c.a==0) || (!ig c.b 1 1000 || decide (i64.wrap ((nth p.py.ag (ib p.py.ag now me c.a)).iz+c.b) > 1000000))
    · cases nH p (nN p (nth p.py.ag (ib p.py.ag now me c.a)).Pu) (hO.mk 0 (i64.wrap ((nth p.py.ag (ib p.py.ag now me c.a)).gE * c.b)) 0)<;>exact ⟨rfl,rfl⟩
    · exact ⟨rfl,rfl⟩
  · exact ⟨rfl,rfl⟩
theorem Jf (p:bh) (c:iA):bh.mk p.Pe p.own (mV p c).2.2.Pg (g7.mk p.py.ag (i7.mk (mV p c).2.2.py.gc.Ph (mV p c).2.2.py.gc.Pr (mV p c).2.2.py.gc.Pj p.py.gc.gQ)) p.gR (mV p c).2.2.Pn (mV p c).2.2.Pp (mV p c).2.2.cd (mV p c).2.2.g5 (mV p c).2.2.Pm=(mV p c).2.2:=by
  unfold mV;cases c.Pf==9
  · cases c.Pf==10
    · cases !(m4 p.Pg c.a).2<;>rfl
    · cases (!ig c.a 0 4 || (!ig c.b 0 4 || (!ig c.c 0 2 || !xA c.d)))
      · cases !(m3 p.Pg c.a c.b (lz c.c c.d)).2<;>rfl
      · rfl
  · cases (!ig c.a 0 4 || !iN (hO.mk c.b c.c c.d))
    · cases !(lM p.Pg c.a (hO.mk c.b c.c c.d)).2.2<;>rfl
    · rfl
theorem GL (p:bh) (me now th:Int) (c:iA):bh.mk p.Pe p.own p.Pg (g7.mk (lL p me now th c).2.2.py.ag (i7.mk (lL p me now th c).2.2.py.gc.Ph (lL p me now th c).2.2.py.gc.Pr (lL p me now th c).2.2.py.gc.Pj p.py.gc.gQ)) p.gR (lL p me now th c).2.2.Pn (lL p me now th c).2.2.Pp (lL p me now th c).2.2.cd (lL p me now th c).2.2.g5 (lL p me now th c).2.2.Pm=(lL p me now th c).2.2:=by
  unfold lL;cases jc p.py.ag now me c.a 3 != 0
  · cases !ig c.b 0 999
    · cases c.Pf==12
      · cases ((nth p.py.ag (ib p.py.ag now me c.a)).Pk.length:Int)==0<;>rfl
      · cases decide (((nth p.py.ag (ib p.py.ag now me c.a)).Pk.length:Int) ≥ 2)<;>rfl
    · rfl
  · rfl
theorem GH (p:bh) (me now:Int) (c:iA):bh.mk p.Pe p.own (mj p me now c).2.2.Pg (mj p me now c).2.2.py p.gR (mj p me now c).2.2.Pn (mj p me now c).2.2.Pp (mj p me now c).2.2.cd (mj p me now c).2.2.g5 (mj p me now c).2.2.Pm=(mj p me now c).2.2:=by
  unfold mj;cases rY now c
  · cases jc p.py.ag now me c.b 1 != 0
    · cases !nH p c.e (cost c)
      · cases decide ((kT p.py.ag (newObj now (ib p.py.ag now me c.b) c)).2<0)<;>rfl
      · rfl
    · rfl
  · rfl
theorem zv (p:bh) (th a:Int):(tU p th a).2.2=p:=by
  unfold tU;cases a==0
  · cases a==1
    · cases (a==2) || ((a==3) || (a==4))<;>rfl
    · rfl
  · rfl
theorem JF {a m n:Int} (hne:m ≠ n) (h:((a==m) || (a==n))=true):(a==m)=!(a==n):=by
  simp only [Bool.or_eq_true,beq_iff_eq] at h
  rcases h with h | h
  · subst h
    have:(a==n)=false:=by rw [beq_eq_false_iff_ne];exact hne
    rw [this];simp
  · subst h
    have:(a==m)=false:=by rw [beq_eq_false_iff_ne];exact fun q=>hne q.symm
    rw [this];simp
theorem Oz {N:Nat} (hN:gT+1≤N) {p:bh} (hp:lu p) (me now:Int) {th:Int} (t0:0≤th) (t9:th≤9) (c:iA):qc N (iu.mk p me now th) c=some ((kv p me now th c).1,(kv p me now th c).2.1,iu.mk (kv p me now th c).2.2 me now th):=by
  have hN':gT≤N:=Nat.le_of_succ_le hN;unfold qc kv;simp only [M7 hN hp,ND hN' hp,MX hN' hp,JZ hN' hp,Mj hN' hp,Jx hN' hp,Nb hN' hp _ _ t0 t9,lQ,PB,M4,A4,(BR p me now c).2,(BZ p me now c).2,GD,(As p me now c).2,Jf,GH,zv,wF,wI,w5];cases c.Pf==1
  case true=>rfl
  cases (c.Pf==2) || (c.Pf==3)
  case true=>simp only [PC,PD,(BR p me now c).1]
  cases (c.Pf==4) || (c.Pf==5)
  case true=>simp only [PC,PD,(BZ p me now c).1]
  cases (c.Pf==6) || (c.Pf==7)
  case true=>rfl
  cases c.Pf==8
  case true=>simp only [PC,PD,(As p me now c).1]
  cases (c.Pf==9) || ((c.Pf==10) || (c.Pf==11))
  case true=>rfl
  cases hg:(c.Pf==12) || (c.Pf==13)
  case true =>
    have:(c.Pf==13)=!(c.Pf==12):=by
      rw [Bool.or_comm] at hg;exact JF (by decide) hg
    simp only [PC,PD,MT hN' hp me now t0 t9 this,PB,GL]
  cases c.Pf==14
  case true=>simp only [PC,PD,zv]
  cases c.Pf==15
  case false=>rfl
  have h6:=hp.b6;unfold vQ;simp only [PC,PD,Dc h6];cases hi:ig c.a 0 ((p.gR.length:Int) - 1)
  · rfl
  simp only [PE,PC,ED N h6 hi,PB];rfl
theorem vB {p:bh} {now th:Int} (h:mu p now th=true):jk p=true∧0≤th∧th≤9:=by
  unfold mu at h;simp only [PG] at h;exact yc (now:=now) (by simpa using h.1)
def ny (p:bh) (me now th:Int) (c:iA):bh×hX :=
  bif !jk p || (!ig me 0 2 || !ig now 0 1000000) then (p,hX.mk 2 0) else bif !mu p now th then (p,hX.mk 1 0) else fin c p (kv p me now th c)
theorem N0 (p:bh) (me now th:Int) (c:iA):bh.mk p.Pe p.own (kv p me now th c).2.2.Pg (kv p me now th c).2.2.py (kv p me now th c).2.2.gR (kv p me now th c).2.2.Pn (kv p me now th c).2.2.Pp (kv p me now th c).2.2.cd (kv p me now th c).2.2.g5 (kv p me now th c).2.2.Pm=(kv p me now th c).2.2:=by
  unfold kv;cases c.Pf==1
  case true=>rw [PD, ← GH]
  cases (c.Pf==2) || (c.Pf==3)
  case true=>rw [PC,PD, ← (BR p me now c).2]
  cases (c.Pf==4) || (c.Pf==5)
  case true=>rw [PC,PC,PD, ← (BZ p me now c).2]
  cases (c.Pf==6) || (c.Pf==7)
  case true=>rw [PC,PC,PC,PD, ← GD]
  cases c.Pf==8
  case true=>rw [PC,PC,PC,PC,PD, ← (As p me now c).2]
  cases (c.Pf==9) || ((c.Pf==10) || (c.Pf==11))
  case true=>simp only [PC,PD];rw [← Jf]
  cases (c.Pf==12) || (c.Pf==13)
  case true=>simp only [PC,PD];rw [← GL]
  cases c.Pf==14
  case true=>simp only [PC,PD,zv,w5]
  cases c.Pf==15
  case false=>rfl
  simp only [PC,PD];unfold vQ;cases !ig c.a 0 ((p.gR.length:Int) - 1)<;>rfl
theorem Ie {N:Nat} (hN:gT+1≤N) {p:bh} (hb:ic p≤3000000) (hw:wP p) (me now th:Int) (c:iA):rO N p me now th c=some (ny p me now th c):=by
  have hN':gT≤N:=Nat.le_of_succ_le hN;have hB:ic p<gT:=Nat.lt_of_le_of_lt hb (by decide);unfold rO ny;simp only [ti hN' hB,yg,wx,pM hN' hB,B4 hN' hB,PB,j1];cases !jk p || (!ig me 0 2 || !ig now 0 1000000)
  case true=>rfl
  cases hc:mu p now th
  · rfl
  obtain ⟨ok,t0,t9⟩:=vB hc;simp only [PE,PC,Oz hN ⟨ok,hb,hw⟩ me now t0 t9,PB,N0,kI];unfold fin;cases (kv p me now th c).1==0
  · simp only [PC];cases (c.Pf==1)&&(((kv p me now th c).1==6) || ((kv p me now th c).1==7))<;>rfl
  · rfl
theorem B6 (p:bh) (me now:Int) (c:iA) {β:Type} (x:Option β):j5 p.Pe.Pd (fin c p (jf p me now c)).1.Pe.Pd (j5 p.own (fin c p (jf p me now c)).1.own (j5 p.Pg (fin c p (jf p me now c)).1.Pg (j5 p.py.ag (fin c p (jf p me now c)).1.py.ag (j5 p.py.gc.gQ (fin c p (jf p me now c)).1.py.gc.gQ (j5 p.gR (fin c p (jf p me now c)).1.gR x)))))=x:=by
  have h:(jf p me now c).2.2.Pe=p.Pe∧(jf p me now c).2.2.own=p.own∧(jf p me now c).2.2.Pg=p.Pg∧(jf p me now c).2.2.py.ag.length=p.py.ag.length∧(jf p me now c).2.2.py.gc=p.py.gc∧(jf p me now c).2.2.gR=p.gR:=by
    unfold jf;cases jc p.py.ag now me c.a 2 != 0
    case true=>exact ⟨rfl,rfl,rfl,rfl,rfl,rfl⟩
    cases !ig c.b 0 (((nth p.py.ag (ib p.py.ag now me c.a)).Po.length:Int) - 1)
    case true=>exact ⟨rfl,rfl,rfl,rfl,rfl,rfl⟩
    cases c.Pf==7
    case true=>exact ⟨rfl,rfl,rfl,rfl,rfl,rfl⟩
    cases !ig c.c 0 999
    case true=>exact ⟨rfl,rfl,rfl,rfl,rfl,rfl⟩
    exact ⟨rfl,rfl,rfl,List.length_set,rfl,rfl⟩
  have g:(fin c p (jf p me now c)).1.Pe.Pd.length=p.Pe.Pd.length∧(fin c p (jf p me now c)).1.own.length=p.own.length∧(fin c p (jf p me now c)).1.Pg.length=p.Pg.length∧(fin c p (jf p me now c)).1.py.ag.length=p.py.ag.length∧(fin c p (jf p me now c)).1.py.gc.gQ.length=p.py.gc.gQ.length∧(fin c p (jf p me now c)).1.gR.length=p.gR.length:=by
    unfold fin;cases (jf p me now c).1==0
    · cases (c.Pf==1)&&(((jf p me now c).1==6) || ((jf p me now c).1==7))<;>exact ⟨rfl,rfl,rfl,rfl,rfl,rfl⟩
    · simp only [PD];rw [h.1,h.2.1,h.2.2.1,h.2.2.2.2.1,h.2.2.2.2.2];exact ⟨rfl,rfl,rfl,h.2.2.2.1,rfl,rfl⟩
  rw [kc g.1,kc g.2.1,kc g.2.2.1,kc g.2.2.2.1,kc g.2.2.2.2.1,kc g.2.2.2.2.2]
theorem HH {N:Nat} (hN:gT≤N) {p:bh} (hb:ic p≤3000000) (hw:wP p) (me now th:Int) (c:iA):rJ N p me now th c=some (ny p me now th c):=by
  have hB:ic p<gT:=Nat.lt_of_le_of_lt hb (by decide);unfold rJ ny;simp only [te hN hB hw,lv,rL hN hB,Ci hN hB hw,PB,j1,M4,A4];cases !jk p || (!ig me 0 2 || !ig now 0 1000000)
  case true=>rfl
  cases hc:mu p now th
  · rfl
  obtain ⟨ok,t0,t9⟩:=vB hc;have hp:lu p:=⟨ok,hb,hw⟩;simp only [PE,PC];unfold kv;cases hk:c.Pf==1
  case true=>simp only [PD,MD hN hp me now hk,PB]
  simp only [PC];cases (c.Pf==2) || (c.Pf==3)
  case true=>simp only [PD,M9 hN hp me now hk,PB]
  simp only [PC];cases (c.Pf==4) || (c.Pf==5)
  case true=>simp only [PD,Nc hN hp me now hk,PB]
  simp only [PC];cases hd:(c.Pf==6) || (c.Pf==7)
  case true =>
    simp only [PD,Il hN hp me now hk (JF (by decide) hd),PB]
    all_goals (rw [B6];rfl)
  simp only [PC];cases c.Pf==8
  case true=>simp only [PD,Mr hN hp me now hk,PB]
  simp only [PC];cases (c.Pf==9) || ((c.Pf==10) || (c.Pf==11))
  case true=>simp only [PD,NZ hN hp hk,PB]
  simp only [PC];cases (c.Pf==12) || (c.Pf==13)
  case true=>simp only [PD,Nw hN hp me now t0 t9 hk,PB]
  simp only [PC];cases c.Pf==14
  case true=>simp only [PD,Nv hN hp t0 t9 hk,PB]
  simp only [PC];cases c.Pf==15
  case false=>simp only [PC,lB (show ((2:Int) != 0)=true from rfl) hk]
  have h6:=hp.b6;unfold vQ;simp only [PD,Dc h6];cases hi:ig c.a 0 ((p.gR.length:Int) - 1)
  · simp only [Bool.not_false,PD,lB (show ((2:Int) != 0)=true from rfl) hk]
  obtain ⟨h1,h2,h3,_⟩:=JG h6 hi;have hB':(16777216:Nat)=gT:=rfl;have a1:app ([]:List iB) (p.gR.take c.a.toNat)=some (p.gR.take c.a.toNat):=jS (by simp only [List.length_take];omega)
  have a2:app (p.gR.take c.a.toNat) (p.gR.drop (c.a.toNat+1))=some (p.gR.take c.a.toNat++p.gR.drop (c.a.toNat+1)):=by
    unfold app;rw [if_pos (by simp only [List.length_take,List.length_drop];omega)]
  simp only [PE,PC,h1,h2,h3,a1,a2,PB,uT];rfl
structure sj (p q:bh):Prop where
  sz:ic q≤ic p+300
  w:wP q
  ln:q.py.ag.length=p.py.ag.length
theorem nX {p q:bh} (h1:q.Pe=p.Pe) (h2:q.own=p.own) (h3:q.Pg.length=p.Pg.length) (h4:iQ hY q.py.ag≤iQ hY p.py.ag+250) (h5:q.py.gc.gQ.length≤p.py.gc.gQ.length+1) (h6:q.gR.length≤p.gR.length) (h7:wA q.py.ag) (h8:q.py.ag.length=p.py.ag.length):sj p q:=by
  refine ⟨?_,h7,h8⟩;unfold ic k5 oV jU;rw [h1,h2];omega
theorem jC {p:bh} (h:lu p):sj p p:=⟨by omega,h.w,rfl⟩
theorem u9 {l:List gP} {k:Nat} {o:gP} (ho:hY o≤100):iQ hY (l.set k o)≤iQ hY l+100:=Nat.le_trans xx (by omega)
theorem AS (h:g7) (c i:Int):(mZ h c i).ag.length=h.ag.length:=by
  unfold mZ uH n7;cases decide (c ≥ 0)
  · rfl
  cases kp h&&ig i 0 9
  · rfl
  simp only [PD];split
  · simp only [List.length_set]
  · rfl
theorem AR {h:g7} (hw:wA h.ag) (c i:Int):iQ hY (mZ h c i).ag=iQ hY h.ag∧wA (mZ h c i).ag∧(mZ h c i).gc.gQ.length≤h.gc.gQ.length+1:=by
  unfold mZ uH;cases decide (c ≥ 0)
  · exact ⟨rfl,hw,Nat.le_succ _⟩
  cases q:kp h&&ig i 0 9
  · exact ⟨rfl,hw,Nat.le_succ _⟩
  simp only [PG,iW] at q;have hl:=(mN q.1).len;simp only [PD];refine ⟨?_,?_,xY h i⟩
  · unfold n7;split
    · exact pJ q.2.1 (by omega) rfl
    · rfl
  · unfold n7;split
    · exact kD hw (show nC (marked (nth h.ag i) true) from hw (nth h.ag i) (kZ q.2.1 (by omega)))
    · exact hw
theorem Lz {p:bh} (hp:lu p) (me now:Int) (c:iA):sj p (mO p me now c).2.2:=by
  unfold mO;cases !ig c.b 0 1
  case true=>exact jC hp
  cases q2:jc p.py.ag now me c.a 0 != 0
  case true=>exact jC hp
  obtain ⟨ar,g0,g9,_,_⟩:=mq (kj q2);cases (c.Pf==2)&&(jc p.py.ag now me c.c 0 != 0)
  case true=>exact jC hp
  simp only [PC];generalize (bif c.Pf==2 then ib p.py.ag now me c.c else -1)=x;have ho:=oG ar g0 g9;obtain ⟨a,b,d⟩:=AR (h:=g7.mk (p.py.ag.set (ib p.py.ag now me c.a).toNat (linked (nth p.py.ag (ib p.py.ag now me c.a)) c.b x)) p.py.gc) (kD hp.w (show nC (nth p.py.ag (ib p.py.ag now me c.a)) from hp.w _ (ar.at g0 g9).2)) x x;refine nX rfl rfl rfl ?_ d (Nat.le_refl _) b (by show (mZ _ _ _).ag.length=_;rw [AS];exact List.length_set);refine Nat.le_trans (Nat.le_of_eq a) (Nat.le_trans (u9 (by rw [yG];omega)) (by omega))
theorem LQ {p:bh} (hp:lu p) (me now:Int) (c:iA):sj p (mU p me now c).2.2:=by
  unfold mU;cases q2:jc p.py.ag now me c.a 0 != 0
  case true=>exact jC hp
  obtain ⟨ar,g0,g9,_,_⟩:=mq (kj q2);cases ib p.py.ag now me c.a==0
  case true=>exact jC hp
  cases (c.Pf==4)&&(jc p.py.ag now me c.b 1 != 0)
  case true=>exact jC hp
  simp only [PC];generalize (bif c.Pf==4 then ib p.py.ag now me c.b else -1)=x;have ho:=oG ar g0 g9;obtain ⟨a,b,d⟩:=AR (h:=g7.mk (p.py.ag.set (ib p.py.ag now me c.a).toNat (boxed (nth p.py.ag (ib p.py.ag now me c.a)) x)) p.py.gc) (kD hp.w (show nC (nth p.py.ag (ib p.py.ag now me c.a)) from hp.w _ (ar.at g0 g9).2)) x (ib p.py.ag now me c.a);refine nX rfl rfl rfl ?_ d (Nat.le_refl _) b (by show (mZ _ _ _).ag.length=_;rw [AS];exact List.length_set);refine Nat.le_trans (Nat.le_of_eq a) (Nat.le_trans (u9 (show hY (nth p.py.ag (ib p.py.ag now me c.a))≤100 by omega)) (by omega))
theorem LN {p:bh} (hp:lu p) (me now:Int) (c:iA):sj p (jf p me now c).2.2:=by
  unfold jf;cases q2:jc p.py.ag now me c.a 2 != 0
  case true=>exact jC hp
  obtain ⟨ar,g0,g9,_,_⟩:=mq (kj q2);cases !ig c.b 0 (((nth p.py.ag (ib p.py.ag now me c.a)).Po.length:Int) - 1)
  case true=>exact jC hp
  cases c.Pf==7
  case true=>exact jC hp
  cases !ig c.c 0 999
  case true=>exact jC hp
  have ho:=oG ar g0 g9;refine nX rfl rfl rfl ?_ (Nat.le_succ _) (Nat.le_refl _) (kD hp.w (show nC (nth p.py.ag (ib p.py.ag now me c.a)) from hp.w _ (ar.at g0 g9).2)) List.length_set;refine Nat.le_trans (u9 (o:=written (nth p.py.ag (ib p.py.ag now me c.a)) c.b c.c) ?_) (by omega);unfold hY written at *;simp only [List.length_set];omega
theorem Kw {p:bh} (hp:lu p) (me now:Int) (c:iA):sj p (kO p me now c).2.2:=by
  unfold kO;cases q2:jc p.py.ag now me c.a 0 != 0
  case true=>exact jC hp
  obtain ⟨ar,g0,g9,_,_⟩:=mq (kj q2);cases (ib p.py.ag now me c.a==0) || (!ig c.b 1 1000 || decide (i64.wrap ((nth p.py.ag (ib p.py.ag now me c.a)).iz+c.b) > 1000000))
  case true=>exact jC hp
  cases !nH p (nN p (nth p.py.ag (ib p.py.ag now me c.a)).Pu) (hO.mk 0 (i64.wrap ((nth p.py.ag (ib p.py.ag now me c.a)).gE * c.b)) 0)
  case true=>exact jC hp
  have ho:=oG ar g0 g9;refine nX rfl rfl (lj _ _ _) ?_ (Nat.le_succ _) (Nat.le_refl _) (kD hp.w (show nC (nth p.py.ag (ib p.py.ag now me c.a)) from hp.w _ (ar.at g0 g9).2)) List.length_set;exact Nat.le_trans (u9 (show hY (nth p.py.ag (ib p.py.ag now me c.a))≤100 by omega)) (by omega)
theorem BX {p:bh} (hp:lu p) {t:List g6} (h:t.length=p.Pg.length):sj p (yi p t):=nX rfl rfl h (by show iQ hY p.py.ag≤_;omega) (Nat.le_succ _) (Nat.le_refl _) hp.w rfl
theorem My {p:bh} (hp:lu p) (c:iA):sj p (mV p c).2.2:=by
  unfold mV;cases c.Pf==9
  · cases c.Pf==10
    · cases !(m4 p.Pg c.a).2
      · exact BX hp (DA _ _)
      · exact jC hp
    · cases (!ig c.a 0 4 || (!ig c.b 0 4 || (!ig c.c 0 2 || !xA c.d)))
      · cases !(m3 p.Pg c.a c.b (lz c.c c.d)).2
        · exact BX hp (DE _ _ _ _)
        · exact jC hp
      · exact jC hp
  · cases (!ig c.a 0 4 || !iN (hO.mk c.b c.c c.d))
    · cases !(lM p.Pg c.a (hO.mk c.b c.c c.d)).2.2
      · exact BX hp (CK _ _ _)
      · exact jC hp
    · exact jC hp
theorem Mb (h:g7) (i:Int):(oC h i).ag.length=h.ag.length:=by
  unfold oC;split
  · simp only [List.length_set]
  · rfl
theorem Ny (l:List gP) (k w b:Int):(xN l k w b).length=l.length:=by
  unfold xN;cases decide (k ≥ 0)&&((nth l k).Pq==w)
  · rfl
  · simp only [PD,List.length_set]
theorem Mk {h:g7} (hw:wA h.ag) (i:Int):iQ hY (oC h i).ag=iQ hY h.ag∧wA (oC h i).ag∧(oC h i).gc.gQ.length=h.gc.gQ.length:=by
  unfold oC;split
  · rename_i q;simp only [PG,iW] at q;have hl:=(mN q.1).len;exact ⟨pJ q.2.1.1 (by omega) rfl,kD hw (show nC (nth h.ag i) from hw _ (kZ q.2.1.1 (by omega))),rfl⟩
  · exact ⟨rfl,hw,rfl⟩
theorem LC {p:bh} (hp:lu p) (f:Int) (a:hO):sj p (yE p f a):=nX rfl rfl (lj _ _ _) (by show iQ hY p.py.ag≤_;omega) (Nat.le_succ _) (Nat.le_refl _) hp.w rfl
theorem LO {p:bh} (hp:lu p) (me now:Int) (c:iA):sj p (mj p me now c).2.2:=by
  unfold mj;cases q1:rY now c
  case true=>exact jC hp
  cases jc p.py.ag now me c.b 1 != 0
  case true=>exact jC hp
  cases !nH p c.e (cost c)
  case true=>exact jC hp
  generalize ib p.py.ag now me c.b=box;cases q4:decide ((kT p.py.ag (newObj now box c)).2<0)
  case true=>exact LC hp _ _
  obtain ⟨j,g,e,ar,hj⟩:=xd q4;simp only [PC];rw [e];have ho:=zf (now:=now) (box:=box) (xe q1);obtain ⟨a,b,d⟩:=Mk (h:=g7.mk (p.py.ag.set j (kH (newObj now box c) g)) p.py.gc) (kD hp.w (At (Aj _ _ _))) (j:Int);refine nX rfl rfl (lj _ _ _) ?_ (by show (oC _ _).gc.gQ.length≤_;rw [d];exact Nat.le_succ _) (Nat.le_refl _) b (by show (oC _ _).ag.length=_;rw [Mb];exact List.length_set);exact Nat.le_trans (Nat.le_of_eq a) (Nat.le_trans (u9 (show hY (newObj now box c)≤100 from ho)) (by omega))
theorem Kp {l:List gP} (h:wA l) {i:Int} (h0:0≤i) (h1:i<(l.length:Int)):nC (nth l i):=h _ (kZ h0 h1)
theorem MF {l:List gP} (hw:wA l) {k w b:Int} (h:0≤k→k<(l.length:Int)):iQ hY (xN l k w b)=iQ hY l∧wA (xN l k w b):=by
  unfold xN;cases q:decide (k ≥ 0)&&((nth l k).Pq==w)
  · exact ⟨rfl,hw⟩
  simp only [PG,decide_eq_true_eq] at q;have k1:=h q.1
  have w0:nC (waiting (nth l k) 0):=by show (-9223372036854775808:Int)≤0;decide
  have w1:=kD (k:=k.toNat) hw w0
  have k2:k<((l.set k.toNat (waiting (nth l k) 0)).length:Int):=by simp only [List.length_set];exact k1
  simp only [PD];exact ⟨(pJ (z:=Ay (nth (l.set k.toNat (waiting (nth l k) 0)) k) b) q.1 k2 rfl).trans (pJ q.1 k1 rfl),kD w1 (show nC (nth (l.set k.toNat (waiting (nth l k) 0)) k) from Kp w1 q.1 k2)⟩
theorem OC (n:Int):-9223372036854775808≤i64.wrap n:=by
  simp [IntKind.wrap,IntKind.signed,IntKind.bits];split<;>omega
theorem LD {p:bh} (hp:lu p) (me now:Int) {th:Int} (t0:0≤th) (t9:th≤9) (c:iA):sj p (lL p me now th c).2.2:=by
  unfold lL;cases q2:jc p.py.ag now me c.a 3 != 0
  case true=>exact jC hp
  obtain ⟨ar,g0,g9,_,_⟩:=mq (kj q2);cases !ig c.b 0 999
  case true=>exact jC hp
  simp only [PC];generalize ib p.py.ag now me c.a=i at *;have ho:=oG ar g0 g9;have hl:=ar.len;have hwi:nC (nth p.py.ag i):=hp.w _ (ar.at g0 g9).2
  have qs:∀ q,q.length≤20→hY (oX (nth p.py.ag i) q)≤100:=fun q hq=>by
    unfold hY at ho;unfold hY oX;simp only;omega
  have hq:=yJ ho;cases c.Pf==12
  · cases ((nth p.py.ag i).Pk.length:Int)==0
    case true=>exact jC hp
    have hw1:wA (served p.py.ag i):=kD hp.w hwi;obtain ⟨a,b⟩:=MF (l:=served p.py.ag i) hw1 (k:=ib (served p.py.ag i) now me (nth (nth p.py.ag i).Pk 0).PA) (w:=i64.wrap (c.a+1)) (b:=c.b) (vO (by unfold served;simp only [List.length_set];exact hl));refine nX rfl rfl rfl ?_ (Nat.le_succ _) (Nat.le_refl _) b (by show (xN _ _ _ _).length=_;rw [Ny];exact List.length_set);refine Nat.le_trans (Nat.le_of_eq a) (Nat.le_trans (u9 (qs _ (by simp only [List.length_drop];omega))) (by omega))
  · cases decide (((nth p.py.ag i).Pk.length:Int) ≥ 2)
    case true=>exact jC hp
    have hw1:wA (asked p.py.ag i me th c):=kD hp.w hwi
    have hl1:(asked p.py.ag i me th c).length=10:=by unfold asked;simp only [List.length_set];exact hl
    have e:iQ hY ((asked p.py.ag i me th c).set th.toNat (waiting (nth (asked p.py.ag i me th c) th) (i64.wrap (c.a+1))))=iQ hY (asked p.py.ag i me th c):=pJ t0 (by omega) rfl;refine nX rfl rfl rfl ?_ (Nat.le_succ _) (Nat.le_refl _) (kD hw1 (OC _)) (by show (List.set _ _ _).length=_;rw [List.length_set,hl1,hl]);refine Nat.le_trans (Nat.le_of_eq e) (Nat.le_trans (u9 (qs _ (by simp only [List.length_append,List.length_cons,List.length_nil];omega))) (by omega))
theorem J5 {p:bh} (hp:lu p) (c:iA):sj p (vQ p c).2.2:=by
  unfold vQ;cases hi:ig c.a 0 ((p.gR.length:Int) - 1)
  · exact jC hp
  · exact nX rfl rfl rfl (by show iQ hY p.py.ag≤_;omega) (Nat.le_succ _) (by show (p.gR.take c.a.toNat++p.gR.drop (c.a.toNat+1)).length≤_;simp only [List.length_append,List.length_take,List.length_drop];omega) hp.w rfl
theorem Li {p:bh} (hp:lu p) (me now:Int) {th:Int} (t0:0≤th) (t9:th≤9) (c:iA):sj p (kv p me now th c).2.2:=by
  unfold kv;cases c.Pf==1
  case true=>exact LO hp _ _ _
  cases (c.Pf==2) || (c.Pf==3)
  case true=>exact Lz hp _ _ _
  cases (c.Pf==4) || (c.Pf==5)
  case true=>exact LQ hp _ _ _
  cases (c.Pf==6) || (c.Pf==7)
  case true=>exact LN hp _ _ _
  cases c.Pf==8
  case true=>exact Kw hp _ _ _
  cases (c.Pf==9) || ((c.Pf==10) || (c.Pf==11))
  case true=>exact My hp _
  cases (c.Pf==12) || (c.Pf==13)
  case true=>exact LD hp _ _ t0 t9 _
  cases c.Pf==14
  case true=>simp only [PC,PD,zv];exact jC hp
  cases c.Pf==15
  case true=>exact J5 hp _
  exact jC hp
theorem Mm {p:bh} (hb:ic p≤3000000) (hw:wP p) (me now th:Int) (c:iA):ic (ny p me now th c).1≤ic p+300∧wP (ny p me now th c).1:=by
  unfold ny;cases !jk p || (!ig me 0 2 || !ig now 0 1000000)
  case true=>exact ⟨Nat.le_add_right _ _,hw⟩
  cases hc:mu p now th
  · exact ⟨Nat.le_add_right _ _,hw⟩
  obtain ⟨ok,t0,t9⟩:=vB hc;have hp:lu p:=⟨ok,hb,hw⟩;simp only [PE,PC];unfold fin;cases (kv p me now th c).1==0
  · cases (c.Pf==1)&&(((kv p me now th c).1==6) || ((kv p me now th c).1==7))<;>exact ⟨Nat.le_add_right (ic p) _,hw⟩
  · have h:=Li hp me now t0 t9 c;exact ⟨h.sz,h.w⟩
theorem Ko {p:bh} (hb:ic p≤3000000) (hw:wP p) (me now th:Int) (c:iA):(ny p me now th c).1.py.ag.length=p.py.ag.length:=by
  unfold ny;cases !jk p || (!ig me 0 2 || !ig now 0 1000000)
  case true=>rfl
  cases hc:mu p now th
  · rfl
  obtain ⟨ok,t0,t9⟩:=vB hc;simp only [PE,PC];unfold fin;cases (kv p me now th c).1==0
  · cases (c.Pf==1)&&(((kv p me now th c).1==6) || ((kv p me now th c).1==7))<;>rfl
  · exact (Li ⟨ok,hb,hw⟩ me now t0 t9 c).ln
end Go.Kx
namespace Go.Kx
open Go
open Go.IntKind (i64)
set_option linter.unusedVariables false
set_option linter.unusedSimpArgs false
set_option maxRecDepth 10000
structure Wq (w:hJ):Prop where
  nG:iQ ic w.parts<gT
  each:∀ p,p ∈ w.parts→ic p≤3000000
  w:wW w.parts
theorem DO {α:Type} {l:List α} {i:Int} {y:α} (h0:0≤i) (h1:i<(l.length:Int)):idx (l.set i.toNat y) i=some y:=by
  have:=Gt (l:=l) (k:=i.toNat) (y:=y) (by omega)
  rwa [Int.toNat_of_nonneg h0] at this
theorem BY {α:Type} {t:List α} {z:α} (h:t.length≤1000000):app t [z]=some (t++[z]):=kB h (by decide)
def uy (w:hJ) (q:Int) (z:bh):hJ:=hJ.mk w.Pt (w.parts.set q.toNat z)
def pF (w:hJ) (p a b:Int):Bool:=rE (nth w.parts p).own (nth w.parts a).Pe (nth w.parts b).Pe
def KV (p:bh):bh:=bh.mk p.Pe p.own p.Pg p.py p.gR p.Pn p.Pp p.cd p.g5 (if 1000000<i64.wrap (p.Pm+1) then 1000000 else i64.wrap (p.Pm+1))
def oW (l:List gP) (i:Int):Bool:=decide (i ≥ 0)&&(((nth l i).Pf==3)&&decide (((nth l i).Pk.length:Int)<2))
def NH (p:bh) (i n:Int):bh:=nB p (p.py.ag.set i.toNat (oX (nth p.py.ag i) ((nth p.py.ag i).Pk++[iM.mk (-1) n])))
def uS (c:iA):iB:=iB.mk c.a c.b c.c (i64.wrap (Int.tdiv c.d 10)) (Int.tmod c.d 10) c.e
def vi (w:hJ) (p q:Int) (c:iA):Int×Int×hJ :=
  bif !pF w p q p then (3,0,w) else ((jf (nth w.parts q) q w.Pt c).1,(jf (nth w.parts q) q w.Pt c).2.1,w)
def yH (p:bh) (i n:Int):bh:=bif oW p.py.ag i then NH p i n else KV p
def u6 (w:hJ) (p q:Int) (c:iA):Int×Int×hJ :=
  bif !ig c.b 0 999 then (2,0,w) else bif !pF w p p q then (3,0,w) else
  (0,0,uy w q (yH (nth w.parts q) (ib (nth w.parts q).py.ag w.Pt q c.a) c.b))
def zF (w:hJ) (p q:Int) (c:iA):Int×Int×hJ :=
  bif decide (c.d<0) || !kK (uS c) then (2,0,w) else bif !pF w p p q then (3,0,w) else
  bif !jd (nth w.parts p).Pg c.a then (6,0,w) else bif decide (((nth w.parts p).gR.length:Int) ≥ 3) then (7,0,w) else
  (0,i64.wrap ((((nth w.parts p).gR++[uS c]).length:Int) - 1),uy w p (yp (nth w.parts p) ((nth w.parts p).gR++[uS c])))
def vr (r:Int×Int×hJ):hJ×hX:=bif r.1 != 0 then (r.2.2,hX.mk r.1 0) else (r.2.2,hX.mk 0 r.2.1)
def ot (w:hJ) (p th:Int) (c:iA):hJ×hX :=
  bif !jD w || !jb w p then (w,hX.mk 2 0) else bif !mu (nth w.parts p) w.Pt th then (w,hX.mk 1 0) else
  bif decide (other w p c<0) then (w,hX.mk 2 0) else
  bif c.Pf==7 then vr (vi w p (other w p c) c) else bif c.Pf==17 then vr (u6 w p (other w p c) c) else bif c.Pf==16 then vr (zF w p (other w p c) c) else
  (uy w p (ny (nth w.parts p) p w.Pt th c).1,(ny (nth w.parts p) p w.Pt th c).2)
theorem DR (r:Int×Int×hJ):(bif r.1 != 0 then some (hJ.mk r.2.2.Pt r.2.2.parts,hX.mk r.1 0) else some (hJ.mk r.2.2.Pt r.2.2.parts,hX.mk 0 r.2.1))=some (vr r):=by
  unfold vr;cases r.1 != 0<;>rfl
theorem JI (w:hJ) (p q:Int) (c:iA):(vi w p q c).2.2=w:=by
  unfold vi;cases !pF w p q p<;>rfl
theorem xp {w:hJ} (h:jD w=true) {p:bh} (hp:p ∈ w.parts):jk p=true:=by
  unfold jD at h;simp only [PG,List.all_eq_true] at h;exact h.2.2.1 p hp
theorem zt {w:hJ} {p:Int} (h:jb w p=true):0≤p∧p<(w.parts.length:Int):=by
  unfold jb at h;rw [iW] at h;omega
theorem Wq.Lt {w:hJ} (h:Wq w) (ok:jD w=true) {p:bh} (hp:p ∈ w.parts):lu p:=⟨xp ok hp,h.each p hp,h.w p hp⟩
section
variable {N:Nat} {w:hJ} {p q:Int} {c:iA}
theorem yC (hN:gT≤N) (hw:Wq w) {a b d:Int} (ha:jb w a=true) (hb:jb w b=true) (hd:jb w d=true):oM N w a b d=some (pF w a b d):=by
  obtain ⟨a1,a2⟩:=jF ha;obtain ⟨b1,b2⟩:=jF hb;obtain ⟨d1,d2⟩:=jF hd;unfold oM pF;simp only [a1,b1,d1,PB,Ha hN (jY (jh hw.nG a2)).2.1 (jY (jh hw.nG b2)).1 (jY (jh hw.nG d2)).1]
theorem Kv {P:bh} {me now:Int} (h:(c.Pf==7)=true):fin c P (jf P me now c)=(P,bif (jf P me now c).1==0 then hX.mk 0 (jf P me now c).2.1 else hX.mk (jf P me now c).1 0):=by
  have hp:(jf P me now c).2.2=P:=by
    unfold jf;rw [h];cases jc P.py.ag now me c.a 2 != 0
    · cases !ig c.b 0 (((nth P.py.ag (ib P.py.ag now me c.a)).Po.length:Int) - 1)<;>rfl
    · rfl
  have h1:(c.Pf==1)=false:=by
    have:c.Pf=7:=by simpa using h
    rw [this];rfl
  unfold fin;rw [hp,h1];cases (jf P me now c).1==0<;>rfl
theorem NI (hN:gT≤N) (hw:Wq w) (ok:jD w=true) (hp:jb w p=true) (hq:jb w q=true) (c:iA):qe N w p q c=some ((vi w p q c).1,(vi w p q c).2.1):=by
  obtain ⟨q1,q2⟩:=jF hq;unfold qe vi;simp only [yC hN hw hp hq hp,PB];cases pF w p q p
  · rfl
  simp only [PE,PC,q1,PB,pM hN (jh hw.nG q2),JZ hN (hw.Lt ok q2)]
theorem Mw (hN:gT≤N) (hw:Wq w) (ok:jD w=true) (hp:jb w p=true) (hq:jb w q=true) (hk:(c.Pf==7)=true):sD N w p q c=some (vr (vi w p q c)):=by
  obtain ⟨p1,p2⟩:=jF hp;obtain ⟨q1,q2⟩:=jF hq;obtain ⟨q0,q9⟩:=zt hq
  have hc:c.Pf=7:=by simpa using hk
  unfold sD vi pF;simp only [p1,q1,PB,ye hN (jY (jh hw.nG p2)).2.1 (jY (jh hw.nG q2)).1 (jY (jh hw.nG p2)).1];cases rE (nth w.parts p).own (nth w.parts q).Pe (nth w.parts p).Pe
  · rfl
  simp only [PE,PC,Il hN (hw.Lt ok q2) q w.Pt (c:=c) (by rw [hc];rfl) (by rw [hc];rfl),PB,B6];rw [Kv hk];simp only [PB];rw [show w.parts.set q.toNat (bh.mk (nth w.parts q).Pe (nth w.parts q).own (nth w.parts q).Pg (g7.mk (nth w.parts q).py.ag (i7.mk (nth w.parts q).py.gc.Ph (nth w.parts q).py.gc.Pr (nth w.parts q).py.gc.Pj (nth w.parts q).py.gc.gQ)) (nth w.parts q).gR (nth w.parts q).Pn (nth w.parts q).Pp (nth w.parts q).cd (nth w.parts q).g5 (nth w.parts q).Pm)=w.parts from nv (o9 q0 q9)];unfold vr bne;cases (jf (nth w.parts q) q w.Pt c).1==0<;>rfl
theorem M1 (hN:gT≤N) (hw:Wq w) (ok:jD w=true) (hp:jb w p=true) (hq:jb w q=true) (c:iA):o7 N w p q c=some ((u6 w p q c).1,(u6 w p q c).2.2):=by
  obtain ⟨q1,q2⟩:=jF hq;have ar:=jQ (xp ok q2);have hb:=(jY (jh hw.nG q2)).2.2.2.1;unfold o7 u6;simp only [lQ,yC hN hw hp hp hq,PB];cases ig c.b 0 999
  · rfl
  cases pF w p p q
  · rfl
  simp only [PE,PC,q1,PB,vH hN hb];have hg:=vO (l:=(nth w.parts q).py.ag) (now:=w.Pt) (me:=q) (h:=c.a) ar.len;generalize ib (nth w.parts q).py.ag w.Pt q c.a=g at *;unfold yH
  have e:(bif decide (g ≥ 0) then (idx (nth w.parts q).py.ag g).bind fun y45=>bif y45.Pf==3 then some (decide ((y45.Pk.length:Int)<2)) else some false else some false)=some (oW (nth w.parts q).py.ag g):=by
    unfold oW;cases h:decide (g ≥ 0)
    · rfl
    have h:=of_decide_eq_true h;rw [i9 h (hg h),PB];simp only [PD,PF,kI]
  rw [e,PB];cases h:oW (nth w.parts q).py.ag g
  · rfl
  have h':=h;unfold oW at h';simp only [PG,decide_eq_true_eq] at h';rw [PD,i9 h'.1 (hg h'.1),PB,BY (by omega)];rfl
theorem Nd (hN:gT≤N) (hw:Wq w) (ok:jD w=true) (hp:jb w p=true) (hq:jb w q=true) (c:iA):sq N w p q c=some (vr (u6 w p q c)):=by
  obtain ⟨p1,p2⟩:=jF hp;obtain ⟨q1,q2⟩:=jF hq;have ar:=jQ (xp ok q2);have hb:=(jY (jh hw.nG q2)).2.2.2.1;unfold sq u6 pF;simp only [lv,p1,q1,ye hN (jY (jh hw.nG p2)).2.1 (jY (jh hw.nG p2)).1 (jY (jh hw.nG q2)).1,PB];cases ig c.b 0 999
  · rfl
  cases rE (nth w.parts p).own (nth w.parts p).Pe (nth w.parts q).Pe
  · rfl
  simp only [PE,PC,PB,vF hN hb (hw.w _ q2)];have hg:=vO (l:=(nth w.parts q).py.ag) (now:=w.Pt) (me:=q) (h:=c.a) ar.len;generalize ib (nth w.parts q).py.ag w.Pt q c.a=g at *;unfold yH
  have e:(bif decide (g<0) then some true else (idx (nth w.parts q).py.ag g).bind fun y84=>bif y84.Pf != 3 then some true else some (decide ((y84.Pk.length:Int) ≥ 2)))=some (!oW (nth w.parts q).py.ag g):=by
    unfold oW
    by_cases h:g<0
    · rw [decide_eq_true h,decide_eq_false (show ¬ g ≥ 0 by omega)];rfl
    rw [decide_eq_false h,decide_eq_true (show g ≥ 0 by omega),PC,i9 (by omega) (hg (by omega)),PB,j1,PF,Bool.not_and];unfold bne
    by_cases k:((nth (nth w.parts q).py.ag g).Pk.length:Int)<2
    · rw [decide_eq_true k,decide_eq_false (show ¬ ((nth (nth w.parts q).py.ag g).Pk.length:Int) ≥ 2 by omega)];rfl
    · rw [decide_eq_false k,decide_eq_true (show ((nth (nth w.parts q).py.ag g).Pk.length:Int) ≥ 2 by omega)];rfl
  rw [e,PB];cases h:oW (nth w.parts q).py.ag g
  · rfl
  have h':=h;unfold oW at h';simp only [PG,decide_eq_true_eq] at h';rw [PE,PC,i9 h'.1 (hg h'.1),PB,jS (Nat.lt_trans (show _<2 by omega) (by decide)),PB,BY (by omega)];rfl
theorem N9 (hN:gT≤N) (hw:Wq w) (ok:jD w=true) (hp:jb w p=true) (hq:jb w q=true) (c:iA):ql N w p q c=some (zF w p q c):=by
  obtain ⟨p1,p2⟩:=jF hp;obtain ⟨p0,p9⟩:=zt hp;have hT:=rW.1 (xi (xp ok p2));unfold ql zF;simp only [p1,zz,yC hN hw hp hp hq,rj N hT.len,PB,j1]
  show (bif (decide (c.d<0) || !kK (uS c)) then _ else _)=_
  cases decide (c.d<0) || !kK (uS c)
  case true=>rfl
  cases pF w p p q
  case false=>rfl
  cases jd (nth w.parts p).Pg c.a
  case false=>rfl
  cases h:decide (((nth w.parts p).gR.length:Int) ≥ 3)
  case true=>rfl
  have h:=of_decide_eq_false h;simp only [PE,PC];rw [BY (by omega),PB,DO p0 p9];rfl
theorem NW (hN:gT≤N) (hw:Wq w) (ok:jD w=true) (hp:jb w p=true) (hq:jb w q=true) (c:iA):ud N w p q c=some (vr (zF w p q c)):=by
  obtain ⟨p1,p2⟩:=jF hp;obtain ⟨q1,q2⟩:=jF hq;obtain ⟨p0,p9⟩:=zt hp;have hT:=xi (xp ok p2);unfold ud zF pF;simp only [p1,q1,zw,ye hN (jY (jh hw.nG p2)).2.1 (jY (jh hw.nG p2)).1 (jY (jh hw.nG q2)).1,s7 hN,hT,PF,PB];cases decide (c.d<0)
  case true=>rfl
  show (bif !kK (uS c) then _ else _)=some (vr (bif !kK (uS c) then _ else _))
  cases kK (uS c)
  case false=>rfl
  cases rE (nth w.parts p).own (nth w.parts p).Pe (nth w.parts q).Pe
  case false=>rfl
  cases jd (nth w.parts p).Pg c.a
  case false=>rfl
  cases h:decide (((nth w.parts p).gR.length:Int) ≥ 3)
  case true=>rfl
  have h:=of_decide_eq_false h;simp only [PE,PC];rw [jS (Nat.lt_trans (show _<3 by omega) (by decide)),PB,BY (by omega),PB,PB,DO p0 p9];rfl
theorem FH (hN:gT+1≤N) (hw:Wq w) (p th:Int) (c:iA):pU N w p th c=some (ot w p th c):=by
  have hN':gT≤N:=Nat.le_of_succ_le hN;have hl:=jj hw.nG;unfold pU ot;simp only [sN hN' hw.nG,w8 hN' hw.nG,wU hl,PB,j1];cases hok:!jD w || !jb w p
  case true=>rfl
  have hok:jD w=true∧jb w p=true:=by simpa using hok
  obtain ⟨ok,hp⟩:=hok;obtain ⟨p1,p2⟩:=jF hp;simp only [PC,p1,PB,B4 hN' (jh hw.nG p2)];cases hc:mu (nth w.parts p) w.Pt th
  case false=>rfl
  simp only [PE,PC,F9 hl,PB];cases ho:decide (other w p c<0)
  case true=>rfl
  have hq:=uU ho;generalize other w p c=q at *;simp only [PC];cases c.Pf==7
  case true=>simp only [PD,NI hN' hw ok hp hq,PB];rw [← DR,JI];rfl
  cases c.Pf==17
  case true=>simp only [PD,PC,M1 hN' hw ok hp hq,PB];unfold u6;cases ig c.b 0 999<;>cases pF w p p q<;>rfl
  cases c.Pf==16
  case true=>simp only [PD,PC,N9 hN' hw ok hp hq,PB];rw [← DR];rfl
  simp only [PC,Ie hN (hw.each _ p2) (hw.w _ p2),PB];rfl
theorem Fp (hN:gT≤N) (hw:Wq w) (p th:Int) (c:iA):qj N w p th c=some (ot w p th c):=by
  have hl:w.parts.length<16777216:=jj hw.nG;unfold qj ot;simp only [vh hN hw.nG,wR hN hw.nG hw.w,lv,PB,j1];rw [jg (by omega) (by omega),show ig p 0 ((w.parts.length:Int) - 1)=jb w p from rfl];cases hok:!jD w || !jb w p
  case true=>rfl
  have hok:jD w=true∧jb w p=true:=by simpa using hok
  obtain ⟨ok,hp⟩:=hok;obtain ⟨p1,p2⟩:=jF hp;simp only [PC,p1,PB,Ci hN (jh hw.nG p2) (hw.w _ p2)];cases hc:mu (nth w.parts p) w.Pt th
  case false=>rfl
  simp only [PE,PC,Ft hl,PB,HH hN (hw.each _ p2) (hw.w _ p2)]
  have hself:((c.Pf==7) || ((c.Pf==17) || (c.Pf==16)))=false→decide (other w p c<0)=false:=fun h=>by
    have h0:=zt hp;simp only [Bool.or_eq_false_iff] at h;unfold other target;rw [h.1,h.2.1,h.2.2];simp only [Bool.or_self,Bool.false_eq_true,if_false,hp,if_true];exact decide_eq_false (by omega)
  cases k7:c.Pf==7
  case true =>
    simp only [PD,PB];cases ho:decide (other w p c<0)
    case true=>rfl
    simp only [PC,Mw hN hw ok hp (uU ho) k7,PB]
  cases k17:c.Pf==17
  case true =>
    simp only [PD,PC,PB];cases ho:decide (other w p c<0)
    case true=>rfl
    simp only [PC,Nd hN hw ok hp (uU ho),PB]
  cases k16:c.Pf==16
  case true =>
    simp only [PD,PC,PB];cases ho:decide (other w p c<0)
    case true=>rfl
    simp only [PC,NW hN hw ok hp (uU ho),PB]
  rw [hself (by rw [k7,k17,k16];rfl)];simp only [PC,PB];rfl
end
end Go.Kx
namespace Go.Kx
open Go
open Go.IntKind (i64)
set_option linter.unusedVariables false
set_option linter.unusedSimpArgs false
set_option maxRecDepth 10000
theorem Jt {p:bh} (hp:lu p) {now me h:Int} (n:Int):sj p (yH p (ib p.py.ag now me h) n):=by
  unfold yH;have hg:=vO (l:=p.py.ag) (now:=now) (me:=me) (h:=h) hp.ar.len;generalize ib p.py.ag now me h=g at *;cases q:oW p.py.ag g
  · exact nX rfl rfl rfl (by show iQ hY p.py.ag≤_;omega) (Nat.le_succ _) (Nat.le_refl _) hp.w rfl
  · unfold oW at q;simp only [PG,decide_eq_true_eq] at q;have hl:=hp.ar.len;have g9:=hg q.1;have ho:=oG hp.ar q.1 (by omega);have hwi:nC (nth p.py.ag g):=hp.w _ (kZ q.1 g9);refine nX rfl rfl rfl (Nat.le_trans (u9 ?_) (by omega)) (Nat.le_succ _) (Nat.le_refl _) (kD hp.w hwi) List.length_set;unfold hY at ho;unfold hY oX;simp only [List.length_append,List.length_cons,List.length_nil];omega
theorem L3 {p:bh} (hp:lu p) (t:iB):sj p (yp p (p.gR++[t])):=by
  refine ⟨?_,hp.w,rfl⟩;unfold ic yp;simp only [List.length_append,List.length_cons,List.length_nil];omega
theorem LM {w:hJ} (hw:Wq w) (p th:Int) (c:iA):(ot w p th c).1=w∨∃ q z,jb w q=true∧sj (nth w.parts q) z∧(ot w p th c).1=uy w q z:=by
  unfold ot;cases hok:!jD w || !jb w p
  case true=>exact .inl rfl
  have hok:jD w=true∧jb w p=true:=by simpa using hok
  obtain ⟨ok,hp⟩:=hok;obtain ⟨p1,p2⟩:=jF hp;have pp:=hw.Lt ok p2;cases hc:mu (nth w.parts p) w.Pt th
  case false=>exact .inl rfl
  cases ho:decide (other w p c<0)
  case true=>exact .inl rfl
  have hq:=uU ho;generalize other w p c=q at *;obtain ⟨q1,q2⟩:=jF hq;have pq:=hw.Lt ok q2;simp only [PC,PE]
  have f3:∀ r:Int×Int×hJ,(vr r).1=r.2.2:=fun r=>by unfold vr;cases r.1 != 0<;>rfl
  cases c.Pf==7
  case true=>rw [PD,f3,JI];exact .inl rfl
  cases c.Pf==17
  case true =>
    rw [PC,PD,f3];unfold u6;cases ig c.b 0 999
    case false=>exact .inl rfl
    cases pF w p p q
    case false=>exact .inl rfl
    exact .inr ⟨q,_,hq,Jt pq c.b,rfl⟩
  cases c.Pf==16
  case true =>
    rw [PC,PC,PD,f3];unfold zF;cases decide (c.d<0) || !kK (uS c)
    case true=>exact .inl rfl
    cases pF w p p q
    case false=>exact .inl rfl
    cases jd (nth w.parts p).Pg c.a
    case false=>exact .inl rfl
    cases decide (((nth w.parts p).gR.length:Int) ≥ 3)
    case true=>exact .inl rfl
    exact .inr ⟨p,_,hp,L3 pp (uS c),rfl⟩
  have h:=Mm pp.sz pp.w p w.Pt th c;exact .inr ⟨p,_,hp,⟨h.1,h.2,Ko pp.sz pp.w p w.Pt th c⟩,rfl⟩
end Go.Kx
namespace Go.Kx
open Go
open Go.IntKind (i64)
set_option linter.unusedVariables false
set_option linter.unusedSimpArgs false
set_option maxRecDepth 10000
def AE (p:bh) (t:Int):bh:=bh.mk p.Pe p.own p.Pg p.py p.gR p.Pn (i64.wrap (t+1)) p.cd p.g5 p.Pm
def wG (w:hJ) (e:iK):hJ:=bif jD w&&(jb w e.Pc&&ig e.ir 0 9) then uy w e.Pc (AE (nth w.parts e.Pc) e.ir) else w
def xk (w:hJ) (e:iK):hJ×hX :=
  bif e.Pf==1 then (tick w,hX.mk 0 0) else bif e.Pf==2 then ot w e.Pc e.ir e.call else bif e.Pf==3 then (wG w e,hX.mk 0 0) else (w,hX.mk 2 0)
structure Wt (w:hJ):Prop where
  q:Wq w
  t:jD w=true→uZ w.parts.length 0 (hJ.mk (i64.wrap (w.Pt+1)) w.parts)
theorem Nu {N:Nat} (hN:gT+1≤N) {w:hJ} (hw:Wt w) (e:iK):wv N w e=some (xk w e):=by
  have hN':gT≤N:=Nat.le_of_succ_le hN;have hb:=hw.q.nG;unfold wv xk;cases e.Pf==1
  case true=>simp only [PD,Mq hN' hb hw.q.w hw.t,PB]
  cases e.Pf==2
  case true=>simp only [PD,PC,FH hN hw.q,PB]
  cases e.Pf==3
  case false=>simp only [PC,sN hN' hb,PB]
  simp only [PD,PC,sN hN' hb,w8 hN' hb,wU (jj hb),tg,PB];unfold wG;cases jD w
  · rfl
  cases hp:jb w e.Pc
  · rfl
  cases ig e.ir 0 9
  · rfl
  simp only [PD,Bool.and_self,PB,(jF hp).1];rfl
theorem Nl {N:Nat} (hN:gT≤N) {w:hJ} (hw:Wt w) (e:iK):wz N w e=some (xk w e):=by
  have hb:=hw.q.nG;have hl:w.parts.length<16777216:=jj hb;unfold wz xk;cases e.Pf==1
  case true=>simp only [PD,LJ hN hb hw.q.w hw.t,PB]
  cases e.Pf==2
  case true=>simp only [PD,PC,Fp hN hw.q,PB]
  cases e.Pf==3
  case false=>simp only [PC,vh hN hb,PB]
  simp only [PD,PC,vh hN hb,wR hN hb hw.q.w,lv,qV,PB];rw [jg (by omega) (by omega),show ig e.Pc 0 ((w.parts.length:Int) - 1)=jb w e.Pc from rfl];unfold wG;cases jD w
  · rfl
  cases hp:jb w e.Pc
  · rfl
  cases ig e.ir 0 9
  · rfl
  simp only [PD,Bool.and_self,PB,(jF hp).1];rfl
theorem Mp (w:hJ) (e:iK):wG w e=w∨(jD w=true∧jb w e.Pc=true∧(0≤e.ir∧e.ir≤9)∧wG w e=uy w e.Pc (AE (nth w.parts e.Pc) e.ir)):=by
  unfold wG;cases h:jD w&&(jb w e.Pc&&ig e.ir 0 9)
  · exact .inl rfl
  · simp only [PG,iW] at h;exact .inr ⟨h.1,h.2.1,h.2.2,rfl⟩
end Go.Kx
namespace Go.Kx
open Go
open Go.IntKind (i64)
set_option linter.unusedVariables false
set_option linter.unusedSimpArgs false
set_option maxRecDepth 10000
structure Sg (c:Nat) (w:hJ):Prop where
  len:w.parts.length≤3
  sz:∀ p,p ∈ w.parts→ic p≤c∧wP p
theorem Sg.mono {c d:Nat} {w:hJ} (h:Sg c w) (hd:c≤d):Sg d w:=⟨h.len,fun p hp=>⟨Nat.le_trans (h.sz p hp).1 hd,(h.sz p hp).2⟩⟩
theorem Sg.nG {c:Nat} {w:hJ} (h:Sg c w) (hc:c≤1048576):iQ ic w.parts<gT:=by
  have hB:(16777216:Nat)=gT:=rfl;have h1:gW ic w.parts≤c * w.parts.length:=zB fun y hy=>(h.sz y hy).1;have h4:c * w.parts.length≤1048576 * 3:=Nat.mul_le_mul hc h.len;have:=h.len;unfold iQ;omega
theorem Sg.t {c:Nat} {w:hJ} (h:Sg c w) (hc:c≤1048576):Wt w :=
  ⟨⟨h.nG hc,fun p hp=>by have:=(h.sz p hp).1;omega,fun p hp=>(h.sz p hp).2⟩,fun hw=>⟨rfl,(BM hw).2.1,fun p hp=>⟨by have:=(h.sz p hp).1;omega,(h.sz p hp).2⟩⟩⟩
theorem Sg.gR {c:Nat} {t:hJ} (h:Sg c t) (p:Int):Sg c (iv t p)∧(iv t p).parts.length=t.parts.length:=by
  obtain ⟨_,h2,h3⟩:=Co t p;refine ⟨⟨by rw [h2];exact h.len,fun q hq=>?_⟩,h2⟩;obtain ⟨y,hy,e1,e2⟩:=h3 q hq;obtain ⟨a,b⟩:=h.sz y hy;exact ⟨by omega,by unfold wP at *;rw [e2];exact b⟩
theorem Sg.step {c n k:Nat} {t:hJ} (h:Sg c t) (hk:k<t.parts.length) (hc:c≤2000000):Sg (c+1300) (lT n k t)∧(lT n k t).parts.length=t.parts.length:=by
  obtain ⟨hT,hl⟩:=h.gR (k:Int)
  have e:(lT n k t).parts.length=t.parts.length:=by
    show ((iv t (k:Int)).parts.set k _).length=_
    rw [List.length_set];exact hl
  refine ⟨⟨by rw [e];exact h.len,fun q hq=>?_⟩,e⟩
  rcases List.mem_or_eq_of_mem_set (show q ∈ (iv t (k:Int)).parts.set k _ from hq) with h1 | h1
  · obtain ⟨a,b⟩:=hT.sz q h1;exact ⟨by omega,b⟩
  · subst h1;obtain ⟨a,b⟩:=hT.sz _ (kZ (l:=(iv t (k:Int)).parts) (i:=(k:Int)) (by omega) (by omega));exact zW (n:=n) a (by omega) b (k:Int) (iv t (k:Int)).Pt
theorem KY {n:Nat}:∀ (l:List bh) (k c:Nat) (t:hJ),k+l.length=t.parts.length→c+1300 * l.length≤2000000→Sg c t→Sg (c+1300 * l.length) (foldI (fun k t (_:bh)=>lT n k t) k t l)
  | [],k,c,t,_,_,h=>h
  | y::l,k,c,t,hk,hc,h=>by
    simp only [List.length_cons] at hk hc ⊢;obtain ⟨a,b⟩:=h.step (n:=n) (k:=k) (by omega) (by omega);have:=KY (n:=n) l (k+1) (c+1300) (lT n k t) (by omega) (by omega) a;exact this.mono (by omega)
theorem Sg.tick {c:Nat} {w:hJ} (h:Sg c w) (hc:c≤1000000):Sg (c+3900) (tick w):=by
  unfold Kx.tick;split
  · have hl:=h.len;exact (KY w.parts 0 c (hJ.mk (i64.wrap (w.Pt+1)) w.parts) (by dsimp only;omega) (by omega) ⟨h.len,h.sz⟩).mono (by omega)
  · exact h.mono (by omega)
theorem Sg.put {c:Nat} {w:hJ} (h:Sg c w) {q:Int} {z:bh} (hz:ic z≤c+300∧wP z):Sg (c+300) (uy w q z):=by
  refine ⟨by show (w.parts.set _ _).length≤3;rw [List.length_set];exact h.len,fun y hy=>?_⟩
  rcases List.mem_or_eq_of_mem_set (show y ∈ w.parts.set q.toNat z from hy) with a | rfl
  · have:=h.sz y a;exact ⟨by omega,this.2⟩
  · exact hz
theorem Sg.xk {c:Nat} {w:hJ} (h:Sg c w) (hc:c≤1000000) (e:iK):Sg (c+3900) (xk w e).1:=by
  unfold Kx.xk;cases e.Pf==1
  case true=>exact h.tick hc
  cases e.Pf==2
  case true =>
    show Sg (c+3900) (ot w e.Pc e.ir e.call).1
    rcases LM (h.t (by omega)).q e.Pc e.ir e.call with q | ⟨q,z,hq,hn,e2⟩
    · rw [q];exact h.mono (by omega)
    · rw [e2];have:=h.sz _ (jF hq).2;have:=hn.sz;exact (h.put ⟨by omega,hn.w⟩).mono (by omega)
  cases e.Pf==3
  case false=>exact h.mono (by omega)
  show Sg (c+3900) (wG w e)
  rcases Mp w e with q | ⟨_,hp,_,q⟩
  · rw [q];exact h.mono (by omega)
  · rw [q];have:=h.sz _ (jF hp).2;have h3:ic (AE (nth w.parts e.Pc) e.ir)=ic (nth w.parts e.Pc):=rfl;have h4:=this.1;exact (h.put (q:=e.Pc) (z:=AE (nth w.parts e.Pc) e.ir) ⟨by omega,this.2⟩).mono (by omega)
def xE (t:hJ×List hX) (e:iK):hJ×List hX:=((xk t.1 e).1,t.2++[(xk t.1 e).2])
def KC (w:hJ) (l:List iK):hJ×List hX:=l.foldl xE (w,[])
def yk (b:List iO) (l:List iK):hJ×List hX:=bif !m9 b || decide ((l.length:Int) > 200) then (hJ.mk 0 [],[]) else KC (nJ b) l
theorem BB {α τ:Type} (f:τ→α→τ):∀ (l:List α) (k:Nat) (t:τ),foldI (fun _ t y=>f t y) k t l=l.foldl f t
  | [],_,_=>rfl
  | y::l,k,t=>BB f l (k+1) (f t y)
structure Pl (c k:Nat) (t:hJ×List hX):Prop where
  sg:Sg (c+3900 * k) t.1
  len:t.2.length=k
theorem Pl.step {c k:Nat} {t:hJ×List hX} (h:Pl c k t) (hc:c≤200000) (hk:k<200) (e:iK):Pl c (k+1) (xE t e) :=
  ⟨(h.sg.xk (by omega) e).mono (by omega),by show (t.2++[_]).length=_;rw [List.length_append,h.len];rfl⟩
theorem B7:∀ (l:List iO) (a:hO),uB a l=true→∀ x,x ∈ l→Eu x=true
  | [],_,_,x,hx=>by simp at hx
  | y::l,a,h,x,hx=>by
    unfold uB at h;simp only [PG] at h
    rcases List.mem_cons.1 hx with rfl | hx
    · have ha:iN x.j6=true:=by
        have:=h.1;unfold kt at this;split at this
        · rename_i q;simp only [PG] at q;exact q.1.2
        · simp at this
      unfold Eu;rw [ha,h.2.1,h.2.2.1];rfl
    · exact B7 l _ h.2.2.2 x hx
theorem I9 {l:List Int} (h:lP l=true):∀ (k:Nat) (y:Int),l[k]?=some y→(k:Int)≤y∧y≤3
  | 0,y,hy=>by
    have:=l7.1 h 0 y hy;unfold we at this;simp only [PG,iW] at this;omega
  | k+1,y,hy=>by
    have hk:=je hy;have h0:=I9 h k l[k] (List.getElem?_eq_getElem (by omega));have:=l7.1 h (k+1) y hy;unfold we at this;simp only [PG,iW,Nat.zero_add] at this;have h2:=this.2;simp [List.getElem?_eq_getElem (show k<l.length by omega)] at h2;omega
theorem ja {l:List Int} (h:lP l=true):l.length≤4:=by
  by_cases q:l.length≤4
  · exact q
  · have:=I9 h 4 l[4] (List.getElem?_eq_getElem (by omega));omega
theorem MB {b:iO} (h:Eu b=true):jm b≤100:=by
  unfold Eu at h;simp only [PG] at h;have h1:=(sG.1 h.2.1).1;have h2:=ja h.2.2;unfold jm jU;omega
theorem LB {b:List iO} (h:m9 b=true):Sg 200 (nJ b):=by
  unfold nJ;rw [if_pos h];unfold m9 at h;rw [PG,iW] at h;have hk:=B7 b _ h.1;refine ⟨by show (tm b).length≤3;unfold tm;rw [List.length_map];omega,fun p hp=>?_⟩;obtain ⟨x,hx,rfl⟩:=List.mem_map.1 (show p ∈ b.map _ from hp);have ok:=hk x hx;rw [show (qo x).1=zA x from by unfold qo;rw [if_pos ok]];refine ⟨?_,fun o ho=>?_⟩
  · rw [Bk];have:=MB ok;omega
  · have:∀ o ∈ Iu, -9223372036854775808≤o.Pq:=by decide
    exact this o ho
end Go.Kx
namespace Go.Kx
open Go
open Go.IntKind (i64)
set_option linter.unusedVariables false
set_option linter.unusedSimpArgs false
set_option maxRecDepth 10000
theorem Pl.t {k:Nat} {t:hJ×List hX} (h:Pl 200 k t) (hk:k<200):Wt t.1:=h.sg.t (by omega)
theorem MP {b:List iO} (h:m9 b=true):Pl 200 0 (nJ b,([]:List hX)):=⟨by simpa using LB h,rfl⟩
theorem xZ {b:List iO} {l:List iK} (h:(!m9 b || decide ((l.length:Int) > 200))=false):m9 b=true∧l.length≤200:=by
  simp only [Bool.or_eq_false_iff,Bool.not_eq_false',decide_eq_false_iff_not] at h;exact ⟨h.1,by omega⟩
theorem MR {N:Nat} (hN:gT+1≤N) {b:List iO} {l:List iK} (hb:iQ jm b<gT):uv N b l=some (yk b l):=by
  have hN':gT≤N:=Nat.le_of_succ_le hN;have hB:(16777216:Nat)=gT:=rfl;unfold uv yk;simp only [DQ hN' hb,PB,j1];cases h:!m9 b || decide ((l.length:Int) > 200)
  case true=>rfl
  obtain ⟨ok,hl⟩:=xZ h;simp only [PC,HE hN hb,PB];refine Eq.trans (congrArg (fun o=>Option.bind o _) (j0 l (fun k (t:hJ×List hX)=>(t.2,(k:Int),t.1.Pt,t.1.parts)) (fun _ t e=>xE t e) (fun t=>(t.2,(l.length:Int),t.1.Pt,t.1.parts)) (Pl 200) ?_ ?_ (show l.length<N by omega) (t:=(nJ b,[])) (MP ok))) (by rw [BB];rfl)
  · intro k t e hy hk hI;refine ⟨?_,hI.step (by decide) (by omega) e⟩;have h2:=hI.len;simp only [iF hk,PD,ik,hy,PB,show hJ.mk t.1.Pt t.1.parts=t.1 from rfl,Nu hN (hI.t (by omega)),BY (t:=t.2) (by omega),iJ (show k<gT by omega)];rfl
  · intro t _;simp only [iG,PC]
theorem Mv {N:Nat} (hN:gT≤N) {b:List iO} {l:List iK} (hb:iQ jm b≤1048576):vW N b l=some (yk b l):=by
  have hB:(16777216:Nat)=gT:=rfl;unfold vW yk;simp only [Eh hN (show iQ jm b<gT by omega),PB,j1];cases h:!m9 b || decide ((l.length:Int) > 200)
  case true=>rfl
  obtain ⟨ok,hl⟩:=xZ h;simp only [PC,Hm hN hb,PB];refine Eq.trans (congrArg (fun o=>Option.bind o _) (j0 l (fun k (t:hJ×List hX)=>(t.2,(k:Int),t.1.Pt,t.1.parts)) (fun _ t e=>xE t e) (fun t=>(t.2,(l.length:Int),t.1.Pt,t.1.parts)) (Pl 200) ?_ ?_ (show l.length<N by omega) (t:=(nJ b,[])) (MP ok))) (by rw [BB];rfl)
  · intro k t e hy hk hI;refine ⟨?_,hI.step (by decide) (by omega) e⟩;have h2:=hI.len;simp only [iF hk,PD,ik,hy,PB,show hJ.mk t.1.Pt t.1.parts=t.1 from rfl,Nl hN (hI.t (by omega)),BY (t:=t.2) (by omega),iJ (show k<gT by omega)];rfl
  · intro t _;simp only [iG,PC]
theorem GK {l:List iK}:∀ (m:List iK) (k:Nat) (t:hJ×List hX),k+m.length≤200→Pl 200 k t→Pl 200 (k+m.length) (m.foldl xE t)
  | [],k,t,_,h=>h
  | e::m,k,t,hk,h=>by
    simp only [List.length_cons] at hk ⊢;have:=GK (l:=l) m (k+1) (xE t e) (by omega) (h.step (by decide) (by omega) e)
    rwa [show k+(m.length+1)=k+1+m.length by omega]
theorem Lx (b:List iO) (l:List iK):Sg 780200 (yk b l).1∧(yk b l).2.length≤l.length:=by
  unfold yk;cases h:!m9 b || decide ((l.length:Int) > 200)
  · obtain ⟨ok,hl⟩:=xZ h;have:=GK (l:=l) l 0 (nJ b,[]) (by omega) (MP ok);rw [Nat.zero_add] at this;exact ⟨this.sg.mono (by omega),Nat.le_of_eq this.len⟩
  · exact ⟨⟨Nat.zero_le _,fun p hp=>by simp at hp⟩,Nat.zero_le _⟩
end Go.Kx
namespace Go.Kx
open Go
open Go.IntKind (i64)
set_option linter.unusedVariables false
set_option linter.unusedSimpArgs false
set_option maxRecDepth 10000
theorem CQ {x:List iO} {e:List iK} (hx:Fit.fit x) (he:Fit.fit e):∃ N,oq N x e=some true:=by
  suffices h:∀ N,gT+1≤N→oq N x e=some true from ⟨gT+1,h (gT+1) (Nat.le_refl _)⟩
  intro N hN';have hN:gT≤N:=Nat.le_of_succ_le hN';unfold oq;refine guard (by decide) (by decide) (KP hN (by decide) (by decide) hx) fun b h0 h1 hs=>?_;refine guard h0 h1 (Jg hN h0 h1 he) fun b h0 h1 hs2=>?_;have hB:(16777216:Nat)=gT:=rfl;have b1:iQ jm x<gT:=small hs;have b2:e.length<gT:=small hs2;obtain ⟨g1,g2⟩:=Lx x e;simp only [Kg hN b1,IN hN b2,Mv hN hs,MR hN' b1,PB];generalize yk x e=r at *;obtain ⟨q,v⟩:=r;simp only at g1 g2 ⊢;have gb:=g1.nG (by decide)
  have b3:pA q<gT:=by unfold pA;omega
  have b4:v.length<gT:=by omega
  have s1:=Ch x;have s2:=Br e;have s3:=Cb q.parts;have s4:=A7 v;have n1:decide (1+((gW mY x:Nat):Int)+((gW mn e:Nat):Int)<0)=false:=decide_eq_false (by omega);have n2:decide (1+((gW jL q.parts:Nat):Int)<0)=false:=decide_eq_false (by omega);have n3:decide (1+((gW jL q.parts:Nat):Int)+((gW km v:Nat):Int)<0)=false:=decide_eq_false (by omega)
  simp only [Ki hN b3,IH hN b4,Ky hN b1,IV hN b2,PB,PE,PC,Ge hN (n:=1) b1 (by decide) (by omega),Dp hN (n:=1+((gW mY x:Nat):Int)) b2 (by omega) (by omega),
    E6 hN (n:=1) b3 (by decide) (by omega),D1 hN (n:=1+((gW jL q.parts:Nat):Int)) b4 (by omega) (by omega),kc (kf _ _ _ _),n1,n2,n3,
    Gd hN (n:=1) (x:=q) (z:=hJ.mk q.Pt (jV tG jL 1 q.parts)) b3 (by decide) (by omega) rfl,DM hN (n:=1+((gW jL q.parts:Nat):Int)) b4 (by omega) (by omega),bne_self_eq_false]
end Go.Kx
