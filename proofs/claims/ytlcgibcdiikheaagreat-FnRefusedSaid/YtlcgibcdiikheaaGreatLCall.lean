import Derived.Test.YtlcgibcdiikheaaGreatLSum
namespace Go.Kx
open Go
open Go.IntKind (i64)
set_option linter.unusedVariables false
set_option linter.unusedSimpArgs false
set_option maxRecDepth 10000
theorem wO (p:cd):cd.mk p.PB p.own p.PC p.py p.ia p.PJ p.PI p.hY p.ik p.PH=p:=rfl
theorem wo (g:jv):jv.mk g.PD g.PL g.PF g.hZ=g:=rfl
theorem wK (h:il):il.mk h.ag h.gc=h:=rfl
theorem Nn (a:ic):ic.mk a.bh a.ib a.ij=a:=rfl
def jq (l:List gE) (now me h kind:Int):Int:=bif nG h then (bif nW h != me then 3 else (bif decide (iy l now me h<0) then 4 else (bif (kind != 0)&&((nth l (iy l now me h)).Pz != kind) then 5 else 0))) else 2
theorem za {l:List gE} {now me h:Int} (q:decide (iy l now me h<0)=false):Ar l∧0≤iy l now me h∧iy l now me h≤9∧(nth l (iy l now me h)).Pz ≠ 0:=by
  unfold iy at *;cases hg:Az l now me h
  · rw [hg] at q;simp at q
  · simp only [PV];unfold Az at hg;simp only [PY] at hg;obtain ⟨⟨h1,h2,_⟩,h3,_⟩:=hg;obtain ⟨a,b⟩:=Am h2;exact ⟨j7.1 h1,a,b,by simpa using h3⟩
theorem kV {l:List gE} {now me h k:Int} (q:jq l now me h k=0):Ar l∧0≤iy l now me h∧iy l now me h≤9∧(nth l (iy l now me h)).Pz ≠ 0∧(k ≠ 0→(nth l (iy l now me h)).Pz=k):=by
  unfold jq at q;cases h1:nG h
  · rw [h1] at q;simp at q
  cases h2:nW h != me
  case true=>rw [h1,h2] at q;simp at q
  cases h3:decide (iy l now me h<0)
  case true=>rw [h1,h2,h3] at q;simp at q
  obtain ⟨a,b,c,d⟩:=za h3;refine ⟨a,b,c,d,fun hk=>?_⟩;rw [h1,h2,h3] at q;simp only [PV,PU] at q
  have hk':(k != 0)=true:=by simpa using hk
  rw [hk'] at q;cases h4:(nth l (iy l now me h)).Pz != k
  · simpa using h4
  · rw [h4] at q;simp at q
theorem xq {N:Nat} (hN:ir≤N) {x:iL} (hb:jr iz x.Py.py.ag<ir) (h k:Int):kC N x h k=some (bif jq x.Py.py.ag x.PQ x.me h k==0 then iy x.Py.py.ag x.PQ x.me h else 0,jq x.Py.py.ag x.PQ x.me h k,x):=by
  unfold kC jq;simp only [pZ,wg,xU hN hb,PT];rw [show iA h 0 29999=nG h from rfl];cases nG h
  · rfl
  cases nW h != x.me
  case true=>rfl
  cases q:decide (iy x.Py.py.ag x.PQ x.me h<0)
  case true=>rfl
  obtain ⟨ar,g0,g9,_⟩:=za q;simp only [PW,PU,(ar.at g0 g9).1,PT];cases k != 0<;>cases (nth x.Py.py.ag (iy x.Py.py.ag x.PQ x.me h)).Pz != k<;>rfl
theorem Bc {N:Nat} (hN:ir≤N) {p:cd} (hb:jr iz p.py.ag<ir) (hw:wP p) (me now h:Int):nA N p me now h=some (bif jq p.py.ag now me h 0==0 then iy p.py.ag now me h else -1,jq p.py.ag now me h 0):=by
  unfold nA jq;simp only [r8,wB,xT hN hb hw,PT];rw [show iA h 0 29999=nG h from rfl];cases nG h
  · rfl
  cases nW h != me
  case true=>rfl
  cases q:decide (iy p.py.ag now me h<0)<;>rfl
theorem A3 {N:Nat} (hN:ir≤N) {p:cd} (hb:jr iz p.py.ag<ir) (hw:wP p) (me now h:Int) {k:Int} (hk:0<k):nX N p me now h k=some (bif jq p.py.ag now me h k==0 then iy p.py.ag now me h else -1,jq p.py.ag now me h k):=by
  unfold nX;rw [Bc hN hb hw];have k1:decide (k > 0)=true:=decide_eq_true hk
  have k2:(k != 0)=true:=by simp;omega
  simp only [PT,k1,PV];unfold jq;rw [k2];cases nG h
  · rfl
  cases nW h != me
  case true=>rfl
  cases q:decide (iy p.py.ag now me h<0)
  case true=>rfl
  obtain ⟨ar,g0,g9,_⟩:=za q;simp only [bne_self_eq_false,Bool.false_and,PX,PV,PU,beq_self_eq_true,(ar.at g0 g9).1,PT];cases (nth p.py.ag (iy p.py.ag now me h)).Pz != k<;>rfl
def qE (h:il) (i:Int):il:=bif kB h&&iA i 0 9 then mb h i else h
theorem IF {N:Nat} (hN:ir≤N) {h:il} (h1:jr iz h.ag<ir) (h2:h.gc.hZ.length+1<ir) (i:Int):px N h i=some (qE h i):=by
  have h2':h.gc.hZ.length<ir:=by omega
  unfold px qE;simp only [xV hN h1 h2',zV hN h1 h2',u9,PT];cases q:kB h
  · rfl
  cases hi:iA i 0 9
  · rfl
  have ar:=o6 q;have hl:=ar.len;rw [iS] at hi;simp only [PV,PT,Bool.and_self,MJ hN hi.1 (show i<(h.ag.length:Int) by omega) h2]
theorem JF {N:Nat} (hN:ir≤N) {h:il} (h1:jr iz h.ag<ir) (h2:h.gc.hZ.length+1<ir) (hw:wA h.ag) (i:Int):pt N h i=some (qE h i):=by
  have h2':h.gc.hZ.length<ir:=by omega
  unfold pt qE;simp only [wT hN h1 h2',xJ hN h1 h2' hw,tA,PT];cases q:kB h
  · rfl
  cases hi:iA i 0 9
  · rfl
  have ar:=o6 q;have hl:=ar.len;rw [iS] at hi;simp only [PW,PV,PU,PT,Bool.and_self,AG hN hi.1 (show i<(h.ag.length:Int) by omega) h2]
def linked (o:gE) (b x:Int):gE:=gE.mk o.PO o.Pz o.box o.res o.iK o.bh o.PK o.iP o.iM o.mark (o.ig.set b.toNat x) o.PG o.PE
def boxed (o:gE) (b:Int):gE:=gE.mk o.PO o.Pz b o.res o.iK o.bh o.PK o.iP o.iM o.mark o.ig o.PG o.PE
def written (o:gE) (b x:Int):gE:=gE.mk o.PO o.Pz o.box o.res o.iK o.bh o.PK o.iP o.iM o.mark o.ig (o.PG.set b.toNat x) o.PE
def nR (o:gE) (q:List je):gE:=gE.mk o.PO o.Pz o.box o.res o.iK o.bh o.PK o.iP o.iM o.mark o.ig o.PG q
def waiting (o:gE) (x:Int):gE:=gE.mk o.PO o.Pz o.box o.res o.iK o.bh x o.iP o.iM o.mark o.ig o.PG o.PE
def xI (o:gE) (x:Int):gE:=gE.mk o.PO o.Pz o.box o.res o.iK o.bh o.PK x o.iM o.mark o.ig o.PG o.PE
def mC (p:cd) (h:il):cd:=cd.mk p.PB p.own p.PC h p.ia p.PJ p.PI p.hY p.ik p.PH
def wu (p:cd) (t:List im):cd:=cd.mk p.PB p.own t p.py p.ia p.PJ p.PI p.hY p.ik p.PH
def wq (p:cd) (t:List iZ):cd:=cd.mk p.PB p.own p.PC p.py t p.PJ p.PI p.hY p.ik p.PH
def mD (h:il) (c i:Int):il:=bif decide (c ≥ 0) then qE h i else h
def M4 (p:cd) (i b x:Int):cd:=mC p (mD (il.mk (p.py.ag.set i.toNat (linked (nth p.py.ag i) b x)) p.py.gc) x x)
def mI (p:cd) (me now:Int) (c:iJ):Int×Int×cd :=
  bif !iA c.b 0 1 then (2,0,p) else
  bif jq p.py.ag now me c.a 0 != 0 then (jq p.py.ag now me c.a 0,0,p) else
  bif (c.Pz==2)&&(jq p.py.ag now me c.c 0 != 0) then (jq p.py.ag now me c.c 0,0,p) else
  (0,0,M4 p (iy p.py.ag now me c.a) c.b (bif c.Pz==2 then iy p.py.ag now me c.c else -1))
structure kU (p:cd):Prop where
  ok:iO p=true
  sz:iH p≤3000000
  w:wP p
theorem kU.ar {p:cd} (h:kU p):Ar p.py.ag:=kf h.ok
theorem kU.b4 {p:cd} (h:kU p):jr iz p.py.ag<ir:=(kS (p:=p) (Nat.lt_of_le_of_lt h.sz (by decide))).2.2.2.1
theorem kU.b5 {p:cd} (h:kU p):p.py.gc.hZ.length+1<ir:=by
  have:=h.sz;have hB:(16777216:Nat)=ir:=rfl;unfold iH nj ui at this;omega
theorem oQ {l:List gE} (h:Ar l) {i:Int} (h0:0≤i) (h9:i≤9):iz (nth l i)≤12:=xy (h.ok _ (h.at h0 h9).2)
theorem zj {l:List gE} (h:Ar l) {i:Int} {o:gE} (ho:iz o≤100000):jr iz (l.set i.toNat o)<ir:=Kv h ho _
theorem yX (o:gE) (b x:Int):iz (linked o b x)=iz o:=by unfold iz linked;simp only [List.length_set]
theorem zi {l:List Int} (h:l.length=2) {b:Int} (hb:iA b 0 1=true):idx l b=some (nth l b):=by
  rw [iS] at hb;exact jC hb.1 (by omega)
theorem jX {a:Int} (h:(a != 0)=false):a=0:=by simpa using h
theorem Gz {N:Nat} (hN:ir≤N) {h:il} (h1:jr iz h.ag<ir) (h2:h.gc.hZ.length+1<ir) (c i:Int) {β:Type} (f:il→Option β):(bif decide (c ≥ 0) then (px N h i).bind f else f h)=f (mD h c i):=by
  unfold mD;rw [IF hN h1 h2];cases decide (c ≥ 0)<;>rfl
theorem NN {N:Nat} (hN:ir≤N) {p:cd} (hp:kU p) (me now th:Int) (c:iJ):oS N (iL.mk p me now th) c=some ((mI p me now c).1,iL.mk (mI p me now c).2.2 me now th):=by
  have h4:=hp.b4;unfold oS mI;simp only [nO,xq hN,h4,PT,wo,wK,wO];cases q1:iA c.b 0 1
  · rfl
  cases q2:jq p.py.ag now me c.a 0 != 0
  case true=>rfl
  have q2':=jX q2;obtain ⟨ar,g0,g9,gk,_⟩:=kV q2';have l2:=yQ (ar.ok _ (ar.at g0 g9).2) (by simpa using gk);simp only [PW,PU,q2',beq_self_eq_true,PV];generalize iy p.py.ag now me c.a=i at *;have hs:∀ x,jr iz (p.py.ag.set i.toNat (linked (nth p.py.ag i) c.b x))<ir:=fun x=>zj ar (by rw [yX];have:=oQ ar g0 g9;omega);cases hk:c.Pz==2
  · simp only [PU,PT,Sum.elim_inl,(ar.at g0 g9).1,zi l2 q1,Bool.false_and];rfl
  · cases q3:jq p.py.ag now me c.c 0 != 0
    · have q3':=jX q3;simp only [PV,PU,PT,Sum.elim_inl,(ar.at g0 g9).1,zi l2 q1,Bool.and_false,q3',beq_self_eq_true];generalize iy p.py.ag now me c.c=x;exact Gz (h:=il.mk (p.py.ag.set i.toNat (linked (nth p.py.ag i) c.b x)) p.py.gc) hN (hs x) hp.b5 x x fun y=>some ((0:Int),iL.mk (mC p y) me now th)
    · rfl
def vV (p:cd):cd:=cd.mk p.PB p.own p.PC p.py p.ia p.PJ p.PI p.hY (if 1000000<i64.wrap (p.ik+1) then 1000000 else i64.wrap (p.ik+1)) p.PH
def fin (c:iJ) (p:cd) (r:Int×Int×cd):cd×iG:=bif r.1==0 then (r.2.2,iG.mk 0 r.2.1) else (bif (c.Pz==1)&&((r.1==6) || (r.1==7)) then vV p else p,iG.mk r.1 0)
theorem vy (c:iJ) (p q:cd) (v:Int):fin c p (0,v,q)=(q,iG.mk 0 v):=rfl
theorem mi {c:iJ} {p q:cd} {k v:Int} (h:(k != 0)=true) (hc:(c.Pz==1)=false):fin c p (k,v,q)=(p,iG.mk k 0):=by
  unfold fin
  have:(k==0)=false:=by simpa [bne] using h
  rw [this,hc];rfl
theorem zh {N:Nat} (hN:ir≤N) {h:il} (h1:jr iz h.ag<ir) (h2:h.gc.hZ.length+1<ir) (hw:wA h.ag) (c i:Int) {β:Type} (f:il→Option β):((bif decide (c ≥ 0) then ((pt N h i).bind fun y=>some (y.ag,y.gc.PD,y.gc.PL,y.gc.PF,y.gc.hZ)) else (some (h.ag,h.gc.PD,h.gc.PL,h.gc.PF,h.gc.hZ)):Option ((List gE)×Int×Int×Int×(List Int))).bind fun j=>f (il.mk j.1 (jv.mk j.2.1 j.2.2.1 j.2.2.2.1 j.2.2.2.2)))=f (mD h c i):=by
  unfold mD;rw [JF hN h1 h2 hw];cases decide (c ≥ 0)<;>rfl
theorem M6 {N:Nat} (hN:ir≤N) {p:cd} (hp:kU p) (me now:Int) {c:iJ} (hc:(c.Pz==1)=false):sJ N p me now c=some (fin c p (mI p me now c)):=by
  have h4:=hp.b4;unfold sJ mI;simp only [nE,Bc hN h4 hp.w,PT];cases q1:iA c.b 0 1
  · simp only [Bool.not_false,PV,mi (show ((2:Int) != 0)=true from rfl) hc]
  cases q2:jq p.py.ag now me c.a 0 != 0
  case true=>simp only [PW,PU,PV,mi q2 hc]
  have q2':=jX q2;obtain ⟨ar,g0,g9,gk,_⟩:=kV q2';have l2:=yQ (ar.ok _ (ar.at g0 g9).2) (by simpa using gk);simp only [PW,PU,q2',beq_self_eq_true,PV];generalize iy p.py.ag now me c.a=i at *;have hs:∀ x,jr iz (p.py.ag.set i.toNat (linked (nth p.py.ag i) c.b x))<ir:=fun x=>zj ar (by rw [yX];have:=oQ ar g0 g9;omega);have hx:∀ x,wA (p.py.ag.set i.toNat (linked (nth p.py.ag i) c.b x)):=fun x=>kR hp.w (show nn (nth p.py.ag i) from hp.w _ (ar.at g0 g9).2);cases hk:c.Pz==2
  · simp only [PU,PT,Sum.elim_inl,(ar.at g0 g9).1,zi l2 q1,Bool.false_and,vy];exact zh (h:=il.mk (p.py.ag.set i.toNat (linked (nth p.py.ag i) c.b (-1))) p.py.gc) hN (hs (-1)) hp.b5 (hx (-1)) (-1) (-1) fun y=>some (mC p y,iG.mk 0 0)
  · cases q3:jq p.py.ag now me c.c 0 != 0
    · have q3':=jX q3;simp only [PV,PU,PT,Sum.elim_inl,(ar.at g0 g9).1,zi l2 q1,Bool.and_false,q3',beq_self_eq_true,vy];generalize iy p.py.ag now me c.c=x;exact zh (h:=il.mk (p.py.ag.set i.toNat (linked (nth p.py.ag i) c.b x)) p.py.gc) hN (hs x) hp.b5 (hx x) x x fun y=>some (mC p y,iG.mk 0 0)
    · simp only [PV,PU,PT,Sum.elim_inr,Bool.and_true,mi q3 hc]
def Nr (p:cd) (i x:Int):cd:=mC p (mD (il.mk (p.py.ag.set i.toNat (boxed (nth p.py.ag i) x)) p.py.gc) x i)
def mE (p:cd) (me now:Int) (c:iJ):Int×Int×cd :=
  bif jq p.py.ag now me c.a 0 != 0 then (jq p.py.ag now me c.a 0,0,p) else
  bif iy p.py.ag now me c.a==0 then (5,0,p) else
  bif (c.Pz==4)&&(jq p.py.ag now me c.b 1 != 0) then (jq p.py.ag now me c.b 1,0,p) else
  (0,0,Nr p (iy p.py.ag now me c.a) (bif c.Pz==4 then iy p.py.ag now me c.b else -1))
theorem Ns {N:Nat} (hN:ir≤N) {p:cd} (hp:kU p) (me now th:Int) (c:iJ):o5 N (iL.mk p me now th) c=some ((mE p me now c).1,iL.mk (mE p me now c).2.2 me now th):=by
  have h4:=hp.b4;unfold o5 mE;simp only [xq hN,h4,PT,wo,wK,wO];cases q2:jq p.py.ag now me c.a 0 != 0
  case true=>rfl
  have q2':=jX q2;obtain ⟨ar,g0,g9,gk,_⟩:=kV q2';simp only [PW,PU,q2',beq_self_eq_true,PV];generalize iy p.py.ag now me c.a=i at *;cases hi:i==0
  case true=>rfl
  have hs:∀ x,jr iz (p.py.ag.set i.toNat (boxed (nth p.py.ag i) x))<ir:=fun x=>zj ar (by have:iz (nth p.py.ag i)≤12:=oQ ar g0 g9;show iz (nth p.py.ag i)≤_;omega);cases hk:c.Pz==4
  · simp only [PU,PT,Sum.elim_inl,(ar.at g0 g9).1,Bool.false_and];rfl
  · cases q3:jq p.py.ag now me c.b 1 != 0
    · have q3':=jX q3;simp only [PV,PU,PT,Sum.elim_inl,(ar.at g0 g9).1,Bool.and_false,q3',beq_self_eq_true];generalize iy p.py.ag now me c.b=x;exact Gz (h:=il.mk (p.py.ag.set i.toNat (boxed (nth p.py.ag i) x)) p.py.gc) hN (hs x) hp.b5 x i fun y=>some ((0:Int),iL.mk (mC p y) me now th)
    · rfl
theorem MP {N:Nat} (hN:ir≤N) {p:cd} (hp:kU p) (me now:Int) {c:iJ} (hc:(c.Pz==1)=false):sK N p me now c=some (fin c p (mE p me now c)):=by
  have h4:=hp.b4;unfold sK mE;simp only [Bc hN h4 hp.w,A3 hN h4 hp.w _ _ _ (show (0:Int)<1 by decide),PT];cases q2:jq p.py.ag now me c.a 0 != 0
  case true=>simp only [PV,mi q2 hc]
  have q2':=jX q2;obtain ⟨ar,g0,g9,gk,_⟩:=kV q2';simp only [PW,PU,q2',beq_self_eq_true,PV];generalize iy p.py.ag now me c.a=i at *;cases hi:i==0
  case true=>simp only [PV,mi (show ((5:Int) != 0)=true from rfl) hc]
  have hs:∀ x,jr iz (p.py.ag.set i.toNat (boxed (nth p.py.ag i) x))<ir:=fun x=>zj ar (by have:iz (nth p.py.ag i)≤12:=oQ ar g0 g9;show iz (nth p.py.ag i)≤_;omega);have hx:∀ x,wA (p.py.ag.set i.toNat (boxed (nth p.py.ag i) x)):=fun x=>kR hp.w (show nn (nth p.py.ag i) from hp.w _ (ar.at g0 g9).2);cases hk:c.Pz==4
  · simp only [PU,PT,Sum.elim_inl,(ar.at g0 g9).1,Bool.false_and,vy];exact zh (h:=il.mk (p.py.ag.set i.toNat (boxed (nth p.py.ag i) (-1))) p.py.gc) hN (hs (-1)) hp.b5 (hx (-1)) (-1) i fun y=>some (mC p y,iG.mk 0 0)
  · cases q3:jq p.py.ag now me c.b 1 != 0
    · have q3':=jX q3;simp only [PV,PU,PT,Sum.elim_inl,(ar.at g0 g9).1,Bool.and_false,q3',beq_self_eq_true,vy];generalize iy p.py.ag now me c.b=x;exact zh (h:=il.mk (p.py.ag.set i.toNat (boxed (nth p.py.ag i) x)) p.py.gc) hN (hs x) hp.b5 (hx x) x i fun y=>some (mC p y,iG.mk 0 0)
    · simp only [PV,PU,PT,Sum.elim_inr,Bool.and_true,mi q3 hc]
def MH (p:cd) (i b x:Int):cd:=nf p (p.py.ag.set i.toNat (written (nth p.py.ag i) b x))
def jw (p:cd) (me now:Int) (c:iJ):Int×Int×cd :=
  bif jq p.py.ag now me c.a 2 != 0 then (jq p.py.ag now me c.a 2,0,p) else
  bif !iA c.b 0 (((nth p.py.ag (iy p.py.ag now me c.a)).PG.length:Int) - 1) then (2,0,p) else
  bif c.Pz==7 then (0,nth (nth p.py.ag (iy p.py.ag now me c.a)).PG c.b,p) else
  bif !iA c.c 0 999 then (2,0,p) else (0,0,MH p (iy p.py.ag now me c.a) c.b c.c)
theorem CX {α:Type} {l:List α} (h:l.length<ir):i64.wrap ((l.length:Int) - 1)=(l.length:Int) - 1:=by
  have:l.length<16777216:=h;exact iE (by omega) (by omega)
theorem DL {o:gE} (h:iz o≤12):o.PG.length<ir:=by
  have hB:(16777216:Nat)=ir:=rfl;unfold iz at h;omega
theorem I7 {N:Nat} (hN:ir≤N) {p:cd} (hp:kU p) (me now th:Int) (c:iJ):nH N (iL.mk p me now th) c=some ((jw p me now c).1,(jw p me now c).2.1,iL.mk (jw p me now c).2.2 me now th):=by
  have h4:=hp.b4;unfold nH jw;simp only [xq hN,h4,nO,PT,wo,wK,wO];cases q2:jq p.py.ag now me c.a 2 != 0
  case true=>rfl
  have q2':=jX q2;obtain ⟨ar,g0,g9,gk,_⟩:=kV q2';simp only [PW,PU,q2',beq_self_eq_true,PV];generalize iy p.py.ag now me c.a=i at *;have ho:=oQ ar g0 g9;simp only [(ar.at g0 g9).1,PT,CX (DL ho)];cases q3:iA c.b 0 (((nth p.py.ag i).PG.length:Int) - 1)
  · rfl
  have hd:idx (nth p.py.ag i).PG c.b=some (nth (nth p.py.ag i).PG c.b):=by
    rw [iS] at q3;exact jC q3.1 (by omega)
  simp only [PW,PU,hd,PT];cases c.Pz==7
  · cases iA c.c 0 999<;>rfl
  · rfl
theorem Ie {N:Nat} (hN:ir≤N) {p:cd} (hp:kU p) (me now:Int) {c:iJ} (hc:(c.Pz==1)=false) (hk:(c.Pz==6)=!(c.Pz==7)):pF N p me now c=some (fin c p (jw p me now c)):=by
  have h4:=hp.b4;unfold pF jw;simp only [A3 hN h4 hp.w _ _ _ (show (0:Int)<2 by decide),nE,PT];cases q2:jq p.py.ag now me c.a 2 != 0
  case true=>simp only [PV,mi q2 hc]
  have q2':=jX q2;obtain ⟨ar,g0,g9,gk,_⟩:=kV q2';simp only [PW,PU,q2',beq_self_eq_true,PV];generalize iy p.py.ag now me c.a=i at *;have ho:=oQ ar g0 g9;simp only [(ar.at g0 g9).1,PT,CX (DL ho)];cases q3:iA c.b 0 (((nth p.py.ag i).PG.length:Int) - 1)
  · simp only [Bool.not_false,PV,PT,mi (show ((2:Int) != 0)=true from rfl) hc]
  have hd:idx (nth p.py.ag i).PG c.b=some (nth (nth p.py.ag i).PG c.b):=by
    rw [iS] at q3;exact jC q3.1 (by omega)
  rw [hk];simp only [PW,PU,hd,PT];cases c.Pz==7
  · cases iA c.c 0 999
    · simp only [Bool.not_false,PV,PU,PT,mi (show ((2:Int) != 0)=true from rfl) hc]
    · rfl
  · rfl
def mn (p:cd) (f:Int) (a:ic):Bool:=(iX p.PC f a).2&&(kv p.hY (ic.mk 0 a.ib 0)).2
def pM (p:cd) (f:Int) (a:ic):cd:=cd.mk p.PB p.own (iX p.PC f a).1 p.py p.ia p.PJ p.PI (kv p.hY (ic.mk 0 a.ib 0)).1 p.ik p.PH
theorem BP (p:cd) (f:Int) (a:ic):(pM p f a).py=p.py:=rfl
theorem kU.b3 {p:cd} (h:kU p):p.PC.length<ir:=(kS (p:=p) (Nat.lt_of_le_of_lt h.sz (by decide))).2.2.1
theorem Lm {N:Nat} (hN:ir≤N) {x:iL} (hB:x.Py.PC.length<ir) (f:Int) (a:ic):og N x f a=some (mn x.Py f a,bif mn x.Py f a then iL.mk (pM x.Py f a) x.me x.PQ x.jb else x):=by
  unfold og mn;simp only [yh hN hB,KL,PT,lq];cases (iX x.Py.PC f a).2<;>cases (kv x.Py.hY (ic.mk 0 a.ib 0)).2<;>rfl
def kO (p:cd) (me now:Int) (c:iJ):Int×Int×cd :=
  bif jq p.py.ag now me c.a 0 != 0 then (jq p.py.ag now me c.a 0,0,p) else
  bif (iy p.py.ag now me c.a==0) || (!iA c.b 1 1000 || decide (i64.wrap ((nth p.py.ag (iy p.py.ag now me c.a)).iK+c.b) > 1000000)) then (2,0,p) else
  bif !mn p (kJ p (nth p.py.ag (iy p.py.ag now me c.a)).res) (ic.mk 0 (i64.wrap ((nth p.py.ag (iy p.py.ag now me c.a)).bh * c.b)) 0) then (6,0,p) else
  (0,0,nf (pM p (kJ p (nth p.py.ag (iy p.py.ag now me c.a)).res) (ic.mk 0 (i64.wrap ((nth p.py.ag (iy p.py.ag now me c.a)).bh * c.b)) 0)) (p.py.ag.set (iy p.py.ag now me c.a).toNat (AX (nth p.py.ag (iy p.py.ag now me c.a)) (i64.wrap ((nth p.py.ag (iy p.py.ag now me c.a)).iK+c.b)))))
theorem MG {N:Nat} (hN:ir≤N) {p:cd} (hp:kU p) (me now th:Int) (c:iJ):oE N (iL.mk p me now th) c=some ((kO p me now c).1,iL.mk (kO p me now c).2.2 me now th):=by
  have h4:=hp.b4;have h3:=hp.b3;unfold oE kO;simp only [xq hN,h4,nO,PT,wo,wK,wO];cases q2:jq p.py.ag now me c.a 0 != 0
  case true=>rfl
  have q2':=jX q2;obtain ⟨ar,g0,g9,gk,_⟩:=kV q2';simp only [PW,PU,q2',beq_self_eq_true,PV];generalize iy p.py.ag now me c.a=i at *;simp only [(ar.at g0 g9).1,PT,lq,FW hN,Lm hN,h3];cases ((i==0) || (!iA c.b 1 1000 || decide (i64.wrap ((nth p.py.ag i).iK+c.b) > 1000000)))
  · cases mn p (kJ p (nth p.py.ag i).res) (ic.mk 0 (i64.wrap ((nth p.py.ag i).bh * c.b)) 0)<;>rfl
  · rfl
theorem Mi {N:Nat} (hN:ir≤N) {p:cd} (hp:kU p) (me now:Int) {c:iJ} (hc:(c.Pz==1)=false):rW N p me now c=some (fin c p (kO p me now c)):=by
  have h4:=hp.b4;have h3:=hp.b3;unfold rW kO;simp only [Bc hN h4 hp.w,nE,PT];cases q2:jq p.py.ag now me c.a 0 != 0
  case true=>simp only [PV,mi q2 hc]
  have q2':=jX q2;obtain ⟨ar,g0,g9,gk,_⟩:=kV q2';simp only [PW,PU,q2',beq_self_eq_true,PV];generalize iy p.py.ag now me c.a=i at *;simp only [(ar.at g0 g9).1,PT,lq,Gq hN,w5 hN h3,wI];cases ((i==0) || (!iA c.b 1 1000 || decide (i64.wrap ((nth p.py.ag i).iK+c.b) > 1000000)))
  · unfold mn;cases (iX p.PC (kJ p (nth p.py.ag i).res) (ic.mk 0 (i64.wrap ((nth p.py.ag i).bh * c.b)) 0)).2<;>cases (kv p.hY (ic.mk 0 (i64.wrap ((nth p.py.ag i).bh * c.b)) 0)).2<;>simp only [PW,Bool.not_false,Bool.and_self,Bool.and_false,Bool.false_and,Bool.or_self,Bool.or_true,Bool.true_or,Bool.false_or,Bool.or_false,PX,Bool.and_true,PV,PU,mi (show ((6:Int) != 0)=true from rfl) hc,vy]
    rfl
  · simp only [PV,mi (show ((2:Int) != 0)=true from rfl) hc]
def mU (p:cd) (c:iJ):Int×Int×cd :=
  bif c.Pz==9 then
    bif !iA c.a 0 4 || !iU (ic.mk c.b c.c c.d) then (2,0,p) else
    bif !(k6 p.PC c.a (ic.mk c.b c.c c.d)).2.2 then (6,0,p) else (0,(k6 p.PC c.a (ic.mk c.b c.c c.d)).2.1,wu p (k6 p.PC c.a (ic.mk c.b c.c c.d)).1)
  else bif c.Pz==10 then
    bif !iA c.a 0 4 || (!iA c.b 0 4 || (!iA c.c 0 2 || !v7 c.d)) then (2,0,p) else
    bif !(l6 p.PC c.a c.b (lF c.c c.d)).2 then (6,0,p) else (0,0,wu p (l6 p.PC c.a c.b (lF c.c c.d)).1)
  else bif !(l7 p.PC c.a).2 then (2,0,p) else (0,0,wu p (l7 p.PC c.a).1)
theorem Jy {N:Nat} (hN:ir≤N) {p:cd} (hp:kU p) (me now th:Int) (c:iJ):nD N (iL.mk p me now th) c=some ((mU p c).1,(mU p c).2.1,iL.mk (mU p c).2.2 me now th):=by
  have h3:=hp.b3;unfold nD mU;simp only [vv,so,nO,A0,Ke,FD hN h3,HQ hN h3,HI hN h3,PT,lq];cases c.Pz==9
  · cases c.Pz==10
    · cases (l7 p.PC c.a).2<;>rfl
    · cases (!iA c.a 0 4 || (!iA c.b 0 4 || (!iA c.c 0 2 || !v7 c.d)))
      · cases (l6 p.PC c.a c.b (lF c.c c.d)).2<;>rfl
      · rfl
  · cases (!iA c.a 0 4 || !iU (ic.mk c.b c.c c.d))
    · cases (k6 p.PC c.a (ic.mk c.b c.c c.d)).2.2<;>rfl
    · rfl
theorem Oq {N:Nat} (hN:ir≤N) {p:cd} (hp:kU p) {c:iJ} (hc:(c.Pz==1)=false):uD N p c=some (fin c p (mU p c)):=by
  have h3:=hp.b3;have n2:=fun q=>mi (p:=p) (q:=q) (v:=0) (show ((2:Int) != 0)=true from rfl) hc;have n6:=fun q=>mi (p:=p) (q:=q) (v:=0) (show ((6:Int) != 0)=true from rfl) hc;unfold uD mU;simp only [vR,sm,nE,OM,Kr,zN hN h3,G8 hN h3,Ap hN h3,PT,lq];cases c.Pz==9
  · cases c.Pz==10
    · cases (l7 p.PC c.a).2
      · simp only [Bool.not_false,PV,PU,n2]
      · rfl
    · cases (!iA c.a 0 4 || (!iA c.b 0 4 || (!iA c.c 0 2 || !v7 c.d)))
      · cases (l6 p.PC c.a c.b (lF c.c c.d)).2
        · simp only [Bool.not_false,PV,PU,n6]
        · rfl
      · simp only [PV,PU,n2]
  · cases (!iA c.a 0 4 || !iU (ic.mk c.b c.c c.d))
    · cases (k6 p.PC c.a (ic.mk c.b c.c c.d)).2.2
      · simp only [Bool.not_false,PV,PU,n6]
      · rfl
    · simp only [PV,n2]
def tf (p:cd) (th a:Int):Int×Int×cd :=
  bif a==0 then (0,(nth p.py.ag th).iM,p) else bif a==1 then (0,(nth p.py.ag th).iP,p) else
  bif (a==2) || ((a==3) || (a==4)) then (0,lB (si p th) (i64.wrap (a - 2)),p) else (2,0,p)
theorem AZ (a b c:Bool):(bif a then some a else bif b then some b else some c)=some (a || (b || c)):=by cases a<;>cases b<;>rfl
theorem Nj (a b:Bool):(bif a then some a else some b)=some (a || b):=by cases a<;>rfl
theorem M5 {N:Nat} (hN:ir≤N) {p:cd} (hp:kU p) (me now:Int) {th:Int} (h0:0≤th) (h9:th≤9) (a:Int):oR N (iL.mk p me now th) a=some ((tf p th a).1,(tf p th a).2.1,iL.mk (tf p th a).2.2 me now th):=by
  unfold oR tf;simp only [(hp.ar.at h0 h9).1,Md hN hp.ok h0 h9,IP,PT,AZ];cases a==0
  · cases a==1
    · cases (a==2) || ((a==3) || (a==4))<;>rfl
    · rfl
  · rfl
theorem NG {N:Nat} (hN:ir≤N) {p:cd} (hp:kU p) {th:Int} (h0:0≤th) (h9:th≤9) {c:iJ} (hc:(c.Pz==1)=false):s7 N p th c=some (fin c p (tf p th c.a)):=by
  unfold s7 tf;obtain ⟨r0,r4⟩:=wM p (nth p.py.ag th).res;simp only [(hp.ar.at h0 h9).1,Gq hN,Gy hp.ok r0 r4,IK,PT,AZ,Nn];cases c.a==0
  · cases c.a==1
    · cases (c.a==2) || ((c.a==3) || (c.a==4))
      · simp only [PU,mi (show ((2:Int) != 0)=true from rfl) hc]
      · rfl
    · rfl
  · rfl
theorem C9 {l:List gE} {o:gE}:∀ (m:List gE) (k:Nat),pA l o k m=(l, -1)∨∃ (j:Nat) (g:Int),j<k+m.length∧pA l o k m=(l.set j (kn o g),(j:Int))∧kp (l.set j (kn o g))=true
  | [],k=>.inl rfl
  | x::m,k=>by
    unfold pA;split
    · rcases C9 (l:=l) (o:=o) m (k+1) with h | ⟨j,g,h1,h2,h3⟩
      · exact .inl h
      · exact .inr ⟨j,g,by simp only [List.length_cons];omega,h2,h3⟩
    · unfold putAt;split
      · rename_i q;simp only [PY] at q;exact .inr ⟨k,_,by simp,rfl,q.1⟩
      · exact .inl rfl
theorem xb {l:List gE} {o:gE} (h:decide ((kr l o).2<0)=false):∃ (j:Nat) (g:Int),kr l o=(l.set j (kn o g),(j:Int))∧Ar (l.set j (kn o g))∧j<10:=by
  unfold kr at *;cases ha:kp l
  · rw [ha] at h;simp at h
  · rw [ha] at h;simp only [if_true] at *;have hl:=(j7.1 ha).len
    rcases C9 (l:=l) (o:=o) (l.drop 1) 1 with e | ⟨j,g,h1,h2,h3⟩
    · rw [e] at h;simp at h
    · exact ⟨j,g,h2,j7.1 h3,by simp only [List.length_drop] at h1;omega⟩
def newObj (now box:Int) (c:iJ):gE:=gE.mk 0 c.a box c.e (i64.wrap (now+c.d)) c.c 0 0 0 false [-1, -1] (bif c.a==2 then List.replicate c.c.toNat 0 else []) []
def qG (now:Int) (c:iJ):Bool:=!iA c.a 1 4 || (!iA c.c 0 8 || (!iA c.d 1 1000 || (decide (i64.wrap (now+c.d) > 1000000) || !iA c.e 0 4)))
def cost (c:iJ):ic:=ic.mk c.c (i64.wrap (c.c * c.d)) 0
def lY (p:cd) (me now:Int) (c:iJ):Int×Int×cd :=
  bif qG now c then (2,0,p) else
  bif jq p.py.ag now me c.b 1 != 0 then (jq p.py.ag now me c.b 1,0,p) else
  bif !mn p c.e (cost c) then (6,0,p) else
  bif decide ((kr p.py.ag (newObj now (iy p.py.ag now me c.b) c)).2<0) then (7,0,pM p c.e (cost c)) else
  (0,ox me (kr p.py.ag (newObj now (iy p.py.ag now me c.b) c)).2 (nth (kr p.py.ag (newObj now (iy p.py.ag now me c.b) c)).1 (kr p.py.ag (newObj now (iy p.py.ag now me c.b) c)).2).PO,
    mC (pM p c.e (cost c)) (mW (il.mk (kr p.py.ag (newObj now (iy p.py.ag now me c.b) c)).1 p.py.gc) (kr p.py.ag (newObj now (iy p.py.ag now me c.b) c)).2))
theorem vh {now:Int} {c:iJ} (h:qG now c=false):0≤c.c∧c.c≤8:=by
  unfold qG at h;simp only [Bool.or_eq_false_iff,Bool.not_eq_false'] at h;exact iS.1 h.2.1
theorem yv {now box:Int} {c:iJ} (h:0≤c.c∧c.c≤8):iz (newObj now box c)≤100:=by
  unfold iz newObj;cases c.a==2
  · simp
  · simp only [PV,List.length_replicate,List.length_cons,List.length_nil];omega
theorem Ac (now box:Int) (c:iJ):nn (newObj now box c):=by show (-9223372036854775808:Int)≤0;decide
theorem NX {c:Int} (h:0≤c∧c≤8):mk Int c=some (List.replicate c.toNat 0):=by
  have hB:(16777216:Nat)=ir:=rfl;unfold mk;rw [if_pos ⟨h.1,by omega⟩];rfl
theorem Lp (a b c d e:Bool):(bif a then some true else bif b then some true else bif c then some true else bif d then some true else some e)=some (a || (b || (c || (d || e)))):=by cases a<;>cases b<;>cases c<;>cases d<;>rfl
theorem Nl {N:Nat} (hN:ir+1≤N) {p:cd} (hp:kU p) (me now th:Int) (c:iJ):oV N (iL.mk p me now th) c=some ((lY p me now c).1,(lY p me now c).2.1,iL.mk (lY p me now c).2.2 me now th):=by
  have hN':ir≤N:=Nat.le_of_succ_le hN;have h4:=hp.b4;have h3:=hp.b3;have h5:=hp.b5;unfold oV lY;simp only [xq hN',h4,nO,vv,PT,wo,wK,wO,Lp];rw [show (!iA c.a 1 4 || (!iA c.c 0 8 || (!iA c.d 1 1000 || (decide (i64.wrap (now+c.d) > 1000000) || !iA c.e 0 4))))=qG now c from rfl];cases q1:qG now c
  case true=>rfl
  have hc:=vh q1;cases q2:jq p.py.ag now me c.b 1 != 0
  case true=>rfl
  have q2':=jX q2;simp only [PU,PV,q2',beq_self_eq_true];generalize iy p.py.ag now me c.b=box;rw [show ic.mk c.c (i64.wrap (c.c * c.d)) 0=cost c from rfl];simp only [Lm hN' (x:=iL.mk p me now th) h3,PT];cases q3:mn p c.e (cost c)
  · rfl
  simp only [PW,PU,PV,NX hc,PT,BP];rw [show (bif c.a==2 then some (List.replicate c.c.toNat 0) else some ([]:List Int))=some (bif c.a==2 then List.replicate c.c.toNat 0 else []) from pV _ _ _];simp only [PT];rw [show gE.mk 0 c.a box c.e (i64.wrap (now+c.d)) c.c 0 0 0 false [-1, -1] (bif c.a==2 then List.replicate c.c.toNat 0 else []) []=newObj now box c from rfl];have ho:=yv (now:=now) (box:=box) hc;rw [HG hN h4 (o:=newObj now box c) (by omega)];simp only [PT];cases q4:decide ((kr p.py.ag (newObj now box c)).2<0)
  case true=>rfl
  obtain ⟨j,g,e,ar,hj⟩:=xb q4;have h1:=ar.sz;have hB:(16777216:Nat)=ir:=rfl;rw [e];simp only [PU,(ar.at (i:=(j:Int)) (by omega) (by omega)).1,PT,A7];rw [KB hN' (h:=il.mk (p.py.ag.set j (kn (newObj now box c) g)) p.py.gc) (by show jr iz (p.py.ag.set j (kn (newObj now box c) g))<ir;omega) (by show p.py.gc.hZ.length<ir;omega)];rfl
theorem DR (l:List gE) (now me h k:Int):(jq l now me h k==6)=false∧(jq l now me h k==7)=false:=by
  unfold jq;cases nG h
  · exact ⟨rfl,rfl⟩
  cases nW h != me
  case true=>exact ⟨rfl,rfl⟩
  cases decide (iy l now me h<0)
  case true=>exact ⟨rfl,rfl⟩
  cases (k != 0)&&((nth l (iy l now me h)).Pz != k)<;>exact ⟨rfl,rfl⟩
theorem Eo {c:iJ} {p q:cd} {k v:Int} (h:(k != 0)=true) (h6:(k==6)=false) (h7:(k==7)=false):fin c p (k,v,q)=(p,iG.mk k 0):=by
  unfold fin
  have:(k==0)=false:=by simpa [bne] using h
  rw [this];simp only [PU,h6,h7,Bool.or_self,Bool.and_false]
theorem BZ {c:iJ} {p q:cd} {k v:Int} (h:(k != 0)=true) (h6:((k==6) || (k==7))=true) (hc:(c.Pz==1)=true):fin c p (k,v,q)=(vV p,iG.mk k 0):=by
  unfold fin
  have:(k==0)=false:=by simpa [bne] using h
  rw [this];simp only [PU,h6,hc,Bool.and_self,PV]
theorem NM {N:Nat} (hN:ir≤N) {p:cd} (hp:kU p) (me now:Int) {c:iJ} (hc1:(c.Pz==1)=true):te N p me now c=some (fin c p (lY p me now c)):=by
  have h4:=hp.b4;have h3:=hp.b3;have h5:=hp.b5;unfold te lY;simp only [A3 hN h4 hp.w _ _ _ (show (0:Int)<1 by decide),nE,vR,PT,Lp];rw [show (!iA c.a 1 4 || (!iA c.c 0 8 || (!iA c.d 1 1000 || (decide (i64.wrap (now+c.d) > 1000000) || !iA c.e 0 4))))=qG now c from rfl];cases q1:qG now c
  case true=>simp only [PV,Eo (show ((2:Int) != 0)=true from rfl) rfl rfl]
  have hc:=vh q1;cases q2:jq p.py.ag now me c.b 1 != 0
  case true=>simp only [PV,PU,Eo q2 (DR _ _ _ _ _).1 (DR _ _ _ _ _).2]
  have q2':=jX q2;simp only [PU,PV,q2',beq_self_eq_true];generalize iy p.py.ag now me c.b=box;rw [show ic.mk c.c (i64.wrap (c.c * c.d)) 0=cost c from rfl];simp only [w5 hN h3,wI,PT,lq];rw [show (!(iX p.PC c.e (cost c)).2 || !(kv p.hY (ic.mk 0 (i64.wrap (c.c * c.d)) 0)).2)=!mn p c.e (cost c) by unfold mn;rw [Bool.not_and];rfl];cases q3:mn p c.e (cost c)
  · simp only [Bool.not_false,PV,BZ (show ((6:Int) != 0)=true from rfl) rfl hc1];rfl
  simp only [PW,PU,PV,NX hc,PT];rw [show (bif c.a==2 then some (List.replicate c.c.toNat 0) else some ([]:List Int))=some (bif c.a==2 then List.replicate c.c.toNat 0 else []) from pV _ _ _];simp only [PT];rw [show gE.mk 0 c.a box c.e (i64.wrap (now+c.d)) c.c 0 0 0 false [-1, -1] (bif c.a==2 then List.replicate c.c.toNat 0 else []) []=newObj now box c from rfl];have ho:=yv (now:=now) (box:=box) hc;rw [x6 hN h4 hp.w (o:=newObj now box c) (by omega) (Ac _ _ _)];simp only [PT];cases q4:decide ((kr p.py.ag (newObj now box c)).2<0)
  case true =>
    simp only [PV,BZ (show ((7:Int) != 0)=true from rfl) rfl hc1];rfl
  obtain ⟨j,g,e,ar,hj⟩:=xb q4;have h1:=ar.sz;have hB:(16777216:Nat)=ir:=rfl;have hw':wA (p.py.ag.set j (kn (newObj now box c) g)):=kR hp.w (xQ (Ac _ _ _));rw [e];simp only [PU,(ar.at (i:=(j:Int)) (by omega) (by omega)).1,PT,vJ];rw [Ec hN (h:=il.mk (p.py.ag.set j (kn (newObj now box c) g)) p.py.gc) (by show jr iz (p.py.ag.set j (kn (newObj now box c) g))<ir;omega) (by show p.py.gc.hZ.length<ir;omega) hw'];rfl
def vC (l:List gE) (k w b:Int):List gE:=bif decide (k ≥ 0)&&((nth l k).PK==w) then (l.set k.toNat (waiting (nth l k) 0)).set k.toNat (xI (nth (l.set k.toNat (waiting (nth l k) 0)) k) b) else l
theorem Ch {l:List gE} {k w b:Int} (h:0≤k→k<(l.length:Int)) {β:Type} (f:List gE→Option β) :
    ((bif decide (k ≥ 0) then ((idx l k).bind fun y=>some (y.PK==w)) else (some false):Option Bool).bind fun j=>(bif j then ((idx l k).bind fun y=>(some (l.set (k:Int).toNat (waiting y 0))).bind fun z=>(idx z k).bind fun x=>(some (z.set (k:Int).toNat (xI x b))).bind fun v=>some v) else (some l):Option (List gE)).bind f)=f (vC l k w b):=by
  unfold vC;cases hk:decide (k ≥ 0)
  · rfl
  have k0:0≤k:=by simpa using hk
  have e:=jC k0 (h k0);have e2:∀ z,idx (l.set k.toNat z) k=some (nth (l.set k.toNat z) k):=fun z=>jC k0 (by simp only [List.length_set];exact h k0);simp only [PV,e,e2,PT,PX];cases (nth l k).PK==w<;>rfl
def asked (l:List gE) (g me th:Int) (c:iJ):List gE:=l.set g.toNat (nR (nth l g) ((nth l g).PE++[je.mk (ox me th (nth l th).PO) c.b]))
def served (l:List gE) (g:Int):List gE:=l.set g.toNat (nR (nth l g) ((nth l g).PE.drop 1))
def lQ (p:cd) (me now th:Int) (c:iJ):Int×Int×cd :=
  bif jq p.py.ag now me c.a 3 != 0 then (jq p.py.ag now me c.a 3,0,p) else
  bif !iA c.b 0 999 then (2,0,p) else
  bif c.Pz==12 then
    bif decide (((nth p.py.ag (iy p.py.ag now me c.a)).PE.length:Int) ≥ 2) then (8,0,p) else
    (0,0,nf p ((asked p.py.ag (iy p.py.ag now me c.a) me th c).set th.toNat (waiting (nth (asked p.py.ag (iy p.py.ag now me c.a) me th c) th) (i64.wrap (c.a+1)))))
  else
    bif ((nth p.py.ag (iy p.py.ag now me c.a)).PE.length:Int)==0 then (8,0,p) else
    (0,(nth (nth p.py.ag (iy p.py.ag now me c.a)).PE 0).n,nf p (vC (served p.py.ag (iy p.py.ag now me c.a)) (iy (served p.py.ag (iy p.py.ag now me c.a)) now me (nth (nth p.py.ag (iy p.py.ag now me c.a)).PE 0).PS) (i64.wrap (c.a+1)) c.b))
theorem Eb {α:Type} {l:List α} {k:Nat} (h:k≤l.length):sub l (k:Int) (l.length:Int)=some (l.drop k):=by
  unfold sub;rw [if_pos ⟨by omega,by omega,by omega⟩];simp only [Int.toNat_natCast];rw [List.take_of_length_le (by simp)]
theorem yp {o:gE} (h:iz o≤12):o.PE.length≤12:=by unfold iz at h;omega
theorem BN {o:gE} {q:List je} (h:iz o≤12) (hq:q.length≤20):iz (nR o q)≤100000:=by
  unfold iz at h;unfold iz nR;simp only;omega
theorem uc {l:List gE} {now me h:Int} (hl:l.length=10) (h0:0≤iy l now me h):iy l now me h<(l.length:Int):=by
  obtain ⟨_,_,h9,_⟩:=za (l:=l) (now:=now) (me:=me) (h:=h) (decide_eq_false (by omega));omega
theorem ND {N:Nat} (hN:ir≤N) {p:cd} (hp:kU p) (me now:Int) {th:Int} (t0:0≤th) (t9:th≤9) {c:iJ} (hk:(c.Pz==13)=!(c.Pz==12)):oZ N (iL.mk p me now th) c=some ((lQ p me now th c).1,(lQ p me now th c).2.1,iL.mk (lQ p me now th c).2.2 me now th):=by
  have h4:=hp.b4;unfold oZ lQ;simp only [xq hN,h4,nO,PT,wo,wK,wO];cases q2:jq p.py.ag now me c.a 3 != 0
  case true=>rfl
  have q2':=jX q2;obtain ⟨ar,g0,g9,gk,_⟩:=kV q2';simp only [PW,PU,q2',beq_self_eq_true,PV];generalize iy p.py.ag now me c.a=i at *;have ho:=oQ ar g0 g9;have hq:=yp ho;have hl:=ar.len;have hB:(16777216:Nat)=ir:=rfl;simp only [(ar.at g0 g9).1,(ar.at t0 t9).1,PT];cases q3:iA c.b 0 999
  · rfl
  rw [hk];cases q4:c.Pz==12
  · simp only [PW,Bool.not_false,PU,PV,PT];cases q5:((nth p.py.ag i).PE.length:Int)==0
    case true=>rfl
    have l1:1≤(nth p.py.ag i).PE.length:=by rw [beq_eq_false_iff_ne] at q5;omega
    have hsub:sub (nth p.py.ag i).PE 1 ((nth p.py.ag i).PE.length:Int)=some ((nth p.py.ag i).PE.drop 1):=Eb l1;have happ:app ([]:List je) ((nth p.py.ag i).PE.drop 1)=some ((nth p.py.ag i).PE.drop 1):=jT (by simp only [List.length_drop];omega);have hi0:idx (nth p.py.ag i).PE 0=some (nth (nth p.py.ag i).PE 0):=jC (i:=0) (by decide) (by omega);simp only [PU,hsub,happ,hi0,PT];have hs:jr iz (p.py.ag.set i.toNat (nR (nth p.py.ag i) ((nth p.py.ag i).PE.drop 1)))<ir:=zj ar (BN ho (by simp only [List.length_drop];omega));have e1:=xU hN hs now me (nth (nth p.py.ag i).PE 0).PS;unfold nR at e1;rw [e1,PT];exact Ch (l:=served p.py.ag i) (uc (by unfold served;simp only [List.length_set];exact hl)) fun z=>some ((0:Int),(nth (nth p.py.ag i).PE 0).n,iL.mk (nf p z) me now th)
  · simp only [PW,Bool.not_false,PU,PV,PT,lq,Bool.or_false];cases q5:decide (((nth p.py.ag i).PE.length:Int) ≥ 2)
    case true=>rfl
    have happ:∀ m,app (nth p.py.ag i).PE [m]=some ((nth p.py.ag i).PE++[m]):=fun m=>l5 hq (by omega);have e2:∀ z,idx (p.py.ag.set i.toNat z) th=some (nth (p.py.ag.set i.toNat z) th):=fun z=>jC t0 (by simp only [List.length_set];omega);simp only [PU,A7,happ,e2,PT];rfl
theorem Nv {N:Nat} (hN:ir≤N) {p:cd} (hp:kU p) (me now:Int) {th:Int} (t0:0≤th) (t9:th≤9) {c:iJ} (hc:(c.Pz==1)=false):sY N p me now th c=some (fin c p (lQ p me now th c)):=by
  have h4:=hp.b4;unfold sY lQ;simp only [A3 hN h4 hp.w _ _ _ (show (0:Int)<3 by decide),nE,PT];cases q2:jq p.py.ag now me c.a 3 != 0
  case true=>simp only [PV,mi q2 hc]
  have q2':=jX q2;obtain ⟨ar,g0,g9,gk,_⟩:=kV q2';simp only [PW,PU,q2',beq_self_eq_true,PV];generalize iy p.py.ag now me c.a=i at *;have ho:=oQ ar g0 g9;have hq:=yp ho;have hl:=ar.len;have hB:(16777216:Nat)=ir:=rfl;simp only [(ar.at g0 g9).1,(ar.at t0 t9).1,PT];cases q3:iA c.b 0 999
  · simp only [Bool.not_false,PV,mi (show ((2:Int) != 0)=true from rfl) hc]
  cases q4:c.Pz==12
  · simp only [PW,Bool.not_false,PU,PV,PT];cases q5:((nth p.py.ag i).PE.length:Int)==0
    case true=>simp only [PV,mi (show ((8:Int) != 0)=true from rfl) hc]
    have l1:1≤(nth p.py.ag i).PE.length:=by rw [beq_eq_false_iff_ne] at q5;omega
    have hsub:sub (nth p.py.ag i).PE 1 ((nth p.py.ag i).PE.length:Int)=some ((nth p.py.ag i).PE.drop 1):=Eb l1;have happ:app ([]:List je) ((nth p.py.ag i).PE.drop 1)=some ((nth p.py.ag i).PE.drop 1):=jT (by simp only [List.length_drop];omega);have hi0:idx (nth p.py.ag i).PE 0=some (nth (nth p.py.ag i).PE 0):=jC (i:=0) (by decide) (by omega);simp only [PU,hsub,happ,hi0,PT,vy];have hs:jr iz (p.py.ag.set i.toNat (nR (nth p.py.ag i) ((nth p.py.ag i).PE.drop 1)))<ir:=zj ar (BN ho (by simp only [List.length_drop];omega));have hx:wA (p.py.ag.set i.toNat (nR (nth p.py.ag i) ((nth p.py.ag i).PE.drop 1))):=kR hp.w (show nn (nth p.py.ag i) from hp.w _ (ar.at g0 g9).2);have e1:=xT hN hs hx now me (nth (nth p.py.ag i).PE 0).PS;unfold nR at e1;rw [e1,PT];exact Ch (l:=served p.py.ag i) (uc (by unfold served;simp only [List.length_set];exact hl)) fun z=>some (nf p z,iG.mk 0 (nth (nth p.py.ag i).PE 0).n)
  · simp only [PW,Bool.not_false,PU,PV,PT,lq,Bool.or_false];cases q5:decide (((nth p.py.ag i).PE.length:Int) ≥ 2)
    case true=>simp only [PV,mi (show ((8:Int) != 0)=true from rfl) hc]
    have happ:∀ m,app (nth p.py.ag i).PE [m]=some ((nth p.py.ag i).PE++[m]):=fun m=>l5 hq (by omega);have hap0:app ([]:List je) (nth p.py.ag i).PE=some (nth p.py.ag i).PE:=jT (by omega);have e2:∀ z,idx (p.py.ag.set i.toNat z) th=some (nth (p.py.ag.set i.toNat z) th):=fun z=>jC t0 (by simp only [List.length_set];omega);simp only [PU,vJ,hap0,happ,e2,PT,vy];rfl
def sh (p:cd) (c:iJ):Int×Int×cd:=bif !iA c.a 0 ((p.ia.length:Int) - 1) then (2,0,p) else (0,0,wq p (p.ia.take c.a.toNat++p.ia.drop (c.a.toNat+1)))
theorem DV {α:Type} {l:List α} {i j:Int} (h0:0≤i) (h1:i≤j) (h2:j≤(l.length:Int)):sub l i j=some ((l.drop i.toNat).take (j.toNat - i.toNat)):=by
  unfold sub;rw [if_pos ⟨h0,h1,h2⟩]
theorem kU.b6 {p:cd} (h:kU p):p.ia.length<ir:=(kS (p:=p) (Nat.lt_of_le_of_lt h.sz (by decide))).2.2.2.2.2
theorem Jv {α:Type} {l:List α} (hl:l.length<ir) {a:Int} (h:iA a 0 ((l.length:Int) - 1)=true):i64.wrap (a+1)=a+1∧sub l 0 a=some (l.take a.toNat)∧sub l (a+1) (l.length:Int)=some (l.drop (a.toNat+1))∧∃ m,sub l a (a+1)=some m:=by
  have hB:(16777216:Nat)=ir:=rfl;rw [iS] at h;refine ⟨iE (by omega) (by omega),?_,?_,_,DV h.1 (by omega) (by omega)⟩
  · rw [DV (Int.le_refl 0) h.1 (by omega)];simp
  · rw [DV (by omega) (by omega) (Int.le_refl _),show (a+1).toNat=a.toNat+1 by omega,List.take_of_length_le (by simp)]
theorem D9 (N:Nat) {l:List iZ} (hl:l.length<ir) {a:Int} (h:iA a 0 ((l.length:Int) - 1)=true):pH N l a (i64.wrap (a+1))=some (l.take a.toNat++l.drop (a.toNat+1)):=by
  obtain ⟨h1,h2,h3,m,h4⟩:=Jv hl h;unfold pH
  have hne:(a==a+1)=false:=by rw [beq_eq_false_iff_ne];omega
  simp only [h1,h2,h3,h4,hne,PT,PU]
def jJ (p:cd) (me now th:Int) (c:iJ):Int×Int×cd :=
  bif c.Pz==1 then lY p me now c else bif (c.Pz==2) || (c.Pz==3) then mI p me now c else bif (c.Pz==4) || (c.Pz==5) then mE p me now c else
  bif (c.Pz==6) || (c.Pz==7) then jw p me now c else bif c.Pz==8 then kO p me now c else bif (c.Pz==9) || ((c.Pz==10) || (c.Pz==11)) then mU p c else
  bif (c.Pz==12) || (c.Pz==13) then lQ p me now th c else bif c.Pz==14 then tf p th c.a else bif c.Pz==15 then sh p c else (2,0,p)
theorem BL (p:cd) (me now:Int) (c:iJ):(mI p me now c).2.1=0∧cd.mk p.PB p.own p.PC (mI p me now c).2.2.py p.ia (mI p me now c).2.2.PJ (mI p me now c).2.2.PI (mI p me now c).2.2.hY (mI p me now c).2.2.ik (mI p me now c).2.2.PH=(mI p me now c).2.2:=by
  unfold mI;cases !iA c.b 0 1
  · cases jq p.py.ag now me c.a 0 != 0
    · cases (c.Pz==2)&&(jq p.py.ag now me c.c 0 != 0)<;>exact ⟨rfl,rfl⟩
    · exact ⟨rfl,rfl⟩
  · exact ⟨rfl,rfl⟩
theorem Bz (p:cd) (me now:Int) (c:iJ):(mE p me now c).2.1=0∧cd.mk p.PB p.own p.PC (mE p me now c).2.2.py p.ia (mE p me now c).2.2.PJ (mE p me now c).2.2.PI (mE p me now c).2.2.hY (mE p me now c).2.2.ik (mE p me now c).2.2.PH=(mE p me now c).2.2:=by
  unfold mE;cases jq p.py.ag now me c.a 0 != 0
  · cases iy p.py.ag now me c.a==0
    · cases (c.Pz==4)&&(jq p.py.ag now me c.b 1 != 0)<;>exact ⟨rfl,rfl⟩
    · exact ⟨rfl,rfl⟩
  · exact ⟨rfl,rfl⟩
theorem Gk (p:cd) (me now:Int) (c:iJ):cd.mk p.PB p.own p.PC (il.mk (jw p me now c).2.2.py.ag (jv.mk (jw p me now c).2.2.py.gc.PD (jw p me now c).2.2.py.gc.PL (jw p me now c).2.2.py.gc.PF p.py.gc.hZ)) p.ia (jw p me now c).2.2.PJ (jw p me now c).2.2.PI (jw p me now c).2.2.hY (jw p me now c).2.2.ik (jw p me now c).2.2.PH=(jw p me now c).2.2:=by
  unfold jw;cases jq p.py.ag now me c.a 2 != 0
  · cases !iA c.b 0 (((nth p.py.ag (iy p.py.ag now me c.a)).PG.length:Int) - 1)
    · cases c.Pz==7
      · cases !iA c.c 0 999<;>rfl
      · rfl
    · rfl
  · rfl
theorem Ak (p:cd) (me now:Int) (c:iJ):(kO p me now c).2.1=0∧cd.mk p.PB p.own (kO p me now c).2.2.PC (il.mk (kO p me now c).2.2.py.ag (jv.mk (kO p me now c).2.2.py.gc.PD (kO p me now c).2.2.py.gc.PL (kO p me now c).2.2.py.gc.PF p.py.gc.hZ)) p.ia (kO p me now c).2.2.PJ (kO p me now c).2.2.PI (kO p me now c).2.2.hY (kO p me now c).2.2.ik (kO p me now c).2.2.PH=(kO p me now c).2.2:=by
  unfold kO;cases jq p.py.ag now me c.a 0 != 0
  · cases (iy p.py.ag now me c.a==0) || (!iA c.b 1 1000 || decide (i64.wrap ((nth p.py.ag (iy p.py.ag now me c.a)).iK+c.b) > 1000000))
    · cases mn p (kJ p (nth p.py.ag (iy p.py.ag now me c.a)).res) (ic.mk 0 (i64.wrap ((nth p.py.ag (iy p.py.ag now me c.a)).bh * c.b)) 0)<;>exact ⟨rfl,rfl⟩
    · exact ⟨rfl,rfl⟩
  · exact ⟨rfl,rfl⟩
theorem Iv (p:cd) (c:iJ):cd.mk p.PB p.own (mU p c).2.2.PC (il.mk p.py.ag (jv.mk (mU p c).2.2.py.gc.PD (mU p c).2.2.py.gc.PL (mU p c).2.2.py.gc.PF p.py.gc.hZ)) p.ia (mU p c).2.2.PJ (mU p c).2.2.PI (mU p c).2.2.hY (mU p c).2.2.ik (mU p c).2.2.PH=(mU p c).2.2:=by
  unfold mU;cases c.Pz==9
  · cases c.Pz==10
    · cases !(l7 p.PC c.a).2<;>rfl
    · cases (!iA c.a 0 4 || (!iA c.b 0 4 || (!iA c.c 0 2 || !v7 c.d)))
      · cases !(l6 p.PC c.a c.b (lF c.c c.d)).2<;>rfl
      · rfl
  · cases (!iA c.a 0 4 || !iU (ic.mk c.b c.c c.d))
    · cases !(k6 p.PC c.a (ic.mk c.b c.c c.d)).2.2<;>rfl
    · rfl
theorem GM (p:cd) (me now th:Int) (c:iJ):cd.mk p.PB p.own p.PC (il.mk (lQ p me now th c).2.2.py.ag (jv.mk (lQ p me now th c).2.2.py.gc.PD (lQ p me now th c).2.2.py.gc.PL (lQ p me now th c).2.2.py.gc.PF p.py.gc.hZ)) p.ia (lQ p me now th c).2.2.PJ (lQ p me now th c).2.2.PI (lQ p me now th c).2.2.hY (lQ p me now th c).2.2.ik (lQ p me now th c).2.2.PH=(lQ p me now th c).2.2:=by
  unfold lQ;cases jq p.py.ag now me c.a 3 != 0
  · cases !iA c.b 0 999
    · cases c.Pz==12
      · cases ((nth p.py.ag (iy p.py.ag now me c.a)).PE.length:Int)==0<;>rfl
      · cases decide (((nth p.py.ag (iy p.py.ag now me c.a)).PE.length:Int) ≥ 2)<;>rfl
    · rfl
  · rfl
theorem Gp (p:cd) (me now:Int) (c:iJ):cd.mk p.PB p.own (lY p me now c).2.2.PC (lY p me now c).2.2.py p.ia (lY p me now c).2.2.PJ (lY p me now c).2.2.PI (lY p me now c).2.2.hY (lY p me now c).2.2.ik (lY p me now c).2.2.PH=(lY p me now c).2.2:=by
  unfold lY;cases qG now c
  · cases jq p.py.ag now me c.b 1 != 0
    · cases !mn p c.e (cost c)
      · cases decide ((kr p.py.ag (newObj now (iy p.py.ag now me c.b) c)).2<0)<;>rfl
      · rfl
    · rfl
  · rfl
theorem xu (p:cd) (th a:Int):(tf p th a).2.2=p:=by
  unfold tf;cases a==0
  · cases a==1
    · cases (a==2) || ((a==3) || (a==4))<;>rfl
    · rfl
  · rfl
theorem JG {a m n:Int} (hne:m ≠ n) (h:((a==m) || (a==n))=true):(a==m)=!(a==n):=by
  simp only [Bool.or_eq_true,beq_iff_eq] at h
  rcases h with h | h
  · subst h
    have:(a==n)=false:=by rw [beq_eq_false_iff_ne];exact hne
    rw [this];simp
  · subst h
    have:(a==m)=false:=by rw [beq_eq_false_iff_ne];exact fun q=>hne q.symm
    rw [this];simp
theorem O6 {N:Nat} (hN:ir+1≤N) {p:cd} (hp:kU p) (me now:Int) {th:Int} (t0:0≤th) (t9:th≤9) (c:iJ):qp N (iL.mk p me now th) c=some ((jJ p me now th c).1,(jJ p me now th c).2.1,iL.mk (jJ p me now th c).2.2 me now th):=by
  have hN':ir≤N:=Nat.le_of_succ_le hN;unfold qp jJ;simp only [Nl hN hp,NN hN' hp,Ns hN' hp,I7 hN' hp,MG hN' hp,Jy hN' hp,M5 hN' hp _ _ t0 t9,nO,PT,Nj,AZ,(BL p me now c).2,(Bz p me now c).2,Gk,(Ak p me now c).2,Iv,Gp,xu,wo,wK,wO];cases c.Pz==1
  case true=>rfl
  cases (c.Pz==2) || (c.Pz==3)
  case true=>simp only [PU,PV,(BL p me now c).1]
  cases (c.Pz==4) || (c.Pz==5)
  case true=>simp only [PU,PV,(Bz p me now c).1]
  cases (c.Pz==6) || (c.Pz==7)
  case true=>rfl
  cases c.Pz==8
  case true=>simp only [PU,PV,(Ak p me now c).1]
  cases (c.Pz==9) || ((c.Pz==10) || (c.Pz==11))
  case true=>rfl
  cases hg:(c.Pz==12) || (c.Pz==13)
  case true =>
    have:(c.Pz==13)=!(c.Pz==12):=by
      rw [Bool.or_comm] at hg;exact JG (by decide) hg
    simp only [PU,PV,ND hN' hp me now t0 t9 this,PT,GM]
  cases c.Pz==14
  case true=>simp only [PU,PV,xu]
  cases c.Pz==15
  case false=>rfl
  have h6:=hp.b6;unfold sh;simp only [PU,PV,CX h6];cases hi:iA c.a 0 ((p.ia.length:Int) - 1)
  · rfl
  simp only [PW,PU,D9 N h6 hi,PT];rfl
theorem uj {p:cd} {now th:Int} (h:lJ p now th=true):iO p=true∧0≤th∧th≤9:=by
  unfold lJ at h;simp only [PY] at h;exact xz (now:=now) (by simpa using h.1)
def mB (p:cd) (me now th:Int) (c:iJ):cd×iG :=
  bif !iO p || (!iA me 0 2 || !iA now 0 1000000) then (p,iG.mk 2 0) else bif !lJ p now th then (p,iG.mk 1 0) else fin c p (jJ p me now th c)
theorem N2 (p:cd) (me now th:Int) (c:iJ):cd.mk p.PB p.own (jJ p me now th c).2.2.PC (jJ p me now th c).2.2.py (jJ p me now th c).2.2.ia (jJ p me now th c).2.2.PJ (jJ p me now th c).2.2.PI (jJ p me now th c).2.2.hY (jJ p me now th c).2.2.ik (jJ p me now th c).2.2.PH=(jJ p me now th c).2.2:=by
  unfold jJ;cases c.Pz==1
  case true=>rw [PV, ← Gp]
  cases (c.Pz==2) || (c.Pz==3)
  case true=>rw [PU,PV, ← (BL p me now c).2]
  cases (c.Pz==4) || (c.Pz==5)
  case true=>rw [PU,PU,PV, ← (Bz p me now c).2]
  cases (c.Pz==6) || (c.Pz==7)
  case true=>rw [PU,PU,PU,PV, ← Gk]
  cases c.Pz==8
  case true=>rw [PU,PU,PU,PU,PV, ← (Ak p me now c).2]
  cases (c.Pz==9) || ((c.Pz==10) || (c.Pz==11))
  case true=>simp only [PU,PV];rw [← Iv]
  cases (c.Pz==12) || (c.Pz==13)
  case true=>simp only [PU,PV];rw [← GM]
  cases c.Pz==14
  case true=>simp only [PU,PV,xu,wO]
  cases c.Pz==15
  case false=>rfl
  simp only [PU,PV];unfold sh;cases !iA c.a 0 ((p.ia.length:Int) - 1)<;>rfl
theorem Hl {N:Nat} (hN:ir+1≤N) {p:cd} (hb:iH p≤3000000) (hw:wP p) (me now th:Int) (c:iJ):rS N p me now th c=some (mB p me now th c):=by
  have hN':ir≤N:=Nat.le_of_succ_le hN;have hB:iH p<ir:=Nat.lt_of_le_of_lt hb (by decide);unfold rS mB;simp only [zT hN' hB,Aa,wF,xB hN' hB,Ce hN' hB,PT,lq];cases !iO p || (!iA me 0 2 || !iA now 0 1000000)
  case true=>rfl
  cases hc:lJ p now th
  · rfl
  obtain ⟨ok,t0,t9⟩:=uj hc;simp only [PW,PU,O6 hN ⟨ok,hb,hw⟩ me now t0 t9,PT,N2,mj];unfold fin;cases (jJ p me now th c).1==0
  · simp only [PU];cases (c.Pz==1)&&(((jJ p me now th c).1==6) || ((jJ p me now th c).1==7))<;>rfl
  · rfl
theorem BU (p:cd) (me now:Int) (c:iJ) {β:Type} (x:Option β):m8 p.PB.PA (fin c p (jw p me now c)).1.PB.PA (m8 p.own (fin c p (jw p me now c)).1.own (m8 p.PC (fin c p (jw p me now c)).1.PC (m8 p.py.ag (fin c p (jw p me now c)).1.py.ag (m8 p.py.gc.hZ (fin c p (jw p me now c)).1.py.gc.hZ (m8 p.ia (fin c p (jw p me now c)).1.ia x)))))=x:=by
  have h:(jw p me now c).2.2.PB=p.PB∧(jw p me now c).2.2.own=p.own∧(jw p me now c).2.2.PC=p.PC∧(jw p me now c).2.2.py.ag.length=p.py.ag.length∧(jw p me now c).2.2.py.gc=p.py.gc∧(jw p me now c).2.2.ia=p.ia:=by
    unfold jw;cases jq p.py.ag now me c.a 2 != 0
    case true=>exact ⟨rfl,rfl,rfl,rfl,rfl,rfl⟩
    cases !iA c.b 0 (((nth p.py.ag (iy p.py.ag now me c.a)).PG.length:Int) - 1)
    case true=>exact ⟨rfl,rfl,rfl,rfl,rfl,rfl⟩
    cases c.Pz==7
    case true=>exact ⟨rfl,rfl,rfl,rfl,rfl,rfl⟩
    cases !iA c.c 0 999
    case true=>exact ⟨rfl,rfl,rfl,rfl,rfl,rfl⟩
    exact ⟨rfl,rfl,rfl,List.length_set,rfl,rfl⟩
  have g:(fin c p (jw p me now c)).1.PB.PA.length=p.PB.PA.length∧(fin c p (jw p me now c)).1.own.length=p.own.length∧(fin c p (jw p me now c)).1.PC.length=p.PC.length∧(fin c p (jw p me now c)).1.py.ag.length=p.py.ag.length∧(fin c p (jw p me now c)).1.py.gc.hZ.length=p.py.gc.hZ.length∧(fin c p (jw p me now c)).1.ia.length=p.ia.length:=by
    unfold fin;cases (jw p me now c).1==0
    · cases (c.Pz==1)&&(((jw p me now c).1==6) || ((jw p me now c).1==7))<;>exact ⟨rfl,rfl,rfl,rfl,rfl,rfl⟩
    · simp only [PV];rw [h.1,h.2.1,h.2.2.1,h.2.2.2.2.1,h.2.2.2.2.2];exact ⟨rfl,rfl,rfl,h.2.2.2.1,rfl,rfl⟩
  rw [sa g.1,sa g.2.1,sa g.2.2.1,sa g.2.2.2.1,sa g.2.2.2.2.1,sa g.2.2.2.2.2]
theorem Av {N:Nat} (hN:ir≤N) {p:cd} (hb:iH p≤3000000) (hw:wP p) (me now th:Int) (c:iJ):pG N p me now th c=some (mB p me now th c):=by
  have hB:iH p<ir:=Nat.lt_of_le_of_lt hb (by decide);unfold pG mB;simp only [z6 hN hB hw,nE,yq hN hB,BR hN hB hw,PT,lq,Nj,AZ];cases !iO p || (!iA me 0 2 || !iA now 0 1000000)
  case true=>rfl
  cases hc:lJ p now th
  · rfl
  obtain ⟨ok,t0,t9⟩:=uj hc;have hp:kU p:=⟨ok,hb,hw⟩;simp only [PW,PU];unfold jJ;cases hk:c.Pz==1
  case true=>simp only [PV,NM hN hp me now hk,PT]
  simp only [PU];cases (c.Pz==2) || (c.Pz==3)
  case true=>simp only [PV,M6 hN hp me now hk,PT]
  simp only [PU];cases (c.Pz==4) || (c.Pz==5)
  case true=>simp only [PV,MP hN hp me now hk,PT]
  simp only [PU];cases hd:(c.Pz==6) || (c.Pz==7)
  case true =>
    simp only [PV,Ie hN hp me now hk (JG (by decide) hd),PT]
    all_goals (rw [BU];rfl)
  simp only [PU];cases c.Pz==8
  case true=>simp only [PV,Mi hN hp me now hk,PT]
  simp only [PU];cases (c.Pz==9) || ((c.Pz==10) || (c.Pz==11))
  case true=>simp only [PV,Oq hN hp hk,PT]
  simp only [PU];cases (c.Pz==12) || (c.Pz==13)
  case true=>simp only [PV,Nv hN hp me now t0 t9 hk,PT]
  simp only [PU];cases c.Pz==14
  case true=>simp only [PV,NG hN hp t0 t9 hk,PT]
  simp only [PU];cases c.Pz==15
  case false=>simp only [PU,mi (show ((2:Int) != 0)=true from rfl) hk]
  have h6:=hp.b6;unfold sh;simp only [PV,CX h6];cases hi:iA c.a 0 ((p.ia.length:Int) - 1)
  · simp only [Bool.not_false,PV,mi (show ((2:Int) != 0)=true from rfl) hk]
  obtain ⟨h1,h2,h3,_⟩:=Jv h6 hi;have hB':(16777216:Nat)=ir:=rfl;have a1:app ([]:List iZ) (p.ia.take c.a.toNat)=some (p.ia.take c.a.toNat):=jT (by simp only [List.length_take];omega)
  have a2:app (p.ia.take c.a.toNat) (p.ia.drop (c.a.toNat+1))=some (p.ia.take c.a.toNat++p.ia.drop (c.a.toNat+1)):=by
    unfold app;rw [if_pos (by simp only [List.length_take,List.length_drop];omega)]
  simp only [PW,PU,h1,h2,h3,a1,a2,PT,vy];rfl
structure rj (p q:cd):Prop where
  sz:iH q≤iH p+300
  w:wP q
  ln:q.py.ag.length=p.py.ag.length
theorem oO {p q:cd} (h1:q.PB=p.PB) (h2:q.own=p.own) (h3:q.PC.length=p.PC.length) (h4:jr iz q.py.ag≤jr iz p.py.ag+250) (h5:q.py.gc.hZ.length≤p.py.gc.hZ.length+1) (h6:q.ia.length≤p.ia.length) (h7:wA q.py.ag) (h8:q.py.ag.length=p.py.ag.length):rj p q:=by
  refine ⟨?_,h7,h8⟩;unfold iH nj ui m6;rw [h1,h2];omega
theorem jS {p:cd} (h:kU p):rj p p:=⟨by omega,h.w,rfl⟩
theorem vi {l:List gE} {k:Nat} {o:gE} (ho:iz o≤100):jr iz (l.set k o)≤jr iz l+100:=Nat.le_trans va (by omega)
theorem Au (h:il) (c i:Int):(mD h c i).ag.length=h.ag.length:=by
  unfold mD qE mb;cases decide (c ≥ 0)
  · rfl
  cases kB h&&iA i 0 9
  · rfl
  simp only [PV];split
  · simp only [List.length_set]
  · rfl
theorem Bi {h:il} (hw:wA h.ag) (c i:Int):jr iz (mD h c i).ag=jr iz h.ag∧wA (mD h c i).ag∧(mD h c i).gc.hZ.length≤h.gc.hZ.length+1:=by
  unfold mD qE;cases decide (c ≥ 0)
  · exact ⟨rfl,hw,Nat.le_succ _⟩
  cases q:kB h&&iA i 0 9
  · exact ⟨rfl,hw,Nat.le_succ _⟩
  simp only [PY,iS] at q;have hl:=(o6 q.1).len;simp only [PV];refine ⟨?_,?_,xY h i⟩
  · unfold mb;split
    · exact pb q.2.1 (by omega) rfl
    · rfl
  · unfold mb;split
    · exact kR hw (show nn (marked (nth h.ag i) true) from hw (nth h.ag i) (lh q.2.1 (by omega)))
    · exact hw
theorem LP {p:cd} (hp:kU p) (me now:Int) (c:iJ):rj p (mI p me now c).2.2:=by
  unfold mI;cases !iA c.b 0 1
  case true=>exact jS hp
  cases q2:jq p.py.ag now me c.a 0 != 0
  case true=>exact jS hp
  obtain ⟨ar,g0,g9,_,_⟩:=kV (jX q2);cases (c.Pz==2)&&(jq p.py.ag now me c.c 0 != 0)
  case true=>exact jS hp
  simp only [PU];generalize (bif c.Pz==2 then iy p.py.ag now me c.c else -1)=x;have ho:=oQ ar g0 g9;obtain ⟨a,b,d⟩:=Bi (h:=il.mk (p.py.ag.set (iy p.py.ag now me c.a).toNat (linked (nth p.py.ag (iy p.py.ag now me c.a)) c.b x)) p.py.gc) (kR hp.w (show nn (nth p.py.ag (iy p.py.ag now me c.a)) from hp.w _ (ar.at g0 g9).2)) x x;refine oO rfl rfl rfl ?_ d (Nat.le_refl _) b (by show (mD _ _ _).ag.length=_;rw [Au];exact List.length_set);refine Nat.le_trans (Nat.le_of_eq a) (Nat.le_trans (vi (by rw [yX];omega)) (by omega))
theorem Mx {p:cd} (hp:kU p) (me now:Int) (c:iJ):rj p (mE p me now c).2.2:=by
  unfold mE;cases q2:jq p.py.ag now me c.a 0 != 0
  case true=>exact jS hp
  obtain ⟨ar,g0,g9,_,_⟩:=kV (jX q2);cases iy p.py.ag now me c.a==0
  case true=>exact jS hp
  cases (c.Pz==4)&&(jq p.py.ag now me c.b 1 != 0)
  case true=>exact jS hp
  simp only [PU];generalize (bif c.Pz==4 then iy p.py.ag now me c.b else -1)=x;have ho:=oQ ar g0 g9;obtain ⟨a,b,d⟩:=Bi (h:=il.mk (p.py.ag.set (iy p.py.ag now me c.a).toNat (boxed (nth p.py.ag (iy p.py.ag now me c.a)) x)) p.py.gc) (kR hp.w (show nn (nth p.py.ag (iy p.py.ag now me c.a)) from hp.w _ (ar.at g0 g9).2)) x (iy p.py.ag now me c.a);refine oO rfl rfl rfl ?_ d (Nat.le_refl _) b (by show (mD _ _ _).ag.length=_;rw [Au];exact List.length_set);refine Nat.le_trans (Nat.le_of_eq a) (Nat.le_trans (vi (show iz (nth p.py.ag (iy p.py.ag now me c.a))≤100 by omega)) (by omega))
theorem LN {p:cd} (hp:kU p) (me now:Int) (c:iJ):rj p (jw p me now c).2.2:=by
  unfold jw;cases q2:jq p.py.ag now me c.a 2 != 0
  case true=>exact jS hp
  obtain ⟨ar,g0,g9,_,_⟩:=kV (jX q2);cases !iA c.b 0 (((nth p.py.ag (iy p.py.ag now me c.a)).PG.length:Int) - 1)
  case true=>exact jS hp
  cases c.Pz==7
  case true=>exact jS hp
  cases !iA c.c 0 999
  case true=>exact jS hp
  have ho:=oQ ar g0 g9;refine oO rfl rfl rfl ?_ (Nat.le_succ _) (Nat.le_refl _) (kR hp.w (show nn (nth p.py.ag (iy p.py.ag now me c.a)) from hp.w _ (ar.at g0 g9).2)) List.length_set;refine Nat.le_trans (vi (o:=written (nth p.py.ag (iy p.py.ag now me c.a)) c.b c.c) ?_) (by omega);unfold iz written at *;simp only [List.length_set];omega
theorem KM {p:cd} (hp:kU p) (me now:Int) (c:iJ):rj p (kO p me now c).2.2:=by
  unfold kO;cases q2:jq p.py.ag now me c.a 0 != 0
  case true=>exact jS hp
  obtain ⟨ar,g0,g9,_,_⟩:=kV (jX q2);cases (iy p.py.ag now me c.a==0) || (!iA c.b 1 1000 || decide (i64.wrap ((nth p.py.ag (iy p.py.ag now me c.a)).iK+c.b) > 1000000))
  case true=>exact jS hp
  cases !mn p (kJ p (nth p.py.ag (iy p.py.ag now me c.a)).res) (ic.mk 0 (i64.wrap ((nth p.py.ag (iy p.py.ag now me c.a)).bh * c.b)) 0)
  case true=>exact jS hp
  have ho:=oQ ar g0 g9;refine oO rfl rfl (mq _ _ _) ?_ (Nat.le_succ _) (Nat.le_refl _) (kR hp.w (show nn (nth p.py.ag (iy p.py.ag now me c.a)) from hp.w _ (ar.at g0 g9).2)) List.length_set;exact Nat.le_trans (vi (show iz (nth p.py.ag (iy p.py.ag now me c.a))≤100 by omega)) (by omega)
theorem BD {p:cd} (hp:kU p) {t:List im} (h:t.length=p.PC.length):rj p (wu p t):=oO rfl rfl h (by show jr iz p.py.ag≤_;omega) (Nat.le_succ _) (Nat.le_refl _) hp.w rfl
theorem NP {p:cd} (hp:kU p) (c:iJ):rj p (mU p c).2.2:=by
  unfold mU;cases c.Pz==9
  · cases c.Pz==10
    · cases !(l7 p.PC c.a).2
      · exact BD hp (yo _ _)
      · exact jS hp
    · cases (!iA c.a 0 4 || (!iA c.b 0 4 || (!iA c.c 0 2 || !v7 c.d)))
      · cases !(l6 p.PC c.a c.b (lF c.c c.d)).2
        · exact BD hp (Du _ _ _ _)
        · exact jS hp
      · exact jS hp
  · cases (!iA c.a 0 4 || !iU (ic.mk c.b c.c c.d))
    · cases !(k6 p.PC c.a (ic.mk c.b c.c c.d)).2.2
      · exact BD hp (yb _ _ _)
      · exact jS hp
    · exact jS hp
theorem LX (h:il) (i:Int):(mW h i).ag.length=h.ag.length:=by
  unfold mW;split
  · simp only [List.length_set]
  · rfl
theorem MR (l:List gE) (k w b:Int):(vC l k w b).length=l.length:=by
  unfold vC;cases decide (k ≥ 0)&&((nth l k).PK==w)
  · rfl
  · simp only [PV,List.length_set]
theorem L0 {h:il} (hw:wA h.ag) (i:Int):jr iz (mW h i).ag=jr iz h.ag∧wA (mW h i).ag∧(mW h i).gc.hZ.length=h.gc.hZ.length:=by
  unfold mW;split
  · rename_i q;simp only [PY,iS] at q;have hl:=(o6 q.1).len;exact ⟨pb q.2.1.1 (by omega) rfl,kR hw (show nn (nth h.ag i) from hw _ (lh q.2.1.1 (by omega))),rfl⟩
  · exact ⟨rfl,hw,rfl⟩
theorem MB {p:cd} (hp:kU p) (f:Int) (a:ic):rj p (pM p f a):=oO rfl rfl (mq _ _ _) (by show jr iz p.py.ag≤_;omega) (Nat.le_succ _) (Nat.le_refl _) hp.w rfl
theorem Ml {p:cd} (hp:kU p) (me now:Int) (c:iJ):rj p (lY p me now c).2.2:=by
  unfold lY;cases q1:qG now c
  case true=>exact jS hp
  cases jq p.py.ag now me c.b 1 != 0
  case true=>exact jS hp
  cases !mn p c.e (cost c)
  case true=>exact jS hp
  generalize iy p.py.ag now me c.b=box;cases q4:decide ((kr p.py.ag (newObj now box c)).2<0)
  case true=>exact MB hp _ _
  obtain ⟨j,g,e,ar,hj⟩:=xb q4;simp only [PU];rw [e];have ho:=yv (now:=now) (box:=box) (vh q1);obtain ⟨a,b,d⟩:=L0 (h:=il.mk (p.py.ag.set j (kn (newObj now box c) g)) p.py.gc) (kR hp.w (xQ (Ac _ _ _))) (j:Int);refine oO rfl rfl (mq _ _ _) ?_ (by show (mW _ _).gc.hZ.length≤_;rw [d];exact Nat.le_succ _) (Nat.le_refl _) b (by show (mW _ _).ag.length=_;rw [LX];exact List.length_set);exact Nat.le_trans (Nat.le_of_eq a) (Nat.le_trans (vi (show iz (newObj now box c)≤100 from ho)) (by omega))
theorem KI {l:List gE} (h:wA l) {i:Int} (h0:0≤i) (h1:i<(l.length:Int)):nn (nth l i):=h _ (lh h0 h1)
theorem M7 {l:List gE} (hw:wA l) {k w b:Int} (h:0≤k→k<(l.length:Int)):jr iz (vC l k w b)=jr iz l∧wA (vC l k w b):=by
  unfold vC;cases q:decide (k ≥ 0)&&((nth l k).PK==w)
  · exact ⟨rfl,hw⟩
  simp only [PY,decide_eq_true_eq] at q;have k1:=h q.1
  have w0:nn (waiting (nth l k) 0):=by show (-9223372036854775808:Int)≤0;decide
  have w1:=kR (k:=k.toNat) hw w0
  have k2:k<((l.set k.toNat (waiting (nth l k) 0)).length:Int):=by simp only [List.length_set];exact k1
  simp only [PV];exact ⟨(pb (z:=xI (nth (l.set k.toNat (waiting (nth l k) 0)) k) b) q.1 k2 rfl).trans (pb q.1 k1 rfl),kR w1 (show nn (nth (l.set k.toNat (waiting (nth l k) 0)) k) from KI w1 q.1 k2)⟩
theorem OQ (n:Int):-9223372036854775808≤i64.wrap n:=by
  simp [IntKind.wrap,IntKind.signed,IntKind.bits];split<;>omega
theorem Me {p:cd} (hp:kU p) (me now:Int) {th:Int} (t0:0≤th) (t9:th≤9) (c:iJ):rj p (lQ p me now th c).2.2:=by
  unfold lQ;cases q2:jq p.py.ag now me c.a 3 != 0
  case true=>exact jS hp
  obtain ⟨ar,g0,g9,_,_⟩:=kV (jX q2);cases !iA c.b 0 999
  case true=>exact jS hp
  simp only [PU];generalize iy p.py.ag now me c.a=i at *;have ho:=oQ ar g0 g9;have hl:=ar.len;have hwi:nn (nth p.py.ag i):=hp.w _ (ar.at g0 g9).2
  have qs:∀ q,q.length≤20→iz (nR (nth p.py.ag i) q)≤100:=fun q hq=>by
    unfold iz at ho;unfold iz nR;simp only;omega
  have hq:=yp ho;cases c.Pz==12
  · cases ((nth p.py.ag i).PE.length:Int)==0
    case true=>exact jS hp
    have hw1:wA (served p.py.ag i):=kR hp.w hwi;obtain ⟨a,b⟩:=M7 (l:=served p.py.ag i) hw1 (k:=iy (served p.py.ag i) now me (nth (nth p.py.ag i).PE 0).PS) (w:=i64.wrap (c.a+1)) (b:=c.b) (uc (by unfold served;simp only [List.length_set];exact hl));refine oO rfl rfl rfl ?_ (Nat.le_succ _) (Nat.le_refl _) b (by show (vC _ _ _ _).length=_;rw [MR];exact List.length_set);refine Nat.le_trans (Nat.le_of_eq a) (Nat.le_trans (vi (qs _ (by simp only [List.length_drop];omega))) (by omega))
  · cases decide (((nth p.py.ag i).PE.length:Int) ≥ 2)
    case true=>exact jS hp
    have hw1:wA (asked p.py.ag i me th c):=kR hp.w hwi
    have hl1:(asked p.py.ag i me th c).length=10:=by unfold asked;simp only [List.length_set];exact hl
    have e:jr iz ((asked p.py.ag i me th c).set th.toNat (waiting (nth (asked p.py.ag i me th c) th) (i64.wrap (c.a+1))))=jr iz (asked p.py.ag i me th c):=pb t0 (by omega) rfl;refine oO rfl rfl rfl ?_ (Nat.le_succ _) (Nat.le_refl _) (kR hw1 (OQ _)) (by show (List.set _ _ _).length=_;rw [List.length_set,hl1,hl]);refine Nat.le_trans (Nat.le_of_eq e) (Nat.le_trans (vi (qs _ (by simp only [List.length_append,List.length_cons,List.length_nil];omega))) (by omega))
theorem K2 {p:cd} (hp:kU p) (c:iJ):rj p (sh p c).2.2:=by
  unfold sh;cases hi:iA c.a 0 ((p.ia.length:Int) - 1)
  · exact jS hp
  · exact oO rfl rfl rfl (by show jr iz p.py.ag≤_;omega) (Nat.le_succ _) (by show (p.ia.take c.a.toNat++p.ia.drop (c.a.toNat+1)).length≤_;simp only [List.length_append,List.length_take,List.length_drop];omega) hp.w rfl
theorem Lb {p:cd} (hp:kU p) (me now:Int) {th:Int} (t0:0≤th) (t9:th≤9) (c:iJ):rj p (jJ p me now th c).2.2:=by
  unfold jJ;cases c.Pz==1
  case true=>exact Ml hp _ _ _
  cases (c.Pz==2) || (c.Pz==3)
  case true=>exact LP hp _ _ _
  cases (c.Pz==4) || (c.Pz==5)
  case true=>exact Mx hp _ _ _
  cases (c.Pz==6) || (c.Pz==7)
  case true=>exact LN hp _ _ _
  cases c.Pz==8
  case true=>exact KM hp _ _ _
  cases (c.Pz==9) || ((c.Pz==10) || (c.Pz==11))
  case true=>exact NP hp _
  cases (c.Pz==12) || (c.Pz==13)
  case true=>exact Me hp _ _ t0 t9 _
  cases c.Pz==14
  case true=>simp only [PU,PV,xu];exact jS hp
  cases c.Pz==15
  case true=>exact K2 hp _
  exact jS hp
theorem BE {p:cd} (hb:iH p≤3000000) (hw:wP p) (me now th:Int) (c:iJ):iH (mB p me now th c).1≤iH p+300∧wP (mB p me now th c).1:=by
  unfold mB;cases !iO p || (!iA me 0 2 || !iA now 0 1000000)
  case true=>exact ⟨Nat.le_add_right _ _,hw⟩
  cases hc:lJ p now th
  · exact ⟨Nat.le_add_right _ _,hw⟩
  obtain ⟨ok,t0,t9⟩:=uj hc;have hp:kU p:=⟨ok,hb,hw⟩;simp only [PW,PU];unfold fin;cases (jJ p me now th c).1==0
  · cases (c.Pz==1)&&(((jJ p me now th c).1==6) || ((jJ p me now th c).1==7))<;>exact ⟨Nat.le_add_right (iH p) _,hw⟩
  · have h:=Lb hp me now t0 t9 c;exact ⟨h.sz,h.w⟩
theorem zS {p:cd} (hb:iH p≤3000000) (hw:wP p) (me now th:Int) (c:iJ):(mB p me now th c).1.py.ag.length=p.py.ag.length:=by
  unfold mB;cases !iO p || (!iA me 0 2 || !iA now 0 1000000)
  case true=>rfl
  cases hc:lJ p now th
  · rfl
  obtain ⟨ok,t0,t9⟩:=uj hc;simp only [PW,PU];unfold fin;cases (jJ p me now th c).1==0
  · cases (c.Pz==1)&&(((jJ p me now th c).1==6) || ((jJ p me now th c).1==7))<;>rfl
  · exact (Lb ⟨ok,hb,hw⟩ me now t0 t9 c).ln
end Go.Kx
