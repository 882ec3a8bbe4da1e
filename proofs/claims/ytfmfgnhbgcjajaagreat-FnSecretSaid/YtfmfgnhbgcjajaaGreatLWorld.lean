import Derived.Test.YtfmfgnhbgcjajaaGreatLCall
namespace Go.Kx
open Go
set_option linter.unusedVariables false
set_option linter.unusedSimpArgs false
set_option maxRecDepth 10000
structure Wq (w:dh):Prop where
  lA:eE dC w.parts<df
  each:∀p,p∈w.parts->dC p<=3000000
  w:wW w.parts
theorem E7{α:Type}{l:List α}{i:Int}{y:α}(h0:0<=i)(h1:i<(l.length:Int)):idx (l.set i.toNat y) i=some y:=by
  have:=H8 (l:=l) (k:=i.toNat) (y:=y) (by omega)
  rwa[Int.toNat_of_nonneg h0]at this
theorem B8{α:Type}{t:List α}{z:α}(h:t.length<=1000000):app t [z]=some (t++[z]):=fZ h (by decide)
def jU(w:dh)(q:Int)(z:bh):dh:=dh.mk w.RB (w.parts.set q.toNat z)
def kS(w:dh)(p a b:Int):Bool:=lK (nth w.parts p).own (nth w.parts a).Rp (nth w.parts b).Rp
def Ek(p:bh):bh:=bh.mk p.Rp p.own p.Rr p.py p.db p.RA p.Rz p.dc p.du (if 1000000<IntKind.i64.wrap (p.Rx+1)then 1000000 else IntKind.i64.wrap (p.Rx+1))
def lv(l:List c6)(i:Int):Bool:=decide (i>=0)&&(((nth l i).Rq==3)&&decide (((nth l i).Rs.length:Int)<2))
def OT(p:bh)(i n:Int):bh:=jM p (p.py.ag.set i.toNat (lN (nth p.py.ag i) ((nth p.py.ag i).Rs++[eL.mk (-1) n])))
def nB(c:dD):ef:=ef.mk c.a c.b c.c (IntKind.i64.wrap (Int.tdiv c.d 10)) (Int.tmod c.d 10) c.e
def sY(w:dh)(p q:Int)(c:dD):Int×Int×dh :=
  bif !kS w p q p then(3,0,w)else((eX (nth w.parts q) q w.RB c).1,(eX (nth w.parts q) q w.RB c).2.1,w)
def tj(p:bh)(i n:Int):bh:=bif lv p.py.ag i then OT p i n else Ek p
def oU(w:dh)(p q:Int)(c:dD):Int×Int×dh :=
  bif !dv c.b 0 999 then(2,0,w)else bif !kS w p p q then(3,0,w)else
  (0,0,jU w q (tj (nth w.parts q) (dq (nth w.parts q).py.ag w.RB q c.a) c.b))
def ua(w:dh)(p q:Int)(c:dD):Int×Int×dh :=
  bif decide (c.d<0) || !gO (nB c)then(2,0,w)else bif !kS w p p q then(3,0,w)else
  bif !eh (nth w.parts p).Rr c.a then(6,0,w)else bif decide (((nth w.parts p).db.length:Int)>=3)then(7,0,w)else
  (0,IntKind.i64.wrap ((((nth w.parts p).db++[nB c]).length:Int)-1),jU w p (vC (nth w.parts p) ((nth w.parts p).db++[nB c])))
def oq(r:Int×Int×dh):dh×dt:=bif r.1 != 0 then(r.2.2,dt.mk r.1 0)else(r.2.2,dt.mk 0 r.2.1)
def ga(w:dh)(p th:Int)(c:dD):dh×dt :=
  bif !eI w || !er w p then(w,dt.mk 2 0)else bif !ig (nth w.parts p) w.RB th then(w,dt.mk 1 0)else
  bif decide (other w p c<0)then(w,dt.mk 2 0)else
  bif c.Rq==7 then oq (sY w p (other w p c) c)else bif c.Rq==17 then oq (oU w p (other w p c) c)else bif c.Rq==16 then oq (ua w p (other w p c) c)else
  (jU w p (jJ (nth w.parts p) p w.RB th c).1,(jJ (nth w.parts p) p w.RB th c).2)
theorem Fo(r:Int×Int×dh):(bif r.1 != 0 then some (dh.mk r.2.2.RB r.2.2.parts,dt.mk r.1 0)else some (dh.mk r.2.2.RB r.2.2.parts,dt.mk 0 r.2.1))=some (oq r):=by
  unfold oq;cases r.1 != 0<;>rfl
theorem vr(w:dh)(p q:Int)(c:dD):(sY w p q c).2.2=w:=by
  unfold sY;cases !kS w p q p<;>rfl
theorem vh{w:dh}(h:eI w=true){p:bh}(hp:p∈w.parts):dH p=true:=by
  unfold eI at h;simp only[RP,List.all_eq_true]at h;exact h.2.2.1 p hp
theorem w6{w:dh}{p:Int}(h:er w p=true):0<=p/\p<(w.parts.length:Int):=by
  unfold er at h;rw[dI]at h;omega
theorem Wq.HM{w:dh}(h:Wq w)(ok:eI w=true){p:bh}(hp:p∈w.parts):ik p:=⟨vh ok hp,h.each p hp,h.w p hp⟩
section
variable {N:Nat} {w:dh} {p q:Int} {c:dD}
theorem yv(hN:df<=N)(hw:Wq w){a b d:Int}(ha:er w a=true)(hb:er w b=true)(hd:er w d=true):nq N w a b d=some (kS w a b d):=by
  obtain⟨a1,a2⟩:=fu ha;obtain⟨b1,b2⟩:=fu hb;obtain⟨d1,d2⟩:=fu hd;unfold nq kS;simp only[a1,b1,d1,RK,AO hN (gm (fq hw.lA a2)).2.1 (gm (fq hw.lA b2)).1 (gm (fq hw.lA d2)).1]
theorem Mz{P:bh}{me now:Int}(h:(c.Rq==7)=true):fin c P (eX P me now c)=(P,bif(eX P me now c).1==0 then dt.mk 0 (eX P me now c).2.1 else dt.mk (eX P me now c).1 0):=by
  have hp:(eX P me now c).2.2=P:=by
    unfold eX;rw[h];cases eO P.py.ag now me c.a 2 != 0
    · cases !dv c.b 0 (((nth P.py.ag (dq P.py.ag now me c.a)).Rw.length:Int)-1)<;>rfl
    · rfl
  have h1:(c.Rq==1)=false:=by
    have:c.Rq=7:=by simpa using h
    rw[this];rfl
  unfold fin;rw[hp,h1];cases(eX P me now c).1==0<;>rfl
theorem PG(hN:df<=N)(hw:Wq w)(ok:eI w=true)(hp:er w p=true)(hq:er w q=true)(c:dD):oC N w p q c=some ((sY w p q c).1,(sY w p q c).2.1):=by
  obtain⟨q1,q2⟩:=fu hq;unfold oC sY;simp only[yv hN hw hp hq hp,RK];cases kS w p q p
  · rfl
  simp only[RN,RL,q1,RK,mW hN (fq hw.lA q2),KB hN (hw.HM ok q2)]
theorem PL(hN:df<=N)(hw:Wq w)(ok:eI w=true)(hp:er w p=true)(hq:er w q=true)(hk:(c.Rq==7)=true):ra N w p q c=some (oq (sY w p q c)):=by
  obtain⟨p1,p2⟩:=fu hp;obtain⟨q1,q2⟩:=fu hq;obtain⟨q0,q9⟩:=w6 hq
  have hc:c.Rq=7:=by simpa using hk
  unfold ra sY kS;simp only[p1,q1,RK,xK hN (gm (fq hw.lA p2)).2.1 (gm (fq hw.lA q2)).1 (gm (fq hw.lA p2)).1];cases lK (nth w.parts p).own (nth w.parts q).Rp (nth w.parts p).Rp
  · rfl
  simp only[RN,RL,Ku hN (hw.HM ok q2) q w.RB (c:=c) (by rw[hc];rfl) (by rw[hc];rfl),RK,CR];rw[Mz hk];simp only[RK];rw[show w.parts.set q.toNat (bh.mk (nth w.parts q).Rp (nth w.parts q).own (nth w.parts q).Rr (dm.mk (nth w.parts q).py.ag (eS.mk (nth w.parts q).py.gc.Ru (nth w.parts q).py.gc.RD (nth w.parts q).py.gc.Rv (nth w.parts q).py.gc.da)) (nth w.parts q).db (nth w.parts q).RA (nth w.parts q).Rz (nth w.parts q).dc (nth w.parts q).du (nth w.parts q).Rx)=w.parts from kJ (fV q0 q9)];unfold oq bne;cases(eX (nth w.parts q) q w.RB c).1==0<;>rfl
theorem PJ(hN:df<=N)(hw:Wq w)(ok:eI w=true)(hp:er w p=true)(hq:er w q=true)(c:dD):nQ N w p q c=some ((oU w p q c).1,(oU w p q c).2.2):=by
  obtain⟨q1,q2⟩:=fu hq;have ar:=fb (vh ok q2);have hb:=(gm (fq hw.lA q2)).2.2.2.1;unfold nQ oU;simp only[jK,yv hN hw hp hp hq,RK];cases dv c.b 0 999
  · rfl
  cases kS w p p q
  · rfl
  simp only[RN,RL,q1,RK,uZ hN hb];have hg:=sA (l:=(nth w.parts q).py.ag) (now:=w.RB) (me:=q) (h:=c.a) ar.len;generalize dq (nth w.parts q).py.ag w.RB q c.a=g at *;unfold tj
  have e:(bif decide (g>=0)then(idx (nth w.parts q).py.ag g).bind fun y45=>bif y45.Rq==3 then some (decide ((y45.Rs.length:Int)<2))else some false else some false)=some (lv (nth w.parts q).py.ag g):=by
    unfold lv;cases h:decide (g>=0)
    · rfl
    have h:=of_decide_eq_true h;rw[eK h (hg h),RK];simp only[RM,RO,iB]
  rw[e,RK];cases h:lv (nth w.parts q).py.ag g
  · rfl
  have h':=h;unfold lv at h';simp only[RP,decide_eq_true_eq]at h';rw[RM,eK h'.1 (hg h'.1),RK,B8 (by omega)];rfl
theorem O7(hN:df<=N)(hw:Wq w)(ok:eI w=true)(hp:er w p=true)(hq:er w q=true)(c:dD):qW N w p q c=some (oq (oU w p q c)):=by
  obtain⟨p1,p2⟩:=fu hp;obtain⟨q1,q2⟩:=fu hq;have ar:=fb (vh ok q2);have hb:=(gm (fq hw.lA q2)).2.2.2.1;unfold qW oU kS;simp only[jj,p1,q1,xK hN (gm (fq hw.lA p2)).2.1 (gm (fq hw.lA p2)).1 (gm (fq hw.lA q2)).1,RK];cases dv c.b 0 999
  · rfl
  cases lK (nth w.parts p).own (nth w.parts p).Rp (nth w.parts q).Rp
  · rfl
  simp only[RN,RL,RK,vc hN hb (hw.w _ q2)];have hg:=sA (l:=(nth w.parts q).py.ag) (now:=w.RB) (me:=q) (h:=c.a) ar.len;generalize dq (nth w.parts q).py.ag w.RB q c.a=g at *;unfold tj
  have e:(bif decide (g<0)then some true else(idx (nth w.parts q).py.ag g).bind fun y84=>bif y84.Rq != 3 then some true else some (decide ((y84.Rs.length:Int)>=2)))=some (!lv (nth w.parts q).py.ag g):=by
    unfold lv
    by_cases h:g<0
    · rw[decide_eq_true h,decide_eq_false (show ¬ g>=0 by omega)];rfl
    rw[decide_eq_false h,decide_eq_true (show g>=0 by omega),RL,eK (by omega) (hg (by omega)),RK,gv,RO,Bool.not_and];unfold bne
    by_cases k:((nth (nth w.parts q).py.ag g).Rs.length:Int)<2
    · rw[decide_eq_true k,decide_eq_false (show ¬ ((nth (nth w.parts q).py.ag g).Rs.length:Int)>=2 by omega)];rfl
    · rw[decide_eq_false k,decide_eq_true (show((nth (nth w.parts q).py.ag g).Rs.length:Int)>=2 by omega)];rfl
  rw[e,RK];cases h:lv (nth w.parts q).py.ag g
  · rfl
  have h':=h;unfold lv at h';simp only[RP,decide_eq_true_eq]at h';rw[RN,RL,eK h'.1 (hg h'.1),RK,fM (Nat.lt_trans (show _<2 by omega) (by decide)),RK,B8 (by omega)];rfl
theorem PT(hN:df<=N)(hw:Wq w)(ok:eI w=true)(hp:er w p=true)(hq:er w q=true)(c:dD):oH N w p q c=some (ua w p q c):=by
  obtain⟨p1,p2⟩:=fu hp;obtain⟨p0,p9⟩:=w6 hp;have hT:=fc.1 (iM (vh ok p2));unfold oH ua;simp only[p1,zr,yv hN hw hp hp hq,pR N hT.len,RK,gv]
  show(bif(decide (c.d<0) || !gO (nB c))then _ else _)=_
  cases decide (c.d<0) || !gO (nB c)
  case true=>rfl
  cases kS w p p q
  case false=>rfl
  cases eh (nth w.parts p).Rr c.a
  case false=>rfl
  cases h:decide (((nth w.parts p).db.length:Int)>=3)
  case true=>rfl
  have h:=of_decide_eq_false h;simp only[RN,RL];rw[B8 (by omega),RK,E7 p0 p9];rfl
theorem P6(hN:df<=N)(hw:Wq w)(ok:eI w=true)(hp:er w p=true)(hq:er w q=true)(c:dD):sM N w p q c=some (oq (ua w p q c)):=by
  obtain⟨p1,p2⟩:=fu hp;obtain⟨q1,q2⟩:=fu hq;obtain⟨p0,p9⟩:=w6 hp;have hT:=iM (vh ok p2);unfold sM ua kS;simp only[p1,q1,zd,xK hN (gm (fq hw.lA p2)).2.1 (gm (fq hw.lA p2)).1 (gm (fq hw.lA q2)).1,r8 hN,hT,RO,RK];cases decide (c.d<0)
  case true=>rfl
  show(bif !gO (nB c)then _ else _)=some (oq (bif !gO (nB c)then _ else _))
  cases gO (nB c)
  case false=>rfl
  cases lK (nth w.parts p).own (nth w.parts p).Rp (nth w.parts q).Rp
  case false=>rfl
  cases eh (nth w.parts p).Rr c.a
  case false=>rfl
  cases h:decide (((nth w.parts p).db.length:Int)>=3)
  case true=>rfl
  have h:=of_decide_eq_false h;simp only[RN,RL];rw[fM (Nat.lt_trans (show _<3 by omega) (by decide)),RK,B8 (by omega),RK,RK,E7 p0 p9];rfl
theorem GM(hN:df+1<=N)(hw:Wq w)(p th:Int)(c:dD):oP N w p th c=some (ga w p th c):=by
  have hN':df<=N:=Nat.le_of_succ_le hN;have hl:=gj hw.lA;unfold oP ga;simp only[rz hN' hw.lA,wx hN' hw.lA,v8 hl,RK,gv];cases hok:!eI w || !er w p
  case true=>rfl
  have hok:eI w=true/\er w p=true:=by simpa using hok
  obtain⟨ok,hp⟩:=hok;obtain⟨p1,p2⟩:=fu hp;simp only[RL,p1,RK,CF hN' (fq hw.lA p2)];cases hc:ig (nth w.parts p) w.RB th
  case false=>rfl
  simp only[RN,RL,Gb hl,RK];cases ho:decide (other w p c<0)
  case true=>rfl
  have hq:=sx ho;generalize other w p c=q at *;simp only[RL];cases c.Rq==7
  case true=>simp only[RM,PG hN' hw ok hp hq,RK];rw[<- Fo,vr];rfl
  cases c.Rq==17
  case true=>simp only[RM,RL,PJ hN' hw ok hp hq,RK];unfold oU;cases dv c.b 0 999<;>cases kS w p p q<;>rfl
  cases c.Rq==16
  case true=>simp only[RM,RL,PT hN' hw ok hp hq,RK];rw[<- Fo];rfl
  simp only[RL,Ic hN (hw.each _ p2) (hw.w _ p2),RK];rfl
theorem FX(hN:df<=N)(hw:Wq w)(p th:Int)(c:dD):oE N w p th c=some (ga w p th c):=by
  have hl:w.parts.length<16777216:=gj hw.lA;unfold oE ga;simp only[uz hN hw.lA,wz hN hw.lA hw.w,jj,RK,gv];rw[dB (by omega) (by omega),show dv p 0 ((w.parts.length:Int)-1)=er w p from rfl];cases hok:!eI w || !er w p
  case true=>rfl
  have hok:eI w=true/\er w p=true:=by simpa using hok
  obtain⟨ok,hp⟩:=hok;obtain⟨p1,p2⟩:=fu hp;simp only[RL,p1,RK,Co hN (fq hw.lA p2) (hw.w _ p2)];cases hc:ig (nth w.parts p) w.RB th
  case false=>rfl
  simp only[RN,RL,Gt hl,RK,Ib hN (hw.each _ p2) (hw.w _ p2)]
  have hself:((c.Rq==7) || ((c.Rq==17) || (c.Rq==16)))=false->decide (other w p c<0)=false:=fun h=>by
    have h0:=w6 hp;simp only[Bool.or_eq_false_iff]at h;unfold other target;rw[h.1,h.2.1,h.2.2];simp only[Bool.or_self,Bool.false_eq_true,if_false,hp,if_true];exact decide_eq_false (by omega)
  cases k7:c.Rq==7
  case true =>
    simp only[RM,RK];cases ho:decide (other w p c<0)
    case true=>rfl
    simp only[RL,PL hN hw ok hp (sx ho) k7,RK]
  cases k17:c.Rq==17
  case true =>
    simp only[RM,RL,RK];cases ho:decide (other w p c<0)
    case true=>rfl
    simp only[RL,O7 hN hw ok hp (sx ho),RK]
  cases k16:c.Rq==16
  case true =>
    simp only[RM,RL,RK];cases ho:decide (other w p c<0)
    case true=>rfl
    simp only[RL,P6 hN hw ok hp (sx ho),RK]
  rw[hself (by rw[k7,k17,k16];rfl)];simp only[RL,RK];rfl
end
end Go.Kx
