import Derived.Test.YtfmfgnhbgcjajaaGreatLCall
namespace Go.Kx
open Go
set_option linter.unusedVariables false
set_option linter.unusedSimpArgs false
set_option maxRecDepth 10000
structure Wq (w:dq):Prop where
  lR:eK dG w.parts<dh
  each:∀p,p∈w.parts->dG p<=3000000
  w:wW w.parts
theorem DO{α:Type}{l:List α}{i:Int}{y:α}(h0:0<=i)(h1:i<(l.length:Int)):idx (l.set i.toNat y) i=some y:=by
  have:=Hs (l:=l) (k:=i.toNat) (y:=y) (by omega)
  rwa[Int.toNat_of_nonneg h0]at this
theorem EP{α:Type}{t:List α}{z:α}(h:t.length<=1000000):app t [z]=some (t++[z]):=hY h (by decide)
def kX(w:dq)(q:Int)(z:bh):dq:=dq.mk w.Rj (w.parts.set q.toNat z)
def l8(w:dq)(p a b:Int):Bool:=qa (nth w.parts p).own (nth w.parts a).Rd (nth w.parts b).Rd
def EK(p:bh):bh:=bh.mk p.Rd p.own p.Re p.heap p.dc p.Ro p.Rn p.db p.dx (if 1000000<IntKind.i64.wrap (p.Rk+1)then 1000000 else IntKind.i64.wrap (p.Rk+1))
def kV(l:List c6)(i:Int):Bool:=decide (i>=0)&&(((nth l i).so==3)&&decide (((nth l i).Rf.length:Int)<2))
def Od(p:bh)(i n:Int):bh:=jz p (p.heap.ag.set i.toNat (kR (nth p.heap.ag i) ((nth p.heap.ag i).Rf++[eS.mk (-1) n])))
def pI(c:dH):eA:=eA.mk c.a c.b c.c (IntKind.i64.wrap (Int.tdiv c.d 10)) (Int.tmod c.d 10) c.e
def uS(w:dq)(p q:Int)(c:dH):Int×Int×dq :=
  bif !l8 w p q p then(3,0,w)else((eZ (nth w.parts q) q w.Rj c).1,(eZ (nth w.parts q) q w.Rj c).2.1,w)
def tN(p:bh)(i n:Int):bh:=bif kV p.heap.ag i then Od p i n else EK p
def rq(w:dq)(p q:Int)(c:dH):Int×Int×dq :=
  bif !dy c.b 0 999 then(2,0,w)else bif !l8 w p p q then(3,0,w)else
  (0,0,kX w q (tN (nth w.parts q) (dt (nth w.parts q).heap.ag w.Rj q c.a) c.b))
def wj(w:dq)(p q:Int)(c:dH):Int×Int×dq :=
  bif decide (c.d<0) || !il (pI c)then(2,0,w)else bif !l8 w p p q then(3,0,w)else
  bif !ei (nth w.parts p).Re c.a then(6,0,w)else bif decide (((nth w.parts p).dc.length:Int)>=3)then(7,0,w)else
  (0,IntKind.i64.wrap ((((nth w.parts p).dc++[pI c]).length:Int)-1),kX w p (tY (nth w.parts p) ((nth w.parts p).dc++[pI c])))
def rl(r:Int×Int×dq):dq×dE:=bif r.1 != 0 then(r.2.2,dE.mk r.1 0)else(r.2.2,dE.mk 0 r.2.1)
def im(w:dq)(p th:Int)(c:dH):dq×dE :=
  bif !eO w || !eR w p then(w,dE.mk 2 0)else bif !iV (nth w.parts p) w.Rj th then(w,dE.mk 1 0)else
  bif decide (other w p c<0)then(w,dE.mk 2 0)else
  bif c.so==7 then rl (uS w p (other w p c) c)else bif c.so==17 then rl (rq w p (other w p c) c)else bif c.so==16 then rl (wj w p (other w p c) c)else
  (kX w p (kc (nth w.parts p) p w.Rj th c).1,(kc (nth w.parts p) p w.Rj th c).2)
theorem DS(r:Int×Int×dq):(bif r.1 != 0 then some (dq.mk r.2.2.Rj r.2.2.parts,dE.mk r.1 0)else some (dq.mk r.2.2.Rj r.2.2.parts,dE.mk 0 r.2.1))=some (rl r):=by
  unfold rl;cases r.1 != 0<;>rfl
theorem AG(w:dq)(p q:Int)(c:dH):(uS w p q c).2.2=w:=by
  unfold uS;cases !l8 w p q p<;>rfl
theorem w5{w:dq}(h:eO w=true){p:bh}(hp:p∈w.parts):dI p=true:=by
  unfold eO at h;simp only[RD,List.all_eq_true]at h;exact h.2.2.1 p hp
theorem xg{w:dq}{p:Int}(h:eR w p=true):0<=p/\p<(w.parts.length:Int):=by
  unfold eR at h;rw[dM]at h;omega
theorem Wq.AE{w:dq}(h:Wq w)(ok:eO w=true){p:bh}(hp:p∈w.parts):g7 p:=⟨w5 ok hp,h.each p hp,h.w p hp⟩
section
variable {N:Nat} {w:dq} {p q:Int} {c:dH}
theorem yO(hN:dh<=N)(hw:Wq w){a b d:Int}(ha:eR w a=true)(hb:eR w b=true)(hd:eR w d=true):nA N w a b d=some (l8 w a b d):=by
  obtain⟨a1,a2⟩:=fx ha;obtain⟨b1,b2⟩:=fx hb;obtain⟨d1,d2⟩:=fx hd;unfold nA l8;simp only[a1,b1,d1,Ry,II hN (gE (fH hw.lR a2)).2.1 (gE (fH hw.lR b2)).1 (gE (fH hw.lR d2)).1]
theorem Mp{P:bh}{me now:Int}(h:(c.so==7)=true):fin c P (eZ P me now c)=(P,bif(eZ P me now c).1==0 then dE.mk 0 (eZ P me now c).2.1 else dE.mk (eZ P me now c).1 0):=by
  have hp:(eZ P me now c).2.2=P:=by
    unfold eZ;rw[h];cases eL P.heap.ag now me c.a 2 != 0
    · cases !dy c.b 0 (((nth P.heap.ag (dt P.heap.ag now me c.a)).Ri.length:Int)-1)<;>rfl
    · rfl
  have h1:(c.so==1)=false:=by
    have:c.so=7:=by simpa using h
    rw[this];rfl
  unfold fin;rw[hp,h1];cases(eZ P me now c).1==0<;>rfl
theorem Of(hN:dh<=N)(hw:Wq w)(ok:eO w=true)(hp:eR w p=true)(hq:eR w q=true)(c:dH):oY N w p q c=some ((uS w p q c).1,(uS w p q c).2.1):=by
  obtain⟨q1,q2⟩:=fx hq;unfold oY uS;simp only[yO hN hw hp hq hp,Ry];cases l8 w p q p
  · rfl
  simp only[RB,Rz,q1,Ry,oH hN (fH hw.lR q2),JD hN (hw.AE ok q2)]
theorem Oj(hN:dh<=N)(hw:Wq w)(ok:eO w=true)(hp:eR w p=true)(hq:eR w q=true)(hk:(c.so==7)=true):r8 N w p q c=some (rl (uS w p q c)):=by
  obtain⟨p1,p2⟩:=fx hp;obtain⟨q1,q2⟩:=fx hq;obtain⟨q0,q9⟩:=xg hq
  have hc:c.so=7:=by simpa using hk
  unfold r8 uS l8;simp only[p1,q1,Ry,xR hN (gE (fH hw.lR p2)).2.1 (gE (fH hw.lR q2)).1 (gE (fH hw.lR p2)).1];cases qa (nth w.parts p).own (nth w.parts q).Rd (nth w.parts p).Rd
  · rfl
  simp only[RB,Rz,Lk hN (hw.AE ok q2) q w.Rj (c:=c) (by rw[hc];rfl) (by rw[hc];rfl),Ry,Ch];rw[Mp hk];simp only[Ry];rw[show w.parts.set q.toNat (bh.mk (nth w.parts q).Rd (nth w.parts q).own (nth w.parts q).Re (df.mk (nth w.parts q).heap.ag (eT.mk (nth w.parts q).heap.gc.Rg (nth w.parts q).heap.gc.Rp (nth w.parts q).heap.gc.Rh (nth w.parts q).heap.gc.da)) (nth w.parts q).dc (nth w.parts q).Ro (nth w.parts q).Rn (nth w.parts q).db (nth w.parts q).dx (nth w.parts q).Rk)=w.parts from kD (fM q0 q9)];unfold rl bne;cases(eZ (nth w.parts q) q w.Rj c).1==0<;>rfl
theorem OU(hN:dh<=N)(hw:Wq w)(ok:eO w=true)(hp:eR w p=true)(hq:eR w q=true)(c:dH):oc N w p q c=some ((rq w p q c).1,(rq w p q c).2.2):=by
  obtain⟨q1,q2⟩:=fx hq;have ar:=fe (w5 ok q2);have hb:=(gE (fH hw.lR q2)).2.2.2.1;unfold oc rq;simp only[ko,yO hN hw hp hp hq,Ry];cases dy c.b 0 999
  · rfl
  cases l8 w p p q
  · rfl
  simp only[RB,Rz,q1,Ry,vj hN hb];have hg:=pc (l:=(nth w.parts q).heap.ag) (now:=w.Rj) (me:=q) (h:=c.a) ar.len;generalize dt (nth w.parts q).heap.ag w.Rj q c.a=g at *;unfold tN
  have e:(bif decide (g>=0)then(idx (nth w.parts q).heap.ag g).bind fun y45=>bif y45.so==3 then some (decide ((y45.Rf.length:Int)<2))else some false else some false)=some (kV (nth w.parts q).heap.ag g):=by
    unfold kV;cases h:decide (g>=0)
    · rfl
    have h:=of_decide_eq_true h;rw[eP h (hg h),Ry];simp only[RA,RC,iK]
  rw[e,Ry];cases h:kV (nth w.parts q).heap.ag g
  · rfl
  have h':=h;unfold kV at h';simp only[RD,decide_eq_true_eq]at h';rw[RA,eP h'.1 (hg h'.1),Ry,EP (by omega)];rfl
theorem OD(hN:dh<=N)(hw:Wq w)(ok:eO w=true)(hp:eR w p=true)(hq:eR w q=true)(c:dH):rW N w p q c=some (rl (rq w p q c)):=by
  obtain⟨p1,p2⟩:=fx hp;obtain⟨q1,q2⟩:=fx hq;have ar:=fe (w5 ok q2);have hb:=(gE (fH hw.lR q2)).2.2.2.1;unfold rW rq l8;simp only[jV,p1,q1,xR hN (gE (fH hw.lR p2)).2.1 (gE (fH hw.lR p2)).1 (gE (fH hw.lR q2)).1,Ry];cases dy c.b 0 999
  · rfl
  cases qa (nth w.parts p).own (nth w.parts p).Rd (nth w.parts q).Rd
  · rfl
  simp only[RB,Rz,Ry,ve hN hb (hw.w _ q2)];have hg:=pc (l:=(nth w.parts q).heap.ag) (now:=w.Rj) (me:=q) (h:=c.a) ar.len;generalize dt (nth w.parts q).heap.ag w.Rj q c.a=g at *;unfold tN
  have e:(bif decide (g<0)then some true else(idx (nth w.parts q).heap.ag g).bind fun y84=>bif y84.so != 3 then some true else some (decide ((y84.Rf.length:Int)>=2)))=some (!kV (nth w.parts q).heap.ag g):=by
    unfold kV
    by_cases h:g<0
    · rw[decide_eq_true h,decide_eq_false (show ¬ g>=0 by omega)];rfl
    rw[decide_eq_false h,decide_eq_true (show g>=0 by omega),Rz,eP (by omega) (hg (by omega)),Ry,gW,RC,Bool.not_and];unfold bne
    by_cases k:((nth (nth w.parts q).heap.ag g).Rf.length:Int)<2
    · rw[decide_eq_true k,decide_eq_false (show ¬ ((nth (nth w.parts q).heap.ag g).Rf.length:Int)>=2 by omega)];rfl
    · rw[decide_eq_false k,decide_eq_true (show((nth (nth w.parts q).heap.ag g).Rf.length:Int)>=2 by omega)];rfl
  rw[e,Ry];cases h:kV (nth w.parts q).heap.ag g
  · rfl
  have h':=h;unfold kV at h';simp only[RD,decide_eq_true_eq]at h';rw[RB,Rz,eP h'.1 (hg h'.1),Ry,gg (Nat.lt_trans (show _<2 by omega) (by decide)),Ry,EP (by omega)];rfl
theorem PS(hN:dh<=N)(hw:Wq w)(ok:eO w=true)(hp:eR w p=true)(hq:eR w q=true)(c:dH):oS N w p q c=some (wj w p q c):=by
  obtain⟨p1,p2⟩:=fx hp;obtain⟨p0,p9⟩:=xg hp;have hT:=fI.1 (jB (w5 ok p2));unfold oS wj;simp only[p1,zi,yO hN hw hp hp hq,pQ N hT.len,Ry,gW]
  show(bif(decide (c.d<0) || !il (pI c))then _ else _)=_
  cases decide (c.d<0) || !il (pI c)
  case true=>rfl
  cases l8 w p p q
  case false=>rfl
  cases ei (nth w.parts p).Re c.a
  case false=>rfl
  cases h:decide (((nth w.parts p).dc.length:Int)>=3)
  case true=>rfl
  have h:=of_decide_eq_false h;simp only[RB,Rz];rw[EP (by omega),Ry,DO p0 p9];rfl
theorem PU(hN:dh<=N)(hw:Wq w)(ok:eO w=true)(hp:eR w p=true)(hq:eR w q=true)(c:dH):sW N w p q c=some (rl (wj w p q c)):=by
  obtain⟨p1,p2⟩:=fx hp;obtain⟨q1,q2⟩:=fx hq;obtain⟨p0,p9⟩:=xg hp;have hT:=jB (w5 ok p2);unfold sW wj l8;simp only[p1,q1,zp,xR hN (gE (fH hw.lR p2)).2.1 (gE (fH hw.lR p2)).1 (gE (fH hw.lR q2)).1,sB hN,hT,RC,Ry];cases decide (c.d<0)
  case true=>rfl
  show(bif !il (pI c)then _ else _)=some (rl (bif !il (pI c)then _ else _))
  cases il (pI c)
  case false=>rfl
  cases qa (nth w.parts p).own (nth w.parts p).Rd (nth w.parts q).Rd
  case false=>rfl
  cases ei (nth w.parts p).Re c.a
  case false=>rfl
  cases h:decide (((nth w.parts p).dc.length:Int)>=3)
  case true=>rfl
  have h:=of_decide_eq_false h;simp only[RB,Rz];rw[gg (Nat.lt_trans (show _<3 by omega) (by decide)),Ry,EP (by omega),Ry,Ry,DO p0 p9];rfl
theorem GB(hN:dh+1<=N)(hw:Wq w)(p th:Int)(c:dH):oZ N w p th c=some (im w p th c):=by
  have hN':dh<=N:=Nat.le_of_succ_le hN;have hl:=gL hw.lR;unfold oZ im;simp only[rY hN' hw.lR,qt hN' hw.lR,wh hl,Ry,gW];cases hok:!eO w || !eR w p
  case true=>rfl
  have hok:eO w=true/\eR w p=true:=by simpa using hok
  obtain⟨ok,hp⟩:=hok;obtain⟨p1,p2⟩:=fx hp;simp only[Rz,p1,Ry,CQ hN' (fH hw.lR p2)];cases hc:iV (nth w.parts p) w.Rj th
  case false=>rfl
  simp only[RB,Rz,GO hl,Ry];cases ho:decide (other w p c<0)
  case true=>rfl
  have hq:=qo ho;generalize other w p c=q at *;simp only[Rz];cases c.so==7
  case true=>simp only[RA,Of hN' hw ok hp hq,Ry];rw[<- DS,AG];rfl
  cases c.so==17
  case true=>simp only[RA,Rz,OU hN' hw ok hp hq,Ry];unfold rq;cases dy c.b 0 999<;>cases l8 w p p q<;>rfl
  cases c.so==16
  case true=>simp only[RA,Rz,PS hN' hw ok hp hq,Ry];rw[<- DS];rfl
  simp only[Rz,IP hN (hw.each _ p2) (hw.w _ p2),Ry];rfl
theorem Gg(hN:dh<=N)(hw:Wq w)(p th:Int)(c:dH):oX N w p th c=some (im w p th c):=by
  have hl:w.parts.length<16777216:=gL hw.lR;unfold oX im;simp only[uv hN hw.lR,pU hN hw.lR hw.w,jV,Ry,gW];rw[dF (by omega) (by omega),show dy p 0 ((w.parts.length:Int)-1)=eR w p from rfl];cases hok:!eO w || !eR w p
  case true=>rfl
  have hok:eO w=true/\eR w p=true:=by simpa using hok
  obtain⟨ok,hp⟩:=hok;obtain⟨p1,p2⟩:=fx hp;simp only[Rz,p1,Ry,B9 hN (fH hw.lR p2) (hw.w _ p2)];cases hc:iV (nth w.parts p) w.Rj th
  case false=>rfl
  simp only[RB,Rz,FJ hl,Ry,I4 hN (hw.each _ p2) (hw.w _ p2)]
  have hself:((c.so==7) || ((c.so==17) || (c.so==16)))=false->decide (other w p c<0)=false:=fun h=>by
    have h0:=xg hp;simp only[Bool.or_eq_false_iff]at h;unfold other target;rw[h.1,h.2.1,h.2.2];simp only[Bool.or_self,Bool.false_eq_true,if_false,hp,if_true];exact decide_eq_false (by omega)
  cases k7:c.so==7
  case true =>
    simp only[RA,Ry];cases ho:decide (other w p c<0)
    case true=>rfl
    simp only[Rz,Oj hN hw ok hp (qo ho) k7,Ry]
  cases k17:c.so==17
  case true =>
    simp only[RA,Rz,Ry];cases ho:decide (other w p c<0)
    case true=>rfl
    simp only[Rz,OD hN hw ok hp (qo ho),Ry]
  cases k16:c.so==16
  case true =>
    simp only[RA,Rz,Ry];cases ho:decide (other w p c<0)
    case true=>rfl
    simp only[Rz,PU hN hw ok hp (qo ho),Ry]
  rw[hself (by rw[k7,k17,k16];rfl)];simp only[Rz,Ry];rfl
end
end Go.Kx
