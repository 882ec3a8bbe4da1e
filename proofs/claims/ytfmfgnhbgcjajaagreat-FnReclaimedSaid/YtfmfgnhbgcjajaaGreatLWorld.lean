import Derived.Test.YtfmfgnhbgcjajaaGreatLCall
namespace Go.Kx
open Go
set_option linter.unusedVariables false
set_option linter.unusedSimpArgs false
set_option maxRecDepth 10000
structure Wq (w:dq):Prop where
  lU:eQ dH w.parts<dg
  each:∀p,p∈w.parts->dH p<=3000000
  w:wW w.parts
theorem Ee{α:Type}{l:List α}{i:Int}{y:α}(h0:0<=i)(h1:i<(l.length:Int)):idx (l.set i.toNat y) i=some y:=by
  have:=HS (l:=l) (k:=i.toNat) (y:=y) (by omega)
  rwa[Int.toNat_of_nonneg h0]at this
theorem Ez{α:Type}{t:List α}{z:α}(h:t.length<=1000000):app t [z]=some (t++[z]):=gE h (by decide)
def la(w:dq)(q:Int)(z:bh):dq:=dq.mk w.Rn (w.parts.set q.toNat z)
def mg(w:dq)(p a b:Int):Bool:=pT (nth w.parts p).own (nth w.parts a).Rg (nth w.parts b).Rg
def E2(p:bh):bh:=bh.mk p.Rg p.own p.Rh p.heap p.dc p.Rr p.Rq p.db p.dx (if 1000000<IntKind.i64.wrap (p.Rp+1)then 1000000 else IntKind.i64.wrap (p.Rp+1))
def lh(l:List cd)(i:Int):Bool:=decide (i>=0)&&(((nth l i).so==3)&&decide (((nth l i).Ri.length:Int)<2))
def Ok(p:bh)(i n:Int):bh:=jy p (p.heap.ag.set i.toNat (kZ (nth p.heap.ag i) ((nth p.heap.ag i).Ri++[eR.mk (-1) n])))
def pF(c:dG):ez:=ez.mk c.a c.b c.c (IntKind.i64.wrap (Int.tdiv c.d 10)) (Int.tmod c.d 10) c.e
def u7(w:dq)(p q:Int)(c:dG):Int×Int×dq :=
  bif !mg w p q p then(3,0,w)else((eZ (nth w.parts q) q w.Rn c).1,(eZ (nth w.parts q) q w.Rn c).2.1,w)
def tM(p:bh)(i n:Int):bh:=bif lh p.heap.ag i then Ok p i n else E2 p
def rN(w:dq)(p q:Int)(c:dG):Int×Int×dq :=
  bif !dy c.b 0 999 then(2,0,w)else bif !mg w p p q then(3,0,w)else
  (0,0,la w q (tM (nth w.parts q) (dt (nth w.parts q).heap.ag w.Rn q c.a) c.b))
def wz(w:dq)(p q:Int)(c:dG):Int×Int×dq :=
  bif decide (c.d<0) || !ig (pF c)then(2,0,w)else bif !mg w p p q then(3,0,w)else
  bif !ei (nth w.parts p).Rh c.a then(6,0,w)else bif decide (((nth w.parts p).dc.length:Int)>=3)then(7,0,w)else
  (0,IntKind.i64.wrap ((((nth w.parts p).dc++[pF c]).length:Int)-1),la w p (ue (nth w.parts p) ((nth w.parts p).dc++[pF c])))
def rf(r:Int×Int×dq):dq×dD:=bif r.1 != 0 then(r.2.2,dD.mk r.1 0)else(r.2.2,dD.mk 0 r.2.1)
def ik(w:dq)(p th:Int)(c:dG):dq×dD :=
  bif !eP w || !eJ w p then(w,dD.mk 2 0)else bif !iX (nth w.parts p) w.Rn th then(w,dD.mk 1 0)else
  bif decide (other w p c<0)then(w,dD.mk 2 0)else
  bif c.so==7 then rf (u7 w p (other w p c) c)else bif c.so==17 then rf (rN w p (other w p c) c)else bif c.so==16 then rf (wz w p (other w p c) c)else
  (la w p (kh (nth w.parts p) p w.Rn th c).1,(kh (nth w.parts p) p w.Rn th c).2)
theorem Ew(r:Int×Int×dq):(bif r.1 != 0 then some (dq.mk r.2.2.Rn r.2.2.parts,dD.mk r.1 0)else some (dq.mk r.2.2.Rn r.2.2.parts,dD.mk 0 r.2.1))=some (rf r):=by
  unfold rf;cases r.1 != 0<;>rfl
theorem BF(w:dq)(p q:Int)(c:dG):(u7 w p q c).2.2=w:=by
  unfold u7;cases !mg w p q p<;>rfl
theorem xf{w:dq}(h:eP w=true){p:bh}(hp:p∈w.parts):dJ p=true:=by
  unfold eP at h;simp only[RG,List.all_eq_true]at h;exact h.2.2.1 p hp
theorem xm{w:dq}{p:Int}(h:eJ w p=true):0<=p/\p<(w.parts.length:Int):=by
  unfold eJ at h;rw[dI]at h;omega
theorem Wq.BA{w:dq}(h:Wq w)(ok:eP w=true){p:bh}(hp:p∈w.parts):hD p:=⟨xf ok hp,h.each p hp,h.w p hp⟩
section
variable {N:Nat} {w:dq} {p q:Int} {c:dG}
theorem ze(hN:dg<=N)(hw:Wq w){a b d:Int}(ha:eJ w a=true)(hb:eJ w b=true)(hd:eJ w d=true):nE N w a b d=some (mg w a b d):=by
  obtain⟨a1,a2⟩:=fe ha;obtain⟨b1,b2⟩:=fe hb;obtain⟨d1,d2⟩:=fe hd;unfold nE mg;simp only[a1,b1,d1,RB,Ik hN (gO (fN hw.lU a2)).2.1 (gO (fN hw.lU b2)).1 (gO (fN hw.lU d2)).1]
theorem Mq{P:bh}{me now:Int}(h:(c.so==7)=true):fin c P (eZ P me now c)=(P,bif(eZ P me now c).1==0 then dD.mk 0 (eZ P me now c).2.1 else dD.mk (eZ P me now c).1 0):=by
  have hp:(eZ P me now c).2.2=P:=by
    unfold eZ;rw[h];cases eM P.heap.ag now me c.a 2 != 0
    · cases !dy c.b 0 (((nth P.heap.ag (dt P.heap.ag now me c.a)).Rm.length:Int)-1)<;>rfl
    · rfl
  have h1:(c.so==1)=false:=by
    have:c.so=7:=by simpa using h
    rw[this];rfl
  unfold fin;rw[hp,h1];cases(eZ P me now c).1==0<;>rfl
theorem Ph(hN:dg<=N)(hw:Wq w)(ok:eP w=true)(hp:eJ w p=true)(hq:eJ w q=true)(c:dG):oL N w p q c=some ((u7 w p q c).1,(u7 w p q c).2.1):=by
  obtain⟨q1,q2⟩:=fe hq;unfold oL u7;simp only[ze hN hw hp hq hp,RB];cases mg w p q p
  · rfl
  simp only[RE,RC,q1,RB,oH hN (fN hw.lU q2),K2 hN (hw.BA ok q2)]
theorem O5(hN:dg<=N)(hw:Wq w)(ok:eP w=true)(hp:eJ w p=true)(hq:eJ w q=true)(hk:(c.so==7)=true):rX N w p q c=some (rf (u7 w p q c)):=by
  obtain⟨p1,p2⟩:=fe hp;obtain⟨q1,q2⟩:=fe hq;obtain⟨q0,q9⟩:=xm hq
  have hc:c.so=7:=by simpa using hk
  unfold rX u7 mg;simp only[p1,q1,RB,xJ hN (gO (fN hw.lU p2)).2.1 (gO (fN hw.lU q2)).1 (gO (fN hw.lU p2)).1];cases pT (nth w.parts p).own (nth w.parts q).Rg (nth w.parts p).Rg
  · rfl
  simp only[RE,RC,Lo hN (hw.BA ok q2) q w.Rn (c:=c) (by rw[hc];rfl) (by rw[hc];rfl),RB,CQ];rw[Mq hk];simp only[RB];rw[show w.parts.set q.toNat (bh.mk (nth w.parts q).Rg (nth w.parts q).own (nth w.parts q).Rh (df.mk (nth w.parts q).heap.ag (eS.mk (nth w.parts q).heap.gc.Rj (nth w.parts q).heap.gc.Rs (nth w.parts q).heap.gc.Rk (nth w.parts q).heap.gc.da)) (nth w.parts q).dc (nth w.parts q).Rr (nth w.parts q).Rq (nth w.parts q).db (nth w.parts q).dx (nth w.parts q).Rp)=w.parts from kJ (fO q0 q9)];unfold rf bne;cases(eZ (nth w.parts q) q w.Rn c).1==0<;>rfl
theorem PC(hN:dg<=N)(hw:Wq w)(ok:eP w=true)(hp:eJ w p=true)(hq:eJ w q=true)(c:dG):nX N w p q c=some ((rN w p q c).1,(rN w p q c).2.2):=by
  obtain⟨q1,q2⟩:=fe hq;have ar:=eX (xf ok q2);have hb:=(gO (fN hw.lU q2)).2.2.2.1;unfold nX rN;simp only[kq,ze hN hw hp hp hq,RB];cases dy c.b 0 999
  · rfl
  cases mg w p p q
  · rfl
  simp only[RE,RC,q1,RB,vk hN hb];have hg:=pt (l:=(nth w.parts q).heap.ag) (now:=w.Rn) (me:=q) (h:=c.a) ar.len;generalize dt (nth w.parts q).heap.ag w.Rn q c.a=g at *;unfold tM
  have e:(bif decide (g>=0)then(idx (nth w.parts q).heap.ag g).bind fun y45=>bif y45.so==3 then some (decide ((y45.Ri.length:Int)<2))else some false else some false)=some (lh (nth w.parts q).heap.ag g):=by
    unfold lh;cases h:decide (g>=0)
    · rfl
    have h:=of_decide_eq_true h;rw[eU h (hg h),RB];simp only[RD,RF,iI]
  rw[e,RB];cases h:lh (nth w.parts q).heap.ag g
  · rfl
  have h':=h;unfold lh at h';simp only[RG,decide_eq_true_eq]at h';rw[RD,eU h'.1 (hg h'.1),RB,Ez (by omega)];rfl
theorem OA(hN:dg<=N)(hw:Wq w)(ok:eP w=true)(hp:eJ w p=true)(hq:eJ w q=true)(c:dG):rK N w p q c=some (rf (rN w p q c)):=by
  obtain⟨p1,p2⟩:=fe hp;obtain⟨q1,q2⟩:=fe hq;have ar:=eX (xf ok q2);have hb:=(gO (fN hw.lU q2)).2.2.2.1;unfold rK rN mg;simp only[jK,p1,q1,xJ hN (gO (fN hw.lU p2)).2.1 (gO (fN hw.lU p2)).1 (gO (fN hw.lU q2)).1,RB];cases dy c.b 0 999
  · rfl
  cases pT (nth w.parts p).own (nth w.parts p).Rg (nth w.parts q).Rg
  · rfl
  simp only[RE,RC,RB,vt hN hb (hw.w _ q2)];have hg:=pt (l:=(nth w.parts q).heap.ag) (now:=w.Rn) (me:=q) (h:=c.a) ar.len;generalize dt (nth w.parts q).heap.ag w.Rn q c.a=g at *;unfold tM
  have e:(bif decide (g<0)then some true else(idx (nth w.parts q).heap.ag g).bind fun y84=>bif y84.so != 3 then some true else some (decide ((y84.Ri.length:Int)>=2)))=some (!lh (nth w.parts q).heap.ag g):=by
    unfold lh
    by_cases h:g<0
    · rw[decide_eq_true h,decide_eq_false (show ¬ g>=0 by omega)];rfl
    rw[decide_eq_false h,decide_eq_true (show g>=0 by omega),RC,eU (by omega) (hg (by omega)),RB,gX,RF,Bool.not_and];unfold bne
    by_cases k:((nth (nth w.parts q).heap.ag g).Ri.length:Int)<2
    · rw[decide_eq_true k,decide_eq_false (show ¬ ((nth (nth w.parts q).heap.ag g).Ri.length:Int)>=2 by omega)];rfl
    · rw[decide_eq_false k,decide_eq_true (show((nth (nth w.parts q).heap.ag g).Ri.length:Int)>=2 by omega)];rfl
  rw[e,RB];cases h:lh (nth w.parts q).heap.ag g
  · rfl
  have h':=h;unfold lh at h';simp only[RG,decide_eq_true_eq]at h';rw[RE,RC,eU h'.1 (hg h'.1),RB,fX (Nat.lt_trans (show _<2 by omega) (by decide)),RB,Ez (by omega)];rfl
theorem PS(hN:dg<=N)(hw:Wq w)(ok:eP w=true)(hp:eJ w p=true)(hq:eJ w q=true)(c:dG):oX N w p q c=some (wz w p q c):=by
  obtain⟨p1,p2⟩:=fe hp;obtain⟨p0,p9⟩:=xm hp;have hT:=fK.1 (jF (xf ok p2));unfold oX wz;simp only[p1,zp,ze hN hw hp hp hq,qq N hT.len,RB,gX]
  show(bif(decide (c.d<0) || !ig (pF c))then _ else _)=_
  cases decide (c.d<0) || !ig (pF c)
  case true=>rfl
  cases mg w p p q
  case false=>rfl
  cases ei (nth w.parts p).Rh c.a
  case false=>rfl
  cases h:decide (((nth w.parts p).dc.length:Int)>=3)
  case true=>rfl
  have h:=of_decide_eq_false h;simp only[RE,RC];rw[Ez (by omega),RB,Ee p0 p9];rfl
theorem Qd(hN:dg<=N)(hw:Wq w)(ok:eP w=true)(hp:eJ w p=true)(hq:eJ w q=true)(c:dG):tL N w p q c=some (rf (wz w p q c)):=by
  obtain⟨p1,p2⟩:=fe hp;obtain⟨q1,q2⟩:=fe hq;obtain⟨p0,p9⟩:=xm hp;have hT:=jF (xf ok p2);unfold tL wz mg;simp only[p1,q1,zF,xJ hN (gO (fN hw.lU p2)).2.1 (gO (fN hw.lU p2)).1 (gO (fN hw.lU q2)).1,sj hN,hT,RF,RB];cases decide (c.d<0)
  case true=>rfl
  show(bif !ig (pF c)then _ else _)=some (rf (bif !ig (pF c)then _ else _))
  cases ig (pF c)
  case false=>rfl
  cases pT (nth w.parts p).own (nth w.parts p).Rg (nth w.parts q).Rg
  case false=>rfl
  cases ei (nth w.parts p).Rh c.a
  case false=>rfl
  cases h:decide (((nth w.parts p).dc.length:Int)>=3)
  case true=>rfl
  have h:=of_decide_eq_false h;simp only[RE,RC];rw[fX (Nat.lt_trans (show _<3 by omega) (by decide)),RB,Ez (by omega),RB,RB,Ee p0 p9];rfl
theorem GJ(hN:dg+1<=N)(hw:Wq w)(p th:Int)(c:dG):oV N w p th c=some (ik w p th c):=by
  have hN':dg<=N:=Nat.le_of_succ_le hN;have hl:=gW hw.lU;unfold oV ik;simp only[rA hN' hw.lU,uU hN' hw.lU,uN hl,RB,gX];cases hok:!eP w || !eJ w p
  case true=>rfl
  have hok:eP w=true/\eJ w p=true:=by simpa using hok
  obtain⟨ok,hp⟩:=hok;obtain⟨p1,p2⟩:=fe hp;simp only[RC,p1,RB,C8 hN' (fN hw.lU p2)];cases hc:iX (nth w.parts p) w.Rn th
  case false=>rfl
  simp only[RE,RC,Ge hl,RB];cases ho:decide (other w p c<0)
  case true=>rfl
  have hq:=qv ho;generalize other w p c=q at *;simp only[RC];cases c.so==7
  case true=>simp only[RD,Ph hN' hw ok hp hq,RB];rw[<- Ew,BF];rfl
  cases c.so==17
  case true=>simp only[RD,RC,PC hN' hw ok hp hq,RB];unfold rN;cases dy c.b 0 999<;>cases mg w p p q<;>rfl
  cases c.so==16
  case true=>simp only[RD,RC,PS hN' hw ok hp hq,RB];rw[<- Ew];rfl
  simp only[RC,Jb hN (hw.each _ p2) (hw.w _ p2),RB];rfl
theorem GP(hN:dg<=N)(hw:Wq w)(p th:Int)(c:dG):o4 N w p th c=some (ik w p th c):=by
  have hl:w.parts.length<16777216:=gW hw.lU;unfold o4 ik;simp only[uJ hN hw.lU,sL hN hw.lU hw.w,jK,RB,gX];rw[dE (by omega) (by omega),show dy p 0 ((w.parts.length:Int)-1)=eJ w p from rfl];cases hok:!eP w || !eJ w p
  case true=>rfl
  have hok:eP w=true/\eJ w p=true:=by simpa using hok
  obtain⟨ok,hp⟩:=hok;obtain⟨p1,p2⟩:=fe hp;simp only[RC,p1,RB,CO hN (fN hw.lU p2) (hw.w _ p2)];cases hc:iX (nth w.parts p) w.Rn th
  case false=>rfl
  simp only[RE,RC,Gu hl,RB,Il hN (hw.each _ p2) (hw.w _ p2)]
  have hself:((c.so==7) || ((c.so==17) || (c.so==16)))=false->decide (other w p c<0)=false:=fun h=>by
    have h0:=xm hp;simp only[Bool.or_eq_false_iff]at h;unfold other target;rw[h.1,h.2.1,h.2.2];simp only[Bool.or_self,Bool.false_eq_true,if_false,hp,if_true];exact decide_eq_false (by omega)
  cases k7:c.so==7
  case true =>
    simp only[RD,RB];cases ho:decide (other w p c<0)
    case true=>rfl
    simp only[RC,O5 hN hw ok hp (qv ho) k7,RB]
  cases k17:c.so==17
  case true =>
    simp only[RD,RC,RB];cases ho:decide (other w p c<0)
    case true=>rfl
    simp only[RC,OA hN hw ok hp (qv ho),RB]
  cases k16:c.so==16
  case true =>
    simp only[RD,RC,RB];cases ho:decide (other w p c<0)
    case true=>rfl
    simp only[RC,Qd hN hw ok hp (qv ho),RB]
  rw[hself (by rw[k7,k17,k16];rfl)];simp only[RC,RB];rfl
end
end Go.Kx
