import Derived.Test.YtfmfgnhbgcjajaaGreatLTreeKeep
namespace Go.Kx
open Go
set_option linter.unusedVariables false
set_option linter.unusedSimpArgs false
set_option maxRecDepth 10000
theorem Eg{w:dh}(ok:eI w=true){q:Int}(hq:er w q=true){z:bh}(h:Gd (nth w.parts q) z):eI (jU w q z)=true/\gQ (jU w q z).parts=gQ w.parts:=by
  have k:=kM.1 ok;have r:=w6 hq;have e:gQ (w.parts.set q.toNat z)=gQ w.parts:=B3 _ _ _ _ (fV r.1 r.2) h.sp;refine⟨kM.2 ⟨k.RB,by show 1<=(w.parts.set _ _).length/\(w.parts.set _ _).length<=3;rw[List.length_set];exact k.len,fun y hy=>?_,by show dP (gQ (w.parts.set _ _))=true;rw[e];exact k.sum⟩,e⟩
  rcases List.mem_or_eq_of_mem_set hy with a|rfl
  · exact k.ok y a
  · exact h.ok
theorem N7{w:dh}(hw:Wq w)(ok:eI w=true)(p th:Int)(c:dD):eI (ga w p th c).1=true/\gQ (ga w p th c).1.parts=gQ w.parts:=by
  rcases LH hw ok p th c with e|⟨q,z,hq,_,hg,e⟩
  · rw[e];exact⟨ok,rfl⟩
  · rw[e];exact Eg ok hq hg
theorem vY{a b:dV}:fT a b=true <-> eT a=true/\eT b=true/\∀(k:Nat) (y:Int),a.Ro[k]?=some y->y<=(b.Ro[k]?).getD 0:=by
  unfold fT lK;rw[show ia []=true from rfl];simp only[RO,RP,iV,Nat.zero_add];constructor
  · rintro⟨h1,h2,h3⟩;exact⟨h1,h2,fun k y hy=>by simpa using h3 k y hy⟩
  · rintro⟨h1,h2,h3⟩;exact⟨h1,h2,fun k y hy=>by simpa using h3 k y hy⟩
theorem rl{a b c:dV}(h:fT a b=true)(k:fT b c=true):fT a c=true:=by
  obtain⟨h1,h2,h3⟩:=vY.1 h;obtain⟨_,k2,k3⟩:=vY.1 k;have la:=(j6.1 h1).1;have lb:=(j6.1 h2).1;refine vY.2 ⟨h1,k2,fun i y hy=>?_⟩;have hi:=eF hy;have e:b.Ro[i]?=some b.Ro[i]:=List.getElem?_eq_getElem (by omega);have q1:=h3 i y hy;have q2:=k3 i _ e;rw[e]at q1;exact Int.le_trans q1 q2
theorem uD{w:dh}{q:Int}(h:er w q=true):0<=q/\q<(w.parts.length:Int):=by
  unfold er at h;rw[dI]at h;omega
structure kK (x:dV) (w v:dh):Prop where
  RB:w.RB=v.RB
  len:w.parts.length=v.parts.length
  tK:∀k,0<=k->k<(w.parts.length:Int)->(nth w.parts k).Rp=(nth v.parts k).Rp
  low:∀k,0<=k->k<(w.parts.length:Int)->fT (nth w.parts k).Rp x=true->nth w.parts k=nth v.parts k
theorem kK.refl(x:dV)(w:dh):kK x w w:=⟨rfl,rfl,fun _ _ _=>rfl,fun _ _ _ _=>rfl⟩
theorem kK.put{x:dV}{w v:dh}(h:kK x w v){q:Int}(q0:0<=q)(q1:q<(w.parts.length:Int)){y z:bh}(ly:y.Rp=(nth w.parts q).Rp)(lz:z.Rp=(nth v.parts q).Rp)(e:fT (nth w.parts q).Rp x=true->y=z):kK x (jU w q y) (jU v q z):=by
  have hl:=h.len;refine⟨h.RB,by show(w.parts.set _ _).length=(v.parts.set _ _).length;rw[List.length_set,List.length_set];exact hl,fun k k0 k1=>?_,fun k k0 k1 hk=>?_⟩
  · have k1:k<((w.parts.set q.toNat y).length:Int):=k1;rw[List.length_set]at k1
    show(nth (w.parts.set q.toNat y) k).Rp=(nth (v.parts.set q.toNat z) k).Rp
    rw[mq q0 q1 k0,mq q0 (by omega) k0];split
    · rename_i ek;subst ek;rw[ly,lz];exact h.tK _ k0 k1
    · exact h.tK k k0 k1
  · have k1:k<((w.parts.set q.toNat y).length:Int):=k1;rw[List.length_set]at k1
    replace hk:fT (nth (w.parts.set q.toNat y) k).Rp x=true:=hk
    show nth (w.parts.set q.toNat y) k=nth (v.parts.set q.toNat z) k
    rw[mq q0 q1 k0]at hk;rw[mq q0 q1 k0,mq q0 (by omega) k0]
    by_cases ek:q=k
    · rw[if_pos ek]at hk⊢;rw[if_pos ek];rw[ly]at hk;exact e hk
    · rw[if_neg ek]at hk⊢;rw[if_neg ek];exact h.low k k0 k1 hk
theorem kK.IT{x:dV}{w v:dh}(h:kK x w v){q:Int}(q0:0<=q)(q1:q<(w.parts.length:Int)){y:bh}(ly:y.Rp=(nth w.parts q).Rp)(e:fT (nth w.parts q).Rp x=false):kK x (jU w q y) v:=by
  refine⟨h.RB,by show(w.parts.set _ _).length=_;rw[List.length_set];exact h.len,fun k k0 k1=>?_,fun k k0 k1 hk=>?_⟩
  · have k1:k<((w.parts.set q.toNat y).length:Int):=k1;rw[List.length_set]at k1
    show(nth (w.parts.set q.toNat y) k).Rp=_
    rw[mq q0 q1 k0];split
    · rename_i ek;subst ek;rw[ly];exact h.tK _ k0 k1
    · exact h.tK k k0 k1
  · have k1:k<((w.parts.set q.toNat y).length:Int):=k1;rw[List.length_set]at k1
    replace hk:fT (nth (w.parts.set q.toNat y) k).Rp x=true:=hk
    show nth (w.parts.set q.toNat y) k=_
    rw[mq q0 q1 k0]at hk⊢
    by_cases ek:q=k
    · rw[if_pos ek,ly,e]at hk;cases hk
    · rw[if_neg ek]at hk⊢;exact h.low k k0 k1 hk
structure Nw (w:dh):Prop where
  own:∀k,0<=k->k<(w.parts.length:Int)->(nth w.parts k).own=[]
  Et:∀k,0<=k->k<(w.parts.length:Int)->∀t,t∈(nth w.parts k).db->0<=t.eP->t.eP<(w.parts.length:Int)->fT (nth w.parts k).Rp (nth w.parts t.eP).Rp=true
structure Kw (p q:bh):Prop where
  Rp:q.Rp=p.Rp
  own:q.own=p.own
  db:∀t,t∈q.db->t∈p.db
theorem Kw.refl(p:bh):Kw p p:=⟨rfl,rfl,fun _ h=>h⟩
theorem Kw.trans{p q r:bh}(h:Kw p q)(k:Kw q r):Kw p r:=⟨k.Rp.trans h.Rp,k.own.trans h.own,fun t ht=>h.db t (k.db t ht)⟩
theorem Nw.put{w:dh}(h:Nw w){q:Int}(q0:0<=q)(q1:q<(w.parts.length:Int)){y:bh}(ly:y.Rp=(nth w.parts q).Rp)(oy:y.own=(nth w.parts q).own)(ty:∀t,t∈y.db->t∈(nth w.parts q).db\/fT (nth w.parts q).Rp (nth w.parts t.eP).Rp=true):Nw (jU w q y):=by
  have el:∀k,0<=k->(nth (w.parts.set q.toNat y) k).Rp=(nth w.parts k).Rp:=fun k k0=>by
    rw[mq q0 q1 k0];split
    · rename_i ek;subst ek;exact ly
    · rfl
  refine⟨fun k k0 k1=>?_,fun k k0 k1 t ht t0 t1=>?_⟩
  · have k1:k<((w.parts.set q.toNat y).length:Int):=k1;rw[List.length_set]at k1
    show(nth (w.parts.set q.toNat y) k).own=[]
    rw[mq q0 q1 k0];split
    · rw[oy];exact h.own q q0 q1
    · exact h.own k k0 k1
  · have k1:k<((w.parts.set q.toNat y).length:Int):=k1;have t1:t.eP<((w.parts.set q.toNat y).length:Int):=t1;rw[List.length_set]at k1 t1
    replace ht:t∈(nth (w.parts.set q.toNat y) k).db:=ht
    show fT (nth (w.parts.set q.toNat y) k).Rp (nth (w.parts.set q.toNat y) t.eP).Rp=true
    rw[el k k0,el _ t0];rw[mq q0 q1 k0]at ht
    by_cases ek:q=k
    · rw[if_pos ek]at ht;rw[<- ek]
      rcases ty t ht with a|a
      · exact h.Et q q0 q1 t a t0 t1
      · exact a
    · rw[if_neg ek]at ht;exact h.Et k k0 k1 t ht t0 t1
theorem Nw.kw{w:dh}(h:Nw w){q:Int}(q0:0<=q)(q1:q<(w.parts.length:Int)){y:bh}(k:Kw (nth w.parts q) y):Nw (jU w q y):=h.put q0 q1 k.Rp k.own fun t ht=>.inl (k.db t ht)
theorem oz(r:Int×Int×dh):(oq r).1=r.2.2:=by unfold oq;cases r.1 != 0<;>rfl
theorem Ps{r s:Int×Int×dh}(h1:r.1=s.1)(h2:r.2.1=s.2.1):(oq r).2=(oq s).2:=by unfold oq;rw[h1,h2];cases s.1 != 0<;>rfl
theorem PV(p:bh)(me now th:Int)(c:dD):Kw p (fU p me now th c).2.2:=by
  have hf:=MU p me now th c;refine⟨by rw[<- hf],by rw[<- hf],?_⟩;clear hf;unfold fU;cases c.Rq==1
  case true=>intro t ht;rw[RM, <- BO]at ht;exact ht
  cases(c.Rq==2) || (c.Rq==3)
  case true=>intro t ht;rw[RL,RM, <- (zf p me now c).2]at ht;exact ht
  cases(c.Rq==4) || (c.Rq==5)
  case true=>intro t ht;rw[RL,RL,RM, <- (zq p me now c).2]at ht;exact ht
  cases(c.Rq==6) || (c.Rq==7)
  case true=>intro t ht;rw[RL,RL,RL,RM, <- B9]at ht;exact ht
  cases c.Rq==8
  case true=>intro t ht;rw[RL,RL,RL,RL,RM, <- (xw p me now c).2]at ht;exact ht
  cases(c.Rq==9) || ((c.Rq==10) || (c.Rq==11))
  case true=>intro t ht;rw[RL,RL,RL,RL,RL,RM, <- DS]at ht;exact ht
  cases(c.Rq==12) || (c.Rq==13)
  case true=>intro t ht;rw[RL,RL,RL,RL,RL,RL,RM, <- B6]at ht;exact ht
  cases c.Rq==14
  case true=>intro t ht;simp only[RL,RM,vk]at ht;exact ht
  cases c.Rq==15
  case true =>
    intro t ht;simp only[RL,RM]at ht;unfold qD at ht;revert ht;cases !dv c.a 0 ((p.db.length:Int)-1)
    · intro ht
      rcases List.mem_append.1 (show t∈p.db.take c.a.toNat++p.db.drop (c.a.toNat+1) from ht)with a|a
      · exact List.mem_of_mem_take a
      · exact List.mem_of_mem_drop a
    · exact fun ht=>ht
  exact fun t ht=>ht
theorem yZ(p:bh)(me now th:Int)(c:dD):Kw p (jJ p me now th c).1:=by
  unfold jJ;cases !dH p || (!dv me 0 2 || !dv now 0 1000000)
  case true=>exact Kw.refl p
  cases !ig p now th
  case true=>exact Kw.refl p
  show Kw p (fin c p (fU p me now th c)).1
  unfold fin;cases(fU p me now th c).1==0
  · cases(c.Rq==1)&&(((fU p me now th c).1==6) || ((fU p me now th c).1==7))
    · exact Kw.refl p
    · exact⟨rfl,rfl,fun _ h=>h⟩
  · exact PV p me now th c
theorem zm(p:bh)(i n:Int):Kw p (tj p i n):=by
  unfold tj;cases lv p.py.ag i<;>exact⟨rfl,rfl,fun _ h=>h⟩
theorem Al{w:dh}{p:Int}{c:dD}(h:decide (other w p c<0)=false):0<=other w p c/\other w p c<(w.parts.length:Int):=by
  replace h:=of_decide_eq_false h
  unfold other at h⊢
  by_cases q:er w (target p c)=true
  · rw[if_pos q];exact uD q
  · rw[if_neg q]at h;omega
theorem kK.has{x:dV}{w v:dh}(h:kK x w v)(p:Int):er w p=er v p:=by unfold er;rw[h.len]
theorem kK.other{x:dV}{w v:dh}(h:kK x w v)(p:Int)(c:dD):other w p c=other v p c:=by unfold Kx.other;rw[h.has]
theorem n8{w:dh}(h:Nw w){p:Int}(p0:0<=p)(p1:p<(w.parts.length:Int))(a b:Int):kS w p a b=fT (nth w.parts a).Rp (nth w.parts b).Rp:=by
  unfold kS fT;rw[h.own p p0 p1]
theorem ND{x:dV}{w v:dh}(h:kK x w v)(ow:eI w=true)(ov:eI v=true)(nw:Nw w)(nv:Nw v){p:Int}(hl:er w p=true->fT (nth w.parts p).Rp x=true)(th:Int)(c:dD):
    kK x (ga w p th c).1 (ga v p th c).1/\(ga w p th c).2=(ga v p th c).2:=by
  unfold ga;rw[ow,ov, <- h.has];cases hp:er w p
  case false=>exact⟨h,rfl⟩
  have hl:=hl hp;obtain⟨p0,p1⟩:=uD hp;have hlen:=h.len;have e:=h.low p p0 p1 hl;simp only[RN,Bool.or_self,RL];rw[<- e, <- h.RB, <- h.other];cases !ig (nth w.parts p) w.RB th
  case true=>exact⟨h,rfl⟩
  cases ho:decide (other w p c<0)
  case true=>exact⟨h,rfl⟩
  obtain⟨q0,q1⟩:=Al ho;generalize other w p c=q at *;have lq:=h.tK q q0 q1;have lp:=h.tK p p0 p1;simp only[RL];cases c.Rq==7
  case true =>
    simp only[RM];rw[oz,oz,vr,vr];refine⟨h,Ps ?_ ?_⟩<;>unfold sY<;>rw[n8 nw p0 p1,n8 nv p0 (by omega), <- lq, <- lp, <- h.RB]<;>cases hf:fT (nth w.parts q).Rp (nth w.parts p).Rp
    · rfl
    · rw[h.low q q0 q1 (rl hf hl)];rfl
    · rfl
    · rw[h.low q q0 q1 (rl hf hl)];rfl
  cases c.Rq==17
  case true =>
    simp only[RM,RL];rw[oz,oz];unfold oU;rw[n8 nw p0 p1,n8 nv p0 (by omega), <- lq, <- lp];cases !dv c.b 0 999
    case true=>exact⟨h,rfl⟩
    cases !fT (nth w.parts p).Rp (nth w.parts q).Rp
    case true=>exact⟨h,rfl⟩
    refine⟨h.put q0 q1 (zm _ _ _).Rp (zm _ _ _).Rp fun hq=>?_,rfl⟩;rw[h.low q q0 q1 hq,h.RB]
  cases c.Rq==16
  case true =>
    simp only[RM,RL];rw[oz,oz];unfold ua;rw[n8 nw p0 p1,n8 nv p0 (by omega), <- lq, <- lp, <- e];cases decide (c.d<0) || !gO (nB c)
    case true=>exact⟨h,rfl⟩
    cases !fT (nth w.parts p).Rp (nth w.parts q).Rp
    case true=>exact⟨h,rfl⟩
    cases !eh (nth w.parts p).Rr c.a
    case true=>exact⟨h,rfl⟩
    cases decide (((nth w.parts p).db.length:Int)>=3)
    case true=>exact⟨h,rfl⟩
    exact⟨h.put p0 p1 rfl lp fun _=>rfl,rfl⟩
  simp only[RL];exact⟨h.put p0 p1 (yZ _ _ _ _ _).Rp ((yZ _ _ _ _ _).Rp.trans lp) fun _=>rfl,by first|rfl|exact trivial⟩
theorem Ny{x:dV}{w v:dh}(h:kK x w v)(nw:Nw w){p:Int}(hl:er w p=true->fT (nth w.parts p).Rp x=false)(th:Int)(c:dD):kK x (ga w p th c).1 v:=by
  unfold ga;cases hp:er w p
  case false=>cases eI w<;>exact h
  cases eI w
  case false=>exact h
  have hl:=hl hp;obtain⟨p0,p1⟩:=uD hp;simp only[RN,Bool.or_self,RL];cases !ig (nth w.parts p) w.RB th
  case true=>exact h
  cases ho:decide (other w p c<0)
  case true=>exact h
  obtain⟨q0,q1⟩:=Al ho;generalize other w p c=q at *;simp only[RL];cases c.Rq==7
  case true=>simp only[RM];rw[oz,vr];exact h
  cases c.Rq==17
  case true =>
    simp only[RM,RL];rw[oz];unfold oU;rw[n8 nw p0 p1];cases !dv c.b 0 999
    case true=>exact h
    cases hf:fT (nth w.parts p).Rp (nth w.parts q).Rp
    case false=>exact h
    refine h.IT q0 q1 (zm _ _ _).Rp ?_;cases hq:fT (nth w.parts q).Rp x
    · rfl
    · rw[rl hf hq]at hl;exact hl
  cases c.Rq==16
  case true =>
    simp only[RM,RL];rw[oz];unfold ua;cases decide (c.d<0) || !gO (nB c)
    case true=>exact h
    cases !kS w p p q
    case true=>exact h
    cases !eh (nth w.parts p).Rr c.a
    case true=>exact h
    cases decide (((nth w.parts p).db.length:Int)>=3)
    case true=>exact h
    exact h.IT p0 p1 rfl hl
  simp only[RL];exact h.IT p0 p1 (yZ _ _ _ _ _).Rp hl
theorem Nw.call{w:dh}(h:Nw w)(p th:Int)(c:dD):Nw (ga w p th c).1:=by
  unfold ga;cases hp:er w p
  case false=>cases eI w<;>exact h
  cases eI w
  case false=>exact h
  obtain⟨p0,p1⟩:=uD hp;simp only[RN,Bool.or_self,RL];cases !ig (nth w.parts p) w.RB th
  case true=>exact h
  cases ho:decide (other w p c<0)
  case true=>exact h
  obtain⟨q0,q1⟩:=Al ho
  have hoq:c.Rq=16->other w p c=c.b:=fun hk=>by
    unfold other at q0⊢;split at q0
    · rename_i hh;rw[if_pos hh];unfold target;rw[hk];rfl
    · omega
  generalize other w p c=q at *;simp only[RL];cases c.Rq==7
  case true=>simp only[RM];rw[oz,vr];exact h
  cases c.Rq==17
  case true =>
    simp only[RM,RL];rw[oz];unfold oU;cases !dv c.b 0 999
    case true=>exact h
    cases !kS w p p q
    case true=>exact h
    exact h.kw q0 q1 (zm _ _ _)
  cases hk:c.Rq==16
  case true =>
    have hk:c.Rq=16:=by simpa using hk
    simp only[RM,RL];rw[oz];unfold ua;rw[n8 h p0 p1];cases decide (c.d<0) || !gO (nB c)
    case true=>exact h
    cases hf:fT (nth w.parts p).Rp (nth w.parts q).Rp
    case false=>exact h
    cases !eh (nth w.parts p).Rr c.a
    case true=>exact h
    cases decide (((nth w.parts p).db.length:Int)>=3)
    case true=>exact h
    refine h.put p0 p1 rfl rfl fun t ht=>?_
    rcases List.mem_append.1 (show t∈(nth w.parts p).db++[nB c] from ht)with a|a
    · exact .inl a
    · rw[List.mem_singleton.1 a];refine .inr ?_;rw[hoq hk]at hf;exact hf
  simp only[RL];exact h.kw p0 p1 (yZ _ _ _ _ _)
theorem Ou(p:bh)(now:Int):Kw p (fI p now):=by unfold fI;split<;>exact⟨rfl,rfl,fun _ h=>h⟩
theorem N6(p:bh)(me now:Int):Kw p (gx p me now):=by unfold gx;split<;>exact⟨rfl,rfl,fun _ h=>h⟩
theorem Ji(p:bh)(now n:Int):Kw p (fX p now n).1:=by unfold fX;split<;>exact⟨rfl,rfl,fun _ h=>h⟩
theorem Pd(p:bh)(now:Int):Kw p (iy p now).1:=by
  unfold iy;split
  · split<;>exact⟨rfl,rfl,fun _ h=>h⟩
  · exact⟨rfl,rfl,fun _ h=>h⟩
theorem wI(n:Nat)(p:bh)(i now:Int):Kw p (iF n p i now):=by
  have h:Kw p (kG p i now):=((Ou p now).trans (N6 _ i now)).trans (Ji _ now 3);unfold iF;cases Int.tmod now (n:Int)==i
  · exact h
  · exact h.trans (Pd _ now)
theorem ze{f:de->Int}:∀(l:List (List dj)),(∀t,t∈l->0<=ez f t)->0<=iC f l/\∀t,t∈l->ez f t<=iC f l
  | [],_=>⟨Int.le_refl _,fun t h=>by simp at h⟩
  | y::l,h=>by
    obtain⟨a,b⟩:=ze l fun t ht=>h t (by simp[ht]);have hy:=h y (by simp);have e:iC f (y::l)=ez f y+iC f l:=rfl;rw[e];refine⟨by omega,fun t ht=>?_⟩
    rcases List.mem_cons.1 ht with rfl|ht
    · omega
    · have:=b t ht;omega
structure Tb (ts:List dJ):Prop where
  ok:ib ts=true
  pg:iC de.cd (eN ts)<=1000000
  rt:iC de.dg (eN ts)<=1000000
  cp:iC de.dn (eN ts)<=1000000
theorem Tb.tk{ts us:List dJ}(h:Tb ts)(k:Tk ts us):Tb us:=⟨k.ok,by rw[k.pg];exact h.pg,by rw[k.rt];exact h.rt,by rw[k.cp];exact h.cp⟩
theorem za{f:de->Int}(hf:∀a,dP a=true->0<=f a/\f a<=1000000){t:List dj}(h:fk t=true):0<=ez f t:=(HE hf t (fc.1 h).dO).1
theorem fP:∀a,dP a=true->0<=de.cd a/\de.cd a<=1000000:=fun a h=>(eA.1 h).1
theorem fR:∀a,dP a=true->0<=de.dg a/\de.dg a<=1000000:=fun a h=>(eA.1 h).2.1
theorem fC:∀a,dP a=true->0<=de.dn a/\de.dn a<=1000000:=fun a h=>(eA.1 h).2.2
theorem HF{ts:List dJ}(hb:Tb ts){p:Int}{t:ef}(h:fO ts p t=true):(jb ts p t).2=true:=by
  obtain⟨ho,_,⟨p0,p1⟩,⟨q0,q1⟩,_⟩:=lT h;obtain⟨k1,k2,k3⟩:=r6 (Eb h);have hpt:fw ts p t=ts.set p.toNat (dJ.mk (eD (nth ts p).RH t.RF (g6 t.gP (ng ts p t))).1):=rfl;have hpl:=my ts p t
  have all:∀y,y∈eN (fw ts p t)->fk y=true:=fun y hy=>by
    rw[hpt,Ja]at hy
    rcases List.mem_or_eq_of_mem_set hy with a|rfl
    · obtain⟨z,hz,rfl⟩:=List.mem_map.1 (show y∈ts.map _ from a);have:=ho;unfold ib at this;rw[List.all_eq_true]at this;exact this z hz
    · exact fc.2 k1
  have hm:(nth (fw ts p t) t.eP).RH∈eN (fw ts p t):=List.mem_map.2 ⟨_,gg q0 (by rw[hpl];exact q1),rfl⟩;have hq:=all _ hm;have hT:=fc.1 hq;obtain⟨t1,t2,t3⟩:=hT.ez
  have hts:fy (nth (fw ts p t) t.eP).RH=⟨ez de.cd (nth (fw ts p t) t.eP).RH,ez de.dg (nth (fw ts p t) t.eP).RH,ez de.dn (nth (fw ts p t) t.eP).RH⟩:=by
    unfold fy;rw[if_pos hq, <- t1, <- t2, <- t3]
  have tt:∀f:de->Int,iC f (eN (fw ts p t))=iC f (eN ts)-ez f (nth ts p).RH+ez f (eD (nth ts p).RH t.RF (g6 t.gP (ng ts p t))).1:=fun f=>by
    rw[hpt,Ja,xt f _ _ _ _ (I1 p0 p1)]
  have e1:=k3 de.cd fun _ _=>rfl;have e2:=k3 de.dg fun _ _=>rfl;have e3:=k3 de.dn fun _ _=>rfl;have g1:=(ze (f:=de.cd) _ fun y hy=>za fP (all y hy)).2 _ hm;have g2:=(ze (f:=de.dg) _ fun y hy=>za fR (all y hy)).2 _ hm;have g3:=(ze (f:=de.dn) _ fun y hy=>za fC (all y hy)).2 _ hm;have z1:=za fP hq;have z2:=za fR hq;have z3:=za fC hq;rw[tt]at g1 g2 g3;have b1:=hb.pg;have b2:=hb.rt;have b3:=hb.cp;have ha:=eA.1 k2;unfold jb iW;rw[if_pos];rw[hq,k2,hts];simp only[RO];refine eA.2 ?_;unfold dU;dsimp only;rw[dB (by omega) (by omega),dB (by omega) (by omega),dB (by omega) (by omega)];omega
structure Rt (L:Int->Prop) (ts us:List dJ):Prop where
  len:ts.length=us.length
  at_:∀k,0<=k->k<(ts.length:Int)->L k->nth ts k=nth us k
theorem Rt.set{L:Int->Prop}{ts us:List dJ}(h:Rt L ts us){q:Int}(q0:0<=q)(q1:q<(ts.length:Int)){y z:dJ}(e:L q->y=z):Rt L (ts.set q.toNat y) (us.set q.toNat z):=by
  have hl:=h.len;refine⟨by rw[List.length_set,List.length_set];exact hl,fun k k0 k1 hk=>?_⟩;rw[List.length_set]at k1;rw[vT q0 q1 k0,vT q0 (by omega) k0];split
  · rename_i ek;subst ek;exact e hk
  · exact h.at_ k k0 k1 hk
theorem Nv{L:Int->Prop}{ts us:List dJ}(h:Rt L ts us)(ht:Tb ts)(hu:Tb us){p:Int}(hp:L p)(t:ef):Rt L (fL ts p t).1 (fL us p t).1:=by
  have hl:=h.len
  by_cases pr:0<=p/\p<(ts.length:Int)
  · obtain⟨p0,p1⟩:=pr;have et:=h.at_ p p0 p1 hp
    have em:fO ts p t=fO us p t:=by unfold fO;rw[ht.ok,hu.ok,hl,et]
    cases hm:fO ts p t
    · have hm':=em.symm.trans hm;unfold fL;rw[hm,hm'];exact h
    · have hm':=em.symm.trans hm
      have en:ng ts p t=ng us p t:=by unfold ng;rw[et]
      obtain⟨_,_,_,⟨q0,q1⟩,_⟩:=lT hm
      have hp':Rt L (fw ts p t) (fw us p t):=by
        unfold fw
        exact h.set p0 p1 fun _=>by rw[et,en]
      unfold fL;rw[hm,hm',HF ht hm,HF hu hm'];refine hp'.set q0 (by rw[my];exact q1) fun hq=>?_;unfold jb;rw[hp'.at_ _ q0 (by rw[my];exact q1) hq,en]
  · have hn:∀vs:List dJ,vs.length=ts.length->fO vs p t=false:=fun vs e=>by
      cases hm:fO vs p t
      · rfl
      · exact absurd (by have:=(lT hm).2.2.1;rw[e]at this;exact this) pr
    unfold fL;rw[hn ts rfl,hn us hl.symm];exact h
theorem Cw{L:Int->Prop}{p:Int}(hp:L p):∀(db:List ef) (ts us:List dJ),Rt L ts us->Tb ts->Tb us->Rt L (lM ts p db) (lM us p db)
  | [],_,_,h,_,_=>h
  | t::l,ts,us,h,ht,hu=>Cw hp l _ _ (Nv h ht hu hp t) (ht.tk (yN ht.ok p t)) (hu.tk (yN hu.ok p t))
theorem Om{L:Int->Prop}{ts:List dJ}{p:Int}{t:ef}(hp:¬ L p)(hq:0<=t.eP->t.eP<(ts.length:Int)->¬ L t.eP){k:Int}(k0:0<=k)(hk:L k):nth (fL ts p t).1 k=nth ts k:=by
  unfold fL;split
  · rename_i c;rw[RP]at c;obtain⟨_,_,⟨p0,p1⟩,⟨q0,q1⟩,_⟩:=lT c.1;dsimp only;rw[vT q0 (by rw[my];exact q1) k0,if_neg (fun e:t.eP=k=>hq q0 q1 (e ▸ hk))];unfold fw;rw[vT p0 p1 k0,if_neg (fun e:p=k=>hp (e ▸ hk))]
  · rfl
theorem yO{L:Int->Prop}{p:Int}(hp:¬ L p){k:Int}(k0:0<=k)(hk:L k):∀(db:List ef) (ts:List dJ),(∀t,t∈db->0<=t.eP->t.eP<(ts.length:Int)->¬ L t.eP)->nth (lM ts p db) k=nth ts k
  | [],_,_=>rfl
  | t::l,ts,h=>by
    show nth (lM (fL ts p t).1 p l) k=_
    rw[yO hp k0 hk l _ fun s hs=>by rw[GU];exact h s (by simp[hs]),Om hp (h t (by simp)) k0 hk]
theorem Ow{l:List bh}{us:List dJ}(hl:us.length=l.length){j:Int}(j0:0<=j)(j1:j<(l.length:Int)):nth (eW l (eN us)) j=jV (nth l j) (nth us j).RH:=by
  have a:=fV j0 j1;have b:=I1 (ts:=us) j0 (by omega)
  show(((List.zipWith jV l (eN us))[j.toNat]?).getD dp.zero)=_
  rw[List.getElem?_zipWith,a,b];rfl
theorem CS{l:List bh}{j:Int}(j0:0<=j)(j1:j<(l.length:Int)):nth (ft l) j=dJ.mk (nth l j).Rr:=by
  have a:=fV j0 j1
  show(((ft l)[j.toNat]?).getD dp.zero)=_
  unfold ft fp;rw[List.map_map,List.getElem?_map,a];rfl
theorem su(l:List bh):(ft l).length=l.length:=by unfold ft fp;rw[List.length_map,List.length_map]
theorem HR:∀(l:List bh),(∀p,p∈l->dH p=true)->iC de.cd (fp l)<=(gQ l).cd/\iC de.dg (fp l)<=(gQ l).dg/\iC de.dn (fp l)<=(gQ l).dn
  | [],_=>by decide
  | p::l,h=>by
    obtain⟨a,b,c⟩:=HR l fun q hq=>h q (by simp[hq]);have hp:=h p (by simp);have hg:=(Aq (fb hp)).2
    have hs:dP p.dc=true:=by
      unfold dH m8 at hp;simp only[RP]at hp
      simp_all
    have hs:=eA.1 hs;have e1:∀f:de->Int,iC f (fp (p::l))=ez f p.Rr+iC f (fp l):=fun f=>rfl;have e3:gQ (p::l)=⟨(sp p).cd+(gQ l).cd,(sp p).dg+(gQ l).dg,(sp p).dn+(gQ l).dn⟩:=rfl;have e4:sp p=⟨ez de.cd p.Rr+g7 p.py.ag+p.dc.cd,ez de.dg p.Rr+p.dc.dg,ez de.dn p.Rr+p.dc.dn⟩:=rfl;rw[e1,e1,e1,e3,e4];dsimp only;omega
theorem Wk.tb{w:dh}(h:Wk w):Tb (ft w.parts):=by
  obtain⟨a,b,c⟩:=HR w.parts h.ok;have hs:=eA.1 h.sum;refine⟨?_,by rw[xN];omega,by rw[xN];omega,by rw[xN];omega⟩;unfold ib;rw[List.all_eq_true];intro y hy;obtain⟨x,hx,rfl⟩:=List.mem_map.1 (show y∈(fp w.parts).map dJ.mk from hy);obtain⟨p,hp,rfl⟩:=List.mem_map.1 (show x∈w.parts.map _ from hx);exact iM (h.ok p hp)
theorem Oi{t:dh}(h:Wk t){k:Int}(k0:0<=k)(k1:k<(t.parts.length:Int)):dy t k=dh.mk t.RB (eW t.parts (eN (lM (ft t.parts) k (nth t.parts k).db))):=by
  unfold dy;rw[if_pos];rw[kM.2 h,RO];unfold er;rw[dI];omega
theorem pJ{t:dh}(h:Wk t){k:Int}(k0:0<=k)(k1:k<(t.parts.length:Int)){j:Int}(j0:0<=j)(j1:j<(t.parts.length:Int)):nth (dy t k).parts j=jV (nth t.parts j) (nth (lM (ft t.parts) k (nth t.parts k).db) j).RH:=by
  rw[Oi h k0 k1];exact Ow qw j0 j1
theorem Nw.db{t:dh}(h:Nw t)(wk:Wk t){k:Int}(k0:0<=k)(k1:k<(t.parts.length:Int)):Nw (dy t k):=by
  have hl:=(sf wk k).len;refine⟨fun j j0 j1=>?_,fun j j0 j1 s hs s0 s1=>?_⟩
  · rw[hl]at j1;rw[pJ wk k0 k1 j0 j1];exact h.own j j0 j1
  · rw[hl]at j1 s1;rw[pJ wk k0 k1 j0 j1]at hs⊢;rw[pJ wk k0 k1 s0 s1];exact h.Et j j0 j1 s hs s0 s1
theorem NT{x:dV}{t u:dh}(h:kK x t u)(wt:Wk t)(wu:Wk u)(nt:Nw t)(nu:Nw u){k:Int}(k0:0<=k)(k1:k<(t.parts.length:Int)):kK x (dy t k) (dy u k):=by
  have hl:=h.len
  have k1':k<(u.parts.length:Int):=by omega
  have lt:=(sf wt k).len;have lu:=(sf wu k).len;refine⟨by rw[(sf wt k).RB,(sf wu k).RB];exact h.RB,by rw[lt,lu];exact hl,fun j j0 j1=>?_,fun j j0 j1 hj=>?_⟩
  · rw[lt]at j1;rw[pJ wt k0 k1 j0 j1,pJ wu k0 k1' j0 (by omega)];exact h.tK j j0 j1
  · rw[lt]at j1;rw[pJ wt k0 k1 j0 j1]at hj;have hj:fT (nth t.parts j).Rp x=true:=hj;rw[pJ wt k0 k1 j0 j1,pJ wu k0 k1' j0 (by omega),h.low j j0 j1 hj];congr 2
    have h0:Rt (fun j=>fT (nth t.parts j).Rp x=true) (ft t.parts) (ft u.parts):=by
      refine⟨by rw[su,su];exact hl,fun i i0 i1 hi=>?_⟩;rw[su]at i1;rw[CS i0 i1,CS i0 (by omega),h.low i i0 i1 hi]
    by_cases hk:fT (nth t.parts k).Rp x=true
    · rw[h.low k k0 k1 hk];have:=Cw (L:=fun j=>fT (nth t.parts j).Rp x=true) (p:=k) hk (nth u.parts k).db _ _ h0 wt.tb wu.tb;exact this.at_ j j0 (by rw[qw];exact j1) hj
    · rw[yO (L:=fun j=>fT (nth t.parts j).Rp x=true) (p:=k) hk j0 hj,yO (L:=fun j=>fT (nth t.parts j).Rp x=true) (p:=k) hk j0 hj]
      · exact h0.at_ j j0 (by rw[su];exact j1) hj
      · intro s hs s0 s1 hq;rw[su]at s1;have:=nu.Et k k0 k1' s hs s0 s1;rw[<- h.tK k k0 k1, <- h.tK _ s0 (by omega)]at this;exact hk (rl this hq)
      · intro s hs s0 s1 hq;rw[su]at s1;exact hk (rl (nt.Et k k0 k1 s hs s0 s1) hq)
theorem wF(n k:Nat)(t:dh):gF n k t=jU (dy t (k:Int)) (k:Int) (iF n (nth (dy t (k:Int)).parts (k:Int)) (k:Int) (dy t (k:Int)).RB):=by
  unfold gF jU;rw[Int.toNat_natCast]
theorem step_eq{x:dV}{t u:dh}(h:kK x t u)(wt:Wk t)(wu:Wk u)(nt:Nw t)(nu:Nw u)(n:Nat){k:Nat}(k1:k<t.parts.length):kK x (gF n k t) (gF n k u):=by
  have e:=NT h wt wu nt nu (k:=(k:Int)) (by omega) (by omega);have lt:=(sf wt (k:Int)).len;rw[wF,wF];refine e.put (by omega) (by omega) (wI _ _ _ _).Rp (wI _ _ _ _).Rp fun hk=>?_;rw[e.low (k:Int) (by omega) (by omega) hk,e.RB]
theorem Nw.step{t:dh}(nt:Nw t)(wt:Wk t)(n:Nat){k:Nat}(k1:k<t.parts.length):Nw (gF n k t):=by
  have lt:=(sf wt (k:Int)).len;rw[wF];exact(nt.db wt (by omega) (by omega)).kw (by omega) (by omega) (wI _ _ _ _)
theorem Cq{α τ:Type}{P:Nat->τ->τ->Prop}{f g:Nat->τ->α->τ}:∀(l m:List α) (k n:Nat) (t u:τ),l.length=m.length->k+l.length=n->(∀j t u y z,k<=j->j<n->P j t u->P (j+1) (f j t y) (g j u z))->P k t u->P n (foldI f k t l) (foldI g k u m)
  | [],[],k,n,t,u,_,e,_,h=>by
    simp at e;subst e;exact h
  | [],_::_,_,_,_,_,hl,_,_,_=>by simp at hl
  | _::_,[],_,_,_,_,hl,_,_,_=>by simp at hl
  | y::l,z::m,k,n,t,u,hl,e,hs,h=>by
    simp only[List.length_cons]at e hl;unfold foldI;exact Cq l m (k+1) n _ _ (by omega) (by omega) (fun j t u y z hj hn hp=>hs j t u y z (by omega) hn hp) (hs k t u y z (Nat.le_refl _) (by omega) h)
theorem DW{x:dV}{w v:dh}(h:kK x w v)(ow:eI w=true)(ov:eI v=true)(Tw:og w.parts.length 0 (dh.mk (w.RB+1) w.parts))(Tv:og v.parts.length 0 (dh.mk (v.RB+1) v.parts))(nw:Nw w)(nv:Nw v):kK x (tick w) (tick v)/\Nw (tick w)/\Nw (tick v):=by
  have kw:=kM.1 ow;have kv:=kM.1 ov;have hl:=h.len;have hnow:=h.RB;unfold Kx.tick;rw[ow,ov, <- hnow];cases hm:w.RB==1000000
  case true=>exact⟨h,nw,nv⟩
  have hm':w.RB ≠ 1000000:=by simpa using hm
  have hn:=kw.RB;simp only[Bool.not_false,Bool.and_self,if_true];rw[dB (by omega) (by omega), <- hl];have hs:=Tw.small;rw[<- hnow, <- hl]at Tv;have j0:∀z:dh,Wk z->z.RB=w.RB->(og z.parts.length 0 (dh.mk (w.RB+1) z.parts))->Jt z (w.RB+1) 0 (dh.mk (w.RB+1) z.parts):=fun z hz e T=>⟨⟨⟨by dsimp only;omega,by dsimp only;omega⟩,hz.len,hz.ok,hz.sum⟩,rfl,rfl,rfl,fun j _ _=>lV.refl _,fun j hj=>absurd hj (Nat.not_lt_zero _),T.w⟩
  have key:=Cq (P:=fun k t u=>((Jt w (w.RB+1) k t/\og w.parts.length k t)/\(Jt v (w.RB+1) k u/\og w.parts.length k u))/\kK x t u/\Nw t/\Nw u) (f:=fun k t (_:bh)=>gF w.parts.length k t) (g:=fun k t (_:bh)=>gF w.parts.length k t) w.parts v.parts 0 w.parts.length (dh.mk (w.RB+1) w.parts) (dh.mk (w.RB+1) v.parts) hl (by simp) (fun k t u y z _ hk hp=>?_)
    ⟨⟨⟨j0 w kw rfl Tw,Tw⟩,⟨j0 v kv hnow.symm (by rw[<- hl];exact Tv),Tv⟩⟩,⟨rfl,hl,h.tK,h.low⟩,⟨nw.own,nw.Et⟩,⟨nv.own,nv.Et⟩⟩
  · exact⟨key.2.1,key.2.2.1,key.2.2.2⟩
  · obtain⟨⟨⟨a,a'⟩,⟨b,b'⟩⟩,c,d,d'⟩:=hp;have sz:∀{t:dh},og w.parts.length k t->∀p,p∈(dy t (k:Int)).parts->dC p<=2000000:=fun T p hp'=>Nat.le_trans ((T.db (k:Int)).sz p hp').1 (by omega);have b2:=b.step (by omega) (by omega) (sz b');rw[<- hl]at b2;have la:=a.len;have lb:=b.len;exact⟨⟨⟨a.step hk hs (sz a'),a'.step hk⟩,⟨b2,b'.step hk⟩⟩,step_eq c a.wk b.wk d d' _ (by omega),d.step a.wk _ (by omega),d'.step b.wk _ (by omega)⟩
end Go.Kx
