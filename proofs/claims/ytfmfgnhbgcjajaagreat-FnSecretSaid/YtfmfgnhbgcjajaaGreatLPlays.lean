import Derived.Test.YtfmfgnhbgcjajaaGreatLRefused
namespace Go.Kx
open Go
set_option linter.unusedVariables false
set_option linter.unusedSimpArgs false
set_option maxRecDepth 10000
theorem Pl.t{k:Nat}{t:dh×List dt}(h:Pl 200 k t)(hk:k<200):Wt t.1:=h.sg.t (by omega)
theorem KQ{b:List dK}(h:fW b=true):Pl 200 0 (fg b,([]:List dt)):=⟨by simpa using HL h,rfl⟩
theorem uY{b:List dK}{l:List dQ}(h:(!fW b || decide ((l.length:Int)>200))=false):fW b=true/\l.length<=200:=by
  simp only[Bool.or_eq_false_iff,Bool.not_eq_false',decide_eq_false_iff_not]at h;exact⟨h.1,by omega⟩
theorem Fh{N:Nat}(hN:df+1<=N){b:List dK}{l:List dQ}(hb:eE eM b<df):rX N b l=some (kD b l):=by
  have hN':df<=N:=Nat.le_of_succ_le hN;have hB:(16777216:Nat)=df:=rfl;unfold rX kD;simp only[E9 hN' hb,RK,gv];cases h:!fW b || decide ((l.length:Int)>200)
  case true=>rfl
  obtain⟨ok,hl⟩:=uY h;simp only[RL,JC hN hb,RK];refine Eq.trans (congrArg (fun o=>Option.bind o _) (gz l (fun k (t:dh×List dt)=>(t.2,(k:Int),t.1.RB,t.1.parts)) (fun _ t e=>sU t e) (fun t=>(t.2,(l.length:Int),t.1.RB,t.1.parts)) (Pl 200) ?_ ?_ (show l.length<N by omega) (t:=(fg b,[])) (KQ ok))) (by rw[BS];rfl)
  · intro k t e hy hk hI;refine⟨?_,hI.step (by decide) (by omega) e⟩;have h2:=hI.len;simp only[ei hk,RM,dM,hy,RK,show dh.mk t.1.RB t.1.parts=t.1 from rfl,Pt hN (hI.t (by omega)),B8 (t:=t.2) (by omega),eB (show k<df by omega)];rfl
  · intro t _;simp only[ep,RL]
theorem Pe{N:Nat}(hN:df<=N){b:List dK}{l:List dQ}(hb:eE eM b<=1048576):vF N b l=some (kD b l):=by
  have hB:(16777216:Nat)=df:=rfl;unfold vF kD;simp only[Ao hN (show eE eM b<df by omega),RK,gv];cases h:!fW b || decide ((l.length:Int)>200)
  case true=>rfl
  obtain⟨ok,hl⟩:=uY h;simp only[RL,AG hN hb,RK];refine Eq.trans (congrArg (fun o=>Option.bind o _) (gz l (fun k (t:dh×List dt)=>(t.2,(k:Int),t.1.RB,t.1.parts)) (fun _ t e=>sU t e) (fun t=>(t.2,(l.length:Int),t.1.RB,t.1.parts)) (Pl 200) ?_ ?_ (show l.length<N by omega) (t:=(fg b,[])) (KQ ok))) (by rw[BS];rfl)
  · intro k t e hy hk hI;refine⟨?_,hI.step (by decide) (by omega) e⟩;have h2:=hI.len;simp only[ei hk,RM,dM,hy,RK,show dh.mk t.1.RB t.1.parts=t.1 from rfl,Ly hN (hI.t (by omega)),B8 (t:=t.2) (by omega),eB (show k<df by omega)];rfl
  · intro t _;simp only[ep,RL]
theorem BZ{l:List dQ}:∀(m:List dQ) (k:Nat) (t:dh×List dt),k+m.length<=200->Pl 200 k t->Pl 200 (k+m.length) (m.foldl sU t)
  | [],k,t,_,h=>h
  | e::m,k,t,hk,h=>by
    simp only[List.length_cons]at hk⊢;have:=BZ (l:=l) m (k+1) (sU t e) (by omega) (h.step (by decide) (by omega) e)
    rwa[show k+(m.length+1)=k+1+m.length by omega]
theorem HD(b:List dK)(l:List dQ):Sg 780200 (kD b l).1/\(kD b l).2.length<=l.length:=by
  unfold kD;cases h:!fW b || decide ((l.length:Int)>200)
  · obtain⟨ok,hl⟩:=uY h;have:=BZ (l:=l) l 0 (fg b,[]) (by omega) (KQ ok);rw[Nat.zero_add]at this;exact⟨this.sg.mono (by omega),Nat.le_of_eq this.len⟩
  · exact⟨⟨Nat.zero_le _,fun p hp=>by simp at hp⟩,Nat.zero_le _⟩
def sO(b:List dK)(l:List dQ)(x:dV)(r:List dt):List dt:=jo (fun k _=>seen b (nth l (k:Int)) x) (fun _ y=>y) 0 r
theorem yf(b:List dK)(l:List dQ):(kD b l).2.length<=l.length/\((kD b l).2.length<=200):=by
  unfold kD;cases h:!fW b || decide ((l.length:Int)>200)
  · obtain⟨ok,hl⟩:=uY h;have:=BZ (l:=l) l 0 (fg b,[]) (by omega) (KQ ok);rw[Nat.zero_add]at this;have e:=this.len;exact⟨Nat.le_of_eq e,by show(xB (fg b) l).2.length<=200;unfold xB;omega⟩
  · exact⟨Nat.zero_le _,Nat.zero_le _⟩
theorem xQ{N:Nat}(hN:df+1<=N){b:List dK}{l:List dQ}{x:dV}(hb:eE eM b<df)(hx:x.Ro.length<df):ka N b l x=some (sO b l x (kD b l).2):=by
  have hN':df<=N:=Nat.le_of_succ_le hN;have hB:(16777216:Nat)=df:=rfl;unfold ka sO;obtain⟨p1,p2⟩:=yf b l;simp only[Fh hN hb,RK];generalize (kD b l).2=r at *;rw[jq r (fun k _=>seen b (nth l (k:Int)) x) (fun _ y=>y) (show r.length<df by omega) hN']
  · rfl
  · intro k t y hy hk ht;simp only[ei hk,RM,dM r k,hy,RK,eK (l:=l) (i:=(k:Int)) (by omega) (by omega),O2 hN' hb hx,eB (show k<df by omega),fZ ht (show k+1<df by omega)];cases seen b (nth l (k:Int)) x<;>rfl
  · intro t;simp only[ep,RL]
theorem Dv{N:Nat}(hN:df<=N){b:List dK}{l:List dQ}{x:dV}(hb:eE eM b<=1048576)(hx:x.Ro.length<df):na N b l x=some (sO b l x (kD b l).2):=by
  have hB:(16777216:Nat)=df:=rfl
  have hb':eE eM b<df:=by omega
  unfold na sO;obtain⟨p1,p2⟩:=yf b l;simp only[Pe hN hb,RK];generalize (kD b l).2=r at *;rw[jq r (fun k _=>seen b (nth l (k:Int)) x) (fun _ y=>y) (show r.length<df by omega) hN]
  · rfl
  · intro k t y hy hk ht;simp only[ei hk,RM,dM r k,hy,RK,eK (l:=l) (i:=(k:Int)) (by omega) (by omega),J6 hN hb' hx,eB (show k<df by omega),fZ ht (show k+1<df by omega)];cases seen b (nth l (k:Int)) x<;>rfl
  · intro t;simp only[ep,RL]
theorem IZ:gn pb=true:=by decide +kernel
theorem Js{b:dK}(h:sE b=true):dH (jQ b)=true:=by
  unfold sE at h;simp only[RP]at h;obtain⟨h1,h2,h3⟩:=h;unfold dH
  show(eT b.Rp&&(ia b.own&&(fk (lE b.eV)&&(gn pb&&(!decide (((([]:List ef)).length:Int)>3)&&(([]:List ef).all gO&&m8 (jQ b)))))))=true
  rw[h2,h3,xk,h1,IZ];rfl
theorem MC(b:dK):held (jQ b)=0:=by
  show((pb.ag.take 10).filter eG).foldl (fun n o=>IntKind.i64.wrap (n+o.cd)) 0=0
  decide +kernel
theorem Oo{b:dK}(h:sE b=true):hD (jQ b)=b.eV:=by
  have h1:dP b.eV=true:=by
    unfold sE at h;simp only[RP]at h;exact h.1
  have h2:=D7 h1;unfold hD;rw[MC]
  have ht:fy (jQ b).Rr=b.eV:=by
    unfold fy;rw[show(jQ b).Rr=lE b.eV from rfl,xk,h1,if_pos rfl]
    show dU ⟨0,0,0⟩ b.eV=b.eV
    exact h2
  rw[ht,show(jQ b).dc=⟨0,0,0⟩ from rfl,if_pos (by decide)];unfold dP uQ at h1;simp only[RP,dI]at h1;unfold dU;simp only[Int.add_zero];rw[dB (n:=b.eV.cd) (by omega) (by omega),dB (n:=b.eV.cd) (by omega) (by omega),dB (by omega) (by omega),dB (by omega) (by omega)]
theorem ES:∀(l:List dK) (a:de),(∀x,x∈l->sE x=true)->lJ a (iD l)=l.foldl (fun a b=>dU a b.eV) a
  | [],a,_=>rfl
  | x::l,a,h=>by
    have e:(kI x).1=jQ x:=by unfold kI;rw[if_pos (h x (by simp))]
    show lJ (dU a (hD (kI x).1)) (iD l)=_
    rw[e,Oo (h x (by simp)),ES l _ fun y hy=>h y (by simp[hy])];rfl
theorem CX:∀(l:List dK) (a:de),dP a=true->kC a l=true->dP (l.foldl (fun a b=>(fH a b.eV).1) a)=true
  | [],a,h,_=>h
  | x::l,a,_,h=>by
    unfold kC at h;simp only[RP]at h;exact CX l _ (LG h.1).2.1 h.2.2.2
theorem OJ{b:List dK}(h:fW b=true):(Wk (fg b)/\gQ (fg b).parts=vi b/\(fg b).parts.length=b.length/\(fg b).RB=0)/\∀p,p∈(fg b).parts->∃x,sE x=true/\p=jQ x:=by
  have h':=h;unfold fW at h';rw[RP,dI]at h';have hk:=sn b _ h'.1
  have hl:(iD b).length=b.length:=by unfold iD;rw[List.length_map]
  have hp:∀p,p∈iD b->∃x,sE x=true/\p=jQ x:=fun p hp=>by
    obtain⟨x,hx,rfl⟩:=List.mem_map.1 (show p∈b.map _ from hp);exact⟨x,hk x hx,by unfold kI;rw[if_pos (hk x hx)]⟩
  have hok:∀p,p∈iD b->dH p=true:=fun p q=>by
    obtain⟨x,hx,rfl⟩:=hp p q;exact Js hx
  have hs:lJ ⟨0,0,0⟩ (iD b)=vi b:=by
    rw[ES b _ hk];unfold vi;rw[if_pos h]
  have ha:dP (vi b)=true:=by
    unfold vi;rw[if_pos h, <- zE b _ h'.1];exact CX b _ (by decide) h'.1
  have e:gQ (iD b)=vi b:=by rw[<- Fs hok (by omega),hs]
  have ew:fg b=⟨0,iD b⟩:=by unfold fg;rw[if_pos h]
  rw[ew];exact⟨⟨⟨⟨by dsimp only;omega,by dsimp only;omega⟩,⟨by show 1<=(iD b).length;omega,by show(iD b).length<=3;omega⟩,hok,by show dP (gQ (iD b))=true;rw[e];exact ha⟩,e,hl,rfl⟩,hp⟩
def tB(bs:List dK)(es:List dQ)(l:dV):List dQ:=es.filter fun e=>seen bs e l
theorem CM(bs:List dK)(es:List dQ)(l:dV):(tB bs es l).length<=es.length:=List.length_filter_le _ _
theorem Nt{N:Nat}(hN:df<=N){bs:List dK}{es:List dQ}{l:dV}(hb:eE eM bs<df)(he:es.length<df)(hl:l.Ro.length<df):uF N bs es l=some (tB bs es l):=by
  unfold uF tB;rw[jq es (fun _ e=>seen bs e l) (fun _ y=>y) he hN,kY]
  · rfl
  · intro k t y hy hk ht;simp only[ei hk,RM,dM,hy,RK,J6 hN hb hl,eB (Nat.lt_trans hk he),fZ ht (Nat.lt_of_le_of_lt hk he)];cases seen bs y l<;>rfl
  · intro t;simp only[ep,RL]
theorem HK{w:dh}(hT0:og w.parts.length 0 (dh.mk (w.RB+1) w.parts))(ok:eI w=true)(hm:w.RB ≠ 1000000):Jt w (w.RB+1) w.parts.length (tick w):=by
  have hk:=kM.1 ok;have hn:=hk.RB;have hl:=hT0.small;unfold Kx.tick;rw[ok,show(w.RB==1000000)=false from by simpa using hm];simp only[Bool.not_false,Bool.and_self,if_true];rw[dB (by omega) (by omega)];have h0:Jt w (w.RB+1) 0 (dh.mk (w.RB+1) w.parts):=⟨⟨⟨by dsimp only;omega,by dsimp only;omega⟩,hk.len,hk.ok,hk.sum⟩,rfl,rfl,rfl,fun j _ _=>lV.refl _,fun j hj=>absurd hj (Nat.not_lt_zero _),hT0.w⟩;refine(CL (P:=fun k t=>Jt w (w.RB+1) k t/\og w.parts.length k t) w.parts 0 w.parts.length _ (by simp) (fun k t y _ hk' hp=>?_) ⟨h0,hT0⟩).1;refine⟨hp.1.step hk' hl fun p hp'=>?_,hp.2.step hk'⟩;exact Nat.le_trans ((hp.2.db (k:Int)).sz p hp').1 (by omega)
theorem NS{p:bh}(h:dH p=true){x:Int}(x0:0<=x)(x9:x<=9):Gd p (vy p x):=by
  refine⟨?_,rfl⟩;unfold dH m8 at *;simp only[RP]at h⊢;obtain⟨a,b,c,d,e,f,g1,g2,g3⟩:=h;refine⟨a,b,c,d,e,f,g1,?_,g3⟩
  show dv (vy p x).Rz 0 10=true
  unfold vy;dsimp only;rw[dB (by omega) (by omega),dI];omega
structure Iv (k:Nat) (w:dh):Prop where
  ok:eI w=true
  sg:Sg (200+3900*k) w
theorem Iv.t{k:Nat}{w:dh}(h:Iv k w)(hk:k<=200):Wt w:=h.sg.t (by omega)
theorem Iv.Hg{k:Nat}{w:dh}(h:Iv k w)(hk:k<=200):og w.parts.length 0 (dh.mk (w.RB+1) w.parts):=by
  have hT:=(h.t hk).t h.ok;have hn:=(kM.1 h.ok).RB
  rwa[dB (by omega) (by omega)]at hT
theorem Iv.step{k:Nat}{w:dh}(h:Iv k w)(hk:k<200)(e:dQ):Iv (k+1) (gE w e).1:=by
  refine⟨?_,(h.sg.gE (by omega) e).mono (by omega)⟩;unfold Kx.gE;cases e.Rq==1
  case true =>
    show eI (tick w)=true
    by_cases hm:w.RB=1000000
    · have et:tick w=w:=by
        unfold tick;rw[if_neg (by rw[hm];simp)]
      rw[et];exact h.ok
    · exact kM.2 (HK (h.Hg (by omega)) h.ok hm).wk
  simp only[RL];cases e.Rq==2
  case true=>exact(N7 (h.t (by omega)).q h.ok _ _ _).1
  simp only[RL];cases e.Rq==3
  case false=>exact h.ok
  show eI (mh w e)=true
  rcases y6 w e with q|⟨_,hp,q3,q⟩
  · rw[q];exact h.ok
  · rw[q];exact(Eg h.ok hp (NS (vh h.ok (fu hp).2) q3.1 q3.2)).1
theorem NQ{x:dV}{w v:dh}{k j:Nat}(h:kK x w v)(iw:Iv k w)(iv:Iv j v)(hk:k<=200)(hj:j<=200)(nw:Nw w)(nv:Nw v)(e:dQ)(hs:e.Rq ≠ 1->er w e.Rn=true->fT (nth w.parts e.Rn).Rp x=true):kK x (gE w e).1 (gE v e).1/\(gE w e).2=(gE v e).2:=by
  unfold gE;cases k1:e.Rq==1
  case true=>exact⟨(DW h iw.ok iv.ok (iw.Hg hk) (iv.Hg hj) nw nv).1,rfl⟩
  have hs:=hs (by simpa using k1);simp only[RL];cases e.Rq==2
  case true=>exact ND h iw.ok iv.ok nw nv hs _ _
  simp only[RL];cases e.Rq==3
  case false=>exact⟨h,rfl⟩
  refine⟨?_,rfl⟩
  show kK x (mh w e) (mh v e)
  unfold mh;rw[iw.ok,iv.ok, <- h.has];cases hp:er w e.Rn
  case false=>exact h
  obtain⟨p0,p1⟩:=uD hp;cases dv e.dS 0 9
  case false=>exact h
  have hl:=hs hp
  exact h.put p0 p1 rfl rfl fun _=>by rw[h.low _ p0 p1 hl]
theorem HX{x:dV}{w v:dh}(h:kK x w v)(nw:Nw w)(e:dQ)(k1:e.Rq ≠ 1)(hs:er w e.Rn=true->fT (nth w.parts e.Rn).Rp x=false):kK x (gE w e).1 v:=by
  unfold gE;rw[show(e.Rq==1)=false from by simpa using k1];simp only[RL];cases e.Rq==2
  case true=>exact Ny h nw hs _ _
  simp only[RL];cases e.Rq==3
  case false=>exact h
  show kK x (mh w e) v
  unfold mh;cases hp:er w e.Rn
  case false=>cases eI w<;>exact h
  cases eI w
  case false=>exact h
  cases dv e.dS 0 9
  case false=>exact h
  obtain⟨p0,p1⟩:=uD hp;exact h.IT p0 p1 rfl (hs hp)
theorem Nw.gE{w:dh}{k:Nat}(h:Nw w)(iw:Iv k w)(hk:k<=200)(e:dQ):Nw (gE w e).1:=by
  unfold Kx.gE;cases e.Rq==1
  case true=>exact(DW (kK.refl ⟨[]⟩ w) iw.ok iw.ok (iw.Hg hk) (iw.Hg hk) h h).2.1
  simp only[RL];cases e.Rq==2
  case true=>exact h.call _ _ _
  simp only[RL];cases e.Rq==3
  case false=>exact h
  show Nw (mh w e)
  rcases y6 w e with q|⟨_,hp,_,q⟩
  · rw[q];exact h
  · obtain⟨p0,p1⟩:=uD hp;rw[q];exact h.kw p0 p1 ⟨rfl,rfl,fun _ h=>h⟩
theorem L0{w:dh}{k:Nat}(nw:Nw w)(iw:Iv k w)(hk:k<=200)(e:dQ):(gE w e).1.parts.length=w.parts.length/\∀j,0<=j->j<(w.parts.length:Int)->(nth (gE w e).1.parts j).Rp=(nth w.parts j).Rp:=by
  by_cases k1:e.Rq=1
  · have et:(gE w e).1=tick w:=by unfold gE;rw[k1];rfl
    rw[et]
    by_cases hm:w.RB=1000000
    · have et:tick w=w:=by
        unfold tick;rw[if_neg (by rw[hm];simp)]
      rw[et];exact⟨rfl,fun _ _ _=>rfl⟩
    · have J:=HK (iw.Hg hk) iw.ok hm;exact⟨J.len,fun j j0 j1=>(J.iS j j0 j1).Rp⟩
  · have h:=HX (kK.refl ⟨[]⟩ w) nw e k1 fun _=>by
      cases hf:fT (nth w.parts e.Rn).Rp ⟨[]⟩
      · rfl
      · have:=(j6.1 (vY.1 hf).2.1).1;simp at this
    exact⟨h.len,fun j j0 j1=>h.tK j j0 (by rw[h.len];exact j1)⟩
def nf(w:dh)(l:List dQ):dh:=l.foldl (fun w e=>(gE w e).1) w
def tA:dh->List dQ->List dt
  | _,[]=>[]
  | w,e::l=>(gE w e).2::tA (gE w e).1 l
theorem Cp:∀(l:List dQ) (w:dh) (rs:List dt),l.foldl sU (w,rs)=(nf w l,rs++tA w l)
  | [],w,rs=>by simp[nf,tA]
  | e::l,w,rs=>by
    show l.foldl sU ((gE w e).1,rs++[(gE w e).2])=_
    rw[Cp l];simp[nf,tA]
theorem xq:∀(l:List dQ) (w:dh),(tA w l).length=l.length
  | [],_=>rfl
  | e::l,w=>by simp[tA,xq l]
def uI(p:dQ->Bool):List dQ->List dt->List dt
  | e::l,r::s=>if p e then r::uI p l s else uI p l s
  | _,_=>[]
theorem D4{p:dQ->Bool}:∀(l:List dQ) (s:List dt),s.length=l.length->(∀e,e∈l->p e=true)->uI p l s=s
  | [],[],_,_=>rfl
  | [],_::_,h,_=>by simp at h
  | _::_,[],h,_=>by simp at h
  | e::l,r::s,h,ha=>by
    unfold uI;rw[if_pos (ha e (by simp)),D4 l s (by simpa using h) fun y hy=>ha y (by simp[hy])]
theorem Ez(b:List dK)(l:List dQ)(x:dV):∀(l':List dQ) (r:List dt) (k:Nat),l.drop k=l'->r.length=l'.length->jo (fun k _=>seen b (nth l (k:Int)) x) (fun _ y=>y) k r=uI (fun e=>seen b e x) l' r
  | [],[],_,_,_=>rfl
  | [],_::_,_,_,h=>by simp at h
  | _::_,[],_,_,h=>by simp at h
  | e::l',r::s,k,hd,h=>by
    have e0:l[k]?=some e:=by
      have:=congrArg (fun z=>z[0]?) hd;simpa using this
    have e1:nth l (k:Int)=e:=by
      show((l[(k:Int).toNat]?).getD dp.zero)=e
      rw[Int.toNat_natCast,e0];rfl
    have e2:l.drop (k+1)=l':=by
      rw[<- List.drop_drop,hd];rfl
    unfold jo uI;rw[e1,Ez b l x l' s (k+1) e2 (by simpa using h)]
theorem Es{b:List dK}{l:List dQ}{x:dV}{r:List dt}(h:r.length=l.length):sO b l x r=uI (fun e=>seen b e x) l r:=Ez b l x l r 0 rfl h
structure Lb (b:List dK) (w:dh):Prop where
  len:w.parts.length=b.length
  tK:∀k,0<=k->k<(w.parts.length:Int)->(nth w.parts k).Rp=((b[k.toNat]?).getD dp.zero).Rp
theorem Lb.gE{b:List dK}{w:dh}{k:Nat}(h:Lb b w)(nw:Nw w)(iw:Iv k w)(hk:k<=200)(e:dQ):Lb b (gE w e).1:=by
  obtain⟨a,c⟩:=L0 nw iw hk e;exact⟨a.trans h.len,fun j j0 j1=>by rw[a]at j1;rw[c j j0 j1];exact h.tK j j0 j1⟩
theorem Lb.seen{b:List dK}{w:dh}(h:Lb b w){x:dV}{e:dQ}:(seen b e x=true->e.Rq ≠ 1->er w e.Rn=true->fT (nth w.parts e.Rn).Rp x=true)/\(seen b e x=false->e.Rq ≠ 1/\(er w e.Rn=true->fT (nth w.parts e.Rn).Rp x=false)):=by
  have e1:∀hp:er w e.Rn=true,dv e.Rn 0 ((b.length:Int)-1)=true/\(nth w.parts e.Rn).Rp=((b[e.Rn.toNat]?).getD dp.zero).Rp:=fun hp=>by
    obtain⟨p0,p1⟩:=uD hp;exact⟨by rw[dI];have:=h.len;omega,h.tK _ p0 p1⟩
  unfold Kx.seen;constructor
  · intro q k1 hp;obtain⟨a,c⟩:=e1 hp;rw[show(e.Rq==1)=false from by simpa using k1,a]at q;rw[c];simpa using q
  · intro q;rw[Bool.or_eq_false_iff]at q;refine⟨by simpa using q.1,fun hp=>?_⟩;obtain⟨a,c⟩:=e1 hp;have q2:=q.2;rw[a]at q2;rw[c];simpa using q2
theorem run_eq{b:List dK}{x:dV}:∀(l:List dQ) (k j:Nat) (w v:dh),k+l.length<=200->j<=k->Iv k w->Iv j v->Nw w->Nw v->Lb b w->kK x w v ->
    kK x (nf w l) (nf v (l.filter fun e=>seen b e x))/\uI (fun e=>seen b e x) l (tA w l)=tA v (l.filter fun e=>seen b e x)
  | [],_,_,w,v,_,_,_,_,_,_,_,h=>⟨h,rfl⟩
  | e::l,k,j,w,v,hl,hj,iw,iv,nw,nv,lb,h=>by
    simp only[List.length_cons]at hl;have lb':=lb.gE nw iw (by omega) e;have nw':=nw.gE iw (by omega) e;have iw':=iw.step (by omega) e;cases hs:seen b e x
    · obtain⟨k1,hn⟩:=(lb.seen (x:=x) (e:=e)).2 hs;obtain⟨a,c⟩:=run_eq l (k+1) j _ v (by omega) (by omega) iw' iv nw' nv lb' (HX h nw e k1 hn);rw[List.filter_cons,hs];refine⟨a,?_⟩
      show uI _ (e::l) ((gE w e).2::tA (gE w e).1 l)=_
      unfold uI;rw[hs];exact c
    · obtain⟨a1,a2⟩:=NQ h iw iv (by omega) (by omega) nw nv e ((lb.seen (x:=x) (e:=e)).1 hs);obtain⟨a,c⟩:=run_eq l (k+1) (j+1) _ _ (by omega) (by omega) iw' (iv.step (by omega) e) nw' (nv.gE iv (by omega) e) lb' a1;rw[List.filter_cons,hs];refine⟨a,?_⟩
      show uI _ (e::l) ((gE w e).2::tA (gE w e).1 l)=(gE v e).2::tA (gE v e).1 (l.filter fun e=>seen b e x)
      unfold uI;rw[hs,if_pos rfl,c,a2]
theorem Bv{α:Type}{p:α->Bool}:∀(l m:List α),l.length=m.length->(∀(k:Nat) (y z:α),l[k]?=some y->m[k]?=some z->p y=p z/\(p y=true->y=z))->l.filter p=m.filter p
  | [],[],_,_=>rfl
  | [],_::_,h,_=>by simp at h
  | _::_,[],h,_=>by simp at h
  | y::l,z::m,h,ha=>by
    obtain⟨a,b⟩:=ha 0 y z rfl rfl;have:=Bv l m (by simpa using h) fun k y z hy hz=>ha (k+1) y z (by simpa using hy) (by simpa using hz);rw[List.filter_cons,List.filter_cons,this, <- a];split
    · rename_i q;rw[b q]
    · rfl
theorem kK.parts{x:dV}{w v:dh}(h:kK x w v):k6 w x=k6 v x:=by
  have hl:=h.len;unfold k6;refine Bv _ _ (by simp[hl]) fun k y z hy hz=>?_;rw[List.getElem?_take]at hy hz;split at hy
  · rename_i k3;rw[if_pos k3]at hz;have k1:=eF hy
    have e1:nth w.parts (k:Int)=y:=by
      show((w.parts[(k:Int).toNat]?).getD dp.zero)=y
      rw[Int.toNat_natCast,hy];rfl
    have e2:nth v.parts (k:Int)=z:=by
      show((v.parts[(k:Int).toNat]?).getD dp.zero)=z
      rw[Int.toNat_natCast,hz];rfl
    have a:=h.tK (k:Int) (by omega) (by omega);have b:=h.low (k:Int) (by omega) (by omega);rw[e1,e2]at a b;exact⟨by rw[a],b⟩
  · cases hy
theorem KE{b:List dK}(h:fW b=true):Iv 0 (fg b):=⟨kM.2 (OJ h).1.1,by simpa using HL h⟩
theorem xZ{b:List dK}(h:fW b=true):(fg b).parts=b.map jQ:=by
  have h':=h;unfold fW at h';rw[RP]at h';have hk:=sn b _ h'.1;unfold fg;rw[if_pos h]
  show b.map _=_
  refine List.map_congr_left fun y hy=>?_;unfold kI;rw[if_pos (hk y hy)]
theorem DP{b:List dK}(h:fW b=true){k:Int}(k0:0<=k)(k1:k<((fg b).parts.length:Int)):nth (fg b).parts k=jQ ((b[k.toNat]?).getD dp.zero):=by
  have hp:=xZ h;rw[hp,List.length_map]at k1;have e:b[k.toNat]?=some (b[k.toNat]'(by omega)):=List.getElem?_eq_getElem _;rw[hp]
  show(((b.map jQ)[k.toNat]?).getD dp.zero)=_
  rw[List.getElem?_map,e];rfl
theorem KI{b:List dK}(h:fW b=true):Lb b (fg b):=⟨by rw[xZ h,List.length_map],fun k k0 k1=>by rw[DP h k0 k1];rfl⟩
theorem Lq{b:List dK}(h:fW b=true)(ho:∀y,y∈b->y.own=[]):Nw (fg b):=by
  refine⟨fun k k0 k1=>?_,fun k k0 k1 t ht=>?_⟩
  · have k1':=k1;rw[xZ h,List.length_map]at k1';have e:b[k.toNat]?=some (b[k.toNat]'(by omega)):=List.getElem?_eq_getElem _;rw[DP h k0 k1,e];exact ho _ (List.getElem_mem _)
  · rw[DP h k0 k1]at ht;have ht:t∈([]:List ef):=ht;simp at ht
theorem BW{b:List dK}{l:List dQ}(h:fW b=true)(hl:l.length<=200):kD b l=(nf (fg b) l,tA (fg b) l):=by
  unfold kD xB;rw[h,decide_eq_false (by omega)]
  show l.foldl sU (fg b,[])=_
  rw[Cp,List.nil_append]
theorem Lr{b:List dK}{l:List dQ}{x:dV}(h:fW b=true)(ho:∀y,y∈b->y.own=[])(hl:l.length<=200):k6 (kD b l).1 x=k6 (kD b (tB b l x)).1 x/\sO b l x (kD b l).2=sO b (tB b l x) x (kD b (tB b l x)).2:=by
  have hp:=CM b l x;have iw:=KE h;have nw:=Lq h ho;obtain⟨a,c⟩:=run_eq (x:=x) l 0 0 _ _ (by omega) (Nat.le_refl _) iw iw nw nw (KI h) (kK.refl x _);rw[BW h hl,BW h (Nat.le_trans hp hl)];refine⟨a.parts,?_⟩
  show sO b l x (tA (fg b) l)=sO b (tB b l x) x (tA (fg b) (tB b l x))
  rw[Es (xq _ _),Es (xq _ _),c];exact(D4 _ _ (xq _ _) fun e he=>(List.mem_filter.1 he).2).symm
theorem WD.yes{α:Type}{o:Option Bool}{a b:Option α}{Q:α->Prop}(e:o=some true)(k:WD a Q):WD (o.bind fun y=>bif y then a else b) Q:=by rw[e];exact k
theorem WD.no{α:Type}{o:Option Bool}{a b:Option α}{Q:α->Prop}(e:o=some false)(k:WD b Q):WD (o.bind fun y=>bif y then a else b) Q:=by rw[e];exact k
theorem PW{N:Nat}{x:List U8}(hx:Fit.fit x)(hl:x.length<=1048576){i:Int}(h0:0<=i)(h1:i<=100):WD (yK N x i) (fun r=>0<=r/\r<=255):=by
  unfold yK;refine WD.ite (fun c=>WD.bind (mX h0 (of_decide_eq_true c)) fun y hy=>WD.ret ?_) fun c=>WD.ret ?_
  · have h2:0<=y.v/\y.v<=255:=hx.2 y hy;rw[dB (by omega) (by omega)];exact h2
  · rw[dB (n:=i*37) (by omega) (by omega),dB (n:=(x.length:Int)*11) (by omega) (by omega),dB (by omega) (by omega)];have:=xx (a:=i*37+(x.length:Int)*11) (n:=256) (by omega) (by decide);omega
theorem JF{w:dh}(hw:Wq w)(e:dQ):(gE w e).1.parts.length=w.parts.length:=by
  unfold Kx.gE;cases e.Rq==1
  case true =>
    show(tick w).parts.length=_
    unfold Kx.tick;split
    · have key:∀(l:List bh) (k:Nat) (t:dh),(foldI (fun k t (_:bh)=>gF w.parts.length k t) k t l).parts.length=t.parts.length:=by
        intro l
        induction l with
        | nil=>intro k t;rfl
        | cons y l ih =>
          intro k t;unfold foldI;rw[ih]
          show((dy t (k:Int)).parts.set k _).length=_
          rw[List.length_set];exact(yB t _).2.1
      exact key _ _ _
    · rfl
  cases e.Rq==2
  case true =>
    show(ga w e.Rn e.dS e.call).1.parts.length=_
    rcases Hq hw e.Rn e.dS e.call with q|⟨q,z,_,_,e2⟩
    · rw[q]
    · rw[e2];exact List.length_set
  cases e.Rq==3
  case false=>rfl
  show(mh w e).parts.length=_
  rcases y6 w e with q|⟨_,_,_,q⟩
  · rw[q]
  · rw[q];exact List.length_set
theorem Jo{N:Nat}(hN:df<=N){b:List U8}{i h:Int}(hb:b.length<=1048576)(hi:0<=i):WD (nL N ⟨b,i,h⟩) (fun r=>0<=r.2.i/\r.1.length<=4/\∀x,x∈r.1->eM x<=2000):=by
  unfold nL;dsimp only;refine WD.bind (EL hN hb hi) fun l ⟨l1,l2,l3,l4⟩=>WD.bind (g8 hb l1 16 (by decide)) fun k ⟨k1,_,_⟩=>?_;have l5:∀x,x∈l.1->eM x<=1000:=fun x hx=>(l4 x hx).sz
  have l6:∀(z:dK),eM z<=2000->∀x,x∈l.1.set (0:Int).toNat z->eM x<=2000:=fun z hz x hx=>by
    rcases List.mem_or_eq_of_mem_set hx with q|rfl
    · exact Nat.le_trans (l5 x q) (by decide)
    · exact hz
  have l7:∀(z:dK),(l.1.set (0:Int).toNat z).length<=4:=fun z=>by rw[List.length_set];omega
  refine WD.ite (fun _=>WD.ret ⟨k1,by simp,by simp⟩) fun _=>WD.ite (fun _=>?_) fun _=>WD.ite (fun _=>?_) fun _=>WD.ite (fun _=>?_) fun _=>WD.ite (fun _=>?_) fun _=>WD.ret ⟨k1,by dsimp only;omega,fun x hx=>Nat.le_trans (l5 x hx) (by decide)⟩
  · refine WD.bind (WD.loop (fun s=>0<=s.2.1/\s.1.length<=4/\∀x,x∈s.1->eM x<=2000) (fun r=>0<=r.2.1/\r.1.length<=4/\∀x,x∈r.1->eM x<=2000) (fun s=>4-s.1.length) ⟨k1,by dsimp only;omega,fun x hx=>Nat.le_trans (l5 x hx) (by decide)⟩ (z0 hN (by dsimp only;omega)) ?_) fun r hr=>WD.ret ⟨hr.1,hr.2.1,hr.2.2⟩;rintro⟨s,i,h⟩ ⟨s1,s2,s3⟩;dsimp only at *;refine WD.ite (fun c=>?_) fun _=>WD.inr ⟨s1,s2,s3⟩;have c:=of_decide_eq_true c;refine WD.bind (HQ hN hb s1) fun q ⟨q1,q2,q3,_⟩=>WD.step (xM (by omega)) (WD.inl ⟨q1,by simp only[List.length_append,List.length_cons,List.length_nil];omega,fun x hx=>?_⟩ (by simp only[List.length_append,List.length_cons,List.length_nil];omega))
    rcases List.mem_append.1 hx with q|q
    · exact s3 x q
    · rw[List.mem_singleton]at q;rw[q];exact Nat.le_trans q3 (by decide)
  · refine WD.bind (Gp hN hb k1) fun u ⟨u1,u2⟩=>WD.bind (mX (by decide) (by omega)) fun z hz=>WD.ret ⟨u1,l7 _,l6 _ ?_⟩;have:=l5 z hz;unfold eM iN at *;dsimp only at *;omega
  · refine WD.bind (Kj hb k1) fun u u1=>WD.bind (mX (by decide) (by omega)) fun z hz=>WD.step rfl (WD.ret ⟨u1,l7 _,l6 _ ?_⟩);have:=l5 z hz;unfold eM iN at *;dsimp only at *;omega
  · refine WD.bind (Pc hN hb k1) fun u ⟨u1,u2⟩=>WD.bind (mX (by decide) (by omega)) fun z hz=>WD.ret ⟨u1,l7 _,l6 _ ?_⟩;have:=l5 z hz;unfold eM iN at *;dsimp only at *;omega
theorem LQ{N:Nat}(hN:df<=N){b:List U8}{i h:Int}(hb:b.length<=1048576)(hi:0<=i){w:dh}(hw:Wq w)(hA:∀q,q∈w.parts->q.py.ag.length<=1000000)(hn:0<w.parts.length):WD (pI N ⟨b,i,h⟩ w) (fun r=>0<=r.2.i):=by
  unfold pI;dsimp only;refine WD.bind (g8 hb hi _ (by omega)) fun p ⟨p1,p2,p3⟩=>WD.bind (g8 hb p1 10 (by decide)) fun k ⟨k1,_,_⟩=>WD.ite (fun _=>WD.ret k1) fun _=>?_;refine WD.bind (P:=fun(j:Bool×Int×Int)=>0<=j.2.1) (WD.ite (fun _=>WD.bind (mI hb k1 2) fun y y1=>WD.ret y1) fun _=>WD.ret k1) fun j j1=>WD.ite (fun _=>WD.bind (g8 hb j1 10 (by decide)) fun y ⟨y1,_,_⟩=>WD.ret y1) fun _=>?_;refine WD.bind (mX p2 p3) fun q hq=>WD.bind (Nn hN hb j1 (hA q hq) _) fun x x1=>WD.bind (g8 hb x1 _ (by omega)) fun z ⟨z1,z2,z3⟩=>?_;refine WD.bind (P:=fun(j:Bool×Int×Int)=>0<=j.2.1) (WD.ite (fun _=>WD.bind (mI hb z1 2) fun y y1=>WD.ret y1) fun _=>WD.ret z1) fun j j1=>?_;refine WD.bind (P:=fun(j:Int×Int×Int)=>0<=j.1) (WD.ite (fun _=>WD.bind (mX z2 z3) fun u hu=>WD.bind (Jh hN hb j1 (hA u hu) _ _) fun v v1=>WD.ret v1) fun _=>WD.ret j1) fun j j1=>?_;refine WD.bind (P:=fun(j:Int×Int×Int)=>0<=j.1) (WD.ite (fun _=>WD.bind (mX z2 z3) fun u hu=>WD.bind (Jh hN hb j1 (hA u hu) _ _) fun v v1=>WD.ret v1) fun _=>WD.ret j1) fun j j1=>?_;refine WD.bind (mI hb j1 4) fun y y1=>WD.bind (P:=fun(j:Int×Int×Int)=>0<=j.2.1) (WD.ite (fun _=>WD.step (wc hN (fq hw.lA hq) (hw.w q hq) _) (WD.ite (fun c=>?_) fun _=>WD.ret y1)) fun _=>WD.ret y1) fun j j1=>WD.ret j1;have c:=of_decide_eq_true c;exact WD.bind (g8 hb y1 _ c) fun u ⟨u1,u2,u3⟩=>WD.bind (mX u2 u3) fun v _=>WD.ret u1
theorem Io{N:Nat}(hN:df<=N){b:List U8}{i h:Int}(hb:b.length<=1048576)(hi:0<=i){l:List dK}(hl:eE eM l<=1048576){m:Int}(m0:0<=m)(m9:m<=80):WD (nC N ⟨b,i,h⟩ l m) (fun r=>0<=r.2.i/\r.1.length<=80):=by
  unfold nC;dsimp only;refine WD.step (AG hN hl) (WD.ite (fun _=>WD.ret ⟨hi,by simp⟩) fun c=>?_)
  have c:((fg l).parts.length:Int) ≠ 0:=by simpa using c
  have hok:fW l=true:=by
    cases q:fW l
    · exfalso
      unfold fg at c;rw[q]at c;exact c rfl
    · rfl
  rw[dB (n:=m+1) (by omega) (by omega)];refine WD.bind (g8 hb hi _ (by omega)) fun k ⟨k1,k2,k3⟩=>?_;refine WD.bind (WD.loop (fun s=>0<=s.2.1/\(s.1.length:Int)+s.2.1=k.1/\0<=s.2.2.1/\(∃r,Pl 200 s.1.length (dh.mk s.2.2.2.2.1 s.2.2.2.2.2,r))/\0<s.2.2.2.2.2.length) (fun r=>r.1.length<=80/\0<=r.2.2.1) (fun s=>s.2.1.toNat) ⟨k2,by simp,k1,⟨[],KQ hok⟩,by dsimp only;omega⟩ (z0 hN (by dsimp only;omega)) ?_) fun r hr=>WD.ret ⟨hr.2,hr.1⟩;rintro⟨s,n,i,h,now,ps⟩ ⟨s1,s2,s3,⟨r,s4⟩,s5⟩;dsimp only at *;refine WD.ite (fun c=>?_) fun c=>WD.inr ⟨by dsimp only;omega,s3⟩;have c:=of_decide_eq_true c;have ht:=s4.t (by omega)
  have hA:∀q,q∈ps->q.py.ag.length<=1000000:=fun q hq=>by
    have h1:=(s4.sg.sz q hq).1;unfold dC mu eE at h1;omega
  refine WD.bind (LQ hN hb s3 ht.q hA s5) fun e e1=>WD.step (Ly hN ht e.1) (WD.step (xM (by omega)) ?_);rw[dB (n:=n-1) (by omega) (by omega)];have pn:=s4.step (by decide) (by omega) e.1;refine WD.inl ⟨by dsimp only;omega,by simp only[List.length_append,List.length_cons,List.length_nil];omega,e1,⟨r++[(gE (dh.mk now ps) e.1).2],?_⟩,?_⟩ (by dsimp only;omega)
  · rw[show(s++[e.1]).length=s.length+1 from by simp];exact pn
  · show 0<(gE _ e.1).1.parts.length
    rw[JF ht.q];exact s5
theorem OH{N:Nat}(hN:df<=N){b:List U8}{i h:Int}(hb:b.length<=1048576)(hi:0<=i){m:Int}(m0:0<=m)(m9:m<=80):WD (tD N ⟨b,i,h⟩ m) (fun r=>0<=r.2.2.i/\eE eM r.1<=1048576/\r.2.1.length<=201):=by
  unfold tD;dsimp only;refine WD.bind (EL hN hb hi) fun l ⟨l1,l2,l3,l4⟩=>WD.bind (mI hb l1 20) fun y y1=>?_;refine WD.bind (P:=fun(j:(List dK)×Int×Int)=>0<=j.2.1/\eE eM j.1<=1048576) (WD.ite (fun _=>WD.bind (Jo hN hb y1) fun z ⟨z1,z2,z3⟩=>WD.ret ⟨z1,?_⟩) fun _=>WD.ret ⟨y1,?_⟩) fun j ⟨j1,j2⟩=>?_
  · have:=tP (f:=eM) (c:=2000) z3;unfold eE;dsimp only at *;omega
  · have:=tP (f:=eM) (c:=1000) fun y hy=>(l4 y hy).sz;unfold eE;dsimp only at *;omega
  refine WD.bind (Io hN hb j1 j2 m0 m9) fun e ⟨e1,e2⟩=>WD.bind (g8 hb e1 20 (by decide)) fun k ⟨k1,_,_⟩=>WD.ite (fun _=>?_) fun _=>WD.ite (fun _=>?_) fun _=>WD.ret ⟨k1,j2,by dsimp only;omega⟩
  · refine WD.bind (zp hb k1 (by decide)) fun u ⟨u1,_⟩=>WD.step (a:=e.1++[dQ.mk u.1 1 0 (dD.mk 0 0 0 0 0 0),dQ.mk 2 3 0 (dD.mk 0 0 0 0 0 0),dQ.mk 3 (-1) 0 (dD.mk 0 0 0 0 0 0),dQ.mk 3 0 10 (dD.mk 0 0 0 0 0 0)]) ?_ (WD.ret ⟨u1,j2,by simp only[List.length_append,List.length_cons,List.length_nil];omega⟩);have:(16777216:Nat)=df:=rfl;unfold app;rw[if_pos (by simp only[List.length_cons,List.length_nil];omega)]
  · refine WD.bind (WD.loop (fun s=>0<=s.2.1/\s.1.length<=201) (fun r=>0<=r.2.1/\r.1.length<=201) (fun s=>201-s.1.length) ⟨k1,by dsimp only;omega⟩ (z0 hN (by dsimp only;omega)) ?_) fun r hr=>WD.ret ⟨hr.1,j2,hr.2⟩;rintro⟨s,i,h⟩ ⟨s1,s2⟩;dsimp only at *;refine WD.bind (g8 hb s1 2 (by decide)) fun u ⟨u1,u2,u3⟩=>?_;rw[dB (n:=200+u.1) (by omega) (by omega)];refine WD.ite (fun c=>?_) fun _=>WD.inr ⟨u1,s2⟩;have c:=of_decide_eq_true c;exact WD.step (xM (by omega)) (WD.inl ⟨u1,by simp only[List.length_append,List.length_cons,List.length_nil];omega⟩ (by simp only[List.length_append,List.length_cons,List.length_nil];omega))
theorem GR{N:Nat}(hN:df<=N){l:List U8}(hl:l.length<=1048576):WD (pP N l) (fun r=>eE eM r.1<=1048576/\r.2.length<=201):=by
  unfold pP;refine WD.bind (PM hN hl) fun c c1=>WD.bind (P:=fun r=>0<=r/\r<=60) ?_ fun k ⟨k0,k9⟩=>?_
  · unfold u9;have e:Int.tdiv (l.length:Int) 20=(l.length:Int) / 20:=Int.tdiv_eq_ediv_of_nonneg (by omega);rw[e,dB (n:=(l.length:Int) / 20) (by omega) (by omega),dB (by omega) (by omega)];exact WD.ite (fun _=>WD.ret (by decide)) fun c=>WD.ret (by have:=of_decide_eq_false c;omega)
  · rw[dB (n:=20+k) (by omega) (by omega)];exact WD.bind (OH hN hl c1 (by omega) (by omega)) fun r ⟨_,r2,r3⟩=>WD.ret ⟨r2,r3⟩
theorem Dm{N:Nat}(hN:df<=N){a b:List dt}(ha:a.length<df):lC N a b=some (decide (a=b)):=xd a b (fun y z=>!decide (y=z)) (fun _ _=>rfl) ha hN
def tC(y:dK):dK:=dK.mk y.Rp [] y.eV
theorem CB:∀(l:List dK) (a:de),kC a l=true->kC a (l.map tC)=true
  | [],_,_=>rfl
  | x::l,a,h=>by
    unfold kC at h;simp only[RP]at h
    show((fH a x.eV).2&&(eT x.Rp&&(ia []&&kC (fH a x.eV).1 (l.map tC))))=true
    rw[h.1,h.2.1,CB l _ h.2.2.2];decide
theorem GK{b:List dK}(h:fW b=true):fW (b.map tC)=true:=by
  unfold fW at *;rw[RP]at h;rw[CB b _ h.1,List.length_map,h.2];rfl
theorem CQ{α β:Type}(f:α->β):∀(l:List α) (k:Nat),jo (fun _ _=>true) (fun _ y=>f y) k l=l.map f
  | [],_=>rfl
  | y::l,k=>by
    unfold jo;rw[CQ f l];rfl
theorem Ls{b:List dK}:∀(l:List dQ) (k:Nat) (w:dh),k+l.length<=200->Iv k w->Nw w->Lb b w->Lb b (nf w l)
  | [],_,_,_,_,_,lb=>lb
  | e::l,k,w,hl,iw,nw,lb=>by
    simp only[List.length_cons]at hl;exact Ls l (k+1) _ (by omega) (iw.step (by omega) e) (nw.gE iw (by omega) e) (lb.gE nw iw (by omega) e)
theorem Jn{l:dV}(h:eT l=true):fT l l=true:=by
  unfold fT lK;rw[h,show ia []=true by decide,RO,RO,RO,iV];intro i y hy;rw[Nat.zero_add,hy];simp
theorem KR{b:List dK}{l:List dQ}(h:fW b=true)(ho:∀y,y∈b->y.own=[])(hl:l.length<=200){z:dK}(hz:z∈b):k6 (kD b l).1 z.Rp ≠ []:=by
  rw[BW h hl];have lb:=Ls l 0 _ (by omega) (KE h) (Lq h ho) (KI h)
  have hk:eT z.Rp=true:=by
    have h':=h;unfold fW at h';rw[RP]at h';have:=sn b _ h'.1 _ hz;unfold sE at this;simp only[RP]at this;exact this.2.1
  have h3:b.length<=3:=by
    unfold fW at h;rw[RP,dI]at h;omega
  show((nf (fg b) l).parts.take 3).filter _ ≠ []
  obtain⟨k,hk1,e⟩:=List.getElem_of_mem hz;have hl1:=lb.len;have q:=lb.tK (k:Int) (by omega) (by omega);rw[Int.toNat_natCast,List.getElem?_eq_getElem hk1,Option.getD_some,e]at q;have hm:=gg (l:=(nf (fg b) l).parts) (i:=(k:Int)) (by omega) (by omega);intro c;rw[List.take_of_length_le (by omega),List.filter_eq_nil_iff]at c;exact c _ hm (by rw[q];exact Jn hk)
theorem Iy{x:List U8}(hx:Fit.fit x):∃N,pV N x=some true:=by
  obtain⟨N,hN1⟩:∃N,df+1<=N:=⟨df+1,Nat.le_refl _⟩;have hN:df<=N:=Nat.le_of_succ_le hN1
  suffices h:WD (pV N x) (fun r=>r=true) by
    obtain⟨_,e,rfl⟩:=h;exact⟨N,e⟩
  unfold pV zt;refine WD.step rfl (WD.ite (fun _=>WD.ret rfl) fun c=>?_)
  have hl:x.length<=1048576:=by have:=of_decide_eq_false c;omega
  refine WD.bind (GR hN hl) fun d ⟨d1,d2⟩=>?_;obtain⟨b,l⟩:=d;dsimp only at *;have hB:(16777216:Nat)=df:=rfl
  have hb:eE eM b<df:=by omega
  refine WD.bind (P:=fun j=>j=false->fW b=true/\l.length<=200) (WD.step (Ao hN hb) (WD.ite (fun c=>WD.ret (by simp)) fun c=>WD.ret fun q=>⟨by simpa using c,by have:=of_decide_eq_false q;omega⟩)) fun j hj=>WD.ite (fun _=>WD.ret rfl) fun cj=>?_;obtain⟨ok0,hl2⟩:=hj cj;have hbl:=gj hb;refine WD.bind (P:=fun o=>o.1=b.map tC) ⟨(b.map tC,(b.length:Int)),?_,rfl⟩ fun o ho=>?_
  · rw[jq b (fun _ _=>true) (fun _ y=>tC y) hbl hN,CQ]
    · intro k t y hy hk ht;simp only[ei hk,RM,dM,hy,RK,eB (Nat.lt_trans hk hbl),fZ ht (Nat.lt_of_le_of_lt hk hbl),if_true];rfl
    · intro t;simp only[ep,RL]
  obtain⟨c,o2⟩:=o;dsimp only at *;subst ho;have ok:=GK ok0
  have own:∀y,y∈b.map tC->y.own=[]:=fun y hy=>by
    obtain⟨z,_,rfl⟩:=List.mem_map.1 hy;rfl
  generalize b.map tC=c at *;have ok':=ok;unfold fW at ok';rw[RP,dI]at ok'
  have cz:eE eM c<=1048576:=by
    have:=tP (f:=eM) (c:=100) fun y hy=>Lm (sn c _ ok'.1 y hy);unfold eE;omega
  have cb:eE eM c<df:=by omega
  refine WD.bind (PW hx hl (by decide) (by decide)) fun y ⟨y1,y2⟩=>?_;refine WD.step (Ix (by omega)) ?_;obtain⟨t0,t1⟩:=xx (n:=(c.length:Int)) y1 (by omega);refine WD.bind (mX t0 t1) fun z hz=>?_
  have lz:z.Rp.Ro.length<df:=by
    have:=fq cb hz;unfold eM iN at this;omega
  refine WD.step (Nt hN cb (by omega) lz) (WD.step (Fh hN1 cb) (WD.step (Fh hN1 cb) ?_));have hp:=CM c l z.Rp;have z1:=(HD c l).1;have z2:=(HD c (tB c l z.Rp)).1;refine WD.step (zV hN (z1.lA (by decide)) lz) (WD.step (zV hN (z2.lA (by decide)) lz) ?_);obtain⟨e1,e2⟩:=Lr (x:=z.Rp) ok own hl2;have e3:=KR ok own hl2 hz;have e4:eE dC (k6 (kD c l).1 z.Rp)<df:=Nat.lt_of_le_of_lt (Ew _ _) (z1.lA (by decide));have e5:=xQ (x:=z.Rp) (l:=l) hN1 cb lz;have e6:=xQ (x:=z.Rp) (l:=tB c l z.Rp) hN1 cb lz;have e7:=Dv (x:=z.Rp) (l:=tB c l z.Rp) hN cz lz;rw[<- e2]at e6 e7;rw[<- e1];generalize k6 (kD c l).1 z.Rp=p at *;have pl:=(yf c l).2;have e8:(sO c l z.Rp (kD c l).2).length<df:=Nat.lt_of_le_of_lt (um _ _ _ _) (by omega);generalize sO c l z.Rp (kD c l).2=r at *;have hpl:=gj e4;refine WD.bind (P:=fun j=>j=false) (WD.ite (fun q=>by simp at q) fun _=>WD.ret ?_) fun j hj=>?_
  · cases p with
    | nil=>exact absurd rfl e3
    | cons y p=>simp;omega
  subst hj;rw[RL];refine WD.bind (WD.loop (fun s=>0<=s) (fun r=>∃n,r=Sum.inl n) (fun s=>((p.length:Int)-s).toNat) (by decide) (z0 hN (by omega)) ?_) fun q hq=>?_
  · intro s s0;refine WD.ite (fun c=>?_) fun _=>WD.inr ⟨_,rfl⟩;have c:=of_decide_eq_true c;refine WD.step (eK s0 c) (WD.step (eK s0 c) (WD.step (Jx hN (fq e4 (gg s0 c))) ?_));rw[dB (n:=s+1) (by omega) (by omega)];exact WD.ite (fun q=>by simp at q) fun _=>WD.inl (by omega) (by omega)
  obtain⟨n,rfl⟩:=hq;rw[Sum.elim_inl]
  have e9:lC N r r=some true:=by rw[Dm hN e8];simp
  exact WD.step e5 (WD.step e6 (WD.yes e9 (WD.step e5 (WD.step e7 (WD.step e9 (WD.ret rfl))))))
end Go.Kx
