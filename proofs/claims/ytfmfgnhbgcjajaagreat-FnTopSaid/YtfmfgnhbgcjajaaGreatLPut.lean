import Derived.Test.YtfmfgnhbgcjajaaGreatLSum
namespace Go.Kx
open Go
open Go.IntKind (i64)
set_option linter.unusedVariables false
set_option linter.unusedSimpArgs false
set_option maxRecDepth 10000
theorem vu{α:Type}{f:α->Nat}{c:Nat}:∀{l:List α},(∀y,y∈l->f y<=c)->mO f l<=c*l.length
  | [],_=>Nat.zero_le _
  | y::l,h=>by
    have h1:=h y (by simp);have h2:=vu (l:=l) fun z hz=>h z (by simp[hz]);simp only[mO,List.length_cons,Nat.mul_add];omega
theorem DY{α:Type}{f:α->Nat}{y:α}:∀{l:List α} {k:Nat},mO f (l.set k y)<=mO f l+f y
  | [],k=>by simp[mO]
  | z::l,0=>by simp only[List.set_cons_zero,mO];omega
  | z::l,k+1=>by
    have:=DY (f:=f) (y:=y) (l:=l) (k:=k);simp only[List.set_cons_succ,mO];omega
theorem w7{α:Type}{f:α->Nat}{y:α}{l:List α}{k:Nat}:eK f (l.set k y)<=eK f l+f y:=by
  have:=DY (f:=f) (y:=y) (l:=l) (k:=k);unfold eK;simp only[List.length_set];omega
theorem xm{o:c6}(h:eG o=true):dA o<=12:=by
  have hl:=(pF h).1;unfold eG at h;unfold dA;cases hk:o.so==0
  · simp only[hk,Rz,RD]at h;obtain⟨_,_,_,_,_,hp,hl2,_⟩:=h;unfold ji at hl2;simp only[RD,decide_eq_true_eq,beq_iff_eq]at hl2;obtain⟨_,_,_,_,hd,hq⟩:=hl2;rw[dM]at hp
    have:o.Ri.length<=8:=by
      cases h2:o.so==2
      · rw[h2]at hd;simp only[Rz]at hd;omega
      · rw[h2]at hd;simp only[RA]at hd;omega
    have:o.Rf.length<=2:=by
      cases h3:o.so==3
      · rw[h3]at hq;simp only[Rz]at hq;omega
      · rw[h3]at hq;simp only[RA]at hq;omega
    omega
  · simp only[hk,RA,RD,decide_eq_true_eq]at h;rw[h.2.2];simp[blank]
theorem Ar.sz{l:List c6}(h:Ar l):eK dA l<=130:=by
  have h1:=vu (f:=dA) (c:=12) fun y hy=>xm (h.ok y hy);have h2:=h.len;unfold eK;rw[h2]at h1⊢;omega
theorem iR{l:List c6}{k:Nat}{o:c6}(h:wA l)(ho:mG o):wA (l.set k o):=fun y hy=>by
  rcases List.mem_or_eq_of_mem_set hy with q|q
  · exact h y q
  · rw[q];exact ho
def gq(o:c6)(g:Int):c6:=c6.mk g o.so o.box o.Rt o.dX o.cd o.Rm o.ef o.ee o.mark o.dp o.Ri o.Rf
def putAt(l:List c6)(o:c6)(k:Nat)(x:c6):List c6×Int:=if gC (l.set k (gq o (i64.wrap (x.Rs+1))))&&(o.so != 0)then(l.set k (gq o (i64.wrap (x.Rs+1))),(k:Int))else(l, -1)
def qM(l:List c6)(o:c6):Nat->List c6->List c6×Int
  | _,[]=>(l, -1)
  | k,x::m=>if x.so != 0 || decide (x.Rs>=999)then qM l o (k+1) m else putAt l o k x
def hD(l:List c6)(o:c6):List c6×Int:=if gC l then qM l o 1 (l.drop 1)else(l, -1)
theorem AD{l:List c6}{o:c6}(h:(o.so != 0)=false):∀(m:List c6) (k:Nat),qM l o k m=(l, -1)
  | [],k=>rfl
  | x::m,k=>by
    unfold qM putAt;rw[h,AD h m];simp
theorem E3{ρ:Type}{body:Int->Option (Int⊕ρ)}(l:List c6)(p:c6->Bool)(g:Nat->c6->ρ)(r:ρ){N:Nat}(hN:l.length+1<N)(hl:1<=l.length)
    (hs:∀(k:Nat) (x:c6),l[k]?=some x->1<=k->k<l.length->body (k:Int)=some (if p x then .inl ((k+1:Nat):Int)else .inr (g k x))) (he:body (l.length:Int)=some (.inr r)) :
    iter body N 1=some (kf (fun k (_:Unit) x=>if p x then .inl ()else .inr (g (k+1) x)) (fun _=>r) 0 () (l.drop 1)):=by
  have hd:(l.drop 1).length+1=l.length:=by simp;omega
  rw[show(1:Int)=(fun(k:Nat) (_:Unit)=>((k+1:Nat):Int)) 0 () from rfl,
    kJ (l.drop 1) (fun(k:Nat) (_:Unit)=>((k+1:Nat):Int)) (fun k _ x=>if p x then .inl ()else .inr (g (k+1) x)) (fun _=>r) (fun _ _=>True) ?_ ?_ (by omega) trivial]
  · intro k _ x hx hk _
    have hx:l[k+1]?=some x:=by rw[<- hx,List.getElem?_drop,Nat.add_comm]
    refine⟨?_,fun _ _=>trivial⟩
    show body ((k+1:Nat):Int)=_
    rw[hs (k+1) x hx (by omega) (by omega)];cases p x<;>rfl
  · intro _ _;simp only[hd];exact he
theorem BF{ρ:Type}(l:List c6)(o:c6)(r:ρ)(c:ρ->Option (List c6×Int))(g:Nat->c6->ρ)(hr:c r=some (l, -1))(hg:∀k x,c (g k x)=some (putAt l o k x)):∀(m:List c6) (k:Nat),
    c (kf (fun k (_:Unit) x=>if x.so != 0 || decide (x.Rs>=999)then .inl ()else .inr (g (k+1) x)) (fun _=>r) k () m)=some (qM l o (k+1) m)
  | [],k=>hr
  | x::m,k=>by
    unfold kf qM;cases h:(x.so != 0 || decide (x.Rs>=999))
    · simp only[Bool.false_eq_true,if_false];exact hg _ _
    · simp only[if_true];exact BF l o r c g hr hg m (k+1)
theorem Cr(o:c6)(g:Int):dA (gq o g)=dA o:=rfl
theorem z8{o:c6}{g:Int}(h:mG o):mG (gq o g):=h
theorem Mq{l:List c6}(h:Ar l){o:c6}(ho:dA o<=100000)(k:Nat):eK dA (l.set k o)<dh:=by
  have h1:=h.sz;have h2:=w7 (f:=dA) (y:=o) (l:=l) (k:=k);have:(16777216:Nat)=dh:=rfl;omega
theorem Bh{N:Nat}(hN:dh+1<=N){l:List c6}(hb:eK dA l<dh){o:c6}(ho:dA o<=100000):nR N l o=some (hD l o):=by
  have hN':dh<=N:=Nat.le_of_succ_le hN;have hB:(16777216:Nat)=dh:=rfl
  have hoB:dA o<dh:=by omega
  unfold nR hD;simp only[uj hN' hb,uM hN' hb,Ry,gW];cases ha:gC l
  · rfl
  have h:=fO.1 ha;have hl:=h.len;simp only[RB,Bool.false_or,if_true];cases hk:(o.so != 0)
  · rw[AD hk]
    have:(o.so==0)=true:=by simpa[bne]using hk
    rw[this];rfl
  · have hk0:(o.so==0)=false:=by simpa[bne]using hk
    simp only[hk0,Rz];obtain⟨M,rfl⟩:∃M,N=M+1:=⟨N-1,by omega⟩;have hd:∀k:Nat,k<l.length->decide ((k:Int)<(l.length:Int))=true:=fun k hk=>ey hk;have h0:decide ((0:Int)<(l.length:Int))=true:=hd 0 (by omega);unfold iter;simp only[h0,RA,(h.at (i:=0) (by omega) (by omega)).1,Ry,beq_self_eq_true,Bool.true_or,show i64.wrap (0+1)=1 from by decide];rw[E3 l (fun x=>x.so != 0 || decide (x.Rs>=999)) (fun k x=>if gC (l.set k (gq o (i64.wrap (x.Rs+1))))then Sum.inr (l.set k (gq o (i64.wrap (x.Rs+1))),(k:Int))else Sum.inr (l, -1)) (Sum.inl (l.length:Int)) (by omega) (by omega)]
    · simp only[Ry]
      exact BF l o (Sum.inl (l.length:Int)) (fun o73=>Sum.elim (fun o73=>some (l, -1)) (fun r76=>some r76) o73) (fun k x=>if gC (l.set k (gq o (i64.wrap (x.Rs+1))))then Sum.inr (l.set k (gq o (i64.wrap (x.Rs+1))),(k:Int))else Sum.inr (l, -1)) rfl (fun k x=>by
        unfold putAt;rw[hk]
        cases gC (l.set k (gq o (i64.wrap (x.Rs+1))))<;>rfl) _ 0
    · intro k x hx hk1 hkl
      have hne:((k:Int)==0)=false:=by simp;omega
      have e1:idx (l.set k o) (k:Int)=some o:=Hs hkl;simp only[hd k hkl,RA,dN,hx,Ry,hne,Rz,gW,eD (show k<dh by omega),uj hN' hb,CC hoB,Int.toNat_natCast,List.getElem?_set_self hkl,List.set_set];rw[show c6.mk (i64.wrap (x.Rs+1)) o.so o.box o.Rt o.dX o.cd o.Rm o.ef o.ee o.mark o.dp o.Ri o.Rf=gq o (i64.wrap (x.Rs+1)) from rfl,uM hN' (Mq h (by rw[Cr];exact ho) k)];cases(x.so != 0 || decide (x.Rs>=999))
      · cases gC (l.set k (gq o (i64.wrap (x.Rs+1))))<;>rfl
      · rfl
    · simp only[er,Rz]
theorem A8{N:Nat}(hN:dh<=N){l:List c6}(hb:eK dA l<dh)(hw:wA l){o:c6}(ho:dA o<=100000)(hwo:mG o):nM N l o=some (hD l o):=by
  have hB:(16777216:Nat)=dh:=rfl
  have hoB:dA o<dh:=by omega
  unfold nM hD;simp only[Ai hN hb,qF hN hb hw,Ry];cases ha:gC l
  · rfl
  have h:=fO.1 ha;have hl:=h.len;simp only[RB,Rz,if_true];rw[E3 l (fun x=>x.so != 0 || decide (x.Rs>=999)) (fun k x=>Sum.inr (putAt l o k x)) (Sum.inl (l.length:Int)) (by omega) (by omega)]
  · simp only[Ry];exact BF l o (Sum.inl (l.length:Int)) (fun o84=>Sum.elim (fun o84=>some (l, -1)) (fun r87=>some r87) o84) (fun k x=>Sum.inr (putAt l o k x)) rfl (fun k x=>rfl) _ 0
  · intro k x hx hk1 hkl;simp only[ey hkl,RA,dN,hx,Ry,gW,eD (show k<dh by omega),HG hoB,Int.toNat_natCast];rw[show c6.mk (i64.wrap (x.Rs+1)) o.so o.box o.Rt o.dX o.cd o.Rm o.ef o.ee o.mark o.dp o.Ri o.Rf=gq o (i64.wrap (x.Rs+1)) from rfl,qF hN (Mq h (by rw[Cr];exact ho) k) (iR hw (z8 hwo))];simp only[Ry,gW];unfold putAt
    have hk:(o.so==0)=!(o.so != 0):=by simp[bne]
    rw[hk];cases(x.so != 0 || decide (x.Rs>=999))
    · cases gC (l.set k (gq o (i64.wrap (x.Rs+1))))<;>cases(o.so != 0)<;>rfl
    · rfl
  · simp only[er,Rz]
def marked(o:c6)(m:Bool):c6:=c6.mk o.Rs o.so o.box o.Rt o.dX o.cd o.Rm o.ef o.ee m o.dp o.Ri o.Rf
def jS(h:df)(i:Int):df:=if fR h&&(dy i 0 9&&((nth h.ag i).so != 0))then df.mk (h.ag.set i.toNat (marked (nth h.ag i) ((h.gc.Rg==0) || decide (i>=h.gc.Rp)))) h.gc else h
theorem Fm{N:Nat}(hN:dh<=N){h:df}(h1:eK dA h.ag<dh)(h2:h.gc.da.length<dh)(i:Int):qX N h i=some (jS h i):=by
  unfold qX jS;simp only[vg hN h1 h2,vU hN h1 h2,sr,Ry];cases q:fR h
  · rfl
  cases hi:dy i 0 9
  · rfl
  have hr:=dM.1 hi;simp only[RA,((kl q).at hr.1 hr.2).1,Ry,RC];cases(nth h.ag i).so != 0
  · rfl
  · cases h.gc.Rg==0<;>rfl
theorem DK{N:Nat}(hN:dh<=N){h:df}(h1:eK dA h.ag<dh)(h2:h.gc.da.length<dh)(hw:wA h.ag)(i:Int):qZ N h i=some (jS h i):=by
  unfold qZ jS;simp only[wg hN h1 h2,vZ hN h1 h2 hw,qc,Ry,bne];cases q:fR h
  · rfl
  cases hi:dy i 0 9
  · rfl
  have hr:=dM.1 hi;simp only[RB,Rz,((kl q).at hr.1 hr.2).1,Ry,RC];cases(nth h.ag i).so==0
  · cases h.gc.Rg==0<;>rfl
  · rfl
def better(p:bh)(v i:Int):Int:=if decide ((sn p i).du<=(sn p v).du)then i else v
def lQ(p:bh)(now:Int):Int:=match threads p now with
  | a::b::l=>(b::l).foldl (better p) a
  | _=>-1
theorem AL{p:bh}{m:List Int}:∀(l:List Int) (v:Int),v∈m->(∀y,y∈l->y∈m)->l.foldl (better p) v∈m
  | [],v,hv,_=>hv
  | y::l,v,hv,h=>by
    rw[List.foldl_cons];refine AL l _ ?_ fun z hz=>h z (by simp[hz]);unfold better;split
    · exact h y (by simp)
    · exact hv
theorem qR{p:bh}{now:Int}(h:decide (lQ p now>=0)=true):lQ p now∈threads p now:=by
  unfold lQ at h⊢
  cases ht:threads p now with
  | nil=>rw[ht]at h;simp at h
  | cons a l=>cases l with
    | nil=>rw[ht]at h;simp at h
    | cons b l=>exact AL (b::l) a (by simp) fun y hy=>by simp at hy⊢;exact .inr hy
theorem N5{N:Nat}(hN:dh<=N){p:bh}{l:List Int}(hl:l.length<dh){body:Int×Int->Option ((Int×Int)⊕(Int×Int))}(hm:∀y,y∈l->y∈l){v0:Int}(I:Int->Prop)(h0:I v0)
    (hs:∀(k:Nat) (v y:Int),l[k]?=some y->k<l.length->I v->body (v,(k:Int))=some (.inl (better p v y,((k+1:Nat):Int)))/\I (better p v y)) (he:∀v,body (v,(l.length:Int))=some (.inr (v,(l.length:Int)))) :
    iter body N (v0,0)=some (l.foldl (better p) v0,(l.length:Int)):=by
  rw[show(v0,(0:Int))=(fun(k:Nat) (v:Int)=>(v,(k:Int))) 0 v0 from rfl,
    gy l (fun(k:Nat) (v:Int)=>(v,(k:Int))) (fun _ v y=>better p v y) (fun v=>(v,(l.length:Int))) (fun _ v=>I v) (fun k v y hy hk hI=>hs k v y hy hk hI) (fun v _=>he v) (Nat.lt_of_lt_of_le hl hN) h0,ir]
theorem qS{p:bh}{now y:Int}(h:y∈threads p now):dI p=true/\0<=y/\y<=9:=ll h
theorem Mo{N:Nat}(hN:dh<=N){p:bh}(hb:dG p<dh)(now:Int):tw N p now=some (lQ p now):=by
  have hl:=pw p now;unfold tw lQ;rw[yw hN hb,Ry]
  cases ht:threads p now with
  | nil=>rfl
  | cons a l=>cases l with
    | nil=>rfl
    | cons b l =>
      have hm:∀y,y∈a::b::l->dI p=true/\0<=y/\y<=9:=fun y hy=>qS (by rw[ht];exact hy);rw[ht]at hl;rw[show decide ((((a::b::l).length:Nat):Int)<2)=false by simp;omega,show idx (a::b::l) 0=some a from rfl];simp only[Rz,Ry];rw[N5 hN (p:=p) (l:=a::b::l) hl (fun _ h=>h) (fun v=>dI p=true/\0<=v/\v<=9) (hm a (by simp))]
      · have e:better p a a=a:=by unfold better;split<;>rfl
        rw[Ry,List.foldl_cons,e]
      · intro k v y hy hk hI;obtain⟨hp,y0,y9⟩:=hm y (List.mem_of_getElem? hy);refine⟨?_,?_⟩
        · simp only[ey hk,RA,dN,hy,Ry,zk hN hp y0 y9,zk hN hp hI.2.1 hI.2.2,eD (Nat.lt_trans hk hl)];unfold better;cases decide ((sn p y).du<=(sn p v).du)<;>rfl
        · unfold better;split
          · exact⟨hp,y0,y9⟩
          · exact hI
      · intro v;simp only[er,Rz]
theorem Mm{N:Nat}(hN:dh<=N){p:bh}(hb:dG p<dh)(hw:wP p)(now:Int):tb N p now=some (lQ p now):=by
  have hl:=pw p now;have hB:(16777216:Nat)=dh:=rfl;unfold tb lQ;rw[wi hN hb hw,Ry]
  cases ht:threads p now with
  | nil=>rfl
  | cons a l=>cases l with
    | nil=>rfl
    | cons b l =>
      have hm:∀y,y∈a::b::l->dI p=true/\0<=y/\y<=9:=fun y hy=>qS (by rw[ht];exact hy);rw[ht]at hl;rw[show decide ((((a::b::l).length:Nat):Int)<2)=false by simp;omega];simp only[Rz];obtain⟨hpa,a0,a9⟩:=hm a (by simp)
      have step:∀(k:Nat) (v y:Int),(a::b::l)[k]?=some y->k<(a::b::l).length->(v=-1\/0<=v/\v<=9) ->
          (bif(decide ((k:Int)<(((a::b::l).length:Nat):Int)))then((bif(decide (v<0))then(some true)else((idx (a::b::l) (k:Int)).bind fun y14=>(idx p.heap.ag y14).bind fun y27=>(idx p.heap.ag v).bind fun y45=>(kK N p y27.Rt).bind fun y63=>(idx p.Re y63).bind fun y65=>(kK N p y45.Rt).bind fun y74=>(idx p.Re y74).bind fun y76=>some (decide (y65.dQ.du<=y76.dQ.du))):Option Bool).bind fun j11=>bif j11 then((idx (a::b::l) (k:Int)).bind fun y87=>some (.inl (y87,i64.wrap ((k:Int)+1))))else(some (.inl (v,i64.wrap ((k:Int)+1)))))else(some (.inr (v,(k:Int)))):Option ((Int×Int)⊕(Int×Int))) =
          some (.inl (if decide (v<0)then y else better p v y,((k+1:Nat):Int))):=by
        intro k v y hy hk hv;obtain⟨hp,y0,y9⟩:=hm y (List.mem_of_getElem? hy);simp only[ey hk,RA,dN,hy,Ry,eD (Nat.lt_trans hk hl)];cases hd:decide (v<0)
        · have hv:0<=v/\v<=9:=by simp at hd;omega
          obtain⟨r0,r4⟩:=sD p (nth p.heap.ag y).Rt;obtain⟨q0,q4⟩:=sD p (nth p.heap.ag v).Rt;simp only[Rz,((fe hp).at y0 y9).1,((fe hp).at hv.1 hv.2).1,xh hN,xf hp r0 r4,xf hp q0 q4,Ry,Bool.false_eq_true,if_false];unfold better;rw[show(nth p.Re (iw p (nth p.heap.ag y).Rt)).dQ.du=(sn p y).du from rfl,show(nth p.Re (iw p (nth p.heap.ag v).Rt)).dQ.du=(sn p v).du from rfl];cases decide ((sn p y).du<=(sn p v).du)<;>rfl
        · rfl
      rw[show((-1:Int),(0:Int))=(fun(k:Nat) (v:Int)=>(v,(k:Int))) 0 (-1) from rfl,
        gy (a::b::l) (fun(k:Nat) (v:Int)=>(v,(k:Int))) (fun _ v y=>if decide (v<0)then y else better p v y) (fun v=>(v,(((a::b::l).length:Nat):Int))) (fun _ v=>v=-1\/0<=v/\v<=9) ?_ ?_ (by omega) (.inl rfl),ir]
      · simp only[Ry];congr 1
        have key:∀(m:List Int) (v:Int),0<=v->(∀y,y∈m->0<=y)->m.foldl (fun v y=>if decide (v<0)then y else better p v y) v=m.foldl (better p) v:=by
          intro m
          induction m with
          | nil=>intro v _ _;rfl
          | cons y m ih =>
            intro v hv hy
            have hd:decide (v<0)=false:=by simp;omega
            simp only[List.foldl_cons,hd,Bool.false_eq_true,if_false];refine ih _ ?_ fun z hz=>hy z (by simp[hz]);unfold better;split
            · exact hy y (by simp)
            · exact hv
        rw[List.foldl_cons];exact key (b::l) a a0 fun y hy=>(hm y (by simp at hy⊢;exact .inr hy)).2.1
      · intro k v y hy hk hI;refine⟨step k v y hy hk hI,.inr ?_⟩;obtain⟨hp,y0,y9⟩:=hm y (List.mem_of_getElem? hy);split
        · exact⟨y0,y9⟩
        · rename_i hd;unfold better;split
          · exact⟨y0,y9⟩
          · simp at hd;omega
      · intro v _;simp only[er,Rz]
def jz(p:bh)(l:List c6):bh:=bh.mk p.Rd p.own p.Re (df.mk l p.heap.gc) p.dc p.Ro p.Rn p.db p.dx p.Rk
def kP(o:c6)(t:Int):c6:=c6.mk o.Rs o.so o.box o.Rt t o.cd o.Rm o.ef o.ee o.mark o.dp o.Ri o.Rf
def nW(p:bh)(now:Int):List c6:=if decide (lQ p now>=0)then p.heap.ag.set (lQ p now).toNat (kP (nth p.heap.ag (lQ p now)) (i64.wrap (now-1)))else p.heap.ag
def fP(p:bh)(now:Int):bh:=if dI p&&(dy now 1 1000000&&!decide (p.dx<3))then bh.mk p.Rd p.own p.Re (df.mk (nW p now) p.heap.gc) p.dc p.Ro p.Rn p.db 0 p.Rk else p
theorem H8{N:Nat}(hN:dh<=N){p:bh}(hb:dG p<dh)(now:Int):qz N p now=some (fP p now):=by
  unfold qz fP nW;simp only[oH hN hb,sA hN hb,ko,Mo hN hb,Ry,gW];cases hp:dI p
  · rfl
  cases dy now 1 1000000
  · rfl
  cases decide (p.dx<3)
  · cases hv:decide (lQ p now>=0)
    · rfl
    · obtain⟨_,v0,v9⟩:=ll (qR hv);simp only[RB,Bool.or_self,Rz,RA,((fe hp).at v0 v9).1,Ry,if_true];rfl
  · rfl
theorem I6{N:Nat}(hN:dh<=N){p:bh}(hb:dG p<dh)(hw:wP p)(now:Int):qm N p now=some (fP p now):=by
  unfold qm fP nW;simp only[qG hN hb,ss hN hb hw,jV,Mm hN hb hw,Ry,gW];cases hp:dI p
  · rfl
  cases dy now 1 1000000
  · rfl
  cases decide (p.dx<3)
  · cases hv:decide (lQ p now>=0)
    · rfl
    · obtain⟨_,v0,v9⟩:=ll (qR hv);simp only[RB,Bool.or_self,Rz,RA,((fe hp).at v0 v9).1,Ry,if_true];rfl
  · rfl
def xN(l:List c6)(now part h:Int):Bool:=(gC l&&(lC h&&(lZ h==part)))&&(((nth l (lW h)).so != 0)&&(((nth l (lW h)).Rs==zY h)&&nth (reach l now) (lW h)))
def dt(l:List c6)(now part h:Int):Int:=bif xN l now part h then lW h else -1
theorem Ae{h:Int}(q:lC h=true):0<=lW h/\lW h<=9:=(KZ (h:=h) (by unfold lZ;rw[q,if_pos rfl];rw[zd]at q;omega)).2
theorem vj{N:Nat}(hN:dh<=N){l:List c6}(hb:eK dA l<dh)(now part h:Int):ly N l now part h=some (dt l now part h):=by
  unfold ly dt xN;simp only[BR hN hb,oE,wc,Dz,Gi,Ry,gW];cases ha:gC l
  · have e:reach l now=[]:=by unfold reach;rw[ha];rfl
    rw[e];rfl
  have har:=fO.1 ha;have hl:=mf har now;rw[show(((reach l now).length:Int)==0)=false by rw[hl];rfl,show dy h 0 29999=lC h from rfl];cases hh:lC h
  · rfl
  obtain⟨s0,s9⟩:=Ae hh;simp only[bne,(har.at s0 s9).1,eP (l:=reach l now) s0 (by omega),Ry];cases lZ h==part<;>cases(nth l (lW h)).so==0<;>cases(nth l (lW h)).Rs==zY h<;>cases nth (reach l now) (lW h)<;>rfl
theorem ve{N:Nat}(hN:dh<=N){l:List c6}(hb:eK dA l<dh)(hw:wA l)(now part h:Int):lB N l now part h=some (dt l now part h):=by
  unfold lB dt xN;simp only[qF hN hb hw,Bz hN hb hw,qV,vH,D4,GJ,Ry,gW];cases ha:gC l
  · rfl
  have har:=fO.1 ha;have hl:=mf har now;rw[show dy h 0 29999=lC h from rfl];cases hh:lC h
  · rfl
  obtain⟨s0,s9⟩:=Ae hh;simp only[bne,(har.at s0 s9).1,eP (l:=reach l now) s0 (by omega),Ry];cases lZ h==part<;>cases(nth l (lW h)).so==0<;>cases(nth l (lW h)).Rs==zY h<;>cases nth (reach l now) (lW h)<;>rfl
def uo(p:bh)(me now:Int)(o:c6):Bool:=decide (o.Rm>0)&&decide (dt p.heap.ag now me (i64.wrap (o.Rm-1))<0)
def xM(o:c6):c6:=c6.mk o.Rs o.so o.box o.Rt o.dX o.cd 0 (-1) o.ee o.mark o.dp o.Ri o.Rf
def m8(p:bh)(me now:Int):List c6:=p.heap.ag.map fun o=>if uo p me now o then xM o else o
def gz(p:bh)(me now:Int):bh:=if dI p&&dy me 0 2 then jz p (m8 p me now)else p
theorem sC{α:Type}{body:List α×Int->Option ((List α×Int)⊕(List α×Int))}(x:List α)(f:α->α){N:Nat}(hN:x.length<N)
    (hs:∀(k:Nat) (t:List α) (y:α),t.length=x.length->t[k]?=some y->x[k]?=some y->k<x.length->body (t,(k:Int))=some (.inl (t.set k (f y),((k+1:Nat):Int))))
    (he:∀t,t.length=x.length->body (t,(x.length:Int))=some (.inr (t,(x.length:Int)))):iter body N (x,0)=some (x.map f,(x.length:Int)):=by
  have key:∀(r:List α) (d d':List α) (M:Nat),d'.length=d.length->x=d'++r->r.length<M->iter body M (d++r,(d.length:Int))=some (d++r.map f,(x.length:Int)):=by
    intro r
    induction r with
    | nil =>
      intro d d' M hd hx hM
      cases M with
      | zero=>simp at hM
      | succ M =>
        have e:d.length=x.length:=by rw[hx];simp[hd]
        unfold iter;rw[List.append_nil,e,he d e];simp
    | cons y r ih =>
      intro d d' M hd hx hM
      cases M with
      | zero=>simp at hM
      | succ M =>
        have hlen:(d++y::r).length=x.length:=by rw[hx];simp[hd]
        unfold iter;rw[hs d.length (d++y::r) y hlen (by rw[List.getElem?_append_right (Nat.le_refl _)];simp) (by rw[hx,List.getElem?_append_right (by omega)];simp[hd]) (by rw[<- hlen];simp)]
        have e:(d++y::r).set d.length (f y)=(d++[f y])++r:=by rw[List.set_append_right _ _ (Nat.le_refl _)];simp
        have e2:d.length+1=(d++[f y]).length:=by simp
        simp only[Ry,e];rw[e2,ih (d++[f y]) (d'++[y]) M (by simp[hd]) (by rw[hx];simp) (by simp at hM;omega)];simp
  exact key x [] [] N rfl rfl hN
theorem kD{α:Type}{l:List α}{k:Nat}{y:α}(h:l[k]?=some y):l.set k y=l:=by
  apply List.ext_getElem? fun i=>?_;rw[List.getElem?_set];split
  · rename_i e;subst e;rw[if_pos (eJ h),h]
  · rfl
theorem I3{N:Nat}(hN:dh<=N){p:bh}(hb:dG p<dh)(me now:Int):qv N p me now=some (gz p me now):=by
  have h4:=(gE hb).2.2.2.1;have hl:=gL h4;unfold qv gz m8 jz;simp only[oH hN hb,sA hN hb,xO,Ry,gW];cases hp:dI p
  · rfl
  cases dy me 0 2
  · rfl
  simp only[RB,Bool.or_self,Rz,Bool.and_self,if_true];rw[sC p.heap.ag (fun o=>if uo p me now o then xM o else o) (Nat.lt_of_lt_of_le hl hN)]
  · rfl
  · intro k t y ht hty hy hk;simp only[ey hk,RA,dN,hy,hty,Ry,vj hN h4,iK,eD (Nat.lt_trans hk hl),Int.toNat_natCast,List.getElem?_set_self (show k<t.length by omega),List.set_set];rw[show(decide (y.Rm>0)&&decide (dt p.heap.ag now me (i64.wrap (y.Rm-1))<0))=uo p me now y from rfl];cases uo p me now y
    · simp[kD hty]
    · rfl
  · intro t ht;simp only[er,Rz]
theorem H6{N:Nat}(hN:dh<=N){p:bh}(hb:dG p<dh)(hw:wP p)(me now:Int):qk N p me now=some (gz p me now):=by
  have h4:=(gE hb).2.2.2.1;have hl:=gL h4;unfold qk gz m8 jz;simp only[qG hN hb,ss hN hb hw,jV,Ry,gW];cases hp:dI p
  · rfl
  cases dy me 0 2
  · rfl
  simp only[RB,Bool.or_self,Rz,Bool.and_self,if_true];rw[sC p.heap.ag (fun o=>if uo p me now o then xM o else o) (Nat.lt_of_lt_of_le hl hN)]
  · rfl
  · intro k t y ht hty hy hk;simp only[ht,ey hk,RA,dN,hy,hty,Ry,ve hN h4 hw,iK,eD (Nat.lt_trans hk hl),Int.toNat_natCast,List.getElem?_set_self (show k<t.length by omega),List.set_set];rw[show(decide (y.Rm>0)&&decide (dt p.heap.ag now me (i64.wrap (y.Rm-1))<0))=uo p me now y from rfl];cases uo p me now y
    · simp[kD hty]
    · rfl
  · intro t ht;simp only[ht,er,Rz]
theorem EN{f:c6->Nat}{g:c6->c6}(h:∀o,f (g o)=f o):∀l:List c6,mO f (l.map g)=mO f l
  | []=>rfl
  | o::l=>by simp only[List.map_cons,mO,h,EN h l]
theorem Hr{f:c6->Nat}{g:c6->c6}(h:∀o,f (g o)=f o)(l:List c6):eK f (l.map g)=eK f l:=by
  unfold eK;rw[EN h,List.length_map]
theorem BI(p:bh)(me now:Int):dG (gz p me now)=dG p:=by
  unfold gz;split
  · unfold dG jz mw m8;simp only;rw[Hr fun o=>by split<;>rfl]
  · rfl
theorem By(p:bh)(now:Int):dG (fP p now)<=dG p+100:=by
  unfold fP;split
  · rename_i h;simp only[RD]at h
    have hsz:eK dA (nW p now)<=eK dA p.heap.ag+12:=by
      unfold nW;split
      · rename_i hv;obtain⟨_,v0,v9⟩:=ll (qR hv);have:=xm ((fe h.1).ok _ ((fe h.1).at v0 v9).2);exact Nat.le_trans w7 (Nat.add_le_add_left this _)
      · omega
    unfold dG mw;simp only;omega
  · omega
def iB(w n:Int):de:=if w==0 then⟨n,0,0⟩else if w==1 then⟨0,n,0⟩else if w==2 then⟨0,0,n⟩else⟨0,0,0⟩
theorem xJ(N:Nat)(w n:Int):lV N w n=some (iB w n):=by
  unfold lV iB;cases w==0<;>cases w==1<;>cases w==2<;>rfl
theorem EZ(N:Nat)(w n:Int):qQ N w n=some (iB w n):=by
  unfold qQ iB;cases w==0<;>cases w==1<;>cases w==2<;>rfl
def jF(a b:de):Bool:=dT a&&(dT b&&(decide (a.cd<=b.cd)&&(decide (a.dg<=b.dg)&&decide (a.du<=b.du))))
theorem Jp(N:Nat)(a b:de):ru N a b=some (jF a b):=by
  unfold ru jF;simp only[pE,Ry,iK]
theorem Jw(N:Nat)(a b:de):rX N a b=some (jF a b):=by
  unfold rX jF;simp only[o7,Ry,iK]
def xv(a b:de):de:=⟨i64.wrap (a.cd-b.cd),i64.wrap (a.dg-b.dg),i64.wrap (a.du-b.du)⟩
def wX(a b:de):de×Bool:=if jF b a then(xv a b,true)else(a,false)
theorem Ly(N:Nat)(a b:de):tQ N a b=some (wX a b):=by
  unfold tQ wX;rw[Jp,Ry];cases jF b a<;>rfl
theorem Lz(N:Nat)(a b:de):tJ N a b=some (wX a b):=by
  unfold tJ wX;rw[Jw,Ry];cases jF b a<;>rfl
def jL(r:dk)(b:de):dk:=dk.mk r.Rq r.Rr b
theorem fM{α:Type}[dv α]{l:List α}{i:Int}(h0:0<=i)(h1:i<(l.length:Int)):l[i.toNat]?=some (nth l i):=by
  have:=eP (l:=l) h0 h1;unfold idx at this
  rwa[if_pos h0]at this
def eF(t:List dk)(f:Int)(a:de):List dk×Bool :=
  if fF t&&ei t f then(if jF a (nth t f).dQ then(t.set f.toNat (jL (nth t f) (xv (nth t f).dQ a)),true)else(t,false))else(t,false)
theorem uK{N:Nat}(hN:dh<=N){t:List dk}(hB:t.length<dh)(f:Int)(a:de):k6 N t f a=some (eF t f a):=by
  unfold k6 eF;simp only[mZ hB,qA hN,Ry];cases ht:fF t
  · rfl
  have hl:=od ht;simp only[RB,Rz,pQ N hl,Ry];cases hv:ei t f
  · rfl
  obtain⟨f0,f4⟩:=hO hv;simp only[RB,Rz,eP (l:=t) f0 (by omega),Ly,Ry,Bool.and_self,if_true];unfold wX;cases jF a (nth t f).dQ
  · have:t.set f.toNat (dk.mk (nth t f).Rq (nth t f).Rr (de.mk (nth t f).dQ.cd (nth t f).dQ.dg (nth t f).dQ.du))=t:=kD (fM f0 (by omega));simp only[Bool.false_eq_true,if_false];rw[this]
  · rfl
theorem sL{N:Nat}(hN:dh<=N){t:List dk}(hB:t.length<dh)(f:Int)(a:de):kr N t f a=some (eF t f a):=by
  unfold kr eF;simp only[nD hB,sB hN,Ry];cases h:(fF t&&ei t f)
  · rfl
  rw[RD]at h;have hl:=od h.1;obtain⟨f0,f4⟩:=hO h.2;simp only[RB,Rz,eP (l:=t) f0 (by omega),Lz,Ry,if_true];unfold wX;cases jF a (nth t f).dQ<;>rfl
theorem jA(t:List dk)(f:Int)(a:de):(eF t f a).1.length=t.length:=by
  unfold eF;split
  · split<;>simp
  · rfl
def xy(last pick:Int):Int->Int->List Int->Int
  | least,next,[]=>if decide (next>=0)then next else least
  | least,next,y::l=>if decide (y<0)then xy last pick least next l else if y==pick then y else
      xy last pick (if decide (least<0) || decide (y<least)then y else least) (if decide (y>last)&&(decide (next<0) || decide (y<next))then y else next) l
def qY(l:List Int)(last pick:Int):Int:=xy last pick (-1) (-1) l
theorem Am{last pick:Int}{P:Int->Prop}:∀(l:List Int) (a b:Int),P a->P b->(∀y,y∈l->P y)->P (xy last pick a b l)
  | [],a,b,ha,hb,_=>by unfold xy;split<;>assumption
  | y::l,a,b,ha,hb,h=>by
    have hy:=h y (by simp);have hl:∀z,z∈l->P z:=fun z hz=>h z (by simp[hz]);unfold xy;split
    · exact Am l a b ha hb hl
    · split
      · exact hy
      · refine Am l _ _ ?_ ?_ hl
        · split<;>assumption
        · split<;>assumption
theorem zJ(l:List Int)(last pick:Int)(h:decide (qY l last pick<0)=false):qY l last pick∈l:=by
  have:=Am (last:=last) (pick:=pick) (P:=fun y=>y=-1\/y∈l) l (-1) (-1) (.inl rfl) (.inl rfl) fun y hy=>.inr hy
  rcases this with q|q
  · unfold qY at h;rw[q]at h;simp at h
  · exact q
theorem JJ{N:Nat}(hN:dh<=N){l:List Int}(hl:l.length<dh)(last pick:Int){body:Int×Int×Int->Option ((Int×Int×Int)⊕((Int×Int×Int)⊕Int))}
    (hs:∀(k:Nat) (a b y:Int),l[k]?=some y->k<l.length->body (a,b,(k:Int))=some (if decide (y<0)then .inl (a,b,((k+1:Nat):Int))else if y==pick then .inr (.inr y)else
      .inl (if decide (a<0) || decide (y<a)then y else a,if decide (y>last)&&(decide (b<0) || decide (y<b))then y else b,((k+1:Nat):Int)))) (he:∀a b,body (a,b,(l.length:Int))=some (.inr (.inl (a,b,(l.length:Int))))) :
    (iter body N (-1, -1,0)).bind (fun o29=>Sum.elim (fun o29=>bif(decide (o29.2.1>=0))then(some o29.2.1)else(some o29.1)) (fun r33=>some r33) o29)=some (qY l last pick):=by
  rw[show((-1:Int),(-1:Int),(0:Int))=(fun(k:Nat) (t:Int×Int)=>(t.1,t.2,(k:Int))) 0 (-1, -1) from rfl,
    kJ l (fun(k:Nat) (t:Int×Int)=>(t.1,t.2,(k:Int))) (fun _ t y=>if decide (y<0)then .inl t else if y==pick then .inr (.inr y)else .inl (if decide (t.1<0) || decide (y<t.1)then y else t.1,if decide (y>last)&&(decide (t.2<0) || decide (y<t.2))then y else t.2)) (fun t=>.inl (t.1,t.2,(l.length:Int))) (fun _ _=>True) ?_ ?_ (Nat.lt_of_lt_of_le hl hN) trivial]
  · simp only[Ry]
    have key:∀(m:List Int) (k:Nat) (t:Int×Int),Sum.elim (fun(o29:Int×Int×Int)=>bif(decide (o29.2.1>=0))then(some o29.2.1)else(some o29.1)) (fun r33=>some r33) (kf (ρ:=(Int×Int×Int)⊕Int) (fun _ t y=>if decide (y<0)then .inl t else if y==pick then .inr (.inr y)else .inl (if decide (t.1<0) || decide (y<t.1)then y else t.1,if decide (y>last)&&(decide (t.2<0) || decide (y<t.2))then y else t.2)) (fun t=>.inl (t.1,t.2,(l.length:Int))) k t m)=some (xy last pick t.1 t.2 m):=by
      intro m
      induction m with
      | nil =>
        intro k t;unfold kf xy;simp only[Sum.elim_inl];cases decide (t.2>=0)<;>rfl
      | cons y m ih =>
        intro k t;unfold kf xy;cases decide (y<0)
        · cases y==pick
          · exact ih (k+1) _
          · rfl
        · exact ih (k+1) t
    exact key l 0 (-1, -1)
  · intro k t y hy hk _;refine⟨?_,fun _ _=>trivial⟩;rw[hs k t.1 t.2 y hy hk];cases decide (y<0)
    · cases y==pick<;>rfl
    · rfl
  · intro t _;exact he t.1 t.2
theorem Ln{N:Nat}(hN:dh<=N){l:List Int}(hl:l.length<dh)(last pick:Int):rF N l last pick=some (qY l last pick):=by
  unfold rF;refine JJ hN hl last pick ?_ ?_
  · intro k a b y hy hk;simp only[ey hk,RA,dN,hy,Ry,eD (Nat.lt_trans hk hl)];cases decide (y<0)<;>cases y==pick<;>cases decide (a<0)<;>cases decide (y<a)<;>cases decide (y>last)<;>cases decide (b<0)<;>cases decide (y<b)<;>rfl
  · intro a b;simp only[er,Rz]
theorem KA{N:Nat}(hN:dh<=N){l:List Int}(hl:l.length<dh)(last pick:Int):sb N l last pick=some (qY l last pick):=by
  unfold sb;refine JJ hN hl last pick ?_ ?_
  · intro k a b y hy hk;simp only[ey hk,RA,dN,hy,Ry,eD (Nat.lt_trans hk hl)];cases h1:decide (y<0)
    · cases h2:y==pick
      · cases decide (a<0)<;>cases decide (y<a)<;>cases decide (y>last)<;>cases decide (b<0)<;>cases decide (y<b)<;>rfl
      · have:y=pick:=by simpa using h2
        rw[this];rfl
    · rfl
  · intro a b;simp only[er,Rz]
def sE(o:c6):c6:=c6.mk o.Rs o.so o.box o.Rt o.dX o.cd o.Rm o.ef (i64.wrap (o.ee+1)) o.mark o.dp o.Ri o.Rf
def gS(p:bh)(now:Int):Int:=qY (runnable p now) p.Ro (i64.wrap (p.Rn-1))
def pK(p:bh)(now:Int):Bool:=decide (gS p now<0) || (decide (p.db.du>=1000000) || decide ((nth p.heap.ag (gS p now)).ee>=1000000))
def iN(p:bh)(now:Int):bh×Int :=
  if dI p then
    (if pK p now then(bh.mk p.Rd p.own p.Re p.heap p.dc p.Ro 0 p.db p.dx p.Rk, -1)else
      (bh.mk p.Rd p.own (eF p.Re (iw p (nth p.heap.ag (gS p now)).Rt) ⟨0,0,1⟩).1 (df.mk (p.heap.ag.set (gS p now).toNat (sE (nth p.heap.ag (gS p now)))) p.heap.gc) p.dc (gS p now) 0
        (de.mk p.db.cd p.db.dg (i64.wrap (p.db.du+1))) p.dx p.Rk,gS p now))
  else(p, -1)
theorem wE{p:bh}{now:Int}(h:decide (gS p now<0)=false):dI p=true/\0<=gS p now/\gS p now<=9:=by
  have:=zJ _ _ _ h;unfold runnable at this;exact ll (List.mem_filter.1 this).1
theorem K2{o:c6}(h:eG o=true):0<=o.ee/\o.ee<=1000000:=by
  unfold eG at h;cases hk:o.so==0
  · simp only[hk,Rz,RD]at h;have h:=h.2.2.2.2.2.2.2;cases h4:o.so != 4
    · rw[h4]at h;simp only[Rz,RD]at h;exact dM.1 h.2.2
    · rw[h4]at h;simp only[RA,RD,beq_iff_eq]at h;omega
  · simp only[hk,RA,RD,decide_eq_true_eq]at h;rw[h.2.2];exact⟨Int.le_refl _,by show(0:Int)<=1000000;decide⟩
theorem KU{n:Int}(h:n<=1000000):(n==1000000)=decide (n>=1000000):=by
  rw[Bool.eq_iff_iff];simp;omega
theorem uu{a:de}(h:dT a=true):(0<=a.cd/\a.cd<=1000000)/\(0<=a.dg/\a.dg<=1000000)/\(0<=a.du/\a.du<=1000000):=by
  unfold dT uJ at h;simpa only[RD,dM]using h
theorem mF{p:bh}(h:dI p=true):dT p.db=true:=by
  unfold dI og at h;simp only[RD]at h;exact h.2.2.2.2.2.2.2.2.1
theorem JH{N:Nat}(hN:dh<=N){p:bh}(hb:dG p<dh)(now:Int):rT N p now=some (iN p now):=by
  have hr:(runnable p now).length<dh:=Nat.lt_of_le_of_lt (x7 p now) (by decide);unfold rT iN;simp only[oH hN hb,sA hN hb,IZ hN hb,Ln hN hr,Ry];cases hp:dI p
  · rfl
  simp only[RB,Rz,if_true];rw[show qY (runnable p now) p.Ro (i64.wrap (p.Rn-1))=gS p now from rfl];unfold pK;have hsp:=uu (mF hp);cases hn:decide (gS p now<0)
  · obtain⟨_,n0,n9⟩:=wE hn;obtain⟨e1,e2⟩:=(fe hp).at n0 n9;have hran:=K2 ((fe hp).ok _ e2);simp only[Rz,e1,Ry,KU hsp.2.2.2,KU hran.2,xJ,Bw hN,uK hN (gE hb).2.2.1,pG,Bool.false_or];cases decide (p.db.du>=1000000)
    · cases decide ((nth p.heap.ag (gS p now)).ee>=1000000)
      · have ea:dY p.db (iB 2 1)=de.mk p.db.cd p.db.dg (i64.wrap (p.db.du+1)):=by
          show de.mk (i64.wrap (p.db.cd+0)) (i64.wrap (p.db.dg+0)) (i64.wrap (p.db.du+1))=_
          rw[dF (n:=p.db.cd+0) (by omega) (by omega),dF (n:=p.db.dg+0) (by omega) (by omega),Int.add_zero,Int.add_zero]
        rw[ea];rfl
      · rfl
    · rfl
  · rfl
theorem JY{N:Nat}(hN:dh<=N){p:bh}(hb:dG p<dh)(hw:wP p)(now:Int):rQ N p now=some (iN p now):=by
  have hr:(runnable p now).length<dh:=Nat.lt_of_le_of_lt (x7 p now) (by decide);unfold rQ iN;simp only[qG hN hb,ss hN hb hw,Ia hN hb hw,KA hN hr,Ry];cases hp:dI p
  · rfl
  simp only[RB,Rz,if_true];rw[show qY (runnable p now) p.Ro (i64.wrap (p.Rn-1))=gS p now from rfl];unfold pK;cases hn:decide (gS p now<0)
  · obtain⟨_,n0,n9⟩:=wE hn;obtain⟨e1,e2⟩:=(fe hp).at n0 n9;simp only[Rz,e1,Ry,xh hN,sL hN (gE hb).2.2.1,Bool.false_or];cases decide (p.db.du>=1000000)
    · cases decide ((nth p.heap.ag (gS p now)).ee>=1000000)<;>rfl
    · rfl
  · rfl
theorem Pb(p:bh)(now:Int):dG (iN p now).1<=dG p+100:=by
  unfold iN;split
  · rename_i hp;split
    · exact Nat.le_add_right _ _
    · rename_i hn;unfold pK at hn;simp only[Bool.or_eq_true,not_or,Bool.not_eq_true]at hn;obtain⟨_,n0,n9⟩:=wE hn.1;have h1:=xm ((fe hp).ok _ ((fe hp).at n0 n9).2);have h2:eK dA (p.heap.ag.set (gS p now).toNat (sE (nth p.heap.ag (gS p now))))<=eK dA p.heap.ag+12:=Nat.le_trans w7 (Nat.add_le_add_left h1 _);have h3:=jA p.Re (iw p (nth p.heap.ag (gS p now)).Rt) ⟨0,0,1⟩;unfold dG mw;simp only[h3];omega
  · exact Nat.le_add_right _ _
def tL(i:Int)(x:Int):Int:=if x==i then -1 else x
def kM(i:Int)(o:c6):c6:=if o.so==0 then o else c6.mk o.Rs o.so (if o.box==i then -1 else o.box) o.Rt o.dX o.cd o.Rm o.ef o.ee o.mark (o.dp.map (tL i)) o.Ri o.Rf
def jl(l:List c6)(i:Int):List c6×Bool:=if gC l&&(dy i 1 9&&((nth l i).so != 0))then((l.set i.toNat (blank (nth l i).Rs)).map (kM i),true)else(l,false)
theorem Ep{l:List c6}(h:Ar l){i g:Int}{k:Nat}{y:c6}(hy:(l.set i.toNat (blank g))[k]?=some y)(hk:(y.so==0)=false):eG y=true:=by
  rcases List.mem_or_eq_of_mem_set (List.mem_of_getElem? hy)with q|q
  · exact h.ok y q
  · rw[q]at hk;simp[blank]at hk
theorem wq{o:c6}(h:eG o=true)(hk:(o.so==0)=false):o.dp.length=2:=by
  unfold eG at h;simp only[hk,Rz,RD]at h;obtain⟨_,_,_,_,_,_,hl,_⟩:=h;unfold ji at hl;simp only[RD,beq_iff_eq]at hl;omega
theorem GI{N:Nat}(hN:dh<=N){l:List c6}(hb:eK dA l<dh)(i:Int):oQ N l i=some (jl l i):=by
  unfold oQ jl;simp only[uj hN hb,uM hN hb,ko,Ry];cases ha:gC l
  · rfl
  have h:=fO.1 ha;cases hi:dy i 1 9
  · rfl
  have hr:=dM.1 hi;simp only[RB,Rz,(h.at (i:=i) (by omega) hr.2).1,Ry,bne,RC];cases hk:(nth l i).so==0
  · simp only[Rz,Bool.not_false,if_true];rw[show c6.mk (nth l i).Rs 0 0 0 0 0 0 0 0 false [] [] []=blank (nth l i).Rs from rfl];have hlen:(l.set i.toNat (blank (nth l i).Rs)).length=l.length:=List.length_set;rw[sC (l.set i.toNat (blank (nth l i).Rs)) (kM i) (by rw[hlen];exact Nat.lt_of_lt_of_le h.uX hN)]
    · rfl
    · intro k t y ht hty hy hkl
      have hk10:k<10:=by rw[hlen,h.len]at hkl;exact hkl
      have hd:decide ((k:Int)<(l.length:Int))=true:=by simp[h.len];omega
      have hkt:k<t.length:=eJ hty;simp only[hd,RA,dN,hty,Ry,eD (show k<dh from Nat.lt_trans hk10 (by decide))];unfold kM;cases hyk:y.so==0
      · have ho:=Ep h hy hyk;have h2:=wq ho hyk
        have hLB:y.dp.length<dh:=by rw[h2];decide
        have inner:iter (fun(s124:(List Int)×Int)=>(bif(decide (s124.2<(y.dp.length:Int)))then((idx s124.1 s124.2).bind fun y127=>bif(y127==i)then(some (.inl (s124.1.set (s124.2:Int).toNat (-1),i64.wrap (s124.2+1))))else(some (.inl (s124.1,i64.wrap (s124.2+1)))))else(some (.inr (s124.1,s124.2))):Option (((List Int)×Int)⊕((List Int)×Int)))) N (y.dp,0)=some (y.dp.map (tL i),(y.dp.length:Int)):=by
          rw[sC y.dp (tL i) (Nat.lt_of_lt_of_le hLB hN)]
          · intro j t2 z ht2 hz _ hj;simp only[ey hj,RA,dN,hz,Ry,eD (Nat.lt_trans hj hLB),Int.toNat_natCast];unfold tL;cases z==i
            · simp[kD hz]
            · rfl
          · intro t2 ht2;simp only[er,Rz]
        simp only[Rz,Bool.false_eq_true,if_false];cases hbx:y.box==i
        · simp only[Rz,Ry,dN,hty,Bool.false_eq_true,if_false];rw[inner];rfl
        · simp only[RA,Ry,Int.toNat_natCast,dN,List.getElem?_set_self hkt,if_true];rw[inner];simp only[Ry,List.set_set]
      · simp only[RA,if_true];rw[kD hty]
    · intro t ht
      have hd:decide (((l.set i.toNat (blank (nth l i).Rs)).length:Int)<(l.length:Int))=false:=by rw[hlen];simp
      simp only[hd,Rz]
  · rfl
theorem GG{N:Nat}(hN:dh<=N){l:List c6}(hb:eK dA l<dh)(hw:wA l)(i:Int):oL N l i=some (jl l i):=by
  unfold oL jl;simp only[Ai hN hb,qF hN hb hw,jV,Ry];cases ha:gC l
  · rfl
  have h:=fO.1 ha;cases hi:dy i 1 9
  · rfl
  have hr:=dM.1 hi;simp only[RB,Rz,(h.at (i:=i) (by omega) hr.2).1,Ry,bne,RC];cases hk:(nth l i).so==0
  · simp only[Rz,Bool.not_false,if_true];rw[show c6.mk (nth l i).Rs 0 0 0 0 0 0 0 0 false [] [] []=blank (nth l i).Rs from rfl];have hlen:(l.set i.toNat (blank (nth l i).Rs)).length=l.length:=List.length_set;rw[sC (l.set i.toNat (blank (nth l i).Rs)) (kM i) (by rw[hlen];exact Nat.lt_of_lt_of_le h.uX hN)]
    · rfl
    · intro k t y ht hty hy hkl
      have hk10:k<10:=by rw[hlen,h.len]at hkl;exact hkl
      have hkt:k<t.length:=eJ hty;simp only[ey hkt,RA,dN,hty,Ry,eD (show k<dh from Nat.lt_trans hk10 (by decide))];unfold kM;cases hyk:y.so==0
      · have ho:=Ep h hy hyk;have h2:=wq ho hyk;simp only[Rz,Bool.false_eq_true,if_false]
        have inner:∀(t2:List c6) (z:c6),t2.length=t.length->t2[k]?=some z->z.dp.length=2->iter (fun(s90:(List c6)×Int)=>(bif(decide (s90.2<2))then((idx s90.1 (k:Int)).bind fun y93=>(idx y93.dp s90.2).bind fun y115=>bif(y115==i)then(some (.inl ((s90.1.set (k:Int).toNat (c6.mk y93.Rs y93.so y93.box y93.Rt y93.dX y93.cd y93.Rm y93.ef y93.ee y93.mark (y93.dp.set (s90.2:Int).toNat (-1)) y93.Ri y93.Rf)),i64.wrap (s90.2+1))))else(some (.inl (s90.1,i64.wrap (s90.2+1)))))else(some (.inr (s90.1,s90.2))):Option (((List c6)×Int)⊕((List c6)×Int)))) N (t2,0) =
            some (t2.set k (c6.mk z.Rs z.so z.box z.Rt z.dX z.cd z.Rm z.ef z.ee z.mark (z.dp.map (tL i)) z.Ri z.Rf),2):=by
          intro t2 z hl2 hz hz2
          have hk2:k<t2.length:=by omega
          obtain⟨a,b,hab⟩:∃a b,z.dp=[a,b]:=by
            match hq:z.dp with
            | []=>simp[hq]at hz2
            | [a]=>simp[hq]at hz2
            | [a,b]=>exact⟨a,b,rfl⟩
            | a::b::c::r=>simp[hq]at hz2
          obtain⟨M,rfl⟩:∃M,N=M+3:=⟨N-3,by have:16777216<=N:=hN;omega⟩;have hset:∀u:c6,(t2.set k u)[k]?=some u:=fun u=>List.getElem?_set_self hk2
          have hid:t2.set k (c6.mk z.Rs z.so z.box z.Rt z.dX z.cd z.Rm z.ef z.ee z.mark [a,b] z.Ri z.Rf)=t2:=by rw[<- hab];exact kD hz
          have w1:i64.wrap (0+1)=1:=by decide
          have w2:i64.wrap (1+1)=2:=by decide
          unfold iter;simp only[show decide ((0:Int)<2)=true from rfl,RA,dN,hz,Ry,hab,show idx [a,b] 0=some a from rfl,w1,Int.toNat_natCast];cases hA:a==i
          · simp only[Rz,Ry];unfold iter;simp only[show decide ((1:Int)<2)=true from rfl,RA,dN,hz,Ry,hab,show idx [a,b] 1=some b from rfl,w2,Int.toNat_natCast];cases hB:b==i
            · simp only[Rz,Ry];unfold iter;simp[tL,hA,hB,hid]
            · simp only[RA,Ry];unfold iter;simp[tL,hA,hB]
          · simp only[RA,Ry];unfold iter;simp only[show decide ((1:Int)<2)=true from rfl,RA,dN,hset,Ry,w2,Int.toNat_natCast];rw[show idx ([a,b].set (0:Int).toNat (-1)) 1=some b from rfl];simp only[Ry];cases hB:b==i
            · simp only[Rz,Ry];unfold iter;simp[tL,hA,hB]
            · simp only[RA,Ry,List.set_set];unfold iter;simp[tL,hA,hB]
        simp only[dN,Int.toNat_natCast]at inner⊢;cases hbx:y.box==i
        · simp only[Rz,Ry,Bool.false_eq_true,if_false];rw[inner t y rfl hty h2];rfl
        · simp only[RA,Ry,Int.toNat_natCast,if_true];have e:=inner (t.set k (c6.mk y.Rs y.so (-1) y.Rt y.dX y.cd y.Rm y.ef y.ee y.mark y.dp y.Ri y.Rf)) (c6.mk y.Rs y.so (-1) y.Rt y.dX y.cd y.Rm y.ef y.ee y.mark y.dp y.Ri y.Rf) List.length_set (List.getElem?_set_self hkt) h2;rw[e];simp only[Ry,List.set_set]
      · simp only[RA,if_true];rw[kD hty]
    · intro t ht;rw[<- ht];simp only[er,Rz]
  · rfl
def jJ(t:List dk)(f:Int)(a:de):List dk×Bool :=
  if fF t&&(dT a&&dT (dY (fX t) a))then
    (t.set (if ei t f then f else 0).toNat (jL (nth t (if ei t f then f else 0)) (dY (nth t (if ei t f then f else 0)).dQ a)),true)
  else(t,false)
theorem v8(t:List dk)(f:Int)(a:de):(jJ t f a).1.length=t.length:=by
  unfold jJ;split<;>simp
theorem xH{N:Nat}(hN:dh<=N){t:List dk}(hB:t.length<dh)(f:Int)(a:de):mH N t f a=some (jJ t f a):=by
  unfold mH jJ;simp only[mZ hB,qA hN,pE,Cp hN hB,pG,Ry,gW];cases ht:fF t
  · rfl
  have hl:=od ht;cases dT a
  · rfl
  cases dT (dY (fX t) a)
  · rfl
  simp only[RB,Bool.or_self,Rz,pQ N hl,Ry,Bool.and_self,if_true];cases hv:ei t f
  · simp only[Bool.not_false,RA,Ry,eP (l:=t) (i:=0) (by omega) (by omega),Bool.false_eq_true,if_false];rfl
  · obtain⟨f0,f4⟩:=hO hv;simp only[RB,Rz,Ry,eP (l:=t) f0 (by omega),if_true];rfl
theorem N0{n:Int}:uJ n=true <-> 0<=n/\n<=1000000:=dM
theorem eN{a:de}:dT a=true <-> (0<=a.cd/\a.cd<=1000000)/\(0<=a.dg/\a.dg<=1000000)/\(0<=a.du/\a.du<=1000000):=by
  unfold dT;simp only[RD,N0]
theorem rf:∀(t:List dk) (s:de) (B:Int),(∀r,r∈t->dT r.dQ=true)->0<=B->B+1000000*(t.length:Int)<=1000000000->(0<=s.cd/\s.cd<=B)->(0<=s.dg/\s.dg<=B)->(0<=s.du/\s.du<=B) ->
    (s.cd<=(eX s t).cd/\s.dg<=(eX s t).dg/\s.du<=(eX s t).du) /\
      ∀r,r∈t->r.Rq=true->r.dQ.cd<=(eX s t).cd/\r.dQ.dg<=(eX s t).dg/\r.dQ.du<=(eX s t).du
  | [],s,B,_,_,_,_,_,_=>⟨⟨Int.le_refl _,Int.le_refl _,Int.le_refl _⟩,fun r hr=>by simp at hr⟩
  | r::t,s,B,h,hB,hL,h1,h2,h3=>by
    have hr:=eN.1 (h r (by simp));simp only[List.length_cons]at hL;have e:eX s (r::t)=eX (if r.Rq then dY s r.dQ else s) t:=rfl;rw[e];cases hv:r.Rq
    · obtain⟨q1,q2⟩:=rf t s B (fun x hx=>h x (by simp[hx])) hB (by omega) h1 h2 h3;refine⟨q1,fun x hx hl=>?_⟩
      rcases List.mem_cons.1 hx with rfl|hx
      · rw[hv]at hl;cases hl
      · exact q2 x hx hl
    · simp only[if_true];have w1:(dY s r.dQ).cd=s.cd+r.dQ.cd:=dF (by omega) (by omega);have w2:(dY s r.dQ).dg=s.dg+r.dQ.dg:=dF (by omega) (by omega);have w3:(dY s r.dQ).du=s.du+r.dQ.du:=dF (by omega) (by omega);obtain⟨⟨a1,a2,a3⟩,q2⟩:=rf t (dY s r.dQ) (B+1000000) (fun x hx=>h x (by simp[hx])) (by omega) (by omega) (by omega) (by omega) (by omega);refine⟨⟨by omega,by omega,by omega⟩,fun x hx hl=>?_⟩
      rcases List.mem_cons.1 hx with rfl|hx
      · exact⟨by omega,by omega,by omega⟩
      · exact q2 x hx hl
theorem Cl{t:List dk}(h:Tr t){a:de}(ha:dT a=true)(hs:dT (dY (eX ⟨0,0,0⟩ t) a)=true){i:Int}(hi:0<=i/\i<=4)(hv:(nth t i).Rq=true):ga (nth t i).dQ a=(dY (nth t i).dQ a,true):=by
  have hl:=h.len;have hm:nth t i∈t:=gJ hi.1 (by omega);obtain⟨_,q⟩:=rf t ⟨0,0,0⟩ 0 h.dQ (by omega) (by omega) ⟨by decide,by decide⟩ ⟨by decide,by decide⟩ ⟨by decide,by decide⟩;obtain⟨q1,q2,q3⟩:=q _ hm hv;have hb:=eN.1 (h.dQ _ hm);have ha':=eN.1 ha;have hS:=eN.1 h.sum;have w1:(dY (eX ⟨0,0,0⟩ t) a).cd=(eX ⟨0,0,0⟩ t).cd+a.cd:=dF (by omega) (by omega);have w2:(dY (eX ⟨0,0,0⟩ t) a).dg=(eX ⟨0,0,0⟩ t).dg+a.dg:=dF (by omega) (by omega);have w3:(dY (eX ⟨0,0,0⟩ t) a).du=(eX ⟨0,0,0⟩ t).du+a.du:=dF (by omega) (by omega);have hs':=eN.1 hs;have v1:(dY (nth t i).dQ a).cd=(nth t i).dQ.cd+a.cd:=dF (by omega) (by omega);have v2:(dY (nth t i).dQ a).dg=(nth t i).dQ.dg+a.dg:=dF (by omega) (by omega);have v3:(dY (nth t i).dQ a).du=(nth t i).dQ.du+a.du:=dF (by omega) (by omega);have:dT (dY (nth t i).dQ a)=true:=eN.2 ⟨by omega,by omega,by omega⟩;unfold ga;rw[h.dQ _ hm,ha,this];rfl
theorem xo{N:Nat}(hN:dh<=N){t:List dk}(hB:t.length<dh)(f:Int)(a:de):mI N t f a=some (jJ t f a):=by
  unfold mI jJ;simp only[nD hB,vX hN,BX hN hB,uf,sB hN,Ry];cases ht:fF t
  · rfl
  have hT:=fI.1 ht;have hl:=hT.len
  have e:(ga (eX ⟨0,0,0⟩ t) a).2=(dT a&&dT (dY (fX t) a)):=by
    unfold ga fX;rw[hT.sum,ht];simp only[if_true,RC];cases dT a&&dT (dY (eX ⟨0,0,0⟩ t) a)<;>rfl
  rw[e];simp only[RB,Rz,RC];cases hc:(dT a&&dT (dY (fX t) a))
  · rfl
  rw[RD]at hc
  have hs:dT (dY (eX ⟨0,0,0⟩ t) a)=true:=by
    have:=hc.2;unfold fX at this
    rwa[ht,if_pos rfl]at this
  simp only[RB,Rz,if_true];cases hv:ei t f
  · simp only[Bool.not_false,RA,Ry,eP (l:=t) (i:=0) (by omega) (by omega),Cl hT hc.1 hs (i:=0) ⟨by omega,by omega⟩ hT.pM,Bool.false_eq_true,if_false];rfl
  · obtain⟨f0,f4⟩:=hO hv
    have hlv:(nth t f).Rq=true:=by unfold ei at hv;rw[RD]at hv;exact hv.2
    simp only[RB,Rz,Ry,eP (l:=t) f0 (by omega),Cl hT hc.1 hs (i:=f) ⟨f0,f4⟩ hlv,if_true];rfl
end Go.Kx
