import Derived.Test.YtfmfgnhbgcjajaaGreatLSum
namespace Go.Kx
open Go
open Go.IntKind (i64)
set_option linter.unusedVariables false
set_option linter.unusedSimpArgs false
set_option maxRecDepth 10000
theorem vx{α:Type}{f:α->Nat}{c:Nat}:∀{l:List α},(∀y,y∈l->f y<=c)->mR f l<=c*l.length
  | [],_=>Nat.zero_le _
  | y::l,h=>by
    have h1:=h y (by simp);have h2:=vx (l:=l) fun z hz=>h z (by simp[hz]);simp only[mR,List.length_cons,Nat.mul_add];omega
theorem Fh{α:Type}{f:α->Nat}{y:α}:∀{l:List α} {k:Nat},mR f (l.set k y)<=mR f l+f y
  | [],k=>by simp[mR]
  | z::l,0=>by simp only[List.set_cons_zero,mR];omega
  | z::l,k+1=>by
    have:=Fh (f:=f) (y:=y) (l:=l) (k:=k);simp only[List.set_cons_succ,mR];omega
theorem xl{α:Type}{f:α->Nat}{y:α}{l:List α}{k:Nat}:eQ f (l.set k y)<=eQ f l+f y:=by
  have:=Fh (f:=f) (y:=y) (l:=l) (k:=k);unfold eQ;simp only[List.length_set];omega
theorem xX{o:cd}(h:eG o=true):dA o<=12:=by
  have hl:=(pB h).1;unfold eG at h;unfold dA;cases hk:o.so==0
  · simp only[hk,RC,RG]at h;obtain⟨_,_,_,_,_,hp,hl2,_⟩:=h;unfold jm at hl2;simp only[RG,decide_eq_true_eq,beq_iff_eq]at hl2;obtain⟨_,_,_,_,hd,hq⟩:=hl2;rw[dI]at hp
    have:o.Rm.length<=8:=by
      cases h2:o.so==2
      · rw[h2]at hd;simp only[RC]at hd;omega
      · rw[h2]at hd;simp only[RD]at hd;omega
    have:o.Ri.length<=2:=by
      cases h3:o.so==3
      · rw[h3]at hq;simp only[RC]at hq;omega
      · rw[h3]at hq;simp only[RD]at hq;omega
    omega
  · simp only[hk,RD,RG,decide_eq_true_eq]at h;rw[h.2.2];simp[blank]
theorem Ar.sz{l:List cd}(h:Ar l):eQ dA l<=130:=by
  have h1:=vx (f:=dA) (c:=12) fun y hy=>xX (h.ok y hy);have h2:=h.len;unfold eQ;rw[h2]at h1⊢;omega
theorem iS{l:List cd}{k:Nat}{o:cd}(h:wA l)(ho:mK o):wA (l.set k o):=fun y hy=>by
  rcases List.mem_or_eq_of_mem_set hy with q|q
  · exact h y q
  · rw[q];exact ho
def gv(o:cd)(g:Int):cd:=cd.mk g o.so o.box o.Rx o.dV o.c6 o.Ro o.eh o.ef o.mark o.dk o.Rm o.Ri
def putAt(l:List cd)(o:cd)(k:Nat)(x:cd):List cd×Int:=if fT (l.set k (gv o (i64.wrap (x.Rt+1))))&&(o.so != 0)then(l.set k (gv o (i64.wrap (x.Rt+1))),(k:Int))else(l, -1)
def qN(l:List cd)(o:cd):Nat->List cd->List cd×Int
  | _,[]=>(l, -1)
  | k,x::m=>if x.so != 0 || decide (x.Rt>=999)then qN l o (k+1) m else putAt l o k x
def hO(l:List cd)(o:cd):List cd×Int:=if fT l then qN l o 1 (l.drop 1)else(l, -1)
theorem BG{l:List cd}{o:cd}(h:(o.so != 0)=false):∀(m:List cd) (k:Nat),qN l o k m=(l, -1)
  | [],k=>rfl
  | x::m,k=>by
    unfold qN putAt;rw[h,BG h m];simp
theorem D3{ρ:Type}{body:Int->Option (Int⊕ρ)}(l:List cd)(p:cd->Bool)(g:Nat->cd->ρ)(r:ρ){N:Nat}(hN:l.length+1<N)(hl:1<=l.length)
    (hs:∀(k:Nat) (x:cd),l[k]?=some x->1<=k->k<l.length->body (k:Int)=some (if p x then .inl ((k+1:Nat):Int)else .inr (g k x))) (he:body (l.length:Int)=some (.inr r)) :
    iter body N 1=some (kf (fun k (_:Unit) x=>if p x then .inl ()else .inr (g (k+1) x)) (fun _=>r) 0 () (l.drop 1)):=by
  have hd:(l.drop 1).length+1=l.length:=by simp;omega
  rw[show(1:Int)=(fun(k:Nat) (_:Unit)=>((k+1:Nat):Int)) 0 () from rfl,
    kS (l.drop 1) (fun(k:Nat) (_:Unit)=>((k+1:Nat):Int)) (fun k _ x=>if p x then .inl ()else .inr (g (k+1) x)) (fun _=>r) (fun _ _=>True) ?_ ?_ (by omega) trivial]
  · intro k _ x hx hk _
    have hx:l[k+1]?=some x:=by rw[<- hx,List.getElem?_drop,Nat.add_comm]
    refine⟨?_,fun _ _=>trivial⟩
    show body ((k+1:Nat):Int)=_
    rw[hs (k+1) x hx (by omega) (by omega)];cases p x<;>rfl
  · intro _ _;simp only[hd];exact he
theorem B8{ρ:Type}(l:List cd)(o:cd)(r:ρ)(c:ρ->Option (List cd×Int))(g:Nat->cd->ρ)(hr:c r=some (l, -1))(hg:∀k x,c (g k x)=some (putAt l o k x)):∀(m:List cd) (k:Nat),
    c (kf (fun k (_:Unit) x=>if x.so != 0 || decide (x.Rt>=999)then .inl ()else .inr (g (k+1) x)) (fun _=>r) k () m)=some (qN l o (k+1) m)
  | [],k=>hr
  | x::m,k=>by
    unfold kf qN;cases h:(x.so != 0 || decide (x.Rt>=999))
    · simp only[Bool.false_eq_true,if_false];exact hg _ _
    · simp only[if_true];exact B8 l o r c g hr hg m (k+1)
theorem Cp(o:cd)(g:Int):dA (gv o g)=dA o:=rfl
theorem Az{o:cd}{g:Int}(h:mK o):mK (gv o g):=h
theorem LS{l:List cd}(h:Ar l){o:cd}(ho:dA o<=100000)(k:Nat):eQ dA (l.set k o)<dg:=by
  have h1:=h.sz;have h2:=xl (f:=dA) (y:=o) (l:=l) (k:=k);have:(16777216:Nat)=dg:=rfl;omega
theorem A3{N:Nat}(hN:dg+1<=N){l:List cd}(hb:eQ dA l<dg){o:cd}(ho:dA o<=100000):nS N l o=some (hO l o):=by
  have hN':dg<=N:=Nat.le_of_succ_le hN;have hB:(16777216:Nat)=dg:=rfl
  have hoB:dA o<dg:=by omega
  unfold nS hO;simp only[uy hN' hb,uK hN' hb,RB,gX];cases ha:fT l
  · rfl
  have h:=fu.1 ha;have hl:=h.len;simp only[RE,Bool.false_or,if_true];cases hk:(o.so != 0)
  · rw[BG hk]
    have:(o.so==0)=true:=by simpa[bne]using hk
    rw[this];rfl
  · have hk0:(o.so==0)=false:=by simpa[bne]using hk
    simp only[hk0,RC];obtain⟨M,rfl⟩:∃M,N=M+1:=⟨N-1,by omega⟩;have hd:∀k:Nat,k<l.length->decide ((k:Int)<(l.length:Int))=true:=fun k hk=>eD hk;have h0:decide ((0:Int)<(l.length:Int))=true:=hd 0 (by omega);unfold iter;simp only[h0,RD,(h.at (i:=0) (by omega) (by omega)).1,RB,beq_self_eq_true,Bool.true_or,show i64.wrap (0+1)=1 from by decide];rw[D3 l (fun x=>x.so != 0 || decide (x.Rt>=999)) (fun k x=>if fT (l.set k (gv o (i64.wrap (x.Rt+1))))then Sum.inr (l.set k (gv o (i64.wrap (x.Rt+1))),(k:Int))else Sum.inr (l, -1)) (Sum.inl (l.length:Int)) (by omega) (by omega)]
    · simp only[RB]
      exact B8 l o (Sum.inl (l.length:Int)) (fun o73=>Sum.elim (fun o73=>some (l, -1)) (fun r76=>some r76) o73) (fun k x=>if fT (l.set k (gv o (i64.wrap (x.Rt+1))))then Sum.inr (l.set k (gv o (i64.wrap (x.Rt+1))),(k:Int))else Sum.inr (l, -1)) rfl (fun k x=>by
        unfold putAt;rw[hk]
        cases fT (l.set k (gv o (i64.wrap (x.Rt+1))))<;>rfl) _ 0
    · intro k x hx hk1 hkl
      have hne:((k:Int)==0)=false:=by simp;omega
      have e1:idx (l.set k o) (k:Int)=some o:=HS hkl;simp only[hd k hkl,RD,dQ,hx,RB,hne,RC,gX,eL (show k<dg by omega),uy hN' hb,C1 hoB,Int.toNat_natCast,List.getElem?_set_self hkl,List.set_set];rw[show cd.mk (i64.wrap (x.Rt+1)) o.so o.box o.Rx o.dV o.c6 o.Ro o.eh o.ef o.mark o.dk o.Rm o.Ri=gv o (i64.wrap (x.Rt+1)) from rfl,uK hN' (LS h (by rw[Cp];exact ho) k)];cases(x.so != 0 || decide (x.Rt>=999))
      · cases fT (l.set k (gv o (i64.wrap (x.Rt+1))))<;>rfl
      · rfl
    · simp only[eE,RC]
theorem Bw{N:Nat}(hN:dg<=N){l:List cd}(hb:eQ dA l<dg)(hw:wA l){o:cd}(ho:dA o<=100000)(hwo:mK o):nV N l o=some (hO l o):=by
  have hB:(16777216:Nat)=dg:=rfl
  have hoB:dA o<dg:=by omega
  unfold nV hO;simp only[Aw hN hb,pL hN hb hw,RB];cases ha:fT l
  · rfl
  have h:=fu.1 ha;have hl:=h.len;simp only[RE,RC,if_true];rw[D3 l (fun x=>x.so != 0 || decide (x.Rt>=999)) (fun k x=>Sum.inr (putAt l o k x)) (Sum.inl (l.length:Int)) (by omega) (by omega)]
  · simp only[RB];exact B8 l o (Sum.inl (l.length:Int)) (fun o84=>Sum.elim (fun o84=>some (l, -1)) (fun r87=>some r87) o84) (fun k x=>Sum.inr (putAt l o k x)) rfl (fun k x=>rfl) _ 0
  · intro k x hx hk1 hkl;simp only[eD hkl,RD,dQ,hx,RB,gX,eL (show k<dg by omega),HC hoB,Int.toNat_natCast];rw[show cd.mk (i64.wrap (x.Rt+1)) o.so o.box o.Rx o.dV o.c6 o.Ro o.eh o.ef o.mark o.dk o.Rm o.Ri=gv o (i64.wrap (x.Rt+1)) from rfl,pL hN (LS h (by rw[Cp];exact ho) k) (iS hw (Az hwo))];simp only[RB,gX];unfold putAt
    have hk:(o.so==0)=!(o.so != 0):=by simp[bne]
    rw[hk];cases(x.so != 0 || decide (x.Rt>=999))
    · cases fT (l.set k (gv o (i64.wrap (x.Rt+1))))<;>cases(o.so != 0)<;>rfl
    · rfl
  · simp only[eE,RC]
def marked(o:cd)(m:Bool):cd:=cd.mk o.Rt o.so o.box o.Rx o.dV o.c6 o.Ro o.eh o.ef m o.dk o.Rm o.Ri
def j6(h:df)(i:Int):df:=if fW h&&(dy i 0 9&&((nth h.ag i).so != 0))then df.mk (h.ag.set i.toNat (marked (nth h.ag i) ((h.gc.Rj==0) || decide (i>=h.gc.Rs)))) h.gc else h
theorem D0{N:Nat}(hN:dg<=N){h:df}(h1:eQ dA h.ag<dg)(h2:h.gc.da.length<dg)(i:Int):qW N h i=some (j6 h i):=by
  unfold qW j6;simp only[vm hN h1 h2,xw hN h1 h2,sn,RB];cases q:fW h
  · rfl
  cases hi:dy i 0 9
  · rfl
  have hr:=dI.1 hi;simp only[RD,((lH q).at hr.1 hr.2).1,RB,RF];cases(nth h.ag i).so != 0
  · rfl
  · cases h.gc.Rj==0<;>rfl
theorem D5{N:Nat}(hN:dg<=N){h:df}(h1:eQ dA h.ag<dg)(h2:h.gc.da.length<dg)(hw:wA h.ag)(i:Int):qJ N h i=some (j6 h i):=by
  unfold qJ j6;simp only[wF hN h1 h2,xR hN h1 h2 hw,pM,RB,bne];cases q:fW h
  · rfl
  cases hi:dy i 0 9
  · rfl
  have hr:=dI.1 hi;simp only[RE,RC,((lH q).at hr.1 hr.2).1,RB,RF];cases(nth h.ag i).so==0
  · cases h.gc.Rj==0<;>rfl
  · rfl
def better(p:bh)(v i:Int):Int:=if decide ((sc p i).du<=(sc p v).du)then i else v
def ma(p:bh)(now:Int):Int:=match threads p now with
  | a::b::l=>(b::l).foldl (better p) a
  | _=>-1
theorem Bj{p:bh}{m:List Int}:∀(l:List Int) (v:Int),v∈m->(∀y,y∈l->y∈m)->l.foldl (better p) v∈m
  | [],v,hv,_=>hv
  | y::l,v,hv,h=>by
    rw[List.foldl_cons];refine Bj l _ ?_ fun z hz=>h z (by simp[hz]);unfold better;split
    · exact h y (by simp)
    · exact hv
theorem qR{p:bh}{now:Int}(h:decide (ma p now>=0)=true):ma p now∈threads p now:=by
  unfold ma at h⊢
  cases ht:threads p now with
  | nil=>rw[ht]at h;simp at h
  | cons a l=>cases l with
    | nil=>rw[ht]at h;simp at h
    | cons b l=>exact Bj (b::l) a (by simp) fun y hy=>by simp at hy⊢;exact .inr hy
theorem NR{N:Nat}(hN:dg<=N){p:bh}{l:List Int}(hl:l.length<dg){body:Int×Int->Option ((Int×Int)⊕(Int×Int))}(hm:∀y,y∈l->y∈l){v0:Int}(I:Int->Prop)(h0:I v0)
    (hs:∀(k:Nat) (v y:Int),l[k]?=some y->k<l.length->I v->body (v,(k:Int))=some (.inl (better p v y,((k+1:Nat):Int)))/\I (better p v y)) (he:∀v,body (v,(l.length:Int))=some (.inr (v,(l.length:Int)))) :
    iter body N (v0,0)=some (l.foldl (better p) v0,(l.length:Int)):=by
  rw[show(v0,(0:Int))=(fun(k:Nat) (v:Int)=>(v,(k:Int))) 0 v0 from rfl,
    gC l (fun(k:Nat) (v:Int)=>(v,(k:Int))) (fun _ v y=>better p v y) (fun v=>(v,(l.length:Int))) (fun _ v=>I v) (fun k v y hy hk hI=>hs k v y hy hk hI) (fun v _=>he v) (Nat.lt_of_lt_of_le hl hN) h0,jC]
theorem qS{p:bh}{now y:Int}(h:y∈threads p now):dJ p=true/\0<=y/\y<=9:=lk h
theorem LR{N:Nat}(hN:dg<=N){p:bh}(hb:dH p<dg)(now:Int):ti N p now=some (ma p now):=by
  have hl:=pA p now;unfold ti ma;rw[yk hN hb,RB]
  cases ht:threads p now with
  | nil=>rfl
  | cons a l=>cases l with
    | nil=>rfl
    | cons b l =>
      have hm:∀y,y∈a::b::l->dJ p=true/\0<=y/\y<=9:=fun y hy=>qS (by rw[ht];exact hy);rw[ht]at hl;rw[show decide ((((a::b::l).length:Nat):Int)<2)=false by simp;omega,show idx (a::b::l) 0=some a from rfl];simp only[RC,RB];rw[NR hN (p:=p) (l:=a::b::l) hl (fun _ h=>h) (fun v=>dJ p=true/\0<=v/\v<=9) (hm a (by simp))]
      · have e:better p a a=a:=by unfold better;split<;>rfl
        rw[RB,List.foldl_cons,e]
      · intro k v y hy hk hI;obtain⟨hp,y0,y9⟩:=hm y (List.mem_of_getElem? hy);refine⟨?_,?_⟩
        · simp only[eD hk,RD,dQ,hy,RB,zE hN hp y0 y9,zE hN hp hI.2.1 hI.2.2,eL (Nat.lt_trans hk hl)];unfold better;cases decide ((sc p y).du<=(sc p v).du)<;>rfl
        · unfold better;split
          · exact⟨hp,y0,y9⟩
          · exact hI
      · intro v;simp only[eE,RC]
theorem Mc{N:Nat}(hN:dg<=N){p:bh}(hb:dH p<dg)(hw:wP p)(now:Int):s7 N p now=some (ma p now):=by
  have hl:=pA p now;have hB:(16777216:Nat)=dg:=rfl;unfold s7 ma;rw[wo hN hb hw,RB]
  cases ht:threads p now with
  | nil=>rfl
  | cons a l=>cases l with
    | nil=>rfl
    | cons b l =>
      have hm:∀y,y∈a::b::l->dJ p=true/\0<=y/\y<=9:=fun y hy=>qS (by rw[ht];exact hy);rw[ht]at hl;rw[show decide ((((a::b::l).length:Nat):Int)<2)=false by simp;omega];simp only[RC];obtain⟨hpa,a0,a9⟩:=hm a (by simp)
      have step:∀(k:Nat) (v y:Int),(a::b::l)[k]?=some y->k<(a::b::l).length->(v=-1\/0<=v/\v<=9) ->
          (bif(decide ((k:Int)<(((a::b::l).length:Nat):Int)))then((bif(decide (v<0))then(some true)else((idx (a::b::l) (k:Int)).bind fun y14=>(idx p.heap.ag y14).bind fun y27=>(idx p.heap.ag v).bind fun y45=>(kM N p y27.Rx).bind fun y63=>(idx p.Rh y63).bind fun y65=>(kM N p y45.Rx).bind fun y74=>(idx p.Rh y74).bind fun y76=>some (decide (y65.dP.du<=y76.dP.du))):Option Bool).bind fun j11=>bif j11 then((idx (a::b::l) (k:Int)).bind fun y87=>some (.inl (y87,i64.wrap ((k:Int)+1))))else(some (.inl (v,i64.wrap ((k:Int)+1)))))else(some (.inr (v,(k:Int)))):Option ((Int×Int)⊕(Int×Int))) =
          some (.inl (if decide (v<0)then y else better p v y,((k+1:Nat):Int))):=by
        intro k v y hy hk hv;obtain⟨hp,y0,y9⟩:=hm y (List.mem_of_getElem? hy);simp only[eD hk,RD,dQ,hy,RB,eL (Nat.lt_trans hk hl)];cases hd:decide (v<0)
        · have hv:0<=v/\v<=9:=by simp at hd;omega
          obtain⟨r0,r4⟩:=sK p (nth p.heap.ag y).Rx;obtain⟨q0,q4⟩:=sK p (nth p.heap.ag v).Rx;simp only[RC,((eX hp).at y0 y9).1,((eX hp).at hv.1 hv.2).1,xh hN,w9 hp r0 r4,w9 hp q0 q4,RB,Bool.false_eq_true,if_false];unfold better;rw[show(nth p.Rh (iq p (nth p.heap.ag y).Rx)).dP.du=(sc p y).du from rfl,show(nth p.Rh (iq p (nth p.heap.ag v).Rx)).dP.du=(sc p v).du from rfl];cases decide ((sc p y).du<=(sc p v).du)<;>rfl
        · rfl
      rw[show((-1:Int),(0:Int))=(fun(k:Nat) (v:Int)=>(v,(k:Int))) 0 (-1) from rfl,
        gC (a::b::l) (fun(k:Nat) (v:Int)=>(v,(k:Int))) (fun _ v y=>if decide (v<0)then y else better p v y) (fun v=>(v,(((a::b::l).length:Nat):Int))) (fun _ v=>v=-1\/0<=v/\v<=9) ?_ ?_ (by omega) (.inl rfl),jC]
      · simp only[RB];congr 1
        have key:∀(m:List Int) (v:Int),0<=v->(∀y,y∈m->0<=y)->m.foldl (fun v y=>if decide (v<0)then y else better p v y) v=m.foldl (better p) v:=by
          intro m
          induction m with
          | nil=>intro v _ _;rfl
          | cons y m ih =>
            intro v hv hy
            have hd:decide (v<0)=false:=by simp;omega
            simp only[List.foldl_cons,hd,Bool.false_eq_true,if_false];refine ih _ ?_ fun z hz=>hy z (by simp[hz]);unfold better;split
            · exact hy y (by simp)
            · exact hv
        rw[List.foldl_cons];exact key (b::l) a a0 fun y hy=>(hm y (by simp at hy⊢;exact .inr hy)).2.1
      · intro k v y hy hk hI;refine⟨step k v y hy hk hI,.inr ?_⟩;obtain⟨hp,y0,y9⟩:=hm y (List.mem_of_getElem? hy);split
        · exact⟨y0,y9⟩
        · rename_i hd;unfold better;split
          · exact⟨y0,y9⟩
          · simp at hd;omega
      · intro v _;simp only[eE,RC]
def jy(p:bh)(l:List cd):bh:=bh.mk p.Rg p.own p.Rh (df.mk l p.heap.gc) p.dc p.Rr p.Rq p.db p.dx p.Rp
def k6(o:cd)(t:Int):cd:=cd.mk o.Rt o.so o.box o.Rx t o.c6 o.Ro o.eh o.ef o.mark o.dk o.Rm o.Ri
def oe(p:bh)(now:Int):List cd:=if decide (ma p now>=0)then p.heap.ag.set (ma p now).toNat (k6 (nth p.heap.ag (ma p now)) (i64.wrap (now-1)))else p.heap.ag
def fQ(p:bh)(now:Int):bh:=if dJ p&&(dy now 1 1000000&&!decide (p.dx<3))then bh.mk p.Rg p.own p.Rh (df.mk (oe p now) p.heap.gc) p.dc p.Rr p.Rq p.db 0 p.Rp else p
theorem Jc{N:Nat}(hN:dg<=N){p:bh}(hb:dH p<dg)(now:Int):qm N p now=some (fQ p now):=by
  unfold qm fQ oe;simp only[oH hN hb,sv hN hb,kq,LR hN hb,RB,gX];cases hp:dJ p
  · rfl
  cases dy now 1 1000000
  · rfl
  cases decide (p.dx<3)
  · cases hv:decide (ma p now>=0)
    · rfl
    · obtain⟨_,v0,v9⟩:=lk (qR hv);simp only[RE,Bool.or_self,RC,RD,((eX hp).at v0 v9).1,RB,if_true];rfl
  · rfl
theorem Iw{N:Nat}(hN:dg<=N){p:bh}(hb:dH p<dg)(hw:wP p)(now:Int):pP N p now=some (fQ p now):=by
  unfold pP fQ oe;simp only[pZ hN hb,sr hN hb hw,jK,Mc hN hb hw,RB,gX];cases hp:dJ p
  · rfl
  cases dy now 1 1000000
  · rfl
  cases decide (p.dx<3)
  · cases hv:decide (ma p now>=0)
    · rfl
    · obtain⟨_,v0,v9⟩:=lk (qR hv);simp only[RE,Bool.or_self,RC,RD,((eX hp).at v0 v9).1,RB,if_true];rfl
  · rfl
def xK(l:List cd)(now part h:Int):Bool:=(fT l&&(kP h&&(iU h==part)))&&(((nth l (kD h)).so != 0)&&(((nth l (kD h)).Rt==sB h)&&nth (reach l now) (kD h)))
def dt(l:List cd)(now part h:Int):Int:=bif xK l now part h then kD h else -1
theorem As{h:Int}(q:kP h=true):0<=kD h/\kD h<=9:=(y5 (h:=h) (by unfold iU;rw[q,if_pos rfl];rw[xu]at q;omega)).2
theorem vk{N:Nat}(hN:dg<=N){l:List cd}(hb:eQ dA l<dg)(now part h:Int):lF N l now part h=some (dt l now part h):=by
  unfold lF dt xK;simp only[Hj hN hb,oE,tm,zf,zS,RB,gX];cases ha:fT l
  · have e:reach l now=[]:=by unfold reach;rw[ha];rfl
    rw[e];rfl
  have har:=fu.1 ha;have hl:=kU har now;rw[show(((reach l now).length:Int)==0)=false by rw[hl];rfl,show dy h 0 29999=kP h from rfl];cases hh:kP h
  · rfl
  obtain⟨s0,s9⟩:=As hh;simp only[bne,(har.at s0 s9).1,eU (l:=reach l now) s0 (by omega),RB];cases iU h==part<;>cases(nth l (kD h)).so==0<;>cases(nth l (kD h)).Rt==sB h<;>cases nth (reach l now) (kD h)<;>rfl
theorem vt{N:Nat}(hN:dg<=N){l:List cd}(hb:eQ dA l<dg)(hw:wA l)(now part h:Int):lK N l now part h=some (dt l now part h):=by
  unfold lK dt xK;simp only[pL hN hb hw,BP hN hb hw,qz,tW,yI,Ab,RB,gX];cases ha:fT l
  · rfl
  have har:=fu.1 ha;have hl:=kU har now;rw[show dy h 0 29999=kP h from rfl];cases hh:kP h
  · rfl
  obtain⟨s0,s9⟩:=As hh;simp only[bne,(har.at s0 s9).1,eU (l:=reach l now) s0 (by omega),RB];cases iU h==part<;>cases(nth l (kD h)).so==0<;>cases(nth l (kD h)).Rt==sB h<;>cases nth (reach l now) (kD h)<;>rfl
def uw(p:bh)(me now:Int)(o:cd):Bool:=decide (o.Ro>0)&&decide (dt p.heap.ag now me (i64.wrap (o.Ro-1))<0)
def xH(o:cd):cd:=cd.mk o.Rt o.so o.box o.Rx o.dV o.c6 0 (-1) o.ef o.mark o.dk o.Rm o.Ri
def nw(p:bh)(me now:Int):List cd:=p.heap.ag.map fun o=>if uw p me now o then xH o else o
def gD(p:bh)(me now:Int):bh:=if dJ p&&dy me 0 2 then jy p (nw p me now)else p
theorem ss{α:Type}{body:List α×Int->Option ((List α×Int)⊕(List α×Int))}(x:List α)(f:α->α){N:Nat}(hN:x.length<N)
    (hs:∀(k:Nat) (t:List α) (y:α),t.length=x.length->t[k]?=some y->x[k]?=some y->k<x.length->body (t,(k:Int))=some (.inl (t.set k (f y),((k+1:Nat):Int))))
    (he:∀t,t.length=x.length->body (t,(x.length:Int))=some (.inr (t,(x.length:Int)))):iter body N (x,0)=some (x.map f,(x.length:Int)):=by
  have key:∀(r:List α) (d d':List α) (M:Nat),d'.length=d.length->x=d'++r->r.length<M->iter body M (d++r,(d.length:Int))=some (d++r.map f,(x.length:Int)):=by
    intro r
    induction r with
    | nil =>
      intro d d' M hd hx hM
      cases M with
      | zero=>simp at hM
      | succ M =>
        have e:d.length=x.length:=by rw[hx];simp[hd]
        unfold iter;rw[List.append_nil,e,he d e];simp
    | cons y r ih =>
      intro d d' M hd hx hM
      cases M with
      | zero=>simp at hM
      | succ M =>
        have hlen:(d++y::r).length=x.length:=by rw[hx];simp[hd]
        unfold iter;rw[hs d.length (d++y::r) y hlen (by rw[List.getElem?_append_right (Nat.le_refl _)];simp) (by rw[hx,List.getElem?_append_right (by omega)];simp[hd]) (by rw[<- hlen];simp)]
        have e:(d++y::r).set d.length (f y)=(d++[f y])++r:=by rw[List.set_append_right _ _ (Nat.le_refl _)];simp
        have e2:d.length+1=(d++[f y]).length:=by simp
        simp only[RB,e];rw[e2,ih (d++[f y]) (d'++[y]) M (by simp[hd]) (by rw[hx];simp) (by simp at hM;omega)];simp
  exact key x [] [] N rfl rfl hN
theorem kJ{α:Type}{l:List α}{k:Nat}{y:α}(h:l[k]?=some y):l.set k y=l:=by
  apply List.ext_getElem? fun i=>?_;rw[List.getElem?_set];split
  · rename_i e;subst e;rw[if_pos (eA h),h]
  · rfl
theorem I8{N:Nat}(hN:dg<=N){p:bh}(hb:dH p<dg)(me now:Int):qx N p me now=some (gD p me now):=by
  have h4:=(gO hb).2.2.2.1;have hl:=gW h4;unfold qx gD nw jy;simp only[oH hN hb,sv hN hb,x5,RB,gX];cases hp:dJ p
  · rfl
  cases dy me 0 2
  · rfl
  simp only[RE,Bool.or_self,RC,Bool.and_self,if_true];rw[ss p.heap.ag (fun o=>if uw p me now o then xH o else o) (Nat.lt_of_lt_of_le hl hN)]
  · rfl
  · intro k t y ht hty hy hk;simp only[eD hk,RD,dQ,hy,hty,RB,vk hN h4,iI,eL (Nat.lt_trans hk hl),Int.toNat_natCast,List.getElem?_set_self (show k<t.length by omega),List.set_set];rw[show(decide (y.Ro>0)&&decide (dt p.heap.ag now me (i64.wrap (y.Ro-1))<0))=uw p me now y from rfl];cases uw p me now y
    · simp[kJ hty]
    · rfl
  · intro t ht;simp only[eE,RC]
theorem Ij{N:Nat}(hN:dg<=N){p:bh}(hb:dH p<dg)(hw:wP p)(me now:Int):qu N p me now=some (gD p me now):=by
  have h4:=(gO hb).2.2.2.1;have hl:=gW h4;unfold qu gD nw jy;simp only[pZ hN hb,sr hN hb hw,jK,RB,gX];cases hp:dJ p
  · rfl
  cases dy me 0 2
  · rfl
  simp only[RE,Bool.or_self,RC,Bool.and_self,if_true];rw[ss p.heap.ag (fun o=>if uw p me now o then xH o else o) (Nat.lt_of_lt_of_le hl hN)]
  · rfl
  · intro k t y ht hty hy hk;simp only[ht,eD hk,RD,dQ,hy,hty,RB,vt hN h4 hw,iI,eL (Nat.lt_trans hk hl),Int.toNat_natCast,List.getElem?_set_self (show k<t.length by omega),List.set_set];rw[show(decide (y.Ro>0)&&decide (dt p.heap.ag now me (i64.wrap (y.Ro-1))<0))=uw p me now y from rfl];cases uw p me now y
    · simp[kJ hty]
    · rfl
  · intro t ht;simp only[ht,eE,RC]
theorem Fc{f:cd->Nat}{g:cd->cd}(h:∀o,f (g o)=f o):∀l:List cd,mR f (l.map g)=mR f l
  | []=>rfl
  | o::l=>by simp only[List.map_cons,mR,h,Fc h l]
theorem Hw{f:cd->Nat}{g:cd->cd}(h:∀o,f (g o)=f o)(l:List cd):eQ f (l.map g)=eQ f l:=by
  unfold eQ;rw[Fc h,List.length_map]
theorem BX(p:bh)(me now:Int):dH (gD p me now)=dH p:=by
  unfold gD;split
  · unfold dH jy mH nw;simp only;rw[Hw fun o=>by split<;>rfl]
  · rfl
theorem BT(p:bh)(now:Int):dH (fQ p now)<=dH p+100:=by
  unfold fQ;split
  · rename_i h;simp only[RG]at h
    have hsz:eQ dA (oe p now)<=eQ dA p.heap.ag+12:=by
      unfold oe;split
      · rename_i hv;obtain⟨_,v0,v9⟩:=lk (qR hv);have:=xX ((eX h.1).ok _ ((eX h.1).at v0 v9).2);exact Nat.le_trans xl (Nat.add_le_add_left this _)
      · omega
    unfold dH mH;simp only;omega
  · omega
def iA(w n:Int):de:=if w==0 then⟨n,0,0⟩else if w==1 then⟨0,n,0⟩else if w==2 then⟨0,0,n⟩else⟨0,0,0⟩
theorem xI(N:Nat)(w n:Int):mb N w n=some (iA w n):=by
  unfold mb iA;cases w==0<;>cases w==1<;>cases w==2<;>rfl
theorem FP(N:Nat)(w n:Int):qX N w n=some (iA w n):=by
  unfold qX iA;cases w==0<;>cases w==1<;>cases w==2<;>rfl
def jH(a b:de):Bool:=dT a&&(dT b&&(decide (a.c6<=b.c6)&&(decide (a.dh<=b.dh)&&decide (a.du<=b.du))))
theorem JL(N:Nat)(a b:de):rS N a b=some (jH a b):=by
  unfold rS jH;simp only[pD,RB,iI]
theorem Ka(N:Nat)(a b:de):ri N a b=some (jH a b):=by
  unfold ri jH;simp only[pC,RB,iI]
def xB(a b:de):de:=⟨i64.wrap (a.c6-b.c6),i64.wrap (a.dh-b.dh),i64.wrap (a.du-b.du)⟩
def xp(a b:de):de×Bool:=if jH b a then(xB a b,true)else(a,false)
theorem Lv(N:Nat)(a b:de):tT N a b=some (xp a b):=by
  unfold tT xp;rw[JL,RB];cases jH b a<;>rfl
theorem LM(N:Nat)(a b:de):tP N a b=some (xp a b):=by
  unfold tP xp;rw[Ka,RB];cases jH b a<;>rfl
def jR(r:dp)(b:de):dp:=dp.mk r.Ru r.Rv b
theorem fO{α:Type}[dv α]{l:List α}{i:Int}(h0:0<=i)(h1:i<(l.length:Int)):l[i.toNat]?=some (nth l i):=by
  have:=eU (l:=l) h0 h1;unfold idx at this
  rwa[if_pos h0]at this
def eI(t:List dp)(f:Int)(a:de):List dp×Bool :=
  if fH t&&ei t f then(if jH a (nth t f).dP then(t.set f.toNat (jR (nth t f) (xB (nth t f).dP a)),true)else(t,false))else(t,false)
theorem uD{N:Nat}(hN:dg<=N){t:List dp}(hB:t.length<dg)(f:Int)(a:de):lq N t f a=some (eI t f a):=by
  unfold lq eI;simp only[nn hB,qe hN,RB];cases ht:fH t
  · rfl
  have hl:=oc ht;simp only[RE,RC,qq N hl,RB];cases hv:ei t f
  · rfl
  obtain⟨f0,f4⟩:=hY hv;simp only[RE,RC,eU (l:=t) f0 (by omega),Lv,RB,Bool.and_self,if_true];unfold xp;cases jH a (nth t f).dP
  · have:t.set f.toNat (dp.mk (nth t f).Ru (nth t f).Rv (de.mk (nth t f).dP.c6 (nth t f).dP.dh (nth t f).dP.du))=t:=kJ (fO f0 (by omega));simp only[Bool.false_eq_true,if_false];rw[this]
  · rfl
theorem sR{N:Nat}(hN:dg<=N){t:List dp}(hB:t.length<dg)(f:Int)(a:de):kv N t f a=some (eI t f a):=by
  unfold kv eI;simp only[nG hB,sj hN,RB];cases h:(fH t&&ei t f)
  · rfl
  rw[RG]at h;have hl:=oc h.1;obtain⟨f0,f4⟩:=hY h.2;simp only[RE,RC,eU (l:=t) f0 (by omega),LM,RB,if_true];unfold xp;cases jH a (nth t f).dP<;>rfl
theorem jD(t:List dp)(f:Int)(a:de):(eI t f a).1.length=t.length:=by
  unfold eI;split
  · split<;>simp
  · rfl
def xQ(last pick:Int):Int->Int->List Int->Int
  | least,next,[]=>if decide (next>=0)then next else least
  | least,next,y::l=>if decide (y<0)then xQ last pick least next l else if y==pick then y else
      xQ last pick (if decide (least<0) || decide (y<least)then y else least) (if decide (y>last)&&(decide (next<0) || decide (y<next))then y else next) l
def qD(l:List Int)(last pick:Int):Int:=xQ last pick (-1) (-1) l
theorem Ap{last pick:Int}{P:Int->Prop}:∀(l:List Int) (a b:Int),P a->P b->(∀y,y∈l->P y)->P (xQ last pick a b l)
  | [],a,b,ha,hb,_=>by unfold xQ;split<;>assumption
  | y::l,a,b,ha,hb,h=>by
    have hy:=h y (by simp);have hl:∀z,z∈l->P z:=fun z hz=>h z (by simp[hz]);unfold xQ;split
    · exact Ap l a b ha hb hl
    · split
      · exact hy
      · refine Ap l _ _ ?_ ?_ hl
        · split<;>assumption
        · split<;>assumption
theorem zR(l:List Int)(last pick:Int)(h:decide (qD l last pick<0)=false):qD l last pick∈l:=by
  have:=Ap (last:=last) (pick:=pick) (P:=fun y=>y=-1\/y∈l) l (-1) (-1) (.inl rfl) (.inl rfl) fun y hy=>.inr hy
  rcases this with q|q
  · unfold qD at h;rw[q]at h;simp at h
  · exact q
theorem Kh{N:Nat}(hN:dg<=N){l:List Int}(hl:l.length<dg)(last pick:Int){body:Int×Int×Int->Option ((Int×Int×Int)⊕((Int×Int×Int)⊕Int))}
    (hs:∀(k:Nat) (a b y:Int),l[k]?=some y->k<l.length->body (a,b,(k:Int))=some (if decide (y<0)then .inl (a,b,((k+1:Nat):Int))else if y==pick then .inr (.inr y)else
      .inl (if decide (a<0) || decide (y<a)then y else a,if decide (y>last)&&(decide (b<0) || decide (y<b))then y else b,((k+1:Nat):Int)))) (he:∀a b,body (a,b,(l.length:Int))=some (.inr (.inl (a,b,(l.length:Int))))) :
    (iter body N (-1, -1,0)).bind (fun o29=>Sum.elim (fun o29=>bif(decide (o29.2.1>=0))then(some o29.2.1)else(some o29.1)) (fun r33=>some r33) o29)=some (qD l last pick):=by
  rw[show((-1:Int),(-1:Int),(0:Int))=(fun(k:Nat) (t:Int×Int)=>(t.1,t.2,(k:Int))) 0 (-1, -1) from rfl,
    kS l (fun(k:Nat) (t:Int×Int)=>(t.1,t.2,(k:Int))) (fun _ t y=>if decide (y<0)then .inl t else if y==pick then .inr (.inr y)else .inl (if decide (t.1<0) || decide (y<t.1)then y else t.1,if decide (y>last)&&(decide (t.2<0) || decide (y<t.2))then y else t.2)) (fun t=>.inl (t.1,t.2,(l.length:Int))) (fun _ _=>True) ?_ ?_ (Nat.lt_of_lt_of_le hl hN) trivial]
  · simp only[RB]
    have key:∀(m:List Int) (k:Nat) (t:Int×Int),Sum.elim (fun(o29:Int×Int×Int)=>bif(decide (o29.2.1>=0))then(some o29.2.1)else(some o29.1)) (fun r33=>some r33) (kf (ρ:=(Int×Int×Int)⊕Int) (fun _ t y=>if decide (y<0)then .inl t else if y==pick then .inr (.inr y)else .inl (if decide (t.1<0) || decide (y<t.1)then y else t.1,if decide (y>last)&&(decide (t.2<0) || decide (y<t.2))then y else t.2)) (fun t=>.inl (t.1,t.2,(l.length:Int))) k t m)=some (xQ last pick t.1 t.2 m):=by
      intro m
      induction m with
      | nil =>
        intro k t;unfold kf xQ;simp only[Sum.elim_inl];cases decide (t.2>=0)<;>rfl
      | cons y m ih =>
        intro k t;unfold kf xQ;cases decide (y<0)
        · cases y==pick
          · exact ih (k+1) _
          · rfl
        · exact ih (k+1) t
    exact key l 0 (-1, -1)
  · intro k t y hy hk _;refine⟨?_,fun _ _=>trivial⟩;rw[hs k t.1 t.2 y hy hk];cases decide (y<0)
    · cases y==pick<;>rfl
    · rfl
  · intro t _;exact he t.1 t.2
theorem KZ{N:Nat}(hN:dg<=N){l:List Int}(hl:l.length<dg)(last pick:Int):rL N l last pick=some (qD l last pick):=by
  unfold rL;refine Kh hN hl last pick ?_ ?_
  · intro k a b y hy hk;simp only[eD hk,RD,dQ,hy,RB,eL (Nat.lt_trans hk hl)];cases decide (y<0)<;>cases y==pick<;>cases decide (a<0)<;>cases decide (y<a)<;>cases decide (y>last)<;>cases decide (b<0)<;>cases decide (y<b)<;>rfl
  · intro a b;simp only[eE,RC]
theorem Lk{N:Nat}(hN:dg<=N){l:List Int}(hl:l.length<dg)(last pick:Int):rV N l last pick=some (qD l last pick):=by
  unfold rV;refine Kh hN hl last pick ?_ ?_
  · intro k a b y hy hk;simp only[eD hk,RD,dQ,hy,RB,eL (Nat.lt_trans hk hl)];cases h1:decide (y<0)
    · cases h2:y==pick
      · cases decide (a<0)<;>cases decide (y<a)<;>cases decide (y>last)<;>cases decide (b<0)<;>cases decide (y<b)<;>rfl
      · have:y=pick:=by simpa using h2
        rw[this];rfl
    · rfl
  · intro a b;simp only[eE,RC]
def sX(o:cd):cd:=cd.mk o.Rt o.so o.box o.Rx o.dV o.c6 o.Ro o.eh (i64.wrap (o.ef+1)) o.mark o.dk o.Rm o.Ri
def gS(p:bh)(now:Int):Int:=qD (runnable p now) p.Rr (i64.wrap (p.Rq-1))
def pH(p:bh)(now:Int):Bool:=decide (gS p now<0) || (decide (p.db.du>=1000000) || decide ((nth p.heap.ag (gS p now)).ef>=1000000))
def iL(p:bh)(now:Int):bh×Int :=
  if dJ p then
    (if pH p now then(bh.mk p.Rg p.own p.Rh p.heap p.dc p.Rr 0 p.db p.dx p.Rp, -1)else
      (bh.mk p.Rg p.own (eI p.Rh (iq p (nth p.heap.ag (gS p now)).Rx) ⟨0,0,1⟩).1 (df.mk (p.heap.ag.set (gS p now).toNat (sX (nth p.heap.ag (gS p now)))) p.heap.gc) p.dc (gS p now) 0
        (de.mk p.db.c6 p.db.dh (i64.wrap (p.db.du+1))) p.dx p.Rp,gS p now))
  else(p, -1)
theorem wL{p:bh}{now:Int}(h:decide (gS p now<0)=false):dJ p=true/\0<=gS p now/\gS p now<=9:=by
  have:=zR _ _ _ h;unfold runnable at this;exact lk (List.mem_filter.1 this).1
theorem JQ{o:cd}(h:eG o=true):0<=o.ef/\o.ef<=1000000:=by
  unfold eG at h;cases hk:o.so==0
  · simp only[hk,RC,RG]at h;have h:=h.2.2.2.2.2.2.2;cases h4:o.so != 4
    · rw[h4]at h;simp only[RC,RG]at h;exact dI.1 h.2.2
    · rw[h4]at h;simp only[RD,RG,beq_iff_eq]at h;omega
  · simp only[hk,RD,RG,decide_eq_true_eq]at h;rw[h.2.2];exact⟨Int.le_refl _,by show(0:Int)<=1000000;decide⟩
theorem J9{n:Int}(h:n<=1000000):(n==1000000)=decide (n>=1000000):=by
  rw[Bool.eq_iff_iff];simp;omega
theorem uX{a:de}(h:dT a=true):(0<=a.c6/\a.c6<=1000000)/\(0<=a.dh/\a.dh<=1000000)/\(0<=a.du/\a.du<=1000000):=by
  unfold dT uW at h;simpa only[RG,dI]using h
theorem mI{p:bh}(h:dJ p=true):dT p.db=true:=by
  unfold dJ nZ at h;simp only[RG]at h;exact h.2.2.2.2.2.2.2.2.1
theorem Kd{N:Nat}(hN:dg<=N){p:bh}(hb:dH p<dg)(now:Int):rD N p now=some (iL p now):=by
  have hr:(runnable p now).length<dg:=Nat.lt_of_le_of_lt (yP p now) (by decide);unfold rD iL;simp only[oH hN hb,sv hN hb,IM hN hb,KZ hN hr,RB];cases hp:dJ p
  · rfl
  simp only[RE,RC,if_true];rw[show qD (runnable p now) p.Rr (i64.wrap (p.Rq-1))=gS p now from rfl];unfold pH;have hsp:=uX (mI hp);cases hn:decide (gS p now<0)
  · obtain⟨_,n0,n9⟩:=wL hn;obtain⟨e1,e2⟩:=(eX hp).at n0 n9;have hran:=JQ ((eX hp).ok _ e2);simp only[RC,e1,RB,J9 hsp.2.2.2,J9 hran.2,xI,BW hN,uD hN (gO hb).2.2.1,sN,Bool.false_or];cases decide (p.db.du>=1000000)
    · cases decide ((nth p.heap.ag (gS p now)).ef>=1000000)
      · have ea:dX p.db (iA 2 1)=de.mk p.db.c6 p.db.dh (i64.wrap (p.db.du+1)):=by
          show de.mk (i64.wrap (p.db.c6+0)) (i64.wrap (p.db.dh+0)) (i64.wrap (p.db.du+1))=_
          rw[dE (n:=p.db.c6+0) (by omega) (by omega),dE (n:=p.db.dh+0) (by omega) (by omega),Int.add_zero,Int.add_zero]
        rw[ea];rfl
      · rfl
    · rfl
  · rfl
theorem KP{N:Nat}(hN:dg<=N){p:bh}(hb:dH p<dg)(hw:wP p)(now:Int):rp N p now=some (iL p now):=by
  have hr:(runnable p now).length<dg:=Nat.lt_of_le_of_lt (yP p now) (by decide);unfold rp iL;simp only[pZ hN hb,sr hN hb hw,Jo hN hb hw,Lk hN hr,RB];cases hp:dJ p
  · rfl
  simp only[RE,RC,if_true];rw[show qD (runnable p now) p.Rr (i64.wrap (p.Rq-1))=gS p now from rfl];unfold pH;cases hn:decide (gS p now<0)
  · obtain⟨_,n0,n9⟩:=wL hn;obtain⟨e1,e2⟩:=(eX hp).at n0 n9;simp only[RC,e1,RB,xh hN,sR hN (gO hb).2.2.1,Bool.false_or];cases decide (p.db.du>=1000000)
    · cases decide ((nth p.heap.ag (gS p now)).ef>=1000000)<;>rfl
    · rfl
  · rfl
theorem Oz(p:bh)(now:Int):dH (iL p now).1<=dH p+100:=by
  unfold iL;split
  · rename_i hp;split
    · exact Nat.le_add_right _ _
    · rename_i hn;unfold pH at hn;simp only[Bool.or_eq_true,not_or,Bool.not_eq_true]at hn;obtain⟨_,n0,n9⟩:=wL hn.1;have h1:=xX ((eX hp).ok _ ((eX hp).at n0 n9).2);have h2:eQ dA (p.heap.ag.set (gS p now).toNat (sX (nth p.heap.ag (gS p now))))<=eQ dA p.heap.ag+12:=Nat.le_trans xl (Nat.add_le_add_left h1 _);have h3:=jD p.Rh (iq p (nth p.heap.ag (gS p now)).Rx) ⟨0,0,1⟩;unfold dH mH;simp only[h3];omega
  · exact Nat.le_add_right _ _
def tG(i:Int)(x:Int):Int:=if x==i then -1 else x
def kR(i:Int)(o:cd):cd:=if o.so==0 then o else cd.mk o.Rt o.so (if o.box==i then -1 else o.box) o.Rx o.dV o.c6 o.Ro o.eh o.ef o.mark (o.dk.map (tG i)) o.Rm o.Ri
def jx(l:List cd)(i:Int):List cd×Bool:=if fT l&&(dy i 1 9&&((nth l i).so != 0))then((l.set i.toNat (blank (nth l i).Rt)).map (kR i),true)else(l,false)
theorem EL{l:List cd}(h:Ar l){i g:Int}{k:Nat}{y:cd}(hy:(l.set i.toNat (blank g))[k]?=some y)(hk:(y.so==0)=false):eG y=true:=by
  rcases List.mem_or_eq_of_mem_set (List.mem_of_getElem? hy)with q|q
  · exact h.ok y q
  · rw[q]at hk;simp[blank]at hk
theorem wD{o:cd}(h:eG o=true)(hk:(o.so==0)=false):o.dk.length=2:=by
  unfold eG at h;simp only[hk,RC,RG]at h;obtain⟨_,_,_,_,_,_,hl,_⟩:=h;unfold jm at hl;simp only[RG,beq_iff_eq]at hl;omega
theorem GY{N:Nat}(hN:dg<=N){l:List cd}(hb:eQ dA l<dg)(i:Int):oP N l i=some (jx l i):=by
  unfold oP jx;simp only[uy hN hb,uK hN hb,kq,RB];cases ha:fT l
  · rfl
  have h:=fu.1 ha;cases hi:dy i 1 9
  · rfl
  have hr:=dI.1 hi;simp only[RE,RC,(h.at (i:=i) (by omega) hr.2).1,RB,bne,RF];cases hk:(nth l i).so==0
  · simp only[RC,Bool.not_false,if_true];rw[show cd.mk (nth l i).Rt 0 0 0 0 0 0 0 0 false [] [] []=blank (nth l i).Rt from rfl];have hlen:(l.set i.toNat (blank (nth l i).Rt)).length=l.length:=List.length_set;rw[ss (l.set i.toNat (blank (nth l i).Rt)) (kR i) (by rw[hlen];exact Nat.lt_of_lt_of_le h.wY hN)]
    · rfl
    · intro k t y ht hty hy hkl
      have hk10:k<10:=by rw[hlen,h.len]at hkl;exact hkl
      have hd:decide ((k:Int)<(l.length:Int))=true:=by simp[h.len];omega
      have hkt:k<t.length:=eA hty;simp only[hd,RD,dQ,hty,RB,eL (show k<dg from Nat.lt_trans hk10 (by decide))];unfold kR;cases hyk:y.so==0
      · have ho:=EL h hy hyk;have h2:=wD ho hyk
        have hLB:y.dk.length<dg:=by rw[h2];decide
        have inner:iter (fun(s124:(List Int)×Int)=>(bif(decide (s124.2<(y.dk.length:Int)))then((idx s124.1 s124.2).bind fun y127=>bif(y127==i)then(some (.inl (s124.1.set (s124.2:Int).toNat (-1),i64.wrap (s124.2+1))))else(some (.inl (s124.1,i64.wrap (s124.2+1)))))else(some (.inr (s124.1,s124.2))):Option (((List Int)×Int)⊕((List Int)×Int)))) N (y.dk,0)=some (y.dk.map (tG i),(y.dk.length:Int)):=by
          rw[ss y.dk (tG i) (Nat.lt_of_lt_of_le hLB hN)]
          · intro j t2 z ht2 hz _ hj;simp only[eD hj,RD,dQ,hz,RB,eL (Nat.lt_trans hj hLB),Int.toNat_natCast];unfold tG;cases z==i
            · simp[kJ hz]
            · rfl
          · intro t2 ht2;simp only[eE,RC]
        simp only[RC,Bool.false_eq_true,if_false];cases hbx:y.box==i
        · simp only[RC,RB,dQ,hty,Bool.false_eq_true,if_false];rw[inner];rfl
        · simp only[RD,RB,Int.toNat_natCast,dQ,List.getElem?_set_self hkt,if_true];rw[inner];simp only[RB,List.set_set]
      · simp only[RD,if_true];rw[kJ hty]
    · intro t ht
      have hd:decide (((l.set i.toNat (blank (nth l i).Rt)).length:Int)<(l.length:Int))=false:=by rw[hlen];simp
      simp only[hd,RC]
  · rfl
theorem Gz{N:Nat}(hN:dg<=N){l:List cd}(hb:eQ dA l<dg)(hw:wA l)(i:Int):oM N l i=some (jx l i):=by
  unfold oM jx;simp only[Aw hN hb,pL hN hb hw,jK,RB];cases ha:fT l
  · rfl
  have h:=fu.1 ha;cases hi:dy i 1 9
  · rfl
  have hr:=dI.1 hi;simp only[RE,RC,(h.at (i:=i) (by omega) hr.2).1,RB,bne,RF];cases hk:(nth l i).so==0
  · simp only[RC,Bool.not_false,if_true];rw[show cd.mk (nth l i).Rt 0 0 0 0 0 0 0 0 false [] [] []=blank (nth l i).Rt from rfl];have hlen:(l.set i.toNat (blank (nth l i).Rt)).length=l.length:=List.length_set;rw[ss (l.set i.toNat (blank (nth l i).Rt)) (kR i) (by rw[hlen];exact Nat.lt_of_lt_of_le h.wY hN)]
    · rfl
    · intro k t y ht hty hy hkl
      have hk10:k<10:=by rw[hlen,h.len]at hkl;exact hkl
      have hkt:k<t.length:=eA hty;simp only[eD hkt,RD,dQ,hty,RB,eL (show k<dg from Nat.lt_trans hk10 (by decide))];unfold kR;cases hyk:y.so==0
      · have ho:=EL h hy hyk;have h2:=wD ho hyk;simp only[RC,Bool.false_eq_true,if_false]
        have inner:∀(t2:List cd) (z:cd),t2.length=t.length->t2[k]?=some z->z.dk.length=2->iter (fun(s90:(List cd)×Int)=>(bif(decide (s90.2<2))then((idx s90.1 (k:Int)).bind fun y93=>(idx y93.dk s90.2).bind fun y115=>bif(y115==i)then(some (.inl ((s90.1.set (k:Int).toNat (cd.mk y93.Rt y93.so y93.box y93.Rx y93.dV y93.c6 y93.Ro y93.eh y93.ef y93.mark (y93.dk.set (s90.2:Int).toNat (-1)) y93.Rm y93.Ri)),i64.wrap (s90.2+1))))else(some (.inl (s90.1,i64.wrap (s90.2+1)))))else(some (.inr (s90.1,s90.2))):Option (((List cd)×Int)⊕((List cd)×Int)))) N (t2,0) =
            some (t2.set k (cd.mk z.Rt z.so z.box z.Rx z.dV z.c6 z.Ro z.eh z.ef z.mark (z.dk.map (tG i)) z.Rm z.Ri),2):=by
          intro t2 z hl2 hz hz2
          have hk2:k<t2.length:=by omega
          obtain⟨a,b,hab⟩:∃a b,z.dk=[a,b]:=by
            match hq:z.dk with
            | []=>simp[hq]at hz2
            | [a]=>simp[hq]at hz2
            | [a,b]=>exact⟨a,b,rfl⟩
            | a::b::c::r=>simp[hq]at hz2
          obtain⟨M,rfl⟩:∃M,N=M+3:=⟨N-3,by have:16777216<=N:=hN;omega⟩;have hset:∀u:cd,(t2.set k u)[k]?=some u:=fun u=>List.getElem?_set_self hk2
          have hid:t2.set k (cd.mk z.Rt z.so z.box z.Rx z.dV z.c6 z.Ro z.eh z.ef z.mark [a,b] z.Rm z.Ri)=t2:=by rw[<- hab];exact kJ hz
          have w1:i64.wrap (0+1)=1:=by decide
          have w2:i64.wrap (1+1)=2:=by decide
          unfold iter;simp only[show decide ((0:Int)<2)=true from rfl,RD,dQ,hz,RB,hab,show idx [a,b] 0=some a from rfl,w1,Int.toNat_natCast];cases hA:a==i
          · simp only[RC,RB];unfold iter;simp only[show decide ((1:Int)<2)=true from rfl,RD,dQ,hz,RB,hab,show idx [a,b] 1=some b from rfl,w2,Int.toNat_natCast];cases hB:b==i
            · simp only[RC,RB];unfold iter;simp[tG,hA,hB,hid]
            · simp only[RD,RB];unfold iter;simp[tG,hA,hB]
          · simp only[RD,RB];unfold iter;simp only[show decide ((1:Int)<2)=true from rfl,RD,dQ,hset,RB,w2,Int.toNat_natCast];rw[show idx ([a,b].set (0:Int).toNat (-1)) 1=some b from rfl];simp only[RB];cases hB:b==i
            · simp only[RC,RB];unfold iter;simp[tG,hA,hB]
            · simp only[RD,RB,List.set_set];unfold iter;simp[tG,hA,hB]
        simp only[dQ,Int.toNat_natCast]at inner⊢;cases hbx:y.box==i
        · simp only[RC,RB,Bool.false_eq_true,if_false];rw[inner t y rfl hty h2];rfl
        · simp only[RD,RB,Int.toNat_natCast,if_true];have e:=inner (t.set k (cd.mk y.Rt y.so (-1) y.Rx y.dV y.c6 y.Ro y.eh y.ef y.mark y.dk y.Rm y.Ri)) (cd.mk y.Rt y.so (-1) y.Rx y.dV y.c6 y.Ro y.eh y.ef y.mark y.dk y.Rm y.Ri) List.length_set (List.getElem?_set_self hkt) h2;rw[e];simp only[RB,List.set_set]
      · simp only[RD,if_true];rw[kJ hty]
    · intro t ht;rw[<- ht];simp only[eE,RC]
  · rfl
def jM(t:List dp)(f:Int)(a:de):List dp×Bool :=
  if fH t&&(dT a&&dT (dX (fV t) a))then
    (t.set (if ei t f then f else 0).toNat (jR (nth t (if ei t f then f else 0)) (dX (nth t (if ei t f then f else 0)).dP a)),true)
  else(t,false)
theorem vL(t:List dp)(f:Int)(a:de):(jM t f a).1.length=t.length:=by
  unfold jM;split<;>simp
theorem xL{N:Nat}(hN:dg<=N){t:List dp}(hB:t.length<dg)(f:Int)(a:de):mF N t f a=some (jM t f a):=by
  unfold mF jM;simp only[nn hB,qe hN,pD,C9 hN hB,sN,RB,gX];cases ht:fH t
  · rfl
  have hl:=oc ht;cases dT a
  · rfl
  cases dT (dX (fV t) a)
  · rfl
  simp only[RE,Bool.or_self,RC,qq N hl,RB,Bool.and_self,if_true];cases hv:ei t f
  · simp only[Bool.not_false,RD,RB,eU (l:=t) (i:=0) (by omega) (by omega),Bool.false_eq_true,if_false];rfl
  · obtain⟨f0,f4⟩:=hY hv;simp only[RE,RC,RB,eU (l:=t) f0 (by omega),if_true];rfl
theorem Ns{n:Int}:uW n=true <-> 0<=n/\n<=1000000:=dI
theorem eO{a:de}:dT a=true <-> (0<=a.c6/\a.c6<=1000000)/\(0<=a.dh/\a.dh<=1000000)/\(0<=a.du/\a.du<=1000000):=by
  unfold dT;simp only[RG,Ns]
theorem qQ:∀(t:List dp) (s:de) (B:Int),(∀r,r∈t->dT r.dP=true)->0<=B->B+1000000*(t.length:Int)<=1000000000->(0<=s.c6/\s.c6<=B)->(0<=s.dh/\s.dh<=B)->(0<=s.du/\s.du<=B) ->
    (s.c6<=(eY s t).c6/\s.dh<=(eY s t).dh/\s.du<=(eY s t).du) /\
      ∀r,r∈t->r.Ru=true->r.dP.c6<=(eY s t).c6/\r.dP.dh<=(eY s t).dh/\r.dP.du<=(eY s t).du
  | [],s,B,_,_,_,_,_,_=>⟨⟨Int.le_refl _,Int.le_refl _,Int.le_refl _⟩,fun r hr=>by simp at hr⟩
  | r::t,s,B,h,hB,hL,h1,h2,h3=>by
    have hr:=eO.1 (h r (by simp));simp only[List.length_cons]at hL;have e:eY s (r::t)=eY (if r.Ru then dX s r.dP else s) t:=rfl;rw[e];cases hv:r.Ru
    · obtain⟨q1,q2⟩:=qQ t s B (fun x hx=>h x (by simp[hx])) hB (by omega) h1 h2 h3;refine⟨q1,fun x hx hl=>?_⟩
      rcases List.mem_cons.1 hx with rfl|hx
      · rw[hv]at hl;cases hl
      · exact q2 x hx hl
    · simp only[if_true];have w1:(dX s r.dP).c6=s.c6+r.dP.c6:=dE (by omega) (by omega);have w2:(dX s r.dP).dh=s.dh+r.dP.dh:=dE (by omega) (by omega);have w3:(dX s r.dP).du=s.du+r.dP.du:=dE (by omega) (by omega);obtain⟨⟨a1,a2,a3⟩,q2⟩:=qQ t (dX s r.dP) (B+1000000) (fun x hx=>h x (by simp[hx])) (by omega) (by omega) (by omega) (by omega) (by omega);refine⟨⟨by omega,by omega,by omega⟩,fun x hx hl=>?_⟩
      rcases List.mem_cons.1 hx with rfl|hx
      · exact⟨by omega,by omega,by omega⟩
      · exact q2 x hx hl
theorem C3{t:List dp}(h:Tr t){a:de}(ha:dT a=true)(hs:dT (dX (eY ⟨0,0,0⟩ t) a)=true){i:Int}(hi:0<=i/\i<=4)(hv:(nth t i).Ru=true):gn (nth t i).dP a=(dX (nth t i).dP a,true):=by
  have hl:=h.len;have hm:nth t i∈t:=gy hi.1 (by omega);obtain⟨_,q⟩:=qQ t ⟨0,0,0⟩ 0 h.dP (by omega) (by omega) ⟨by decide,by decide⟩ ⟨by decide,by decide⟩ ⟨by decide,by decide⟩;obtain⟨q1,q2,q3⟩:=q _ hm hv;have hb:=eO.1 (h.dP _ hm);have ha':=eO.1 ha;have hS:=eO.1 h.sum;have w1:(dX (eY ⟨0,0,0⟩ t) a).c6=(eY ⟨0,0,0⟩ t).c6+a.c6:=dE (by omega) (by omega);have w2:(dX (eY ⟨0,0,0⟩ t) a).dh=(eY ⟨0,0,0⟩ t).dh+a.dh:=dE (by omega) (by omega);have w3:(dX (eY ⟨0,0,0⟩ t) a).du=(eY ⟨0,0,0⟩ t).du+a.du:=dE (by omega) (by omega);have hs':=eO.1 hs;have v1:(dX (nth t i).dP a).c6=(nth t i).dP.c6+a.c6:=dE (by omega) (by omega);have v2:(dX (nth t i).dP a).dh=(nth t i).dP.dh+a.dh:=dE (by omega) (by omega);have v3:(dX (nth t i).dP a).du=(nth t i).dP.du+a.du:=dE (by omega) (by omega);have:dT (dX (nth t i).dP a)=true:=eO.2 ⟨by omega,by omega,by omega⟩;unfold gn;rw[h.dP _ hm,ha,this];rfl
theorem xD{N:Nat}(hN:dg<=N){t:List dp}(hB:t.length<dg)(f:Int)(a:de):mE N t f a=some (jM t f a):=by
  unfold mE jM;simp only[nG hB,vY hN,BV hN hB,wm,sj hN,RB];cases ht:fH t
  · rfl
  have hT:=fK.1 ht;have hl:=hT.len
  have e:(gn (eY ⟨0,0,0⟩ t) a).2=(dT a&&dT (dX (fV t) a)):=by
    unfold gn fV;rw[hT.sum,ht];simp only[if_true,RF];cases dT a&&dT (dX (eY ⟨0,0,0⟩ t) a)<;>rfl
  rw[e];simp only[RE,RC,RF];cases hc:(dT a&&dT (dX (fV t) a))
  · rfl
  rw[RG]at hc
  have hs:dT (dX (eY ⟨0,0,0⟩ t) a)=true:=by
    have:=hc.2;unfold fV at this
    rwa[ht,if_pos rfl]at this
  simp only[RE,RC,if_true];cases hv:ei t f
  · simp only[Bool.not_false,RD,RB,eU (l:=t) (i:=0) (by omega) (by omega),C3 hT hc.1 hs (i:=0) ⟨by omega,by omega⟩ hT.pJ,Bool.false_eq_true,if_false];rfl
  · obtain⟨f0,f4⟩:=hY hv
    have hlv:(nth t f).Ru=true:=by unfold ei at hv;rw[RG]at hv;exact hv.2
    simp only[RE,RC,RB,eU (l:=t) f0 (by omega),C3 hT hc.1 hs (i:=f) ⟨f0,f4⟩ hlv,if_true];rfl
end Go.Kx
