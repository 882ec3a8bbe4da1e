import Derived.Test.YtfmfgnhbgcjajaaGreatLPut
namespace Go.Kx
open Go
open Go.IntKind (i64)
set_option linter.unusedVariables false
set_option linter.unusedSimpArgs false
set_option maxRecDepth 10000
def fP(h:df)(k:Int):df :=
  if(h.gc.Rj==0)&&(((nth h.ag k).so != 0)&&!(nth h.ag k).mark)then
    df.mk (h.ag.set k.toNat (marked (nth h.ag k) true)) (eS.mk h.gc.Rj h.gc.Rs h.gc.Rk (if h.gc.da.contains k then h.gc.da else h.gc.da++[k]))
  else h
theorem E6{l:List Int}{k:Int}(h:l.length+1<dg):app l [k]=some (l++[k]):=by
  unfold app;rw[if_pos (by simpa using h)]
theorem HE{N:Nat}(hN:dg<=N){h:df}{k:Int}(h0:0<=k)(h1:k<(h.ag.length:Int))(hg:h.gc.da.length+1<dg):sO N h k=some (fP h k):=by
  have hg':h.gc.da.length<dg:=by omega
  unfold sO fP;rw[<- Bool.cond_eq_ite];simp only[eU (l:=h.ag) h0 h1,tR hN hg',E6 hg,RB,bne];cases h.gc.Rj==0
  · rfl
  cases(nth h.ag k).so==0
  · cases(nth h.ag k).mark
    · cases h.gc.da.contains k<;>rfl
    · rfl
  · rfl
theorem BD{N:Nat}(hN:dg<=N){h:df}{k:Int}(h0:0<=k)(h1:k<(h.ag.length:Int))(hg:h.gc.da.length+1<dg):nO N h k=some (fP h k):=by
  have hg':h.gc.da.length<dg:=by omega
  unfold nO fP;rw[<- Bool.cond_eq_ite];simp only[eU (l:=h.ag) h0 h1,xt hN hg',E6 hg,RB,bne];cases h.gc.Rj==0
  · rfl
  cases(nth h.ag k).so==0
  · cases(nth h.ag k).mark
    · cases h.gc.da.contains k<;>rfl
    · rfl
  · rfl
theorem wM(h:df)(k:Int):(fP h k).ag.length=h.ag.length:=by
  unfold fP;split<;>simp
theorem xC(h:df)(k:Int):(fP h k).gc.da.length<=h.gc.da.length+1:=by
  unfold fP;split
  · simp only;split
    · exact Nat.le_succ _
    · simp
  · exact Nat.le_succ _
theorem gJ{l:List cd}{i j:Int}{o:cd}(h0:0<=i)(h1:i<(l.length:Int))(hj:0<=j):nth (l.set i.toNat o) j=if i=j then o else nth l j:=by
  unfold nth;rw[List.getElem?_set]
  by_cases e:i=j
  · subst e;rw[if_pos rfl,if_pos (by omega),if_pos rfl];rfl
  · rw[if_neg (by omega),if_neg e]
theorem K5{h:df}{k j:Int}{now:Int}(h0:0<=k)(h1:k<(h.ag.length:Int))(hj:0<=j):ey (nth (fP h k).ag j) now=ey (nth h.ag j) now:=by
  unfold fP;split
  · simp only;rw[gJ h0 h1 hj];split
    · rename_i e;subst e;rfl
    · rfl
  · rfl
def fM(l:List cd)(now:Int)(h:df)(k:Int):df:=if ey (nth l k) now then h else fP h k
def dw(h:df):Int:=nth h.gc.da ((h.gc.da.length:Int)-1)
def gw(h:df):List Int:=h.gc.da.take (h.gc.da.length-1)
def mM(h:df)(now:Int):df :=
  if h.gc.da.length=0 then df.mk h.ag (eS.mk 1 0 h.gc.Rk h.gc.da)
  else if(dw h != 0)&&ey (nth h.ag (dw h)) now then df.mk h.ag (eS.mk h.gc.Rj h.gc.Rs h.gc.Rk (gw h))
  else(fx h.ag (dw h)).foldl (fM h.ag now) (df.mk (h.ag.set (dw h).toNat (marked (nth h.ag (dw h)) true)) (eS.mk h.gc.Rj h.gc.Rs h.gc.Rk (gw h)))
def ht(h:df):List cd×Int×Int×Int×List Int:=(h.ag,h.gc.Rj,h.gc.Rs,h.gc.Rk,h.gc.da)
theorem CE{N:Nat}(hN:dg<=N){l:List cd}{now:Int}{e:List Int}(he:∀y,y∈e->0<=y/\y<=9)(hel:e.length<=10){h:df}(hl:h.ag.length=10){G:Nat}(hg:h.gc.da.length<=G)(hG:G+20<dg)
    (hx:∀j,0<=j->ey (nth h.ag j) now=ey (nth l j) now)
    {body:Int×List cd×Int×Int×Int×List Int->Option ((Int×List cd×Int×Int×Int×List Int)⊕(Int×List cd×Int×Int×Int×List Int))}
    (hs:∀(k:Nat) (t:df) (y:Int),e[k]?=some y->k<e.length->t.ag.length=10->t.gc.da.length+1<dg->(∀j,0<=j->ey (nth t.ag j) now=ey (nth l j) now)->0<=y->y<=9->body ((k:Int),ht t)=some (.inl (((k+1:Nat):Int),ht (fM l now t y))))
    (hend:∀t,body ((e.length:Int),ht t)=some (.inr ((e.length:Int),ht t))) :
    iter body N (0,ht h)=some ((e.length:Int),ht (e.foldl (fM l now) h)):=by
  have hB:e.length<dg:=by omega
  rw[show((0:Int),ht h)=(fun(k:Nat) (t:df)=>((k:Int),ht t)) 0 h from rfl,
    gC e (fun(k:Nat) (t:df)=>((k:Int),ht t)) (fun _ t y=>fM l now t y) (fun t=>((e.length:Int),ht t)) (fun k t=>t.ag.length=10/\t.gc.da.length<=G+k/\∀j,0<=j->ey (nth t.ag j) now=ey (nth l j) now) ?_ ?_ (Nat.lt_of_lt_of_le hB hN) ⟨hl,hg,hx⟩,jC]
  · intro k t y hy hk ⟨i1,i2,i3⟩;obtain⟨y0,y9⟩:=he y (List.mem_of_getElem? hy);refine⟨hs k t y hy hk i1 (by omega) i3 y0 y9,?_⟩;unfold fM;split
    · exact⟨i1,by omega,i3⟩
    · have:=xC t y;exact⟨by rw[wM,i1],by omega,fun j hj=>by rw[K5 y0 (by omega) hj,i3 j hj]⟩
  · intro t _;exact hend t
theorem Gk{h:df}(q:fW h=true):∀y,y∈h.gc.da->0<=y/\y<=9:=by
  unfold fW at q;simp only[RG,jL]at q;intro y hy;obtain⟨k,hk⟩:=List.getElem?_of_mem hy;have:=q.2.2.2 k y hk;unfold qy at this;rw[RG,dI]at this;exact this.1
theorem kF{h:df}(q:fW h=true)(hg:h.gc.da.length ≠ 0):0<=dw h/\dw h<=9:=Gk q _ (gy (by omega) (by omega))
theorem Ep{g:List Int}(hg:g.length ≠ 0)(hB:g.length<dg):i64.wrap ((g.length:Int)-1)=((g.length-1:Nat):Int)/\sub g 0 ((g.length-1:Nat):Int)=some (g.take (g.length-1)):=by
  have:g.length<16777216:=hB;exact⟨by rw[dE (by omega) (by omega)];omega,vC (by omega)⟩
def qn(l:List cd):List cd:=l.set 0 (marked (nth l 0) true)
def gp(h:df)(now:Int):Bool:=(h.gc.Rs != 0)&&(((nth h.ag h.gc.Rs).so != 0)&&(ey (nth h.ag h.gc.Rs) now || !(nth h.ag h.gc.Rs).mark))
def fJ(h:df)(now:Int):List cd:=if gp h now then(jx h.ag h.gc.Rs).1 else h.ag.set h.gc.Rs.toNat (marked (nth h.ag h.gc.Rs) false)
def iC(h:df)(now:Int):df×Int :=
  (if h.gc.Rs==9 then df.mk (qn (fJ h now)) (eS.mk 0 0 (if 1000000<i64.wrap (h.gc.Rk+1)then 1000000 else i64.wrap (h.gc.Rk+1)) [0])
    else df.mk (fJ h now) (eS.mk h.gc.Rj (h.gc.Rs+1) h.gc.Rk h.gc.da),if gp h now then h.gc.Rs else -1)
def fA(h:df)(now:Int):df×Int:=if fW h then(if h.gc.Rj==1 then iC h now else(mM h now, -1))else(h, -1)
theorem we{h:df}(q:fW h=true):(h.gc.Rj=0)\/(h.gc.Rj=1/\0<=h.gc.Rs/\h.gc.Rs<=9):=by
  unfold fW lg at q;simp only[RG,Bool.or_eq_true,beq_iff_eq,dI]at q
  rcases q.2.1 with⟨h1,_⟩|⟨h1,h2,_⟩
  · exact .inl h1
  · exact .inr ⟨h1,h2⟩
theorem Dw(l:List cd)(i:Int):(jx l i).1.length=l.length:=by
  unfold jx;split<;>simp
theorem yD(h:df)(now:Int):(fJ h now).length=h.ag.length:=by
  unfold fJ;split
  · exact Dw _ _
  · simp
theorem M0{n:Int}(h0:0<=n)(h9:n<=9):((n+1:Int)==10)=(n==9)/\i64.wrap (n+1)=n+1:=by
  rw[dE (by omega) (by omega)];exact⟨by rw[Bool.eq_iff_iff];simp;omega,rfl⟩
theorem Gs{N:Nat}(hN:dg<=N){h:df}(q:fW h=true)(hp:h.gc.Rj=1)(h1:eQ dA h.ag<dg)(now:Int):oZ N h now=some (iC h now):=by
  have ha:=lH q
  have hr:0<=h.gc.Rs/\h.gc.Rs<=9:=by
    rcases we q with e|e
    · rw[hp]at e;cases e
    · exact e.2
  obtain⟨e1,e2⟩:=M0 hr.1 hr.2;have hsl:=yD h now;have e0:idx (fJ h now) 0=some (nth (fJ h now) 0):=eU (by omega) (by rw[hsl,ha.len];decide);unfold oZ iC;simp only[(ha.at hr.1 hr.2).1,wE,GY hN h1,RB,iI,gX,e1,e2];rw[show(h.gc.Rs != 0&&((nth h.ag h.gc.Rs).so != 0&&(ey (nth h.ag h.gc.Rs) now || !(nth h.ag h.gc.Rs).mark)))=gp h now from rfl]
  have hsw:(bif gp h now then some (h.gc.Rs,(jx h.ag h.gc.Rs).1)else some (-1,h.ag.set h.gc.Rs.toNat (cd.mk (nth h.ag h.gc.Rs).Rt (nth h.ag h.gc.Rs).so (nth h.ag h.gc.Rs).box (nth h.ag h.gc.Rs).Rx (nth h.ag h.gc.Rs).dV (nth h.ag h.gc.Rs).c6 (nth h.ag h.gc.Rs).Ro (nth h.ag h.gc.Rs).eh (nth h.ag h.gc.Rs).ef false (nth h.ag h.gc.Rs).dk (nth h.ag h.gc.Rs).Rm (nth h.ag h.gc.Rs).Ri)):Option (Int×List cd))=some (if gp h now then h.gc.Rs else -1,fJ h now):=by
    unfold fJ;cases gp h now<;>rfl
  rw[hsw];simp only[RB,e0];cases h.gc.Rs==9<;>rfl
theorem DG(t:df):df.mk t.ag (eS.mk t.gc.Rj t.gc.Rs t.gc.Rk t.gc.da)=t:=rfl
theorem LX{N:Nat}(hN:dg<=N){h:df}(h1:eQ dA h.ag<dg)(h2:h.gc.da.length+20<dg)(now:Int):tH N h now=some (fA h now):=by
  have h2':h.gc.da.length<dg:=by omega
  unfold tH fA;simp only[vm hN h1 h2',xw hN h1 h2',RB];cases q:fW h
  · rfl
  have ha:=lH q;simp only[RE,RC,if_true];cases hp:h.gc.Rj==1
  · simp only[RC,Bool.false_eq_true,if_false];unfold mM
    by_cases hg:h.gc.da.length=0
    · have:((h.gc.da.length:Int)==0)=true:=by simp[hg]
      rw[this,if_pos hg];rfl
    · have:((h.gc.da.length:Int)==0)=false:=beq_eq_false_iff_ne.2 (by omega);obtain⟨g1,g2⟩:=Ep hg h2';obtain⟨l0,l9⟩:=kF q hg;obtain⟨e1,e2⟩:=kz ha (dw h)
      have eg:idx h.gc.da ((h.gc.da.length-1:Nat):Int)=some (dw h):=by
        rw[eU (l:=h.gc.da) (i:=((h.gc.da.length-1:Nat):Int)) (by omega) (by omega)];unfold dw;rw[show((h.gc.da.length:Int)-1)=((h.gc.da.length-1:Nat):Int) by omega]
      rw[this,if_neg hg,g1];simp only[RC,eg,g2,(ha.at l0 l9).1,wE,RB];rw[show(bif dw h != 0 then some (ey (nth h.ag (dw h)) now)else some false:Option Bool)=some ((dw h != 0)&&ey (nth h.ag (dw h)) now) from iI _ _];simp only[RB];cases hc:((dw h != 0)&&ey (nth h.ag (dw h)) now)
      · simp only[RC,Bool.false_eq_true,if_false];rw[CH hN ha l0 l9];simp only[RB]
        rw[show((0:Int),h.ag.set (dw h).toNat (cd.mk (nth h.ag (dw h)).Rt (nth h.ag (dw h)).so (nth h.ag (dw h)).box (nth h.ag (dw h)).Rx (nth h.ag (dw h)).dV (nth h.ag (dw h)).c6 (nth h.ag (dw h)).Ro (nth h.ag (dw h)).eh (nth h.ag (dw h)).ef true (nth h.ag (dw h)).dk (nth h.ag (dw h)).Rm (nth h.ag (dw h)).Ri),h.gc.Rj,h.gc.Rs,h.gc.Rk,h.gc.da.take (h.gc.da.length-1)) =
          ((0:Int),ht (df.mk (h.ag.set (dw h).toNat (marked (nth h.ag (dw h)) true)) (eS.mk h.gc.Rj h.gc.Rs h.gc.Rk (gw h)))) from rfl,
          CE hN (l:=h.ag) (now:=now) e1 e2 (h:=df.mk (h.ag.set (dw h).toNat (marked (nth h.ag (dw h)) true)) (eS.mk h.gc.Rj h.gc.Rs h.gc.Rk (gw h))) (by simp[ha.len]) (G:=h.gc.da.length) (by unfold gw;simp) h2
            (fun j hj=>by
              simp only;rw[gJ l0 (by rw[ha.len];omega) hj];split
              · rename_i e;rw[<- e];rfl
              · rfl)]
        · rfl
        · intro k t y hy hk t1 t2 t3 y0 y9;simp only[ht,eD hk,RD,dQ,hy,RB,(ha.at y0 y9).1,wE,DG,HE hN y0 (show y<(t.ag.length:Int) by rw[t1];omega) t2,eL (show k<dg by omega)];unfold fM;cases ey (nth h.ag y) now<;>rfl
        · intro t;simp only[ht,eE,RC]
      · rfl
  · have hp1:h.gc.Rj=1:=by simpa using hp
    simp only[RD,Gs hN q hp1 h1,RB,if_true]
theorem DR{o:cd}(h:eG o=true)(hk:(o.so==0)=true):marked o false=o:=by
  unfold eG at h;simp only[hk,RD,RG,decide_eq_true_eq]at h;rw[h.2.2];rfl
theorem JZ{N:Nat}(hN:dg<=N){h:df}(q:fW h=true)(h1:eQ dA h.ag<dg)(hw:wA h.ag)(h2:h.gc.da.length+20<dg)(now:Int):rk N h now=some (mM h now):=by
  have h2':h.gc.da.length<dg:=by omega
  have hB:h.gc.da.length<16777216:=h2';have ha:=lH q;unfold rk mM
  by_cases hg:h.gc.da.length=0
  · have:decide (i64.wrap ((h.gc.da.length:Int)-1)<0)=true:=by rw[hg];decide
    rw[this,if_pos hg];rfl
  · obtain⟨g1,g2⟩:=Ep hg h2';obtain⟨l0,l9⟩:=kF q hg;obtain⟨e1,e2⟩:=kz ha (dw h)
    have eg:idx h.gc.da ((h.gc.da.length-1:Nat):Int)=some (dw h):=by
      rw[eU (l:=h.gc.da) (i:=((h.gc.da.length-1:Nat):Int)) (by omega) (by omega)];unfold dw;rw[show((h.gc.da.length:Int)-1)=((h.gc.da.length-1:Nat):Int) by omega]
    have hd:decide (((h.gc.da.length-1:Nat):Int)<0)=false:=by simp
    have hgt:decide (dw h>0)=(dw h != 0):=by
      rw[Bool.eq_iff_iff];simp;omega
    rw[g1,hd,if_neg hg];simp only[RC,eg,g2,(ha.at l0 l9).1,uF,RB,hgt];rw[show(bif dw h != 0 then some (ey (nth h.ag (dw h)) now)else some false:Option Bool)=some ((dw h != 0)&&ey (nth h.ag (dw h)) now) from iI _ _];simp only[RB];cases hc:((dw h != 0)&&ey (nth h.ag (dw h)) now)
    · simp only[RC,Bool.false_eq_true,if_false];rw[G8 hN h1 hw ha l0 l9];simp only[RB]
      rw[show((0:Int),h.ag.set (dw h).toNat (cd.mk (nth h.ag (dw h)).Rt (nth h.ag (dw h)).so (nth h.ag (dw h)).box (nth h.ag (dw h)).Rx (nth h.ag (dw h)).dV (nth h.ag (dw h)).c6 (nth h.ag (dw h)).Ro (nth h.ag (dw h)).eh (nth h.ag (dw h)).ef true (nth h.ag (dw h)).dk (nth h.ag (dw h)).Rm (nth h.ag (dw h)).Ri),h.gc.Rj,h.gc.Rs,h.gc.Rk,h.gc.da.take (h.gc.da.length-1)) =
        ((0:Int),ht (df.mk (h.ag.set (dw h).toNat (marked (nth h.ag (dw h)) true)) (eS.mk h.gc.Rj h.gc.Rs h.gc.Rk (gw h)))) from rfl,
        CE hN (l:=h.ag) (now:=now) e1 e2 (h:=df.mk (h.ag.set (dw h).toNat (marked (nth h.ag (dw h)) true)) (eS.mk h.gc.Rj h.gc.Rs h.gc.Rk (gw h))) (by simp[ha.len]) (G:=h.gc.da.length) (by unfold gw;simp) h2
          (fun j hj=>by
            simp only;rw[gJ l0 (by rw[ha.len];omega) hj];split
            · rename_i e;rw[<- e];rfl
            · rfl)]
      · rfl
      · intro k t y hy hk t1 t2 t3 y0 y9;simp only[ht,eD hk,RD,dQ,hy,RB,eU (l:=t.ag) y0 (show y<(t.ag.length:Int) by rw[t1];omega),uF,t3 y y0,DG,BD hN y0 (show y<(t.ag.length:Int) by rw[t1];omega) t2,eL (show k<dg by omega)];unfold fM;cases ey (nth h.ag y) now<;>rfl
      · intro t;simp only[ht,eE,RC]
    · rfl
theorem Mn{N:Nat}(hN:dg<=N){h:df}(h1:eQ dA h.ag<dg)(hw:wA h.ag)(h2:h.gc.da.length+20<dg)(now:Int):tS N h now=some (fA h now):=by
  have h2':h.gc.da.length<dg:=by omega
  unfold tS fA;simp only[wF hN h1 h2',xR hN h1 h2' hw,RB];cases q:fW h
  · rfl
  have ha:=lH q;simp only[RE,RC,if_true]
  rcases we q with hp|⟨hp,hr⟩
  · rw[hp];simp only[beq_self_eq_true,RD,JZ hN q h1 hw h2,RB];rfl
  · obtain⟨e1,e2⟩:=M0 hr.1 hr.2;have hsl:=yD h now;have e0:idx (fJ h now) 0=some (nth (fJ h now) 0):=eU (by omega) (by rw[hsl,ha.len];decide)
    have hgt:decide (h.gc.Rs>0)=(h.gc.Rs != 0):=by rw[Bool.eq_iff_iff];simp;omega
    rw[show(h.gc.Rj==0)=false by rw[hp];rfl,show(h.gc.Rj==1)=true by rw[hp];rfl];unfold iC;simp only[RC,(ha.at hr.1 hr.2).1,uF,Gz hN h1 hw,RB,hgt,e1,e2]
    rw[show(bif h.gc.Rs != 0 then(bif(nth h.ag h.gc.Rs).so != 0 then(bif !(nth h.ag h.gc.Rs).mark then some true else some (ey (nth h.ag h.gc.Rs) now))else some false)else some false:Option Bool)=some (gp h now) by
      unfold gp;rw[gX,iI,iI,Bool.or_comm]]
    simp only[RB]
    have hsw:(bif gp h now then some (h.gc.Rs,(jx h.ag h.gc.Rs).1)else bif(nth h.ag h.gc.Rs).so != 0 then some (-1,h.ag.set h.gc.Rs.toNat (cd.mk (nth h.ag h.gc.Rs).Rt (nth h.ag h.gc.Rs).so (nth h.ag h.gc.Rs).box (nth h.ag h.gc.Rs).Rx (nth h.ag h.gc.Rs).dV (nth h.ag h.gc.Rs).c6 (nth h.ag h.gc.Rs).Ro (nth h.ag h.gc.Rs).eh (nth h.ag h.gc.Rs).ef false (nth h.ag h.gc.Rs).dk (nth h.ag h.gc.Rs).Rm (nth h.ag h.gc.Rs).Ri))else some (-1,h.ag):Option (Int×List cd))=some (if gp h now then h.gc.Rs else -1,fJ h now):=by
      unfold fJ;cases gp h now
      · cases hk:(nth h.ag h.gc.Rs).so != 0
        · have hk0:((nth h.ag h.gc.Rs).so==0)=true:=by simpa[bne]using hk
          have hid:h.ag.set h.gc.Rs.toNat (marked (nth h.ag h.gc.Rs) false)=h.ag:=by
            rw[DR (ha.ok _ (ha.at hr.1 hr.2).2) hk0];exact kJ (fO hr.1 (by rw[ha.len];omega))
          simp[hid]
        · rfl
      · rfl
    rw[hsw];simp only[RB,e0];cases h.gc.Rs==9<;>rfl
theorem C2{α:Type}{f:α->Nat}{z:α}:∀{l:List α} {k:Nat} {y:α},l[k]?=some y->f z=f y->mR f (l.set k z)=mR f l
  | x::l,0,y,h,e=>by simp at h;subst h;simp[mR,e]
  | x::l,k+1,y,h,e=>by
    simp only[List.set_cons_succ,mR];rw[C2 (l:=l) (k:=k) (y:=y) (by simpa using h) e]
theorem oD{l:List cd}{i:Int}{z:cd}(h0:0<=i)(h1:i<(l.length:Int))(e:dA z=dA (nth l i)):eQ dA (l.set i.toNat z)=eQ dA l:=by
  unfold eQ;rw[C2 (fO h0 h1) e,List.length_set]
theorem yc{l:List cd}{now:Int}:∀(e:List Int) (h:df),(∀y,y∈e->0<=y/\y<=9)->h.ag.length=10->wA h.ag ->
    eQ dA (e.foldl (fM l now) h).ag=eQ dA h.ag/\wA (e.foldl (fM l now) h).ag/\(e.foldl (fM l now) h).gc.da.length<=h.gc.da.length+e.length
  | [],h,_,_,hw=>⟨rfl,hw,Nat.le_refl _⟩
  | y::e,h,he,hl,hw=>by
    obtain⟨y0,y9⟩:=he y (by simp)
    have hy:y<(h.ag.length:Int):=by rw[hl];omega
    have key:eQ dA (fM l now h y).ag=eQ dA h.ag/\wA (fM l now h y).ag/\(fM l now h y).gc.da.length<=h.gc.da.length+1/\(fM l now h y).ag.length=10:=by
      unfold fM;split
      · exact⟨rfl,hw,Nat.le_succ _,hl⟩
      · refine⟨?_,?_,xC h y,by rw[wM,hl]⟩
        · unfold fP;split
          · exact oD y0 hy rfl
          · rfl
        · unfold fP;split
          · exact iS hw (show mK (marked (nth h.ag y) true) from hw (nth h.ag y) (gy y0 hy))
          · exact hw
    obtain⟨a1,a2,a3⟩:=yc e (fM l now h y) (fun z hz=>he z (by simp[hz])) key.2.2.2 key.2.1;simp only[List.foldl_cons,List.length_cons];exact⟨a1.trans key.1,a2,by omega⟩
theorem Oh(i:Int)(o:cd):dA (kR i o)=dA o:=by
  unfold kR;split
  · rfl
  · unfold dA;simp
theorem PR{i:Int}{o:cd}(h:mK o):mK (kR i o):=by
  unfold kR;split
  · exact h
  · exact h
theorem Nr(g:Int):mK (blank g):=by show(-9223372036854775808:Int)<=0;decide
theorem IL{l:List cd}(hw:wA l)(i:Int):eQ dA (jx l i).1<=eQ dA l/\wA (jx l i).1:=by
  unfold jx;split
  · refine⟨?_,fun o ho=>?_⟩
    · show eQ dA ((l.set i.toNat (blank (nth l i).Rt)).map (kR i))<=_
      rw[Hw (Oh i)];exact xl
    · obtain⟨y,hy,rfl⟩:=List.mem_map.1 ho;exact PR (iS hw (Nr _) y hy)
  · exact⟨Nat.le_refl _,hw⟩
theorem vo{h:df}(hw:wA h.ag)(now:Int):eQ dA (fA h now).1.ag<=eQ dA h.ag/\wA (fA h now).1.ag/\(fA h now).1.gc.da.length<=h.gc.da.length+10 /\
    (decide ((fA h now).2>=0)=true->Ar h.ag/\0<=(fA h now).2/\(fA h now).2<=9):=by
  unfold fA;split
  · rename_i q;have ha:=lH q;have hl:=ha.len;split
    · rename_i hp
      have hp:h.gc.Rj=1:=by simpa using hp
      have hr:0<=h.gc.Rs/\h.gc.Rs<=9:=by
        rcases we q with e|e
        · rw[hp]at e;cases e
        · exact e.2
      have hs:eQ dA (fJ h now)<=eQ dA h.ag/\wA (fJ h now):=by
        unfold fJ;split
        · exact IL hw _
        · exact⟨Nat.le_of_eq (oD hr.1 (by rw[hl];omega) rfl),iS hw (show mK (marked (nth h.ag h.gc.Rs) false) from hw (nth h.ag h.gc.Rs) (ha.at hr.1 hr.2).2)⟩
      have hsl:=yD h now
      have h0:(0:Int)<((fJ h now).length:Int):=by rw[hsl,hl];decide
      refine⟨?_,?_,?_,fun hd=>⟨ha,?_⟩⟩
      · unfold iC qn;simp only;split
        · show eQ dA ((fJ h now).set (0:Int).toNat _)<=_
          rw[oD (z:=marked (nth (fJ h now) 0) true) (Int.le_refl 0) h0 rfl];exact hs.1
        · exact hs.1
      · unfold iC qn;simp only;split
        · exact iS hs.2 (show mK (marked (nth (fJ h now) 0) true) from hs.2 (nth (fJ h now) 0) (gy (Int.le_refl 0) h0))
        · exact hs.2
      · unfold iC;simp only;split
        · simp
        · exact Nat.le_add_right _ _
      · unfold iC at hd⊢;simp only at hd⊢;split
        · exact hr
        · rename_i hn;rw[if_neg hn]at hd;simp at hd
    · refine⟨?_,?_,?_,fun hd=>by simp at hd⟩
      all_goals
        unfold mM
        simp only
        split
        · first|exact Nat.le_refl _|exact hw|exact Nat.le_add_right _ _
        · rename_i hg
          split
          · first|exact Nat.le_refl _|exact hw|(unfold gw;simp;omega)
          · obtain⟨l0,l9⟩:=kF q hg
            obtain⟨e1,e2⟩:=kz ha (dw h)
            obtain⟨a1,a2,a3⟩:=yc (l:=h.ag) (now:=now) (fx h.ag (dw h)) (df.mk (h.ag.set (dw h).toNat (marked (nth h.ag (dw h)) true)) (eS.mk h.gc.Rj h.gc.Rs h.gc.Rk (gw h))) e1 (by simp[hl]) (iS hw (show mK (marked (nth h.ag (dw h)) true) from hw (nth h.ag (dw h)) (ha.at l0 l9).2))
            first
              | exact Nat.le_of_eq (a1.trans (oD l0 (by rw[hl];omega) rfl))
              | exact a2
              | (refine Nat.le_trans a3 ?_
                 unfold gw
                 simp
                 omega)
  · exact⟨Nat.le_refl _,hw,Nat.le_add_right _ _,fun hd=>by simp at hd⟩
structure vZ where
  n:Int
  Rh:List dp
  heap:df
def lV(now:Int)(c:vZ):vZ :=
  if decide ((fA c.heap now).2>=0)then⟨i64.wrap (c.n+1),(jM c.Rh (nth c.heap.ag (fA c.heap now).2).Rx ⟨(nth c.heap.ag (fA c.heap now).2).c6,0,0⟩).1,(fA c.heap now).1⟩
  else⟨c.n,c.Rh,(fA c.heap now).1⟩
def wc(now:Int):Nat->vZ->vZ
  | 0,c=>c
  | k+1,c=>wc now k (lV now c)
def gF(p:bh)(now steps:Int):bh×Int :=
  if dJ p&&dy steps 0 100 then
    (bh.mk p.Rg p.own (wc now steps.toNat ⟨0,p.Rh,p.heap⟩).Rh (wc now steps.toNat ⟨0,p.Rh,p.heap⟩).heap p.dc p.Rr p.Rq p.db p.dx p.Rp,(wc now steps.toNat ⟨0,p.Rh,p.heap⟩).n)
  else(p,0)
def ct(k:Nat)(c:vZ):Int×Int×List dp×List cd×Int×Int×Int×List Int:=(c.n,(k:Int),c.Rh,c.heap.ag,c.heap.gc.Rj,c.heap.gc.Rs,c.heap.gc.Rk,c.heap.gc.da)
structure ES (S T G:Nat) (k:Nat) (c:vZ):Prop where
  sz:eQ dA c.heap.ag<=S
  tl:c.Rh.length=T
  gl:c.heap.gc.da.length<=G+10*k
  w:wA c.heap.ag
theorem AZ{S T G k:Nat}{c:vZ}(h:ES S T G k c)(now:Int):ES S T G (k+1) (lV now c):=by
  obtain⟨s1,s2,s3,_⟩:=vo h.w now;have a1:=h.sz;have a2:=h.tl;have a3:=h.gl;unfold lV;split
  · exact⟨by simp only;omega,by simp only;rw[vL,a2],by simp only;omega,s2⟩
  · exact⟨by simp only;omega,a2,by simp only;omega,s2⟩
theorem Hy{S T G:Nat}{now:Int}:∀(j k:Nat) (c:vZ),ES S T G k c->ES S T G (k+j) (wc now j c)
  | 0,k,c,h=>h
  | j+1,k,c,h=>by
    have:=Hy (now:=now) j (k+1) (lV now c) (AZ h now)
    rwa[show k+1+j=k+(j+1) by omega]at this
theorem Hg{N:Nat}(hN:dg<=N){now steps:Int}(h0:0<=steps)(h1:steps<=100){S T G:Nat}{c:vZ}(hc:ES S T G 0 c)
    {body:Int×Int×List dp×List cd×Int×Int×Int×List Int->Option ((Int×Int×List dp×List cd×Int×Int×Int×List Int)⊕(Int×Int×List dp×List cd×Int×Int×Int×List Int))}
    (hs:∀(k:Nat) (c:vZ),k<100->(k:Int)<steps->ES S T G k c->body (ct k c)=some (.inl (ct (k+1) (lV now c)))) (he:∀c,body (ct steps.toNat c)=some (.inr (ct steps.toNat c))) :
    iter body N (ct 0 c)=some (ct steps.toNat (wc now steps.toNat c)):=by
  have e:∀(j i:Nat) (c:vZ),foldI (fun _ c (_:Unit)=>lV now c) i c (List.replicate j ())=wc now j c:=by
    intro j
    induction j with
    | zero=>intro i c;rfl
    | succ j ih=>intro i c;rw[List.replicate_succ];unfold foldI wc;exact ih _ _
  rw[gC (List.replicate steps.toNat ()) ct (fun _ c _=>lV now c) (fun c=>ct steps.toNat c) (fun k c=>ES S T G k c) ?_ ?_ (by have:16777216<=N:=hN;simp;omega) hc,e]
  · intro k c y hy hk hI
    have hk:k<steps.toNat:=by simpa using hk
    exact⟨hs k c (by omega) (by omega) hI,AZ hI now⟩
  · intro c _;rw[show(List.replicate steps.toNat ()).length=steps.toNat by simp];exact he c
theorem DA{N:Nat}(hN:dg<=N){p:bh}(hb:dH p<=3000000)(hw:wP p)(now steps:Int):nh N p now steps=some (gF p now steps):=by
  have hB:(16777216:Nat)=dg:=rfl
  have hb':dH p<dg:=by omega
  have hz:eQ dA p.heap.ag<=3000000/\p.heap.gc.da.length<=3000000/\p.Rh.length<=3000000:=by unfold dH mH vQ at hb;omega
  unfold nh gF;simp only[oH hN hb',sv hN hb',kq,RB,gX];cases dJ p
  · rfl
  cases hst:dy steps 0 100
  · rfl
  have hr:=dI.1 hst;simp only[RE,Bool.or_self,RC,Bool.and_self,if_true]
  rw[show((0:Int),(0:Int),p.Rh,p.heap.ag,p.heap.gc.Rj,p.heap.gc.Rs,p.heap.gc.Rk,p.heap.gc.da)=ct 0 ⟨0,p.Rh,p.heap⟩ from rfl,
    Hg hN (now:=now) hr.1 hr.2 (S:=3000000) (T:=p.Rh.length) (G:=3000000) (c:=⟨0,p.Rh,p.heap⟩) ⟨hz.1,rfl,by simp only;omega,hw⟩]
  · rfl
  · intro k c hk hks hI;have g1:eQ dA c.heap.ag<dg:=Nat.lt_of_le_of_lt hI.sz (by decide)
    have g2:c.heap.gc.da.length+20<dg:=by have:=hI.gl;omega
    have g3:c.Rh.length<dg:=by rw[hI.tl];omega
    have hd:decide ((k:Int)<steps)=true:=by simpa using hks
    obtain⟨_,_,_,s4⟩:=vo hI.w now
    show(bif decide ((k:Int)<steps)then _ else _)=_
    rw[hd];simp only[ct,RD,DG,LX hN g1 g2,RB,eL (show k<dg by omega)];unfold lV;cases hv:decide ((fA c.heap now).2>=0)
    · rfl
    · obtain⟨har,v0,v9⟩:=s4 hv;simp only[RD,(har.at v0 v9).1,xI,xL hN g3,RB,if_true];rfl
  · intro c
    have hd:decide (((steps.toNat:Nat):Int)<steps)=false:=by simp;omega
    show(bif decide (((steps.toNat:Nat):Int)<steps)then _ else _)=_
    rw[hd];simp only[ct,RC]
theorem Dq{N:Nat}(hN:dg<=N){p:bh}(hb:dH p<=3000000)(hw:wP p)(now steps:Int):ny N p now steps=some (gF p now steps):=by
  have hB:(16777216:Nat)=dg:=rfl
  have hb':dH p<dg:=by omega
  have hz:eQ dA p.heap.ag<=3000000/\p.heap.gc.da.length<=3000000/\p.Rh.length<=3000000:=by unfold dH mH vQ at hb;omega
  unfold ny gF;simp only[pZ hN hb',sr hN hb' hw,jK,RB,gX];cases dJ p
  · rfl
  cases hst:dy steps 0 100
  · rfl
  have hr:=dI.1 hst;simp only[RE,Bool.or_self,RC,Bool.and_self,if_true]
  rw[show((0:Int),(0:Int),p.Rh,p.heap.ag,p.heap.gc.Rj,p.heap.gc.Rs,p.heap.gc.Rk,p.heap.gc.da)=ct 0 ⟨0,p.Rh,p.heap⟩ from rfl,
    Hg hN (now:=now) hr.1 hr.2 (S:=3000000) (T:=p.Rh.length) (G:=3000000) (c:=⟨0,p.Rh,p.heap⟩) ⟨hz.1,rfl,by simp only;omega,hw⟩]
  · rfl
  · intro k c hk hks hI;have g1:eQ dA c.heap.ag<dg:=Nat.lt_of_le_of_lt hI.sz (by decide)
    have g2:c.heap.gc.da.length+20<dg:=by have:=hI.gl;omega
    have g3:c.Rh.length<dg:=by rw[hI.tl];omega
    have hd:decide ((k:Int)<steps)=true:=by simpa using hks
    obtain⟨_,_,_,s4⟩:=vo hI.w now
    show(bif decide ((k:Int)<steps)then _ else _)=_
    rw[hd];simp only[ct,RD,DG,Mn hN g1 hI.w g2,RB,eL (show k<dg by omega)];unfold lV;cases hv:decide ((fA c.heap now).2>=0)
    · rfl
    · obtain⟨har,v0,v9⟩:=s4 hv;simp only[RD,(har.at v0 v9).1,xD hN g3,RB,if_true]
  · intro c
    have hd:decide (((steps.toNat:Nat):Int)<steps)=false:=by simp;omega
    show(bif decide (((steps.toNat:Nat):Int)<steps)then _ else _)=_
    rw[hd];simp only[ct,RC]
theorem II{p:bh}(hb:dH p<=3000000)(hw:wP p)(now steps:Int):dH (gF p now steps).1<=dH p+1000/\wP (gF p now steps).1:=by
  unfold gF;split
  · rename_i h;rw[RG,dI]at h;have hI:=Hy (now:=now) steps.toNat 0 ⟨0,p.Rh,p.heap⟩ (S:=eQ dA p.heap.ag) (T:=p.Rh.length) (G:=p.heap.gc.da.length) ⟨Nat.le_refl _,rfl,Nat.le_refl _,hw⟩;have a1:=hI.sz;have a2:=hI.tl;have a3:=hI.gl;refine⟨?_,hI.w⟩;unfold dH mH vQ at hb⊢;simp only;omega
  · exact⟨Nat.le_add_right _ _,hw⟩
end Go.Kx
