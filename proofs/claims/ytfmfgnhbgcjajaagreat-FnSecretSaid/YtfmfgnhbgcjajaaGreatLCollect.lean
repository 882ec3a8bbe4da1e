import Derived.Test.YtfmfgnhbgcjajaaGreatLPay
namespace Go.Kx
open Go
open Go.IntKind (i64)
set_option linter.unusedVariables false
set_option linter.unusedSimpArgs false
set_option maxRecDepth 10000
def jH(h:dm)(k:Int):dm :=
  if(h.gc.Ru==0)&&(((nth h.ag k).Rq != 0)&&!(nth h.ag k).mark)then
    dm.mk (h.ag.set k.toNat (marked (nth h.ag k) true)) (eS.mk h.gc.Ru h.gc.RD h.gc.Rv (if h.gc.da.contains k then h.gc.da else h.gc.da++[k]))
  else h
theorem BU{l:List Int}{k:Int}(h:l.length+1<df):app l [k]=some (l++[k]):=by
  unfold app;rw[if_pos (by simpa using h)]
theorem HO{N:Nat}(hN:df<=N){h:dm}{k:Int}(h0:0<=k)(h1:k<(h.ag.length:Int))(hg:h.gc.da.length+1<df):so N h k=some (jH h k):=by
  have hg':h.gc.da.length<df:=by omega
  unfold so jH;rw[<- Bool.cond_eq_ite];simp only[eK (l:=h.ag) h0 h1,sR hN hg',BU hg,RK,bne];cases h.gc.Ru==0
  · rfl
  cases(nth h.ag k).Rq==0
  · cases(nth h.ag k).mark
    · cases h.gc.da.contains k<;>rfl
    · rfl
  · rfl
theorem A9{N:Nat}(hN:df<=N){h:dm}{k:Int}(h0:0<=k)(h1:k<(h.ag.length:Int))(hg:h.gc.da.length+1<df):nR N h k=some (jH h k):=by
  have hg':h.gc.da.length<df:=by omega
  unfold nR jH;rw[<- Bool.cond_eq_ite];simp only[eK (l:=h.ag) h0 h1,wU hN hg',BU hg,RK,bne];cases h.gc.Ru==0
  · rfl
  cases(nth h.ag k).Rq==0
  · cases(nth h.ag k).mark
    · cases h.gc.da.contains k<;>rfl
    · rfl
  · rfl
theorem zH(h:dm)(k:Int):(jH h k).ag.length=h.ag.length:=by
  unfold jH;split<;>simp
theorem xi(h:dm)(k:Int):(jH h k).gc.da.length<=h.gc.da.length+1:=by
  unfold jH;split
  · simp only;split
    · exact Nat.le_succ _
    · simp
  · exact Nat.le_succ _
theorem sJ{l:List c6}{i j:Int}{o:c6}(h0:0<=i)(h1:i<(l.length:Int))(hj:0<=j):nth (l.set i.toNat o) j=if i=j then o else nth l j:=by
  unfold nth;rw[List.getElem?_set]
  by_cases e:i=j
  · subst e;rw[if_pos rfl,if_pos (by omega),if_pos rfl];rfl
  · rw[if_neg (by omega),if_neg e]
theorem Kl{h:dm}{k j:Int}{now:Int}(h0:0<=k)(h1:k<(h.ag.length:Int))(hj:0<=j):eZ (nth (jH h k).ag j) now=eZ (nth h.ag j) now:=by
  unfold jH;split
  · simp only;rw[sJ h0 h1 hj];split
    · rename_i e;subst e;rfl
    · rfl
  · rfl
def iz(l:List c6)(now:Int)(h:dm)(k:Int):dm:=if eZ (nth l k) now then h else jH h k
def dT(h:dm):Int:=nth h.gc.da ((h.gc.da.length:Int)-1)
def kf(h:dm):List Int:=h.gc.da.take (h.gc.da.length-1)
def rY(h:dm)(now:Int):dm :=
  if h.gc.da.length=0 then dm.mk h.ag (eS.mk 1 0 h.gc.Rv h.gc.da)
  else if(dT h != 0)&&eZ (nth h.ag (dT h)) now then dm.mk h.ag (eS.mk h.gc.Ru h.gc.RD h.gc.Rv (kf h))
  else(j5 h.ag (dT h)).foldl (iz h.ag now) (dm.mk (h.ag.set (dT h).toNat (marked (nth h.ag (dT h)) true)) (eS.mk h.gc.Ru h.gc.RD h.gc.Rv (kf h)))
def ht(h:dm):List c6×Int×Int×Int×List Int:=(h.ag,h.gc.Ru,h.gc.RD,h.gc.Rv,h.gc.da)
theorem Ce{N:Nat}(hN:df<=N){l:List c6}{now:Int}{e:List Int}(he:∀y,y∈e->0<=y/\y<=9)(hel:e.length<=10){h:dm}(hl:h.ag.length=10){G:Nat}(hg:h.gc.da.length<=G)(hG:G+20<df)
    (hx:∀j,0<=j->eZ (nth h.ag j) now=eZ (nth l j) now)
    {body:Int×List c6×Int×Int×Int×List Int->Option ((Int×List c6×Int×Int×Int×List Int)⊕(Int×List c6×Int×Int×Int×List Int))}
    (hs:∀(k:Nat) (t:dm) (y:Int),e[k]?=some y->k<e.length->t.ag.length=10->t.gc.da.length+1<df->(∀j,0<=j->eZ (nth t.ag j) now=eZ (nth l j) now)->0<=y->y<=9->body ((k:Int),ht t)=some (.inl (((k+1:Nat):Int),ht (iz l now t y))))
    (hend:∀t,body ((e.length:Int),ht t)=some (.inr ((e.length:Int),ht t))) :
    iter body N (0,ht h)=some ((e.length:Int),ht (e.foldl (iz l now) h)):=by
  have hB:e.length<df:=by omega
  rw[show((0:Int),ht h)=(fun(k:Nat) (t:dm)=>((k:Int),ht t)) 0 h from rfl,
    gz e (fun(k:Nat) (t:dm)=>((k:Int),ht t)) (fun _ t y=>iz l now t y) (fun t=>((e.length:Int),ht t)) (fun k t=>t.ag.length=10/\t.gc.da.length<=G+k/\∀j,0<=j->eZ (nth t.ag j) now=eZ (nth l j) now) ?_ ?_ (Nat.lt_of_lt_of_le hB hN) ⟨hl,hg,hx⟩,i9]
  · intro k t y hy hk ⟨i1,i2,i3⟩;obtain⟨y0,y9⟩:=he y (List.mem_of_getElem? hy);refine⟨hs k t y hy hk i1 (by omega) i3 y0 y9,?_⟩;unfold iz;split
    · exact⟨i1,by omega,i3⟩
    · have:=xi t y;exact⟨by rw[zH,i1],by omega,fun j hj=>by rw[Kl y0 (by omega) hj,i3 j hj]⟩
  · intro t _;exact hend t
theorem G5{h:dm}(q:gn h=true):∀y,y∈h.gc.da->0<=y/\y<=9:=by
  unfold gn at q;simp only[RP,iV]at q;intro y hy;obtain⟨k,hk⟩:=List.getElem?_of_mem hy;have:=q.2.2.2 k y hk;unfold qy at this;rw[RP,dI]at this;exact this.1
theorem pN{h:dm}(q:gn h=true)(hg:h.gc.da.length ≠ 0):0<=dT h/\dT h<=9:=G5 q _ (gg (by omega) (by omega))
theorem FK{g:List Int}(hg:g.length ≠ 0)(hB:g.length<df):i64.wrap ((g.length:Int)-1)=((g.length-1:Nat):Int)/\sub g 0 ((g.length-1:Nat):Int)=some (g.take (g.length-1)):=by
  have:g.length<16777216:=hB;exact⟨by rw[dB (by omega) (by omega)];omega,vm (by omega)⟩
def Fw(l:List c6):List c6:=l.set 0 (marked (nth l 0) true)
def ir(h:dm)(now:Int):Bool:=(h.gc.RD != 0)&&(((nth h.ag h.gc.RD).Rq != 0)&&(eZ (nth h.ag h.gc.RD) now || !(nth h.ag h.gc.RD).mark))
def iR(h:dm)(now:Int):List c6:=if ir h now then(jm h.ag h.gc.RD).1 else h.ag.set h.gc.RD.toNat (marked (nth h.ag h.gc.RD) false)
def kp(h:dm)(now:Int):dm×Int :=
  (if h.gc.RD==9 then dm.mk (Fw (iR h now)) (eS.mk 0 0 (if 1000000<i64.wrap (h.gc.Rv+1)then 1000000 else i64.wrap (h.gc.Rv+1)) [0])
    else dm.mk (iR h now) (eS.mk h.gc.Ru (h.gc.RD+1) h.gc.Rv h.gc.da),if ir h now then h.gc.RD else -1)
def gX(h:dm)(now:Int):dm×Int:=if gn h then(if h.gc.Ru==1 then kp h now else(rY h now, -1))else(h, -1)
theorem vG{h:dm}(q:gn h=true):(h.gc.Ru=0)\/(h.gc.Ru=1/\0<=h.gc.RD/\h.gc.RD<=9):=by
  unfold gn lD at q;simp only[RP,Bool.or_eq_true,beq_iff_eq,dI]at q
  rcases q.2.1 with⟨h1,_⟩|⟨h1,h2,_⟩
  · exact .inl h1
  · exact .inr ⟨h1,h2⟩
theorem Ds(l:List c6)(i:Int):(jm l i).1.length=l.length:=by
  unfold jm;split<;>simp
theorem yt(h:dm)(now:Int):(iR h now).length=h.ag.length:=by
  unfold iR;split
  · exact Ds _ _
  · simp
theorem M1{n:Int}(h0:0<=n)(h9:n<=9):((n+1:Int)==10)=(n==9)/\i64.wrap (n+1)=n+1:=by
  rw[dB (by omega) (by omega)];exact⟨by rw[Bool.eq_iff_iff];simp;omega,rfl⟩
theorem GZ{N:Nat}(hN:df<=N){h:dm}(q:gn h=true)(hp:h.gc.Ru=1)(h1:eE dw h.ag<df)(now:Int):oB N h now=some (kp h now):=by
  have ha:=k8 q
  have hr:0<=h.gc.RD/\h.gc.RD<=9:=by
    rcases vG q with e|e
    · rw[hp]at e;cases e
    · exact e.2
  obtain⟨e1,e2⟩:=M1 hr.1 hr.2;have hsl:=yt h now;have e0:idx (iR h now) 0=some (nth (iR h now) 0):=eK (by omega) (by rw[hsl,ha.len];decide);unfold oB kp;simp only[(ha.at hr.1 hr.2).1,wy,Gv hN h1,RK,iB,gv,e1,e2];rw[show(h.gc.RD != 0&&((nth h.ag h.gc.RD).Rq != 0&&(eZ (nth h.ag h.gc.RD) now || !(nth h.ag h.gc.RD).mark)))=ir h now from rfl]
  have hsw:(bif ir h now then some (h.gc.RD,(jm h.ag h.gc.RD).1)else some (-1,h.ag.set h.gc.RD.toNat (c6.mk (nth h.ag h.gc.RD).RG (nth h.ag h.gc.RD).Rq (nth h.ag h.gc.RD).box (nth h.ag h.gc.RD).RF (nth h.ag h.gc.RD).dY (nth h.ag h.gc.RD).cd (nth h.ag h.gc.RD).Ry (nth h.ag h.gc.RD).ee (nth h.ag h.gc.RD).ed false (nth h.ag h.gc.RD).dk (nth h.ag h.gc.RD).Rw (nth h.ag h.gc.RD).Rs)):Option (Int×List c6))=some (if ir h now then h.gc.RD else -1,iR h now):=by
    unfold iR;cases ir h now<;>rfl
  rw[hsw];simp only[RK,e0];cases h.gc.RD==9<;>rfl
theorem DH(t:dm):dm.mk t.ag (eS.mk t.gc.Ru t.gc.RD t.gc.Rv t.gc.da)=t:=rfl
theorem Ma{N:Nat}(hN:df<=N){h:dm}(h1:eE dw h.ag<df)(h2:h.gc.da.length+20<df)(now:Int):sQ N h now=some (gX h now):=by
  have h2':h.gc.da.length<df:=by omega
  unfold sQ gX;simp only[uV hN h1 h2',xI hN h1 h2',RK];cases q:gn h
  · rfl
  have ha:=k8 q;simp only[RN,RL,if_true];cases hp:h.gc.Ru==1
  · simp only[RL,Bool.false_eq_true,if_false];unfold rY
    by_cases hg:h.gc.da.length=0
    · have:((h.gc.da.length:Int)==0)=true:=by simp[hg]
      rw[this,if_pos hg];rfl
    · have:((h.gc.da.length:Int)==0)=false:=beq_eq_false_iff_ne.2 (by omega);obtain⟨g1,g2⟩:=FK hg h2';obtain⟨l0,l9⟩:=pN q hg;obtain⟨e1,e2⟩:=qj ha (dT h)
      have eg:idx h.gc.da ((h.gc.da.length-1:Nat):Int)=some (dT h):=by
        rw[eK (l:=h.gc.da) (i:=((h.gc.da.length-1:Nat):Int)) (by omega) (by omega)];unfold dT;rw[show((h.gc.da.length:Int)-1)=((h.gc.da.length-1:Nat):Int) by omega]
      rw[this,if_neg hg,g1];simp only[RL,eg,g2,(ha.at l0 l9).1,wy,RK];rw[show(bif dT h != 0 then some (eZ (nth h.ag (dT h)) now)else some false:Option Bool)=some ((dT h != 0)&&eZ (nth h.ag (dT h)) now) from iB _ _];simp only[RK];cases hc:((dT h != 0)&&eZ (nth h.ag (dT h)) now)
      · simp only[RL,Bool.false_eq_true,if_false];rw[C7 hN ha l0 l9];simp only[RK]
        rw[show((0:Int),h.ag.set (dT h).toNat (c6.mk (nth h.ag (dT h)).RG (nth h.ag (dT h)).Rq (nth h.ag (dT h)).box (nth h.ag (dT h)).RF (nth h.ag (dT h)).dY (nth h.ag (dT h)).cd (nth h.ag (dT h)).Ry (nth h.ag (dT h)).ee (nth h.ag (dT h)).ed true (nth h.ag (dT h)).dk (nth h.ag (dT h)).Rw (nth h.ag (dT h)).Rs),h.gc.Ru,h.gc.RD,h.gc.Rv,h.gc.da.take (h.gc.da.length-1)) =
          ((0:Int),ht (dm.mk (h.ag.set (dT h).toNat (marked (nth h.ag (dT h)) true)) (eS.mk h.gc.Ru h.gc.RD h.gc.Rv (kf h)))) from rfl,
          Ce hN (l:=h.ag) (now:=now) e1 e2 (h:=dm.mk (h.ag.set (dT h).toNat (marked (nth h.ag (dT h)) true)) (eS.mk h.gc.Ru h.gc.RD h.gc.Rv (kf h))) (by simp[ha.len]) (G:=h.gc.da.length) (by unfold kf;simp) h2
            (fun j hj=>by
              simp only;rw[sJ l0 (by rw[ha.len];omega) hj];split
              · rename_i e;rw[<- e];rfl
              · rfl)]
        · rfl
        · intro k t y hy hk t1 t2 t3 y0 y9;simp only[ht,ei hk,RM,dM,hy,RK,(ha.at y0 y9).1,wy,DH,HO hN y0 (show y<(t.ag.length:Int) by rw[t1];omega) t2,eB (show k<df by omega)];unfold iz;cases eZ (nth h.ag y) now<;>rfl
        · intro t;simp only[ht,ep,RL]
      · rfl
  · have hp1:h.gc.Ru=1:=by simpa using hp
    simp only[RM,GZ hN q hp1 h1,RK,if_true]
theorem Ex{o:c6}(h:eG o=true)(hk:(o.Rq==0)=true):marked o false=o:=by
  unfold eG at h;simp only[hk,RM,RP,decide_eq_true_eq]at h;rw[h.2.2];rfl
theorem LA{N:Nat}(hN:df<=N){h:dm}(q:gn h=true)(h1:eE dw h.ag<df)(hw:wA h.ag)(h2:h.gc.da.length+20<df)(now:Int):rk N h now=some (rY h now):=by
  have h2':h.gc.da.length<df:=by omega
  have hB:h.gc.da.length<16777216:=h2';have ha:=k8 q;unfold rk rY
  by_cases hg:h.gc.da.length=0
  · have:decide (i64.wrap ((h.gc.da.length:Int)-1)<0)=true:=by rw[hg];decide
    rw[this,if_pos hg];rfl
  · obtain⟨g1,g2⟩:=FK hg h2';obtain⟨l0,l9⟩:=pN q hg;obtain⟨e1,e2⟩:=qj ha (dT h)
    have eg:idx h.gc.da ((h.gc.da.length-1:Nat):Int)=some (dT h):=by
      rw[eK (l:=h.gc.da) (i:=((h.gc.da.length-1:Nat):Int)) (by omega) (by omega)];unfold dT;rw[show((h.gc.da.length:Int)-1)=((h.gc.da.length-1:Nat):Int) by omega]
    have hd:decide (((h.gc.da.length-1:Nat):Int)<0)=false:=by simp
    have hgt:decide (dT h>0)=(dT h != 0):=by
      rw[Bool.eq_iff_iff];simp;omega
    rw[g1,hd,if_neg hg];simp only[RL,eg,g2,(ha.at l0 l9).1,uy,RK,hgt];rw[show(bif dT h != 0 then some (eZ (nth h.ag (dT h)) now)else some false:Option Bool)=some ((dT h != 0)&&eZ (nth h.ag (dT h)) now) from iB _ _];simp only[RK];cases hc:((dT h != 0)&&eZ (nth h.ag (dT h)) now)
    · simp only[RL,Bool.false_eq_true,if_false];rw[HN hN h1 hw ha l0 l9];simp only[RK]
      rw[show((0:Int),h.ag.set (dT h).toNat (c6.mk (nth h.ag (dT h)).RG (nth h.ag (dT h)).Rq (nth h.ag (dT h)).box (nth h.ag (dT h)).RF (nth h.ag (dT h)).dY (nth h.ag (dT h)).cd (nth h.ag (dT h)).Ry (nth h.ag (dT h)).ee (nth h.ag (dT h)).ed true (nth h.ag (dT h)).dk (nth h.ag (dT h)).Rw (nth h.ag (dT h)).Rs),h.gc.Ru,h.gc.RD,h.gc.Rv,h.gc.da.take (h.gc.da.length-1)) =
        ((0:Int),ht (dm.mk (h.ag.set (dT h).toNat (marked (nth h.ag (dT h)) true)) (eS.mk h.gc.Ru h.gc.RD h.gc.Rv (kf h)))) from rfl,
        Ce hN (l:=h.ag) (now:=now) e1 e2 (h:=dm.mk (h.ag.set (dT h).toNat (marked (nth h.ag (dT h)) true)) (eS.mk h.gc.Ru h.gc.RD h.gc.Rv (kf h))) (by simp[ha.len]) (G:=h.gc.da.length) (by unfold kf;simp) h2
          (fun j hj=>by
            simp only;rw[sJ l0 (by rw[ha.len];omega) hj];split
            · rename_i e;rw[<- e];rfl
            · rfl)]
      · rfl
      · intro k t y hy hk t1 t2 t3 y0 y9;simp only[ht,ei hk,RM,dM,hy,RK,eK (l:=t.ag) y0 (show y<(t.ag.length:Int) by rw[t1];omega),uy,t3 y y0,DH,A9 hN y0 (show y<(t.ag.length:Int) by rw[t1];omega) t2,eB (show k<df by omega)];unfold iz;cases eZ (nth h.ag y) now<;>rfl
      · intro t;simp only[ht,ep,RL]
    · rfl
theorem Mr{N:Nat}(hN:df<=N){h:dm}(h1:eE dw h.ag<df)(hw:wA h.ag)(h2:h.gc.da.length+20<df)(now:Int):sZ N h now=some (gX h now):=by
  have h2':h.gc.da.length<df:=by omega
  unfold sZ gX;simp only[wo hN h1 h2',xF hN h1 h2' hw,RK];cases q:gn h
  · rfl
  have ha:=k8 q;simp only[RN,RL,if_true]
  rcases vG q with hp|⟨hp,hr⟩
  · rw[hp];simp only[beq_self_eq_true,RM,LA hN q h1 hw h2,RK];rfl
  · obtain⟨e1,e2⟩:=M1 hr.1 hr.2;have hsl:=yt h now;have e0:idx (iR h now) 0=some (nth (iR h now) 0):=eK (by omega) (by rw[hsl,ha.len];decide)
    have hgt:decide (h.gc.RD>0)=(h.gc.RD != 0):=by rw[Bool.eq_iff_iff];simp;omega
    rw[show(h.gc.Ru==0)=false by rw[hp];rfl,show(h.gc.Ru==1)=true by rw[hp];rfl];unfold kp;simp only[RL,(ha.at hr.1 hr.2).1,uy,F7 hN h1 hw,RK,hgt,e1,e2]
    rw[show(bif h.gc.RD != 0 then(bif(nth h.ag h.gc.RD).Rq != 0 then(bif !(nth h.ag h.gc.RD).mark then some true else some (eZ (nth h.ag h.gc.RD) now))else some false)else some false:Option Bool)=some (ir h now) by
      unfold ir;rw[gv,iB,iB,Bool.or_comm]]
    simp only[RK]
    have hsw:(bif ir h now then some (h.gc.RD,(jm h.ag h.gc.RD).1)else bif(nth h.ag h.gc.RD).Rq != 0 then some (-1,h.ag.set h.gc.RD.toNat (c6.mk (nth h.ag h.gc.RD).RG (nth h.ag h.gc.RD).Rq (nth h.ag h.gc.RD).box (nth h.ag h.gc.RD).RF (nth h.ag h.gc.RD).dY (nth h.ag h.gc.RD).cd (nth h.ag h.gc.RD).Ry (nth h.ag h.gc.RD).ee (nth h.ag h.gc.RD).ed false (nth h.ag h.gc.RD).dk (nth h.ag h.gc.RD).Rw (nth h.ag h.gc.RD).Rs))else some (-1,h.ag):Option (Int×List c6))=some (if ir h now then h.gc.RD else -1,iR h now):=by
      unfold iR;cases ir h now
      · cases hk:(nth h.ag h.gc.RD).Rq != 0
        · have hk0:((nth h.ag h.gc.RD).Rq==0)=true:=by simpa[bne]using hk
          have hid:h.ag.set h.gc.RD.toNat (marked (nth h.ag h.gc.RD) false)=h.ag:=by
            rw[Ex (ha.ok _ (ha.at hr.1 hr.2).2) hk0];exact kJ (fV hr.1 (by rw[ha.len];omega))
          simp[hid]
        · rfl
      · rfl
    rw[hsw];simp only[RK,e0];cases h.gc.RD==9<;>rfl
theorem CI{α:Type}{f:α->Nat}{z:α}:∀{l:List α} {k:Nat} {y:α},l[k]?=some y->f z=f y->lI f (l.set k z)=lI f l
  | x::l,0,y,h,e=>by simp at h;subst h;simp[lI,e]
  | x::l,k+1,y,h,e=>by
    simp only[List.set_cons_succ,lI];rw[CI (l:=l) (k:=k) (y:=y) (by simpa using h) e]
theorem ou{l:List c6}{i:Int}{z:c6}(h0:0<=i)(h1:i<(l.length:Int))(e:dw z=dw (nth l i)):eE dw (l.set i.toNat z)=eE dw l:=by
  unfold eE;rw[CI (fV h0 h1) e,List.length_set]
theorem xR{l:List c6}{now:Int}:∀(e:List Int) (h:dm),(∀y,y∈e->0<=y/\y<=9)->h.ag.length=10->wA h.ag ->
    eE dw (e.foldl (iz l now) h).ag=eE dw h.ag/\wA (e.foldl (iz l now) h).ag/\(e.foldl (iz l now) h).gc.da.length<=h.gc.da.length+e.length
  | [],h,_,_,hw=>⟨rfl,hw,Nat.le_refl _⟩
  | y::e,h,he,hl,hw=>by
    obtain⟨y0,y9⟩:=he y (by simp)
    have hy:y<(h.ag.length:Int):=by rw[hl];omega
    have key:eE dw (iz l now h y).ag=eE dw h.ag/\wA (iz l now h y).ag/\(iz l now h y).gc.da.length<=h.gc.da.length+1/\(iz l now h y).ag.length=10:=by
      unfold iz;split
      · exact⟨rfl,hw,Nat.le_succ _,hl⟩
      · refine⟨?_,?_,xi h y,by rw[zH,hl]⟩
        · unfold jH;split
          · exact ou y0 hy rfl
          · rfl
        · unfold jH;split
          · exact iH hw (show mo (marked (nth h.ag y) true) from hw (nth h.ag y) (gg y0 hy))
          · exact hw
    obtain⟨a1,a2,a3⟩:=xR e (iz l now h y) (fun z hz=>he z (by simp[hz])) key.2.2.2 key.2.1;simp only[List.foldl_cons,List.length_cons];exact⟨a1.trans key.1,a2,by omega⟩
theorem PA(i:Int)(o:c6):dw (nS i o)=dw o:=by
  unfold nS;split
  · rfl
  · unfold dw;simp
theorem P5{i:Int}{o:c6}(h:mo o):mo (nS i o):=by
  unfold nS;split
  · exact h
  · exact h
theorem NF(g:Int):mo (blank g):=by show(-9223372036854775808:Int)<=0;decide
theorem Jj{l:List c6}(hw:wA l)(i:Int):eE dw (jm l i).1<=eE dw l/\wA (jm l i).1:=by
  unfold jm;split
  · refine⟨?_,fun o ho=>?_⟩
    · show eE dw ((l.set i.toNat (blank (nth l i).RG)).map (nS i))<=_
      rw[H6 (PA i)];exact wZ
    · obtain⟨y,hy,rfl⟩:=List.mem_map.1 ho;exact P5 (iH hw (NF _) y hy)
  · exact⟨Nat.le_refl _,hw⟩
theorem u5{h:dm}(hw:wA h.ag)(now:Int):eE dw (gX h now).1.ag<=eE dw h.ag/\wA (gX h now).1.ag/\(gX h now).1.gc.da.length<=h.gc.da.length+10 /\
    (decide ((gX h now).2>=0)=true->Ar h.ag/\0<=(gX h now).2/\(gX h now).2<=9):=by
  unfold gX;split
  · rename_i q;have ha:=k8 q;have hl:=ha.len;split
    · rename_i hp
      have hp:h.gc.Ru=1:=by simpa using hp
      have hr:0<=h.gc.RD/\h.gc.RD<=9:=by
        rcases vG q with e|e
        · rw[hp]at e;cases e
        · exact e.2
      have hs:eE dw (iR h now)<=eE dw h.ag/\wA (iR h now):=by
        unfold iR;split
        · exact Jj hw _
        · exact⟨Nat.le_of_eq (ou hr.1 (by rw[hl];omega) rfl),iH hw (show mo (marked (nth h.ag h.gc.RD) false) from hw (nth h.ag h.gc.RD) (ha.at hr.1 hr.2).2)⟩
      have hsl:=yt h now
      have h0:(0:Int)<((iR h now).length:Int):=by rw[hsl,hl];decide
      refine⟨?_,?_,?_,fun hd=>⟨ha,?_⟩⟩
      · unfold kp Fw;simp only;split
        · show eE dw ((iR h now).set (0:Int).toNat _)<=_
          rw[ou (z:=marked (nth (iR h now) 0) true) (Int.le_refl 0) h0 rfl];exact hs.1
        · exact hs.1
      · unfold kp Fw;simp only;split
        · exact iH hs.2 (show mo (marked (nth (iR h now) 0) true) from hs.2 (nth (iR h now) 0) (gg (Int.le_refl 0) h0))
        · exact hs.2
      · unfold kp;simp only;split
        · simp
        · exact Nat.le_add_right _ _
      · unfold kp at hd⊢;simp only at hd⊢;split
        · exact hr
        · rename_i hn;rw[if_neg hn]at hd;simp at hd
    · refine⟨?_,?_,?_,fun hd=>by simp at hd⟩
      all_goals
        unfold rY
        simp only
        split
        · first|exact Nat.le_refl _|exact hw|exact Nat.le_add_right _ _
        · rename_i hg
          split
          · first|exact Nat.le_refl _|exact hw|(unfold kf;simp;omega)
          · obtain⟨l0,l9⟩:=pN q hg
            obtain⟨e1,e2⟩:=qj ha (dT h)
            obtain⟨a1,a2,a3⟩:=xR (l:=h.ag) (now:=now) (j5 h.ag (dT h)) (dm.mk (h.ag.set (dT h).toNat (marked (nth h.ag (dT h)) true)) (eS.mk h.gc.Ru h.gc.RD h.gc.Rv (kf h))) e1 (by simp[hl]) (iH hw (show mo (marked (nth h.ag (dT h)) true) from hw (nth h.ag (dT h)) (ha.at l0 l9).2))
            first
              | exact Nat.le_of_eq (a1.trans (ou l0 (by rw[hl];omega) rfl))
              | exact a2
              | (refine Nat.le_trans a3 ?_
                 unfold kf
                 simp
                 omega)
  · exact⟨Nat.le_refl _,hw,Nat.le_add_right _ _,fun hd=>by simp at hd⟩
structure wg where
  n:Int
  Rr:List dj
  py:dm
def nE(now:Int)(c:wg):wg :=
  if decide ((gX c.py now).2>=0)then⟨i64.wrap (c.n+1),(iW c.Rr (nth c.py.ag (gX c.py now).2).RF ⟨(nth c.py.ag (gX c.py now).2).cd,0,0⟩).1,(gX c.py now).1⟩
  else⟨c.n,c.Rr,(gX c.py now).1⟩
def xP(now:Int):Nat->wg->wg
  | 0,c=>c
  | k+1,c=>xP now k (nE now c)
def fX(p:bh)(now steps:Int):bh×Int :=
  if dH p&&dv steps 0 100 then
    (bh.mk p.Rp p.own (xP now steps.toNat ⟨0,p.Rr,p.py⟩).Rr (xP now steps.toNat ⟨0,p.Rr,p.py⟩).py p.db p.RA p.Rz p.dc p.du p.Rx,(xP now steps.toNat ⟨0,p.Rr,p.py⟩).n)
  else(p,0)
def ct(k:Nat)(c:wg):Int×Int×List dj×List c6×Int×Int×Int×List Int:=(c.n,(k:Int),c.Rr,c.py.ag,c.py.gc.Ru,c.py.gc.RD,c.py.gc.Rv,c.py.gc.da)
structure DT (S T G:Nat) (k:Nat) (c:wg):Prop where
  sz:eE dw c.py.ag<=S
  tl:c.Rr.length=T
  gl:c.py.gc.da.length<=G+10*k
  w:wA c.py.ag
theorem AB{S T G k:Nat}{c:wg}(h:DT S T G k c)(now:Int):DT S T G (k+1) (nE now c):=by
  obtain⟨s1,s2,s3,_⟩:=u5 h.w now;have a1:=h.sz;have a2:=h.tl;have a3:=h.gl;unfold nE;split
  · exact⟨by simp only;omega,by simp only;rw[vP,a2],by simp only;omega,s2⟩
  · exact⟨by simp only;omega,a2,by simp only;omega,s2⟩
theorem Hx{S T G:Nat}{now:Int}:∀(j k:Nat) (c:wg),DT S T G k c->DT S T G (k+j) (xP now j c)
  | 0,k,c,h=>h
  | j+1,k,c,h=>by
    have:=Hx (now:=now) j (k+1) (nE now c) (AB h now)
    rwa[show k+1+j=k+(j+1) by omega]at this
theorem H3{N:Nat}(hN:df<=N){now steps:Int}(h0:0<=steps)(h1:steps<=100){S T G:Nat}{c:wg}(hc:DT S T G 0 c)
    {body:Int×Int×List dj×List c6×Int×Int×Int×List Int->Option ((Int×Int×List dj×List c6×Int×Int×Int×List Int)⊕(Int×Int×List dj×List c6×Int×Int×Int×List Int))}
    (hs:∀(k:Nat) (c:wg),k<100->(k:Int)<steps->DT S T G k c->body (ct k c)=some (.inl (ct (k+1) (nE now c)))) (he:∀c,body (ct steps.toNat c)=some (.inr (ct steps.toNat c))) :
    iter body N (ct 0 c)=some (ct steps.toNat (xP now steps.toNat c)):=by
  have e:∀(j i:Nat) (c:wg),foldI (fun _ c (_:Unit)=>nE now c) i c (List.replicate j ())=xP now j c:=by
    intro j
    induction j with
    | zero=>intro i c;rfl
    | succ j ih=>intro i c;rw[List.replicate_succ];unfold foldI xP;exact ih _ _
  rw[gz (List.replicate steps.toNat ()) ct (fun _ c _=>nE now c) (fun c=>ct steps.toNat c) (fun k c=>DT S T G k c) ?_ ?_ (by have:16777216<=N:=hN;simp;omega) hc,e]
  · intro k c y hy hk hI
    have hk:k<steps.toNat:=by simpa using hk
    exact⟨hs k c (by omega) (by omega) hI,AB hI now⟩
  · intro c _;rw[show(List.replicate steps.toNat ()).length=steps.toNat by simp];exact he c
theorem Dt{N:Nat}(hN:df<=N){p:bh}(hb:dC p<=3000000)(hw:wP p)(now steps:Int):mY N p now steps=some (fX p now steps):=by
  have hB:(16777216:Nat)=df:=rfl
  have hb':dC p<df:=by omega
  have hz:eE dw p.py.ag<=3000000/\p.py.gc.da.length<=3000000/\p.Rr.length<=3000000:=by unfold dC mu vX at hb;omega
  unfold mY fX;simp only[mW hN hb',sb hN hb',jK,RK,gv];cases dH p
  · rfl
  cases hst:dv steps 0 100
  · rfl
  have hr:=dI.1 hst;simp only[RN,Bool.or_self,RL,Bool.and_self,if_true]
  rw[show((0:Int),(0:Int),p.Rr,p.py.ag,p.py.gc.Ru,p.py.gc.RD,p.py.gc.Rv,p.py.gc.da)=ct 0 ⟨0,p.Rr,p.py⟩ from rfl,
    H3 hN (now:=now) hr.1 hr.2 (S:=3000000) (T:=p.Rr.length) (G:=3000000) (c:=⟨0,p.Rr,p.py⟩) ⟨hz.1,rfl,by simp only;omega,hw⟩]
  · rfl
  · intro k c hk hks hI;have g1:eE dw c.py.ag<df:=Nat.lt_of_le_of_lt hI.sz (by decide)
    have g2:c.py.gc.da.length+20<df:=by have:=hI.gl;omega
    have g3:c.Rr.length<df:=by rw[hI.tl];omega
    have hd:decide ((k:Int)<steps)=true:=by simpa using hks
    obtain⟨_,_,_,s4⟩:=u5 hI.w now
    show(bif decide ((k:Int)<steps)then _ else _)=_
    rw[hd];simp only[ct,RM,DH,Ma hN g1 g2,RK,eB (show k<df by omega)];unfold nE;cases hv:decide ((gX c.py now).2>=0)
    · rfl
    · obtain⟨har,v0,v9⟩:=s4 hv;simp only[RM,(har.at v0 v9).1,xL,xC hN g3,RK,if_true];rfl
  · intro c
    have hd:decide (((steps.toNat:Nat):Int)<steps)=false:=by simp;omega
    show(bif decide (((steps.toNat:Nat):Int)<steps)then _ else _)=_
    rw[hd];simp only[ct,RL]
theorem Dr{N:Nat}(hN:df<=N){p:bh}(hb:dC p<=3000000)(hw:wP p)(now steps:Int):mO N p now steps=some (fX p now steps):=by
  have hB:(16777216:Nat)=df:=rfl
  have hb':dC p<df:=by omega
  have hz:eE dw p.py.ag<=3000000/\p.py.gc.da.length<=3000000/\p.Rr.length<=3000000:=by unfold dC mu vX at hb;omega
  unfold mO fX;simp only[qa hN hb',sd hN hb' hw,jj,RK,gv];cases dH p
  · rfl
  cases hst:dv steps 0 100
  · rfl
  have hr:=dI.1 hst;simp only[RN,Bool.or_self,RL,Bool.and_self,if_true]
  rw[show((0:Int),(0:Int),p.Rr,p.py.ag,p.py.gc.Ru,p.py.gc.RD,p.py.gc.Rv,p.py.gc.da)=ct 0 ⟨0,p.Rr,p.py⟩ from rfl,
    H3 hN (now:=now) hr.1 hr.2 (S:=3000000) (T:=p.Rr.length) (G:=3000000) (c:=⟨0,p.Rr,p.py⟩) ⟨hz.1,rfl,by simp only;omega,hw⟩]
  · rfl
  · intro k c hk hks hI;have g1:eE dw c.py.ag<df:=Nat.lt_of_le_of_lt hI.sz (by decide)
    have g2:c.py.gc.da.length+20<df:=by have:=hI.gl;omega
    have g3:c.Rr.length<df:=by rw[hI.tl];omega
    have hd:decide ((k:Int)<steps)=true:=by simpa using hks
    obtain⟨_,_,_,s4⟩:=u5 hI.w now
    show(bif decide ((k:Int)<steps)then _ else _)=_
    rw[hd];simp only[ct,RM,DH,Mr hN g1 hI.w g2,RK,eB (show k<df by omega)];unfold nE;cases hv:decide ((gX c.py now).2>=0)
    · rfl
    · obtain⟨har,v0,v9⟩:=s4 hv;simp only[RM,(har.at v0 v9).1,xD hN g3,RK,if_true]
  · intro c
    have hd:decide (((steps.toNat:Nat):Int)<steps)=false:=by simp;omega
    show(bif decide (((steps.toNat:Nat):Int)<steps)then _ else _)=_
    rw[hd];simp only[ct,RL]
theorem Ij{p:bh}(hb:dC p<=3000000)(hw:wP p)(now steps:Int):dC (fX p now steps).1<=dC p+1000/\wP (fX p now steps).1:=by
  unfold fX;split
  · rename_i h;rw[RP,dI]at h;have hI:=Hx (now:=now) steps.toNat 0 ⟨0,p.Rr,p.py⟩ (S:=eE dw p.py.ag) (T:=p.Rr.length) (G:=p.py.gc.da.length) ⟨Nat.le_refl _,rfl,Nat.le_refl _,hw⟩;have a1:=hI.sz;have a2:=hI.tl;have a3:=hI.gl;refine⟨?_,hI.w⟩;unfold dC mu vX at hb⊢;simp only;omega
  · exact⟨Nat.le_add_right _ _,hw⟩
end Go.Kx
