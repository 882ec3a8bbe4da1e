import Derived.Test.YtfmfgnhbgcjajaaGreatLPut
namespace Go.Kx
open Go
open Go.IntKind (i64)
set_option linter.unusedVariables false
set_option linter.unusedSimpArgs false
set_option maxRecDepth 10000
def fN(h:df)(k:Int):df :=
  if(h.gc.Rg==0)&&(((nth h.ag k).so != 0)&&!(nth h.ag k).mark)then
    df.mk (h.ag.set k.toNat (marked (nth h.ag k) true)) (eT.mk h.gc.Rg h.gc.Rp h.gc.Rh (if h.gc.da.contains k then h.gc.da else h.gc.da++[k]))
  else h
theorem Ei{l:List Int}{k:Int}(h:l.length+1<dh):app l [k]=some (l++[k]):=by
  unfold app;rw[if_pos (by simpa using h)]
theorem Hh{N:Nat}(hN:dh<=N){h:df}{k:Int}(h0:0<=k)(h1:k<(h.ag.length:Int))(hg:h.gc.da.length+1<dh):sO N h k=some (fN h k):=by
  have hg':h.gc.da.length<dh:=by omega
  unfold sO fN;rw[<- Bool.cond_eq_ite];simp only[eP (l:=h.ag) h0 h1,re hN hg',Ei hg,Ry,bne];cases h.gc.Rg==0
  · rfl
  cases(nth h.ag k).so==0
  · cases(nth h.ag k).mark
    · cases h.gc.da.contains k<;>rfl
    · rfl
  · rfl
theorem AV{N:Nat}(hN:dh<=N){h:df}{k:Int}(h0:0<=k)(h1:k<(h.ag.length:Int))(hg:h.gc.da.length+1<dh):nX N h k=some (fN h k):=by
  have hg':h.gc.da.length<dh:=by omega
  unfold nX fN;rw[<- Bool.cond_eq_ite];simp only[eP (l:=h.ag) h0 h1,vt hN hg',Ei hg,Ry,bne];cases h.gc.Rg==0
  · rfl
  cases(nth h.ag k).so==0
  · cases(nth h.ag k).mark
    · cases h.gc.da.contains k<;>rfl
    · rfl
  · rfl
theorem wS(h:df)(k:Int):(fN h k).ag.length=h.ag.length:=by
  unfold fN;split<;>simp
theorem xV(h:df)(k:Int):(fN h k).gc.da.length<=h.gc.da.length+1:=by
  unfold fN;split
  · simp only;split
    · exact Nat.le_succ _
    · simp
  · exact Nat.le_succ _
theorem gM{l:List c6}{i j:Int}{o:c6}(h0:0<=i)(h1:i<(l.length:Int))(hj:0<=j):nth (l.set i.toNat o) j=if i=j then o else nth l j:=by
  unfold nth;rw[List.getElem?_set]
  by_cases e:i=j
  · subst e;rw[if_pos rfl,if_pos (by omega),if_pos rfl];rfl
  · rw[if_neg (by omega),if_neg e]
theorem KV{h:df}{k j:Int}{now:Int}(h0:0<=k)(h1:k<(h.ag.length:Int))(hj:0<=j):ep (nth (fN h k).ag j) now=ep (nth h.ag j) now:=by
  unfold fN;split
  · simp only;rw[gM h0 h1 hj];split
    · rename_i e;subst e;rfl
    · rfl
  · rfl
def fL(l:List c6)(now:Int)(h:df)(k:Int):df:=if ep (nth l k) now then h else fN h k
def dw(h:df):Int:=nth h.gc.da ((h.gc.da.length:Int)-1)
def gv(h:df):List Int:=h.gc.da.take (h.gc.da.length-1)
def mz(h:df)(now:Int):df :=
  if h.gc.da.length=0 then df.mk h.ag (eT.mk 1 0 h.gc.Rh h.gc.da)
  else if(dw h != 0)&&ep (nth h.ag (dw h)) now then df.mk h.ag (eT.mk h.gc.Rg h.gc.Rp h.gc.Rh (gv h))
  else(eY h.ag (dw h)).foldl (fL h.ag now) (df.mk (h.ag.set (dw h).toNat (marked (nth h.ag (dw h)) true)) (eT.mk h.gc.Rg h.gc.Rp h.gc.Rh (gv h)))
def ht(h:df):List c6×Int×Int×Int×List Int:=(h.ag,h.gc.Rg,h.gc.Rp,h.gc.Rh,h.gc.da)
theorem CV{N:Nat}(hN:dh<=N){l:List c6}{now:Int}{e:List Int}(he:∀y,y∈e->0<=y/\y<=9)(hel:e.length<=10){h:df}(hl:h.ag.length=10){G:Nat}(hg:h.gc.da.length<=G)(hG:G+20<dh)
    (hx:∀j,0<=j->ep (nth h.ag j) now=ep (nth l j) now)
    {body:Int×List c6×Int×Int×Int×List Int->Option ((Int×List c6×Int×Int×Int×List Int)⊕(Int×List c6×Int×Int×Int×List Int))}
    (hs:∀(k:Nat) (t:df) (y:Int),e[k]?=some y->k<e.length->t.ag.length=10->t.gc.da.length+1<dh->(∀j,0<=j->ep (nth t.ag j) now=ep (nth l j) now)->0<=y->y<=9->body ((k:Int),ht t)=some (.inl (((k+1:Nat):Int),ht (fL l now t y))))
    (hend:∀t,body ((e.length:Int),ht t)=some (.inr ((e.length:Int),ht t))) :
    iter body N (0,ht h)=some ((e.length:Int),ht (e.foldl (fL l now) h)):=by
  have hB:e.length<dh:=by omega
  rw[show((0:Int),ht h)=(fun(k:Nat) (t:df)=>((k:Int),ht t)) 0 h from rfl,
    gy e (fun(k:Nat) (t:df)=>((k:Int),ht t)) (fun _ t y=>fL l now t y) (fun t=>((e.length:Int),ht t)) (fun k t=>t.ag.length=10/\t.gc.da.length<=G+k/\∀j,0<=j->ep (nth t.ag j) now=ep (nth l j) now) ?_ ?_ (Nat.lt_of_lt_of_le hB hN) ⟨hl,hg,hx⟩,ir]
  · intro k t y hy hk ⟨i1,i2,i3⟩;obtain⟨y0,y9⟩:=he y (List.mem_of_getElem? hy);refine⟨hs k t y hy hk i1 (by omega) i3 y0 y9,?_⟩;unfold fL;split
    · exact⟨i1,by omega,i3⟩
    · have:=xV t y;exact⟨by rw[wS,i1],by omega,fun j hj=>by rw[KV y0 (by omega) hj,i3 j hj]⟩
  · intro t _;exact hend t
theorem FQ{h:df}(q:fR h=true):∀y,y∈h.gc.da->0<=y/\y<=9:=by
  unfold fR at q;simp only[RD,jI]at q;intro y hy;obtain⟨k,hk⟩:=List.getElem?_of_mem hy;have:=q.2.2.2 k y hk;unfold qU at this;rw[RD,dM]at this;exact this.1
theorem kB{h:df}(q:fR h=true)(hg:h.gc.da.length ≠ 0):0<=dw h/\dw h<=9:=FQ q _ (gJ (by omega) (by omega))
theorem Ez{g:List Int}(hg:g.length ≠ 0)(hB:g.length<dh):i64.wrap ((g.length:Int)-1)=((g.length-1:Nat):Int)/\sub g 0 ((g.length-1:Nat):Int)=some (g.take (g.length-1)):=by
  have:g.length<16777216:=hB;exact⟨by rw[dF (by omega) (by omega)];omega,vO (by omega)⟩
def pW(l:List c6):List c6:=l.set 0 (marked (nth l 0) true)
def gn(h:df)(now:Int):Bool:=(h.gc.Rp != 0)&&(((nth h.ag h.gc.Rp).so != 0)&&(ep (nth h.ag h.gc.Rp) now || !(nth h.ag h.gc.Rp).mark))
def fJ(h:df)(now:Int):List c6:=if gn h now then(jl h.ag h.gc.Rp).1 else h.ag.set h.gc.Rp.toNat (marked (nth h.ag h.gc.Rp) false)
def iC(h:df)(now:Int):df×Int :=
  (if h.gc.Rp==9 then df.mk (pW (fJ h now)) (eT.mk 0 0 (if 1000000<i64.wrap (h.gc.Rh+1)then 1000000 else i64.wrap (h.gc.Rh+1)) [0])
    else df.mk (fJ h now) (eT.mk h.gc.Rg (h.gc.Rp+1) h.gc.Rh h.gc.da),if gn h now then h.gc.Rp else -1)
def fy(h:df)(now:Int):df×Int:=if fR h then(if h.gc.Rg==1 then iC h now else(mz h now, -1))else(h, -1)
theorem vR{h:df}(q:fR h=true):(h.gc.Rg=0)\/(h.gc.Rg=1/\0<=h.gc.Rp/\h.gc.Rp<=9):=by
  unfold fR kU at q;simp only[RD,Bool.or_eq_true,beq_iff_eq,dM]at q
  rcases q.2.1 with⟨h1,_⟩|⟨h1,h2,_⟩
  · exact .inl h1
  · exact .inr ⟨h1,h2⟩
theorem Dn(l:List c6)(i:Int):(jl l i).1.length=l.length:=by
  unfold jl;split<;>simp
theorem y6(h:df)(now:Int):(fJ h now).length=h.ag.length:=by
  unfold fJ;split
  · exact Dn _ _
  · simp
theorem MI{n:Int}(h0:0<=n)(h9:n<=9):((n+1:Int)==10)=(n==9)/\i64.wrap (n+1)=n+1:=by
  rw[dF (by omega) (by omega)];exact⟨by rw[Bool.eq_iff_iff];simp;omega,rfl⟩
theorem Gs{N:Nat}(hN:dh<=N){h:df}(q:fR h=true)(hp:h.gc.Rg=1)(h1:eK dA h.ag<dh)(now:Int):o4 N h now=some (iC h now):=by
  have ha:=kl q
  have hr:0<=h.gc.Rp/\h.gc.Rp<=9:=by
    rcases vR q with e|e
    · rw[hp]at e;cases e
    · exact e.2
  obtain⟨e1,e2⟩:=MI hr.1 hr.2;have hsl:=y6 h now;have e0:idx (fJ h now) 0=some (nth (fJ h now) 0):=eP (by omega) (by rw[hsl,ha.len];decide);unfold o4 iC;simp only[(ha.at hr.1 hr.2).1,wz,GI hN h1,Ry,iK,gW,e1,e2];rw[show(h.gc.Rp != 0&&((nth h.ag h.gc.Rp).so != 0&&(ep (nth h.ag h.gc.Rp) now || !(nth h.ag h.gc.Rp).mark)))=gn h now from rfl]
  have hsw:(bif gn h now then some (h.gc.Rp,(jl h.ag h.gc.Rp).1)else some (-1,h.ag.set h.gc.Rp.toNat (c6.mk (nth h.ag h.gc.Rp).Rs (nth h.ag h.gc.Rp).so (nth h.ag h.gc.Rp).box (nth h.ag h.gc.Rp).Rt (nth h.ag h.gc.Rp).dX (nth h.ag h.gc.Rp).cd (nth h.ag h.gc.Rp).Rm (nth h.ag h.gc.Rp).ef (nth h.ag h.gc.Rp).ee false (nth h.ag h.gc.Rp).dp (nth h.ag h.gc.Rp).Ri (nth h.ag h.gc.Rp).Rf)):Option (Int×List c6))=some (if gn h now then h.gc.Rp else -1,fJ h now):=by
    unfold fJ;cases gn h now<;>rfl
  rw[hsw];simp only[Ry,e0];cases h.gc.Rp==9<;>rfl
theorem Dw(t:df):df.mk t.ag (eT.mk t.gc.Rg t.gc.Rp t.gc.Rh t.gc.da)=t:=rfl
theorem Mn{N:Nat}(hN:dh<=N){h:df}(h1:eK dA h.ag<dh)(h2:h.gc.da.length+20<dh)(now:Int):tG N h now=some (fy h now):=by
  have h2':h.gc.da.length<dh:=by omega
  unfold tG fy;simp only[vg hN h1 h2',vU hN h1 h2',Ry];cases q:fR h
  · rfl
  have ha:=kl q;simp only[RB,Rz,if_true];cases hp:h.gc.Rg==1
  · simp only[Rz,Bool.false_eq_true,if_false];unfold mz
    by_cases hg:h.gc.da.length=0
    · have:((h.gc.da.length:Int)==0)=true:=by simp[hg]
      rw[this,if_pos hg];rfl
    · have:((h.gc.da.length:Int)==0)=false:=beq_eq_false_iff_ne.2 (by omega);obtain⟨g1,g2⟩:=Ez hg h2';obtain⟨l0,l9⟩:=kB q hg;obtain⟨e1,e2⟩:=jH ha (dw h)
      have eg:idx h.gc.da ((h.gc.da.length-1:Nat):Int)=some (dw h):=by
        rw[eP (l:=h.gc.da) (i:=((h.gc.da.length-1:Nat):Int)) (by omega) (by omega)];unfold dw;rw[show((h.gc.da.length:Int)-1)=((h.gc.da.length-1:Nat):Int) by omega]
      rw[this,if_neg hg,g1];simp only[Rz,eg,g2,(ha.at l0 l9).1,wz,Ry];rw[show(bif dw h != 0 then some (ep (nth h.ag (dw h)) now)else some false:Option Bool)=some ((dw h != 0)&&ep (nth h.ag (dw h)) now) from iK _ _];simp only[Ry];cases hc:((dw h != 0)&&ep (nth h.ag (dw h)) now)
      · simp only[Rz,Bool.false_eq_true,if_false];rw[ym hN ha l0 l9];simp only[Ry]
        rw[show((0:Int),h.ag.set (dw h).toNat (c6.mk (nth h.ag (dw h)).Rs (nth h.ag (dw h)).so (nth h.ag (dw h)).box (nth h.ag (dw h)).Rt (nth h.ag (dw h)).dX (nth h.ag (dw h)).cd (nth h.ag (dw h)).Rm (nth h.ag (dw h)).ef (nth h.ag (dw h)).ee true (nth h.ag (dw h)).dp (nth h.ag (dw h)).Ri (nth h.ag (dw h)).Rf),h.gc.Rg,h.gc.Rp,h.gc.Rh,h.gc.da.take (h.gc.da.length-1)) =
          ((0:Int),ht (df.mk (h.ag.set (dw h).toNat (marked (nth h.ag (dw h)) true)) (eT.mk h.gc.Rg h.gc.Rp h.gc.Rh (gv h)))) from rfl,
          CV hN (l:=h.ag) (now:=now) e1 e2 (h:=df.mk (h.ag.set (dw h).toNat (marked (nth h.ag (dw h)) true)) (eT.mk h.gc.Rg h.gc.Rp h.gc.Rh (gv h))) (by simp[ha.len]) (G:=h.gc.da.length) (by unfold gv;simp) h2
            (fun j hj=>by
              simp only;rw[gM l0 (by rw[ha.len];omega) hj];split
              · rename_i e;rw[<- e];rfl
              · rfl)]
        · rfl
        · intro k t y hy hk t1 t2 t3 y0 y9;simp only[ht,ey hk,RA,dN,hy,Ry,(ha.at y0 y9).1,wz,Dw,Hh hN y0 (show y<(t.ag.length:Int) by rw[t1];omega) t2,eD (show k<dh by omega)];unfold fL;cases ep (nth h.ag y) now<;>rfl
        · intro t;simp only[ht,er,Rz]
      · rfl
  · have hp1:h.gc.Rg=1:=by simpa using hp
    simp only[RA,Gs hN q hp1 h1,Ry,if_true]
theorem Ev{o:c6}(h:eG o=true)(hk:(o.so==0)=true):marked o false=o:=by
  unfold eG at h;simp only[hk,RA,RD,decide_eq_true_eq]at h;rw[h.2.2];rfl
theorem K3{N:Nat}(hN:dh<=N){h:df}(q:fR h=true)(h1:eK dA h.ag<dh)(hw:wA h.ag)(h2:h.gc.da.length+20<dh)(now:Int):sc N h now=some (mz h now):=by
  have h2':h.gc.da.length<dh:=by omega
  have hB:h.gc.da.length<16777216:=h2';have ha:=kl q;unfold sc mz
  by_cases hg:h.gc.da.length=0
  · have:decide (i64.wrap ((h.gc.da.length:Int)-1)<0)=true:=by rw[hg];decide
    rw[this,if_pos hg];rfl
  · obtain⟨g1,g2⟩:=Ez hg h2';obtain⟨l0,l9⟩:=kB q hg;obtain⟨e1,e2⟩:=jH ha (dw h)
    have eg:idx h.gc.da ((h.gc.da.length-1:Nat):Int)=some (dw h):=by
      rw[eP (l:=h.gc.da) (i:=((h.gc.da.length-1:Nat):Int)) (by omega) (by omega)];unfold dw;rw[show((h.gc.da.length:Int)-1)=((h.gc.da.length-1:Nat):Int) by omega]
    have hd:decide (((h.gc.da.length-1:Nat):Int)<0)=false:=by simp
    have hgt:decide (dw h>0)=(dw h != 0):=by
      rw[Bool.eq_iff_iff];simp;omega
    rw[g1,hd,if_neg hg];simp only[Rz,eg,g2,(ha.at l0 l9).1,uV,Ry,hgt];rw[show(bif dw h != 0 then some (ep (nth h.ag (dw h)) now)else some false:Option Bool)=some ((dw h != 0)&&ep (nth h.ag (dw h)) now) from iK _ _];simp only[Ry];cases hc:((dw h != 0)&&ep (nth h.ag (dw h)) now)
    · simp only[Rz,Bool.false_eq_true,if_false];rw[BY hN h1 hw ha l0 l9];simp only[Ry]
      rw[show((0:Int),h.ag.set (dw h).toNat (c6.mk (nth h.ag (dw h)).Rs (nth h.ag (dw h)).so (nth h.ag (dw h)).box (nth h.ag (dw h)).Rt (nth h.ag (dw h)).dX (nth h.ag (dw h)).cd (nth h.ag (dw h)).Rm (nth h.ag (dw h)).ef (nth h.ag (dw h)).ee true (nth h.ag (dw h)).dp (nth h.ag (dw h)).Ri (nth h.ag (dw h)).Rf),h.gc.Rg,h.gc.Rp,h.gc.Rh,h.gc.da.take (h.gc.da.length-1)) =
        ((0:Int),ht (df.mk (h.ag.set (dw h).toNat (marked (nth h.ag (dw h)) true)) (eT.mk h.gc.Rg h.gc.Rp h.gc.Rh (gv h)))) from rfl,
        CV hN (l:=h.ag) (now:=now) e1 e2 (h:=df.mk (h.ag.set (dw h).toNat (marked (nth h.ag (dw h)) true)) (eT.mk h.gc.Rg h.gc.Rp h.gc.Rh (gv h))) (by simp[ha.len]) (G:=h.gc.da.length) (by unfold gv;simp) h2
          (fun j hj=>by
            simp only;rw[gM l0 (by rw[ha.len];omega) hj];split
            · rename_i e;rw[<- e];rfl
            · rfl)]
      · rfl
      · intro k t y hy hk t1 t2 t3 y0 y9;simp only[ht,ey hk,RA,dN,hy,Ry,eP (l:=t.ag) y0 (show y<(t.ag.length:Int) by rw[t1];omega),uV,t3 y y0,Dw,AV hN y0 (show y<(t.ag.length:Int) by rw[t1];omega) t2,eD (show k<dh by omega)];unfold fL;cases ep (nth h.ag y) now<;>rfl
      · intro t;simp only[ht,er,Rz]
    · rfl
theorem LO{N:Nat}(hN:dh<=N){h:df}(h1:eK dA h.ag<dh)(hw:wA h.ag)(h2:h.gc.da.length+20<dh)(now:Int):tj N h now=some (fy h now):=by
  have h2':h.gc.da.length<dh:=by omega
  unfold tj fy;simp only[wg hN h1 h2',vZ hN h1 h2' hw,Ry];cases q:fR h
  · rfl
  have ha:=kl q;simp only[RB,Rz,if_true]
  rcases vR q with hp|⟨hp,hr⟩
  · rw[hp];simp only[beq_self_eq_true,RA,K3 hN q h1 hw h2,Ry];rfl
  · obtain⟨e1,e2⟩:=MI hr.1 hr.2;have hsl:=y6 h now;have e0:idx (fJ h now) 0=some (nth (fJ h now) 0):=eP (by omega) (by rw[hsl,ha.len];decide)
    have hgt:decide (h.gc.Rp>0)=(h.gc.Rp != 0):=by rw[Bool.eq_iff_iff];simp;omega
    rw[show(h.gc.Rg==0)=false by rw[hp];rfl,show(h.gc.Rg==1)=true by rw[hp];rfl];unfold iC;simp only[Rz,(ha.at hr.1 hr.2).1,uV,GG hN h1 hw,Ry,hgt,e1,e2]
    rw[show(bif h.gc.Rp != 0 then(bif(nth h.ag h.gc.Rp).so != 0 then(bif !(nth h.ag h.gc.Rp).mark then some true else some (ep (nth h.ag h.gc.Rp) now))else some false)else some false:Option Bool)=some (gn h now) by
      unfold gn;rw[gW,iK,iK,Bool.or_comm]]
    simp only[Ry]
    have hsw:(bif gn h now then some (h.gc.Rp,(jl h.ag h.gc.Rp).1)else bif(nth h.ag h.gc.Rp).so != 0 then some (-1,h.ag.set h.gc.Rp.toNat (c6.mk (nth h.ag h.gc.Rp).Rs (nth h.ag h.gc.Rp).so (nth h.ag h.gc.Rp).box (nth h.ag h.gc.Rp).Rt (nth h.ag h.gc.Rp).dX (nth h.ag h.gc.Rp).cd (nth h.ag h.gc.Rp).Rm (nth h.ag h.gc.Rp).ef (nth h.ag h.gc.Rp).ee false (nth h.ag h.gc.Rp).dp (nth h.ag h.gc.Rp).Ri (nth h.ag h.gc.Rp).Rf))else some (-1,h.ag):Option (Int×List c6))=some (if gn h now then h.gc.Rp else -1,fJ h now):=by
      unfold fJ;cases gn h now
      · cases hk:(nth h.ag h.gc.Rp).so != 0
        · have hk0:((nth h.ag h.gc.Rp).so==0)=true:=by simpa[bne]using hk
          have hid:h.ag.set h.gc.Rp.toNat (marked (nth h.ag h.gc.Rp) false)=h.ag:=by
            rw[Ev (ha.ok _ (ha.at hr.1 hr.2).2) hk0];exact kD (fM hr.1 (by rw[ha.len];omega))
          simp[hid]
        · rfl
      · rfl
    rw[hsw];simp only[Ry,e0];cases h.gc.Rp==9<;>rfl
theorem Cm{α:Type}{f:α->Nat}{z:α}:∀{l:List α} {k:Nat} {y:α},l[k]?=some y->f z=f y->mO f (l.set k z)=mO f l
  | x::l,0,y,h,e=>by simp at h;subst h;simp[mO,e]
  | x::l,k+1,y,h,e=>by
    simp only[List.set_cons_succ,mO];rw[Cm (l:=l) (k:=k) (y:=y) (by simpa using h) e]
theorem oF{l:List c6}{i:Int}{z:c6}(h0:0<=i)(h1:i<(l.length:Int))(e:dA z=dA (nth l i)):eK dA (l.set i.toNat z)=eK dA l:=by
  unfold eK;rw[Cm (fM h0 h1) e,List.length_set]
theorem xY{l:List c6}{now:Int}:∀(e:List Int) (h:df),(∀y,y∈e->0<=y/\y<=9)->h.ag.length=10->wA h.ag ->
    eK dA (e.foldl (fL l now) h).ag=eK dA h.ag/\wA (e.foldl (fL l now) h).ag/\(e.foldl (fL l now) h).gc.da.length<=h.gc.da.length+e.length
  | [],h,_,_,hw=>⟨rfl,hw,Nat.le_refl _⟩
  | y::e,h,he,hl,hw=>by
    obtain⟨y0,y9⟩:=he y (by simp)
    have hy:y<(h.ag.length:Int):=by rw[hl];omega
    have key:eK dA (fL l now h y).ag=eK dA h.ag/\wA (fL l now h y).ag/\(fL l now h y).gc.da.length<=h.gc.da.length+1/\(fL l now h y).ag.length=10:=by
      unfold fL;split
      · exact⟨rfl,hw,Nat.le_succ _,hl⟩
      · refine⟨?_,?_,xV h y,by rw[wS,hl]⟩
        · unfold fN;split
          · exact oF y0 hy rfl
          · rfl
        · unfold fN;split
          · exact iR hw (show mG (marked (nth h.ag y) true) from hw (nth h.ag y) (gJ y0 hy))
          · exact hw
    obtain⟨a1,a2,a3⟩:=xY e (fL l now h y) (fun z hz=>he z (by simp[hz])) key.2.2.2 key.2.1;simp only[List.foldl_cons,List.length_cons];exact⟨a1.trans key.1,a2,by omega⟩
theorem Oz(i:Int)(o:c6):dA (kM i o)=dA o:=by
  unfold kM;split
  · rfl
  · unfold dA;simp
theorem PK{i:Int}{o:c6}(h:mG o):mG (kM i o):=by
  unfold kM;split
  · exact h
  · exact h
theorem NF(g:Int):mG (blank g):=by show(-9223372036854775808:Int)<=0;decide
theorem IE{l:List c6}(hw:wA l)(i:Int):eK dA (jl l i).1<=eK dA l/\wA (jl l i).1:=by
  unfold jl;split
  · refine⟨?_,fun o ho=>?_⟩
    · show eK dA ((l.set i.toNat (blank (nth l i).Rs)).map (kM i))<=_
      rw[Hr (Oz i)];exact w7
    · obtain⟨y,hy,rfl⟩:=List.mem_map.1 ho;exact PK (iR hw (NF _) y hy)
  · exact⟨Nat.le_refl _,hw⟩
theorem va{h:df}(hw:wA h.ag)(now:Int):eK dA (fy h now).1.ag<=eK dA h.ag/\wA (fy h now).1.ag/\(fy h now).1.gc.da.length<=h.gc.da.length+10 /\
    (decide ((fy h now).2>=0)=true->Ar h.ag/\0<=(fy h now).2/\(fy h now).2<=9):=by
  unfold fy;split
  · rename_i q;have ha:=kl q;have hl:=ha.len;split
    · rename_i hp
      have hp:h.gc.Rg=1:=by simpa using hp
      have hr:0<=h.gc.Rp/\h.gc.Rp<=9:=by
        rcases vR q with e|e
        · rw[hp]at e;cases e
        · exact e.2
      have hs:eK dA (fJ h now)<=eK dA h.ag/\wA (fJ h now):=by
        unfold fJ;split
        · exact IE hw _
        · exact⟨Nat.le_of_eq (oF hr.1 (by rw[hl];omega) rfl),iR hw (show mG (marked (nth h.ag h.gc.Rp) false) from hw (nth h.ag h.gc.Rp) (ha.at hr.1 hr.2).2)⟩
      have hsl:=y6 h now
      have h0:(0:Int)<((fJ h now).length:Int):=by rw[hsl,hl];decide
      refine⟨?_,?_,?_,fun hd=>⟨ha,?_⟩⟩
      · unfold iC pW;simp only;split
        · show eK dA ((fJ h now).set (0:Int).toNat _)<=_
          rw[oF (z:=marked (nth (fJ h now) 0) true) (Int.le_refl 0) h0 rfl];exact hs.1
        · exact hs.1
      · unfold iC pW;simp only;split
        · exact iR hs.2 (show mG (marked (nth (fJ h now) 0) true) from hs.2 (nth (fJ h now) 0) (gJ (Int.le_refl 0) h0))
        · exact hs.2
      · unfold iC;simp only;split
        · simp
        · exact Nat.le_add_right _ _
      · unfold iC at hd⊢;simp only at hd⊢;split
        · exact hr
        · rename_i hn;rw[if_neg hn]at hd;simp at hd
    · refine⟨?_,?_,?_,fun hd=>by simp at hd⟩
      all_goals
        unfold mz
        simp only
        split
        · first|exact Nat.le_refl _|exact hw|exact Nat.le_add_right _ _
        · rename_i hg
          split
          · first|exact Nat.le_refl _|exact hw|(unfold gv;simp;omega)
          · obtain⟨l0,l9⟩:=kB q hg
            obtain⟨e1,e2⟩:=jH ha (dw h)
            obtain⟨a1,a2,a3⟩:=xY (l:=h.ag) (now:=now) (eY h.ag (dw h)) (df.mk (h.ag.set (dw h).toNat (marked (nth h.ag (dw h)) true)) (eT.mk h.gc.Rg h.gc.Rp h.gc.Rh (gv h))) e1 (by simp[hl]) (iR hw (show mG (marked (nth h.ag (dw h)) true) from hw (nth h.ag (dw h)) (ha.at l0 l9).2))
            first
              | exact Nat.le_of_eq (a1.trans (oF l0 (by rw[hl];omega) rfl))
              | exact a2
              | (refine Nat.le_trans a3 ?_
                 unfold gv
                 simp
                 omega)
  · exact⟨Nat.le_refl _,hw,Nat.le_add_right _ _,fun hd=>by simp at hd⟩
structure wa where
  n:Int
  Re:List dk
  heap:df
def lG(now:Int)(c:wa):wa :=
  if decide ((fy c.heap now).2>=0)then⟨i64.wrap (c.n+1),(jJ c.Re (nth c.heap.ag (fy c.heap now).2).Rt ⟨(nth c.heap.ag (fy c.heap now).2).cd,0,0⟩).1,(fy c.heap now).1⟩
  else⟨c.n,c.Re,(fy c.heap now).1⟩
def vA(now:Int):Nat->wa->wa
  | 0,c=>c
  | k+1,c=>vA now k (lG now c)
def gH(p:bh)(now steps:Int):bh×Int :=
  if dI p&&dy steps 0 100 then
    (bh.mk p.Rd p.own (vA now steps.toNat ⟨0,p.Re,p.heap⟩).Re (vA now steps.toNat ⟨0,p.Re,p.heap⟩).heap p.dc p.Ro p.Rn p.db p.dx p.Rk,(vA now steps.toNat ⟨0,p.Re,p.heap⟩).n)
  else(p,0)
def ct(k:Nat)(c:wa):Int×Int×List dk×List c6×Int×Int×Int×List Int:=(c.n,(k:Int),c.Re,c.heap.ag,c.heap.gc.Rg,c.heap.gc.Rp,c.heap.gc.Rh,c.heap.gc.da)
structure D7 (S T G:Nat) (k:Nat) (c:wa):Prop where
  sz:eK dA c.heap.ag<=S
  tl:c.Re.length=T
  gl:c.heap.gc.da.length<=G+10*k
  w:wA c.heap.ag
theorem A4{S T G k:Nat}{c:wa}(h:D7 S T G k c)(now:Int):D7 S T G (k+1) (lG now c):=by
  obtain⟨s1,s2,s3,_⟩:=va h.w now;have a1:=h.sz;have a2:=h.tl;have a3:=h.gl;unfold lG;split
  · exact⟨by simp only;omega,by simp only;rw[v8,a2],by simp only;omega,s2⟩
  · exact⟨by simp only;omega,a2,by simp only;omega,s2⟩
theorem HH{S T G:Nat}{now:Int}:∀(j k:Nat) (c:wa),D7 S T G k c->D7 S T G (k+j) (vA now j c)
  | 0,k,c,h=>h
  | j+1,k,c,h=>by
    have:=HH (now:=now) j (k+1) (lG now c) (A4 h now)
    rwa[show k+1+j=k+(j+1) by omega]at this
theorem GY{N:Nat}(hN:dh<=N){now steps:Int}(h0:0<=steps)(h1:steps<=100){S T G:Nat}{c:wa}(hc:D7 S T G 0 c)
    {body:Int×Int×List dk×List c6×Int×Int×Int×List Int->Option ((Int×Int×List dk×List c6×Int×Int×Int×List Int)⊕(Int×Int×List dk×List c6×Int×Int×Int×List Int))}
    (hs:∀(k:Nat) (c:wa),k<100->(k:Int)<steps->D7 S T G k c->body (ct k c)=some (.inl (ct (k+1) (lG now c)))) (he:∀c,body (ct steps.toNat c)=some (.inr (ct steps.toNat c))) :
    iter body N (ct 0 c)=some (ct steps.toNat (vA now steps.toNat c)):=by
  have e:∀(j i:Nat) (c:wa),foldI (fun _ c (_:Unit)=>lG now c) i c (List.replicate j ())=vA now j c:=by
    intro j
    induction j with
    | zero=>intro i c;rfl
    | succ j ih=>intro i c;rw[List.replicate_succ];unfold foldI vA;exact ih _ _
  rw[gy (List.replicate steps.toNat ()) ct (fun _ c _=>lG now c) (fun c=>ct steps.toNat c) (fun k c=>D7 S T G k c) ?_ ?_ (by have:16777216<=N:=hN;simp;omega) hc,e]
  · intro k c y hy hk hI
    have hk:k<steps.toNat:=by simpa using hk
    exact⟨hs k c (by omega) (by omega) hI,A4 hI now⟩
  · intro c _;rw[show(List.replicate steps.toNat ()).length=steps.toNat by simp];exact he c
theorem C4{N:Nat}(hN:dh<=N){p:bh}(hb:dG p<=3000000)(hw:wP p)(now steps:Int):m4 N p now steps=some (gH p now steps):=by
  have hB:(16777216:Nat)=dh:=rfl
  have hb':dG p<dh:=by omega
  have hz:eK dA p.heap.ag<=3000000/\p.heap.gc.da.length<=3000000/\p.Re.length<=3000000:=by unfold dG mw vP at hb;omega
  unfold m4 gH;simp only[oH hN hb',sA hN hb',ko,Ry,gW];cases dI p
  · rfl
  cases hst:dy steps 0 100
  · rfl
  have hr:=dM.1 hst;simp only[RB,Bool.or_self,Rz,Bool.and_self,if_true]
  rw[show((0:Int),(0:Int),p.Re,p.heap.ag,p.heap.gc.Rg,p.heap.gc.Rp,p.heap.gc.Rh,p.heap.gc.da)=ct 0 ⟨0,p.Re,p.heap⟩ from rfl,
    GY hN (now:=now) hr.1 hr.2 (S:=3000000) (T:=p.Re.length) (G:=3000000) (c:=⟨0,p.Re,p.heap⟩) ⟨hz.1,rfl,by simp only;omega,hw⟩]
  · rfl
  · intro k c hk hks hI;have g1:eK dA c.heap.ag<dh:=Nat.lt_of_le_of_lt hI.sz (by decide)
    have g2:c.heap.gc.da.length+20<dh:=by have:=hI.gl;omega
    have g3:c.Re.length<dh:=by rw[hI.tl];omega
    have hd:decide ((k:Int)<steps)=true:=by simpa using hks
    obtain⟨_,_,_,s4⟩:=va hI.w now
    show(bif decide ((k:Int)<steps)then _ else _)=_
    rw[hd];simp only[ct,RA,Dw,Mn hN g1 g2,Ry,eD (show k<dh by omega)];unfold lG;cases hv:decide ((fy c.heap now).2>=0)
    · rfl
    · obtain⟨har,v0,v9⟩:=s4 hv;simp only[RA,(har.at v0 v9).1,xJ,xH hN g3,Ry,if_true];rfl
  · intro c
    have hd:decide (((steps.toNat:Nat):Int)<steps)=false:=by simp;omega
    show(bif decide (((steps.toNat:Nat):Int)<steps)then _ else _)=_
    rw[hd];simp only[ct,Rz]
theorem CZ{N:Nat}(hN:dh<=N){p:bh}(hb:dG p<=3000000)(hw:wP p)(now steps:Int):nj N p now steps=some (gH p now steps):=by
  have hB:(16777216:Nat)=dh:=rfl
  have hb':dG p<dh:=by omega
  have hz:eK dA p.heap.ag<=3000000/\p.heap.gc.da.length<=3000000/\p.Re.length<=3000000:=by unfold dG mw vP at hb;omega
  unfold nj gH;simp only[qG hN hb',ss hN hb' hw,jV,Ry,gW];cases dI p
  · rfl
  cases hst:dy steps 0 100
  · rfl
  have hr:=dM.1 hst;simp only[RB,Bool.or_self,Rz,Bool.and_self,if_true]
  rw[show((0:Int),(0:Int),p.Re,p.heap.ag,p.heap.gc.Rg,p.heap.gc.Rp,p.heap.gc.Rh,p.heap.gc.da)=ct 0 ⟨0,p.Re,p.heap⟩ from rfl,
    GY hN (now:=now) hr.1 hr.2 (S:=3000000) (T:=p.Re.length) (G:=3000000) (c:=⟨0,p.Re,p.heap⟩) ⟨hz.1,rfl,by simp only;omega,hw⟩]
  · rfl
  · intro k c hk hks hI;have g1:eK dA c.heap.ag<dh:=Nat.lt_of_le_of_lt hI.sz (by decide)
    have g2:c.heap.gc.da.length+20<dh:=by have:=hI.gl;omega
    have g3:c.Re.length<dh:=by rw[hI.tl];omega
    have hd:decide ((k:Int)<steps)=true:=by simpa using hks
    obtain⟨_,_,_,s4⟩:=va hI.w now
    show(bif decide ((k:Int)<steps)then _ else _)=_
    rw[hd];simp only[ct,RA,Dw,LO hN g1 hI.w g2,Ry,eD (show k<dh by omega)];unfold lG;cases hv:decide ((fy c.heap now).2>=0)
    · rfl
    · obtain⟨har,v0,v9⟩:=s4 hv;simp only[RA,(har.at v0 v9).1,xo hN g3,Ry,if_true]
  · intro c
    have hd:decide (((steps.toNat:Nat):Int)<steps)=false:=by simp;omega
    show(bif decide (((steps.toNat:Nat):Int)<steps)then _ else _)=_
    rw[hd];simp only[ct,Rz]
theorem Ji{p:bh}(hb:dG p<=3000000)(hw:wP p)(now steps:Int):dG (gH p now steps).1<=dG p+1000/\wP (gH p now steps).1:=by
  unfold gH;split
  · rename_i h;rw[RD,dM]at h;have hI:=HH (now:=now) steps.toNat 0 ⟨0,p.Re,p.heap⟩ (S:=eK dA p.heap.ag) (T:=p.Re.length) (G:=p.heap.gc.da.length) ⟨Nat.le_refl _,rfl,Nat.le_refl _,hw⟩;have a1:=hI.sz;have a2:=hI.tl;have a3:=hI.gl;refine⟨?_,hI.w⟩;unfold dG mw vP at hb⊢;simp only;omega
  · exact⟨Nat.le_add_right _ _,hw⟩
end Go.Kx
