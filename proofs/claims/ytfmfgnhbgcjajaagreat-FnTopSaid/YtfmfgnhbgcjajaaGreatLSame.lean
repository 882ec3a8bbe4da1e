import Derived.Test.YtfmfgnhbgcjajaaGreatLBoot
namespace Go.Kx
open Go
open Go.IntKind (i64)
set_option linter.unusedVariables false
set_option linter.unusedSimpArgs false
set_option maxRecDepth 10000
theorem zP{N:Nat}(hN:dh<=N){a b:List Int}(ha:a.length<dh):oM N a b=some (decide (a=b)):=Hm a b (· != ·) (by intro y z;by_cases h:y=z<;>simp[h]) ha hN
theorem FO{N:Nat}(hN:dh<=N){a b:List eS}(ha:a.length<dh):sq N a b=some (decide (a=b)):=Hm a b (fun y z=>!decide (y=z)) (fun _ _=>rfl) ha hN
theorem Bl{o:c6}(h:dA o<dh):o.dp.length<dh/\o.Ri.length<dh/\o.Rf.length<dh:=by unfold dA at h;omega
theorem Ks{N:Nat}(hN:dh<=N){a b:c6}(ha:dA a<dh):sh N a b=some (decide (a=b)):=by
  obtain⟨h1,h2,h3⟩:=Bl ha;unfold sh;simp only[zP hN h1,zP hN h2,FO hN h3,Ry,iK];congr 1;rw[Bool.eq_iff_iff];cases a;cases b;simp[c6.mk.injEq]
theorem gE{p:bh}(h:dG p<dh):p.Rd.Rb.length<dh/\p.own.length<dh/\p.Re.length<dh/\eK dA p.heap.ag<dh/\p.heap.gc.da.length<dh/\p.dc.length<dh:=by
  unfold dG mw vP jx at h;omega
theorem gg{α:Type}{l:List α}(h:l.length<dh):app ([]:List α) l=some l:=by
  unfold app;rw[if_pos (by simpa using h)];rfl
theorem rh{N:Nat}{l:List Int}(h:l.length<dh):j5 N l=some l:=by unfold j5;rw[gg h];rfl
theorem zG{N:Nat}{l:fD}(h:l.Rb.length<dh):mT N l=some l:=by unfold mT;rw[rh h];rfl
theorem mZ{N:Nat}{l:List dk}(h:l.length<dh):jy N l=some l:=by unfold jy;rw[gg h];rfl
theorem nD{N:Nat}{l:List dk}(h:l.length<dh):je N l=some l:=by unfold je;rw[gg h];rfl
theorem CC{N:Nat}{o:c6}(h:dA o<dh):pb N o=some o:=by
  obtain⟨h1,h2,h3⟩:=Bl h;unfold pb;simp only[rh h1,rh h2,gg h3,Ry]
theorem HG{N:Nat}{o:c6}(h:dA o<dh):sI N o=some o:=by
  obtain⟨h1,h2,h3⟩:=Bl h;unfold sI;simp only[gg h1,gg h2,gg h3,Ry]
theorem uj{N:Nat}(hN:dh<=N){l:List c6}(hb:eK dA l<dh):kI N l=some l:=by
  have hl:=gL hb;unfold kI;rw[m7 l (fun _ _=>true) (fun _ y=>y) hl hN,nV (fun _=>true)]
  · simp
  · intro k t y hy hk ht;simp only[ey hk,RA,dN,hy,Ry,CC (fH hb (List.mem_of_getElem? hy)),eD (Nat.lt_trans hk hl),hY ht (Nat.lt_of_le_of_lt hk hl)];rfl
  · intro t;simp only[er,Rz]
theorem Ai{N:Nat}(hN:dh<=N){l:List c6}(hb:eK dA l<dh):m3 N l=some l:=by
  have hl:=gL hb;unfold m3;rw[m7 l (fun _ _=>true) (fun _ y=>y) hl hN,nV (fun _=>true)]
  · simp
  · intro k t y hy hk ht;simp only[ey hk,RA,dN,hy,Ry,HG (fH hb (List.mem_of_getElem? hy)),eD (Nat.lt_trans hk hl),hY ht (Nat.lt_of_le_of_lt hk hl)];rfl
  · intro t;simp only[er,Rz]
theorem vg{N:Nat}(hN:dh<=N){h:df}(h1:eK dA h.ag<dh)(h2:h.gc.da.length<dh):lq N h=some h:=by
  unfold lq;simp only[uj hN h1,rh h2,Ry]
theorem wg{N:Nat}(hN:dh<=N){h:df}(h1:eK dA h.ag<dh)(h2:h.gc.da.length<dh):mh N h=some h:=by
  unfold mh;simp only[Ai hN h1,gg h2,Ry]
theorem oH{N:Nat}(hN:dh<=N){p:bh}(h:dG p<dh):ik N p=some p:=by
  obtain⟨h1,h2,h3,h4,h5,h6⟩:=gE h;unfold ik;simp only[zG h1,rh h2,mZ h3,vg hN h4 h5,gg h6,Ry]
theorem qG{N:Nat}(hN:dh<=N){p:bh}(h:dG p<dh):jT N p=some p:=by
  obtain⟨h1,h2,h3,h4,h5,h6⟩:=gE h;unfold jT;simp only[gg h1,gg h2,nD h3,wg hN h4 h5,gg h6,Ry]
theorem vO{α:Type}{l:List α}{k:Nat}(h:k<=l.length):sub l 0 (k:Int)=some (l.take k):=by
  unfold sub;rw[if_pos ⟨Int.le_refl _,by omega,by omega⟩];simp
theorem Cw{α:Type}(f:α->Nat):∀(l:List α) (k:Nat),mO f (l.take k)<=mO f l
  | [],k=>by simp
  | y::l,0=>Nat.zero_le _
  | y::l,k+1=>by
    have:=Cw f l k;simp only[List.take_succ_cons,mO];omega
theorem LY{α:Type}(f:α->Nat)(l:List α)(k:Nat):eK f (l.take k)<=eK f l:=by
  have:=Cw f l k;unfold eK;simp only[List.length_take];omega
theorem oy{α:Type}(p:Bool)(a b:α):(bif p then some a else some b)=some (bif p then a else b):=by cases p<;>rfl
theorem An{ρ τ β:Type}(c:Bool)(a:ρ)(r:τ)(f:ρ->Option β)(g:τ->Option β):Sum.elim f g (if c then .inl a else .inr r)=if c then f a else g r:=by cases c<;>rfl
theorem xO(N:Nat)(a:Int):nt N a=some (dy a 0 2):=by unfold nt;rw[ko];rfl
theorem sr(N:Nat)(a:Int):kC N a=some (dy a 0 9):=by unfold kC;rw[ko];rfl
theorem vD(N:Nat)(a:Int):jE N a=some (dy a 0 1000000):=by unfold jE;rw[ko];rfl
theorem oE(N:Nat)(a:Int):jt N a=some (dy a 0 29999):=by unfold jt;rw[ko];rfl
theorem qV(N:Nat)(a:Int):iS N a=some (dy a 0 29999):=by unfold iS;rw[jV];rfl
theorem qc(N:Nat)(a:Int):jG N a=some (dy a 0 9):=by unfold jG;rw[jV];rfl
def sX(m:eS):Bool:=!(bif(m.Rx != (-1))then(!dy m.Rx 0 29999 || !dy m.n 0 999)else !dy m.n 0 999)
def ji(o:c6):Bool:=o.dp.all (fun y=>dy y (-1) 9)&&(o.Ri.all (fun y=>dy y 0 999)&&(o.Rf.all sX&&(((o.dp.length:Int)==2)&&(((o.Ri.length:Int)==(bif o.so==2 then o.cd else 0))&&decide ((o.Rf.length:Int)<=(bif o.so==3 then 2 else 0))))))
theorem K1{N:Nat}(hN:dh<=N){o:c6}(ho:dA o<dh):sj N o=some (ji o):=by
  obtain⟨h1,h2,h3⟩:=Bl ho;unfold sj ji;rw[fG o.dp (fun _ y=>dy y (-1) 9) (.inl (o.dp.length:Int)) (.inr false) (Nat.lt_of_lt_of_le h1 hN),gF,Ry]
  · cases o.dp.all fun y=>dy y (-1) 9
    · rfl
    simp only[if_true,Sum.elim_inl,RC];rw[fG o.Ri (fun _ y=>dy y 0 999) (.inl (o.Ri.length:Int)) (.inr false) (Nat.lt_of_lt_of_le h2 hN),gF,Ry]
    · cases o.Ri.all fun y=>dy y 0 999
      · rfl
      simp only[if_true,Sum.elim_inl,RC];rw[fG o.Rf (fun _ y=>sX y) (.inl (o.Rf.length:Int)) (.inr false) (Nat.lt_of_lt_of_le h3 hN),gF,Ry]
      · cases o.Rf.all sX
        · rfl
        simp only[if_true,Sum.elim_inl,RC,oy,Ry];congr 1;cases((o.dp.length:Int)==2)<;>cases((o.Ri.length:Int)==(bif o.so==2 then o.cd else 0))<;>simp
      · intro k y hy hk;simp only[ey hk,RA,dN,hy,Ry,ko,oE,gW,oy,eD (Nat.lt_trans hk h3)];unfold sX;cases(y.Rx != (-1))<;>cases dy y.Rx 0 29999<;>cases dy y.n 0 999<;>rfl
      · simp only[er,Rz]
    · intro k y hy hk;simp only[ey hk,RA,dN,hy,Ry,ko,eD (Nat.lt_trans hk h2)];cases dy y 0 999<;>rfl
    · simp only[er,Rz]
  · intro k y hy hk;simp only[ey hk,RA,dN,hy,Ry,ko,eD (Nat.lt_trans hk h1)];cases dy y (-1) 9<;>rfl
  · simp only[er,Rz]
def blank(g:Int):c6:=c6.mk g 0 0 0 0 0 0 0 0 false [] [] []
def eG(o:c6):Bool:=dy o.Rs 0 999&&(dy o.so 0 4&&(bif o.so==0 then decide (o=blank o.Rs)else
  dy o.box (-1) 9&&(dy o.Rt 0 4&&(dy o.dX 0 1000000&&(dy o.cd 0 8&&(ji o&&(bif o.so != 4 then(o.Rm==0&&(o.ef==0&&o.ee==0))else
    (o.Rm==0 || dy (i64.wrap (o.Rm-1)) 0 29999)&&(dy o.ef (-1) 999&&dy o.ee 0 1000000))))))))
theorem HS{N:Nat}(hN:dh<=N){o:c6}(ho:dA o<dh):sM N o=some (eG o):=by
  unfold sM eG;simp only[ko,uz,vD,oE,K1 hN ho,Ks hN ho,Ry,gW,iK,oy];rw[show c6.mk o.Rs 0 0 0 0 0 0 0 0 false [] [] []=blank o.Rs from rfl];congr 1;simp only[Bool.cond_true_left,Bool.cond_false_left,Bool.cond_true_right,Bool.cond_false_right,Bool.not_or,Bool.not_not,Bool.and_assoc];cases o.Rm==0<;>rfl
def mG(o:c6):Prop:=-9223372036854775808<=o.Rm
theorem LH{n:Int}(h:-9223372036854775808<=n)(h0:n<0):dy (i64.wrap (n-1)) 0 29999=false:=by
  rcases Decidable.em (n=-9223372036854775808)with e|e
  · subst e;decide
  · rw[dF (by omega) (by omega)];simp[dy];omega
def AO(o:c6):Bool:=bif o.so != 4 then(o.Rm==0&&(o.ef==0&&o.ee==0))else
    (o.Rm==0 || dy (i64.wrap (o.Rm-1)) 0 29999)&&(dy o.ef (-1) 999&&dy o.ee 0 1000000)
theorem Pp{o : c6}(hw : mG o)(hr : dy o.ee 0 1000000=true): (bif o.so != 4 then bif o.Rm != 0 then true else bif o.ef != 0 then true else bif o.ee != 0 then true else bif o.so==4 then
      bif decide (o.Rm<0)then true else bif decide (o.Rm>0)then !dy (i64.wrap (o.Rm-1)) 0 29999 || !dy o.ef (-1) 999 else !dy o.ef (-1) 999 else false
    else bif o.so==4 then bif decide (o.Rm<0)then true else bif decide (o.Rm>0)then !dy (i64.wrap (o.Rm-1)) 0 29999 || !dy o.ef (-1) 999 else !dy o.ef (-1) 999 else false) = !AO o:=by
  unfold AO;simp only[bne, hr];cases o.so==4
  · simp only[Bool.not_false, RA, Rz];cases o.Rm==0<;>cases o.ef==0<;>cases o.ee==0<;>rfl
  · simp only[RB, RA, Rz]
    rcases Int.lt_trichotomy o.Rm 0 with h|h|h
    · have e1 : decide (o.Rm<0)=true:=by simpa using h
      have e2 : (o.Rm==0)=false:=by simp; omega
      rw[e1, e2, LH hw h]; rfl
    · simp only[h];cases dy o.ef (-1) 999<;>rfl
    · have e1 : decide (o.Rm<0)=false:=by simp; omega
      have e2 : (o.Rm==0)=false:=by simp; omega
      have e3 : decide (o.Rm>0)=true:=by simpa using h
      rw[e1, e2, e3];cases dy (i64.wrap (o.Rm-1)) 0 29999<;>cases dy o.ef (-1) 999<;>rfl
theorem Oa(o:c6):(bif(o.Ri.length:Int) != 0 then bif o.so != 2 then true else bif(o.Ri.length:Int) != o.cd then true else bif o.so==2 then(o.Ri.length:Int) != o.cd else false
    else bif o.so==2 then(o.Ri.length:Int) != o.cd else false)=!((o.Ri.length:Int)==(bif o.so==2 then o.cd else 0)):=by
  simp only[bne];cases o.so==2<;>cases h:((o.Ri.length:Int)==0)<;>cases h2:((o.Ri.length:Int)==o.cd)<;>simp[h,h2]
theorem Nd(o:c6):(bif decide ((o.Rf.length:Int)>2)then true else bif decide ((o.Rf.length:Int)>0)then o.so != 3 else false)=!decide ((o.Rf.length:Int)<=(bif o.so==3 then 2 else 0)):=by
  simp only[bne];cases o.so==3
  · simp only[Rz]
    rcases Nat.lt_trichotomy o.Rf.length 0 with h|h|h
    · omega
    · simp[h]
    · rw[decide_eq_true (show(o.Rf.length:Int)>0 by omega),decide_eq_false (show ¬ ((o.Rf.length:Int)<=0) by omega)];cases decide ((o.Rf.length:Int)>2)<;>rfl
  · simp only[RA]
    rcases Nat.lt_or_ge 2 o.Rf.length with h|h
    · rw[decide_eq_true (show(o.Rf.length:Int)>2 by omega),decide_eq_false (show ¬ ((o.Rf.length:Int)<=2) by omega)];rfl
    · rw[decide_eq_false (show ¬ ((o.Rf.length:Int)>2) by omega),decide_eq_true (show(o.Rf.length:Int)<=2 by omega)];cases decide ((o.Rf.length:Int)>0)<;>rfl
theorem HY{N:Nat}(hN:dh<=N){o:c6}(ho:dA o<dh)(hw:mG o):sR N o=some (eG o):=by
  obtain⟨h1,h2,h3⟩:=Bl ho;unfold sR eG;rw[jV,Ry];cases hg:dy o.Rs 0 999
  · rfl
  simp only[RB,Rz,RC];cases hk0:o.so==0
  · simp only[Rz,jV,vr,Ry,gW]
    have hk0':o.so ≠ 0:=by simpa using hk0
    cases hA:(!dy o.so 1 4 || (!dy o.box (-1) 9 || (!dy o.Rt 0 4 || (!dy o.dX 0 1000000 || (!dy o.cd 0 8 || ((o.dp.length:Int) != 2 || !dy o.ee 0 1000000))))))
    · simp only[Bool.or_eq_false_iff,Bool.not_eq_false',bne_eq_false_iff_eq]at hA;obtain⟨a1,a2,a3,a4,a5,a6,a7⟩:=hA
      have a1':dy o.so 0 4=true:=by rw[dM]at a1⊢;omega
      have hl2:o.dp.length=2:=by omega
      simp only[Rz,a1',a2,a3,a4,a5,RC];rw[fG o.dp (fun _ y=>dy y (-1) 9) (.inl (2:Int)) (.inr false) (Nat.lt_of_lt_of_le h1 hN),gF,Ry,An]
      · unfold ji;cases hL:o.dp.all fun y=>dy y (-1) 9
        · rfl
        have e6:((o.dp.length:Int)==2)=true:=by simp[a6]
        simp only[if_true,RC,e6];simp only[qV,Ry,oy];rw[Pp hw a7,Oa o];rw[show(bif o.so != 4 then(o.Rm==0&&(o.ef==0&&o.ee==0))else(o.Rm==0 || dy (i64.wrap (o.Rm-1)) 0 29999)&&(dy o.ef (-1) 999&&dy o.ee 0 1000000))=AO o from rfl];cases AO o
        · simp
        cases((o.Ri.length:Int)==(bif o.so==2 then o.cd else 0))
        · simp
        simp only[RB,Rz,Bool.and_true,RC];rw[fG o.Ri (fun _ y=>dy y 0 999) (.inl (o.Ri.length:Int)) (.inr false) (Nat.lt_of_lt_of_le h2 hN),gF,Ry,An,Nd o]
        · cases o.Ri.all fun y=>dy y 0 999
          · rfl
          simp only[if_true,RC];cases decide ((o.Rf.length:Int)<=(bif o.so==3 then 2 else 0))
          · simp
          simp only[RB,Rz,Bool.and_true];rw[fG o.Rf (fun _ y=>sX y) (.inl (o.Rf.length:Int)) (.inr false) (Nat.lt_of_lt_of_le h3 hN),gF,Ry,An]
          · cases o.Rf.all sX<;>rfl
          · intro k y hy hk;simp only[ey hk,RA,dN,hy,Ry,eD (Nat.lt_trans hk h3)];unfold sX;cases(y.Rx != (-1))<;>cases dy y.Rx 0 29999<;>cases dy y.n 0 999<;>rfl
          · simp only[er,Rz]
        · intro k y hy hk;simp only[ey hk,RA,dN,hy,Ry,eD (Nat.lt_trans hk h2)];cases dy y 0 999<;>rfl
        · simp only[er,Rz]
      · intro k y hy hk
        have hd:decide ((k:Int)<2)=true:=by simp;omega
        simp only[hd,RA,dN,hy,Ry,jV,eD (Nat.lt_trans hk h1)];cases dy y (-1) 9<;>rfl
      · simp[hl2]
    · simp only[RA];congr 1
      symm
      rw[Bool.eq_false_iff];intro h;simp only[ji,RD,dM,beq_iff_eq]at h;obtain⟨b0,b1,b2,b3,b4,⟨_,_,_,b5,_,_⟩,b6⟩:=h
      have q1:dy o.so 1 4=true:=by rw[dM];omega
      have q2:dy o.box (-1) 9=true:=by rw[dM];omega
      have q3:dy o.Rt 0 4=true:=by rw[dM];omega
      have q4:dy o.dX 0 1000000=true:=by rw[dM];omega
      have q5:dy o.cd 0 8=true:=by rw[dM];omega
      have q6:((o.dp.length:Int) != 2)=false:=by simp[b5]
      have q7:dy o.ee 0 1000000=true:=by
        cases h4:o.so != 4
        · rw[h4]at b6;simp only[Rz,RD]at b6;exact b6.2.2
        · rw[h4]at b6;simp only[RA,RD,beq_iff_eq]at b6;rw[b6.2.2];decide
      simp[q1,q2,q3,q4,q5,q6,q7]at hA
  · have hk:o.so=0:=by simpa using hk0
    simp only[RA,iK,Ry];congr 1;rw[Bool.eq_iff_iff];obtain⟨_,_,_,_,_,_,_,_,_,_,_,_,_⟩:=o;simp only at hk;subst hk;simp[blank,dy]
theorem pF{o:c6}(h:eG o=true):o.dp.length<=2/\∀y,y∈o.dp->-1<=y/\y<=9:=by
  unfold eG at h;cases hk:o.so==0
  · simp only[hk,Rz,RD]at h;obtain⟨_,_,_,_,_,_,hl,_⟩:=h;unfold ji at hl;simp only[RD,List.all_eq_true,dM,beq_iff_eq]at hl;exact⟨by omega,hl.1⟩
  · simp only[hk,RA,RD,decide_eq_true_eq]at h;rw[h.2.2];simp[blank]
theorem kh{o:c6}(h:eG o=true)(hk:(o.so != 0)=true):dy o.box (-1) 9=true/\dy o.Rt 0 4=true/\dy o.dX 0 1000000=true/\dy o.cd 0 8=true:=by
  unfold eG at h
  have hk:(o.so==0)=false:=by simpa[bne]using hk
  simp only[hk,Rz,RD]at h;exact⟨h.2.2.1,h.2.2.2.1,h.2.2.2.2.1,h.2.2.2.2.2.1⟩
def uy(l:List c6)(i:Int):Bool:=(nth l i).so==0
def vV(l:List c6)(o:c6):Bool:=o.dp.all fun y=>!(decide (y>=0)&&uy l y)
def tP(l:List c6)(k:Nat)(o:c6):Bool:=(eG o&&!(decide ((k:Int)>0)&&(o.so != 0&&(decide (o.box>=0)&&uy l o.box))))&&vV l o
def vn(l:List c6):Bool:=((nth l 0).so != 1) || (((nth l 0).box != (-1)) || ((nth l 0).dX != 1000000))
def gC(l:List c6):Bool:=!((l.length:Int) != 10)&&(!vn l&&allI (tP l) 0 l)
theorem Cq{N:Nat}(hN:dh<=N){l:List c6}(hl:l.length=10){o:c6}(ho:o.dp.length<=2)(hr:∀y,y∈o.dp->-1<=y/\y<=9):
    iter (fun(s75:Int)=>(bif(decide (s75<(o.dp.length:Int)))then((idx o.dp s75).bind fun y96=>(bif(decide (y96>=0))then((idx l y96).bind fun y108=>some (y108.so==0))else(some false):Option Bool).bind fun j105=>bif j105 then(some (.inr (.inr false)))else(some (.inl (i64.wrap (s75+1)))))else(some (.inr (.inl s75))):Option (Int⊕(Int⊕Bool)))) N 0=some (if vV l o then .inl (o.dp.length:Int)else .inr false):=by
  have hB:o.dp.length<dh:=Nat.lt_of_le_of_lt ho (by decide);rw[fG o.dp (fun _ y=>!(decide (y>=0)&&uy l y)) (.inl (o.dp.length:Int)) (.inr false) (Nat.lt_of_lt_of_le hB hN),gF]
  · rfl
  · intro k y hy hk;have hm:=hr y (List.mem_of_getElem? hy);simp only[ey hk,RA,dN,hy,Ry,eD (Nat.lt_trans hk hB)];cases h0:decide (y>=0)
    · rfl
    · have h0:y>=0:=by simpa using h0
      simp only[RA,eP (l:=l) (i:=y) h0 (by omega),Ry,RC];unfold uy;cases(nth l y).so==0<;>rfl
  · simp only[er,Rz]
theorem HB{l:List c6}(hl:l.length=10){o:c6}(ho:eG o=true):(bif(decide (o.box>=0))then((idx l o.box).bind fun y58=>some (y58.so==0))else(some false):Option Bool)=some (decide (o.box>=0)&&uy l o.box)\/(o.so != 0)=false:=by
  cases hk:o.so != 0
  · exact .inr rfl
  · left;obtain⟨hb,_⟩:=kh ho hk;rw[dM]at hb;cases h0:decide (o.box>=0)
    · rfl
    · have h0:o.box>=0:=by simpa using h0
      simp only[RA,eP (l:=l) (i:=o.box) h0 (by omega),Ry,RC];rfl
theorem uM{N:Nat}(hN:dh<=N){l:List c6}(hb:eK dA l<dh):lp N l=some (gC l):=by
  have hlB:=gL hb;unfold lp gC;cases h10:((l.length:Int) != 10)
  · have hl:l.length=10:=uX (n:=10) h10;rw[eP (l:=l) (i:=0) (by omega) (by omega)];simp only[Rz,Ry,gW,Bool.not_false,RC];rw[show((nth l 0).so != 1 || ((nth l 0).box != (-1) || (nth l 0).dX != 1000000))=vn l from rfl];cases vn l
    · simp only[Rz,Bool.not_false,RC];rw[fG l (tP l) (.inl (l.length:Int)) (.inr false) (Nat.lt_of_lt_of_le hlB hN)]
      · simp only[Ry];cases allI (tP l) 0 l<;>rfl
      · intro k y hy hk;have hm:=List.mem_of_getElem? hy;simp only[ey hk,RA,dN,hy,Ry,HS hN (fH hb hm),eD (Nat.lt_trans hk hlB)];unfold tP;cases ho:eG y
        · rfl
        · obtain⟨q1,q2⟩:=pF ho;rw[Cq hN hl q1 q2]
          rcases HB hl ho with q|q
          · rw[q];simp only[RB,Rz,RC,iK,Ry];cases(decide ((k:Int)>0)&&(y.so != 0&&(decide (y.box>=0)&&uy l y.box)))<;>cases vV l y<;>rfl
          · simp only[q,RB,Rz,RC,Bool.false_and,Bool.and_false,iK,Ry];cases vV l y<;>rfl
      · simp only[er,Rz]
    · rfl
  · rfl
def wA(l:List c6):Prop:=∀o,o∈l->mG o
theorem qF{N:Nat}(hN:dh<=N){l:List c6}(hb:eK dA l<dh)(hw:wA l):jX N l=some (gC l):=by
  have hlB:=gL hb;unfold jX gC;cases h10:((l.length:Int) != 10)
  · have hl:l.length=10:=uX (n:=10) h10;rw[eP (l:=l) (i:=0) (by omega) (by omega)];simp only[Rz,Ry,gW,Bool.not_false,RC];rw[show((nth l 0).so != 1 || ((nth l 0).box != (-1) || (nth l 0).dX != 1000000))=vn l from rfl];cases vn l
    · simp only[Rz,Bool.not_false,RC];rw[fG l (tP l) (.inl (l.length:Int)) (.inr false) (Nat.lt_of_lt_of_le hlB hN)]
      · simp only[Ry];cases allI (tP l) 0 l<;>rfl
      · intro k y hy hk;have hm:=List.mem_of_getElem? hy;simp only[ey hk,RA,dN,hy,Ry,HY hN (fH hb hm) (hw y hm),eD (Nat.lt_trans hk hlB)];unfold tP;cases ho:eG y
        · rfl
        · obtain⟨q1,q2⟩:=pF ho;rw[Cq hN hl q1 q2]
          rcases HB hl ho with q|q
          · rw[q];simp only[RB,Rz,RC,iK,Ry];cases y.so != 0<;>cases decide ((k:Int)>0)<;>cases(decide (y.box>=0)&&uy l y.box)<;>cases vV l y<;>rfl
          · simp only[q,RB,Rz,RC,Bool.false_and,Bool.and_false,iK,Ry];cases vV l y<;>rfl
      · simp only[er,Rz]
    · rfl
  · rfl
theorem vt{N:Nat}(hN:dh<=N){l:List Int}{x:Int}(hb:l.length<dh):kj N l x=some (l.contains x):=by
  unfold kj;rw[fG l (fun _ y=>!(y==x)) (.inl (l.length:Int)) (.inr true) (Nat.lt_of_lt_of_le hb hN),gF]
  · have:(l.all fun y=>!(y==x))=!l.contains x:=by
      induction l with
      | nil=>rfl
      | cons y l ih =>
        have ih:=ih (Nat.lt_trans (Nat.lt_succ_self _) hb);rw[List.all_cons,ih,List.contains_cons,Bool.beq_comm (a:=x)];cases(y==x)<;>rfl
    rw[this,Ry];cases l.contains x<;>rfl
  · intro k y hy hk;simp only[ey hk,RA,dN,hy,Ry,eD (Nat.lt_trans hk hb)];cases(y==x)<;>rfl
  · simp only[er,Rz]
def qU(g:List Int)(k:Nat)(y:Int):Bool:=dy y 0 9&&!(g.take k).contains y
def kU(g:eT):Bool:=((g.Rg==0)&&(g.Rp==0)) || ((g.Rg==1)&&(dy g.Rp 0 9&&((g.da.length:Int)==0)))
def fR(h:df):Bool:=gC h.ag&&(kU h.gc&&(dy h.gc.Rh 0 1000000&&allI (qU h.gc.da) 0 h.gc.da))
theorem Hi{α:Type}{l:List α}{k:Nat}(h:l.length<dh):(l.take k).length<dh:=Nat.lt_of_le_of_lt (by simp;omega) h
theorem vU{N:Nat}(hN:dh<=N){h:df}(h1:eK dA h.ag<dh)(h2:h.gc.da.length<dh):lY N h=some (fR h):=by
  unfold lY fR;rw[fG h.gc.da (qU h.gc.da) (.inl (h.gc.da.length:Int)) (.inr false) (Nat.lt_of_lt_of_le h2 hN)]
  · simp only[Ry,sr,vD,uM hN h1,iK];cases allI (qU h.gc.da) 0 h.gc.da
    · simp
    · simp only[if_true,Sum.elim_inl,Bool.and_true];unfold kU;cases gC h.ag
      · rfl
      cases((h.gc.Rg==0)&&(h.gc.Rp==0))
      · cases((h.gc.Rg==1)&&(dy h.gc.Rp 0 9&&((h.gc.da.length:Int)==0)))<;>rfl
      · rfl
  · intro k y hy hk;simp only[ey hk,RA,dN,hy,Ry,sr,vO (Nat.le_of_lt hk),re hN (Hi h2),eD (Nat.lt_trans hk h2)];unfold qU;cases dy y 0 9<;>cases(h.gc.da.take k).contains y<;>rfl
  · simp only[er,Rz]
theorem NO(n:Nat):decide ((n:Int)>0)=!((n:Int)==0):=by
  cases n with
  | zero=>rfl
  | succ n=>rw[decide_eq_true (by omega)];simp;omega
theorem vZ{N:Nat}(hN:dh<=N){h:df}(h1:eK dA h.ag<dh)(h2:h.gc.da.length<dh)(hw:wA h.ag):mb N h=some (fR h):=by
  unfold mb fR;rw[fG h.gc.da (qU h.gc.da) (.inl (h.gc.da.length:Int)) (.inr false) (Nat.lt_of_lt_of_le h2 hN)]
  · simp only[Ry,qc,jV,qF hN h1 hw,gW,NO];cases gC h.ag
    · rfl
    cases dy h.gc.Rh 0 1000000
    · simp
    unfold kU
    by_cases q0:h.gc.Rg=0
    · have e0:(h.gc.Rg==0)=true:=by simp[q0]
      have e1:(h.gc.Rg==1)=false:=by simp[q0]
      have e2:dy h.gc.Rg 0 1=true:=by rw[q0];decide
      rw[e0,e1,e2];simp only[bne];cases h.gc.Rp==0
      · rfl
      · cases allI (qU h.gc.da) 0 h.gc.da<;>rfl
    by_cases q1:h.gc.Rg=1
    · have e0:(h.gc.Rg==0)=false:=by simp[q1]
      have e1:(h.gc.Rg==1)=true:=by simp[q1]
      have e2:dy h.gc.Rg 0 1=true:=by rw[q1];decide
      rw[e0,e1,e2];cases dy h.gc.Rp 0 9
      · rfl
      cases((h.gc.da.length:Int)==0)
      · rfl
      · cases allI (qU h.gc.da) 0 h.gc.da<;>rfl
    · have e0:(h.gc.Rg==0)=false:=by simp[q0]
      have e1:(h.gc.Rg==1)=false:=by simp[q1]
      have e2:dy h.gc.Rg 0 1=false:=by
        rw[Bool.eq_false_iff,Ne,dM];omega
      rw[e0,e1,e2];rfl
  · intro k y hy hk;simp only[ey hk,RA,dN,hy,Ry,qc,vO (Nat.le_of_lt hk),vt hN (Hi h2),eD (Nat.lt_trans hk h2)];unfold qU;cases dy y 0 9<;>cases(h.gc.da.take k).contains y<;>rfl
  · simp only[er,Rz]
def il(t:eA):Bool:=(dy t.Rt 0 4&&(dy t.fW 0 2&&(dy t.nG 0 4&&dy t.iH 0 2)))&&(((t.so==1)&&dy t.kp 0 1000) || ((t.so==2)&&dy t.kp 0 100))
theorem zi(N:Nat)(t:eA):oo N t=some (il t):=by
  unfold oo il;simp only[uz,xO,ko,Ry,gW,iK]
  by_cases q:t.so=1
  · have e1:(t.so==1)=true:=by simp[q]
    have e2:(t.so==2)=false:=by simp[q]
    rw[e1,e2];cases dy t.Rt 0 4<;>cases dy t.nG 0 4<;>cases dy t.fW 0 2<;>cases dy t.iH 0 2<;>cases dy t.kp 0 1000<;>rfl
  · have e1:(t.so==1)=false:=by simp[q]
    rw[e1];cases dy t.Rt 0 4<;>cases dy t.nG 0 4<;>cases dy t.fW 0 2<;>cases dy t.iH 0 2<;>cases(t.so==2)<;>cases dy t.kp 0 100<;>rfl
theorem zp(N:Nat)(t:eA):oB N t=some (il t):=by
  unfold oB il;simp only[vr,jV,Ry,gW,iK]
  by_cases q:t.so=1
  · have e1:(t.so==1)=true:=by simp[q]
    have e2:(t.so==2)=false:=by simp[q]
    rw[e1,e2];cases dy t.Rt 0 4<;>cases dy t.fW 0 2<;>cases dy t.nG 0 4<;>cases dy t.iH 0 2<;>cases dy t.kp 0 1000<;>rfl
  · have e1:(t.so==1)=false:=by simp[q]
    rw[e1];cases dy t.Rt 0 4<;>cases dy t.fW 0 2<;>cases dy t.nG 0 4<;>cases dy t.iH 0 2<;>cases(t.so==2)<;>cases dy t.kp 0 100<;>rfl
def og(p:bh):Bool:=dy p.Ro 0 9&&(dy p.Rn 0 10&&(dT p.db&&(dy p.dx 0 1000000&&dy p.Rk 0 1000000)))
def dI(p:bh):Bool:=fw p.Rd&&(jb p.own&&(fF p.Re&&(fR p.heap&&(!decide ((p.dc.length:Int)>3)&&(p.dc.all il&&og p)))))
theorem sA{N:Nat}(hN:dh<=N){p:bh}(h:dG p<dh):kv N p=some (dI p):=by
  obtain⟨h1,h2,h3,h4,h5,h6⟩:=gE h;unfold kv dI;rw[fG p.dc (fun _ t=>il t) (.inl (p.dc.length:Int)) (.inr false) (Nat.lt_of_lt_of_le h6 hN),gF]
  · simp only[Ry,uU hN h1,zo hN h2,qA hN,vU hN h4 h5,sr,ko,pE,vD,gW,iK];rw[show(dy p.Ro 0 9&&(dy p.Rn 0 10&&(dT p.db&&(dy p.dx 0 1000000&&dy p.Rk 0 1000000))))=og p from rfl];cases p.dc.all il
    · simp
    · simp only[if_true,Sum.elim_inl,RC];cases fw p.Rd<;>cases jb p.own<;>cases fF p.Re<;>cases fR p.heap<;>cases decide ((p.dc.length:Int)>3)<;>rfl
  · intro k y hy hk;simp only[ey hk,RA,dN,hy,Ry,zi,eD (Nat.lt_trans hk h6)];cases il y<;>rfl
  · simp only[er,Rz]
def wP(p:bh):Prop:=wA p.heap.ag
theorem ss{N:Nat}(hN:dh<=N){p:bh}(h:dG p<dh)(hw:wP p):kz N p=some (dI p):=by
  obtain⟨h1,h2,h3,h4,h5,h6⟩:=gE h;unfold kz dI;rw[fG p.dc (fun _ t=>il t) (.inl (p.dc.length:Int)) (.inr false) (Nat.lt_of_lt_of_le h6 hN),gF]
  · simp only[Ry,uw hN h1,zq hN h2,vX hN,vZ hN h4 h5 hw,qc,jV,o7,gW,iK];unfold og;cases fw p.Rd
    · rfl
    cases jb p.own
    · rfl
    cases fF p.Re
    · rfl
    cases fR p.heap
    · rfl
    cases decide ((p.dc.length:Int)>3)
    · simp only[RB,Bool.not_false,Bool.false_or,RC];cases dy p.Ro 0 9<;>cases dy p.Rn 0 10<;>cases dT p.db<;>cases dy p.dx 0 1000000<;>cases dy p.Rk 0 1000000<;>cases p.dc.all il<;>rfl
    · rfl
  · intro k y hy hk;simp only[ey hk,RA,dN,hy,Ry,zp,eD (Nat.lt_trans hk h6)];cases il y<;>rfl
  · simp only[er,Rz]
end Go.Kx
