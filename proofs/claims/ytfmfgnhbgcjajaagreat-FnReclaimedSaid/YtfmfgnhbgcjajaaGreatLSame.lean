import Derived.Test.YtfmfgnhbgcjajaaGreatLBoot
namespace Go.Kx
open Go
open Go.IntKind (i64)
set_option linter.unusedVariables false
set_option linter.unusedSimpArgs false
set_option maxRecDepth 10000
theorem Ah{N:Nat}(hN:dg<=N){a b:List Int}(ha:a.length<dg):oY N a b=some (decide (a=b)):=HU a b (· != ·) (by intro y z;by_cases h:y=z<;>simp[h]) ha hN
theorem GX{N:Nat}(hN:dg<=N){a b:List eR}(ha:a.length<dg):sh N a b=some (decide (a=b)):=HU a b (fun y z=>!decide (y=z)) (fun _ _=>rfl) ha hN
theorem AX{o:cd}(h:dA o<dg):o.dk.length<dg/\o.Rm.length<dg/\o.Ri.length<dg:=by unfold dA at h;omega
theorem KR{N:Nat}(hN:dg<=N){a b:cd}(ha:dA a<dg):rl N a b=some (decide (a=b)):=by
  obtain⟨h1,h2,h3⟩:=AX ha;unfold rl;simp only[Ah hN h1,Ah hN h2,GX hN h3,RB,iI];congr 1;rw[Bool.eq_iff_iff];cases a;cases b;simp[cd.mk.injEq]
theorem gO{p:bh}(h:dH p<dg):p.Rg.Rf.length<dg/\p.own.length<dg/\p.Rh.length<dg/\eQ dA p.heap.ag<dg/\p.heap.gc.da.length<dg/\p.dc.length<dg:=by
  unfold dH mH vQ jz at h;omega
theorem fX{α:Type}{l:List α}(h:l.length<dg):app ([]:List α) l=some l:=by
  unfold app;rw[if_pos (by simpa using h)];rfl
theorem qF{N:Nat}{l:List Int}(h:l.length<dg):jY N l=some l:=by unfold jY;rw[fX h];rfl
theorem zX{N:Nat}{l:fF}(h:l.Rf.length<dg):mW N l=some l:=by unfold mW;rw[qF h];rfl
theorem nn{N:Nat}{l:List dp}(h:l.length<dg):jq N l=some l:=by unfold jq;rw[fX h];rfl
theorem nG{N:Nat}{l:List dp}(h:l.length<dg):jc N l=some l:=by unfold jc;rw[fX h];rfl
theorem C1{N:Nat}{o:cd}(h:dA o<dg):pe N o=some o:=by
  obtain⟨h1,h2,h3⟩:=AX h;unfold pe;simp only[qF h1,qF h2,fX h3,RB]
theorem HC{N:Nat}{o:cd}(h:dA o<dg):sI N o=some o:=by
  obtain⟨h1,h2,h3⟩:=AX h;unfold sI;simp only[fX h1,fX h2,fX h3,RB]
theorem uy{N:Nat}(hN:dg<=N){l:List cd}(hb:eQ dA l<dg):kN N l=some l:=by
  have hl:=gW hb;unfold kN;rw[kQ l (fun _ _=>true) (fun _ y=>y) hl hN,lI (fun _=>true)]
  · simp
  · intro k t y hy hk ht;simp only[eD hk,RD,dQ,hy,RB,C1 (fN hb (List.mem_of_getElem? hy)),eL (Nat.lt_trans hk hl),gE ht (Nat.lt_of_le_of_lt hk hl)];rfl
  · intro t;simp only[eE,RC]
theorem Aw{N:Nat}(hN:dg<=N){l:List cd}(hb:eQ dA l<dg):nf N l=some l:=by
  have hl:=gW hb;unfold nf;rw[kQ l (fun _ _=>true) (fun _ y=>y) hl hN,lI (fun _=>true)]
  · simp
  · intro k t y hy hk ht;simp only[eD hk,RD,dQ,hy,RB,HC (fN hb (List.mem_of_getElem? hy)),eL (Nat.lt_trans hk hl),gE ht (Nat.lt_of_le_of_lt hk hl)];rfl
  · intro t;simp only[eE,RC]
theorem vm{N:Nat}(hN:dg<=N){h:df}(h1:eQ dA h.ag<dg)(h2:h.gc.da.length<dg):lJ N h=some h:=by
  unfold lJ;simp only[uy hN h1,qF h2,RB]
theorem wF{N:Nat}(hN:dg<=N){h:df}(h1:eQ dA h.ag<dg)(h2:h.gc.da.length<dg):mn N h=some h:=by
  unfold mn;simp only[Aw hN h1,fX h2,RB]
theorem oH{N:Nat}(hN:dg<=N){p:bh}(h:dH p<dg):ij N p=some p:=by
  obtain⟨h1,h2,h3,h4,h5,h6⟩:=gO h;unfold ij;simp only[zX h1,qF h2,nn h3,vm hN h4 h5,fX h6,RB]
theorem pZ{N:Nat}(hN:dg<=N){p:bh}(h:dH p<dg):jV N p=some p:=by
  obtain⟨h1,h2,h3,h4,h5,h6⟩:=gO h;unfold jV;simp only[fX h1,fX h2,nG h3,wF hN h4 h5,fX h6,RB]
theorem vC{α:Type}{l:List α}{k:Nat}(h:k<=l.length):sub l 0 (k:Int)=some (l.take k):=by
  unfold sub;rw[if_pos ⟨Int.le_refl _,by omega,by omega⟩];simp
theorem CM{α:Type}(f:α->Nat):∀(l:List α) (k:Nat),mR f (l.take k)<=mR f l
  | [],k=>by simp
  | y::l,0=>Nat.zero_le _
  | y::l,k+1=>by
    have:=CM f l k;simp only[List.take_succ_cons,mR];omega
theorem Mg{α:Type}(f:α->Nat)(l:List α)(k:Nat):eQ f (l.take k)<=eQ f l:=by
  have:=CM f l k;unfold eQ;simp only[List.length_take];omega
theorem oq{α:Type}(p:Bool)(a b:α):(bif p then some a else some b)=some (bif p then a else b):=by cases p<;>rfl
theorem AH{ρ τ β:Type}(c:Bool)(a:ρ)(r:τ)(f:ρ->Option β)(g:τ->Option β):Sum.elim f g (if c then .inl a else .inr r)=if c then f a else g r:=by cases c<;>rfl
theorem x5(N:Nat)(a:Int):nt N a=some (dy a 0 2):=by unfold nt;rw[kq];rfl
theorem sn(N:Nat)(a:Int):kB N a=some (dy a 0 9):=by unfold kB;rw[kq];rfl
theorem vF(N:Nat)(a:Int):jG N a=some (dy a 0 1000000):=by unfold jG;rw[kq];rfl
theorem oE(N:Nat)(a:Int):jr N a=some (dy a 0 29999):=by unfold jr;rw[kq];rfl
theorem qz(N:Nat)(a:Int):iR N a=some (dy a 0 29999):=by unfold iR;rw[jK];rfl
theorem pM(N:Nat)(a:Int):jI N a=some (dy a 0 9):=by unfold jI;rw[jK];rfl
def tf(m:eR):Bool:=!(bif(m.RA != (-1))then(!dy m.RA 0 29999 || !dy m.n 0 999)else !dy m.n 0 999)
def jm(o:cd):Bool:=o.dk.all (fun y=>dy y (-1) 9)&&(o.Rm.all (fun y=>dy y 0 999)&&(o.Ri.all tf&&(((o.dk.length:Int)==2)&&(((o.Rm.length:Int)==(bif o.so==2 then o.c6 else 0))&&decide ((o.Ri.length:Int)<=(bif o.so==3 then 2 else 0))))))
theorem KE{N:Nat}(hN:dg<=N){o:cd}(ho:dA o<dg):rG N o=some (jm o):=by
  obtain⟨h1,h2,h3⟩:=AX ho;unfold rG jm;rw[gQ o.dk (fun _ y=>dy y (-1) 9) (.inl (o.dk.length:Int)) (.inr false) (Nat.lt_of_lt_of_le h1 hN),il,RB]
  · cases o.dk.all fun y=>dy y (-1) 9
    · rfl
    simp only[if_true,Sum.elim_inl,RF];rw[gQ o.Rm (fun _ y=>dy y 0 999) (.inl (o.Rm.length:Int)) (.inr false) (Nat.lt_of_lt_of_le h2 hN),il,RB]
    · cases o.Rm.all fun y=>dy y 0 999
      · rfl
      simp only[if_true,Sum.elim_inl,RF];rw[gQ o.Ri (fun _ y=>tf y) (.inl (o.Ri.length:Int)) (.inr false) (Nat.lt_of_lt_of_le h3 hN),il,RB]
      · cases o.Ri.all tf
        · rfl
        simp only[if_true,Sum.elim_inl,RF,oq,RB];congr 1;cases((o.dk.length:Int)==2)<;>cases((o.Rm.length:Int)==(bif o.so==2 then o.c6 else 0))<;>simp
      · intro k y hy hk;simp only[eD hk,RD,dQ,hy,RB,kq,oE,gX,oq,eL (Nat.lt_trans hk h3)];unfold tf;cases(y.RA != (-1))<;>cases dy y.RA 0 29999<;>cases dy y.n 0 999<;>rfl
      · simp only[eE,RC]
    · intro k y hy hk;simp only[eD hk,RD,dQ,hy,RB,kq,eL (Nat.lt_trans hk h2)];cases dy y 0 999<;>rfl
    · simp only[eE,RC]
  · intro k y hy hk;simp only[eD hk,RD,dQ,hy,RB,kq,eL (Nat.lt_trans hk h1)];cases dy y (-1) 9<;>rfl
  · simp only[eE,RC]
def blank(g:Int):cd:=cd.mk g 0 0 0 0 0 0 0 0 false [] [] []
def eG(o:cd):Bool:=dy o.Rt 0 999&&(dy o.so 0 4&&(bif o.so==0 then decide (o=blank o.Rt)else
  dy o.box (-1) 9&&(dy o.Rx 0 4&&(dy o.dV 0 1000000&&(dy o.c6 0 8&&(jm o&&(bif o.so != 4 then(o.Ro==0&&(o.eh==0&&o.ef==0))else
    (o.Ro==0 || dy (i64.wrap (o.Ro-1)) 0 29999)&&(dy o.eh (-1) 999&&dy o.ef 0 1000000))))))))
theorem HY{N:Nat}(hN:dg<=N){o:cd}(ho:dA o<dg):sY N o=some (eG o):=by
  unfold sY eG;simp only[kq,uY,vF,oE,KE hN ho,KR hN ho,RB,gX,iI,oq];rw[show cd.mk o.Rt 0 0 0 0 0 0 0 0 false [] [] []=blank o.Rt from rfl];congr 1;simp only[Bool.cond_true_left,Bool.cond_false_left,Bool.cond_true_right,Bool.cond_false_right,Bool.not_or,Bool.not_not,Bool.and_assoc];cases o.Ro==0<;>rfl
def mK(o:cd):Prop:=-9223372036854775808<=o.Ro
theorem LF{n:Int}(h:-9223372036854775808<=n)(h0:n<0):dy (i64.wrap (n-1)) 0 29999=false:=by
  rcases Decidable.em (n=-9223372036854775808)with e|e
  · subst e;decide
  · rw[dE (by omega) (by omega)];simp[dy];omega
def Bd(o:cd):Bool:=bif o.so != 4 then(o.Ro==0&&(o.eh==0&&o.ef==0))else
    (o.Ro==0 || dy (i64.wrap (o.Ro-1)) 0 29999)&&(dy o.eh (-1) 999&&dy o.ef 0 1000000)
theorem OO{o : cd}(hw : mK o)(hr : dy o.ef 0 1000000=true): (bif o.so != 4 then bif o.Ro != 0 then true else bif o.eh != 0 then true else bif o.ef != 0 then true else bif o.so==4 then
      bif decide (o.Ro<0)then true else bif decide (o.Ro>0)then !dy (i64.wrap (o.Ro-1)) 0 29999 || !dy o.eh (-1) 999 else !dy o.eh (-1) 999 else false
    else bif o.so==4 then bif decide (o.Ro<0)then true else bif decide (o.Ro>0)then !dy (i64.wrap (o.Ro-1)) 0 29999 || !dy o.eh (-1) 999 else !dy o.eh (-1) 999 else false) = !Bd o:=by
  unfold Bd;simp only[bne, hr];cases o.so==4
  · simp only[Bool.not_false, RD, RC];cases o.Ro==0<;>cases o.eh==0<;>cases o.ef==0<;>rfl
  · simp only[RE, RD, RC]
    rcases Int.lt_trichotomy o.Ro 0 with h|h|h
    · have e1 : decide (o.Ro<0)=true:=by simpa using h
      have e2 : (o.Ro==0)=false:=by simp; omega
      rw[e1, e2, LF hw h]; rfl
    · simp only[h];cases dy o.eh (-1) 999<;>rfl
    · have e1 : decide (o.Ro<0)=false:=by simp; omega
      have e2 : (o.Ro==0)=false:=by simp; omega
      have e3 : decide (o.Ro>0)=true:=by simpa using h
      rw[e1, e2, e3];cases dy (i64.wrap (o.Ro-1)) 0 29999<;>cases dy o.eh (-1) 999<;>rfl
theorem O3(o:cd):(bif(o.Rm.length:Int) != 0 then bif o.so != 2 then true else bif(o.Rm.length:Int) != o.c6 then true else bif o.so==2 then(o.Rm.length:Int) != o.c6 else false
    else bif o.so==2 then(o.Rm.length:Int) != o.c6 else false)=!((o.Rm.length:Int)==(bif o.so==2 then o.c6 else 0)):=by
  simp only[bne];cases o.so==2<;>cases h:((o.Rm.length:Int)==0)<;>cases h2:((o.Rm.length:Int)==o.c6)<;>simp[h,h2]
theorem N6(o:cd):(bif decide ((o.Ri.length:Int)>2)then true else bif decide ((o.Ri.length:Int)>0)then o.so != 3 else false)=!decide ((o.Ri.length:Int)<=(bif o.so==3 then 2 else 0)):=by
  simp only[bne];cases o.so==3
  · simp only[RC]
    rcases Nat.lt_trichotomy o.Ri.length 0 with h|h|h
    · omega
    · simp[h]
    · rw[decide_eq_true (show(o.Ri.length:Int)>0 by omega),decide_eq_false (show ¬ ((o.Ri.length:Int)<=0) by omega)];cases decide ((o.Ri.length:Int)>2)<;>rfl
  · simp only[RD]
    rcases Nat.lt_or_ge 2 o.Ri.length with h|h
    · rw[decide_eq_true (show(o.Ri.length:Int)>2 by omega),decide_eq_false (show ¬ ((o.Ri.length:Int)<=2) by omega)];rfl
    · rw[decide_eq_false (show ¬ ((o.Ri.length:Int)>2) by omega),decide_eq_true (show(o.Ri.length:Int)<=2 by omega)];cases decide ((o.Ri.length:Int)>0)<;>rfl
theorem H7{N:Nat}(hN:dg<=N){o:cd}(ho:dA o<dg)(hw:mK o):sS N o=some (eG o):=by
  obtain⟨h1,h2,h3⟩:=AX ho;unfold sS eG;rw[jK,RB];cases hg:dy o.Rt 0 999
  · rfl
  simp only[RE,RC,RF];cases hk0:o.so==0
  · simp only[RC,jK,vy,RB,gX]
    have hk0':o.so ≠ 0:=by simpa using hk0
    cases hA:(!dy o.so 1 4 || (!dy o.box (-1) 9 || (!dy o.Rx 0 4 || (!dy o.dV 0 1000000 || (!dy o.c6 0 8 || ((o.dk.length:Int) != 2 || !dy o.ef 0 1000000))))))
    · simp only[Bool.or_eq_false_iff,Bool.not_eq_false',bne_eq_false_iff_eq]at hA;obtain⟨a1,a2,a3,a4,a5,a6,a7⟩:=hA
      have a1':dy o.so 0 4=true:=by rw[dI]at a1⊢;omega
      have hl2:o.dk.length=2:=by omega
      simp only[RC,a1',a2,a3,a4,a5,RF];rw[gQ o.dk (fun _ y=>dy y (-1) 9) (.inl (2:Int)) (.inr false) (Nat.lt_of_lt_of_le h1 hN),il,RB,AH]
      · unfold jm;cases hL:o.dk.all fun y=>dy y (-1) 9
        · rfl
        have e6:((o.dk.length:Int)==2)=true:=by simp[a6]
        simp only[if_true,RF,e6];simp only[qz,RB,oq];rw[OO hw a7,O3 o];rw[show(bif o.so != 4 then(o.Ro==0&&(o.eh==0&&o.ef==0))else(o.Ro==0 || dy (i64.wrap (o.Ro-1)) 0 29999)&&(dy o.eh (-1) 999&&dy o.ef 0 1000000))=Bd o from rfl];cases Bd o
        · simp
        cases((o.Rm.length:Int)==(bif o.so==2 then o.c6 else 0))
        · simp
        simp only[RE,RC,Bool.and_true,RF];rw[gQ o.Rm (fun _ y=>dy y 0 999) (.inl (o.Rm.length:Int)) (.inr false) (Nat.lt_of_lt_of_le h2 hN),il,RB,AH,N6 o]
        · cases o.Rm.all fun y=>dy y 0 999
          · rfl
          simp only[if_true,RF];cases decide ((o.Ri.length:Int)<=(bif o.so==3 then 2 else 0))
          · simp
          simp only[RE,RC,Bool.and_true];rw[gQ o.Ri (fun _ y=>tf y) (.inl (o.Ri.length:Int)) (.inr false) (Nat.lt_of_lt_of_le h3 hN),il,RB,AH]
          · cases o.Ri.all tf<;>rfl
          · intro k y hy hk;simp only[eD hk,RD,dQ,hy,RB,eL (Nat.lt_trans hk h3)];unfold tf;cases(y.RA != (-1))<;>cases dy y.RA 0 29999<;>cases dy y.n 0 999<;>rfl
          · simp only[eE,RC]
        · intro k y hy hk;simp only[eD hk,RD,dQ,hy,RB,eL (Nat.lt_trans hk h2)];cases dy y 0 999<;>rfl
        · simp only[eE,RC]
      · intro k y hy hk
        have hd:decide ((k:Int)<2)=true:=by simp;omega
        simp only[hd,RD,dQ,hy,RB,jK,eL (Nat.lt_trans hk h1)];cases dy y (-1) 9<;>rfl
      · simp[hl2]
    · simp only[RD];congr 1
      symm
      rw[Bool.eq_false_iff];intro h;simp only[jm,RG,dI,beq_iff_eq]at h;obtain⟨b0,b1,b2,b3,b4,⟨_,_,_,b5,_,_⟩,b6⟩:=h
      have q1:dy o.so 1 4=true:=by rw[dI];omega
      have q2:dy o.box (-1) 9=true:=by rw[dI];omega
      have q3:dy o.Rx 0 4=true:=by rw[dI];omega
      have q4:dy o.dV 0 1000000=true:=by rw[dI];omega
      have q5:dy o.c6 0 8=true:=by rw[dI];omega
      have q6:((o.dk.length:Int) != 2)=false:=by simp[b5]
      have q7:dy o.ef 0 1000000=true:=by
        cases h4:o.so != 4
        · rw[h4]at b6;simp only[RC,RG]at b6;exact b6.2.2
        · rw[h4]at b6;simp only[RD,RG,beq_iff_eq]at b6;rw[b6.2.2];decide
      simp[q1,q2,q3,q4,q5,q6,q7]at hA
  · have hk:o.so=0:=by simpa using hk0
    simp only[RD,iI,RB];congr 1;rw[Bool.eq_iff_iff];obtain⟨_,_,_,_,_,_,_,_,_,_,_,_,_⟩:=o;simp only at hk;subst hk;simp[blank,dy]
theorem pB{o:cd}(h:eG o=true):o.dk.length<=2/\∀y,y∈o.dk->-1<=y/\y<=9:=by
  unfold eG at h;cases hk:o.so==0
  · simp only[hk,RC,RG]at h;obtain⟨_,_,_,_,_,_,hl,_⟩:=h;unfold jm at hl;simp only[RG,List.all_eq_true,dI,beq_iff_eq]at hl;exact⟨by omega,hl.1⟩
  · simp only[hk,RD,RG,decide_eq_true_eq]at h;rw[h.2.2];simp[blank]
theorem km{o:cd}(h:eG o=true)(hk:(o.so != 0)=true):dy o.box (-1) 9=true/\dy o.Rx 0 4=true/\dy o.dV 0 1000000=true/\dy o.c6 0 8=true:=by
  unfold eG at h
  have hk:(o.so==0)=false:=by simpa[bne]using hk
  simp only[hk,RC,RG]at h;exact⟨h.2.2.1,h.2.2.2.1,h.2.2.2.2.1,h.2.2.2.2.2.1⟩
def uC(l:List cd)(i:Int):Bool:=(nth l i).so==0
def vH(l:List cd)(o:cd):Bool:=o.dk.all fun y=>!(decide (y>=0)&&uC l y)
def tN(l:List cd)(k:Nat)(o:cd):Bool:=(eG o&&!(decide ((k:Int)>0)&&(o.so != 0&&(decide (o.box>=0)&&uC l o.box))))&&vH l o
def vv(l:List cd):Bool:=((nth l 0).so != 1) || (((nth l 0).box != (-1)) || ((nth l 0).dV != 1000000))
def fT(l:List cd):Bool:=!((l.length:Int) != 10)&&(!vv l&&allI (tN l) 0 l)
theorem CD{N:Nat}(hN:dg<=N){l:List cd}(hl:l.length=10){o:cd}(ho:o.dk.length<=2)(hr:∀y,y∈o.dk->-1<=y/\y<=9):
    iter (fun(s75:Int)=>(bif(decide (s75<(o.dk.length:Int)))then((idx o.dk s75).bind fun y96=>(bif(decide (y96>=0))then((idx l y96).bind fun y108=>some (y108.so==0))else(some false):Option Bool).bind fun j105=>bif j105 then(some (.inr (.inr false)))else(some (.inl (i64.wrap (s75+1)))))else(some (.inr (.inl s75))):Option (Int⊕(Int⊕Bool)))) N 0=some (if vH l o then .inl (o.dk.length:Int)else .inr false):=by
  have hB:o.dk.length<dg:=Nat.lt_of_le_of_lt ho (by decide);rw[gQ o.dk (fun _ y=>!(decide (y>=0)&&uC l y)) (.inl (o.dk.length:Int)) (.inr false) (Nat.lt_of_lt_of_le hB hN),il]
  · rfl
  · intro k y hy hk;have hm:=hr y (List.mem_of_getElem? hy);simp only[eD hk,RD,dQ,hy,RB,eL (Nat.lt_trans hk hB)];cases h0:decide (y>=0)
    · rfl
    · have h0:y>=0:=by simpa using h0
      simp only[RD,eU (l:=l) (i:=y) h0 (by omega),RB,RF];unfold uC;cases(nth l y).so==0<;>rfl
  · simp only[eE,RC]
theorem Hu{l:List cd}(hl:l.length=10){o:cd}(ho:eG o=true):(bif(decide (o.box>=0))then((idx l o.box).bind fun y58=>some (y58.so==0))else(some false):Option Bool)=some (decide (o.box>=0)&&uC l o.box)\/(o.so != 0)=false:=by
  cases hk:o.so != 0
  · exact .inr rfl
  · left;obtain⟨hb,_⟩:=km ho hk;rw[dI]at hb;cases h0:decide (o.box>=0)
    · rfl
    · have h0:o.box>=0:=by simpa using h0
      simp only[RD,eU (l:=l) (i:=o.box) h0 (by omega),RB,RF];rfl
theorem uK{N:Nat}(hN:dg<=N){l:List cd}(hb:eQ dA l<dg):lz N l=some (fT l):=by
  have hlB:=gW hb;unfold lz fT;cases h10:((l.length:Int) != 10)
  · have hl:l.length=10:=wY (n:=10) h10;rw[eU (l:=l) (i:=0) (by omega) (by omega)];simp only[RC,RB,gX,Bool.not_false,RF];rw[show((nth l 0).so != 1 || ((nth l 0).box != (-1) || (nth l 0).dV != 1000000))=vv l from rfl];cases vv l
    · simp only[RC,Bool.not_false,RF];rw[gQ l (tN l) (.inl (l.length:Int)) (.inr false) (Nat.lt_of_lt_of_le hlB hN)]
      · simp only[RB];cases allI (tN l) 0 l<;>rfl
      · intro k y hy hk;have hm:=List.mem_of_getElem? hy;simp only[eD hk,RD,dQ,hy,RB,HY hN (fN hb hm),eL (Nat.lt_trans hk hlB)];unfold tN;cases ho:eG y
        · rfl
        · obtain⟨q1,q2⟩:=pB ho;rw[CD hN hl q1 q2]
          rcases Hu hl ho with q|q
          · rw[q];simp only[RE,RC,RF,iI,RB];cases(decide ((k:Int)>0)&&(y.so != 0&&(decide (y.box>=0)&&uC l y.box)))<;>cases vH l y<;>rfl
          · simp only[q,RE,RC,RF,Bool.false_and,Bool.and_false,iI,RB];cases vH l y<;>rfl
      · simp only[eE,RC]
    · rfl
  · rfl
def wA(l:List cd):Prop:=∀o,o∈l->mK o
theorem pL{N:Nat}(hN:dg<=N){l:List cd}(hb:eQ dA l<dg)(hw:wA l):jU N l=some (fT l):=by
  have hlB:=gW hb;unfold jU fT;cases h10:((l.length:Int) != 10)
  · have hl:l.length=10:=wY (n:=10) h10;rw[eU (l:=l) (i:=0) (by omega) (by omega)];simp only[RC,RB,gX,Bool.not_false,RF];rw[show((nth l 0).so != 1 || ((nth l 0).box != (-1) || (nth l 0).dV != 1000000))=vv l from rfl];cases vv l
    · simp only[RC,Bool.not_false,RF];rw[gQ l (tN l) (.inl (l.length:Int)) (.inr false) (Nat.lt_of_lt_of_le hlB hN)]
      · simp only[RB];cases allI (tN l) 0 l<;>rfl
      · intro k y hy hk;have hm:=List.mem_of_getElem? hy;simp only[eD hk,RD,dQ,hy,RB,H7 hN (fN hb hm) (hw y hm),eL (Nat.lt_trans hk hlB)];unfold tN;cases ho:eG y
        · rfl
        · obtain⟨q1,q2⟩:=pB ho;rw[CD hN hl q1 q2]
          rcases Hu hl ho with q|q
          · rw[q];simp only[RE,RC,RF,iI,RB];cases y.so != 0<;>cases decide ((k:Int)>0)<;>cases(decide (y.box>=0)&&uC l y.box)<;>cases vH l y<;>rfl
          · simp only[q,RE,RC,RF,Bool.false_and,Bool.and_false,iI,RB];cases vH l y<;>rfl
      · simp only[eE,RC]
    · rfl
  · rfl
theorem xt{N:Nat}(hN:dg<=N){l:List Int}{x:Int}(hb:l.length<dg):kO N l x=some (l.contains x):=by
  unfold kO;rw[gQ l (fun _ y=>!(y==x)) (.inl (l.length:Int)) (.inr true) (Nat.lt_of_lt_of_le hb hN),il]
  · have:(l.all fun y=>!(y==x))=!l.contains x:=by
      induction l with
      | nil=>rfl
      | cons y l ih =>
        have ih:=ih (Nat.lt_trans (Nat.lt_succ_self _) hb);rw[List.all_cons,ih,List.contains_cons,Bool.beq_comm (a:=x)];cases(y==x)<;>rfl
    rw[this,RB];cases l.contains x<;>rfl
  · intro k y hy hk;simp only[eD hk,RD,dQ,hy,RB,eL (Nat.lt_trans hk hb)];cases(y==x)<;>rfl
  · simp only[eE,RC]
def qy(g:List Int)(k:Nat)(y:Int):Bool:=dy y 0 9&&!(g.take k).contains y
def lg(g:eS):Bool:=((g.Rj==0)&&(g.Rs==0)) || ((g.Rj==1)&&(dy g.Rs 0 9&&((g.da.length:Int)==0)))
def fW(h:df):Bool:=fT h.ag&&(lg h.gc&&(dy h.gc.Rk 0 1000000&&allI (qy h.gc.da) 0 h.gc.da))
theorem Ha{α:Type}{l:List α}{k:Nat}(h:l.length<dg):(l.take k).length<dg:=Nat.lt_of_le_of_lt (by simp;omega) h
theorem xw{N:Nat}(hN:dg<=N){h:df}(h1:eQ dA h.ag<dg)(h2:h.gc.da.length<dg):ng N h=some (fW h):=by
  unfold ng fW;rw[gQ h.gc.da (qy h.gc.da) (.inl (h.gc.da.length:Int)) (.inr false) (Nat.lt_of_lt_of_le h2 hN)]
  · simp only[RB,sn,vF,uK hN h1,iI];cases allI (qy h.gc.da) 0 h.gc.da
    · simp
    · simp only[if_true,Sum.elim_inl,Bool.and_true];unfold lg;cases fT h.ag
      · rfl
      cases((h.gc.Rj==0)&&(h.gc.Rs==0))
      · cases((h.gc.Rj==1)&&(dy h.gc.Rs 0 9&&((h.gc.da.length:Int)==0)))<;>rfl
      · rfl
  · intro k y hy hk;simp only[eD hk,RD,dQ,hy,RB,sn,vC (Nat.le_of_lt hk),tR hN (Ha h2),eL (Nat.lt_trans hk h2)];unfold qy;cases dy y 0 9<;>cases(h.gc.da.take k).contains y<;>rfl
  · simp only[eE,RC]
theorem Nu(n:Nat):decide ((n:Int)>0)=!((n:Int)==0):=by
  cases n with
  | zero=>rfl
  | succ n=>rw[decide_eq_true (by omega)];simp;omega
theorem xR{N:Nat}(hN:dg<=N){h:df}(h1:eQ dA h.ag<dg)(h2:h.gc.da.length<dg)(hw:wA h.ag):m6 N h=some (fW h):=by
  unfold m6 fW;rw[gQ h.gc.da (qy h.gc.da) (.inl (h.gc.da.length:Int)) (.inr false) (Nat.lt_of_lt_of_le h2 hN)]
  · simp only[RB,pM,jK,pL hN h1 hw,gX,Nu];cases fT h.ag
    · rfl
    cases dy h.gc.Rk 0 1000000
    · simp
    unfold lg
    by_cases q0:h.gc.Rj=0
    · have e0:(h.gc.Rj==0)=true:=by simp[q0]
      have e1:(h.gc.Rj==1)=false:=by simp[q0]
      have e2:dy h.gc.Rj 0 1=true:=by rw[q0];decide
      rw[e0,e1,e2];simp only[bne];cases h.gc.Rs==0
      · rfl
      · cases allI (qy h.gc.da) 0 h.gc.da<;>rfl
    by_cases q1:h.gc.Rj=1
    · have e0:(h.gc.Rj==0)=false:=by simp[q1]
      have e1:(h.gc.Rj==1)=true:=by simp[q1]
      have e2:dy h.gc.Rj 0 1=true:=by rw[q1];decide
      rw[e0,e1,e2];cases dy h.gc.Rs 0 9
      · rfl
      cases((h.gc.da.length:Int)==0)
      · rfl
      · cases allI (qy h.gc.da) 0 h.gc.da<;>rfl
    · have e0:(h.gc.Rj==0)=false:=by simp[q0]
      have e1:(h.gc.Rj==1)=false:=by simp[q1]
      have e2:dy h.gc.Rj 0 1=false:=by
        rw[Bool.eq_false_iff,Ne,dI];omega
      rw[e0,e1,e2];rfl
  · intro k y hy hk;simp only[eD hk,RD,dQ,hy,RB,pM,vC (Nat.le_of_lt hk),xt hN (Ha h2),eL (Nat.lt_trans hk h2)];unfold qy;cases dy y 0 9<;>cases(h.gc.da.take k).contains y<;>rfl
  · simp only[eE,RC]
def ig(t:ez):Bool:=(dy t.Rx 0 4&&(dy t.fY 0 2&&(dy t.nN 0 4&&dy t.iG 0 2)))&&(((t.so==1)&&dy t.kr 0 1000) || ((t.so==2)&&dy t.kr 0 100))
theorem zp(N:Nat)(t:ez):oB N t=some (ig t):=by
  unfold oB ig;simp only[uY,x5,kq,RB,gX,iI]
  by_cases q:t.so=1
  · have e1:(t.so==1)=true:=by simp[q]
    have e2:(t.so==2)=false:=by simp[q]
    rw[e1,e2];cases dy t.Rx 0 4<;>cases dy t.nN 0 4<;>cases dy t.fY 0 2<;>cases dy t.iG 0 2<;>cases dy t.kr 0 1000<;>rfl
  · have e1:(t.so==1)=false:=by simp[q]
    rw[e1];cases dy t.Rx 0 4<;>cases dy t.nN 0 4<;>cases dy t.fY 0 2<;>cases dy t.iG 0 2<;>cases(t.so==2)<;>cases dy t.kr 0 100<;>rfl
theorem zF(N:Nat)(t:ez):oy N t=some (ig t):=by
  unfold oy ig;simp only[vy,jK,RB,gX,iI]
  by_cases q:t.so=1
  · have e1:(t.so==1)=true:=by simp[q]
    have e2:(t.so==2)=false:=by simp[q]
    rw[e1,e2];cases dy t.Rx 0 4<;>cases dy t.fY 0 2<;>cases dy t.nN 0 4<;>cases dy t.iG 0 2<;>cases dy t.kr 0 1000<;>rfl
  · have e1:(t.so==1)=false:=by simp[q]
    rw[e1];cases dy t.Rx 0 4<;>cases dy t.fY 0 2<;>cases dy t.nN 0 4<;>cases dy t.iG 0 2<;>cases(t.so==2)<;>cases dy t.kr 0 100<;>rfl
def nZ(p:bh):Bool:=dy p.Rr 0 9&&(dy p.Rq 0 10&&(dT p.db&&(dy p.dx 0 1000000&&dy p.Rp 0 1000000)))
def dJ(p:bh):Bool:=fv p.Rg&&(jh p.own&&(fH p.Rh&&(fW p.heap&&(!decide ((p.dc.length:Int)>3)&&(p.dc.all ig&&nZ p)))))
theorem sv{N:Nat}(hN:dg<=N){p:bh}(h:dH p<dg):kH N p=some (dJ p):=by
  obtain⟨h1,h2,h3,h4,h5,h6⟩:=gO h;unfold kH dJ;rw[gQ p.dc (fun _ t=>ig t) (.inl (p.dc.length:Int)) (.inr false) (Nat.lt_of_lt_of_le h6 hN),il]
  · simp only[RB,uV hN h1,zD hN h2,qe hN,xw hN h4 h5,sn,kq,pD,vF,gX,iI];rw[show(dy p.Rr 0 9&&(dy p.Rq 0 10&&(dT p.db&&(dy p.dx 0 1000000&&dy p.Rp 0 1000000))))=nZ p from rfl];cases p.dc.all ig
    · simp
    · simp only[if_true,Sum.elim_inl,RF];cases fv p.Rg<;>cases jh p.own<;>cases fH p.Rh<;>cases fW p.heap<;>cases decide ((p.dc.length:Int)>3)<;>rfl
  · intro k y hy hk;simp only[eD hk,RD,dQ,hy,RB,zp,eL (Nat.lt_trans hk h6)];cases ig y<;>rfl
  · simp only[eE,RC]
def wP(p:bh):Prop:=wA p.heap.ag
theorem sr{N:Nat}(hN:dg<=N){p:bh}(h:dH p<dg)(hw:wP p):kA N p=some (dJ p):=by
  obtain⟨h1,h2,h3,h4,h5,h6⟩:=gO h;unfold kA dJ;rw[gQ p.dc (fun _ t=>ig t) (.inl (p.dc.length:Int)) (.inr false) (Nat.lt_of_lt_of_le h6 hN),il]
  · simp only[RB,va hN h1,zz hN h2,vY hN,xR hN h4 h5 hw,pM,jK,pC,gX,iI];unfold nZ;cases fv p.Rg
    · rfl
    cases jh p.own
    · rfl
    cases fH p.Rh
    · rfl
    cases fW p.heap
    · rfl
    cases decide ((p.dc.length:Int)>3)
    · simp only[RE,Bool.not_false,Bool.false_or,RF];cases dy p.Rr 0 9<;>cases dy p.Rq 0 10<;>cases dT p.db<;>cases dy p.dx 0 1000000<;>cases dy p.Rp 0 1000000<;>cases p.dc.all ig<;>rfl
    · rfl
  · intro k y hy hk;simp only[eD hk,RD,dQ,hy,RB,zF,eL (Nat.lt_trans hk h6)];cases ig y<;>rfl
  · simp only[eE,RC]
end Go.Kx
