import Derived.Test.YtfmfgnhbgcjajaaGreatLKeep
namespace Go.Kx
open Go
open Go.IntKind (i64)
set_option linter.unusedVariables false
set_option linter.unusedSimpArgs false
set_option maxRecDepth 10000
structure TK (t u:List dp):Prop where
  tr:Tr u
  pg:eN de.c6 u=eN de.c6 t
  rt:eN de.dh u=eN de.dh t
  cp:eN de.du u=eN de.du t
theorem MZ{t u:List dp}(h:Tr t)(len:u.length=5)(pJ:(nth u 0).Ru=true)(B5:(nth u 0).Rv=-1)(dead:∀r,r∈u->r.Ru=false->r=kG)(dP:∀r,r∈u->dT r.dP=true)
    (lead:∀(k:Nat) (r:dp),u[k]?=some r->r.Ru=true->leads u 5 (k:Int)=true) (pg:eN de.c6 u=eN de.c6 t) (rt:eN de.dh u=eN de.dh t) (cp:eN de.du u=eN de.du t):TK t u:=by
  refine⟨⟨len,pJ,B5,dead,dP,lead,?_⟩,pg,rt,cp⟩;obtain⟨a1,a2,a3⟩:=r8 u ⟨0,0,0⟩ 0 dP (by omega) (by omega) Cj;obtain⟨t1,t2,t3⟩:=h.eN;have hS:=eO.1 h.sum;simp only[Int.zero_add]at a1 a2 a3;exact eO.2 ⟨by omega,by omega,by omega⟩
theorem AY{t:List dp}:∀(n:Nat) (j:Int),leads t n j=true->leads t (n+1) j=true
  | 0,j,h=>by simp[leads]at h
  | n+1,j,h=>by
    unfold leads at h⊢;simp only[Bool.or_eq_true,RG]at h⊢
    rcases h with h|⟨h1,h2⟩
    · exact .inl h
    · exact .inr ⟨h1,AY n _ h2⟩
theorem sx{t:List dp}{n:Nat}{j:Int}(h:leads t (n+1) j=true)(hj:j ≠ 0):ei t j=true/\leads t n (up t j)=true:=by
  unfold leads at h;simp only[Bool.or_eq_true,RG,beq_iff_eq]at h;exact h.resolve_left hj
theorem AS{t:List dp}{i:Int}(hi:i ≠ 0)(hu:up t i=i):∀n,leads t n i=false
  | 0=>rfl
  | n+1=>by
    cases h:leads t (n+1) i
    · rfl
    · have:=(sx h hi).2;rw[hu,AS hi hu n]at this;cases this
theorem vA{t:List dp}{i:Int}(h:ei t i=true):0<=i/\i<=4/\(nth t i).Ru=true:=by
  have:=hY h;unfold ei at h;simp only[RG]at h;exact⟨this.1,this.2,h.2⟩
theorem IH{t:List dp}{k:Int}(k0:0<=k)(k4:k<=4)(hk:(nth t k).Ru=false)(h0:(nth t 0).Ru=true){f:Int}(h:leads t 5 f=true):leads t 4 f=true:=by
  cases h4:leads t 4 f
  case true=>rfl
  have key:∀n j,leads t (n+1) j=true->leads t n j=false->(j=0/\n=0)\/(j ≠ 0/\ei t j=true/\leads t n (up t j)=true/\∀m,n=m+1->leads t m (up t j)=false):=fun n j a b=>by
    by_cases hj:j=0
    · cases n with
      | zero=>exact .inl ⟨hj,rfl⟩
      | succ m=>unfold leads at b;rw[hj]at b;simp at b
    · obtain⟨c1,c2⟩:=sx a hj;refine .inr ⟨hj,c1,c2,fun m e=>?_⟩;subst e;unfold leads at b;rw[c1]at b;simp only[Bool.or_eq_false_iff,RF]at b;exact b.2
  have r:∀j,ei t j=true->j ≠ 0->1<=j/\j<=4/\j ≠ k:=fun j hl hj=>by
    obtain⟨a,b,c⟩:=vA hl;refine⟨by omega,b,fun e=>?_⟩;rw[e,hk]at c;cases c
  have hk0:k ≠ 0:=fun e=>by rw[e,h0]at hk;cases hk
  rcases key 4 f h h4 with⟨_,q⟩|⟨n0,l0,a0,b0⟩
  · cases q
  rcases key 3 _ a0 (b0 3 rfl)with⟨_,q⟩|⟨n1,l1,a1,b1⟩
  · cases q
  rcases key 2 _ a1 (b1 2 rfl)with⟨_,q⟩|⟨n2,l2,a2,b2⟩
  · cases q
  rcases key 1 _ a2 (b2 1 rfl)with⟨_,q⟩|⟨n3,l3,a3,b3⟩
  · cases q
  have n4:up t (up t (up t (up t f)))=0:=by
    unfold leads at a3;simpa[leads]using a3
  have r0:=r _ l0 n0;have r1:=r _ l1 n1;have r2:=r _ l2 n2;have r3:=r _ l3 n3
  have e01:f ≠ up t f:=fun e=>by rw[<- e, <- e, <- e, <- e]at n4;exact n0 n4
  have e12:up t f ≠ up t (up t f):=fun e=>by rw[<- e, <- e, <- e]at n4;exact n1 n4
  have e23:up t (up t f) ≠ up t (up t (up t f)):=fun e=>by rw[<- e, <- e]at n4;exact n2 n4
  have e02:f ≠ up t (up t f):=fun e=>by rw[<- e, <- e]at n4;exact n0 n4
  have e13:up t f ≠ up t (up t (up t f)):=fun e=>by rw[<- e]at n4;exact n2 n4
  have e03:f ≠ up t (up t (up t f)):=fun e=>by rw[<- e]at n4;exact n1 n4
  generalize up t (up t (up t f))=d at *;generalize up t (up t f)=c at *;generalize up t f=b at *;omega
theorem BE:∀(l:List Bool) (j k:Nat),tj j l=some k->j<=k/\l[k-j]?=some false
  | [],j,k,h=>by simp[tj]at h
  | b::l,j,k,h=>by
    unfold tj at h;cases b
    · simp only[Bool.false_eq_true,if_false,Option.some.injEq]at h;subst h;simp
    · simp only[if_true]at h;obtain⟨a,c⟩:=BE l (j+1) k h;refine⟨by omega,?_⟩;rw[show k-j=(k-(j+1))+1 by omega,List.getElem?_cons_succ];exact c
theorem OH{t:List dp}{f:Int}{a:de}(j:Int)(h:(eI t f a).2=true)(h0:0<=j):(nth (eI t f a).1 j).Ru=(nth t j).Ru/\(nth (eI t f a).1 j).Rv=(nth t j).Rv:=by
  obtain⟨h1,h2⟩:=uc h;have hT:=fK.1 h1;obtain⟨f0,f4⟩:=hY h2;have hl:=hT.len;unfold eI;split
  · split
    · exact ug f0 (by omega) _ h0
    · exact⟨rfl,rfl⟩
  · exact⟨rfl,rfl⟩
theorem IU{t:List dp}{f:Int}{a:de}(h:(iE t f a).2.2=true):TK t (iE t f a).1:=by
  unfold iE at h⊢;cases hp:(eI t f a).2
  case false=>rw[hp]at h;simp at h
  rw[hp]at h;simp only[if_true]at h⊢
  cases hf:tj 0 (t.map dp.Ru)with
  | none=>rw[hf]at h;simp at h
  | some k =>
    simp only;obtain⟨tOk,lf⟩:=uc hp;have hT:=fK.1 tOk;obtain⟨hu,ha,hg⟩:=um hp;have hpl:=ER t f a;have hup:=fun j=>OH (t:=t) (f:=f) (a:=a) j hp;generalize (eI t f a).1=u at *;obtain⟨_,hk⟩:=BE _ _ _ hf;rw[Nat.sub_zero, <- hpl,List.getElem?_map]at hk;obtain⟨r,hr,hrl⟩:=Option.map_eq_some_iff.1 hk;have hl:=hu.len;have hk5:k<u.length:=eA hr;have hz:=hu.dead r (List.mem_of_getElem? hr) hrl;have hnk:nth u (k:Int)=r:=nW hr
    have n0:k ≠ 0:=fun e=>by
      subst e;have:=hu.pJ;rw[show(0:Int)=((0:Nat):Int) from rfl,hnk,hrl]at this;cases this
    have hn:∀j:Int,0<=j->nth (u.set k (dp.mk true f a)) j=if(k:Int)=j then dp.mk true f a else nth u j:=fun j hj=>by
      have:=xE (t:=u) (i:=(k:Int)) (z:=dp.mk true f a) (by omega) (by omega) hj
      rwa[Int.toNat_natCast]at this
    have hts:∀g:de->Int,eN g (u.set k (dp.mk true f a))=eN g u+g a:=fun g=>by
      rw[xb g u k r _ hr]
      have e1:oI g r=0:=by unfold oI;rw[hrl];rfl
      have e2:oI g (dp.mk true f a)=g a:=rfl;rw[e1,e2];omega
    have lst:∀(n:Nat) (j:Int),leads u n j=true->leads (u.set k (dp.mk true f a)) n j=true:=by
      intro n
      induction n with
      | zero=>intro j hj;simp[leads]at hj
      | succ n ih =>
        intro j hj
        by_cases j0:j=0
        · unfold leads;rw[j0];rfl
        · obtain⟨c1,c2⟩:=sx hj j0;obtain⟨d0,d4,d5⟩:=vA c1
          have hne:(k:Int) ≠ j:=fun e=>by rw[<- e,hnk,hrl]at d5;cases d5
          have e1:nth (u.set k (dp.mk true f a)) j=nth u j:=by rw[hn j d0,if_neg hne]
          have e2:up (u.set k (dp.mk true f a)) j=up u j:=by unfold up;rw[e1]
          have e3:ei (u.set k (dp.mk true f a)) j=true:=by unfold ei at c1⊢;rw[e1];exact c1
          unfold leads;rw[e2,e3,ih _ c2];simp
    obtain⟨f0,f4,fl⟩:=vA lf
    have ful:(nth u f).Ru=true:=by rw[(hup f f0).1];exact fl
    have fu5:leads u 5 f=true:=by
      have:=hu.lead f.toNat _ (fO (l:=u) f0 (by omega)) ful
      rwa[Int.toNat_of_nonneg f0]at this
    have fu4:=IH (t:=u) (k:=(k:Int)) (by omega) (by omega) (by rw[hnk];exact hrl) hu.pJ fu5;refine MZ hT (by rw[List.length_set];exact hl) ?_ ?_ ?_ ?_ ?_ ?_ ?_ ?_
    · rw[hn 0 (by omega),if_neg (by omega)];exact hu.pJ
    · rw[hn 0 (by omega),if_neg (by omega)];exact hu.B5
    · intro x hx hd
      rcases List.mem_or_eq_of_mem_set hx with q|q
      · exact hu.dead x q hd
      · rw[q]at hd;cases hd
    · intro x hx
      rcases List.mem_or_eq_of_mem_set hx with q|q
      · exact hu.dP x q
      · rw[q];exact ha
    · intro j x hx hxl
      by_cases e:k=j
      · subst e;have e1:=hn (k:Int) (by omega);rw[if_pos rfl]at e1;unfold leads;rw[show up (u.set k (dp.mk true f a)) (k:Int)=f from by unfold up;rw[e1],lst 4 f fu4,show ei (u.set k (dp.mk true f a)) (k:Int)=true from by unfold ei;rw[e1,dI.2 ⟨by omega,by omega⟩];rfl];simp
      · rw[List.getElem?_set_ne e]at hx;exact lst 5 _ (hu.lead j x hx hxl)
    · rw[hts,hg de.c6 fun _ _=>rfl];omega
    · rw[hts,hg de.dh fun _ _=>rfl];omega
    · rw[hts,hg de.du fun _ _=>rfl];omega
theorem Ky{t:List dp}{f g:Int}{a:de}(h:(ju t f g a).2=true):TK t (ju t f g a).1:=by
  unfold ju at h⊢;cases hp:(eI t f a).2&&ei t g
  case false=>rw[hp]at h;simp at h
  simp only[if_true];rw[RG]at hp;obtain⟨tOk,lf⟩:=uc hp.1;have hT:=fK.1 tOk;obtain⟨hu,ha,hg⟩:=um hp.1;have g1:=hg de.c6 fun _ _=>rfl;have g2:=hg de.dh fun _ _=>rfl;have g3:=hg de.du fun _ _=>rfl;obtain⟨t1,t2,t3⟩:=hT.eN;have hS:=eO.1 hT.sum;obtain⟨_,b2,b3,b4,b5⟩:=yU hu g ha (by omega) (by omega) (by omega);exact⟨b2,by omega,by omega,by omega⟩
theorem Hn{g:de->Int}{f:dp->dp}(h:∀r,(f r).Ru=r.Ru/\(f r).dP=r.dP):∀t:List dp,eN g (t.map f)=eN g t
  | []=>rfl
  | r::t=>by
    show(if(f r).Ru then g (f r).dP else 0)+eN g (t.map f)=(if r.Ru then g r.dP else 0)+eN g t
    rw[(h r).1,(h r).2,Hn h t]
theorem Ft(i u:Int)(r:dp):(jQ i u r).Ru=r.Ru/\(jQ i u r).dP=r.dP:=by
  unfold jQ;split<;>exact⟨rfl,rfl⟩
theorem K4{t:List dp}{i:Int}(h:(jo t i).2=true):TK t (jo t i).1:=by
  unfold jo at h⊢;cases hc:(fH t&&ei t i)&&(i != 0)
  case false=>rw[hc]at h;simp at h
  simp only[if_true];simp only[RG,bne_iff_ne]at hc;obtain⟨⟨tOk,li⟩,i0⟩:=hc;have hT:=fK.1 tOk;have hl:=hT.len;obtain⟨a0,a4,al⟩:=vA li
  have lead5:leads t 5 i=true:=by
    have:=hT.lead i.toNat _ (fO (l:=t) a0 (by omega)) al
    rwa[Int.toNat_of_nonneg a0]at this
  have hne:up t i ≠ i:=fun e=>by rw[AS i0 e 5]at lead5;cases lead5
  have lu:ei t (up t i)=true:=by
    by_cases e:up t i=0
    · rw[e];unfold ei;rw[hT.pJ];rfl
    · exact(sx (sx lead5 i0).2 e).1
  obtain⟨u0,u4,ul⟩:=vA lu;have hfit:=Hf hT ⟨u0,u4⟩ ⟨a0,a4⟩ hne ul al
  have hW:dT (dX (nth t (up t i)).dP (nth t i).dP)=true:=by
    unfold gn at hfit;split at hfit
    · rename_i q;simp only[RG]at q;exact q.2
    · simp at hfit
  unfold dropped;generalize hu:up t i=u at *;generalize hw:jR (nth t u) (dX (nth t u).dP (nth t i).dP)=W
  have Wl:W.Ru=true:=by rw[<- hw];exact ul
  have Wp:W.Rv=(nth t u).Rv:=by rw[<- hw];rfl
  have Wb:W.dP=dX (nth t u).dP (nth t i).dP:=by rw[<- hw];rfl
  have hn:∀j:Int,0<=j->j<=4->nth (((t.set u.toNat W).set i.toNat kG).map (jQ i u)) j=jQ i u (if i=j then kG else if u=j then W else nth t j):=fun j j0 j4=>by
    have e1:=xE (t:=t.set u.toNat W) (i:=i) (z:=kG) a0 (by rw[List.length_set];omega) j0;have e2:=xE (t:=t) (i:=u) (z:=W) u0 (by omega) j0;rw[e2]at e1;rw[<- e1]
    have hlen:j<((((t.set u.toNat W).set i.toNat kG)).length:Int):=by simp only[List.length_set];omega
    have g:=fO (l:=(t.set u.toNat W).set i.toNat kG) j0 hlen
    have:(((t.set u.toNat W).set i.toNat kG).map (jQ i u))[j.toNat]?=some (jQ i u (nth ((t.set u.toNat W).set i.toNat kG) j)):=by rw[List.getElem?_map,g];rfl
    have:=nW this
    rwa[Int.toNat_of_nonneg j0]at this
  generalize hTT:((t.set u.toNat W).set i.toNat kG).map (jQ i u)=T at *
  have hTl:T.length=5:=by rw[<- hTT];simp only[List.length_map,List.length_set];exact hl
  have hni:nth T i=kG:=by rw[hn i a0 a4,if_pos rfl];unfold jQ kG;rfl
  have hnl:∀j:Int,0<=j->j<=4->i ≠ j->(nth T j).Ru=(nth t j).Ru:=fun j j0 j4 e=>by
    rw[hn j j0 j4,if_neg e,(Ft i u _).1];split
    · rename_i q;subst q;rw[Wl,ul]
    · rfl
  have hnp:∀j:Int,0<=j->j<=4->i ≠ j->(nth t j).Ru=true->(nth T j).Rv=if(nth t j).Rv=i then u else(nth t j).Rv:=fun j j0 j4 e hv=>by
    rw[hn j j0 j4,if_neg e]
    have key:∀x:dp,x.Ru=true->(jQ i u x).Rv=if x.Rv=i then u else x.Rv:=fun x hx=>by
      unfold jQ
      by_cases q:x.Rv=i
      · rw[if_pos q,hx,if_pos (by simpa using q)]
      · rw[if_neg q,hx,if_neg (by simpa using q)]
    split
    · rename_i q;subst q;rw[key W Wl,Wp]
    · exact key _ hv
  have lst:∀(n:Nat) (j:Int),j ≠ i->leads t n j=true->leads T n j=true:=by
    intro n
    induction n using Nat.strongRecOn with
    | _ n ih =>
      intro j hj hL
      cases n with
      | zero=>simp[leads]at hL
      | succ n =>
        by_cases j0:j=0
        · unfold leads;rw[j0];rfl
        obtain⟨c1,c2⟩:=sx hL j0;obtain⟨d0,d4,d5⟩:=vA c1
        have e3:ei T j=true:=by unfold ei;rw[hnl j d0 d4 (Ne.symm hj),d5,dI.2 ⟨d0,d4⟩];rfl
        have e2:=hnp j d0 d4 (Ne.symm hj) d5
        have goal:leads T n (nth T j).Rv=true:=by
          by_cases q:(nth t j).Rv=i
          · rw[e2,if_pos q]
            have c3:leads t n i=true:=by rw[<- q];exact c2
            cases n with
            | zero=>simp[leads]at c3
            | succ m =>
              have c4:=(sx c3 i0).2;rw[hu]at c4;exact AY m u (ih m (by omega) u hne c4)
          · rw[e2,if_neg q];exact ih n (by omega) _ q c2
        unfold leads;rw[e3,show up T j=(nth T j).Rv from rfl,goal];simp
  have hidx:∀(k:Nat) (x:dp),T[k]?=some x->k<5/\x=nth T (k:Int):=fun k x hx=>⟨by have:=eA hx;omega,(nW hx).symm⟩;have hgu:=fO (l:=t) u0 (by omega)
  have hgi:(t.set u.toNat W)[i.toNat]?=some (nth t i):=by rw[List.getElem?_set_ne (by omega)];exact fO a0 (by omega)
  have hts:∀g:de->Int,g W.dP=g (nth t u).dP+g (nth t i).dP->eN g T=eN g t:=fun g hg=>by
    rw[<- hTT,Hn (Ft i u),xb g _ _ _ _ hgi,xb g _ _ _ _ hgu];have e1:oI g (nth t u)=g (nth t u).dP:=if_pos ul;have e2:oI g (nth t i)=g (nth t i).dP:=if_pos al;have e3:oI g W=g W.dP:=if_pos Wl;have e4:oI g kG=0:=rfl;rw[e1,e2,e3,e4,hg];omega
  have bu:=eO.1 (hT.dP _ (gy u0 (by omega)));have bi:=eO.1 (hT.dP _ (gy a0 (by omega)));refine MZ hT hTl ?_ ?_ ?_ ?_ ?_ ?_ ?_ ?_
  · rw[hnl 0 (by omega) (by omega) i0];exact hT.pJ
  · rw[hnp 0 (by omega) (by omega) i0 hT.pJ,hT.B5,if_neg (by omega)]
  · intro x hx hd;obtain⟨k,hk⟩:=List.getElem?_of_mem hx;obtain⟨k5,e⟩:=hidx k x hk;rw[e]at hd⊢
    by_cases q:i=(k:Int)
    · rw[<- q,hni]
    · have hd':=hd;rw[hnl _ (by omega) (by omega) q]at hd';have hz:=hT.dead _ (gy (l:=t) (i:=(k:Int)) (by omega) (by omega)) hd';rw[hn _ (by omega) (by omega),if_neg q,if_neg (fun e=>by rw[<- e,ul]at hd';cases hd'),hz];rfl
  · intro x hx;obtain⟨k,hk⟩:=List.getElem?_of_mem hx;obtain⟨k5,e⟩:=hidx k x hk;rw[e,hn _ (by omega) (by omega),(Ft i u _).2];split
    · exact E4
    · split
      · rw[Wb];exact hW
      · exact hT.dP _ (gy (by omega) (by omega))
  · intro k x hk hxl;obtain⟨k5,e⟩:=hidx k x hk;rw[e]at hxl
    have q:(k:Int) ≠ i:=fun q=>by rw[q,hni]at hxl;cases hxl
    rw[hnl _ (by omega) (by omega) (Ne.symm q)]at hxl;exact lst 5 _ q (hT.lead k _ (fO (l:=t) (i:=(k:Int)) (by omega) (by omega)) hxl)
  · refine hts _ ?_;rw[Wb];exact dE (by omega) (by omega)
  · refine hts _ ?_;rw[Wb];exact dE (by omega) (by omega)
  · refine hts _ ?_;rw[Wb];exact dE (by omega) (by omega)
structure Gd (p q:bh):Prop where
  ok:dJ q=true
  sp:Kx.sp q=Kx.sp p
theorem Gd.self{p:bh}(h:dJ p=true):Gd p p:=⟨h,rfl⟩
theorem jE{p:bh}(h:dJ p=true):Hk p.heap:=by
  unfold dJ at h;simp only[RG]at h;exact gG.1 h.2.2.2.1
theorem xd{p:bh}(h:dJ p=true){H:df}(hH:Hk H)(hg:iz H.ag=iz p.heap.ag):Gd p (mA p H):=by
  have hA:=gG.2 hH;refine⟨?_,?_⟩
  · unfold dJ at *;simp only[RG]at h⊢;obtain⟨a,b,c,d,e⟩:=h;exact⟨a,b,c,hA,e⟩
  · unfold Kx.sp
    show de.mk (_+iz H.ag+_) _ _=_
    rw[hg];rfl
theorem Cl{p:bh}(h:dJ p=true){t:List dp}(ht:TK p.Rh t):Gd p (vN p t):=by
  have hA:=fK.2 ht.tr;refine⟨?_,?_⟩
  · unfold dJ at *;simp only[RG]at h⊢;obtain⟨a,b,c,d⟩:=h;exact⟨a,b,hA,d⟩
  · unfold Kx.sp
    show de.mk (eN de.c6 t+_+_) (eN de.dh t+_) (eN de.du t+_)=_
    rw[ht.pg,ht.rt,ht.cp];rfl
theorem Hv{p:bh}(h:dJ p=true){t:List ez}(h3:t.length<=3)(ht:∀x,x∈t->ig x=true):Gd p (ue p t):=by
  refine⟨?_,rfl⟩;unfold dJ at *;simp only[RG,List.all_eq_true]at h⊢;obtain⟨a,b,c,d,e,f,g⟩:=h;refine⟨a,b,c,d,?_,ht,g⟩
  show(!decide ((t.length:Int)>3))=true
  rw[decide_eq_false (by omega)];rfl
theorem HO{p:bh}(h:dJ p=true):p.dc.length<=3/\∀x,x∈p.dc->ig x=true:=by
  unfold dJ at h;simp only[RG,List.all_eq_true,Bool.not_eq_true',decide_eq_false_iff_not]at h;obtain⟨a,b,c,d,e,f,g⟩:=h;exact⟨by omega,f⟩
theorem Hk.ag{h:df}(q:Hk h){l:List cd}(hl:Ar l):Hk (df.mk l h.gc):=⟨hl,q.ph,q.rd,q.gr,q.nd⟩
theorem vK{l:List cd}{i:Int}(h0:0<=i)(h1:i<(l.length:Int)){z:cd}(e:z.c6=(nth l i).c6):iz (l.set i.toNat z)=iz l:=by
  rw[sE h0 h1];omega
theorem LC{h:df}(q:Hk h)(i:Int):Hk (mU h i)/\iz (mU h i).ag=iz h.ag:=by
  unfold mU;cases c:fW h&&dy i 0 9
  · exact⟨q,rfl⟩
  · rw[RG,dI]at c;exact⟨q.fP c.2.1 c.2.2,C5 q.ar c.2.1 c.2.2⟩
theorem Co{h:df}(q:Hk h)(x i:Int):Hk (iY h x i)/\iz (iY h x i).ag=iz h.ag:=by
  unfold iY;cases decide (x>=0)
  · exact⟨q,rfl⟩
  · exact LC q i
theorem Ar.bx{l:List cd}(h:Ar l){i:Int}(h0:0<=i)(h9:i<=9)(hk:(nth l i).so ≠ 0)(hb:0<=(nth l i).box):(nth l (nth l i).box).so ≠ 0:=by
  by_cases e:i=0
  · subst e;rw[h.yX]at hb;exact absurd hb (by decide)
  · have:=h.len;exact h.box i.toNat _ (fO h0 (by omega)) (by omega) hk hb
theorem Ar.OP{l:List cd}(h:Ar l){i:Int}(h0:0<=i)(h9:i<=9){z:cd}(hk:z.so=(nth l i).so)(hb:i=0->z.box=-1)(hb':z.so ≠ 0->0<=z.box->(nth l z.box).so ≠ 0)
    (hl:∀y,y∈z.dk->0<=y->(nth l y).so ≠ 0) (ht:i=0->z.dV=1000000) (ok:eG z=true):Ar (l.set i.toNat z):=by
  have h10:=h.len
  have hn:∀j,0<=j->nth (l.set i.toNat z) j=if i=j then z else nth l j:=fun j hj=>gJ h0 (by omega) hj
  have hkind:∀j,0<=j->(nth (l.set i.toNat z) j).so=(nth l j).so:=fun j hj=>by
    rw[hn j hj];split
    · rename_i e;rw[<- e];exact hk
    · rfl
  refine⟨by rw[List.length_set];exact h10,by rw[hkind 0 (by omega)];exact h.sd,?_,?_,?_,?_,?_⟩
  · rw[hn 0 (by omega)];split
    · rename_i e;exact hb e
    · exact h.yX
  · rw[hn 0 (by omega)];split
    · rename_i e;exact ht e
    · exact h.yM
  · intro o ho
    rcases List.mem_or_eq_of_mem_set ho with q|rfl
    · exact h.ok o q
    · exact ok
  · intro o ho y hy y0;rw[hkind y y0]
    rcases List.mem_or_eq_of_mem_set ho with q|rfl
    · exact h.dk o q y hy y0
    · exact hl y hy y0
  · intro k o hko k0 hne b0;rw[hkind o.box b0]
    by_cases e:k=i.toNat
    · subst e;rw[List.getElem?_set_self (by omega)]at hko;have:z=o:=Option.some.inj hko;subst this;exact hb' hne b0
    · rw[List.getElem?_set_ne (Ne.symm e)]at hko;exact h.box k o hko k0 hne b0
theorem yy{o:cd}(h:o.so ≠ 0):(o.so==0)=false:=by simpa using h
theorem KG{l:List cd}{now me h k:Int}(q:eM l now me h k=0)(k0:k ≠ 0):(nth l (dt l now me h)).so=k:=(gL q).2.2.2.2 k0
theorem LH{l:List cd}{now me h k:Int}(q:eM l now me h k=0):kP h=true:=by
  unfold eM at q;cases e:kP h
  · rw[e]at q;simp at q
  · rfl
theorem Hs{p:bh}(hp:hD p)(me now:Int)(c:dG):Gd p (jS p me now c).2.2:=by
  unfold jS;cases q1:!dy c.b 0 1
  case true=>exact Gd.self hp.ok
  cases q2:eM p.heap.ag now me c.a 0 != 0
  case true=>exact Gd.self hp.ok
  cases q3:(c.so==2)&&(eM p.heap.ag now me c.c 0 != 0)
  case true=>exact Gd.self hp.ok
  simp only[RC];obtain⟨ar,g0,g9,gk,_⟩:=gL (fp q2)
  have hx:∀x,x=(bif c.so==2 then dt p.heap.ag now me c.c else -1)->x=-1\/(0<=x/\x<=9/\(nth p.heap.ag x).so ≠ 0):=fun x e=>by
    cases k2:c.so==2
    · rw[k2]at e;exact .inl e
    · rw[k2]at e q3;have:=gL (fp (by simpa using q3));rw[e];exact .inr ⟨this.2.1,this.2.2.1,this.2.2.2.1⟩
  have hx:=hx _ rfl;generalize (bif c.so==2 then dt p.heap.ag now me c.c else -1)=x at *;generalize dt p.heap.ag now me c.a=i at *;have hi:=ar.at g0 g9;have hl:=ar.len;have ho:=ar.ok _ hi.2;have hk:=yy gk;have hL:=lp ho hk;have hb:=km ho (yq hk)
  have okz:eG (linked (nth p.heap.ag i) c.b x)=true:=by
    refine nb ho hk rfl rfl hb.1 rfl hb.2.2.1 rfl ?_ rfl rfl rfl;unfold jm at hL⊢;simp only[RG,List.all_eq_true]at hL⊢;refine⟨fun y hy=>?_,hL.2.1,hL.2.2.1,?_,hL.2.2.2.2⟩
    · rcases List.mem_or_eq_of_mem_set hy with q|q
      · exact hL.1 y q
      · rw[q,dI];omega
    · show(((List.set _ _ _).length:Int)==2)=true
      rw[List.length_set];exact hL.2.2.2.1
  have arz:Ar (p.heap.ag.set i.toNat (linked (nth p.heap.ag i) c.b x)):=by
    refine ar.OP g0 g9 rfl (fun e=>by rw[e];exact ar.yX) (fun _ b=>ar.bx g0 g9 gk b) (fun y hy y0=>?_) (fun e=>by rw[e];exact ar.yM) okz
    rcases List.mem_or_eq_of_mem_set hy with q|q
    · exact ar.dk _ hi.2 y q y0
    · subst q
      rcases hx with q|q
      · omega
      · exact q.2.2
  obtain⟨s1,s2⟩:=Co ((jE hp.ok).ag arz) x x;exact xd hp.ok s1 (s2.trans (vK g0 (by omega) rfl))
theorem HQ{p:bh}(hp:hD p)(me now:Int)(c:dG):Gd p (j7 p me now c).2.2:=by
  unfold j7;cases q2:eM p.heap.ag now me c.a 0 != 0
  case true=>exact Gd.self hp.ok
  cases q1:dt p.heap.ag now me c.a==0
  case true=>exact Gd.self hp.ok
  cases q3:(c.so==4)&&(eM p.heap.ag now me c.b 1 != 0)
  case true=>exact Gd.self hp.ok
  simp only[RC];obtain⟨ar,g0,g9,gk,_⟩:=gL (fp q2)
  have hx:∀x,x=(bif c.so==4 then dt p.heap.ag now me c.b else -1)->x=-1\/(0<=x/\x<=9/\(nth p.heap.ag x).so ≠ 0):=fun x e=>by
    cases k2:c.so==4
    · rw[k2]at e;exact .inl e
    · rw[k2]at e q3;have:=gL (fp (by simpa using q3));rw[e];exact .inr ⟨this.2.1,this.2.2.1,this.2.2.2.1⟩
  have hx:=hx _ rfl;generalize (bif c.so==4 then dt p.heap.ag now me c.b else -1)=x at *;generalize dt p.heap.ag now me c.a=i at *
  have hi0:i ≠ 0:=by simpa using q1
  have hi:=ar.at g0 g9;have hl:=ar.len;have ho:=ar.ok _ hi.2;have hk:=yy gk;have hL:=lp ho hk;have hb:=km ho (yq hk)
  have okz:eG (boxed (nth p.heap.ag i) x)=true:=by
    refine nb ho hk rfl rfl ?_ rfl hb.2.2.1 rfl hL rfl rfl rfl
    show dy x (-1) 9=true
    rw[dI];omega
  have arz:Ar (p.heap.ag.set i.toNat (boxed (nth p.heap.ag i) x)):=by
    refine ar.OP g0 g9 rfl (fun e=>absurd e hi0) (fun _ b=>?_) (fun y hy y0=>ar.dk _ hi.2 y hy y0) (fun e=>absurd e hi0) okz;have b:0<=x:=b
    rcases hx with q|q
    · omega
    · exact q.2.2
  obtain⟨s1,s2⟩:=Co ((jE hp.ok).ag arz) x i;exact xd hp.ok s1 (s2.trans (vK g0 (by omega) rfl))
theorem BR{p:bh}(h:dJ p=true){i:Int}(g0:0<=i)(g9:i<=9){z:cd}(hk:z.so=(nth p.heap.ag i).so)(hb:z.box=(nth p.heap.ag i).box)(hl:z.dk=(nth p.heap.ag i).dk)(ht:i=0->z.dV=(nth p.heap.ag i).dV)
    (hg:z.c6=(nth p.heap.ag i).c6) (ok:eG z=true):Gd p (jy p (p.heap.ag.set i.toNat z)):=by
  have ar:=eX h;have hlen:=ar.len;exact xd h ((jE h).ag (ar.swap g0 g9 hk hb hl ht ok)) (vK g0 (by omega) hg)
theorem HV{p:bh}(hp:hD p)(me now:Int)(c:dG):Gd p (eZ p me now c).2.2:=by
  unfold eZ;cases q2:eM p.heap.ag now me c.a 2 != 0
  case true=>exact Gd.self hp.ok
  cases q1:!dy c.b 0 (((nth p.heap.ag (dt p.heap.ag now me c.a)).Rm.length:Int)-1)
  case true=>exact Gd.self hp.ok
  cases c.so==7
  case true=>exact Gd.self hp.ok
  cases q3:!dy c.c 0 999
  case true=>exact Gd.self hp.ok
  simp only[RC];obtain⟨ar,g0,g9,gk,_⟩:=gL (fp q2);generalize dt p.heap.ag now me c.a=i at *;have ho:=ar.ok _ (ar.at g0 g9).2;have hk:=yy gk;have hL:=lp ho hk;have hb:=km ho (yq hk);refine BR hp.ok g0 g9 rfl rfl rfl (fun _=>rfl) rfl (nb ho hk rfl rfl hb.1 rfl hb.2.2.1 rfl ?_ rfl rfl rfl);unfold jm at hL⊢;simp only[RG,List.all_eq_true]at hL⊢;refine⟨hL.1,fun y hy=>?_,hL.2.2.1,hL.2.2.2.1,?_,hL.2.2.2.2.2⟩
  · rcases List.mem_or_eq_of_mem_set hy with q|q
    · exact hL.2.1 y q
    · rw[q];simpa using q3
  · show(((List.set _ _ _).length:Int)==_)=true
    rw[List.length_set];exact hL.2.2.2.2.1
theorem Ll{a b:de}(h:(gn a b).2=true):(gn a b).1=⟨a.c6+b.c6,a.dh+b.dh,a.du+b.du⟩/\dT (gn a b).1=true/\dT b=true:=by
  unfold gn at h⊢;cases q:dT a&&dT b&&dT (dX a b)
  · rw[q]at h;simp at h
  · simp only[if_true];simp only[RG]at q;have a1:=eO.1 q.1.1;have b1:=eO.1 q.1.2;refine⟨?_,q.2,q.1.2⟩;unfold dX;rw[dE (by omega) (by omega),dE (by omega) (by omega),dE (by omega) (by omega)]
theorem HD{p:bh}(h:dJ p=true){f:Int}{a:de}(hc:jw p f a=true):dJ (nU p f a)=true/\eN de.c6 (nU p f a).Rh=eN de.c6 p.Rh-a.c6 /\
    (nU p f a).db.c6=p.db.c6/\eN de.dh (nU p f a).Rh+(nU p f a).db.dh=eN de.dh p.Rh+p.db.dh/\eN de.du (nU p f a).Rh+(nU p f a).db.du=eN de.du p.Rh-a.du+p.db.du:=by
  unfold jw at hc;rw[RG]at hc;obtain⟨hT,ha,hg⟩:=um hc.1;obtain⟨e,s1,s2⟩:=Ll hc.2;have g1:=hg de.c6 fun _ _=>rfl;have g2:=hg de.dh fun _ _=>rfl;have g3:=hg de.du fun _ _=>rfl;have hA:=fK.2 hT;refine⟨?_,g1,?_,?_,?_⟩
  · unfold dJ nZ at *;simp only[RG]at h⊢;obtain⟨a,b,c,d,e,f,g1,g2,g3,g4⟩:=h;exact⟨a,b,hA,d,e,f,g1,g2,s1,g4⟩
  · show(gn p.db (de.mk 0 a.dh 0)).1.c6=_
    rw[e];exact Int.add_zero _
  · show eN de.dh (eI p.Rh f a).1+(gn p.db (de.mk 0 a.dh 0)).1.dh=_
    rw[e,g2];dsimp only;omega
  · show eN de.du (eI p.Rh f a).1+(gn p.db (de.mk 0 a.dh 0)).1.du=_
    rw[e,g3];dsimp only;omega
theorem My{p q:bh}(h1:eN de.c6 q.Rh+iz q.heap.ag+q.db.c6=eN de.c6 p.Rh+iz p.heap.ag+p.db.c6)(h2:eN de.dh q.Rh+q.db.dh=eN de.dh p.Rh+p.db.dh)(h3:eN de.du q.Rh+q.db.du=eN de.du p.Rh+p.db.du):sp q=sp p:=by
  unfold sp;rw[h1,h2,h3]
theorem DK{p:bh}(hp:hD p)(me now:Int)(c:dG):Gd p (ic p me now c).2.2:=by
  unfold ic;cases q2:eM p.heap.ag now me c.a 0 != 0
  case true=>exact Gd.self hp.ok
  cases q1:(dt p.heap.ag now me c.a==0) || (!dy c.b 1 1000 || decide (i64.wrap ((nth p.heap.ag (dt p.heap.ag now me c.a)).dV+c.b)>1000000))
  case true=>exact Gd.self hp.ok
  cases q3:!jw p (iq p (nth p.heap.ag (dt p.heap.ag now me c.a)).Rx) (de.mk 0 (i64.wrap ((nth p.heap.ag (dt p.heap.ag now me c.a)).c6*c.b)) 0)
  case true=>exact Gd.self hp.ok
  simp only[RC];obtain⟨ar,g0,g9,gk,_⟩:=gL (fp q2)
  have q3:jw p (iq p (nth p.heap.ag (dt p.heap.ag now me c.a)).Rx) (de.mk 0 (i64.wrap ((nth p.heap.ag (dt p.heap.ag now me c.a)).c6*c.b)) 0)=true:=by simpa using q3
  generalize dt p.heap.ag now me c.a=i at *;simp only[Bool.or_eq_false_iff,Bool.not_eq_false',dI,decide_eq_false_iff_not,beq_eq_false_iff_ne]at q1;obtain⟨i0,b1,t1⟩:=q1;have ho:=ar.ok _ (ar.at g0 g9).2;have hl:=ar.len;have hk:=yy gk;have hb:=km ho (yq hk);have ht:=dI.1 hb.2.2.1;obtain⟨p1,p2,p3,p4,p5⟩:=HD hp.ok q3
  have g:=BR (i:=i) (z:=k6 (nth p.heap.ag i) (i64.wrap ((nth p.heap.ag i).dV+c.b))) p1 g0 g9 rfl rfl rfl (fun e=>absurd e i0) rfl (by
    refine nb ho hk rfl rfl hb.1 rfl ?_ rfl (show jm (nth p.heap.ag i)=true from lp ho hk) rfl rfl rfl;rw[dE (by omega) (by omega)]at t1⊢
    show dy ((nth p.heap.ag i).dV+c.b) 0 1000000=true
    rw[dI];omega)
  refine⟨g.ok,g.sp.trans (My ?_ p4 ?_)⟩
  · rw[p2,p3,CF];dsimp only;omega
  · rw[p5];dsimp only;omega
theorem PJ{p:bh}(hp:hD p)(c:dG):Gd p (kp p c).2.2:=by
  unfold kp;cases c.so==9
  · cases c.so==10
    · cases q:!(jo p.Rh c.a).2
      · exact Cl hp.ok (K4 (by simpa using q))
      · exact Gd.self hp.ok
    · cases !dy c.a 0 4 || (!dy c.b 0 4 || (!dy c.c 0 2 || !uW c.d))
      case true=>exact Gd.self hp.ok
      cases q:!(ju p.Rh c.a c.b (iA c.c c.d)).2
      · exact Cl hp.ok (Ky (by simpa using q))
      · exact Gd.self hp.ok
  · cases !dy c.a 0 4 || !dT (de.mk c.b c.c c.d)
    case true=>exact Gd.self hp.ok
    cases q:!(iE p.Rh c.a (de.mk c.b c.c c.d)).2.2
    · exact Cl hp.ok (IU (by simpa using q))
    · exact Gd.self hp.ok
theorem FT{l:List cd}{o:cd}:∀(m:List cd) (k:Nat),l.drop k=m->(qN l o k m).2<0\/∃(j:Nat) (x:cd),k<=j/\l[j]?=some x/\x.so=0/\x.Rt<999/\qN l o k m=(l.set j (gv o (i64.wrap (x.Rt+1))),(j:Int))/\fT (l.set j (gv o (i64.wrap (x.Rt+1))))=true
  | [],k,h=>.inl (by unfold qN;show(-1:Int)<0;decide)
  | x::m,k,h=>by
    have hx:l[k]?=some x:=by
      have:=congrArg (fun q=>q[0]?) h;simpa using this
    have hm:l.drop (k+1)=m:=by
      rw[<- List.drop_drop,h];rfl
    unfold qN;split
    · rcases FT m (k+1) hm with e|⟨j,y,a,b⟩
      · exact .inl e
      · exact .inr ⟨j,y,by omega,b⟩
    · rename_i c;simp only[Bool.or_eq_true,not_or,bne_iff_ne,ne_eq,Decidable.not_not,decide_eq_true_eq]at c;unfold putAt;split
      · rename_i q;rw[RG]at q;exact .inr ⟨k,x,Nat.le_refl _,hx,c.1,by omega,rfl,q.1⟩
      · exact .inl (show(-1:Int)<0 by decide)
theorem Aa{l:List cd}{o:cd}(h:decide ((hO l o).2<0)=false):Ar l/\∃(j:Nat),1<=j/\j<10/\(nth l (j:Int)).so=0/\(nth l (j:Int)).Rt<999/\hO l o=(l.set j (gv o (i64.wrap ((nth l (j:Int)).Rt+1))),(j:Int))/\Ar (l.set j (gv o (i64.wrap ((nth l (j:Int)).Rt+1)))):=by
  have h:=of_decide_eq_false h;unfold hO at *;cases ha:fT l
  · rw[ha]at h;exact absurd (show(-1:Int)<0 by decide) h
  rw[ha]at h;simp only[if_true]at h⊢;have ar:=fu.1 ha
  rcases FT (o:=o) (l.drop 1) 1 rfl with e|⟨j,x,a,b,c,d,e,f⟩
  · exact absurd e h
  · have hj:=eA b;have hl:=ar.len;refine⟨ar,j,a,by omega,?_⟩;rw[nW b];exact⟨c,d,e,fu.1 f⟩
theorem Gn{o:cd}(h:eG o=true)(hk:o.so=0):o.c6=0:=by
  rw[pc h (by simpa using hk)];rfl
theorem Li{h:df}(q:Hk h)(i:Int):Hk (j6 h i)/\iz (j6 h i).ag=iz h.ag:=by
  unfold j6;split
  · rename_i c;simp only[RG,dI,bne_iff_ne]at c;have hl:=q.ar.len;exact⟨q.ag (q.ar.mark c.2.1.1 c.2.1.2 _ fun _=>yy c.2.2),vK c.2.1.1 (by omega) rfl⟩
  · exact⟨q,rfl⟩
theorem H3{p:bh}(hp:hD p)(me now:Int)(c:dG)(h0:((ji p me now c).1==0)=true):Gd p (ji p me now c).2.2:=by
  unfold ji at h0⊢;cases q1:mV now c
  case true=>exact Gd.self hp.ok
  cases q2:eM p.heap.ag now me c.b 1 != 0
  case true=>exact Gd.self hp.ok
  cases q3:!jw p c.e (cost c)
  case true=>exact Gd.self hp.ok
  cases q4:decide ((hO p.heap.ag (newObj now (dt p.heap.ag now me c.b) c)).2<0)
  case true=>rw[q1,q2,q3,q4]at h0;cases h0
  simp only[RC]
  have q3:jw p c.e (cost c)=true:=by simpa using q3
  obtain⟨p1,p2,p3,p4,p5⟩:=HD hp.ok q3;obtain⟨ar,j,j1,j9,jk,jg,e,arj⟩:=Aa q4;have hl:=ar.len;rw[e];generalize dt p.heap.ag now me c.b=b at *;generalize i64.wrap ((nth p.heap.ag (j:Int)).Rt+1)=g at *;have hb:=uv q1;obtain⟨b1,b2⟩:=Li ((jE hp.ok).ag arj) (j:Int);have pj:=Gn (ar.ok _ (ar.at (i:=(j:Int)) (by omega) (by omega)).2) jk;have ps:=sE (l:=p.heap.ag) (i:=(j:Int)) (by omega) (by omega) (gv (newObj now b c) g);rw[Int.toNat_natCast]at ps;have pz:(gv (newObj now b c) g).c6=c.c:=rfl
  have key:iz (j6 (df.mk (p.heap.ag.set j (gv (newObj now b c) g)) p.heap.gc) (j:Int)).ag=iz p.heap.ag+c.c:=by
    rw[b2]
    show iz (p.heap.ag.set j _)=_
    rw[ps,pj,pz];omega
  refine⟨?_,My ?_ p4 ?_⟩
  · have hA:=gG.2 b1;unfold dJ at *;simp only[RG]at p1⊢;obtain⟨a1,a2,a3,a4,a5⟩:=p1;exact⟨a1,a2,a3,hA,a5⟩
  · show eN de.c6 (nU p c.e (cost c)).Rh+iz (j6 (df.mk (p.heap.ag.set j (gv (newObj now b c) g)) p.heap.gc) (j:Int)).ag+(nU p c.e (cost c)).db.c6=_
    rw[key,p2,p3]
    show _-c.c+_+_=_
    omega
  · show eN de.du (nU p c.e (cost c)).Rh+(nU p c.e (cost c)).db.du=_
    rw[p5]
    show _-0+_=_
    omega
theorem yB{o z:cd}(h:eG o=true)(hk:o.so=4)(e1:z.Rt=o.Rt)(e2:z.so=o.so)(e8:z.box=o.box)(e3:z.Rx=o.Rx)(e9:z.dV=o.dV)(e4:z.c6=o.c6)(hl:jm z=jm o)
    (hw:(z.Ro==0 || dy (i64.wrap (z.Ro-1)) 0 29999)=true) (hg:dy z.eh (-1) 999=true) (e7:z.ef=o.ef):eG z=true:=by
  unfold eG at h⊢;rw[e1,e2,e3,e4,e7,e8,e9,hl,hk];rw[hk]at h;rw[show((4:Int)==0)=false from rfl,show((4:Int) != 4)=false from rfl]at h⊢;simp only[RC,RG]at h⊢;obtain⟨a1,a2,a3,a4,a5,a6,a7,a8,a9,a10⟩:=h;exact⟨a1,a2,a3,a4,a5,a6,a7,hw,hg,a10⟩
theorem Mf{o:cd}(h:eG o=true)(hw:o.Ro ≠ 0):o.so=4:=by
  cases hk:o.so==0
  · unfold eG at h;rw[hk]at h;simp only[RC,RG]at h;obtain⟨a1,a2,a3,a4,a5,a6,a7,a8⟩:=h;cases h4:o.so != 4
    · simpa using h4
    · rw[h4]at a8;simp only[RD,RG,beq_iff_eq]at a8;exact absurd a8.1 hw
  · rw[pc h hk]at hw;exact absurd rfl hw
theorem H4{o:cd}(h:eG o=true)(hk:o.so=4):dy o.eh (-1) 999=true/\(o.Ro==0 || dy (i64.wrap (o.Ro-1)) 0 29999)=true:=by
  unfold eG at h;rw[hk]at h;rw[show((4:Int)==0)=false from rfl,show((4:Int) != 4)=false from rfl]at h;simp only[RC,RG]at h;obtain⟨a1,a2,a3,a4,a5,a6,a7,a8,a9,a10⟩:=h;exact⟨a9,a8⟩
theorem yH{o:cd}(h:eG o=true)(hk:o.so=3){q:List eR}(hq:q.length<=2)(hm:∀m,m∈q->tf m=true):eG (kZ o q)=true:=by
  have hk0:(o.so==0)=false:=by rw[hk];rfl
  have hL:=lp h hk0;have hb:=km h (yq hk0);refine nb h hk0 rfl rfl hb.1 rfl hb.2.2.1 rfl ?_ rfl rfl rfl;unfold jm at hL⊢;simp only[RG,List.all_eq_true]at hL⊢;refine⟨hL.1,hL.2.1,hm,hL.2.2.2.1,hL.2.2.2.2.1,?_⟩
  show decide ((q.length:Int)<=(bif o.so==3 then 2 else 0))=true
  rw[hk];exact decide_eq_true (by show(q.length:Int)<=2;omega)
theorem Fw{o:cd}(h:eG o=true)(hk:o.so=3):o.Ri.length<=2/\∀m,m∈o.Ri->tf m=true:=by
  have hk0:(o.so==0)=false:=by rw[hk];rfl
  have hL:=lp h hk0;unfold jm at hL;simp only[RG,List.all_eq_true,decide_eq_true_eq]at hL;have h2:=hL.2.2.2.2.2;rw[hk]at h2;have h2:(o.Ri.length:Int)<=2:=h2;exact⟨by omega,hL.2.2.1⟩
theorem DO(p i g:Int):ga p i g=-1\/(0<=ga p i g/\ga p i g<=29999):=by
  unfold ga;split
  · rename_i h;simp only[RG,dI]at h;right;rw[dE (n:=g*10) (by omega) (by omega),dE (n:=g*10+i) (by omega) (by omega),dE (n:=(g*10+i)*3) (by omega) (by omega),dE (by omega) (by omega)];omega
  · exact .inl rfl
theorem JI{s n:Int}(hs:s=-1\/(0<=s/\s<=29999))(hn:dy n 0 999=true):tf ⟨s,n⟩=true:=by
  unfold tf;simp only[hn,RE,Bool.or_false]
  rcases hs with e|e
  · subst e;rfl
  · rw[dI.2 e];cases s != -1<;>rfl
theorem w8{l:List cd}(ar:Ar l){i:Int}(h0:0<=i)(h9:i<=9){z:cd}(hk:z.so=(nth l i).so)(hb:z.box=(nth l i).box)(hl:z.dk=(nth l i).dk)(ht:z.dV=(nth l i).dV)(hg:z.c6=(nth l i).c6)(ok:eG z=true):
    Ar (l.set i.toNat z)/\iz (l.set i.toNat z)=iz l:=⟨ar.swap h0 h9 hk hb hl (fun _=>ht) ok,vK h0 (by have:=ar.len;omega) hg⟩
theorem Mj{l:List cd}(ar:Ar l){k w b:Int}(hk:k<=9)(hw:w ≠ 0)(hb:dy b 0 999=true):Ar (te l k w b)/\iz (te l k w b)=iz l:=by
  unfold te;cases q:decide (k>=0)&&((nth l k).Ro==w)
  · exact⟨ar,rfl⟩
  simp only[RG,decide_eq_true_eq,beq_iff_eq]at q;simp only[RD];have k0:0<=k:=q.1;have hl:=ar.len;have ok:=ar.ok _ (ar.at k0 hk).2;have k4:=Mf ok (by rw[q.2];exact hw);obtain⟨g1,g2⟩:=H4 ok k4;have ok1:eG (waiting (nth l k) 0)=true:=yB ok k4 rfl rfl rfl rfl rfl rfl rfl rfl g1 rfl;obtain⟨a1,a2⟩:=w8 ar k0 hk (z:=waiting (nth l k) 0) rfl rfl rfl rfl rfl ok1
  have e:nth (l.set k.toNat (waiting (nth l k) 0)) k=waiting (nth l k) 0:=by rw[gJ k0 (by omega) k0,if_pos rfl]
  obtain⟨b1,b2⟩:=w8 a1 k0 hk (z:=xx (nth (l.set k.toNat (waiting (nth l k) 0)) k) b) rfl rfl rfl rfl rfl (by
    rw[e];have hb1:=dI.1 hb
    exact yB ok1 k4 rfl rfl rfl rfl rfl rfl rfl rfl (dI.2 ⟨by show(-1:Int)<=b;omega,by show b<=999;omega⟩) rfl)
  exact⟨b1,b2.trans a2⟩
theorem HL{p:bh}(hp:hD p)(me now:Int){th:Int}(t0:0<=th)(t9:th<=9)(tk:(nth p.heap.ag th).so=4)(c:dG):Gd p (jb p me now th c).2.2:=by
  unfold jb;cases q2:eM p.heap.ag now me c.a 3 != 0
  case true=>exact Gd.self hp.ok
  obtain⟨ar,g0,g9,gk,_⟩:=gL (fp q2);have k3:=KG (fp q2) (by decide);have ha:=xu.1 (LH (fp q2));cases q1:!dy c.b 0 999
  case true=>exact Gd.self hp.ok
  have q1:dy c.b 0 999=true:=by simpa using q1
  simp only[RC];generalize dt p.heap.ag now me c.a=i at *;have hl:=ar.len;have ok:=ar.ok _ (ar.at g0 g9).2;obtain⟨u1,u2⟩:=Fw ok k3;have hA:=jE hp.ok;cases c.so==12
  · cases q4:((nth p.heap.ag i).Ri.length:Int)==0
    case true=>exact Gd.self hp.ok
    simp only[RC];obtain⟨a1,a2⟩:=w8 ar g0 g9 (z:=kZ (nth p.heap.ag i) ((nth p.heap.ag i).Ri.drop 1)) rfl rfl rfl rfl rfl (yH ok k3 (by rw[List.length_drop];omega) fun m hm=>u2 m (List.mem_of_mem_drop hm))
    have hlen:(served p.heap.ag i).length=10:=by unfold served;rw[List.length_set];exact hl
    have hgl:=pt (l:=served p.heap.ag i) (now:=now) (me:=me) (h:=(nth (nth p.heap.ag i).Ri 0).RA) hlen;generalize hgs:dt (served p.heap.ag i) now me (nth (nth p.heap.ag i).Ri 0).RA=k at *;obtain⟨b1,b2⟩:=Mj (l:=served p.heap.ag i) a1 (k:=k) (w:=i64.wrap (c.a+1)) (b:=c.b) (by omega) (by rw[dE (by omega) (by omega)];omega) q1;exact xd hp.ok (hA.ag b1) (b2.trans a2)
  · cases q4:decide (((nth p.heap.ag i).Ri.length:Int)>=2)
    case true=>exact Gd.self hp.ok
    have q4:=of_decide_eq_false q4;simp only[RC]
    obtain⟨a1,a2⟩:=w8 ar g0 g9 (z:=kZ (nth p.heap.ag i) ((nth p.heap.ag i).Ri++[eR.mk (ga me th (nth p.heap.ag th).Rt) c.b])) rfl rfl rfl rfl rfl (yH ok k3 (by simp only[List.length_append,List.length_cons,List.length_nil];omega) fun m hm=>by
      rcases List.mem_append.1 hm with e|e
      · exact u2 m e
      · rw[List.mem_singleton]at e;rw[e];exact JI (DO _ _ _) q1)
    have hne:i ≠ th:=fun e=>by rw[e,tk]at k3;exact absurd k3 (by decide)
    have e:nth (asked p.heap.ag i me th c) th=nth p.heap.ag th:=by
      unfold asked;rw[gJ g0 (by omega) t0,if_neg hne]
    have okt:=ar.ok _ (ar.at t0 t9).2;obtain⟨v1,v2⟩:=H4 okt tk
    obtain⟨b1,b2⟩:=w8 (l:=asked p.heap.ag i me th c) a1 t0 t9 (z:=waiting (nth (asked p.heap.ag i me th c) th) (i64.wrap (c.a+1))) rfl rfl rfl rfl rfl (by
      rw[e];refine yB okt tk rfl rfl rfl rfl rfl rfl rfl ?_ v1 rfl
      show(i64.wrap (c.a+1)==0 || dy (i64.wrap (i64.wrap (c.a+1)-1)) 0 29999)=true
      rw[dE (n:=c.a+1) (by omega) (by omega),dE (by omega) (by omega),show dy (c.a+1-1) 0 29999=true from dI.2 ⟨by omega,by omega⟩,Bool.or_true])
    exact xd hp.ok (hA.ag b1) (b2.trans a2)
theorem Mo{p:bh}(hp:hD p)(c:dG):Gd p (o7 p c).2.2:=by
  unfold o7;cases !dy c.a 0 ((p.dc.length:Int)-1)
  case true=>exact Gd.self hp.ok
  obtain⟨h3,ht⟩:=HO hp.ok;refine Hv hp.ok (by simp only[List.length_append,List.length_take,List.length_drop];omega) fun x hx=>?_
  rcases List.mem_append.1 hx with e|e
  · exact ht x (List.mem_of_mem_take e)
  · exact ht x (List.mem_of_mem_drop e)
theorem P3{p:bh}(hp:hD p)(me now:Int){th:Int}(t0:0<=th)(t9:th<=9)(tk:(nth p.heap.ag th).so=4)(c:dG)(h:((gm p me now th c).1==0)=true):Gd p (gm p me now th c).2.2:=by
  unfold gm at *;cases k1:c.so==1
  case true=>rw[k1]at h;exact H3 hp _ _ _ h
  cases(c.so==2) || (c.so==3)
  case true=>exact Hs hp _ _ _
  cases(c.so==4) || (c.so==5)
  case true=>exact HQ hp _ _ _
  cases(c.so==6) || (c.so==7)
  case true=>exact HV hp _ _ _
  cases c.so==8
  case true=>exact DK hp _ _ _
  cases(c.so==9) || ((c.so==10) || (c.so==11))
  case true=>exact PJ hp _
  cases(c.so==12) || (c.so==13)
  case true=>exact HL hp _ _ t0 t9 tk _
  cases c.so==14
  case true=>simp only[RC,RD,vz];exact Gd.self hp.ok
  cases c.so==15
  case true=>exact Mo hp _
  exact Gd.self hp.ok
theorem EF{n:Int}(h0:0<=n)(h1:n<=1000000):dy (if 1000000<i64.wrap (n+1)then 1000000 else i64.wrap (n+1)) 0 1000000=true:=by
  rw[dE (by omega) (by omega),dI];split<;>omega
theorem x7{p:bh}(h:dJ p=true):(0<=p.dx/\p.dx<=1000000)/\(0<=p.Rp/\p.Rp<=1000000):=by
  unfold dJ nZ at h;simp only[RG,dI]at h;obtain⟨a,b,c,d,e,f,g1,g2,g3,g4,g5⟩:=h;exact⟨g4,g5⟩
theorem I4{p:bh}(h:dJ p=true):Gd p (B0 p):=by
  refine⟨?_,rfl⟩;have r:=EF (x7 h).1.1 (x7 h).1.2;unfold dJ nZ at *;simp only[RG]at h⊢;obtain⟨a,b,c,d,e,f,g1,g2,g3,g4,g5⟩:=h;exact⟨a,b,c,d,e,f,g1,g2,g3,r,g5⟩
theorem NO{p:bh}(h:dJ p=true):Gd p (E2 p):=by
  refine⟨?_,rfl⟩;have r:=EF (x7 h).2.1 (x7 h).2.2;unfold dJ nZ at *;simp only[RG]at h⊢;obtain⟨a,b,c,d,e,f,g1,g2,g3,g4,g5⟩:=h;exact⟨a,b,c,d,e,f,g1,g2,g3,g4,r⟩
theorem FO{p:bh}{now th:Int}(h:iX p now th=true):(nth p.heap.ag th).so=4:=by
  unfold iX at h;simp only[RG]at h;exact(xT (now:=now) (by simpa using h.1)).1
theorem M8{p:bh}(hp:hD p)(me now th:Int)(c:dG):Gd p (kh p me now th c).1:=by
  unfold kh;cases !dJ p || (!dy me 0 2 || !dy now 0 1000000)
  case true=>exact Gd.self hp.ok
  cases hc:iX p now th
  · exact Gd.self hp.ok
  obtain⟨_,t0,t9⟩:=qM hc;simp only[RE,RC];unfold fin;cases h:(gm p me now th c).1==0
  · cases(c.so==1)&&(((gm p me now th c).1==6) || ((gm p me now th c).1==7))
    · exact Gd.self hp.ok
    · exact I4 hp.ok
  · exact P3 hp me now t0 t9 (FO hc) c h
theorem HX{p:bh}(hp:hD p){now me h:Int}{n:Int}(hn:dy n 0 999=true):Gd p (tM p (dt p.heap.ag now me h) n):=by
  unfold tM;have hg:=pt (l:=p.heap.ag) (now:=now) (me:=me) (h:=h) hp.ar.len;generalize dt p.heap.ag now me h=g at *;cases q:lh p.heap.ag g
  · exact NO hp.ok
  · unfold lh at q;simp only[RG,decide_eq_true_eq,beq_iff_eq]at q;have hl:=hp.ar.len;have g9:=hg q.1;have ok:=hp.ar.ok _ (hp.ar.at q.1 (by omega)).2;obtain⟨u1,u2⟩:=Fw ok q.2.1;refine BR hp.ok q.1 (by omega) rfl rfl rfl (fun _=>rfl) rfl (yH ok q.2.1 (by simp only[List.length_append,List.length_cons,List.length_nil];omega) fun m hm=>?_)
    rcases List.mem_append.1 hm with e|e
    · exact u2 m e
    · rw[List.mem_singleton]at e;rw[e];exact JI (.inl rfl) hn
theorem K9{w:dq}(hw:Wq w)(ok:eP w=true)(p th:Int)(c:dG):(ik w p th c).1=w\/∃q z,eJ w q=true/\qb (nth w.parts q) z/\Gd (nth w.parts q) z/\(ik w p th c).1=la w q z:=by
  unfold ik;cases hok:!eP w || !eJ w p
  case true=>exact .inl rfl
  have hp:eJ w p=true:=by rw[ok]at hok;simpa using hok
  obtain⟨p1,p2⟩:=fe hp;have pp:=hw.BA ok p2;cases hc:iX (nth w.parts p) w.Rn th
  case false=>exact .inl rfl
  cases ho:decide (other w p c<0)
  case true=>exact .inl rfl
  have hq:=qv ho;generalize other w p c=q at *;obtain⟨q1,q2⟩:=fe hq;have pq:=hw.BA ok q2;simp only[RC,RE]
  have f3:∀r:Int×Int×dq,(rf r).1=r.2.2:=fun r=>by unfold rf;cases r.1 != 0<;>rfl
  cases c.so==7
  case true=>rw[RD,f3,BF];exact .inl rfl
  cases c.so==17
  case true =>
    rw[RC,RD,f3];unfold rN;cases hb:dy c.b 0 999
    case false=>exact .inl rfl
    cases mg w p p q
    case false=>exact .inl rfl
    exact .inr ⟨q,_,hq,CI pq c.b,HX pq hb,rfl⟩
  cases c.so==16
  case true =>
    rw[RC,RC,RD,f3];unfold wz;cases h1:decide (c.d<0) || !ig (pF c)
    case true=>exact .inl rfl
    cases mg w p p q
    case false=>exact .inl rfl
    cases ei (nth w.parts p).Rh c.a
    case false=>exact .inl rfl
    cases h3:decide (((nth w.parts p).dc.length:Int)>=3)
    case true=>exact .inl rfl
    have h3:=of_decide_eq_false h3;simp only[Bool.or_eq_false_iff,Bool.not_eq_false']at h1;refine .inr ⟨p,_,hp,Ho pp (pF c),Hv pp.ok (by simp only[List.length_append,List.length_cons,List.length_nil];omega) fun x hx=>?_,rfl⟩
    rcases List.mem_append.1 hx with e|e
    · exact(HO pp.ok).2 x e
    · rw[List.mem_singleton]at e;rw[e];exact h1.2
  have h:=Hm pp.sz pp.w p w.Rn th c;exact .inr ⟨p,_,hp,⟨h.1,h.2,EI pp.sz pp.w p w.Rn th c⟩,M8 pp p w.Rn th c,rfl⟩
end Go.Kx
