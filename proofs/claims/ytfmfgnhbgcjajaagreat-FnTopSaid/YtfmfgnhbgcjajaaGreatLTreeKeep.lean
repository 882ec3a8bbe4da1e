import Derived.Test.YtfmfgnhbgcjajaaGreatLKeep
namespace Go.Kx
open Go
open Go.IntKind (i64)
set_option linter.unusedVariables false
set_option linter.unusedSimpArgs false
set_option maxRecDepth 10000
structure TK (t u:List dk):Prop where
  tr:Tr u
  pg:eM de.cd u=eM de.cd t
  rt:eM de.dg u=eM de.dg t
  cp:eM de.du u=eM de.du t
theorem MY{t u:List dk}(h:Tr t)(len:u.length=5)(pM:(nth u 0).Rq=true)(BB:(nth u 0).Rr=-1)(dead:∀r,r∈u->r.Rq=false->r=kA)(dQ:∀r,r∈u->dT r.dQ=true)
    (lead:∀(k:Nat) (r:dk),u[k]?=some r->r.Rq=true->leads u 5 (k:Int)=true) (pg:eM de.cd u=eM de.cd t) (rt:eM de.dg u=eM de.dg t) (cp:eM de.du u=eM de.du t):TK t u:=by
  refine⟨⟨len,pM,BB,dead,dQ,lead,?_⟩,pg,rt,cp⟩;obtain⟨a1,a2,a3⟩:=rL u ⟨0,0,0⟩ 0 dQ (by omega) (by omega) BN;obtain⟨t1,t2,t3⟩:=h.eM;have hS:=eN.1 h.sum;simp only[Int.zero_add]at a1 a2 a3;exact eN.2 ⟨by omega,by omega,by omega⟩
theorem AH{t:List dk}:∀(n:Nat) (j:Int),leads t n j=true->leads t (n+1) j=true
  | 0,j,h=>by simp[leads]at h
  | n+1,j,h=>by
    unfold leads at h⊢;simp only[Bool.or_eq_true,RD]at h⊢
    rcases h with h|⟨h1,h2⟩
    · exact .inl h
    · exact .inr ⟨h1,AH n _ h2⟩
theorem sy{t:List dk}{n:Nat}{j:Int}(h:leads t (n+1) j=true)(hj:j ≠ 0):ei t j=true/\leads t n (up t j)=true:=by
  unfold leads at h;simp only[Bool.or_eq_true,RD,beq_iff_eq]at h;exact h.resolve_left hj
theorem AR{t:List dk}{i:Int}(hi:i ≠ 0)(hu:up t i=i):∀n,leads t n i=false
  | 0=>rfl
  | n+1=>by
    cases h:leads t (n+1) i
    · rfl
    · have:=(sy h hi).2;rw[hu,AR hi hu n]at this;cases this
theorem vp{t:List dk}{i:Int}(h:ei t i=true):0<=i/\i<=4/\(nth t i).Rq=true:=by
  have:=hO h;unfold ei at h;simp only[RD]at h;exact⟨this.1,this.2,h.2⟩
theorem I7{t:List dk}{k:Int}(k0:0<=k)(k4:k<=4)(hk:(nth t k).Rq=false)(h0:(nth t 0).Rq=true){f:Int}(h:leads t 5 f=true):leads t 4 f=true:=by
  cases h4:leads t 4 f
  case true=>rfl
  have key:∀n j,leads t (n+1) j=true->leads t n j=false->(j=0/\n=0)\/(j ≠ 0/\ei t j=true/\leads t n (up t j)=true/\∀m,n=m+1->leads t m (up t j)=false):=fun n j a b=>by
    by_cases hj:j=0
    · cases n with
      | zero=>exact .inl ⟨hj,rfl⟩
      | succ m=>unfold leads at b;rw[hj]at b;simp at b
    · obtain⟨c1,c2⟩:=sy a hj;refine .inr ⟨hj,c1,c2,fun m e=>?_⟩;subst e;unfold leads at b;rw[c1]at b;simp only[Bool.or_eq_false_iff,RC]at b;exact b.2
  have r:∀j,ei t j=true->j ≠ 0->1<=j/\j<=4/\j ≠ k:=fun j hl hj=>by
    obtain⟨a,b,c⟩:=vp hl;refine⟨by omega,b,fun e=>?_⟩;rw[e,hk]at c;cases c
  have hk0:k ≠ 0:=fun e=>by rw[e,h0]at hk;cases hk
  rcases key 4 f h h4 with⟨_,q⟩|⟨n0,l0,a0,b0⟩
  · cases q
  rcases key 3 _ a0 (b0 3 rfl)with⟨_,q⟩|⟨n1,l1,a1,b1⟩
  · cases q
  rcases key 2 _ a1 (b1 2 rfl)with⟨_,q⟩|⟨n2,l2,a2,b2⟩
  · cases q
  rcases key 1 _ a2 (b2 1 rfl)with⟨_,q⟩|⟨n3,l3,a3,b3⟩
  · cases q
  have n4:up t (up t (up t (up t f)))=0:=by
    unfold leads at a3;simpa[leads]using a3
  have r0:=r _ l0 n0;have r1:=r _ l1 n1;have r2:=r _ l2 n2;have r3:=r _ l3 n3
  have e01:f ≠ up t f:=fun e=>by rw[<- e, <- e, <- e, <- e]at n4;exact n0 n4
  have e12:up t f ≠ up t (up t f):=fun e=>by rw[<- e, <- e, <- e]at n4;exact n1 n4
  have e23:up t (up t f) ≠ up t (up t (up t f)):=fun e=>by rw[<- e, <- e]at n4;exact n2 n4
  have e02:f ≠ up t (up t f):=fun e=>by rw[<- e, <- e]at n4;exact n0 n4
  have e13:up t f ≠ up t (up t (up t f)):=fun e=>by rw[<- e]at n4;exact n2 n4
  have e03:f ≠ up t (up t (up t f)):=fun e=>by rw[<- e]at n4;exact n1 n4
  generalize up t (up t (up t f))=d at *;generalize up t (up t f)=c at *;generalize up t f=b at *;omega
theorem Bd:∀(l:List Bool) (j k:Nat),tF j l=some k->j<=k/\l[k-j]?=some false
  | [],j,k,h=>by simp[tF]at h
  | b::l,j,k,h=>by
    unfold tF at h;cases b
    · simp only[Bool.false_eq_true,if_false,Option.some.injEq]at h;subst h;simp
    · simp only[if_true]at h;obtain⟨a,c⟩:=Bd l (j+1) k h;refine⟨by omega,?_⟩;rw[show k-j=(k-(j+1))+1 by omega,List.getElem?_cons_succ];exact c
theorem O8{t:List dk}{f:Int}{a:de}(j:Int)(h:(eF t f a).2=true)(h0:0<=j):(nth (eF t f a).1 j).Rq=(nth t j).Rq/\(nth (eF t f a).1 j).Rr=(nth t j).Rr:=by
  obtain⟨h1,h2⟩:=tU h;have hT:=fI.1 h1;obtain⟨f0,f4⟩:=hO h2;have hl:=hT.len;unfold eF;split
  · split
    · exact ug f0 (by omega) _ h0
    · exact⟨rfl,rfl⟩
  · exact⟨rfl,rfl⟩
theorem Ic{t:List dk}{f:Int}{a:de}(h:(iG t f a).2.2=true):TK t (iG t f a).1:=by
  unfold iG at h⊢;cases hp:(eF t f a).2
  case false=>rw[hp]at h;simp at h
  rw[hp]at h;simp only[if_true]at h⊢
  cases hf:tF 0 (t.map dk.Rq)with
  | none=>rw[hf]at h;simp at h
  | some k =>
    simp only;obtain⟨tOk,lf⟩:=tU hp;have hT:=fI.1 tOk;obtain⟨hu,ha,hg⟩:=ub hp;have hpl:=Fs t f a;have hup:=fun j=>O8 (t:=t) (f:=f) (a:=a) j hp;generalize (eF t f a).1=u at *;obtain⟨_,hk⟩:=Bd _ _ _ hf;rw[Nat.sub_zero, <- hpl,List.getElem?_map]at hk;obtain⟨r,hr,hrl⟩:=Option.map_eq_some_iff.1 hk;have hl:=hu.len;have hk5:k<u.length:=eJ hr;have hz:=hu.dead r (List.mem_of_getElem? hr) hrl;have hnk:nth u (k:Int)=r:=nK hr
    have n0:k ≠ 0:=fun e=>by
      subst e;have:=hu.pM;rw[show(0:Int)=((0:Nat):Int) from rfl,hnk,hrl]at this;cases this
    have hn:∀j:Int,0<=j->nth (u.set k (dk.mk true f a)) j=if(k:Int)=j then dk.mk true f a else nth u j:=fun j hj=>by
      have:=xl (t:=u) (i:=(k:Int)) (z:=dk.mk true f a) (by omega) (by omega) hj
      rwa[Int.toNat_natCast]at this
    have hts:∀g:de->Int,eM g (u.set k (dk.mk true f a))=eM g u+g a:=fun g=>by
      rw[xk g u k r _ hr]
      have e1:oD g r=0:=by unfold oD;rw[hrl];rfl
      have e2:oD g (dk.mk true f a)=g a:=rfl;rw[e1,e2];omega
    have lst:∀(n:Nat) (j:Int),leads u n j=true->leads (u.set k (dk.mk true f a)) n j=true:=by
      intro n
      induction n with
      | zero=>intro j hj;simp[leads]at hj
      | succ n ih =>
        intro j hj
        by_cases j0:j=0
        · unfold leads;rw[j0];rfl
        · obtain⟨c1,c2⟩:=sy hj j0;obtain⟨d0,d4,d5⟩:=vp c1
          have hne:(k:Int) ≠ j:=fun e=>by rw[<- e,hnk,hrl]at d5;cases d5
          have e1:nth (u.set k (dk.mk true f a)) j=nth u j:=by rw[hn j d0,if_neg hne]
          have e2:up (u.set k (dk.mk true f a)) j=up u j:=by unfold up;rw[e1]
          have e3:ei (u.set k (dk.mk true f a)) j=true:=by unfold ei at c1⊢;rw[e1];exact c1
          unfold leads;rw[e2,e3,ih _ c2];simp
    obtain⟨f0,f4,fl⟩:=vp lf
    have ful:(nth u f).Rq=true:=by rw[(hup f f0).1];exact fl
    have fu5:leads u 5 f=true:=by
      have:=hu.lead f.toNat _ (fM (l:=u) f0 (by omega)) ful
      rwa[Int.toNat_of_nonneg f0]at this
    have fu4:=I7 (t:=u) (k:=(k:Int)) (by omega) (by omega) (by rw[hnk];exact hrl) hu.pM fu5;refine MY hT (by rw[List.length_set];exact hl) ?_ ?_ ?_ ?_ ?_ ?_ ?_ ?_
    · rw[hn 0 (by omega),if_neg (by omega)];exact hu.pM
    · rw[hn 0 (by omega),if_neg (by omega)];exact hu.BB
    · intro x hx hd
      rcases List.mem_or_eq_of_mem_set hx with q|q
      · exact hu.dead x q hd
      · rw[q]at hd;cases hd
    · intro x hx
      rcases List.mem_or_eq_of_mem_set hx with q|q
      · exact hu.dQ x q
      · rw[q];exact ha
    · intro j x hx hxl
      by_cases e:k=j
      · subst e;have e1:=hn (k:Int) (by omega);rw[if_pos rfl]at e1;unfold leads;rw[show up (u.set k (dk.mk true f a)) (k:Int)=f from by unfold up;rw[e1],lst 4 f fu4,show ei (u.set k (dk.mk true f a)) (k:Int)=true from by unfold ei;rw[e1,dM.2 ⟨by omega,by omega⟩];rfl];simp
      · rw[List.getElem?_set_ne e]at hx;exact lst 5 _ (hu.lead j x hx hxl)
    · rw[hts,hg de.cd fun _ _=>rfl];omega
    · rw[hts,hg de.dg fun _ _=>rfl];omega
    · rw[hts,hg de.du fun _ _=>rfl];omega
theorem JR{t:List dk}{f g:Int}{a:de}(h:(jo t f g a).2=true):TK t (jo t f g a).1:=by
  unfold jo at h⊢;cases hp:(eF t f a).2&&ei t g
  case false=>rw[hp]at h;simp at h
  simp only[if_true];rw[RD]at hp;obtain⟨tOk,lf⟩:=tU hp.1;have hT:=fI.1 tOk;obtain⟨hu,ha,hg⟩:=ub hp.1;have g1:=hg de.cd fun _ _=>rfl;have g2:=hg de.dg fun _ _=>rfl;have g3:=hg de.du fun _ _=>rfl;obtain⟨t1,t2,t3⟩:=hT.eM;have hS:=eN.1 hT.sum;obtain⟨_,b2,b3,b4,b5⟩:=x6 hu g ha (by omega) (by omega) (by omega);exact⟨b2,by omega,by omega,by omega⟩
theorem G9{g:de->Int}{f:dk->dk}(h:∀r,(f r).Rq=r.Rq/\(f r).dQ=r.dQ):∀t:List dk,eM g (t.map f)=eM g t
  | []=>rfl
  | r::t=>by
    show(if(f r).Rq then g (f r).dQ else 0)+eM g (t.map f)=(if r.Rq then g r.dQ else 0)+eM g t
    rw[(h r).1,(h r).2,G9 h t]
theorem DI(i u:Int)(r:dk):(jK i u r).Rq=r.Rq/\(jK i u r).dQ=r.dQ:=by
  unfold jK;split<;>exact⟨rfl,rfl⟩
theorem JS{t:List dk}{i:Int}(h:(jm t i).2=true):TK t (jm t i).1:=by
  unfold jm at h⊢;cases hc:(fF t&&ei t i)&&(i != 0)
  case false=>rw[hc]at h;simp at h
  simp only[if_true];simp only[RD,bne_iff_ne]at hc;obtain⟨⟨tOk,li⟩,i0⟩:=hc;have hT:=fI.1 tOk;have hl:=hT.len;obtain⟨a0,a4,al⟩:=vp li
  have lead5:leads t 5 i=true:=by
    have:=hT.lead i.toNat _ (fM (l:=t) a0 (by omega)) al
    rwa[Int.toNat_of_nonneg a0]at this
  have hne:up t i ≠ i:=fun e=>by rw[AR i0 e 5]at lead5;cases lead5
  have lu:ei t (up t i)=true:=by
    by_cases e:up t i=0
    · rw[e];unfold ei;rw[hT.pM];rfl
    · exact(sy (sy lead5 i0).2 e).1
  obtain⟨u0,u4,ul⟩:=vp lu;have hfit:=Hj hT ⟨u0,u4⟩ ⟨a0,a4⟩ hne ul al
  have hW:dT (dY (nth t (up t i)).dQ (nth t i).dQ)=true:=by
    unfold ga at hfit;split at hfit
    · rename_i q;simp only[RD]at q;exact q.2
    · simp at hfit
  unfold dropped;generalize hu:up t i=u at *;generalize hw:jL (nth t u) (dY (nth t u).dQ (nth t i).dQ)=W
  have Wl:W.Rq=true:=by rw[<- hw];exact ul
  have Wp:W.Rr=(nth t u).Rr:=by rw[<- hw];rfl
  have Wb:W.dQ=dY (nth t u).dQ (nth t i).dQ:=by rw[<- hw];rfl
  have hn:∀j:Int,0<=j->j<=4->nth (((t.set u.toNat W).set i.toNat kA).map (jK i u)) j=jK i u (if i=j then kA else if u=j then W else nth t j):=fun j j0 j4=>by
    have e1:=xl (t:=t.set u.toNat W) (i:=i) (z:=kA) a0 (by rw[List.length_set];omega) j0;have e2:=xl (t:=t) (i:=u) (z:=W) u0 (by omega) j0;rw[e2]at e1;rw[<- e1]
    have hlen:j<((((t.set u.toNat W).set i.toNat kA)).length:Int):=by simp only[List.length_set];omega
    have g:=fM (l:=(t.set u.toNat W).set i.toNat kA) j0 hlen
    have:(((t.set u.toNat W).set i.toNat kA).map (jK i u))[j.toNat]?=some (jK i u (nth ((t.set u.toNat W).set i.toNat kA) j)):=by rw[List.getElem?_map,g];rfl
    have:=nK this
    rwa[Int.toNat_of_nonneg j0]at this
  generalize hTT:((t.set u.toNat W).set i.toNat kA).map (jK i u)=T at *
  have hTl:T.length=5:=by rw[<- hTT];simp only[List.length_map,List.length_set];exact hl
  have hni:nth T i=kA:=by rw[hn i a0 a4,if_pos rfl];unfold jK kA;rfl
  have hnl:∀j:Int,0<=j->j<=4->i ≠ j->(nth T j).Rq=(nth t j).Rq:=fun j j0 j4 e=>by
    rw[hn j j0 j4,if_neg e,(DI i u _).1];split
    · rename_i q;subst q;rw[Wl,ul]
    · rfl
  have hnp:∀j:Int,0<=j->j<=4->i ≠ j->(nth t j).Rq=true->(nth T j).Rr=if(nth t j).Rr=i then u else(nth t j).Rr:=fun j j0 j4 e hv=>by
    rw[hn j j0 j4,if_neg e]
    have key:∀x:dk,x.Rq=true->(jK i u x).Rr=if x.Rr=i then u else x.Rr:=fun x hx=>by
      unfold jK
      by_cases q:x.Rr=i
      · rw[if_pos q,hx,if_pos (by simpa using q)]
      · rw[if_neg q,hx,if_neg (by simpa using q)]
    split
    · rename_i q;subst q;rw[key W Wl,Wp]
    · exact key _ hv
  have lst:∀(n:Nat) (j:Int),j ≠ i->leads t n j=true->leads T n j=true:=by
    intro n
    induction n using Nat.strongRecOn with
    | _ n ih =>
      intro j hj hL
      cases n with
      | zero=>simp[leads]at hL
      | succ n =>
        by_cases j0:j=0
        · unfold leads;rw[j0];rfl
        obtain⟨c1,c2⟩:=sy hL j0;obtain⟨d0,d4,d5⟩:=vp c1
        have e3:ei T j=true:=by unfold ei;rw[hnl j d0 d4 (Ne.symm hj),d5,dM.2 ⟨d0,d4⟩];rfl
        have e2:=hnp j d0 d4 (Ne.symm hj) d5
        have goal:leads T n (nth T j).Rr=true:=by
          by_cases q:(nth t j).Rr=i
          · rw[e2,if_pos q]
            have c3:leads t n i=true:=by rw[<- q];exact c2
            cases n with
            | zero=>simp[leads]at c3
            | succ m =>
              have c4:=(sy c3 i0).2;rw[hu]at c4;exact AH m u (ih m (by omega) u hne c4)
          · rw[e2,if_neg q];exact ih n (by omega) _ q c2
        unfold leads;rw[e3,show up T j=(nth T j).Rr from rfl,goal];simp
  have hidx:∀(k:Nat) (x:dk),T[k]?=some x->k<5/\x=nth T (k:Int):=fun k x hx=>⟨by have:=eJ hx;omega,(nK hx).symm⟩;have hgu:=fM (l:=t) u0 (by omega)
  have hgi:(t.set u.toNat W)[i.toNat]?=some (nth t i):=by rw[List.getElem?_set_ne (by omega)];exact fM a0 (by omega)
  have hts:∀g:de->Int,g W.dQ=g (nth t u).dQ+g (nth t i).dQ->eM g T=eM g t:=fun g hg=>by
    rw[<- hTT,G9 (DI i u),xk g _ _ _ _ hgi,xk g _ _ _ _ hgu];have e1:oD g (nth t u)=g (nth t u).dQ:=if_pos ul;have e2:oD g (nth t i)=g (nth t i).dQ:=if_pos al;have e3:oD g W=g W.dQ:=if_pos Wl;have e4:oD g kA=0:=rfl;rw[e1,e2,e3,e4,hg];omega
  have bu:=eN.1 (hT.dQ _ (gJ u0 (by omega)));have bi:=eN.1 (hT.dQ _ (gJ a0 (by omega)));refine MY hT hTl ?_ ?_ ?_ ?_ ?_ ?_ ?_ ?_
  · rw[hnl 0 (by omega) (by omega) i0];exact hT.pM
  · rw[hnp 0 (by omega) (by omega) i0 hT.pM,hT.BB,if_neg (by omega)]
  · intro x hx hd;obtain⟨k,hk⟩:=List.getElem?_of_mem hx;obtain⟨k5,e⟩:=hidx k x hk;rw[e]at hd⊢
    by_cases q:i=(k:Int)
    · rw[<- q,hni]
    · have hd':=hd;rw[hnl _ (by omega) (by omega) q]at hd';have hz:=hT.dead _ (gJ (l:=t) (i:=(k:Int)) (by omega) (by omega)) hd';rw[hn _ (by omega) (by omega),if_neg q,if_neg (fun e=>by rw[<- e,ul]at hd';cases hd'),hz];rfl
  · intro x hx;obtain⟨k,hk⟩:=List.getElem?_of_mem hx;obtain⟨k5,e⟩:=hidx k x hk;rw[e,hn _ (by omega) (by omega),(DI i u _).2];split
    · exact E9
    · split
      · rw[Wb];exact hW
      · exact hT.dQ _ (gJ (by omega) (by omega))
  · intro k x hk hxl;obtain⟨k5,e⟩:=hidx k x hk;rw[e]at hxl
    have q:(k:Int) ≠ i:=fun q=>by rw[q,hni]at hxl;cases hxl
    rw[hnl _ (by omega) (by omega) (Ne.symm q)]at hxl;exact lst 5 _ q (hT.lead k _ (fM (l:=t) (i:=(k:Int)) (by omega) (by omega)) hxl)
  · refine hts _ ?_;rw[Wb];exact dF (by omega) (by omega)
  · refine hts _ ?_;rw[Wb];exact dF (by omega) (by omega)
  · refine hts _ ?_;rw[Wb];exact dF (by omega) (by omega)
structure Gd (p q:bh):Prop where
  ok:dI q=true
  sp:Kx.sp q=Kx.sp p
theorem Gd.self{p:bh}(h:dI p=true):Gd p p:=⟨h,rfl⟩
theorem jD{p:bh}(h:dI p=true):Hk p.heap:=by
  unfold dI at h;simp only[RD]at h;exact gG.1 h.2.2.2.1
theorem xe{p:bh}(h:dI p=true){H:df}(hH:Hk H)(hg:iA H.ag=iA p.heap.ag):Gd p (mD p H):=by
  have hA:=gG.2 hH;refine⟨?_,?_⟩
  · unfold dI at *;simp only[RD]at h⊢;obtain⟨a,b,c,d,e⟩:=h;exact⟨a,b,c,hA,e⟩
  · unfold Kx.sp
    show de.mk (_+iA H.ag+_) _ _=_
    rw[hg];rfl
theorem B3{p:bh}(h:dI p=true){t:List dk}(ht:TK p.Re t):Gd p (vF p t):=by
  have hA:=fI.2 ht.tr;refine⟨?_,?_⟩
  · unfold dI at *;simp only[RD]at h⊢;obtain⟨a,b,c,d⟩:=h;exact⟨a,b,hA,d⟩
  · unfold Kx.sp
    show de.mk (eM de.cd t+_+_) (eM de.dg t+_) (eM de.du t+_)=_
    rw[ht.pg,ht.rt,ht.cp];rfl
theorem HO{p:bh}(h:dI p=true){t:List eA}(h3:t.length<=3)(ht:∀x,x∈t->il x=true):Gd p (tY p t):=by
  refine⟨?_,rfl⟩;unfold dI at *;simp only[RD,List.all_eq_true]at h⊢;obtain⟨a,b,c,d,e,f,g⟩:=h;refine⟨a,b,c,d,?_,ht,g⟩
  show(!decide ((t.length:Int)>3))=true
  rw[decide_eq_false (by omega)];rfl
theorem HQ{p:bh}(h:dI p=true):p.dc.length<=3/\∀x,x∈p.dc->il x=true:=by
  unfold dI at h;simp only[RD,List.all_eq_true,Bool.not_eq_true',decide_eq_false_iff_not]at h;obtain⟨a,b,c,d,e,f,g⟩:=h;exact⟨by omega,f⟩
theorem Hk.ag{h:df}(q:Hk h){l:List c6}(hl:Ar l):Hk (df.mk l h.gc):=⟨hl,q.ph,q.rd,q.gr,q.nd⟩
theorem vE{l:List c6}{i:Int}(h0:0<=i)(h1:i<(l.length:Int)){z:c6}(e:z.cd=(nth l i).cd):iA (l.set i.toNat z)=iA l:=by
  rw[sG h0 h1];omega
theorem LD{h:df}(q:Hk h)(i:Int):Hk (mW h i)/\iA (mW h i).ag=iA h.ag:=by
  unfold mW;cases c:fR h&&dy i 0 9
  · exact⟨q,rfl⟩
  · rw[RD,dM]at c;exact⟨q.fN c.2.1 c.2.2,B7 q.ar c.2.1 c.2.2⟩
theorem CK{h:df}(q:Hk h)(x i:Int):Hk (iW h x i)/\iA (iW h x i).ag=iA h.ag:=by
  unfold iW;cases decide (x>=0)
  · exact⟨q,rfl⟩
  · exact LD q i
theorem Ar.bx{l:List c6}(h:Ar l){i:Int}(h0:0<=i)(h9:i<=9)(hk:(nth l i).so ≠ 0)(hb:0<=(nth l i).box):(nth l (nth l i).box).so ≠ 0:=by
  by_cases e:i=0
  · subst e;rw[h.yV]at hb;exact absurd hb (by decide)
  · have:=h.len;exact h.box i.toNat _ (fM h0 (by omega)) (by omega) hk hb
theorem Ar.O0{l:List c6}(h:Ar l){i:Int}(h0:0<=i)(h9:i<=9){z:c6}(hk:z.so=(nth l i).so)(hb:i=0->z.box=-1)(hb':z.so ≠ 0->0<=z.box->(nth l z.box).so ≠ 0)
    (hl:∀y,y∈z.dp->0<=y->(nth l y).so ≠ 0) (ht:i=0->z.dX=1000000) (ok:eG z=true):Ar (l.set i.toNat z):=by
  have h10:=h.len
  have hn:∀j,0<=j->nth (l.set i.toNat z) j=if i=j then z else nth l j:=fun j hj=>gM h0 (by omega) hj
  have hkind:∀j,0<=j->(nth (l.set i.toNat z) j).so=(nth l j).so:=fun j hj=>by
    rw[hn j hj];split
    · rename_i e;rw[<- e];exact hk
    · rfl
  refine⟨by rw[List.length_set];exact h10,by rw[hkind 0 (by omega)];exact h.sm,?_,?_,?_,?_,?_⟩
  · rw[hn 0 (by omega)];split
    · rename_i e;exact hb e
    · exact h.yV
  · rw[hn 0 (by omega)];split
    · rename_i e;exact ht e
    · exact h.yJ
  · intro o ho
    rcases List.mem_or_eq_of_mem_set ho with q|rfl
    · exact h.ok o q
    · exact ok
  · intro o ho y hy y0;rw[hkind y y0]
    rcases List.mem_or_eq_of_mem_set ho with q|rfl
    · exact h.dp o q y hy y0
    · exact hl y hy y0
  · intro k o hko k0 hne b0;rw[hkind o.box b0]
    by_cases e:k=i.toNat
    · subst e;rw[List.getElem?_set_self (by omega)]at hko;have:z=o:=Option.some.inj hko;subst this;exact hb' hne b0
    · rw[List.getElem?_set_ne (Ne.symm e)]at hko;exact h.box k o hko k0 hne b0
theorem yE{o:c6}(h:o.so ≠ 0):(o.so==0)=false:=by simpa using h
theorem J7{l:List c6}{now me h k:Int}(q:eL l now me h k=0)(k0:k ≠ 0):(nth l (dt l now me h)).so=k:=(gO q).2.2.2.2 k0
theorem Ls{l:List c6}{now me h k:Int}(q:eL l now me h k=0):lC h=true:=by
  unfold eL at q;cases e:lC h
  · rw[e]at q;simp at q
  · rfl
theorem HC{p:bh}(hp:g7 p)(me now:Int)(c:dH):Gd p (j6 p me now c).2.2:=by
  unfold j6;cases q1:!dy c.b 0 1
  case true=>exact Gd.self hp.ok
  cases q2:eL p.heap.ag now me c.a 0 != 0
  case true=>exact Gd.self hp.ok
  cases q3:(c.so==2)&&(eL p.heap.ag now me c.c 0 != 0)
  case true=>exact Gd.self hp.ok
  simp only[Rz];obtain⟨ar,g0,g9,gk,_⟩:=gO (fq q2)
  have hx:∀x,x=(bif c.so==2 then dt p.heap.ag now me c.c else -1)->x=-1\/(0<=x/\x<=9/\(nth p.heap.ag x).so ≠ 0):=fun x e=>by
    cases k2:c.so==2
    · rw[k2]at e;exact .inl e
    · rw[k2]at e q3;have:=gO (fq (by simpa using q3));rw[e];exact .inr ⟨this.2.1,this.2.2.1,this.2.2.2.1⟩
  have hx:=hx _ rfl;generalize (bif c.so==2 then dt p.heap.ag now me c.c else -1)=x at *;generalize dt p.heap.ag now me c.a=i at *;have hi:=ar.at g0 g9;have hl:=ar.len;have ho:=ar.ok _ hi.2;have hk:=yE gk;have hL:=lj ho hk;have hb:=kh ho (yd hk)
  have okz:eG (linked (nth p.heap.ag i) c.b x)=true:=by
    refine ng ho hk rfl rfl hb.1 rfl hb.2.2.1 rfl ?_ rfl rfl rfl;unfold ji at hL⊢;simp only[RD,List.all_eq_true]at hL⊢;refine⟨fun y hy=>?_,hL.2.1,hL.2.2.1,?_,hL.2.2.2.2⟩
    · rcases List.mem_or_eq_of_mem_set hy with q|q
      · exact hL.1 y q
      · rw[q,dM];omega
    · show(((List.set _ _ _).length:Int)==2)=true
      rw[List.length_set];exact hL.2.2.2.1
  have arz:Ar (p.heap.ag.set i.toNat (linked (nth p.heap.ag i) c.b x)):=by
    refine ar.O0 g0 g9 rfl (fun e=>by rw[e];exact ar.yV) (fun _ b=>ar.bx g0 g9 gk b) (fun y hy y0=>?_) (fun e=>by rw[e];exact ar.yJ) okz
    rcases List.mem_or_eq_of_mem_set hy with q|q
    · exact ar.dp _ hi.2 y q y0
    · subst q
      rcases hx with q|q
      · omega
      · exact q.2.2
  obtain⟨s1,s2⟩:=CK ((jD hp.ok).ag arz) x x;exact xe hp.ok s1 (s2.trans (vE g0 (by omega) rfl))
theorem HZ{p:bh}(hp:g7 p)(me now:Int)(c:dH):Gd p (jM p me now c).2.2:=by
  unfold jM;cases q2:eL p.heap.ag now me c.a 0 != 0
  case true=>exact Gd.self hp.ok
  cases q1:dt p.heap.ag now me c.a==0
  case true=>exact Gd.self hp.ok
  cases q3:(c.so==4)&&(eL p.heap.ag now me c.b 1 != 0)
  case true=>exact Gd.self hp.ok
  simp only[Rz];obtain⟨ar,g0,g9,gk,_⟩:=gO (fq q2)
  have hx:∀x,x=(bif c.so==4 then dt p.heap.ag now me c.b else -1)->x=-1\/(0<=x/\x<=9/\(nth p.heap.ag x).so ≠ 0):=fun x e=>by
    cases k2:c.so==4
    · rw[k2]at e;exact .inl e
    · rw[k2]at e q3;have:=gO (fq (by simpa using q3));rw[e];exact .inr ⟨this.2.1,this.2.2.1,this.2.2.2.1⟩
  have hx:=hx _ rfl;generalize (bif c.so==4 then dt p.heap.ag now me c.b else -1)=x at *;generalize dt p.heap.ag now me c.a=i at *
  have hi0:i ≠ 0:=by simpa using q1
  have hi:=ar.at g0 g9;have hl:=ar.len;have ho:=ar.ok _ hi.2;have hk:=yE gk;have hL:=lj ho hk;have hb:=kh ho (yd hk)
  have okz:eG (boxed (nth p.heap.ag i) x)=true:=by
    refine ng ho hk rfl rfl ?_ rfl hb.2.2.1 rfl hL rfl rfl rfl
    show dy x (-1) 9=true
    rw[dM];omega
  have arz:Ar (p.heap.ag.set i.toNat (boxed (nth p.heap.ag i) x)):=by
    refine ar.O0 g0 g9 rfl (fun e=>absurd e hi0) (fun _ b=>?_) (fun y hy y0=>ar.dp _ hi.2 y hy y0) (fun e=>absurd e hi0) okz;have b:0<=x:=b
    rcases hx with q|q
    · omega
    · exact q.2.2
  obtain⟨s1,s2⟩:=CK ((jD hp.ok).ag arz) x i;exact xe hp.ok s1 (s2.trans (vE g0 (by omega) rfl))
theorem Bt{p:bh}(h:dI p=true){i:Int}(g0:0<=i)(g9:i<=9){z:c6}(hk:z.so=(nth p.heap.ag i).so)(hb:z.box=(nth p.heap.ag i).box)(hl:z.dp=(nth p.heap.ag i).dp)(ht:i=0->z.dX=(nth p.heap.ag i).dX)
    (hg:z.cd=(nth p.heap.ag i).cd) (ok:eG z=true):Gd p (jz p (p.heap.ag.set i.toNat z)):=by
  have ar:=fe h;have hlen:=ar.len;exact xe h ((jD h).ag (ar.swap g0 g9 hk hb hl ht ok)) (vE g0 (by omega) hg)
theorem Hq{p:bh}(hp:g7 p)(me now:Int)(c:dH):Gd p (eZ p me now c).2.2:=by
  unfold eZ;cases q2:eL p.heap.ag now me c.a 2 != 0
  case true=>exact Gd.self hp.ok
  cases q1:!dy c.b 0 (((nth p.heap.ag (dt p.heap.ag now me c.a)).Ri.length:Int)-1)
  case true=>exact Gd.self hp.ok
  cases c.so==7
  case true=>exact Gd.self hp.ok
  cases q3:!dy c.c 0 999
  case true=>exact Gd.self hp.ok
  simp only[Rz];obtain⟨ar,g0,g9,gk,_⟩:=gO (fq q2);generalize dt p.heap.ag now me c.a=i at *;have ho:=ar.ok _ (ar.at g0 g9).2;have hk:=yE gk;have hL:=lj ho hk;have hb:=kh ho (yd hk);refine Bt hp.ok g0 g9 rfl rfl rfl (fun _=>rfl) rfl (ng ho hk rfl rfl hb.1 rfl hb.2.2.1 rfl ?_ rfl rfl rfl);unfold ji at hL⊢;simp only[RD,List.all_eq_true]at hL⊢;refine⟨hL.1,fun y hy=>?_,hL.2.2.1,hL.2.2.2.1,?_,hL.2.2.2.2.2⟩
  · rcases List.mem_or_eq_of_mem_set hy with q|q
    · exact hL.2.1 y q
    · rw[q];simpa using q3
  · show(((List.set _ _ _).length:Int)==_)=true
    rw[List.length_set];exact hL.2.2.2.2.1
theorem K9{a b:de}(h:(ga a b).2=true):(ga a b).1=⟨a.cd+b.cd,a.dg+b.dg,a.du+b.du⟩/\dT (ga a b).1=true/\dT b=true:=by
  unfold ga at h⊢;cases q:dT a&&dT b&&dT (dY a b)
  · rw[q]at h;simp at h
  · simp only[if_true];simp only[RD]at q;have a1:=eN.1 q.1.1;have b1:=eN.1 q.1.2;refine⟨?_,q.2,q.1.2⟩;unfold dY;rw[dF (by omega) (by omega),dF (by omega) (by omega),dF (by omega) (by omega)]
theorem HK{p:bh}(h:dI p=true){f:Int}{a:de}(hc:ju p f a=true):dI (oe p f a)=true/\eM de.cd (oe p f a).Re=eM de.cd p.Re-a.cd /\
    (oe p f a).db.cd=p.db.cd/\eM de.dg (oe p f a).Re+(oe p f a).db.dg=eM de.dg p.Re+p.db.dg/\eM de.du (oe p f a).Re+(oe p f a).db.du=eM de.du p.Re-a.du+p.db.du:=by
  unfold ju at hc;rw[RD]at hc;obtain⟨hT,ha,hg⟩:=ub hc.1;obtain⟨e,s1,s2⟩:=K9 hc.2;have g1:=hg de.cd fun _ _=>rfl;have g2:=hg de.dg fun _ _=>rfl;have g3:=hg de.du fun _ _=>rfl;have hA:=fI.2 hT;refine⟨?_,g1,?_,?_,?_⟩
  · unfold dI og at *;simp only[RD]at h⊢;obtain⟨a,b,c,d,e,f,g1,g2,g3,g4⟩:=h;exact⟨a,b,hA,d,e,f,g1,g2,s1,g4⟩
  · show(ga p.db (de.mk 0 a.dg 0)).1.cd=_
    rw[e];exact Int.add_zero _
  · show eM de.dg (eF p.Re f a).1+(ga p.db (de.mk 0 a.dg 0)).1.dg=_
    rw[e,g2];dsimp only;omega
  · show eM de.du (eF p.Re f a).1+(ga p.db (de.mk 0 a.dg 0)).1.du=_
    rw[e,g3];dsimp only;omega
theorem MB{p q:bh}(h1:eM de.cd q.Re+iA q.heap.ag+q.db.cd=eM de.cd p.Re+iA p.heap.ag+p.db.cd)(h2:eM de.dg q.Re+q.db.dg=eM de.dg p.Re+p.db.dg)(h3:eM de.du q.Re+q.db.du=eM de.du p.Re+p.db.du):sp q=sp p:=by
  unfold sp;rw[h1,h2,h3]
theorem EU{p:bh}(hp:g7 p)(me now:Int)(c:dH):Gd p (ij p me now c).2.2:=by
  unfold ij;cases q2:eL p.heap.ag now me c.a 0 != 0
  case true=>exact Gd.self hp.ok
  cases q1:(dt p.heap.ag now me c.a==0) || (!dy c.b 1 1000 || decide (i64.wrap ((nth p.heap.ag (dt p.heap.ag now me c.a)).dX+c.b)>1000000))
  case true=>exact Gd.self hp.ok
  cases q3:!ju p (iw p (nth p.heap.ag (dt p.heap.ag now me c.a)).Rt) (de.mk 0 (i64.wrap ((nth p.heap.ag (dt p.heap.ag now me c.a)).cd*c.b)) 0)
  case true=>exact Gd.self hp.ok
  simp only[Rz];obtain⟨ar,g0,g9,gk,_⟩:=gO (fq q2)
  have q3:ju p (iw p (nth p.heap.ag (dt p.heap.ag now me c.a)).Rt) (de.mk 0 (i64.wrap ((nth p.heap.ag (dt p.heap.ag now me c.a)).cd*c.b)) 0)=true:=by simpa using q3
  generalize dt p.heap.ag now me c.a=i at *;simp only[Bool.or_eq_false_iff,Bool.not_eq_false',dM,decide_eq_false_iff_not,beq_eq_false_iff_ne]at q1;obtain⟨i0,b1,t1⟩:=q1;have ho:=ar.ok _ (ar.at g0 g9).2;have hl:=ar.len;have hk:=yE gk;have hb:=kh ho (yd hk);have ht:=dM.1 hb.2.2.1;obtain⟨p1,p2,p3,p4,p5⟩:=HK hp.ok q3
  have g:=Bt (i:=i) (z:=kP (nth p.heap.ag i) (i64.wrap ((nth p.heap.ag i).dX+c.b))) p1 g0 g9 rfl rfl rfl (fun e=>absurd e i0) rfl (by
    refine ng ho hk rfl rfl hb.1 rfl ?_ rfl (show ji (nth p.heap.ag i)=true from lj ho hk) rfl rfl rfl;rw[dF (by omega) (by omega)]at t1⊢
    show dy ((nth p.heap.ag i).dX+c.b) 0 1000000=true
    rw[dM];omega)
  refine⟨g.ok,g.sp.trans (MB ?_ p4 ?_)⟩
  · rw[p2,p3,Cs];dsimp only;omega
  · rw[p5];dsimp only;omega
theorem Po{p:bh}(hp:g7 p)(c:dH):Gd p (kn p c).2.2:=by
  unfold kn;cases c.so==9
  · cases c.so==10
    · cases q:!(jm p.Re c.a).2
      · exact B3 hp.ok (JS (by simpa using q))
      · exact Gd.self hp.ok
    · cases !dy c.a 0 4 || (!dy c.b 0 4 || (!dy c.c 0 2 || !uJ c.d))
      case true=>exact Gd.self hp.ok
      cases q:!(jo p.Re c.a c.b (iB c.c c.d)).2
      · exact B3 hp.ok (JR (by simpa using q))
      · exact Gd.self hp.ok
  · cases !dy c.a 0 4 || !dT (de.mk c.b c.c c.d)
    case true=>exact Gd.self hp.ok
    cases q:!(iG p.Re c.a (de.mk c.b c.c c.d)).2.2
    · exact B3 hp.ok (Ic (by simpa using q))
    · exact Gd.self hp.ok
theorem Eh{l:List c6}{o:c6}:∀(m:List c6) (k:Nat),l.drop k=m->(qM l o k m).2<0\/∃(j:Nat) (x:c6),k<=j/\l[j]?=some x/\x.so=0/\x.Rs<999/\qM l o k m=(l.set j (gq o (i64.wrap (x.Rs+1))),(j:Int))/\gC (l.set j (gq o (i64.wrap (x.Rs+1))))=true
  | [],k,h=>.inl (by unfold qM;show(-1:Int)<0;decide)
  | x::m,k,h=>by
    have hx:l[k]?=some x:=by
      have:=congrArg (fun q=>q[0]?) h;simpa using this
    have hm:l.drop (k+1)=m:=by
      rw[<- List.drop_drop,h];rfl
    unfold qM;split
    · rcases Eh m (k+1) hm with e|⟨j,y,a,b⟩
      · exact .inl e
      · exact .inr ⟨j,y,by omega,b⟩
    · rename_i c;simp only[Bool.or_eq_true,not_or,bne_iff_ne,ne_eq,Decidable.not_not,decide_eq_true_eq]at c;unfold putAt;split
      · rename_i q;rw[RD]at q;exact .inr ⟨k,x,Nat.le_refl _,hx,c.1,by omega,rfl,q.1⟩
      · exact .inl (show(-1:Int)<0 by decide)
theorem zW{l:List c6}{o:c6}(h:decide ((hD l o).2<0)=false):Ar l/\∃(j:Nat),1<=j/\j<10/\(nth l (j:Int)).so=0/\(nth l (j:Int)).Rs<999/\hD l o=(l.set j (gq o (i64.wrap ((nth l (j:Int)).Rs+1))),(j:Int))/\Ar (l.set j (gq o (i64.wrap ((nth l (j:Int)).Rs+1)))):=by
  have h:=of_decide_eq_false h;unfold hD at *;cases ha:gC l
  · rw[ha]at h;exact absurd (show(-1:Int)<0 by decide) h
  rw[ha]at h;simp only[if_true]at h⊢;have ar:=fO.1 ha
  rcases Eh (o:=o) (l.drop 1) 1 rfl with e|⟨j,x,a,b,c,d,e,f⟩
  · exact absurd e h
  · have hj:=eJ b;have hl:=ar.len;refine⟨ar,j,a,by omega,?_⟩;rw[nK b];exact⟨c,d,e,fO.1 f⟩
theorem GR{o:c6}(h:eG o=true)(hk:o.so=0):o.cd=0:=by
  rw[pC h (by simpa using hk)];rfl
theorem K0{h:df}(q:Hk h)(i:Int):Hk (jS h i)/\iA (jS h i).ag=iA h.ag:=by
  unfold jS;split
  · rename_i c;simp only[RD,dM,bne_iff_ne]at c;have hl:=q.ar.len;exact⟨q.ag (q.ar.mark c.2.1.1 c.2.1.2 _ fun _=>yE c.2.2),vE c.2.1.1 (by omega) rfl⟩
  · exact⟨q,rfl⟩
theorem GZ{p:bh}(hp:g7 p)(me now:Int)(c:dH)(h0:((jf p me now c).1==0)=true):Gd p (jf p me now c).2.2:=by
  unfold jf at h0⊢;cases q1:mR now c
  case true=>exact Gd.self hp.ok
  cases q2:eL p.heap.ag now me c.b 1 != 0
  case true=>exact Gd.self hp.ok
  cases q3:!ju p c.e (cost c)
  case true=>exact Gd.self hp.ok
  cases q4:decide ((hD p.heap.ag (newObj now (dt p.heap.ag now me c.b) c)).2<0)
  case true=>rw[q1,q2,q3,q4]at h0;cases h0
  simp only[Rz]
  have q3:ju p c.e (cost c)=true:=by simpa using q3
  obtain⟨p1,p2,p3,p4,p5⟩:=HK hp.ok q3;obtain⟨ar,j,j1,j9,jk,jg,e,arj⟩:=zW q4;have hl:=ar.len;rw[e];generalize dt p.heap.ag now me c.b=b at *;generalize i64.wrap ((nth p.heap.ag (j:Int)).Rs+1)=g at *;have hb:=uk q1;obtain⟨b1,b2⟩:=K0 ((jD hp.ok).ag arj) (j:Int);have pj:=GR (ar.ok _ (ar.at (i:=(j:Int)) (by omega) (by omega)).2) jk;have ps:=sG (l:=p.heap.ag) (i:=(j:Int)) (by omega) (by omega) (gq (newObj now b c) g);rw[Int.toNat_natCast]at ps;have pz:(gq (newObj now b c) g).cd=c.c:=rfl
  have key:iA (jS (df.mk (p.heap.ag.set j (gq (newObj now b c) g)) p.heap.gc) (j:Int)).ag=iA p.heap.ag+c.c:=by
    rw[b2]
    show iA (p.heap.ag.set j _)=_
    rw[ps,pj,pz];omega
  refine⟨?_,MB ?_ p4 ?_⟩
  · have hA:=gG.2 b1;unfold dI at *;simp only[RD]at p1⊢;obtain⟨a1,a2,a3,a4,a5⟩:=p1;exact⟨a1,a2,a3,hA,a5⟩
  · show eM de.cd (oe p c.e (cost c)).Re+iA (jS (df.mk (p.heap.ag.set j (gq (newObj now b c) g)) p.heap.gc) (j:Int)).ag+(oe p c.e (cost c)).db.cd=_
    rw[key,p2,p3]
    show _-c.c+_+_=_
    omega
  · show eM de.du (oe p c.e (cost c)).Re+(oe p c.e (cost c)).db.du=_
    rw[p5]
    show _-0+_=_
    omega
theorem yW{o z:c6}(h:eG o=true)(hk:o.so=4)(e1:z.Rs=o.Rs)(e2:z.so=o.so)(e8:z.box=o.box)(e3:z.Rt=o.Rt)(e9:z.dX=o.dX)(e4:z.cd=o.cd)(hl:ji z=ji o)
    (hw:(z.Rm==0 || dy (i64.wrap (z.Rm-1)) 0 29999)=true) (hg:dy z.ef (-1) 999=true) (e7:z.ee=o.ee):eG z=true:=by
  unfold eG at h⊢;rw[e1,e2,e3,e4,e7,e8,e9,hl,hk];rw[hk]at h;rw[show((4:Int)==0)=false from rfl,show((4:Int) != 4)=false from rfl]at h⊢;simp only[Rz,RD]at h⊢;obtain⟨a1,a2,a3,a4,a5,a6,a7,a8,a9,a10⟩:=h;exact⟨a1,a2,a3,a4,a5,a6,a7,hw,hg,a10⟩
theorem Me{o:c6}(h:eG o=true)(hw:o.Rm ≠ 0):o.so=4:=by
  cases hk:o.so==0
  · unfold eG at h;rw[hk]at h;simp only[Rz,RD]at h;obtain⟨a1,a2,a3,a4,a5,a6,a7,a8⟩:=h;cases h4:o.so != 4
    · simpa using h4
    · rw[h4]at a8;simp only[RA,RD,beq_iff_eq]at a8;exact absurd a8.1 hw
  · rw[pC h hk]at hw;exact absurd rfl hw
theorem Hg{o:c6}(h:eG o=true)(hk:o.so=4):dy o.ef (-1) 999=true/\(o.Rm==0 || dy (i64.wrap (o.Rm-1)) 0 29999)=true:=by
  unfold eG at h;rw[hk]at h;rw[show((4:Int)==0)=false from rfl,show((4:Int) != 4)=false from rfl]at h;simp only[Rz,RD]at h;obtain⟨a1,a2,a3,a4,a5,a6,a7,a8,a9,a10⟩:=h;exact⟨a9,a8⟩
theorem yk{o:c6}(h:eG o=true)(hk:o.so=3){q:List eS}(hq:q.length<=2)(hm:∀m,m∈q->sX m=true):eG (kR o q)=true:=by
  have hk0:(o.so==0)=false:=by rw[hk];rfl
  have hL:=lj h hk0;have hb:=kh h (yd hk0);refine ng h hk0 rfl rfl hb.1 rfl hb.2.2.1 rfl ?_ rfl rfl rfl;unfold ji at hL⊢;simp only[RD,List.all_eq_true]at hL⊢;refine⟨hL.1,hL.2.1,hm,hL.2.2.2.1,hL.2.2.2.2.1,?_⟩
  show decide ((q.length:Int)<=(bif o.so==3 then 2 else 0))=true
  rw[hk];exact decide_eq_true (by show(q.length:Int)<=2;omega)
theorem Fy{o:c6}(h:eG o=true)(hk:o.so=3):o.Rf.length<=2/\∀m,m∈o.Rf->sX m=true:=by
  have hk0:(o.so==0)=false:=by rw[hk];rfl
  have hL:=lj h hk0;unfold ji at hL;simp only[RD,List.all_eq_true,decide_eq_true_eq]at hL;have h2:=hL.2.2.2.2.2;rw[hk]at h2;have h2:(o.Rf.length:Int)<=2:=h2;exact⟨by omega,hL.2.2.1⟩
theorem DE(p i g:Int):kW p i g=-1\/(0<=kW p i g/\kW p i g<=29999):=by
  unfold kW;split
  · rename_i h;simp only[RD,dM]at h;right;rw[dF (n:=g*10) (by omega) (by omega),dF (n:=g*10+i) (by omega) (by omega),dF (n:=(g*10+i)*3) (by omega) (by omega),dF (by omega) (by omega)];omega
  · exact .inl rfl
theorem J4{s n:Int}(hs:s=-1\/(0<=s/\s<=29999))(hn:dy n 0 999=true):sX ⟨s,n⟩=true:=by
  unfold sX;simp only[hn,RB,Bool.or_false]
  rcases hs with e|e
  · subst e;rfl
  · rw[dM.2 e];cases s != -1<;>rfl
theorem w9{l:List c6}(ar:Ar l){i:Int}(h0:0<=i)(h9:i<=9){z:c6}(hk:z.so=(nth l i).so)(hb:z.box=(nth l i).box)(hl:z.dp=(nth l i).dp)(ht:z.dX=(nth l i).dX)(hg:z.cd=(nth l i).cd)(ok:eG z=true):
    Ar (l.set i.toNat z)/\iA (l.set i.toNat z)=iA l:=⟨ar.swap h0 h9 hk hb hl (fun _=>ht) ok,vE h0 (by have:=ar.len;omega) hg⟩
theorem LG{l:List c6}(ar:Ar l){k w b:Int}(hk:k<=9)(hw:w ≠ 0)(hb:dy b 0 999=true):Ar (sY l k w b)/\iA (sY l k w b)=iA l:=by
  unfold sY;cases q:decide (k>=0)&&((nth l k).Rm==w)
  · exact⟨ar,rfl⟩
  simp only[RD,decide_eq_true_eq,beq_iff_eq]at q;simp only[RA];have k0:0<=k:=q.1;have hl:=ar.len;have ok:=ar.ok _ (ar.at k0 hk).2;have k4:=Me ok (by rw[q.2];exact hw);obtain⟨g1,g2⟩:=Hg ok k4;have ok1:eG (waiting (nth l k) 0)=true:=yW ok k4 rfl rfl rfl rfl rfl rfl rfl rfl g1 rfl;obtain⟨a1,a2⟩:=w9 ar k0 hk (z:=waiting (nth l k) 0) rfl rfl rfl rfl rfl ok1
  have e:nth (l.set k.toNat (waiting (nth l k) 0)) k=waiting (nth l k) 0:=by rw[gM k0 (by omega) k0,if_pos rfl]
  obtain⟨b1,b2⟩:=w9 a1 k0 hk (z:=xQ (nth (l.set k.toNat (waiting (nth l k) 0)) k) b) rfl rfl rfl rfl rfl (by
    rw[e];have hb1:=dM.1 hb
    exact yW ok1 k4 rfl rfl rfl rfl rfl rfl rfl rfl (dM.2 ⟨by show(-1:Int)<=b;omega,by show b<=999;omega⟩) rfl)
  exact⟨b1,b2.trans a2⟩
theorem HN{p:bh}(hp:g7 p)(me now:Int){th:Int}(t0:0<=th)(t9:th<=9)(tk:(nth p.heap.ag th).so=4)(c:dH):Gd p (jc p me now th c).2.2:=by
  unfold jc;cases q2:eL p.heap.ag now me c.a 3 != 0
  case true=>exact Gd.self hp.ok
  obtain⟨ar,g0,g9,gk,_⟩:=gO (fq q2);have k3:=J7 (fq q2) (by decide);have ha:=zd.1 (Ls (fq q2));cases q1:!dy c.b 0 999
  case true=>exact Gd.self hp.ok
  have q1:dy c.b 0 999=true:=by simpa using q1
  simp only[Rz];generalize dt p.heap.ag now me c.a=i at *;have hl:=ar.len;have ok:=ar.ok _ (ar.at g0 g9).2;obtain⟨u1,u2⟩:=Fy ok k3;have hA:=jD hp.ok;cases c.so==12
  · cases q4:((nth p.heap.ag i).Rf.length:Int)==0
    case true=>exact Gd.self hp.ok
    simp only[Rz];obtain⟨a1,a2⟩:=w9 ar g0 g9 (z:=kR (nth p.heap.ag i) ((nth p.heap.ag i).Rf.drop 1)) rfl rfl rfl rfl rfl (yk ok k3 (by rw[List.length_drop];omega) fun m hm=>u2 m (List.mem_of_mem_drop hm))
    have hlen:(served p.heap.ag i).length=10:=by unfold served;rw[List.length_set];exact hl
    have hgl:=pc (l:=served p.heap.ag i) (now:=now) (me:=me) (h:=(nth (nth p.heap.ag i).Rf 0).Rx) hlen;generalize hgs:dt (served p.heap.ag i) now me (nth (nth p.heap.ag i).Rf 0).Rx=k at *;obtain⟨b1,b2⟩:=LG (l:=served p.heap.ag i) a1 (k:=k) (w:=i64.wrap (c.a+1)) (b:=c.b) (by omega) (by rw[dF (by omega) (by omega)];omega) q1;exact xe hp.ok (hA.ag b1) (b2.trans a2)
  · cases q4:decide (((nth p.heap.ag i).Rf.length:Int)>=2)
    case true=>exact Gd.self hp.ok
    have q4:=of_decide_eq_false q4;simp only[Rz]
    obtain⟨a1,a2⟩:=w9 ar g0 g9 (z:=kR (nth p.heap.ag i) ((nth p.heap.ag i).Rf++[eS.mk (kW me th (nth p.heap.ag th).Rs) c.b])) rfl rfl rfl rfl rfl (yk ok k3 (by simp only[List.length_append,List.length_cons,List.length_nil];omega) fun m hm=>by
      rcases List.mem_append.1 hm with e|e
      · exact u2 m e
      · rw[List.mem_singleton]at e;rw[e];exact J4 (DE _ _ _) q1)
    have hne:i ≠ th:=fun e=>by rw[e,tk]at k3;exact absurd k3 (by decide)
    have e:nth (asked p.heap.ag i me th c) th=nth p.heap.ag th:=by
      unfold asked;rw[gM g0 (by omega) t0,if_neg hne]
    have okt:=ar.ok _ (ar.at t0 t9).2;obtain⟨v1,v2⟩:=Hg okt tk
    obtain⟨b1,b2⟩:=w9 (l:=asked p.heap.ag i me th c) a1 t0 t9 (z:=waiting (nth (asked p.heap.ag i me th c) th) (i64.wrap (c.a+1))) rfl rfl rfl rfl rfl (by
      rw[e];refine yW okt tk rfl rfl rfl rfl rfl rfl rfl ?_ v1 rfl
      show(i64.wrap (c.a+1)==0 || dy (i64.wrap (i64.wrap (c.a+1)-1)) 0 29999)=true
      rw[dF (n:=c.a+1) (by omega) (by omega),dF (by omega) (by omega),show dy (c.a+1-1) 0 29999=true from dM.2 ⟨by omega,by omega⟩,Bool.or_true])
    exact xe hp.ok (hA.ag b1) (b2.trans a2)
theorem LU{p:bh}(hp:g7 p)(c:dH):Gd p (pe p c).2.2:=by
  unfold pe;cases !dy c.a 0 ((p.dc.length:Int)-1)
  case true=>exact Gd.self hp.ok
  obtain⟨h3,ht⟩:=HQ hp.ok;refine HO hp.ok (by simp only[List.length_append,List.length_take,List.length_drop];omega) fun x hx=>?_
  rcases List.mem_append.1 hx with e|e
  · exact ht x (List.mem_of_mem_take e)
  · exact ht x (List.mem_of_mem_drop e)
theorem PI{p:bh}(hp:g7 p)(me now:Int){th:Int}(t0:0<=th)(t9:th<=9)(tk:(nth p.heap.ag th).so=4)(c:dH)(h:((gm p me now th c).1==0)=true):Gd p (gm p me now th c).2.2:=by
  unfold gm at *;cases k1:c.so==1
  case true=>rw[k1]at h;exact GZ hp _ _ _ h
  cases(c.so==2) || (c.so==3)
  case true=>exact HC hp _ _ _
  cases(c.so==4) || (c.so==5)
  case true=>exact HZ hp _ _ _
  cases(c.so==6) || (c.so==7)
  case true=>exact Hq hp _ _ _
  cases c.so==8
  case true=>exact EU hp _ _ _
  cases(c.so==9) || ((c.so==10) || (c.so==11))
  case true=>exact Po hp _
  cases(c.so==12) || (c.so==13)
  case true=>exact HN hp _ _ t0 t9 tk _
  cases c.so==14
  case true=>simp only[Rz,RA,vq];exact Gd.self hp.ok
  cases c.so==15
  case true=>exact LU hp _
  exact Gd.self hp.ok
theorem DB{n:Int}(h0:0<=n)(h1:n<=1000000):dy (if 1000000<i64.wrap (n+1)then 1000000 else i64.wrap (n+1)) 0 1000000=true:=by
  rw[dF (by omega) (by omega),dM];split<;>omega
theorem xp{p:bh}(h:dI p=true):(0<=p.dx/\p.dx<=1000000)/\(0<=p.Rk/\p.Rk<=1000000):=by
  unfold dI og at h;simp only[RD,dM]at h;obtain⟨a,b,c,d,e,f,g1,g2,g3,g4,g5⟩:=h;exact⟨g4,g5⟩
theorem Jd{p:bh}(h:dI p=true):Gd p (BJ p):=by
  refine⟨?_,rfl⟩;have r:=DB (xp h).1.1 (xp h).1.2;unfold dI og at *;simp only[RD]at h⊢;obtain⟨a,b,c,d,e,f,g1,g2,g3,g4,g5⟩:=h;exact⟨a,b,c,d,e,f,g1,g2,g3,r,g5⟩
theorem Ns{p:bh}(h:dI p=true):Gd p (EK p):=by
  refine⟨?_,rfl⟩;have r:=DB (xp h).2.1 (xp h).2.2;unfold dI og at *;simp only[RD]at h⊢;obtain⟨a,b,c,d,e,f,g1,g2,g3,g4,g5⟩:=h;exact⟨a,b,c,d,e,f,g1,g2,g3,g4,r⟩
theorem Fu{p:bh}{now th:Int}(h:iV p now th=true):(nth p.heap.ag th).so=4:=by
  unfold iV at h;simp only[RD]at h;exact(xz (now:=now) (by simpa using h.1)).1
theorem Nw{p:bh}(hp:g7 p)(me now th:Int)(c:dH):Gd p (kc p me now th c).1:=by
  unfold kc;cases !dI p || (!dy me 0 2 || !dy now 0 1000000)
  case true=>exact Gd.self hp.ok
  cases hc:iV p now th
  · exact Gd.self hp.ok
  obtain⟨_,t0,t9⟩:=rj hc;simp only[RB,Rz];unfold fin;cases h:(gm p me now th c).1==0
  · cases(c.so==1)&&(((gm p me now th c).1==6) || ((gm p me now th c).1==7))
    · exact Gd.self hp.ok
    · exact Jd hp.ok
  · exact PI hp me now t0 t9 (Fu hc) c h
theorem Hz{p:bh}(hp:g7 p){now me h:Int}{n:Int}(hn:dy n 0 999=true):Gd p (tN p (dt p.heap.ag now me h) n):=by
  unfold tN;have hg:=pc (l:=p.heap.ag) (now:=now) (me:=me) (h:=h) hp.ar.len;generalize dt p.heap.ag now me h=g at *;cases q:kV p.heap.ag g
  · exact Ns hp.ok
  · unfold kV at q;simp only[RD,decide_eq_true_eq,beq_iff_eq]at q;have hl:=hp.ar.len;have g9:=hg q.1;have ok:=hp.ar.ok _ (hp.ar.at q.1 (by omega)).2;obtain⟨u1,u2⟩:=Fy ok q.2.1;refine Bt hp.ok q.1 (by omega) rfl rfl rfl (fun _=>rfl) rfl (yk ok q.2.1 (by simp only[List.length_append,List.length_cons,List.length_nil];omega) fun m hm=>?_)
    rcases List.mem_append.1 hm with e|e
    · exact u2 m e
    · rw[List.mem_singleton]at e;rw[e];exact J4 (.inl rfl) hn
theorem J9{w:dq}(hw:Wq w)(ok:eO w=true)(p th:Int)(c:dH):(im w p th c).1=w\/∃q z,eR w q=true/\qn (nth w.parts q) z/\Gd (nth w.parts q) z/\(im w p th c).1=kX w q z:=by
  unfold im;cases hok:!eO w || !eR w p
  case true=>exact .inl rfl
  have hp:eR w p=true:=by rw[ok]at hok;simpa using hok
  obtain⟨p1,p2⟩:=fx hp;have pp:=hw.AE ok p2;cases hc:iV (nth w.parts p) w.Rj th
  case false=>exact .inl rfl
  cases ho:decide (other w p c<0)
  case true=>exact .inl rfl
  have hq:=qo ho;generalize other w p c=q at *;obtain⟨q1,q2⟩:=fx hq;have pq:=hw.AE ok q2;simp only[Rz,RB]
  have f3:∀r:Int×Int×dq,(rl r).1=r.2.2:=fun r=>by unfold rl;cases r.1 != 0<;>rfl
  cases c.so==7
  case true=>rw[RA,f3,AG];exact .inl rfl
  cases c.so==17
  case true =>
    rw[Rz,RA,f3];unfold rq;cases hb:dy c.b 0 999
    case false=>exact .inl rfl
    cases l8 w p p q
    case false=>exact .inl rfl
    exact .inr ⟨q,_,hq,Ca pq c.b,Hz pq hb,rfl⟩
  cases c.so==16
  case true =>
    rw[Rz,Rz,RA,f3];unfold wj;cases h1:decide (c.d<0) || !il (pI c)
    case true=>exact .inl rfl
    cases l8 w p p q
    case false=>exact .inl rfl
    cases ei (nth w.parts p).Re c.a
    case false=>exact .inl rfl
    cases h3:decide (((nth w.parts p).dc.length:Int)>=3)
    case true=>exact .inl rfl
    have h3:=of_decide_eq_false h3;simp only[Bool.or_eq_false_iff,Bool.not_eq_false']at h1;refine .inr ⟨p,_,hp,Hw pp (pI c),HO pp.ok (by simp only[List.length_append,List.length_cons,List.length_nil];omega) fun x hx=>?_,rfl⟩
    rcases List.mem_append.1 hx with e|e
    · exact(HQ pp.ok).2 x e
    · rw[List.mem_singleton]at e;rw[e];exact h1.2
  have h:=G5 pp.sz pp.w p w.Rj th c;exact .inr ⟨p,_,hp,⟨h.1,h.2,E4 pp.sz pp.w p w.Rj th c⟩,Nw pp p w.Rj th c,rfl⟩
end Go.Kx
