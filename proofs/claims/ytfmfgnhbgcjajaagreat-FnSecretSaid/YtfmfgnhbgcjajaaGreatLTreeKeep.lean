import Derived.Test.YtfmfgnhbgcjajaaGreatLGcOk
namespace Go.Kx
open Go
open Go.IntKind (i64)
set_option linter.unusedVariables false
set_option linter.unusedSimpArgs false
set_option maxRecDepth 10000
structure TK (t u:List dj):Prop where
  tr:Tr u
  pg:ez de.cd u=ez de.cd t
  rt:ez de.dg u=ez de.dg t
  cp:ez de.dn u=ez de.dn t
theorem M0{t u:List dj}(h:Tr t)(len:u.length=5)(pA:(nth u 0).RC=true)(BE:(nth u 0).RE=-1)(dead:∀r,r∈u->r.RC=false->r=kh)(dO:∀r,r∈u->dP r.dO=true)
    (lead:∀(k:Nat) (r:dj),u[k]?=some r->r.RC=true->leads u 5 (k:Int)=true) (pg:ez de.cd u=ez de.cd t) (rt:ez de.dg u=ez de.dg t) (cp:ez de.dn u=ez de.dn t):TK t u:=by
  refine⟨⟨len,pA,BE,dead,dO,lead,?_⟩,pg,rt,cp⟩;obtain⟨a1,a2,a3⟩:=rO u ⟨0,0,0⟩ 0 dO (by omega) (by omega) BY;obtain⟨t1,t2,t3⟩:=h.ez;have hS:=eA.1 h.sum;simp only[Int.zero_add]at a1 a2 a3;exact eA.2 ⟨by omega,by omega,by omega⟩
theorem AL{t:List dj}:∀(n:Nat) (j:Int),leads t n j=true->leads t (n+1) j=true
  | 0,j,h=>by simp[leads]at h
  | n+1,j,h=>by
    unfold leads at h⊢;simp only[Bool.or_eq_true,RP]at h⊢
    rcases h with h|⟨h1,h2⟩
    · exact .inl h
    · exact .inr ⟨h1,AL n _ h2⟩
theorem r9{t:List dj}{n:Nat}{j:Int}(h:leads t (n+1) j=true)(hj:j ≠ 0):eh t j=true/\leads t n (up t j)=true:=by
  unfold leads at h;simp only[Bool.or_eq_true,RP,beq_iff_eq]at h;exact h.resolve_left hj
theorem Bn{t:List dj}{i:Int}(hi:i ≠ 0)(hu:up t i=i):∀n,leads t n i=false
  | 0=>rfl
  | n+1=>by
    cases h:leads t (n+1) i
    · rfl
    · have:=(r9 h hi).2;rw[hu,Bn hi hu n]at this;cases this
theorem vl{t:List dj}{i:Int}(h:eh t i=true):0<=i/\i<=4/\(nth t i).RC=true:=by
  have:=gM h;unfold eh at h;simp only[RP]at h;exact⟨this.1,this.2,h.2⟩
theorem IW{t:List dj}{k:Int}(k0:0<=k)(k4:k<=4)(hk:(nth t k).RC=false)(h0:(nth t 0).RC=true){f:Int}(h:leads t 5 f=true):leads t 4 f=true:=by
  cases h4:leads t 4 f
  case true=>rfl
  have key:∀n j,leads t (n+1) j=true->leads t n j=false->(j=0/\n=0)\/(j ≠ 0/\eh t j=true/\leads t n (up t j)=true/\∀m,n=m+1->leads t m (up t j)=false):=fun n j a b=>by
    by_cases hj:j=0
    · cases n with
      | zero=>exact .inl ⟨hj,rfl⟩
      | succ m=>unfold leads at b;rw[hj]at b;simp at b
    · obtain⟨c1,c2⟩:=r9 a hj;refine .inr ⟨hj,c1,c2,fun m e=>?_⟩;subst e;unfold leads at b;rw[c1]at b;simp only[Bool.or_eq_false_iff,RO]at b;exact b.2
  have r:∀j,eh t j=true->j ≠ 0->1<=j/\j<=4/\j ≠ k:=fun j hl hj=>by
    obtain⟨a,b,c⟩:=vl hl;refine⟨by omega,b,fun e=>?_⟩;rw[e,hk]at c;cases c
  have hk0:k ≠ 0:=fun e=>by rw[e,h0]at hk;cases hk
  rcases key 4 f h h4 with⟨_,q⟩|⟨n0,l0,a0,b0⟩
  · cases q
  rcases key 3 _ a0 (b0 3 rfl)with⟨_,q⟩|⟨n1,l1,a1,b1⟩
  · cases q
  rcases key 2 _ a1 (b1 2 rfl)with⟨_,q⟩|⟨n2,l2,a2,b2⟩
  · cases q
  rcases key 1 _ a2 (b2 1 rfl)with⟨_,q⟩|⟨n3,l3,a3,b3⟩
  · cases q
  have n4:up t (up t (up t (up t f)))=0:=by
    unfold leads at a3;simpa[leads]using a3
  have r0:=r _ l0 n0;have r1:=r _ l1 n1;have r2:=r _ l2 n2;have r3:=r _ l3 n3
  have e01:f ≠ up t f:=fun e=>by rw[<- e, <- e, <- e, <- e]at n4;exact n0 n4
  have e12:up t f ≠ up t (up t f):=fun e=>by rw[<- e, <- e, <- e]at n4;exact n1 n4
  have e23:up t (up t f) ≠ up t (up t (up t f)):=fun e=>by rw[<- e, <- e]at n4;exact n2 n4
  have e02:f ≠ up t (up t f):=fun e=>by rw[<- e, <- e]at n4;exact n0 n4
  have e13:up t f ≠ up t (up t (up t f)):=fun e=>by rw[<- e]at n4;exact n2 n4
  have e03:f ≠ up t (up t (up t f)):=fun e=>by rw[<- e]at n4;exact n1 n4
  generalize up t (up t (up t f))=d at *;generalize up t (up t f)=c at *;generalize up t f=b at *;omega
theorem Bt:∀(l:List Bool) (j k:Nat),tf j l=some k->j<=k/\l[k-j]?=some false
  | [],j,k,h=>by simp[tf]at h
  | b::l,j,k,h=>by
    unfold tf at h;cases b
    · simp only[Bool.false_eq_true,if_false,Option.some.injEq]at h;subst h;simp
    · simp only[if_true]at h;obtain⟨a,c⟩:=Bt l (j+1) k h;refine⟨by omega,?_⟩;rw[show k-j=(k-(j+1))+1 by omega,List.getElem?_cons_succ];exact c
theorem PN{t:List dj}{f:Int}{a:de}(j:Int)(h:(eD t f a).2=true)(h0:0<=j):(nth (eD t f a).1 j).RC=(nth t j).RC/\(nth (eD t f a).1 j).RE=(nth t j).RE:=by
  obtain⟨h1,h2⟩:=tV h;have hT:=fc.1 h1;obtain⟨f0,f4⟩:=gM h2;have hl:=hT.len;unfold eD;split
  · split
    · exact tN f0 (by omega) _ h0
    · exact⟨rfl,rfl⟩
  · exact⟨rfl,rfl⟩
theorem ID{t:List dj}{f:Int}{a:de}(h:(iq t f a).2.2=true):TK t (iq t f a).1:=by
  unfold iq at h⊢;cases hp:(eD t f a).2
  case false=>rw[hp]at h;simp at h
  rw[hp]at h;simp only[if_true]at h⊢
  cases hf:tf 0 (t.map dj.RC)with
  | none=>rw[hf]at h;simp at h
  | some k =>
    simp only;obtain⟨tOk,lf⟩:=tV hp;have hT:=fc.1 tOk;obtain⟨hu,ha,hg⟩:=r6 hp;have hpl:=ED t f a;have hup:=fun j=>PN (t:=t) (f:=f) (a:=a) j hp;generalize (eD t f a).1=u at *;obtain⟨_,hk⟩:=Bt _ _ _ hf;rw[Nat.sub_zero, <- hpl,List.getElem?_map]at hk;obtain⟨r,hr,hrl⟩:=Option.map_eq_some_iff.1 hk;have hl:=hu.len;have hk5:k<u.length:=eF hr;have hz:=hu.dead r (List.mem_of_getElem? hr) hrl;have hnk:nth u (k:Int)=r:=rn hr
    have n0:k ≠ 0:=fun e=>by
      subst e;have:=hu.pA;rw[show(0:Int)=((0:Nat):Int) from rfl,hnk,hrl]at this;cases this
    have hn:∀j:Int,0<=j->nth (u.set k (dj.mk true f a)) j=if(k:Int)=j then dj.mk true f a else nth u j:=fun j hj=>by
      have:=xA (t:=u) (i:=(k:Int)) (z:=dj.mk true f a) (by omega) (by omega) hj
      rwa[Int.toNat_natCast]at this
    have hts:∀g:de->Int,ez g (u.set k (dj.mk true f a))=ez g u+g a:=fun g=>by
      rw[xc g u k r _ hr]
      have e1:oh g r=0:=by unfold oh;rw[hrl];rfl
      have e2:oh g (dj.mk true f a)=g a:=rfl;rw[e1,e2];omega
    have lst:∀(n:Nat) (j:Int),leads u n j=true->leads (u.set k (dj.mk true f a)) n j=true:=by
      intro n
      induction n with
      | zero=>intro j hj;simp[leads]at hj
      | succ n ih =>
        intro j hj
        by_cases j0:j=0
        · unfold leads;rw[j0];rfl
        · obtain⟨c1,c2⟩:=r9 hj j0;obtain⟨d0,d4,d5⟩:=vl c1
          have hne:(k:Int) ≠ j:=fun e=>by rw[<- e,hnk,hrl]at d5;cases d5
          have e1:nth (u.set k (dj.mk true f a)) j=nth u j:=by rw[hn j d0,if_neg hne]
          have e2:up (u.set k (dj.mk true f a)) j=up u j:=by unfold up;rw[e1]
          have e3:eh (u.set k (dj.mk true f a)) j=true:=by unfold eh at c1⊢;rw[e1];exact c1
          unfold leads;rw[e2,e3,ih _ c2];simp
    obtain⟨f0,f4,fl⟩:=vl lf
    have ful:(nth u f).RC=true:=by rw[(hup f f0).1];exact fl
    have fu5:leads u 5 f=true:=by
      have:=hu.lead f.toNat _ (fV (l:=u) f0 (by omega)) ful
      rwa[Int.toNat_of_nonneg f0]at this
    have fu4:=IW (t:=u) (k:=(k:Int)) (by omega) (by omega) (by rw[hnk];exact hrl) hu.pA fu5;refine M0 hT (by rw[List.length_set];exact hl) ?_ ?_ ?_ ?_ ?_ ?_ ?_ ?_
    · rw[hn 0 (by omega),if_neg (by omega)];exact hu.pA
    · rw[hn 0 (by omega),if_neg (by omega)];exact hu.BE
    · intro x hx hd
      rcases List.mem_or_eq_of_mem_set hx with q|q
      · exact hu.dead x q hd
      · rw[q]at hd;cases hd
    · intro x hx
      rcases List.mem_or_eq_of_mem_set hx with q|q
      · exact hu.dO x q
      · rw[q];exact ha
    · intro j x hx hxl
      by_cases e:k=j
      · subst e;have e1:=hn (k:Int) (by omega);rw[if_pos rfl]at e1;unfold leads;rw[show up (u.set k (dj.mk true f a)) (k:Int)=f from by unfold up;rw[e1],lst 4 f fu4,show eh (u.set k (dj.mk true f a)) (k:Int)=true from by unfold eh;rw[e1,dI.2 ⟨by omega,by omega⟩];rfl];simp
      · rw[List.getElem?_set_ne e]at hx;exact lst 5 _ (hu.lead j x hx hxl)
    · rw[hts,hg de.cd fun _ _=>rfl];omega
    · rw[hts,hg de.dg fun _ _=>rfl];omega
    · rw[hts,hg de.dn fun _ _=>rfl];omega
theorem Ko{t:List dj}{f g:Int}{a:de}(h:(jh t f g a).2=true):TK t (jh t f g a).1:=by
  unfold jh at h⊢;cases hp:(eD t f a).2&&eh t g
  case false=>rw[hp]at h;simp at h
  simp only[if_true];rw[RP]at hp;obtain⟨tOk,lf⟩:=tV hp.1;have hT:=fc.1 tOk;obtain⟨hu,ha,hg⟩:=r6 hp.1;have g1:=hg de.cd fun _ _=>rfl;have g2:=hg de.dg fun _ _=>rfl;have g3:=hg de.dn fun _ _=>rfl;obtain⟨t1,t2,t3⟩:=hT.ez;have hS:=eA.1 hT.sum;obtain⟨_,b2,b3,b4,b5⟩:=yJ hu g ha (by omega) (by omega) (by omega);exact⟨b2,by omega,by omega,by omega⟩
theorem Hs{g:de->Int}{f:dj->dj}(h:∀r,(f r).RC=r.RC/\(f r).dO=r.dO):∀t:List dj,ez g (t.map f)=ez g t
  | []=>rfl
  | r::t=>by
    show(if(f r).RC then g (f r).dO else 0)+ez g (t.map f)=(if r.RC then g r.dO else 0)+ez g t
    rw[(h r).1,(h r).2,Hs h t]
theorem E4(i u:Int)(r:dj):(jl i u r).RC=r.RC/\(jl i u r).dO=r.dO:=by
  unfold jl;split<;>exact⟨rfl,rfl⟩
theorem JI{t:List dj}{i:Int}(h:(ji t i).2=true):TK t (ji t i).1:=by
  unfold ji at h⊢;cases hc:(fk t&&eh t i)&&(i != 0)
  case false=>rw[hc]at h;simp at h
  simp only[if_true];simp only[RP,bne_iff_ne]at hc;obtain⟨⟨tOk,li⟩,i0⟩:=hc;have hT:=fc.1 tOk;have hl:=hT.len;obtain⟨a0,a4,al⟩:=vl li
  have lead5:leads t 5 i=true:=by
    have:=hT.lead i.toNat _ (fV (l:=t) a0 (by omega)) al
    rwa[Int.toNat_of_nonneg a0]at this
  have hne:up t i ≠ i:=fun e=>by rw[Bn i0 e 5]at lead5;cases lead5
  have lu:eh t (up t i)=true:=by
    by_cases e:up t i=0
    · rw[e];unfold eh;rw[hT.pA];rfl
    · exact(r9 (r9 lead5 i0).2 e).1
  obtain⟨u0,u4,ul⟩:=vl lu;have hfit:=Hz hT ⟨u0,u4⟩ ⟨a0,a4⟩ hne ul al
  have hW:dP (dU (nth t (up t i)).dO (nth t i).dO)=true:=by
    unfold fH at hfit;split at hfit
    · rename_i q;simp only[RP]at q;exact q.2
    · simp at hfit
  unfold dropped;generalize hu:up t i=u at *;generalize hw:jr (nth t u) (dU (nth t u).dO (nth t i).dO)=W
  have Wl:W.RC=true:=by rw[<- hw];exact ul
  have Wp:W.RE=(nth t u).RE:=by rw[<- hw];rfl
  have Wb:W.dO=dU (nth t u).dO (nth t i).dO:=by rw[<- hw];rfl
  have hn:∀j:Int,0<=j->j<=4->nth (((t.set u.toNat W).set i.toNat kh).map (jl i u)) j=jl i u (if i=j then kh else if u=j then W else nth t j):=fun j j0 j4=>by
    have e1:=xA (t:=t.set u.toNat W) (i:=i) (z:=kh) a0 (by rw[List.length_set];omega) j0;have e2:=xA (t:=t) (i:=u) (z:=W) u0 (by omega) j0;rw[e2]at e1;rw[<- e1]
    have hlen:j<((((t.set u.toNat W).set i.toNat kh)).length:Int):=by simp only[List.length_set];omega
    have g:=fV (l:=(t.set u.toNat W).set i.toNat kh) j0 hlen
    have:(((t.set u.toNat W).set i.toNat kh).map (jl i u))[j.toNat]?=some (jl i u (nth ((t.set u.toNat W).set i.toNat kh) j)):=by rw[List.getElem?_map,g];rfl
    have:=rn this
    rwa[Int.toNat_of_nonneg j0]at this
  generalize hTT:((t.set u.toNat W).set i.toNat kh).map (jl i u)=T at *
  have hTl:T.length=5:=by rw[<- hTT];simp only[List.length_map,List.length_set];exact hl
  have hni:nth T i=kh:=by rw[hn i a0 a4,if_pos rfl];unfold jl kh;rfl
  have hnl:∀j:Int,0<=j->j<=4->i ≠ j->(nth T j).RC=(nth t j).RC:=fun j j0 j4 e=>by
    rw[hn j j0 j4,if_neg e,(E4 i u _).1];split
    · rename_i q;subst q;rw[Wl,ul]
    · rfl
  have hnp:∀j:Int,0<=j->j<=4->i ≠ j->(nth t j).RC=true->(nth T j).RE=if(nth t j).RE=i then u else(nth t j).RE:=fun j j0 j4 e hv=>by
    rw[hn j j0 j4,if_neg e]
    have key:∀x:dj,x.RC=true->(jl i u x).RE=if x.RE=i then u else x.RE:=fun x hx=>by
      unfold jl
      by_cases q:x.RE=i
      · rw[if_pos q,hx,if_pos (by simpa using q)]
      · rw[if_neg q,hx,if_neg (by simpa using q)]
    split
    · rename_i q;subst q;rw[key W Wl,Wp]
    · exact key _ hv
  have lst:∀(n:Nat) (j:Int),j ≠ i->leads t n j=true->leads T n j=true:=by
    intro n
    induction n using Nat.strongRecOn with
    | _ n ih =>
      intro j hj hL
      cases n with
      | zero=>simp[leads]at hL
      | succ n =>
        by_cases j0:j=0
        · unfold leads;rw[j0];rfl
        obtain⟨c1,c2⟩:=r9 hL j0;obtain⟨d0,d4,d5⟩:=vl c1
        have e3:eh T j=true:=by unfold eh;rw[hnl j d0 d4 (Ne.symm hj),d5,dI.2 ⟨d0,d4⟩];rfl
        have e2:=hnp j d0 d4 (Ne.symm hj) d5
        have goal:leads T n (nth T j).RE=true:=by
          by_cases q:(nth t j).RE=i
          · rw[e2,if_pos q]
            have c3:leads t n i=true:=by rw[<- q];exact c2
            cases n with
            | zero=>simp[leads]at c3
            | succ m =>
              have c4:=(r9 c3 i0).2;rw[hu]at c4;exact AL m u (ih m (by omega) u hne c4)
          · rw[e2,if_neg q];exact ih n (by omega) _ q c2
        unfold leads;rw[e3,show up T j=(nth T j).RE from rfl,goal];simp
  have hidx:∀(k:Nat) (x:dj),T[k]?=some x->k<5/\x=nth T (k:Int):=fun k x hx=>⟨by have:=eF hx;omega,(rn hx).symm⟩;have hgu:=fV (l:=t) u0 (by omega)
  have hgi:(t.set u.toNat W)[i.toNat]?=some (nth t i):=by rw[List.getElem?_set_ne (by omega)];exact fV a0 (by omega)
  have hts:∀g:de->Int,g W.dO=g (nth t u).dO+g (nth t i).dO->ez g T=ez g t:=fun g hg=>by
    rw[<- hTT,Hs (E4 i u),xc g _ _ _ _ hgi,xc g _ _ _ _ hgu];have e1:oh g (nth t u)=g (nth t u).dO:=if_pos ul;have e2:oh g (nth t i)=g (nth t i).dO:=if_pos al;have e3:oh g W=g W.dO:=if_pos Wl;have e4:oh g kh=0:=rfl;rw[e1,e2,e3,e4,hg];omega
  have bu:=eA.1 (hT.dO _ (gg u0 (by omega)));have bi:=eA.1 (hT.dO _ (gg a0 (by omega)));refine M0 hT hTl ?_ ?_ ?_ ?_ ?_ ?_ ?_ ?_
  · rw[hnl 0 (by omega) (by omega) i0];exact hT.pA
  · rw[hnp 0 (by omega) (by omega) i0 hT.pA,hT.BE,if_neg (by omega)]
  · intro x hx hd;obtain⟨k,hk⟩:=List.getElem?_of_mem hx;obtain⟨k5,e⟩:=hidx k x hk;rw[e]at hd⊢
    by_cases q:i=(k:Int)
    · rw[<- q,hni]
    · have hd':=hd;rw[hnl _ (by omega) (by omega) q]at hd';have hz:=hT.dead _ (gg (l:=t) (i:=(k:Int)) (by omega) (by omega)) hd';rw[hn _ (by omega) (by omega),if_neg q,if_neg (fun e=>by rw[<- e,ul]at hd';cases hd'),hz];rfl
  · intro x hx;obtain⟨k,hk⟩:=List.getElem?_of_mem hx;obtain⟨k5,e⟩:=hidx k x hk;rw[e,hn _ (by omega) (by omega),(E4 i u _).2];split
    · exact E6
    · split
      · rw[Wb];exact hW
      · exact hT.dO _ (gg (by omega) (by omega))
  · intro k x hk hxl;obtain⟨k5,e⟩:=hidx k x hk;rw[e]at hxl
    have q:(k:Int) ≠ i:=fun q=>by rw[q,hni]at hxl;cases hxl
    rw[hnl _ (by omega) (by omega) (Ne.symm q)]at hxl;exact lst 5 _ q (hT.lead k _ (fV (l:=t) (i:=(k:Int)) (by omega) (by omega)) hxl)
  · refine hts _ ?_;rw[Wb];exact dB (by omega) (by omega)
  · refine hts _ ?_;rw[Wb];exact dB (by omega) (by omega)
  · refine hts _ ?_;rw[Wb];exact dB (by omega) (by omega)
structure Gd (p q:bh):Prop where
  ok:dH q=true
  sp:Kx.sp q=Kx.sp p
theorem Gd.self{p:bh}(h:dH p=true):Gd p p:=⟨h,rfl⟩
theorem ri{p:bh}(h:dH p=true):Hk p.py:=by
  unfold dH at h;simp only[RP]at h;exact lS.1 h.2.2.2.1
theorem w8{p:bh}(h:dH p=true){H:dm}(hH:Hk H)(hg:g7 H.ag=g7 p.py.ag):Gd p (ny p H):=by
  have hA:=lS.2 hH;refine⟨?_,?_⟩
  · unfold dH at *;simp only[RP]at h⊢;obtain⟨a,b,c,d,e⟩:=h;exact⟨a,b,c,hA,e⟩
  · unfold Kx.sp
    show de.mk (_+g7 H.ag+_) _ _=_
    rw[hg];rfl
theorem BK{p:bh}(h:dH p=true){t:List dj}(ht:TK p.Rr t):Gd p (vt p t):=by
  have hA:=fc.2 ht.tr;refine⟨?_,?_⟩
  · unfold dH at *;simp only[RP]at h⊢;obtain⟨a,b,c,d⟩:=h;exact⟨a,b,hA,d⟩
  · unfold Kx.sp
    show de.mk (ez de.cd t+_+_) (ez de.dg t+_) (ez de.dn t+_)=_
    rw[ht.pg,ht.rt,ht.cp];rfl
theorem HT{p:bh}(h:dH p=true){t:List ef}(h3:t.length<=3)(ht:∀x,x∈t->gO x=true):Gd p (vC p t):=by
  refine⟨?_,rfl⟩;unfold dH at *;simp only[RP,List.all_eq_true]at h⊢;obtain⟨a,b,c,d,e,f,g⟩:=h;refine⟨a,b,c,d,?_,ht,g⟩
  show(!decide ((t.length:Int)>3))=true
  rw[decide_eq_false (by omega)];rfl
theorem Hw{p:bh}(h:dH p=true):p.db.length<=3/\∀x,x∈p.db->gO x=true:=by
  unfold dH at h;simp only[RP,List.all_eq_true,Bool.not_eq_true',decide_eq_false_iff_not]at h;obtain⟨a,b,c,d,e,f,g⟩:=h;exact⟨by omega,f⟩
theorem Hk.ag{h:dm}(q:Hk h){l:List c6}(hl:Ar l):Hk (dm.mk l h.gc):=⟨hl,q.ph,q.rd,q.gr,q.nd⟩
theorem vN{l:List c6}{i:Int}(h0:0<=i)(h1:i<(l.length:Int)){z:c6}(e:z.cd=(nth l i).cd):g7 (l.set i.toNat z)=g7 l:=by
  rw[sD h0 h1];omega
theorem Mj{h:dm}(q:Hk h)(i:Int):Hk (o4 h i)/\g7 (o4 h i).ag=g7 h.ag:=by
  unfold o4;cases c:gn h&&dv i 0 9
  · exact⟨q,rfl⟩
  · rw[RP,dI]at c;exact⟨q.jH c.2.1 c.2.2,CU q.ar c.2.1 c.2.2⟩
theorem Cn{h:dm}(q:Hk h)(x i:Int):Hk (jX h x i)/\g7 (jX h x i).ag=g7 h.ag:=by
  unfold jX;cases decide (x>=0)
  · exact⟨q,rfl⟩
  · exact Mj q i
theorem Ar.bx{l:List c6}(h:Ar l){i:Int}(h0:0<=i)(h9:i<=9)(hk:(nth l i).Rq ≠ 0)(hb:0<=(nth l i).box):(nth l (nth l i).box).Rq ≠ 0:=by
  by_cases e:i=0
  · subst e;rw[h.yT]at hb;exact absurd hb (by decide)
  · have:=h.len;exact h.box i.toNat _ (fV h0 (by omega)) (by omega) hk hb
theorem Ar.OF{l:List c6}(h:Ar l){i:Int}(h0:0<=i)(h9:i<=9){z:c6}(hk:z.Rq=(nth l i).Rq)(hb:i=0->z.box=-1)(hb':z.Rq ≠ 0->0<=z.box->(nth l z.box).Rq ≠ 0)
    (hl:∀y,y∈z.dk->0<=y->(nth l y).Rq ≠ 0) (ht:i=0->z.dY=1000000) (ok:eG z=true):Ar (l.set i.toNat z):=by
  have h10:=h.len
  have hn:∀j,0<=j->nth (l.set i.toNat z) j=if i=j then z else nth l j:=fun j hj=>sJ h0 (by omega) hj
  have hkind:∀j,0<=j->(nth (l.set i.toNat z) j).Rq=(nth l j).Rq:=fun j hj=>by
    rw[hn j hj];split
    · rename_i e;rw[<- e];exact hk
    · rfl
  refine⟨by rw[List.length_set];exact h10,by rw[hkind 0 (by omega)];exact h.sV,?_,?_,?_,?_,?_⟩
  · rw[hn 0 (by omega)];split
    · rename_i e;exact hb e
    · exact h.yT
  · rw[hn 0 (by omega)];split
    · rename_i e;exact ht e
    · exact h.Av
  · intro o ho
    rcases List.mem_or_eq_of_mem_set ho with q|rfl
    · exact h.ok o q
    · exact ok
  · intro o ho y hy y0;rw[hkind y y0]
    rcases List.mem_or_eq_of_mem_set ho with q|rfl
    · exact h.dk o q y hy y0
    · exact hl y hy y0
  · intro k o hko k0 hne b0;rw[hkind o.box b0]
    by_cases e:k=i.toNat
    · subst e;rw[List.getElem?_set_self (by omega)]at hko;have:z=o:=Option.some.inj hko;subst this;exact hb' hne b0
    · rw[List.getElem?_set_ne (Ne.symm e)]at hko;exact h.box k o hko k0 hne b0
theorem yb{o:c6}(h:o.Rq ≠ 0):(o.Rq==0)=false:=by simpa using h
theorem JX{l:List c6}{now me h k:Int}(q:eO l now me h k=0)(k0:k ≠ 0):(nth l (dq l now me h)).Rq=k:=(ij q).2.2.2.2 k0
theorem LO{l:List c6}{now me h k:Int}(q:eO l now me h k=0):lh h=true:=by
  unfold eO at q;cases e:lh h
  · rw[e]at q;simp at q
  · rfl
theorem Oq{p:bh}(hp:ik p)(me now:Int)(c:dD):Gd p (kn p me now c).2.2:=by
  unfold kn;cases q1:!dv c.b 0 1
  case true=>exact Gd.self hp.ok
  cases q2:eO p.py.ag now me c.a 0 != 0
  case true=>exact Gd.self hp.ok
  cases q3:(c.Rq==2)&&(eO p.py.ag now me c.c 0 != 0)
  case true=>exact Gd.self hp.ok
  simp only[RL];obtain⟨ar,g0,g9,gk,_⟩:=ij (fJ q2)
  have hx:∀x,x=(bif c.Rq==2 then dq p.py.ag now me c.c else -1)->x=-1\/(0<=x/\x<=9/\(nth p.py.ag x).Rq ≠ 0):=fun x e=>by
    cases k2:c.Rq==2
    · rw[k2]at e;exact .inl e
    · rw[k2]at e q3;have:=ij (fJ (by simpa using q3));rw[e];exact .inr ⟨this.2.1,this.2.2.1,this.2.2.2.1⟩
  have hx:=hx _ rfl;generalize (bif c.Rq==2 then dq p.py.ag now me c.c else -1)=x at *;generalize dq p.py.ag now me c.a=i at *;have hi:=ar.at g0 g9;have hl:=ar.len;have ho:=ar.ok _ hi.2;have hk:=yb gk;have hL:=kN ho hk;have hb:=jS ho (yw hk)
  have okz:eG (linked (nth p.py.ag i) c.b x)=true:=by
    refine m5 ho hk rfl rfl hb.1 rfl hb.2.2.1 rfl ?_ rfl rfl rfl;unfold iT at hL⊢;simp only[RP,List.all_eq_true]at hL⊢;refine⟨fun y hy=>?_,hL.2.1,hL.2.2.1,?_,hL.2.2.2.2⟩
    · rcases List.mem_or_eq_of_mem_set hy with q|q
      · exact hL.1 y q
      · rw[q,dI];omega
    · show(((List.set _ _ _).length:Int)==2)=true
      rw[List.length_set];exact hL.2.2.2.1
  have arz:Ar (p.py.ag.set i.toNat (linked (nth p.py.ag i) c.b x)):=by
    refine ar.OF g0 g9 rfl (fun e=>by rw[e];exact ar.yT) (fun _ b=>ar.bx g0 g9 gk b) (fun y hy y0=>?_) (fun e=>by rw[e];exact ar.Av) okz
    rcases List.mem_or_eq_of_mem_set hy with q|q
    · exact ar.dk _ hi.2 y q y0
    · subst q
      rcases hx with q|q
      · omega
      · exact q.2.2
  obtain⟨s1,s2⟩:=Cn ((ri hp.ok).ag arz) x x;exact w8 hp.ok s1 (s2.trans (vN g0 (by omega) rfl))
theorem Nu{p:bh}(hp:ik p)(me now:Int)(c:dD):Gd p (kb p me now c).2.2:=by
  unfold kb;cases q2:eO p.py.ag now me c.a 0 != 0
  case true=>exact Gd.self hp.ok
  cases q1:dq p.py.ag now me c.a==0
  case true=>exact Gd.self hp.ok
  cases q3:(c.Rq==4)&&(eO p.py.ag now me c.b 1 != 0)
  case true=>exact Gd.self hp.ok
  simp only[RL];obtain⟨ar,g0,g9,gk,_⟩:=ij (fJ q2)
  have hx:∀x,x=(bif c.Rq==4 then dq p.py.ag now me c.b else -1)->x=-1\/(0<=x/\x<=9/\(nth p.py.ag x).Rq ≠ 0):=fun x e=>by
    cases k2:c.Rq==4
    · rw[k2]at e;exact .inl e
    · rw[k2]at e q3;have:=ij (fJ (by simpa using q3));rw[e];exact .inr ⟨this.2.1,this.2.2.1,this.2.2.2.1⟩
  have hx:=hx _ rfl;generalize (bif c.Rq==4 then dq p.py.ag now me c.b else -1)=x at *;generalize dq p.py.ag now me c.a=i at *
  have hi0:i ≠ 0:=by simpa using q1
  have hi:=ar.at g0 g9;have hl:=ar.len;have ho:=ar.ok _ hi.2;have hk:=yb gk;have hL:=kN ho hk;have hb:=jS ho (yw hk)
  have okz:eG (boxed (nth p.py.ag i) x)=true:=by
    refine m5 ho hk rfl rfl ?_ rfl hb.2.2.1 rfl hL rfl rfl rfl
    show dv x (-1) 9=true
    rw[dI];omega
  have arz:Ar (p.py.ag.set i.toNat (boxed (nth p.py.ag i) x)):=by
    refine ar.OF g0 g9 rfl (fun e=>absurd e hi0) (fun _ b=>?_) (fun y hy y0=>ar.dk _ hi.2 y hy y0) (fun e=>absurd e hi0) okz;have b:0<=x:=b
    rcases hx with q|q
    · omega
    · exact q.2.2
  obtain⟨s1,s2⟩:=Cn ((ri hp.ok).ag arz) x i;exact w8 hp.ok s1 (s2.trans (vN g0 (by omega) rfl))
theorem BR{p:bh}(h:dH p=true){i:Int}(g0:0<=i)(g9:i<=9){z:c6}(hk:z.Rq=(nth p.py.ag i).Rq)(hb:z.box=(nth p.py.ag i).box)(hl:z.dk=(nth p.py.ag i).dk)(ht:i=0->z.dY=(nth p.py.ag i).dY)
    (hg:z.cd=(nth p.py.ag i).cd) (ok:eG z=true):Gd p (jM p (p.py.ag.set i.toNat z)):=by
  have ar:=fb h;have hlen:=ar.len;exact w8 h ((ri h).ag (ar.swap g0 g9 hk hb hl ht ok)) (vN g0 (by omega) hg)
theorem NR{p:bh}(hp:ik p)(me now:Int)(c:dD):Gd p (eX p me now c).2.2:=by
  unfold eX;cases q2:eO p.py.ag now me c.a 2 != 0
  case true=>exact Gd.self hp.ok
  cases q1:!dv c.b 0 (((nth p.py.ag (dq p.py.ag now me c.a)).Rw.length:Int)-1)
  case true=>exact Gd.self hp.ok
  cases c.Rq==7
  case true=>exact Gd.self hp.ok
  cases q3:!dv c.c 0 999
  case true=>exact Gd.self hp.ok
  simp only[RL];obtain⟨ar,g0,g9,gk,_⟩:=ij (fJ q2);generalize dq p.py.ag now me c.a=i at *;have ho:=ar.ok _ (ar.at g0 g9).2;have hk:=yb gk;have hL:=kN ho hk;have hb:=jS ho (yw hk);refine BR hp.ok g0 g9 rfl rfl rfl (fun _=>rfl) rfl (m5 ho hk rfl rfl hb.1 rfl hb.2.2.1 rfl ?_ rfl rfl rfl);unfold iT at hL⊢;simp only[RP,List.all_eq_true]at hL⊢;refine⟨hL.1,fun y hy=>?_,hL.2.2.1,hL.2.2.2.1,?_,hL.2.2.2.2.2⟩
  · rcases List.mem_or_eq_of_mem_set hy with q|q
    · exact hL.2.1 y q
    · rw[q];simpa using q3
  · show(((List.set _ _ _).length:Int)==_)=true
    rw[List.length_set];exact hL.2.2.2.2.1
theorem LG{a b:de}(h:(fH a b).2=true):(fH a b).1=⟨a.cd+b.cd,a.dg+b.dg,a.dn+b.dn⟩/\dP (fH a b).1=true/\dP b=true:=by
  unfold fH at h⊢;cases q:dP a&&dP b&&dP (dU a b)
  · rw[q]at h;simp at h
  · simp only[if_true];simp only[RP]at q;have a1:=eA.1 q.1.1;have b1:=eA.1 q.1.2;refine⟨?_,q.2,q.1.2⟩;unfold dU;rw[dB (by omega) (by omega),dB (by omega) (by omega),dB (by omega) (by omega)]
theorem HH{p:bh}(h:dH p=true){f:Int}{a:de}(hc:jw p f a=true):dH (nT p f a)=true/\ez de.cd (nT p f a).Rr=ez de.cd p.Rr-a.cd /\
    (nT p f a).dc.cd=p.dc.cd/\ez de.dg (nT p f a).Rr+(nT p f a).dc.dg=ez de.dg p.Rr+p.dc.dg/\ez de.dn (nT p f a).Rr+(nT p f a).dc.dn=ez de.dn p.Rr-a.dn+p.dc.dn:=by
  unfold jw at hc;rw[RP]at hc;obtain⟨hT,ha,hg⟩:=r6 hc.1;obtain⟨e,s1,s2⟩:=LG hc.2;have g1:=hg de.cd fun _ _=>rfl;have g2:=hg de.dg fun _ _=>rfl;have g3:=hg de.dn fun _ _=>rfl;have hA:=fc.2 hT;refine⟨?_,g1,?_,?_,?_⟩
  · unfold dH m8 at *;simp only[RP]at h⊢;obtain⟨a,b,c,d,e,f,g1,g2,g3,g4⟩:=h;exact⟨a,b,hA,d,e,f,g1,g2,s1,g4⟩
  · show(fH p.dc (de.mk 0 a.dg 0)).1.cd=_
    rw[e];exact Int.add_zero _
  · show ez de.dg (eD p.Rr f a).1+(fH p.dc (de.mk 0 a.dg 0)).1.dg=_
    rw[e,g2];dsimp only;omega
  · show ez de.dn (eD p.Rr f a).1+(fH p.dc (de.mk 0 a.dg 0)).1.dn=_
    rw[e,g3];dsimp only;omega
theorem M5{p q:bh}(h1:ez de.cd q.Rr+g7 q.py.ag+q.dc.cd=ez de.cd p.Rr+g7 p.py.ag+p.dc.cd)(h2:ez de.dg q.Rr+q.dc.dg=ez de.dg p.Rr+p.dc.dg)(h3:ez de.dn q.Rr+q.dc.dn=ez de.dn p.Rr+p.dc.dn):sp q=sp p:=by
  unfold sp;rw[h1,h2,h3]
theorem LP{p:bh}(hp:ik p)(me now:Int)(c:dD):Gd p (ic p me now c).2.2:=by
  unfold ic;cases q2:eO p.py.ag now me c.a 0 != 0
  case true=>exact Gd.self hp.ok
  cases q1:(dq p.py.ag now me c.a==0) || (!dv c.b 1 1000 || decide (i64.wrap ((nth p.py.ag (dq p.py.ag now me c.a)).dY+c.b)>1000000))
  case true=>exact Gd.self hp.ok
  cases q3:!jw p (hZ p (nth p.py.ag (dq p.py.ag now me c.a)).RF) (de.mk 0 (i64.wrap ((nth p.py.ag (dq p.py.ag now me c.a)).cd*c.b)) 0)
  case true=>exact Gd.self hp.ok
  simp only[RL];obtain⟨ar,g0,g9,gk,_⟩:=ij (fJ q2)
  have q3:jw p (hZ p (nth p.py.ag (dq p.py.ag now me c.a)).RF) (de.mk 0 (i64.wrap ((nth p.py.ag (dq p.py.ag now me c.a)).cd*c.b)) 0)=true:=by simpa using q3
  generalize dq p.py.ag now me c.a=i at *;simp only[Bool.or_eq_false_iff,Bool.not_eq_false',dI,decide_eq_false_iff_not,beq_eq_false_iff_ne]at q1;obtain⟨i0,b1,t1⟩:=q1;have ho:=ar.ok _ (ar.at g0 g9).2;have hl:=ar.len;have hk:=yb gk;have hb:=jS ho (yw hk);have ht:=dI.1 hb.2.2.1;obtain⟨p1,p2,p3,p4,p5⟩:=HH hp.ok q3
  have g:=BR (i:=i) (z:=AJ (nth p.py.ag i) (i64.wrap ((nth p.py.ag i).dY+c.b))) p1 g0 g9 rfl rfl rfl (fun e=>absurd e i0) rfl (by
    refine m5 ho hk rfl rfl hb.1 rfl ?_ rfl (show iT (nth p.py.ag i)=true from kN ho hk) rfl rfl rfl;rw[dB (by omega) (by omega)]at t1⊢
    show dv ((nth p.py.ag i).dY+c.b) 0 1000000=true
    rw[dI];omega)
  refine⟨g.ok,g.sp.trans (M5 ?_ p4 ?_)⟩
  · rw[p2,p3,Cc];dsimp only;omega
  · rw[p5];dsimp only;omega
theorem Pn{p:bh}(hp:ik p)(c:dD):Gd p (kz p c).2.2:=by
  unfold kz;cases c.Rq==9
  · cases c.Rq==10
    · cases q:!(ji p.Rr c.a).2
      · exact BK hp.ok (JI (by simpa using q))
      · exact Gd.self hp.ok
    · cases !dv c.a 0 4 || (!dv c.b 0 4 || (!dv c.c 0 2 || !uQ c.d))
      case true=>exact Gd.self hp.ok
      cases q:!(jh p.Rr c.a c.b (g6 c.c c.d)).2
      · exact BK hp.ok (Ko (by simpa using q))
      · exact Gd.self hp.ok
  · cases !dv c.a 0 4 || !dP (de.mk c.b c.c c.d)
    case true=>exact Gd.self hp.ok
    cases q:!(iq p.Rr c.a (de.mk c.b c.c c.d)).2.2
    · exact BK hp.ok (ID (by simpa using q))
    · exact Gd.self hp.ok
theorem El{l:List c6}{o:c6}:∀(m:List c6) (k:Nat),l.drop k=m->(qJ l o k m).2<0\/∃(j:Nat) (x:c6),k<=j/\l[j]?=some x/\x.Rq=0/\x.RG<999/\qJ l o k m=(l.set j (gD o (i64.wrap (x.RG+1))),(j:Int))/\gh (l.set j (gD o (i64.wrap (x.RG+1))))=true
  | [],k,h=>.inl (by unfold qJ;show(-1:Int)<0;decide)
  | x::m,k,h=>by
    have hx:l[k]?=some x:=by
      have:=congrArg (fun q=>q[0]?) h;simpa using this
    have hm:l.drop (k+1)=m:=by
      rw[<- List.drop_drop,h];rfl
    unfold qJ;split
    · rcases El m (k+1) hm with e|⟨j,y,a,b⟩
      · exact .inl e
      · exact .inr ⟨j,y,by omega,b⟩
    · rename_i c;simp only[Bool.or_eq_true,not_or,bne_iff_ne,ne_eq,Decidable.not_not,decide_eq_true_eq]at c;unfold putAt;split
      · rename_i q;rw[RP]at q;exact .inr ⟨k,x,Nat.le_refl _,hx,c.1,by omega,rfl,q.1⟩
      · exact .inl (show(-1:Int)<0 by decide)
theorem GH{l:List c6}{o:c6}(h:decide ((gT l o).2<0)=false):Ar l/\∃(j:Nat),1<=j/\j<10/\(nth l (j:Int)).Rq=0/\(nth l (j:Int)).RG<999/\gT l o=(l.set j (gD o (i64.wrap ((nth l (j:Int)).RG+1))),(j:Int))/\Ar (l.set j (gD o (i64.wrap ((nth l (j:Int)).RG+1)))):=by
  have h:=of_decide_eq_false h;unfold gT at *;cases ha:gh l
  · rw[ha]at h;exact absurd (show(-1:Int)<0 by decide) h
  rw[ha]at h;simp only[if_true]at h⊢;have ar:=fF.1 ha
  rcases El (o:=o) (l.drop 1) 1 rfl with e|⟨j,x,a,b,c,d,e,f⟩
  · exact absurd e h
  · have hj:=eF b;have hl:=ar.len;refine⟨ar,j,a,by omega,?_⟩;rw[rn b];exact⟨c,d,e,fF.1 f⟩
theorem GA{o:c6}(h:eG o=true)(hk:o.Rq=0):o.cd=0:=by
  rw[rD h (by simpa using hk)];rfl
theorem KJ{h:dm}(q:Hk h)(i:Int):Hk (km h i)/\g7 (km h i).ag=g7 h.ag:=by
  unfold km;split
  · rename_i c;simp only[RP,dI,bne_iff_ne]at c;have hl:=q.ar.len;exact⟨q.ag (q.ar.mark c.2.1.1 c.2.1.2 _ fun _=>yb c.2.2),vN c.2.1.1 (by omega) rfl⟩
  · exact⟨q,rfl⟩
theorem NP{p:bh}(hp:ik p)(me now:Int)(c:dD)(h0:((jv p me now c).1==0)=true):Gd p (jv p me now c).2.2:=by
  unfold jv at h0⊢;cases q1:oW now c
  case true=>exact Gd.self hp.ok
  cases q2:eO p.py.ag now me c.b 1 != 0
  case true=>exact Gd.self hp.ok
  cases q3:!jw p c.e (cost c)
  case true=>exact Gd.self hp.ok
  cases q4:decide ((gT p.py.ag (newObj now (dq p.py.ag now me c.b) c)).2<0)
  case true=>rw[q1,q2,q3,q4]at h0;cases h0
  simp only[RL]
  have q3:jw p c.e (cost c)=true:=by simpa using q3
  obtain⟨p1,p2,p3,p4,p5⟩:=HH hp.ok q3;obtain⟨ar,j,j1,j9,jk,jg,e,arj⟩:=GH q4;have hl:=ar.len;rw[e];generalize dq p.py.ag now me c.b=b at *;generalize i64.wrap ((nth p.py.ag (j:Int)).RG+1)=g at *;have hb:=tZ q1;obtain⟨b1,b2⟩:=KJ ((ri hp.ok).ag arj) (j:Int);have pj:=GA (ar.ok _ (ar.at (i:=(j:Int)) (by omega) (by omega)).2) jk;have ps:=sD (l:=p.py.ag) (i:=(j:Int)) (by omega) (by omega) (gD (newObj now b c) g);rw[Int.toNat_natCast]at ps;have pz:(gD (newObj now b c) g).cd=c.c:=rfl
  have key:g7 (km (dm.mk (p.py.ag.set j (gD (newObj now b c) g)) p.py.gc) (j:Int)).ag=g7 p.py.ag+c.c:=by
    rw[b2]
    show g7 (p.py.ag.set j _)=_
    rw[ps,pj,pz];omega
  refine⟨?_,M5 ?_ p4 ?_⟩
  · have hA:=lS.2 b1;unfold dH at *;simp only[RP]at p1⊢;obtain⟨a1,a2,a3,a4,a5⟩:=p1;exact⟨a1,a2,a3,hA,a5⟩
  · show ez de.cd (nT p c.e (cost c)).Rr+g7 (km (dm.mk (p.py.ag.set j (gD (newObj now b c) g)) p.py.gc) (j:Int)).ag+(nT p c.e (cost c)).dc.cd=_
    rw[key,p2,p3]
    show _-c.c+_+_=_
    omega
  · show ez de.dn (nT p c.e (cost c)).Rr+(nT p c.e (cost c)).dc.dn=_
    rw[p5]
    show _-0+_=_
    omega
theorem yl{o z:c6}(h:eG o=true)(hk:o.Rq=4)(e1:z.RG=o.RG)(e2:z.Rq=o.Rq)(e8:z.box=o.box)(e3:z.RF=o.RF)(e9:z.dY=o.dY)(e4:z.cd=o.cd)(hl:iT z=iT o)
    (hw:(z.Ry==0 || dv (i64.wrap (z.Ry-1)) 0 29999)=true) (hg:dv z.ee (-1) 999=true) (e7:z.ed=o.ed):eG z=true:=by
  unfold eG at h⊢;rw[e1,e2,e3,e4,e7,e8,e9,hl,hk];rw[hk]at h;rw[show((4:Int)==0)=false from rfl,show((4:Int) != 4)=false from rfl]at h⊢;simp only[RL,RP]at h⊢;obtain⟨a1,a2,a3,a4,a5,a6,a7,a8,a9,a10⟩:=h;exact⟨a1,a2,a3,a4,a5,a6,a7,hw,hg,a10⟩
theorem Mx{o:c6}(h:eG o=true)(hw:o.Ry ≠ 0):o.Rq=4:=by
  cases hk:o.Rq==0
  · unfold eG at h;rw[hk]at h;simp only[RL,RP]at h;obtain⟨a1,a2,a3,a4,a5,a6,a7,a8⟩:=h;cases h4:o.Rq != 4
    · simpa using h4
    · rw[h4]at a8;simp only[RM,RP,beq_iff_eq]at a8;exact absurd a8.1 hw
  · rw[rD h hk]at hw;exact absurd rfl hw
theorem He{o:c6}(h:eG o=true)(hk:o.Rq=4):dv o.ee (-1) 999=true/\(o.Ry==0 || dv (i64.wrap (o.Ry-1)) 0 29999)=true:=by
  unfold eG at h;rw[hk]at h;rw[show((4:Int)==0)=false from rfl,show((4:Int) != 4)=false from rfl]at h;simp only[RL,RP]at h;obtain⟨a1,a2,a3,a4,a5,a6,a7,a8,a9,a10⟩:=h;exact⟨a9,a8⟩
theorem yR{o:c6}(h:eG o=true)(hk:o.Rq=3){q:List eL}(hq:q.length<=2)(hm:∀m,m∈q->td m=true):eG (lN o q)=true:=by
  have hk0:(o.Rq==0)=false:=by rw[hk];rfl
  have hL:=kN h hk0;have hb:=jS h (yw hk0);refine m5 h hk0 rfl rfl hb.1 rfl hb.2.2.1 rfl ?_ rfl rfl rfl;unfold iT at hL⊢;simp only[RP,List.all_eq_true]at hL⊢;refine⟨hL.1,hL.2.1,hm,hL.2.2.2.1,hL.2.2.2.2.1,?_⟩
  show decide ((q.length:Int)<=(bif o.Rq==3 then 2 else 0))=true
  rw[hk];exact decide_eq_true (by show(q.length:Int)<=2;omega)
theorem Ep{o:c6}(h:eG o=true)(hk:o.Rq=3):o.Rs.length<=2/\∀m,m∈o.Rs->td m=true:=by
  have hk0:(o.Rq==0)=false:=by rw[hk];rfl
  have hL:=kN h hk0;unfold iT at hL;simp only[RP,List.all_eq_true,decide_eq_true_eq]at hL;have h2:=hL.2.2.2.2.2;rw[hk]at h2;have h2:(o.Rs.length:Int)<=2:=h2;exact⟨by omega,hL.2.2.1⟩
theorem Ej(p i g:Int):mA p i g=-1\/(0<=mA p i g/\mA p i g<=29999):=by
  unfold mA;split
  · rename_i h;simp only[RP,dI]at h;right;rw[dB (n:=g*10) (by omega) (by omega),dB (n:=g*10+i) (by omega) (by omega),dB (n:=(g*10+i)*3) (by omega) (by omega),dB (by omega) (by omega)];omega
  · exact .inl rfl
theorem J7{s n:Int}(hs:s=-1\/(0<=s/\s<=29999))(hn:dv n 0 999=true):td ⟨s,n⟩=true:=by
  unfold td;simp only[hn,RN,Bool.or_false]
  rcases hs with e|e
  · subst e;rfl
  · rw[dI.2 e];cases s != -1<;>rfl
theorem xg{l:List c6}(ar:Ar l){i:Int}(h0:0<=i)(h9:i<=9){z:c6}(hk:z.Rq=(nth l i).Rq)(hb:z.box=(nth l i).box)(hl:z.dk=(nth l i).dk)(ht:z.dY=(nth l i).dY)(hg:z.cd=(nth l i).cd)(ok:eG z=true):
    Ar (l.set i.toNat z)/\g7 (l.set i.toNat z)=g7 l:=⟨ar.swap h0 h9 hk hb hl (fun _=>ht) ok,vN h0 (by have:=ar.len;omega) hg⟩
theorem Mu{l:List c6}(ar:Ar l){k w b:Int}(hk:k<=9)(hw:w ≠ 0)(hb:dv b 0 999=true):Ar (uK l k w b)/\g7 (uK l k w b)=g7 l:=by
  unfold uK;cases q:decide (k>=0)&&((nth l k).Ry==w)
  · exact⟨ar,rfl⟩
  simp only[RP,decide_eq_true_eq,beq_iff_eq]at q;simp only[RM];have k0:0<=k:=q.1;have hl:=ar.len;have ok:=ar.ok _ (ar.at k0 hk).2;have k4:=Mx ok (by rw[q.2];exact hw);obtain⟨g1,g2⟩:=He ok k4;have ok1:eG (waiting (nth l k) 0)=true:=yl ok k4 rfl rfl rfl rfl rfl rfl rfl rfl g1 rfl;obtain⟨a1,a2⟩:=xg ar k0 hk (z:=waiting (nth l k) 0) rfl rfl rfl rfl rfl ok1
  have e:nth (l.set k.toNat (waiting (nth l k) 0)) k=waiting (nth l k) 0:=by rw[sJ k0 (by omega) k0,if_pos rfl]
  obtain⟨b1,b2⟩:=xg a1 k0 hk (z:=xO (nth (l.set k.toNat (waiting (nth l k) 0)) k) b) rfl rfl rfl rfl rfl (by
    rw[e];have hb1:=dI.1 hb
    exact yl ok1 k4 rfl rfl rfl rfl rfl rfl rfl rfl (dI.2 ⟨by show(-1:Int)<=b;omega,by show b<=999;omega⟩) rfl)
  exact⟨b1,b2.trans a2⟩
theorem Of{p:bh}(hp:ik p)(me now:Int){th:Int}(t0:0<=th)(t9:th<=9)(tk:(nth p.py.ag th).Rq=4)(c:dD):Gd p (jf p me now th c).2.2:=by
  unfold jf;cases q2:eO p.py.ag now me c.a 3 != 0
  case true=>exact Gd.self hp.ok
  obtain⟨ar,g0,g9,gk,_⟩:=ij (fJ q2);have k3:=JX (fJ q2) (by decide);have ha:=zi.1 (LO (fJ q2));cases q1:!dv c.b 0 999
  case true=>exact Gd.self hp.ok
  have q1:dv c.b 0 999=true:=by simpa using q1
  simp only[RL];generalize dq p.py.ag now me c.a=i at *;have hl:=ar.len;have ok:=ar.ok _ (ar.at g0 g9).2;obtain⟨u1,u2⟩:=Ep ok k3;have hA:=ri hp.ok;cases c.Rq==12
  · cases q4:((nth p.py.ag i).Rs.length:Int)==0
    case true=>exact Gd.self hp.ok
    simp only[RL];obtain⟨a1,a2⟩:=xg ar g0 g9 (z:=lN (nth p.py.ag i) ((nth p.py.ag i).Rs.drop 1)) rfl rfl rfl rfl rfl (yR ok k3 (by rw[List.length_drop];omega) fun m hm=>u2 m (List.mem_of_mem_drop hm))
    have hlen:(served p.py.ag i).length=10:=by unfold served;rw[List.length_set];exact hl
    have hgl:=sA (l:=served p.py.ag i) (now:=now) (me:=me) (h:=(nth (nth p.py.ag i).Rs 0).RJ) hlen;generalize hgs:dq (served p.py.ag i) now me (nth (nth p.py.ag i).Rs 0).RJ=k at *;obtain⟨b1,b2⟩:=Mu (l:=served p.py.ag i) a1 (k:=k) (w:=i64.wrap (c.a+1)) (b:=c.b) (by omega) (by rw[dB (by omega) (by omega)];omega) q1;exact w8 hp.ok (hA.ag b1) (b2.trans a2)
  · cases q4:decide (((nth p.py.ag i).Rs.length:Int)>=2)
    case true=>exact Gd.self hp.ok
    have q4:=of_decide_eq_false q4;simp only[RL]
    obtain⟨a1,a2⟩:=xg ar g0 g9 (z:=lN (nth p.py.ag i) ((nth p.py.ag i).Rs++[eL.mk (mA me th (nth p.py.ag th).RG) c.b])) rfl rfl rfl rfl rfl (yR ok k3 (by simp only[List.length_append,List.length_cons,List.length_nil];omega) fun m hm=>by
      rcases List.mem_append.1 hm with e|e
      · exact u2 m e
      · rw[List.mem_singleton]at e;rw[e];exact J7 (Ej _ _ _) q1)
    have hne:i ≠ th:=fun e=>by rw[e,tk]at k3;exact absurd k3 (by decide)
    have e:nth (asked p.py.ag i me th c) th=nth p.py.ag th:=by
      unfold asked;rw[sJ g0 (by omega) t0,if_neg hne]
    have okt:=ar.ok _ (ar.at t0 t9).2;obtain⟨v1,v2⟩:=He okt tk
    obtain⟨b1,b2⟩:=xg (l:=asked p.py.ag i me th c) a1 t0 t9 (z:=waiting (nth (asked p.py.ag i me th c) th) (i64.wrap (c.a+1))) rfl rfl rfl rfl rfl (by
      rw[e];refine yl okt tk rfl rfl rfl rfl rfl rfl rfl ?_ v1 rfl
      show(i64.wrap (c.a+1)==0 || dv (i64.wrap (i64.wrap (c.a+1)-1)) 0 29999)=true
      rw[dB (n:=c.a+1) (by omega) (by omega),dB (by omega) (by omega),show dv (c.a+1-1) 0 29999=true from dI.2 ⟨by omega,by omega⟩,Bool.or_true])
    exact w8 hp.ok (hA.ag b1) (b2.trans a2)
theorem MF{p:bh}(hp:ik p)(c:dD):Gd p (qD p c).2.2:=by
  unfold qD;cases !dv c.a 0 ((p.db.length:Int)-1)
  case true=>exact Gd.self hp.ok
  obtain⟨h3,ht⟩:=Hw hp.ok;refine HT hp.ok (by simp only[List.length_append,List.length_take,List.length_drop];omega) fun x hx=>?_
  rcases List.mem_append.1 hx with e|e
  · exact ht x (List.mem_of_mem_take e)
  · exact ht x (List.mem_of_mem_drop e)
theorem PR{p:bh}(hp:ik p)(me now:Int){th:Int}(t0:0<=th)(t9:th<=9)(tk:(nth p.py.ag th).Rq=4)(c:dD)(h:((fU p me now th c).1==0)=true):Gd p (fU p me now th c).2.2:=by
  unfold fU at *;cases k1:c.Rq==1
  case true=>rw[k1]at h;exact NP hp _ _ _ h
  cases(c.Rq==2) || (c.Rq==3)
  case true=>exact Oq hp _ _ _
  cases(c.Rq==4) || (c.Rq==5)
  case true=>exact Nu hp _ _ _
  cases(c.Rq==6) || (c.Rq==7)
  case true=>exact NR hp _ _ _
  cases c.Rq==8
  case true=>exact LP hp _ _ _
  cases(c.Rq==9) || ((c.Rq==10) || (c.Rq==11))
  case true=>exact Pn hp _
  cases(c.Rq==12) || (c.Rq==13)
  case true=>exact Of hp _ _ t0 t9 tk _
  cases c.Rq==14
  case true=>simp only[RL,RM,vk];exact Gd.self hp.ok
  cases c.Rq==15
  case true=>exact MF hp _
  exact Gd.self hp.ok
theorem Fj{n:Int}(h0:0<=n)(h1:n<=1000000):dv (if 1000000<i64.wrap (n+1)then 1000000 else i64.wrap (n+1)) 0 1000000=true:=by
  rw[dB (by omega) (by omega),dI];split<;>omega
theorem xh{p:bh}(h:dH p=true):(0<=p.du/\p.du<=1000000)/\(0<=p.Rx/\p.Rx<=1000000):=by
  unfold dH m8 at h;simp only[RP,dI]at h;obtain⟨a,b,c,d,e,f,g1,g2,g3,g4,g5⟩:=h;exact⟨g4,g5⟩
theorem Jy{p:bh}(h:dH p=true):Gd p (B1 p):=by
  refine⟨?_,rfl⟩;have r:=Fj (xh h).1.1 (xh h).1.2;unfold dH m8 at *;simp only[RP]at h⊢;obtain⟨a,b,c,d,e,f,g1,g2,g3,g4,g5⟩:=h;exact⟨a,b,c,d,e,f,g1,g2,g3,r,g5⟩
theorem Nz{p:bh}(h:dH p=true):Gd p (Ek p):=by
  refine⟨?_,rfl⟩;have r:=Fj (xh h).2.1 (xh h).2.2;unfold dH m8 at *;simp only[RP]at h⊢;obtain⟨a,b,c,d,e,f,g1,g2,g3,g4,g5⟩:=h;exact⟨a,b,c,d,e,f,g1,g2,g3,g4,r⟩
theorem LM{p:bh}{now th:Int}(h:ig p now th=true):(nth p.py.ag th).Rq=4:=by
  unfold ig at h;simp only[RP]at h;exact(z9 (now:=now) (by simpa using h.1)).1
theorem N0{p:bh}(hp:ik p)(me now th:Int)(c:dD):Gd p (jJ p me now th c).1:=by
  unfold jJ;cases !dH p || (!dv me 0 2 || !dv now 0 1000000)
  case true=>exact Gd.self hp.ok
  cases hc:ig p now th
  · exact Gd.self hp.ok
  obtain⟨_,t0,t9⟩:=tz hc;simp only[RN,RL];unfold fin;cases h:(fU p me now th c).1==0
  · cases(c.Rq==1)&&(((fU p me now th c).1==6) || ((fU p me now th c).1==7))
    · exact Gd.self hp.ok
    · exact Jy hp.ok
  · exact PR hp me now t0 t9 (LM hc) c h
theorem NO{p:bh}(hp:ik p){now me h:Int}{n:Int}(hn:dv n 0 999=true):Gd p (tj p (dq p.py.ag now me h) n):=by
  unfold tj;have hg:=sA (l:=p.py.ag) (now:=now) (me:=me) (h:=h) hp.ar.len;generalize dq p.py.ag now me h=g at *;cases q:lv p.py.ag g
  · exact Nz hp.ok
  · unfold lv at q;simp only[RP,decide_eq_true_eq,beq_iff_eq]at q;have hl:=hp.ar.len;have g9:=hg q.1;have ok:=hp.ar.ok _ (hp.ar.at q.1 (by omega)).2;obtain⟨u1,u2⟩:=Ep ok q.2.1;refine BR hp.ok q.1 (by omega) rfl rfl rfl (fun _=>rfl) rfl (yR ok q.2.1 (by simp only[List.length_append,List.length_cons,List.length_nil];omega) fun m hm=>?_)
    rcases List.mem_append.1 hm with e|e
    · exact u2 m e
    · rw[List.mem_singleton]at e;rw[e];exact J7 (.inl rfl) hn
theorem LH{w:dh}(hw:Wq w)(ok:eI w=true)(p th:Int)(c:dD):(ga w p th c).1=w\/∃q z,er w q=true/\pO (nth w.parts q) z/\Gd (nth w.parts q) z/\(ga w p th c).1=jU w q z:=by
  unfold ga;cases hok:!eI w || !er w p
  case true=>exact .inl rfl
  have hp:er w p=true:=by rw[ok]at hok;simpa using hok
  obtain⟨p1,p2⟩:=fu hp;have pp:=hw.HM ok p2;cases hc:ig (nth w.parts p) w.RB th
  case false=>exact .inl rfl
  cases ho:decide (other w p c<0)
  case true=>exact .inl rfl
  have hq:=sx ho;generalize other w p c=q at *;obtain⟨q1,q2⟩:=fu hq;have pq:=hw.HM ok q2;simp only[RL,RN]
  have f3:∀r:Int×Int×dh,(oq r).1=r.2.2:=fun r=>by unfold oq;cases r.1 != 0<;>rfl
  cases c.Rq==7
  case true=>rw[RM,f3,vr];exact .inl rfl
  cases c.Rq==17
  case true =>
    rw[RL,RM,f3];unfold oU;cases hb:dv c.b 0 999
    case false=>exact .inl rfl
    cases kS w p p q
    case false=>exact .inl rfl
    exact .inr ⟨q,_,hq,CJ pq c.b,NO pq hb,rfl⟩
  cases c.Rq==16
  case true =>
    rw[RL,RL,RM,f3];unfold ua;cases h1:decide (c.d<0) || !gO (nB c)
    case true=>exact .inl rfl
    cases kS w p p q
    case false=>exact .inl rfl
    cases eh (nth w.parts p).Rr c.a
    case false=>exact .inl rfl
    cases h3:decide (((nth w.parts p).db.length:Int)>=3)
    case true=>exact .inl rfl
    have h3:=of_decide_eq_false h3;simp only[Bool.or_eq_false_iff,Bool.not_eq_false']at h1;refine .inr ⟨p,_,hp,HG pp (nB c),HT pp.ok (by simp only[List.length_append,List.length_cons,List.length_nil];omega) fun x hx=>?_,rfl⟩
    rcases List.mem_append.1 hx with e|e
    · exact(Hw pp.ok).2 x e
    · rw[List.mem_singleton]at e;rw[e];exact h1.2
  have h:=H5 pp.sz pp.w p w.RB th c;exact .inr ⟨p,_,hp,⟨h.1,h.2,DX pp.sz pp.w p w.RB th c⟩,N0 pp p w.RB th c,rfl⟩
end Go.Kx
