import Derived.Test.YtfmfgnhbgcjajaaGreatGo
import Derived.Test.YtfmfgnhbgcjajaaGreatLaw
namespace Go.Kx
open Go Go.RowKit
set_option linter.unusedVariables false
set_option linter.unusedSimpArgs false
set_option linter.unusedSectionVars false
section
variable {w w0:World} {F0:List Nat} {L K:List Item}
theorem St.conv{α:Type}{M:α->List Item}{R:α->Prop}(hS:St w0 F0 w (K++L))(h:∀F,eK K w F->∃x F',R x/\F'.Perm F/\eK (M x) w F'):∃x,R x/\St w0 F0 w (M x++L):=by
  obtain⟨F,hF,hn,hb⟩:=hS.own;obtain⟨F1,F2,rfl,h1,h2⟩:=eK.append.1 hF;obtain⟨x,F',hR,hp,hM⟩:=h F1 h1;have hp2:(F'++F2).Perm (F1++F2):=hp.append_right F2;exact⟨x,hR,hS.os,hS.tape,hS.output,hS.size,hS.same,F'++F2,eK.append.2 ⟨F',F2,rfl,hM,h2⟩,hp2.nodup_iff.2 hn,fun b hm=>hb b (hp2.mem_iff.1 hm)⟩
end
def rR(p:bh)(h:Hd):fZ:=fZ.mk p.Rg p.own h p.heap p.dc p.Rr p.Rq p.db p.dx p.Rp
def vJ(v:fZ)(t:List dp):bh:=bh.mk v.Rg v.own t v.heap v.dc v.Rr v.Rq v.db v.dx v.Rp
def xo:List Hd->List (List dp)->List Item
  | h::hs,t::ts=>sl h.a h.c t::xo hs ts
  | _,_=>[]
def tl(hs:List Hd)(ts:List (List dp)):Item:=⟨fun w F=>eK (xo hs ts) w F,fun _ _ _ h hb=>h.frame hb⟩
def mT:List Hd->List (List dp)->Prop
  | [],[]=>True
  | h::hs,t::ts=>h.n=t.length/\mT hs ts
  | _,_=>False
theorem mT.len:∀{hs:List Hd} {ts:List (List dp)},mT hs ts->hs.length=ts.length
  | [],[],_=>rfl
  | _::_,_::_,h=>by simp[mT.len h.2]
  | [],_::_,h=>h.elim
  | _::_,[],h=>h.elim
section
variable {w:World}
theorem Ih{cs:List Value}{F:List Nat}{x:bh}(h:dv.own w cs F x):∃(k:Hd) (F1 F2:List Nat),(F1++F2).Perm F/\dv.own w cs F1 (rR x k)/\kC w k.a k.c F2 x.Rh/\k.n=x.Rh.length:=by
  obtain⟨a0,c0,a1,c1,a2,c2,a3,c3,a7,c7,a8,c8,rfl,f0,r0,rfl,h0,f1,r1,rfl,h1,f2,r2,rfl,h2,hr⟩:=h;refine⟨⟨a2,x.Rh.length,c2⟩,f0++(f1++r2),f2,?_,⟨a0,c0,a1,c1,a3,c3,a7,c7,a8,c8,rfl,f0,_,rfl,h0,f1,_,rfl,h1,hr⟩,h2,rfl⟩;rw[List.append_assoc,List.append_assoc];exact(List.perm_append_comm.append_left f1).append_left f0
theorem Iv{cs:List Value}{F1 F2:List Nat}{v:fZ}{t:List dp}(h:dv.own w cs F1 v)(ht:kC w v.Rh.a v.Rh.c F2 t)(hn:v.Rh.n=t.length):∃F,F.Perm (F1++F2)/\dv.own w cs F (vJ v t):=by
  obtain⟨lb,ow,⟨ta,tn,tc⟩,hp,tp,nx,wt,sp,pr,lo⟩:=v;cases hn;obtain⟨a0,c0,a1,c1,a3,c3,a7,c7,a8,c8,rfl,f0,r0,rfl,h0,f1,r1,rfl,h1,hr⟩:=h;refine⟨f0++(f1++(F2++r1)),?_,a0,c0,a1,c1,ta,tc,a3,c3,a7,c7,a8,c8,rfl,f0,_,rfl,h0,f1,_,rfl,h1,F2,_,rfl,ht,hr⟩;rw[List.append_assoc,List.append_assoc];exact(List.perm_append_comm.append_left f1).append_left f0
theorem four{a b c d:List Nat}:((a++b)++(c++d)).Perm ((a++c)++(b++d)):=by
  simp only[List.append_assoc];refine List.Perm.append_left a ?_;rw[<- List.append_assoc, <- List.append_assoc];exact List.perm_append_comm.append_right d
theorem AQ:∀{l:List bh} {cs:List Value} {F:List Nat},gq w cs F l->∃(hs:List Hd) (F1 F2:List Nat),(F1++F2).Perm F/\gq w cs F1 (List.zipWith rR l hs)/\eK (xo hs (l.map (·.Rh))) w F2/\mT hs (l.map (·.Rh))
  | [],cs,F,h=>⟨[],[],[],by cases(show F=[] from h);exact List.Perm.refl _,rfl,rfl,trivial⟩
  | x::l,cs,F,⟨c1,c2,G1,G2,hc,hF,h1,h2⟩=>by
    subst hF;obtain⟨hs,F1,F2,p1,e1,e2,e3⟩:=AQ h2;obtain⟨k,H1,H2,p2,d1,d2,d3⟩:=Ih h1;exact⟨k::hs,H1++F1,H2++F2,four.trans (p2.append p1),⟨c1,c2,H1,F1,hc,rfl,d1,e1⟩,⟨H2,F2,rfl,d2,e2⟩,d3,e3⟩
theorem Bu:∀{l:List fZ} {ts:List (List dp)} {cs:List Value} {F1 F2:List Nat},gq w cs F1 l->eK (xo (l.map (·.Rh)) ts) w F2->mT (l.map (·.Rh)) ts->∃F,F.Perm (F1++F2)/\gq w cs F (List.zipWith vJ l ts)
  | [],[],cs,F1,F2,h,hh,_=>⟨[],by cases(show F1=[] from h);cases(show F2=[] from hh);exact List.Perm.refl _,rfl⟩
  | [],_::_,_,_,_,_,_,h=>h.elim
  | _::_,[],_,_,_,_,_,h=>h.elim
  | x::l,t::ts,cs,F1,F2,⟨c1,c2,G1,G2,hc,hF,h1,h2⟩,⟨H1,H2,hH,k1,k2⟩,⟨n1,n2⟩=>by
    subst hF;subst hH;obtain⟨F,p1,e1⟩:=Bu h2 k2 n2;obtain⟨E,p2,e2⟩:=Iv h1 k1 n1;exact⟨E++F,(p2.append p1).trans four,⟨c1,c2,E,F,hc,rfl,e2,e1⟩⟩
theorem BK:∀{l:List dU} {cs:List Value} {F:List Nat},gq w cs F l->∃hs:List Hd,gq w cs [] (hs.map gz.mk)/\eK (xo hs (l.map (·.Ry))) w F/\mT hs (l.map (·.Ry))
  | [],cs,F,h=>⟨[],rfl,h,trivial⟩
  | x::l,cs,F,⟨c1,c2,G1,G2,hc,hF,h1,h2⟩=>by
    subst hF;obtain⟨hs,e1,e2,e3⟩:=BK h2;obtain⟨a,c,rfl,f,r,rfl,d1,dr⟩:=h1;cases(show r=[] from dr);rw[List.append_nil];exact⟨⟨a,x.Ry.length,c⟩::hs,⟨_,c2,[],[],hc,rfl,⟨rfl,rfl⟩,e1⟩,⟨f,G2,rfl,d1,e2⟩,rfl,e3⟩
theorem Bn:∀{hs:List Hd} {ts:List (List dp)} {cs:List Value} {F1 F2:List Nat},gq w cs F1 (hs.map gz.mk)->eK (xo hs ts) w F2->mT hs ts->F1=[]/\gq w cs F2 (ts.map dU.mk)
  | [],[],_,_,_,h,hh,_=>⟨h,hh⟩
  | [],_::_,_,_,_,_,_,h=>h.elim
  | _::_,[],_,_,_,_,_,h=>h.elim
  | ⟨a,n,c⟩::hs,t::ts,cs,F1,F2,⟨c1,c2,G1,G2,hc,hF,h1,h2⟩,⟨H1,H2,hH,k1,k2⟩,⟨n1,n2⟩=>by
    subst hF;subst hH;cases n1;obtain⟨rfl,rfl⟩:=h1;obtain⟨rfl,e⟩:=Bn h2 k2 n2;exact⟨rfl,_,c2,H1,H2,hc,rfl,⟨a,c,rfl,H1,[],by simp,k1,rfl⟩,e⟩
theorem BQ{l:List bh}{hs:List Hd}(h:mT hs (l.map (·.Rh))):(List.zipWith rR l hs).length=l.length:=by
  have:=h.len;rw[List.length_map]at this;rw[List.length_zipWith,this,Nat.min_self]
theorem Mh{l:List fZ}{ts:List (List dp)}(h:mT (l.map (·.Rh)) ts):(List.zipWith vJ l ts).length=l.length:=by
  have:=h.len;rw[List.length_map]at this;rw[List.length_zipWith,this,Nat.min_self]
variable {w0:World} {F0:List Nat} {L:List Item} {a:Option Addr} {c:Nat}
theorem St.Ln{l:List bh}(hS:St w0 F0 w (sl a c l::L)):∃hs:List Hd,mT hs (l.map (·.Rh))/\St w0 F0 w (sl a c (List.zipWith rR l hs)::tl hs (l.map (·.Rh))::L):=by
  refine St.conv (K:=[sl a c l]) (M:=fun hs=>[sl a c (List.zipWith rR l hs),tl hs (l.map (·.Rh))]) hS ?_;rintro F ⟨F1,F2,rfl,h,h2⟩;cases(show F2=[] from h2)
  rcases h with⟨rfl,rfl,rfl,rfl⟩|⟨g,o,cur,F',ha,hg,hs,h1,h2,hF,he⟩
  · exact⟨[],[],trivial,List.Perm.refl _,[],[],rfl,.inl ⟨rfl,rfl,rfl,rfl⟩,[],[],rfl,rfl,rfl⟩
  · subst hF;obtain⟨hs',G1,G2,p,e1,e2,e3⟩:=AQ he;refine⟨hs',(g::G1)++(G2++[]),e3,?_,g::G1,_,rfl,.inr ⟨g,o,cur,G1,ha,hg,hs,by rw[BQ e3];exact h1,h2,rfl,e1⟩,G2,[],rfl,e2,rfl⟩;rw[List.append_nil,List.append_nil];exact p.cons g
theorem St.KT{l:List fZ}{hs:List Hd}{ts:List (List dp)}(hS:St w0 F0 w (sl a c l::tl hs ts::L))(he:l.map (·.Rh)=hs)(hl:mT hs ts):St w0 F0 w (sl a c (List.zipWith vJ l ts)::L):=by
  subst he
  obtain⟨_,_,h⟩:=St.conv (α:=Unit) (K:=[sl a c l,tl (l.map (·.Rh)) ts]) (M:=fun _=>[sl a c (List.zipWith vJ l ts)]) (R:=fun _=>True) hS (by
    rintro F ⟨F1,F2,rfl,h,F3,F4,rfl,h3,h4⟩;cases(show F4=[] from h4)
    rcases h with⟨rfl,rfl,rfl,rfl⟩|⟨g,o,cur,F',ha,hg,hs,h1,h2,hF,he⟩
    · cases ts with
      | nil=>cases(show F3=[] from h3);exact⟨(),[],trivial,List.Perm.refl _,[],[],rfl,.inl ⟨rfl,rfl,rfl,rfl⟩,rfl⟩
      | cons t ts=>exact hl.elim
    · subst hF;obtain⟨G,p,e⟩:=Bu he h3 hl;refine⟨(),(g::G)++[],trivial,?_,g::G,[],rfl,.inr ⟨g,o,cur,G,ha,hg,hs,by rw[Mh hl];exact h1,h2,rfl,e⟩,rfl⟩;rw[List.append_nil,List.append_nil]
      exact p.cons g)
  exact h
theorem St.O7{l:List dU}(hS:St w0 F0 w (sl a c l::L)):∃hs:List Hd,mT hs (l.map (·.Ry))/\St w0 F0 w (sl a c (hs.map gz.mk)::tl hs (l.map (·.Ry))::L):=by
  refine St.conv (K:=[sl a c l]) (M:=fun hs=>[sl a c (hs.map gz.mk),tl hs (l.map (·.Ry))]) hS ?_;rintro F ⟨F1,F2,rfl,h,h2⟩;cases(show F2=[] from h2)
  rcases h with⟨rfl,rfl,rfl,rfl⟩|⟨g,o,cur,F',ha,hg,hs,h1,h2,hF,he⟩
  · exact⟨[],[],trivial,List.Perm.refl _,[],[],rfl,.inl ⟨rfl,rfl,rfl,rfl⟩,[],[],rfl,rfl,rfl⟩
  · subst hF;obtain⟨hs',e1,e2,e3⟩:=BK he;refine⟨hs',(g::[])++(F'++[]),e3,by simp,[g],_,rfl,.inr ⟨g,o,cur,[],ha,hg,hs,?_,h2,rfl,e1⟩,F',[],rfl,e2,rfl⟩;have:=e3.len;rw[List.length_map]at this;rw[List.length_map,this];exact h1
theorem St.Km{hs:List Hd}{ts:List (List dp)}(hS:St w0 F0 w (sl a c (hs.map gz.mk)::tl hs ts::L))(hl:mT hs ts):St w0 F0 w (sl a c (ts.map dU.mk)::L):=by
  obtain⟨_,_,h⟩:=St.conv (α:=Unit) (K:=[sl a c (hs.map gz.mk),tl hs ts]) (M:=fun _=>[sl a c (ts.map dU.mk)]) (R:=fun _=>True) hS (by
    rintro F ⟨F1,F2,rfl,h,F3,F4,rfl,h3,h4⟩;cases(show F4=[] from h4)
    rcases h with⟨rfl,rfl,h5,rfl⟩|⟨g,o,cur,F',ha,hg,hs',h1,h2,hF,he⟩
    · cases hs with
      | cons _ _=>cases h5
      | nil=>cases ts with
        | nil=>cases(show F3=[] from h3);exact⟨(),[],trivial,List.Perm.refl _,[],[],rfl,.inl ⟨rfl,rfl,rfl,rfl⟩,rfl⟩
        | cons t ts=>exact hl.elim
    · subst hF;obtain⟨rfl,e⟩:=Bn he h3 hl;have hn:=hl.len;rw[List.length_map]at h1
      exact⟨(),(g::F3)++[],trivial,by simp,g::F3,[],rfl,.inr ⟨g,o,cur,F3,ha,hg,hs',by rw[List.length_map, <- hn];exact h1,h2,rfl,e⟩,rfl⟩)
  exact h
theorem A6:∀{hs hs':List Hd} {ts ts':List (List dp)},mT hs ts->xo (hs++hs') (ts++ts')=xo hs ts++xo hs' ts'
  | [],_,[],_,_=>rfl
  | [],_,_::_,_,h=>h.elim
  | _::_,_,[],_,h=>h.elim
  | h::hs,hs',t::ts,ts',k=>by
    show _::xo (hs++hs') (ts++ts')=_::(xo hs ts++xo hs' ts')
    rw[A6 k.2]
theorem mT.snoc:∀{hs:List Hd} {ts:List (List dp)} {h:Hd} {t:List dp},mT hs ts->h.n=t.length->mT (hs++[h]) (ts++[t])
  | [],[],_,_,_,h=>⟨h,trivial⟩
  | [],_::_,_,_,k,_=>k.elim
  | _::_,[],_,_,k,_=>k.elim
  | _::_,_::_,_,_,k,h=>⟨k.1,mT.snoc k.2 h⟩
theorem St.PM{hs:List Hd}{ts:List (List dp)}{t:List dp}{h:Hd}(hS:St w0 F0 w (sl h.a h.c t::tl hs ts::L))(hl:mT hs ts)(hn:h.n=t.length):St w0 F0 w (tl (hs++[h]) (ts++[t])::L):=by
  obtain⟨_,_,k⟩:=St.conv (α:=Unit) (K:=[sl h.a h.c t,tl hs ts]) (M:=fun _=>[tl (hs++[h]) (ts++[t])]) (R:=fun _=>True) hS (by
    rintro F ⟨F1,F2,rfl,h1,F3,F4,rfl,h3,h4⟩;cases(show F4=[] from h4);refine⟨(),(F3++F1)++[],trivial,by rw[List.append_nil,List.append_nil];exact List.perm_append_comm,F3++F1,[],rfl,?_,rfl⟩
    show eK (xo (hs++[h]) (ts++[t])) w (F3++F1)
    rw[A6 hl]
    exact eK.append.2 ⟨F3,F1,rfl,h3,F1,[],by simp,h1,rfl⟩)
  exact k
theorem St.Rd(hS:St w0 F0 w L):St w0 F0 w (tl [] []::L):=by
  obtain⟨_,_,k⟩:=St.conv (α:=Unit) (K:=[]) (M:=fun _=>[tl [] []]) (R:=fun _=>True) hS (fun F hF=>⟨(),[],trivial,by cases(show F=[] from hF);exact List.Perm.refl _,[],[],rfl,rfl,rfl⟩);exact k
end
theorem DH{β:Type}{b:Bool}{k:Unit->Option β}{r:β}(h:(gd b).bind k=some r):b=true/\k ()=some r:=by
  cases b with
  | true=>exact⟨rfl,h⟩
  | false=>cases h
def xz(z:fZ)(y:gz):fZ:=fZ.mk z.Rg z.own y.Ry z.heap z.dc z.Rr z.Rq z.db z.dx z.Rp
theorem ET{pv:List fZ}{n N:Nat}(hn:n=pv.length)(hN:pv.length<N)(hB:pv.length<dg):
    ∃o,iter (fun s:(List gz)×Int=>(bif decide (s.2<(n:Int))then((idx pv s.2).bind fun y=>(app s.1 [gz.mk y.Rh]).bind fun z=>some (.inl (z,IntKind.i64.wrap (s.2+1))))else some (.inr (s.1,s.2)):Option (((List gz)×Int)⊕((List gz)×Int)))) N ([],0)=some o/\o.1=pv.map fun v=>gz.mk v.Rh:=by
  subst hn;refine⟨_,Dc (fun k=>((pv.take k).map fun v=>gz.mk v.Rh,(k:Int))) pv.length (r:=(pv.map fun v=>gz.mk v.Rh,(pv.length:Int))) hN ?_ ?_,rfl⟩
  · intro k hk;have hy:pv[k]?=some pv[k]:=List.getElem?_eq_getElem hk
    have hl:((pv.take k).map fun v=>gz.mk v.Rh).length=k:=by rw[List.length_map,List.length_take];omega
    simp only[eD hk,RD,dQ,hy,RB]
    have e:pv.take (k+1)=pv.take k++[pv[k]]:=by rw[List.take_add_one,hy];rfl
    rw[gE (k:=k) (by rw[hl];exact Nat.le_refl _) (by omega),RB,eL (Nat.lt_trans hk hB),e,List.map_append];rfl
  · simp only[eE,RC,List.take_length]
theorem Nv{pv:List fZ}{tv:List gz}{n N:Nat}(hn:n=tv.length)(hl:tv.length=pv.length)(hN:tv.length<N)(hB:tv.length<dg):
    ∃o,iter (fun s:(List fZ)×Int=>(bif decide (s.2<(n:Int))then((idx tv s.2).bind fun y=>(idx s.1 s.2).bind fun z=>(some (s.1.set (s.2:Int).toNat (fZ.mk z.Rg z.own y.Ry z.heap z.dc z.Rr z.Rq z.db z.dx z.Rp))).bind fun q=>some (.inl (q,IntKind.i64.wrap (s.2+1))))else some (.inr (s.1,s.2)):Option (((List fZ)×Int)⊕((List fZ)×Int)))) N (pv,0)=some o/\o.1=List.zipWith xz pv tv:=by
  subst hn;refine⟨_,Dc (fun k=>(List.zipWith xz (pv.take k) (tv.take k)++pv.drop k,(k:Int))) tv.length (r:=(List.zipWith xz pv tv,(tv.length:Int))) hN ?_ ?_,rfl⟩
  · intro k hk;have hy:tv[k]?=some tv[k]:=List.getElem?_eq_getElem hk;have hz:pv[k]?=some (pv[k]'(hl ▸ hk)):=List.getElem?_eq_getElem _
    have hL:(List.zipWith xz (pv.take k) (tv.take k)).length=k:=by rw[List.length_zipWith,List.length_take,List.length_take];omega
    have hd:pv.drop k=(pv[k]'(hl ▸ hk))::pv.drop (k+1):=List.drop_eq_getElem_cons _
    have hg:(List.zipWith xz (pv.take k) (tv.take k)++pv.drop k)[k]?=some (pv[k]'(hl ▸ hk)):=by
      rw[List.getElem?_append_right (by omega),hL,Nat.sub_self,hd];rfl
    simp only[eD hk,RD,dQ,hy,hg,RB,eL (Nat.lt_trans hk hB),Int.toNat_natCast];refine congrArg (fun q=>some (Sum.inl (q,((k+1:Nat):Int)))) ?_
    have e1:pv.take (k+1)=pv.take k++[pv[k]'(hl ▸ hk)]:=by rw[List.take_add_one,hz];rfl
    have e2:tv.take (k+1)=tv.take k++[tv[k]]:=by rw[List.take_add_one,hy];rfl
    rw[List.set_append,if_neg (by omega),hL,Nat.sub_self,hd,e1,e2,List.zipWith_append (by rw[List.length_take,List.length_take];omega),List.append_assoc];rfl
  · simp only[eE,RC];rw[List.take_length,hl,List.take_length,List.drop_length,List.append_nil]
theorem B3:∀{l:List bh} {hs:List Hd},hs.length=l.length->(List.zipWith rR l hs).map (fun v=>gz.mk v.Rh)=hs.map gz.mk
  | [],[],_=>rfl
  | [],_::_,h=>by simp at h
  | _::_,[],h=>by simp at h
  | _::l,_::hs,h=>by
    show _::(List.zipWith rR l hs).map _=_::hs.map _
    rw[B3 (by simpa using h)];rfl
theorem J5:∀{pv:List fZ} {ht:List Hd},ht.length=pv.length->(List.zipWith xz pv (ht.map gz.mk)).map (·.Rh)=ht
  | [],[],_=>rfl
  | [],_::_,h=>by simp at h
  | _::_,[],h=>by simp at h
  | v::pv,h::ht,k=>by
    show h::(List.zipWith xz pv (ht.map gz.mk)).map (·.Rh)=h::ht
    rw[J5 (by simpa using k)]
theorem HN:∀{l:List bh} {hs ht:List Hd} {ts:List (List dp)},hs.length=l.length->ht.length=l.length->List.zipWith vJ (List.zipWith xz (List.zipWith rR l hs) (ht.map gz.mk)) ts=fb l ts
  | [],_,_,_,_,_=>by simp[fb]
  | _::_,[],_,_,h,_=>by simp at h
  | _::_,_::_,[],_,_,h=>by simp at h
  | _::l,_::hs,_::ht,[],_,_=>by simp[fb]
  | p::l,h::hs,k::ht,t::ts,h1,h2=>by
    show lR p t::List.zipWith vJ (List.zipWith xz (List.zipWith rR l hs) (ht.map gz.mk)) ts=lR p t::fb l ts
    rw[HN (by simpa using h1) (by simpa using h2)]
theorem yL{l:List bh}{ts:List (List dp)}(h:ts.length=l.length):(fb l ts).length=l.length:=by
  unfold fb;rw[List.length_zipWith,h,Nat.min_self]
theorem NJ{l:List bh}{hs:List Hd}{pv:List fZ}{i:Int}{z:bh}(hpv:pv=List.zipWith rR l hs)(hhs:hs.length=l.length)(hz:idx l i=some z):∃h,idx pv i=some (rR z h):=by
  unfold idx at hz⊢;split at hz
  · have hlt:i.toNat<hs.length:=by rw[hhs];exact(List.getElem?_eq_some_iff.1 hz).1
    refine⟨hs[i.toNat],?_⟩;rw[if_pos (by assumption),hpv,List.getElem?_zipWith,hz,List.getElem?_eq_getElem hlt]
  · cases hz
def Rl(l:List bh)(pv:List fZ)(hs:List Hd)(ts:List (List dp))(i:Int):Prop :=
  (∃h0:List Hd,h0.length=l.length/\pv=List.zipWith rR l h0/\h0.take hs.length=hs)/\mT hs ts/\i=(hs.length:Int)
theorem Rl.ix{l:List bh}{pv:List fZ}{hs:List Hd}{ts:List (List dp)}{i:Int}(h:Rl l pv hs ts i)(hc:decide (i<(l.length:Int))=true):∃v,idx pv i=some v:=by
  obtain⟨⟨h0,e0,rfl,_⟩,_,rfl⟩:=h;have hk:=of_decide_eq_true hc
  have hlt:hs.length<l.length:=by omega
  exact⟨rR (l[hs.length]'hlt) (h0[hs.length]'(by omega)),by rw[dQ,List.getElem?_zipWith,List.getElem?_eq_getElem hlt,List.getElem?_eq_getElem (by omega)]⟩
theorem Rl.step{l:List bh}{pv:List fZ}{hs:List Hd}{ts:List (List dp)}{i:Int}{v:fZ}{t:List dp}{h:Hd}(r:Rl l pv hs ts i)(hc:decide (i<(l.length:Int))=true)(hB:l.length<dg)(hx:idx pv i=some v)(hn:h.n=t.length):
    Rl l (pv.set (i:Int).toNat (fZ.mk v.Rg v.own h v.heap v.dc v.Rr v.Rq v.db v.dx v.Rp)) (hs++[h]) (ts++[t]) (IntKind.i64.wrap (i+1)):=by
  obtain⟨⟨h0,e0,rfl,e1⟩,e2,rfl⟩:=r;have hk:=of_decide_eq_true hc
  have hlt:hs.length<l.length:=by omega
  have hg:(List.zipWith rR l h0)[hs.length]?=some (rR (l[hs.length]'hlt) (h0[hs.length]'(by omega))):=by rw[List.getElem?_zipWith,List.getElem?_eq_getElem hlt,List.getElem?_eq_getElem (by omega)]
  rw[dQ,hg]at hx;cases Option.some.inj hx;refine⟨⟨h0.set hs.length h,by rw[List.length_set,e0],?_,?_⟩,e2.snoc hn,?_⟩
  · rw[Int.toNat_natCast];apply List.ext_getElem? fun k=>?_
    by_cases hkk:hs.length=k
    · subst hkk;rw[List.getElem?_set_self (by rw[List.length_zipWith];omega),List.getElem?_zipWith,List.getElem?_set_self (by omega),List.getElem?_eq_getElem hlt];rfl
    · rw[List.getElem?_set_ne hkk,List.getElem?_zipWith,List.getElem?_zipWith,List.getElem?_set_ne hkk]
  · rw[List.length_append,List.length_cons,List.length_nil,Nat.zero_add,List.take_add_one,List.take_set_of_le (Nat.le_refl _),e1,List.getElem?_set,if_pos rfl,if_pos (by omega)];rfl
  · rw[eL (Nat.lt_trans hlt hB),List.length_append];rfl
theorem DP:∀{l:List bh} {hs:List Hd},hs.length=l.length->(List.zipWith rR l hs).map (·.Rh)=hs
  | [],[],_=>rfl
  | [],_::_,h=>by simp at h
  | _::_,[],h=>by simp at h
  | _::l,h::hs,k=>by
    show h::(List.zipWith rR l hs).map (·.Rh)=h::hs
    rw[DP (by simpa using k)]
theorem Hl:∀{l:List bh} {hs:List Hd} {ts:List (List dp)},hs.length=l.length->mT hs ts->List.zipWith vJ (List.zipWith rR l hs) ts=fb l ts
  | [],[],[],_,_=>rfl
  | [],[],_::_,_,h=>h.elim
  | [],_::_,_,h,_=>by simp at h
  | _::_,[],_,h,_=>by simp at h
  | _::_,_::_,[],_,h=>h.elim
  | p::l,h::hs,t::ts,k,e=>by
    show lR p t::List.zipWith vJ (List.zipWith rR l hs) ts=lR p t::fb l ts
    rw[Hl (by simpa using k) e.2]
theorem Rl.fin{l:List bh}{pv:List fZ}{hs:List Hd}{ts:List (List dp)}{i:Int}(r:Rl l pv hs ts i)(hc:decide (i<(l.length:Int))=false):pv.map (·.Rh)=hs/\List.zipWith vJ pv ts=fb l ts/\ts.length=l.length:=by
  obtain⟨⟨h0,e0,rfl,e1⟩,e2,rfl⟩:=r;have hk:=of_decide_eq_false hc
  have hle:hs.length<=h0.length:=by rw[<- e1,List.length_take];omega
  have hh:h0=hs:=by rw[<- e1,List.take_of_length_le (by omega)]
  subst hh;exact⟨DP e0,Hl e0 e2,by rw[<- e2.len,e0]⟩
end Go.Kx
