import Derived.Test.YtfmfgnhbgcjajaaGreatGo
import Derived.Test.YtfmfgnhbgcjajaaGreatLaw
namespace Go.Kx
open Go Go.RowKit
set_option linter.unusedVariables false
set_option linter.unusedSimpArgs false
set_option linter.unusedSectionVars false
section
variable {w w0:World} {F0:List Nat} {L K:List Item}
theorem St.conv{α:Type}{M:α->List Item}{R:α->Prop}(hS:St w0 F0 w (K++L))(h:∀F,eH K w F->∃x F',R x/\F'.Perm F/\eH (M x) w F'):∃x,R x/\St w0 F0 w (M x++L):=by
  obtain⟨F,hF,hn,hb⟩:=hS.own;obtain⟨F1,F2,rfl,h1,h2⟩:=eH.append.1 hF;obtain⟨x,F',hR,hp,hM⟩:=h F1 h1;have hp2:(F'++F2).Perm (F1++F2):=hp.append_right F2;exact⟨x,hR,hS.os,hS.tape,hS.output,hS.size,hS.same,F'++F2,eH.append.2 ⟨F',F2,rfl,hM,h2⟩,hp2.nodup_iff.2 hn,fun b hm=>hb b (hp2.mem_iff.1 hm)⟩
end
def rv(p:bh)(h:Hd):fG:=fG.mk p.Rp p.own h p.py p.db p.RA p.Rz p.dc p.du p.Rx
def vo(v:fG)(t:List dj):bh:=bh.mk v.Rp v.own t v.py v.db v.RA v.Rz v.dc v.du v.Rx
def xe:List Hd->List (List dj)->List Item
  | h::hs,t::ts=>sl h.a h.c t::xe hs ts
  | _,_=>[]
def tl(hs:List Hd)(ts:List (List dj)):Item:=⟨fun w F=>eH (xe hs ts) w F,fun _ _ _ h hb=>h.frame hb⟩
def mF:List Hd->List (List dj)->Prop
  | [],[]=>True
  | h::hs,t::ts=>h.n=t.length/\mF hs ts
  | _,_=>False
theorem mF.len:∀{hs:List Hd} {ts:List (List dj)},mF hs ts->hs.length=ts.length
  | [],[],_=>rfl
  | _::_,_::_,h=>by simp[mF.len h.2]
  | [],_::_,h=>h.elim
  | _::_,[],h=>h.elim
section
variable {w:World}
theorem I6{cs:List Value}{F:List Nat}{x:bh}(h:dp.own w cs F x):∃(k:Hd) (F1 F2:List Nat),(F1++F2).Perm F/\dp.own w cs F1 (rv x k)/\jA w k.a k.c F2 x.Rr/\k.n=x.Rr.length:=by
  obtain⟨a0,c0,a1,c1,a2,c2,a3,c3,a7,c7,a8,c8,rfl,f0,r0,rfl,h0,f1,r1,rfl,h1,f2,r2,rfl,h2,hr⟩:=h;refine⟨⟨a2,x.Rr.length,c2⟩,f0++(f1++r2),f2,?_,⟨a0,c0,a1,c1,a3,c3,a7,c7,a8,c8,rfl,f0,_,rfl,h0,f1,_,rfl,h1,hr⟩,h2,rfl⟩;rw[List.append_assoc,List.append_assoc];exact(List.perm_append_comm.append_left f1).append_left f0
theorem Jd{cs:List Value}{F1 F2:List Nat}{v:fG}{t:List dj}(h:dp.own w cs F1 v)(ht:jA w v.Rr.a v.Rr.c F2 t)(hn:v.Rr.n=t.length):∃F,F.Perm (F1++F2)/\dp.own w cs F (vo v t):=by
  obtain⟨lb,ow,⟨ta,tn,tc⟩,hp,tp,nx,wt,sp,pr,lo⟩:=v;cases hn;obtain⟨a0,c0,a1,c1,a3,c3,a7,c7,a8,c8,rfl,f0,r0,rfl,h0,f1,r1,rfl,h1,hr⟩:=h;refine⟨f0++(f1++(F2++r1)),?_,a0,c0,a1,c1,ta,tc,a3,c3,a7,c7,a8,c8,rfl,f0,_,rfl,h0,f1,_,rfl,h1,F2,_,rfl,ht,hr⟩;rw[List.append_assoc,List.append_assoc];exact(List.perm_append_comm.append_left f1).append_left f0
theorem four{a b c d:List Nat}:((a++b)++(c++d)).Perm ((a++c)++(b++d)):=by
  simp only[List.append_assoc];refine List.Perm.append_left a ?_;rw[<- List.append_assoc, <- List.append_assoc];exact List.perm_append_comm.append_right d
theorem AP:∀{l:List bh} {cs:List Value} {F:List Nat},fQ w cs F l->∃(hs:List Hd) (F1 F2:List Nat),(F1++F2).Perm F/\fQ w cs F1 (List.zipWith rv l hs)/\eH (xe hs (l.map (·.Rr))) w F2/\mF hs (l.map (·.Rr))
  | [],cs,F,h=>⟨[],[],[],by cases(show F=[] from h);exact List.Perm.refl _,rfl,rfl,trivial⟩
  | x::l,cs,F,⟨c1,c2,G1,G2,hc,hF,h1,h2⟩=>by
    subst hF;obtain⟨hs,F1,F2,p1,e1,e2,e3⟩:=AP h2;obtain⟨k,H1,H2,p2,d1,d2,d3⟩:=I6 h1;exact⟨k::hs,H1++F1,H2++F2,four.trans (p2.append p1),⟨c1,c2,H1,F1,hc,rfl,d1,e1⟩,⟨H2,F2,rfl,d2,e2⟩,d3,e3⟩
theorem Bx:∀{l:List fG} {ts:List (List dj)} {cs:List Value} {F1 F2:List Nat},fQ w cs F1 l->eH (xe (l.map (·.Rr)) ts) w F2->mF (l.map (·.Rr)) ts->∃F,F.Perm (F1++F2)/\fQ w cs F (List.zipWith vo l ts)
  | [],[],cs,F1,F2,h,hh,_=>⟨[],by cases(show F1=[] from h);cases(show F2=[] from hh);exact List.Perm.refl _,rfl⟩
  | [],_::_,_,_,_,_,_,h=>h.elim
  | _::_,[],_,_,_,_,_,h=>h.elim
  | x::l,t::ts,cs,F1,F2,⟨c1,c2,G1,G2,hc,hF,h1,h2⟩,⟨H1,H2,hH,k1,k2⟩,⟨n1,n2⟩=>by
    subst hF;subst hH;obtain⟨F,p1,e1⟩:=Bx h2 k2 n2;obtain⟨E,p2,e2⟩:=Jd h1 k1 n1;exact⟨E++F,(p2.append p1).trans four,⟨c1,c2,E,F,hc,rfl,e2,e1⟩⟩
theorem Bz:∀{l:List dJ} {cs:List Value} {F:List Nat},fQ w cs F l->∃hs:List Hd,fQ w cs [] (hs.map fY.mk)/\eH (xe hs (l.map (·.RH))) w F/\mF hs (l.map (·.RH))
  | [],cs,F,h=>⟨[],rfl,h,trivial⟩
  | x::l,cs,F,⟨c1,c2,G1,G2,hc,hF,h1,h2⟩=>by
    subst hF;obtain⟨hs,e1,e2,e3⟩:=Bz h2;obtain⟨a,c,rfl,f,r,rfl,d1,dr⟩:=h1;cases(show r=[] from dr);rw[List.append_nil];exact⟨⟨a,x.RH.length,c⟩::hs,⟨_,c2,[],[],hc,rfl,⟨rfl,rfl⟩,e1⟩,⟨f,G2,rfl,d1,e2⟩,rfl,e3⟩
theorem AX:∀{hs:List Hd} {ts:List (List dj)} {cs:List Value} {F1 F2:List Nat},fQ w cs F1 (hs.map fY.mk)->eH (xe hs ts) w F2->mF hs ts->F1=[]/\fQ w cs F2 (ts.map dJ.mk)
  | [],[],_,_,_,h,hh,_=>⟨h,hh⟩
  | [],_::_,_,_,_,_,_,h=>h.elim
  | _::_,[],_,_,_,_,_,h=>h.elim
  | ⟨a,n,c⟩::hs,t::ts,cs,F1,F2,⟨c1,c2,G1,G2,hc,hF,h1,h2⟩,⟨H1,H2,hH,k1,k2⟩,⟨n1,n2⟩=>by
    subst hF;subst hH;cases n1;obtain⟨rfl,rfl⟩:=h1;obtain⟨rfl,e⟩:=AX h2 k2 n2;exact⟨rfl,_,c2,H1,H2,hc,rfl,⟨a,c,rfl,H1,[],by simp,k1,rfl⟩,e⟩
theorem BD{l:List bh}{hs:List Hd}(h:mF hs (l.map (·.Rr))):(List.zipWith rv l hs).length=l.length:=by
  have:=h.len;rw[List.length_map]at this;rw[List.length_zipWith,this,Nat.min_self]
theorem Mh{l:List fG}{ts:List (List dj)}(h:mF (l.map (·.Rr)) ts):(List.zipWith vo l ts).length=l.length:=by
  have:=h.len;rw[List.length_map]at this;rw[List.length_zipWith,this,Nat.min_self]
variable {w0:World} {F0:List Nat} {L:List Item} {a:Option Addr} {c:Nat}
theorem St.Lp{l:List bh}(hS:St w0 F0 w (sl a c l::L)):∃hs:List Hd,mF hs (l.map (·.Rr))/\St w0 F0 w (sl a c (List.zipWith rv l hs)::tl hs (l.map (·.Rr))::L):=by
  refine St.conv (K:=[sl a c l]) (M:=fun hs=>[sl a c (List.zipWith rv l hs),tl hs (l.map (·.Rr))]) hS ?_;rintro F ⟨F1,F2,rfl,h,h2⟩;cases(show F2=[] from h2)
  rcases h with⟨rfl,rfl,rfl,rfl⟩|⟨g,o,cur,F',ha,hg,hs,h1,h2,hF,he⟩
  · exact⟨[],[],trivial,List.Perm.refl _,[],[],rfl,.inl ⟨rfl,rfl,rfl,rfl⟩,[],[],rfl,rfl,rfl⟩
  · subst hF;obtain⟨hs',G1,G2,p,e1,e2,e3⟩:=AP he;refine⟨hs',(g::G1)++(G2++[]),e3,?_,g::G1,_,rfl,.inr ⟨g,o,cur,G1,ha,hg,hs,by rw[BD e3];exact h1,h2,rfl,e1⟩,G2,[],rfl,e2,rfl⟩;rw[List.append_nil,List.append_nil];exact p.cons g
theorem St.Kh{l:List fG}{hs:List Hd}{ts:List (List dj)}(hS:St w0 F0 w (sl a c l::tl hs ts::L))(he:l.map (·.Rr)=hs)(hl:mF hs ts):St w0 F0 w (sl a c (List.zipWith vo l ts)::L):=by
  subst he
  obtain⟨_,_,h⟩:=St.conv (α:=Unit) (K:=[sl a c l,tl (l.map (·.Rr)) ts]) (M:=fun _=>[sl a c (List.zipWith vo l ts)]) (R:=fun _=>True) hS (by
    rintro F ⟨F1,F2,rfl,h,F3,F4,rfl,h3,h4⟩;cases(show F4=[] from h4)
    rcases h with⟨rfl,rfl,rfl,rfl⟩|⟨g,o,cur,F',ha,hg,hs,h1,h2,hF,he⟩
    · cases ts with
      | nil=>cases(show F3=[] from h3);exact⟨(),[],trivial,List.Perm.refl _,[],[],rfl,.inl ⟨rfl,rfl,rfl,rfl⟩,rfl⟩
      | cons t ts=>exact hl.elim
    · subst hF;obtain⟨G,p,e⟩:=Bx he h3 hl;refine⟨(),(g::G)++[],trivial,?_,g::G,[],rfl,.inr ⟨g,o,cur,G,ha,hg,hs,by rw[Mh hl];exact h1,h2,rfl,e⟩,rfl⟩;rw[List.append_nil,List.append_nil]
      exact p.cons g)
  exact h
theorem St.Pp{l:List dJ}(hS:St w0 F0 w (sl a c l::L)):∃hs:List Hd,mF hs (l.map (·.RH))/\St w0 F0 w (sl a c (hs.map fY.mk)::tl hs (l.map (·.RH))::L):=by
  refine St.conv (K:=[sl a c l]) (M:=fun hs=>[sl a c (hs.map fY.mk),tl hs (l.map (·.RH))]) hS ?_;rintro F ⟨F1,F2,rfl,h,h2⟩;cases(show F2=[] from h2)
  rcases h with⟨rfl,rfl,rfl,rfl⟩|⟨g,o,cur,F',ha,hg,hs,h1,h2,hF,he⟩
  · exact⟨[],[],trivial,List.Perm.refl _,[],[],rfl,.inl ⟨rfl,rfl,rfl,rfl⟩,[],[],rfl,rfl,rfl⟩
  · subst hF;obtain⟨hs',e1,e2,e3⟩:=Bz he;refine⟨hs',(g::[])++(F'++[]),e3,by simp,[g],_,rfl,.inr ⟨g,o,cur,[],ha,hg,hs,?_,h2,rfl,e1⟩,F',[],rfl,e2,rfl⟩;have:=e3.len;rw[List.length_map]at this;rw[List.length_map,this];exact h1
theorem St.KM{hs:List Hd}{ts:List (List dj)}(hS:St w0 F0 w (sl a c (hs.map fY.mk)::tl hs ts::L))(hl:mF hs ts):St w0 F0 w (sl a c (ts.map dJ.mk)::L):=by
  obtain⟨_,_,h⟩:=St.conv (α:=Unit) (K:=[sl a c (hs.map fY.mk),tl hs ts]) (M:=fun _=>[sl a c (ts.map dJ.mk)]) (R:=fun _=>True) hS (by
    rintro F ⟨F1,F2,rfl,h,F3,F4,rfl,h3,h4⟩;cases(show F4=[] from h4)
    rcases h with⟨rfl,rfl,h5,rfl⟩|⟨g,o,cur,F',ha,hg,hs',h1,h2,hF,he⟩
    · cases hs with
      | cons _ _=>cases h5
      | nil=>cases ts with
        | nil=>cases(show F3=[] from h3);exact⟨(),[],trivial,List.Perm.refl _,[],[],rfl,.inl ⟨rfl,rfl,rfl,rfl⟩,rfl⟩
        | cons t ts=>exact hl.elim
    · subst hF;obtain⟨rfl,e⟩:=AX he h3 hl;have hn:=hl.len;rw[List.length_map]at h1
      exact⟨(),(g::F3)++[],trivial,by simp,g::F3,[],rfl,.inr ⟨g,o,cur,F3,ha,hg,hs',by rw[List.length_map, <- hn];exact h1,h2,rfl,e⟩,rfl⟩)
  exact h
theorem AS:∀{hs hs':List Hd} {ts ts':List (List dj)},mF hs ts->xe (hs++hs') (ts++ts')=xe hs ts++xe hs' ts'
  | [],_,[],_,_=>rfl
  | [],_,_::_,_,h=>h.elim
  | _::_,_,[],_,h=>h.elim
  | h::hs,hs',t::ts,ts',k=>by
    show _::xe (hs++hs') (ts++ts')=_::(xe hs ts++xe hs' ts')
    rw[AS k.2]
theorem mF.snoc:∀{hs:List Hd} {ts:List (List dj)} {h:Hd} {t:List dj},mF hs ts->h.n=t.length->mF (hs++[h]) (ts++[t])
  | [],[],_,_,_,h=>⟨h,trivial⟩
  | [],_::_,_,_,k,_=>k.elim
  | _::_,[],_,_,k,_=>k.elim
  | _::_,_::_,_,_,k,h=>⟨k.1,mF.snoc k.2 h⟩
theorem St.PZ{hs:List Hd}{ts:List (List dj)}{t:List dj}{h:Hd}(hS:St w0 F0 w (sl h.a h.c t::tl hs ts::L))(hl:mF hs ts)(hn:h.n=t.length):St w0 F0 w (tl (hs++[h]) (ts++[t])::L):=by
  obtain⟨_,_,k⟩:=St.conv (α:=Unit) (K:=[sl h.a h.c t,tl hs ts]) (M:=fun _=>[tl (hs++[h]) (ts++[t])]) (R:=fun _=>True) hS (by
    rintro F ⟨F1,F2,rfl,h1,F3,F4,rfl,h3,h4⟩;cases(show F4=[] from h4);refine⟨(),(F3++F1)++[],trivial,by rw[List.append_nil,List.append_nil];exact List.perm_append_comm,F3++F1,[],rfl,?_,rfl⟩
    show eH (xe (hs++[h]) (ts++[t])) w (F3++F1)
    rw[AS hl]
    exact eH.append.2 ⟨F3,F1,rfl,h3,F1,[],by simp,h1,rfl⟩)
  exact k
theorem St.Q3(hS:St w0 F0 w L):St w0 F0 w (tl [] []::L):=by
  obtain⟨_,_,k⟩:=St.conv (α:=Unit) (K:=[]) (M:=fun _=>[tl [] []]) (R:=fun _=>True) hS (fun F hF=>⟨(),[],trivial,by cases(show F=[] from hF);exact List.Perm.refl _,[],[],rfl,rfl,rfl⟩);exact k
end
theorem DK{β:Type}{b:Bool}{k:Unit->Option β}{r:β}(h:(gd b).bind k=some r):b=true/\k ()=some r:=by
  cases b with
  | true=>exact⟨rfl,h⟩
  | false=>cases h
def xm(z:fG)(y:fY):fG:=fG.mk z.Rp z.own y.RH z.py z.db z.RA z.Rz z.dc z.du z.Rx
theorem DZ{pv:List fG}{n N:Nat}(hn:n=pv.length)(hN:pv.length<N)(hB:pv.length<df):
    ∃o,iter (fun s:(List fY)×Int=>(bif decide (s.2<(n:Int))then((idx pv s.2).bind fun y=>(app s.1 [fY.mk y.Rr]).bind fun z=>some (.inl (z,IntKind.i64.wrap (s.2+1))))else some (.inr (s.1,s.2)):Option (((List fY)×Int)⊕((List fY)×Int)))) N ([],0)=some o/\o.1=pv.map fun v=>fY.mk v.Rr:=by
  subst hn;refine⟨_,Cv (fun k=>((pv.take k).map fun v=>fY.mk v.Rr,(k:Int))) pv.length (r:=(pv.map fun v=>fY.mk v.Rr,(pv.length:Int))) hN ?_ ?_,rfl⟩
  · intro k hk;have hy:pv[k]?=some pv[k]:=List.getElem?_eq_getElem hk
    have hl:((pv.take k).map fun v=>fY.mk v.Rr).length=k:=by rw[List.length_map,List.length_take];omega
    simp only[ei hk,RM,dM,hy,RK]
    have e:pv.take (k+1)=pv.take k++[pv[k]]:=by rw[List.take_add_one,hy];rfl
    rw[fZ (k:=k) (by rw[hl];exact Nat.le_refl _) (by omega),RK,eB (Nat.lt_trans hk hB),e,List.map_append];rfl
  · simp only[ep,RL,List.take_length]
theorem Oe{pv:List fG}{tv:List fY}{n N:Nat}(hn:n=tv.length)(hl:tv.length=pv.length)(hN:tv.length<N)(hB:tv.length<df):
    ∃o,iter (fun s:(List fG)×Int=>(bif decide (s.2<(n:Int))then((idx tv s.2).bind fun y=>(idx s.1 s.2).bind fun z=>(some (s.1.set (s.2:Int).toNat (fG.mk z.Rp z.own y.RH z.py z.db z.RA z.Rz z.dc z.du z.Rx))).bind fun q=>some (.inl (q,IntKind.i64.wrap (s.2+1))))else some (.inr (s.1,s.2)):Option (((List fG)×Int)⊕((List fG)×Int)))) N (pv,0)=some o/\o.1=List.zipWith xm pv tv:=by
  subst hn;refine⟨_,Cv (fun k=>(List.zipWith xm (pv.take k) (tv.take k)++pv.drop k,(k:Int))) tv.length (r:=(List.zipWith xm pv tv,(tv.length:Int))) hN ?_ ?_,rfl⟩
  · intro k hk;have hy:tv[k]?=some tv[k]:=List.getElem?_eq_getElem hk;have hz:pv[k]?=some (pv[k]'(hl ▸ hk)):=List.getElem?_eq_getElem _
    have hL:(List.zipWith xm (pv.take k) (tv.take k)).length=k:=by rw[List.length_zipWith,List.length_take,List.length_take];omega
    have hd:pv.drop k=(pv[k]'(hl ▸ hk))::pv.drop (k+1):=List.drop_eq_getElem_cons _
    have hg:(List.zipWith xm (pv.take k) (tv.take k)++pv.drop k)[k]?=some (pv[k]'(hl ▸ hk)):=by
      rw[List.getElem?_append_right (by omega),hL,Nat.sub_self,hd];rfl
    simp only[ei hk,RM,dM,hy,hg,RK,eB (Nat.lt_trans hk hB),Int.toNat_natCast];refine congrArg (fun q=>some (Sum.inl (q,((k+1:Nat):Int)))) ?_
    have e1:pv.take (k+1)=pv.take k++[pv[k]'(hl ▸ hk)]:=by rw[List.take_add_one,hz];rfl
    have e2:tv.take (k+1)=tv.take k++[tv[k]]:=by rw[List.take_add_one,hy];rfl
    rw[List.set_append,if_neg (by omega),hL,Nat.sub_self,hd,e1,e2,List.zipWith_append (by rw[List.length_take,List.length_take];omega),List.append_assoc];rfl
  · simp only[ep,RL];rw[List.take_length,hl,List.take_length,List.drop_length,List.append_nil]
theorem B0:∀{l:List bh} {hs:List Hd},hs.length=l.length->(List.zipWith rv l hs).map (fun v=>fY.mk v.Rr)=hs.map fY.mk
  | [],[],_=>rfl
  | [],_::_,h=>by simp at h
  | _::_,[],h=>by simp at h
  | _::l,_::hs,h=>by
    show _::(List.zipWith rv l hs).map _=_::hs.map _
    rw[B0 (by simpa using h)];rfl
theorem LC:∀{pv:List fG} {ht:List Hd},ht.length=pv.length->(List.zipWith xm pv (ht.map fY.mk)).map (·.Rr)=ht
  | [],[],_=>rfl
  | [],_::_,h=>by simp at h
  | _::_,[],h=>by simp at h
  | v::pv,h::ht,k=>by
    show h::(List.zipWith xm pv (ht.map fY.mk)).map (·.Rr)=h::ht
    rw[LC (by simpa using k)]
theorem HJ:∀{l:List bh} {hs ht:List Hd} {ts:List (List dj)},hs.length=l.length->ht.length=l.length->List.zipWith vo (List.zipWith xm (List.zipWith rv l hs) (ht.map fY.mk)) ts=eW l ts
  | [],_,_,_,_,_=>by simp[eW]
  | _::_,[],_,_,h,_=>by simp at h
  | _::_,_::_,[],_,_,h=>by simp at h
  | _::l,_::hs,_::ht,[],_,_=>by simp[eW]
  | p::l,h::hs,k::ht,t::ts,h1,h2=>by
    show jV p t::List.zipWith vo (List.zipWith xm (List.zipWith rv l hs) (ht.map fY.mk)) ts=jV p t::eW l ts
    rw[HJ (by simpa using h1) (by simpa using h2)]
theorem yu{l:List bh}{ts:List (List dj)}(h:ts.length=l.length):(eW l ts).length=l.length:=by
  unfold eW;rw[List.length_zipWith,h,Nat.min_self]
theorem NI{l:List bh}{hs:List Hd}{pv:List fG}{i:Int}{z:bh}(hpv:pv=List.zipWith rv l hs)(hhs:hs.length=l.length)(hz:idx l i=some z):∃h,idx pv i=some (rv z h):=by
  unfold idx at hz⊢;split at hz
  · have hlt:i.toNat<hs.length:=by rw[hhs];exact(List.getElem?_eq_some_iff.1 hz).1
    refine⟨hs[i.toNat],?_⟩;rw[if_pos (by assumption),hpv,List.getElem?_zipWith,hz,List.getElem?_eq_getElem hlt]
  · cases hz
def Rl(l:List bh)(pv:List fG)(hs:List Hd)(ts:List (List dj))(i:Int):Prop :=
  (∃h0:List Hd,h0.length=l.length/\pv=List.zipWith rv l h0/\h0.take hs.length=hs)/\mF hs ts/\i=(hs.length:Int)
theorem Rl.ix{l:List bh}{pv:List fG}{hs:List Hd}{ts:List (List dj)}{i:Int}(h:Rl l pv hs ts i)(hc:decide (i<(l.length:Int))=true):∃v,idx pv i=some v:=by
  obtain⟨⟨h0,e0,rfl,_⟩,_,rfl⟩:=h;have hk:=of_decide_eq_true hc
  have hlt:hs.length<l.length:=by omega
  exact⟨rv (l[hs.length]'hlt) (h0[hs.length]'(by omega)),by rw[dM,List.getElem?_zipWith,List.getElem?_eq_getElem hlt,List.getElem?_eq_getElem (by omega)]⟩
theorem Rl.step{l:List bh}{pv:List fG}{hs:List Hd}{ts:List (List dj)}{i:Int}{v:fG}{t:List dj}{h:Hd}(r:Rl l pv hs ts i)(hc:decide (i<(l.length:Int))=true)(hB:l.length<df)(hx:idx pv i=some v)(hn:h.n=t.length):
    Rl l (pv.set (i:Int).toNat (fG.mk v.Rp v.own h v.py v.db v.RA v.Rz v.dc v.du v.Rx)) (hs++[h]) (ts++[t]) (IntKind.i64.wrap (i+1)):=by
  obtain⟨⟨h0,e0,rfl,e1⟩,e2,rfl⟩:=r;have hk:=of_decide_eq_true hc
  have hlt:hs.length<l.length:=by omega
  have hg:(List.zipWith rv l h0)[hs.length]?=some (rv (l[hs.length]'hlt) (h0[hs.length]'(by omega))):=by rw[List.getElem?_zipWith,List.getElem?_eq_getElem hlt,List.getElem?_eq_getElem (by omega)]
  rw[dM,hg]at hx;cases Option.some.inj hx;refine⟨⟨h0.set hs.length h,by rw[List.length_set,e0],?_,?_⟩,e2.snoc hn,?_⟩
  · rw[Int.toNat_natCast];apply List.ext_getElem? fun k=>?_
    by_cases hkk:hs.length=k
    · subst hkk;rw[List.getElem?_set_self (by rw[List.length_zipWith];omega),List.getElem?_zipWith,List.getElem?_set_self (by omega),List.getElem?_eq_getElem hlt];rfl
    · rw[List.getElem?_set_ne hkk,List.getElem?_zipWith,List.getElem?_zipWith,List.getElem?_set_ne hkk]
  · rw[List.length_append,List.length_cons,List.length_nil,Nat.zero_add,List.take_add_one,List.take_set_of_le (Nat.le_refl _),e1,List.getElem?_set,if_pos rfl,if_pos (by omega)];rfl
  · rw[eB (Nat.lt_trans hlt hB),List.length_append];rfl
theorem Fy:∀{l:List bh} {hs:List Hd},hs.length=l.length->(List.zipWith rv l hs).map (·.Rr)=hs
  | [],[],_=>rfl
  | [],_::_,h=>by simp at h
  | _::_,[],h=>by simp at h
  | _::l,h::hs,k=>by
    show h::(List.zipWith rv l hs).map (·.Rr)=h::hs
    rw[Fy (by simpa using k)]
theorem Hc:∀{l:List bh} {hs:List Hd} {ts:List (List dj)},hs.length=l.length->mF hs ts->List.zipWith vo (List.zipWith rv l hs) ts=eW l ts
  | [],[],[],_,_=>rfl
  | [],[],_::_,_,h=>h.elim
  | [],_::_,_,h,_=>by simp at h
  | _::_,[],_,h,_=>by simp at h
  | _::_,_::_,[],_,h=>h.elim
  | p::l,h::hs,t::ts,k,e=>by
    show jV p t::List.zipWith vo (List.zipWith rv l hs) ts=jV p t::eW l ts
    rw[Hc (by simpa using k) e.2]
theorem Rl.fin{l:List bh}{pv:List fG}{hs:List Hd}{ts:List (List dj)}{i:Int}(r:Rl l pv hs ts i)(hc:decide (i<(l.length:Int))=false):pv.map (·.Rr)=hs/\List.zipWith vo pv ts=eW l ts/\ts.length=l.length:=by
  obtain⟨⟨h0,e0,rfl,e1⟩,e2,rfl⟩:=r;have hk:=of_decide_eq_false hc
  have hle:hs.length<=h0.length:=by rw[<- e1,List.length_take];omega
  have hh:h0=hs:=by rw[<- e1,List.take_of_length_le (by omega)]
  subst hh;exact⟨Fy e0,Hc e0 e2,by rw[<- e2.len,e0]⟩
end Go.Kx
