import Derived.Test.YtfmfgnhbgcjajaaGreatGo
import Derived.Test.YtfmfgnhbgcjajaaGreatLaw
namespace Go.Kx
open Go Go.RowKit
set_option linter.unusedVariables false
set_option linter.unusedSimpArgs false
set_option linter.unusedSectionVars false
section
variable {w w0:World} {F0:List Nat} {L K:List Item}
theorem St.conv{α:Type}{M:α->List Item}{R:α->Prop}(hS:St w0 F0 w (K++L))(h:∀F,eI K w F->∃x F',R x/\F'.Perm F/\eI (M x) w F'):∃x,R x/\St w0 F0 w (M x++L):=by
  obtain⟨F,hF,hn,hb⟩:=hS.own;obtain⟨F1,F2,rfl,h1,h2⟩:=eI.append.1 hF;obtain⟨x,F',hR,hp,hM⟩:=h F1 h1;have hp2:(F'++F2).Perm (F1++F2):=hp.append_right F2;exact⟨x,hR,hS.os,hS.tape,hS.output,hS.size,hS.same,F'++F2,eI.append.2 ⟨F',F2,rfl,hM,h2⟩,hp2.nodup_iff.2 hn,fun b hm=>hb b (hp2.mem_iff.1 hm)⟩
end
def rN(p:bh)(h:Hd):fY:=fY.mk p.Rd p.own h p.heap p.dc p.Ro p.Rn p.db p.dx p.Rk
def vL(v:fY)(t:List dk):bh:=bh.mk v.Rd v.own t v.heap v.dc v.Ro v.Rn v.db v.dx v.Rk
def w6:List Hd->List (List dk)->List Item
  | h::hs,t::ts=>sl h.a h.c t::w6 hs ts
  | _,_=>[]
def tl(hs:List Hd)(ts:List (List dk)):Item:=⟨fun w F=>eI (w6 hs ts) w F,fun _ _ _ h hb=>h.frame hb⟩
def mP:List Hd->List (List dk)->Prop
  | [],[]=>True
  | h::hs,t::ts=>h.n=t.length/\mP hs ts
  | _,_=>False
theorem mP.len:∀{hs:List Hd} {ts:List (List dk)},mP hs ts->hs.length=ts.length
  | [],[],_=>rfl
  | _::_,_::_,h=>by simp[mP.len h.2]
  | [],_::_,h=>h.elim
  | _::_,[],h=>h.elim
section
variable {w:World}
theorem H3{cs:List Value}{F:List Nat}{x:bh}(h:dv.own w cs F x):∃(k:Hd) (F1 F2:List Nat),(F1++F2).Perm F/\dv.own w cs F1 (rN x k)/\ku w k.a k.c F2 x.Re/\k.n=x.Re.length:=by
  obtain⟨a0,c0,a1,c1,a2,c2,a3,c3,a7,c7,a8,c8,rfl,f0,r0,rfl,h0,f1,r1,rfl,h1,f2,r2,rfl,h2,hr⟩:=h;refine⟨⟨a2,x.Re.length,c2⟩,f0++(f1++r2),f2,?_,⟨a0,c0,a1,c1,a3,c3,a7,c7,a8,c8,rfl,f0,_,rfl,h0,f1,_,rfl,h1,hr⟩,h2,rfl⟩;rw[List.append_assoc,List.append_assoc];exact(List.perm_append_comm.append_left f1).append_left f0
theorem Jo{cs:List Value}{F1 F2:List Nat}{v:fY}{t:List dk}(h:dv.own w cs F1 v)(ht:ku w v.Re.a v.Re.c F2 t)(hn:v.Re.n=t.length):∃F,F.Perm (F1++F2)/\dv.own w cs F (vL v t):=by
  obtain⟨lb,ow,⟨ta,tn,tc⟩,hp,tp,nx,wt,sp,pr,lo⟩:=v;cases hn;obtain⟨a0,c0,a1,c1,a3,c3,a7,c7,a8,c8,rfl,f0,r0,rfl,h0,f1,r1,rfl,h1,hr⟩:=h;refine⟨f0++(f1++(F2++r1)),?_,a0,c0,a1,c1,ta,tc,a3,c3,a7,c7,a8,c8,rfl,f0,_,rfl,h0,f1,_,rfl,h1,F2,_,rfl,ht,hr⟩;rw[List.append_assoc,List.append_assoc];exact(List.perm_append_comm.append_left f1).append_left f0
theorem four{a b c d:List Nat}:((a++b)++(c++d)).Perm ((a++c)++(b++d)):=by
  simp only[List.append_assoc];refine List.Perm.append_left a ?_;rw[<- List.append_assoc, <- List.append_assoc];exact List.perm_append_comm.append_right d
theorem AK:∀{l:List bh} {cs:List Value} {F:List Nat},gp w cs F l->∃(hs:List Hd) (F1 F2:List Nat),(F1++F2).Perm F/\gp w cs F1 (List.zipWith rN l hs)/\eI (w6 hs (l.map (·.Re))) w F2/\mP hs (l.map (·.Re))
  | [],cs,F,h=>⟨[],[],[],by cases(show F=[] from h);exact List.Perm.refl _,rfl,rfl,trivial⟩
  | x::l,cs,F,⟨c1,c2,G1,G2,hc,hF,h1,h2⟩=>by
    subst hF;obtain⟨hs,F1,F2,p1,e1,e2,e3⟩:=AK h2;obtain⟨k,H1,H2,p2,d1,d2,d3⟩:=H3 h1;exact⟨k::hs,H1++F1,H2++F2,four.trans (p2.append p1),⟨c1,c2,H1,F1,hc,rfl,d1,e1⟩,⟨H2,F2,rfl,d2,e2⟩,d3,e3⟩
theorem Bc:∀{l:List fY} {ts:List (List dk)} {cs:List Value} {F1 F2:List Nat},gp w cs F1 l->eI (w6 (l.map (·.Re)) ts) w F2->mP (l.map (·.Re)) ts->∃F,F.Perm (F1++F2)/\gp w cs F (List.zipWith vL l ts)
  | [],[],cs,F1,F2,h,hh,_=>⟨[],by cases(show F1=[] from h);cases(show F2=[] from hh);exact List.Perm.refl _,rfl⟩
  | [],_::_,_,_,_,_,_,h=>h.elim
  | _::_,[],_,_,_,_,_,h=>h.elim
  | x::l,t::ts,cs,F1,F2,⟨c1,c2,G1,G2,hc,hF,h1,h2⟩,⟨H1,H2,hH,k1,k2⟩,⟨n1,n2⟩=>by
    subst hF;subst hH;obtain⟨F,p1,e1⟩:=Bc h2 k2 n2;obtain⟨E,p2,e2⟩:=Jo h1 k1 n1;exact⟨E++F,(p2.append p1).trans four,⟨c1,c2,E,F,hc,rfl,e2,e1⟩⟩
theorem Ap:∀{l:List dV} {cs:List Value} {F:List Nat},gp w cs F l->∃hs:List Hd,gp w cs [] (hs.map gx.mk)/\eI (w6 hs (l.map (·.Ru))) w F/\mP hs (l.map (·.Ru))
  | [],cs,F,h=>⟨[],rfl,h,trivial⟩
  | x::l,cs,F,⟨c1,c2,G1,G2,hc,hF,h1,h2⟩=>by
    subst hF;obtain⟨hs,e1,e2,e3⟩:=Ap h2;obtain⟨a,c,rfl,f,r,rfl,d1,dr⟩:=h1;cases(show r=[] from dr);rw[List.append_nil];exact⟨⟨a,x.Ru.length,c⟩::hs,⟨_,c2,[],[],hc,rfl,⟨rfl,rfl⟩,e1⟩,⟨f,G2,rfl,d1,e2⟩,rfl,e3⟩
theorem AJ:∀{hs:List Hd} {ts:List (List dk)} {cs:List Value} {F1 F2:List Nat},gp w cs F1 (hs.map gx.mk)->eI (w6 hs ts) w F2->mP hs ts->F1=[]/\gp w cs F2 (ts.map dV.mk)
  | [],[],_,_,_,h,hh,_=>⟨h,hh⟩
  | [],_::_,_,_,_,_,_,h=>h.elim
  | _::_,[],_,_,_,_,_,h=>h.elim
  | ⟨a,n,c⟩::hs,t::ts,cs,F1,F2,⟨c1,c2,G1,G2,hc,hF,h1,h2⟩,⟨H1,H2,hH,k1,k2⟩,⟨n1,n2⟩=>by
    subst hF;subst hH;cases n1;obtain⟨rfl,rfl⟩:=h1;obtain⟨rfl,e⟩:=AJ h2 k2 n2;exact⟨rfl,_,c2,H1,H2,hc,rfl,⟨a,c,rfl,H1,[],by simp,k1,rfl⟩,e⟩
theorem BS{l:List bh}{hs:List Hd}(h:mP hs (l.map (·.Re))):(List.zipWith rN l hs).length=l.length:=by
  have:=h.len;rw[List.length_map]at this;rw[List.length_zipWith,this,Nat.min_self]
theorem LS{l:List fY}{ts:List (List dk)}(h:mP (l.map (·.Re)) ts):(List.zipWith vL l ts).length=l.length:=by
  have:=h.len;rw[List.length_map]at this;rw[List.length_zipWith,this,Nat.min_self]
variable {w0:World} {F0:List Nat} {L:List Item} {a:Option Addr} {c:Nat}
theorem St.Lb{l:List bh}(hS:St w0 F0 w (sl a c l::L)):∃hs:List Hd,mP hs (l.map (·.Re))/\St w0 F0 w (sl a c (List.zipWith rN l hs)::tl hs (l.map (·.Re))::L):=by
  refine St.conv (K:=[sl a c l]) (M:=fun hs=>[sl a c (List.zipWith rN l hs),tl hs (l.map (·.Re))]) hS ?_;rintro F ⟨F1,F2,rfl,h,h2⟩;cases(show F2=[] from h2)
  rcases h with⟨rfl,rfl,rfl,rfl⟩|⟨g,o,cur,F',ha,hg,hs,h1,h2,hF,he⟩
  · exact⟨[],[],trivial,List.Perm.refl _,[],[],rfl,.inl ⟨rfl,rfl,rfl,rfl⟩,[],[],rfl,rfl,rfl⟩
  · subst hF;obtain⟨hs',G1,G2,p,e1,e2,e3⟩:=AK he;refine⟨hs',(g::G1)++(G2++[]),e3,?_,g::G1,_,rfl,.inr ⟨g,o,cur,G1,ha,hg,hs,by rw[BS e3];exact h1,h2,rfl,e1⟩,G2,[],rfl,e2,rfl⟩;rw[List.append_nil,List.append_nil];exact p.cons g
theorem St.JB{l:List fY}{hs:List Hd}{ts:List (List dk)}(hS:St w0 F0 w (sl a c l::tl hs ts::L))(he:l.map (·.Re)=hs)(hl:mP hs ts):St w0 F0 w (sl a c (List.zipWith vL l ts)::L):=by
  subst he
  obtain⟨_,_,h⟩:=St.conv (α:=Unit) (K:=[sl a c l,tl (l.map (·.Re)) ts]) (M:=fun _=>[sl a c (List.zipWith vL l ts)]) (R:=fun _=>True) hS (by
    rintro F ⟨F1,F2,rfl,h,F3,F4,rfl,h3,h4⟩;cases(show F4=[] from h4)
    rcases h with⟨rfl,rfl,rfl,rfl⟩|⟨g,o,cur,F',ha,hg,hs,h1,h2,hF,he⟩
    · cases ts with
      | nil=>cases(show F3=[] from h3);exact⟨(),[],trivial,List.Perm.refl _,[],[],rfl,.inl ⟨rfl,rfl,rfl,rfl⟩,rfl⟩
      | cons t ts=>exact hl.elim
    · subst hF;obtain⟨G,p,e⟩:=Bc he h3 hl;refine⟨(),(g::G)++[],trivial,?_,g::G,[],rfl,.inr ⟨g,o,cur,G,ha,hg,hs,by rw[LS hl];exact h1,h2,rfl,e⟩,rfl⟩;rw[List.append_nil,List.append_nil]
      exact p.cons g)
  exact h
theorem St.On{l:List dV}(hS:St w0 F0 w (sl a c l::L)):∃hs:List Hd,mP hs (l.map (·.Ru))/\St w0 F0 w (sl a c (hs.map gx.mk)::tl hs (l.map (·.Ru))::L):=by
  refine St.conv (K:=[sl a c l]) (M:=fun hs=>[sl a c (hs.map gx.mk),tl hs (l.map (·.Ru))]) hS ?_;rintro F ⟨F1,F2,rfl,h,h2⟩;cases(show F2=[] from h2)
  rcases h with⟨rfl,rfl,rfl,rfl⟩|⟨g,o,cur,F',ha,hg,hs,h1,h2,hF,he⟩
  · exact⟨[],[],trivial,List.Perm.refl _,[],[],rfl,.inl ⟨rfl,rfl,rfl,rfl⟩,[],[],rfl,rfl,rfl⟩
  · subst hF;obtain⟨hs',e1,e2,e3⟩:=Ap he;refine⟨hs',(g::[])++(F'++[]),e3,by simp,[g],_,rfl,.inr ⟨g,o,cur,[],ha,hg,hs,?_,h2,rfl,e1⟩,F',[],rfl,e2,rfl⟩;have:=e3.len;rw[List.length_map]at this;rw[List.length_map,this];exact h1
theorem St.JM{hs:List Hd}{ts:List (List dk)}(hS:St w0 F0 w (sl a c (hs.map gx.mk)::tl hs ts::L))(hl:mP hs ts):St w0 F0 w (sl a c (ts.map dV.mk)::L):=by
  obtain⟨_,_,h⟩:=St.conv (α:=Unit) (K:=[sl a c (hs.map gx.mk),tl hs ts]) (M:=fun _=>[sl a c (ts.map dV.mk)]) (R:=fun _=>True) hS (by
    rintro F ⟨F1,F2,rfl,h,F3,F4,rfl,h3,h4⟩;cases(show F4=[] from h4)
    rcases h with⟨rfl,rfl,h5,rfl⟩|⟨g,o,cur,F',ha,hg,hs',h1,h2,hF,he⟩
    · cases hs with
      | cons _ _=>cases h5
      | nil=>cases ts with
        | nil=>cases(show F3=[] from h3);exact⟨(),[],trivial,List.Perm.refl _,[],[],rfl,.inl ⟨rfl,rfl,rfl,rfl⟩,rfl⟩
        | cons t ts=>exact hl.elim
    · subst hF;obtain⟨rfl,e⟩:=AJ he h3 hl;have hn:=hl.len;rw[List.length_map]at h1
      exact⟨(),(g::F3)++[],trivial,by simp,g::F3,[],rfl,.inr ⟨g,o,cur,F3,ha,hg,hs',by rw[List.length_map, <- hn];exact h1,h2,rfl,e⟩,rfl⟩)
  exact h
theorem Bk:∀{hs hs':List Hd} {ts ts':List (List dk)},mP hs ts->w6 (hs++hs') (ts++ts')=w6 hs ts++w6 hs' ts'
  | [],_,[],_,_=>rfl
  | [],_,_::_,_,h=>h.elim
  | _::_,_,[],_,h=>h.elim
  | h::hs,hs',t::ts,ts',k=>by
    show _::w6 (hs++hs') (ts++ts')=_::(w6 hs ts++w6 hs' ts')
    rw[Bk k.2]
theorem mP.snoc:∀{hs:List Hd} {ts:List (List dk)} {h:Hd} {t:List dk},mP hs ts->h.n=t.length->mP (hs++[h]) (ts++[t])
  | [],[],_,_,_,h=>⟨h,trivial⟩
  | [],_::_,_,_,k,_=>k.elim
  | _::_,[],_,_,k,_=>k.elim
  | _::_,_::_,_,_,k,h=>⟨k.1,mP.snoc k.2 h⟩
theorem St.P1{hs:List Hd}{ts:List (List dk)}{t:List dk}{h:Hd}(hS:St w0 F0 w (sl h.a h.c t::tl hs ts::L))(hl:mP hs ts)(hn:h.n=t.length):St w0 F0 w (tl (hs++[h]) (ts++[t])::L):=by
  obtain⟨_,_,k⟩:=St.conv (α:=Unit) (K:=[sl h.a h.c t,tl hs ts]) (M:=fun _=>[tl (hs++[h]) (ts++[t])]) (R:=fun _=>True) hS (by
    rintro F ⟨F1,F2,rfl,h1,F3,F4,rfl,h3,h4⟩;cases(show F4=[] from h4);refine⟨(),(F3++F1)++[],trivial,by rw[List.append_nil,List.append_nil];exact List.perm_append_comm,F3++F1,[],rfl,?_,rfl⟩
    show eI (w6 (hs++[h]) (ts++[t])) w (F3++F1)
    rw[Bk hl]
    exact eI.append.2 ⟨F3,F1,rfl,h3,F1,[],by simp,h1,rfl⟩)
  exact k
theorem St.QV(hS:St w0 F0 w L):St w0 F0 w (tl [] []::L):=by
  obtain⟨_,_,k⟩:=St.conv (α:=Unit) (K:=[]) (M:=fun _=>[tl [] []]) (R:=fun _=>True) hS (fun F hF=>⟨(),[],trivial,by cases(show F=[] from hF);exact List.Perm.refl _,[],[],rfl,rfl,rfl⟩);exact k
end
theorem Dv{β:Type}{b:Bool}{k:Unit->Option β}{r:β}(h:(gd b).bind k=some r):b=true/\k ()=some r:=by
  cases b with
  | true=>exact⟨rfl,h⟩
  | false=>cases h
def xE(z:fY)(y:gx):fY:=fY.mk z.Rd z.own y.Ru z.heap z.dc z.Ro z.Rn z.db z.dx z.Rk
theorem DQ{pv:List fY}{n N:Nat}(hn:n=pv.length)(hN:pv.length<N)(hB:pv.length<dh):
    ∃o,iter (fun s:(List gx)×Int=>(bif decide (s.2<(n:Int))then((idx pv s.2).bind fun y=>(app s.1 [gx.mk y.Re]).bind fun z=>some (.inl (z,IntKind.i64.wrap (s.2+1))))else some (.inr (s.1,s.2)):Option (((List gx)×Int)⊕((List gx)×Int)))) N ([],0)=some o/\o.1=pv.map fun v=>gx.mk v.Re:=by
  subst hn;refine⟨_,CO (fun k=>((pv.take k).map fun v=>gx.mk v.Re,(k:Int))) pv.length (r:=(pv.map fun v=>gx.mk v.Re,(pv.length:Int))) hN ?_ ?_,rfl⟩
  · intro k hk;have hy:pv[k]?=some pv[k]:=List.getElem?_eq_getElem hk
    have hl:((pv.take k).map fun v=>gx.mk v.Re).length=k:=by rw[List.length_map,List.length_take];omega
    simp only[ey hk,RA,dN,hy,Ry]
    have e:pv.take (k+1)=pv.take k++[pv[k]]:=by rw[List.take_add_one,hy];rfl
    rw[hY (k:=k) (by rw[hl];exact Nat.le_refl _) (by omega),Ry,eD (Nat.lt_trans hk hB),e,List.map_append];rfl
  · simp only[er,Rz,List.take_length]
theorem NC{pv:List fY}{tv:List gx}{n N:Nat}(hn:n=tv.length)(hl:tv.length=pv.length)(hN:tv.length<N)(hB:tv.length<dh):
    ∃o,iter (fun s:(List fY)×Int=>(bif decide (s.2<(n:Int))then((idx tv s.2).bind fun y=>(idx s.1 s.2).bind fun z=>(some (s.1.set (s.2:Int).toNat (fY.mk z.Rd z.own y.Ru z.heap z.dc z.Ro z.Rn z.db z.dx z.Rk))).bind fun q=>some (.inl (q,IntKind.i64.wrap (s.2+1))))else some (.inr (s.1,s.2)):Option (((List fY)×Int)⊕((List fY)×Int)))) N (pv,0)=some o/\o.1=List.zipWith xE pv tv:=by
  subst hn;refine⟨_,CO (fun k=>(List.zipWith xE (pv.take k) (tv.take k)++pv.drop k,(k:Int))) tv.length (r:=(List.zipWith xE pv tv,(tv.length:Int))) hN ?_ ?_,rfl⟩
  · intro k hk;have hy:tv[k]?=some tv[k]:=List.getElem?_eq_getElem hk;have hz:pv[k]?=some (pv[k]'(hl ▸ hk)):=List.getElem?_eq_getElem _
    have hL:(List.zipWith xE (pv.take k) (tv.take k)).length=k:=by rw[List.length_zipWith,List.length_take,List.length_take];omega
    have hd:pv.drop k=(pv[k]'(hl ▸ hk))::pv.drop (k+1):=List.drop_eq_getElem_cons _
    have hg:(List.zipWith xE (pv.take k) (tv.take k)++pv.drop k)[k]?=some (pv[k]'(hl ▸ hk)):=by
      rw[List.getElem?_append_right (by omega),hL,Nat.sub_self,hd];rfl
    simp only[ey hk,RA,dN,hy,hg,Ry,eD (Nat.lt_trans hk hB),Int.toNat_natCast];refine congrArg (fun q=>some (Sum.inl (q,((k+1:Nat):Int)))) ?_
    have e1:pv.take (k+1)=pv.take k++[pv[k]'(hl ▸ hk)]:=by rw[List.take_add_one,hz];rfl
    have e2:tv.take (k+1)=tv.take k++[tv[k]]:=by rw[List.take_add_one,hy];rfl
    rw[List.set_append,if_neg (by omega),hL,Nat.sub_self,hd,e1,e2,List.zipWith_append (by rw[List.length_take,List.length_take];omega),List.append_assoc];rfl
  · simp only[er,Rz];rw[List.take_length,hl,List.take_length,List.drop_length,List.append_nil]
theorem BL:∀{l:List bh} {hs:List Hd},hs.length=l.length->(List.zipWith rN l hs).map (fun v=>gx.mk v.Re)=hs.map gx.mk
  | [],[],_=>rfl
  | [],_::_,h=>by simp at h
  | _::_,[],h=>by simp at h
  | _::l,_::hs,h=>by
    show _::(List.zipWith rN l hs).map _=_::hs.map _
    rw[BL (by simpa using h)];rfl
theorem Ke:∀{pv:List fY} {ht:List Hd},ht.length=pv.length->(List.zipWith xE pv (ht.map gx.mk)).map (·.Re)=ht
  | [],[],_=>rfl
  | [],_::_,h=>by simp at h
  | _::_,[],h=>by simp at h
  | v::pv,h::ht,k=>by
    show h::(List.zipWith xE pv (ht.map gx.mk)).map (·.Re)=h::ht
    rw[Ke (by simpa using k)]
theorem Hf:∀{l:List bh} {hs ht:List Hd} {ts:List (List dk)},hs.length=l.length->ht.length=l.length->List.zipWith vL (List.zipWith xE (List.zipWith rN l hs) (ht.map gx.mk)) ts=fb l ts
  | [],_,_,_,_,_=>by simp[fb]
  | _::_,[],_,_,h,_=>by simp at h
  | _::_,_::_,[],_,_,h=>by simp at h
  | _::l,_::hs,_::ht,[],_,_=>by simp[fb]
  | p::l,h::hs,k::ht,t::ts,h1,h2=>by
    show lD p t::List.zipWith vL (List.zipWith xE (List.zipWith rN l hs) (ht.map gx.mk)) ts=lD p t::fb l ts
    rw[Hf (by simpa using h1) (by simpa using h2)]
theorem yK{l:List bh}{ts:List (List dk)}(h:ts.length=l.length):(fb l ts).length=l.length:=by
  unfold fb;rw[List.length_zipWith,h,Nat.min_self]
theorem NW{l:List bh}{hs:List Hd}{pv:List fY}{i:Int}{z:bh}(hpv:pv=List.zipWith rN l hs)(hhs:hs.length=l.length)(hz:idx l i=some z):∃h,idx pv i=some (rN z h):=by
  unfold idx at hz⊢;split at hz
  · have hlt:i.toNat<hs.length:=by rw[hhs];exact(List.getElem?_eq_some_iff.1 hz).1
    refine⟨hs[i.toNat],?_⟩;rw[if_pos (by assumption),hpv,List.getElem?_zipWith,hz,List.getElem?_eq_getElem hlt]
  · cases hz
def Rl(l:List bh)(pv:List fY)(hs:List Hd)(ts:List (List dk))(i:Int):Prop :=
  (∃h0:List Hd,h0.length=l.length/\pv=List.zipWith rN l h0/\h0.take hs.length=hs)/\mP hs ts/\i=(hs.length:Int)
theorem Rl.ix{l:List bh}{pv:List fY}{hs:List Hd}{ts:List (List dk)}{i:Int}(h:Rl l pv hs ts i)(hc:decide (i<(l.length:Int))=true):∃v,idx pv i=some v:=by
  obtain⟨⟨h0,e0,rfl,_⟩,_,rfl⟩:=h;have hk:=of_decide_eq_true hc
  have hlt:hs.length<l.length:=by omega
  exact⟨rN (l[hs.length]'hlt) (h0[hs.length]'(by omega)),by rw[dN,List.getElem?_zipWith,List.getElem?_eq_getElem hlt,List.getElem?_eq_getElem (by omega)]⟩
theorem Rl.step{l:List bh}{pv:List fY}{hs:List Hd}{ts:List (List dk)}{i:Int}{v:fY}{t:List dk}{h:Hd}(r:Rl l pv hs ts i)(hc:decide (i<(l.length:Int))=true)(hB:l.length<dh)(hx:idx pv i=some v)(hn:h.n=t.length):
    Rl l (pv.set (i:Int).toNat (fY.mk v.Rd v.own h v.heap v.dc v.Ro v.Rn v.db v.dx v.Rk)) (hs++[h]) (ts++[t]) (IntKind.i64.wrap (i+1)):=by
  obtain⟨⟨h0,e0,rfl,e1⟩,e2,rfl⟩:=r;have hk:=of_decide_eq_true hc
  have hlt:hs.length<l.length:=by omega
  have hg:(List.zipWith rN l h0)[hs.length]?=some (rN (l[hs.length]'hlt) (h0[hs.length]'(by omega))):=by rw[List.getElem?_zipWith,List.getElem?_eq_getElem hlt,List.getElem?_eq_getElem (by omega)]
  rw[dN,hg]at hx;cases Option.some.inj hx;refine⟨⟨h0.set hs.length h,by rw[List.length_set,e0],?_,?_⟩,e2.snoc hn,?_⟩
  · rw[Int.toNat_natCast];apply List.ext_getElem? fun k=>?_
    by_cases hkk:hs.length=k
    · subst hkk;rw[List.getElem?_set_self (by rw[List.length_zipWith];omega),List.getElem?_zipWith,List.getElem?_set_self (by omega),List.getElem?_eq_getElem hlt];rfl
    · rw[List.getElem?_set_ne hkk,List.getElem?_zipWith,List.getElem?_zipWith,List.getElem?_set_ne hkk]
  · rw[List.length_append,List.length_cons,List.length_nil,Nat.zero_add,List.take_add_one,List.take_set_of_le (Nat.le_refl _),e1,List.getElem?_set,if_pos rfl,if_pos (by omega)];rfl
  · rw[eD (Nat.lt_trans hlt hB),List.length_append];rfl
theorem Es:∀{l:List bh} {hs:List Hd},hs.length=l.length->(List.zipWith rN l hs).map (·.Re)=hs
  | [],[],_=>rfl
  | [],_::_,h=>by simp at h
  | _::_,[],h=>by simp at h
  | _::l,h::hs,k=>by
    show h::(List.zipWith rN l hs).map (·.Re)=h::hs
    rw[Es (by simpa using k)]
theorem He:∀{l:List bh} {hs:List Hd} {ts:List (List dk)},hs.length=l.length->mP hs ts->List.zipWith vL (List.zipWith rN l hs) ts=fb l ts
  | [],[],[],_,_=>rfl
  | [],[],_::_,_,h=>h.elim
  | [],_::_,_,h,_=>by simp at h
  | _::_,[],_,h,_=>by simp at h
  | _::_,_::_,[],_,h=>h.elim
  | p::l,h::hs,t::ts,k,e=>by
    show lD p t::List.zipWith vL (List.zipWith rN l hs) ts=lD p t::fb l ts
    rw[He (by simpa using k) e.2]
theorem Rl.fin{l:List bh}{pv:List fY}{hs:List Hd}{ts:List (List dk)}{i:Int}(r:Rl l pv hs ts i)(hc:decide (i<(l.length:Int))=false):pv.map (·.Re)=hs/\List.zipWith vL pv ts=fb l ts/\ts.length=l.length:=by
  obtain⟨⟨h0,e0,rfl,e1⟩,e2,rfl⟩:=r;have hk:=of_decide_eq_false hc
  have hle:hs.length<=h0.length:=by rw[<- e1,List.length_take];omega
  have hh:h0=hs:=by rw[<- e1,List.take_of_length_le (by omega)]
  subst hh;exact⟨Es e0,He e0 e2,by rw[<- e2.len,e0]⟩
end Go.Kx
