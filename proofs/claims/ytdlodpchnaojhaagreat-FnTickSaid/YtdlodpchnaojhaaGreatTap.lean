/- A list's things, parted into what stands in the list and what hangs on it; and put together again. No program in sight. -/
import Derived.Test.YtdlodpchnaojhaaGreatGo
import Derived.Test.YtdlodpchnaojhaaGreatDat
import Derived.Test.YtdlodpchnaojhaaGreatLaw
namespace Go.Kx
open Go Go.RowKit
set_option linter.unusedVariables false
set_option linter.unusedSimpArgs false
set_option linter.unusedSectionVars false
section
variable {w w0:World} {F0:List Nat} {L K:List Item}
theorem St.conv {α:Type} {M:α→List Item} {R:α→Prop} (hS:St w0 F0 w (K++L)) (h:∀ F,jb K w F→∃ x F',R x∧F'.Perm F∧jb (M x) w F'):∃ x,R x∧St w0 F0 w (M x++L):=by
  obtain ⟨F,hF,hn,hb⟩:=hS.own
  obtain ⟨F1,F2,rfl,h1,h2⟩:=jb.append.1 hF
  obtain ⟨x,F',hR,hp,hM⟩:=h F1 h1
  have hp2:(F'++F2).Perm (F1++F2):=hp.append_right F2
  exact ⟨x,hR,hS.os,hS.tape,hS.output,hS.size,hS.same,F'++F2,jb.append.2 ⟨F',F2,rfl,hM,h2⟩,hp2.nodup_iff.2 hn,fun b hm=>hb b (hp2.mem_iff.1 hm)⟩
end
def tx (p:dW) (h:Hd):kJ:=kJ.mk p.label p.own h p.heap p.ij p.next p.want p.gE p.iH p.lost
def vf (v:kJ) (t:List ir):dW:=dW.mk v.label v.own t v.heap v.ij v.next v.want v.gE v.iH v.lost
def D3:List Hd→List (List ir)→List Item
  | h::hs,t::ts=>sl h.a h.c t::D3 hs ts
  | _,_=>[]
def tl (hs:List Hd) (ts:List (List ir)):Item:=⟨fun w F=>jb (D3 hs ts) w F,fun _ _ _ h hb=>h.frame hb⟩
def ox:List Hd→List (List ir)→Prop
  | [],[]=>True
  | h::hs,t::ts=>h.n=t.length∧ox hs ts
  | _,_=>False
theorem ox.len:∀ {hs:List Hd} {ts:List (List ir)},ox hs ts→hs.length=ts.length
  | [],[],_=>rfl
  | _::_,_::_,h=>by simp [ox.len h.2]
  | [],_::_,h=>h.elim
  | _::_,[],h=>h.elim
section
variable {w:World}
theorem Fg {cs:List Value} {F:List Nat} {x:dW} (h:iB.own w cs F x):∃ (k:Hd) (F1 F2:List Nat),(F1++F2).Perm F∧iB.own w cs F1 (tx x k)∧m0 w k.a k.c F2 x.tree∧k.n=x.tree.length:=by
  obtain ⟨a0,c0,a1,c1,a2,c2,a3,c3,a7,c7,a8,c8,rfl,f0,r0,rfl,h0,f1,r1,rfl,h1,f2,r2,rfl,h2,hr⟩:=h
  refine ⟨⟨a2,x.tree.length,c2⟩,f0++(f1++r2),f2,?_,⟨a0,c0,a1,c1,a3,c3,a7,c7,a8,c8,rfl,f0,_,rfl,h0,f1,_,rfl,h1,hr⟩,h2,rfl⟩
  rw [List.append_assoc,List.append_assoc]
  exact (List.perm_append_comm.append_left f1).append_left f0
theorem EL {cs:List Value} {F1 F2:List Nat} {v:kJ} {t:List ir} (h:iB.own w cs F1 v) (ht:m0 w v.tree.a v.tree.c F2 t) (hn:v.tree.n=t.length):∃ F,F.Perm (F1++F2)∧iB.own w cs F (vf v t):=by
  obtain ⟨lb,ow,⟨ta,tn,tc⟩,hp,tp,nx,wt,sp,pr,lo⟩:=v
  cases hn
  obtain ⟨a0,c0,a1,c1,a3,c3,a7,c7,a8,c8,rfl,f0,r0,rfl,h0,f1,r1,rfl,h1,hr⟩:=h
  refine ⟨f0++(f1++(F2++r1)),?_,a0,c0,a1,c1,ta,tc,a3,c3,a7,c7,a8,c8,rfl,f0,_,rfl,h0,f1,_,rfl,h1,F2,_,rfl,ht,hr⟩
  rw [List.append_assoc,List.append_assoc]
  exact (List.perm_append_comm.append_left f1).append_left f0
theorem four {a b c d:List Nat}:((a++b)++(c++d)).Perm ((a++c)++(b++d)):=by
  simp only [List.append_assoc]
  refine List.Perm.append_left a ?_
  rw [← List.append_assoc, ← List.append_assoc]
  exact List.perm_append_comm.append_right d
theorem zL:∀ {l:List dW} {cs:List Value} {F:List Nat},kj w cs F l→∃ (hs:List Hd) (F1 F2:List Nat),(F1++F2).Perm F∧kj w cs F1 (List.zipWith tx l hs)∧jb (D3 hs (l.map (·.tree))) w F2∧ox hs (l.map (·.tree))
  | [],cs,F,h=>⟨[],[],[],by cases (show F=[] from h);exact List.Perm.refl _,rfl,rfl,trivial⟩
  | x::l,cs,F,⟨c1,c2,G1,G2,hc,hF,h1,h2⟩=>by
    subst hF
    obtain ⟨hs,F1,F2,p1,e1,e2,e3⟩:=zL h2
    obtain ⟨k,H1,H2,p2,d1,d2,d3⟩:=Fg h1
    exact ⟨k::hs,H1++F1,H2++F2,four.trans (p2.append p1),⟨c1,c2,H1,F1,hc,rfl,d1,e1⟩,⟨H2,F2,rfl,d2,e2⟩,d3,e3⟩
theorem zw:∀ {l:List kJ} {ts:List (List ir)} {cs:List Value} {F1 F2:List Nat},kj w cs F1 l→jb (D3 (l.map (·.tree)) ts) w F2→ox (l.map (·.tree)) ts→∃ F,F.Perm (F1++F2)∧kj w cs F (List.zipWith vf l ts)
  | [],[],cs,F1,F2,h,hh,_=>⟨[],by cases (show F1=[] from h);cases (show F2=[] from hh);exact List.Perm.refl _,rfl⟩
  | [],_::_,_,_,_,_,_,h=>h.elim
  | _::_,[],_,_,_,_,_,h=>h.elim
  | x::l,t::ts,cs,F1,F2,⟨c1,c2,G1,G2,hc,hF,h1,h2⟩,⟨H1,H2,hH,k1,k2⟩,⟨n1,n2⟩=>by
    subst hF;subst hH
    obtain ⟨F,p1,e1⟩:=zw h2 k2 n2
    obtain ⟨E,p2,e2⟩:=EL h1 k1 n1
    exact ⟨E++F,(p2.append p1).trans four,⟨c1,c2,E,F,hc,rfl,e2,e1⟩⟩
theorem zx:∀ {l:List iZ} {cs:List Value} {F:List Nat},kj w cs F l→∃ hs:List Hd,kj w cs [] (hs.map kl.mk)∧jb (D3 hs (l.map (·.list))) w F∧ox hs (l.map (·.list))
  | [],cs,F,h=>⟨[],rfl,h,trivial⟩
  | x::l,cs,F,⟨c1,c2,G1,G2,hc,hF,h1,h2⟩=>by
    subst hF
    obtain ⟨hs,e1,e2,e3⟩:=zx h2
    obtain ⟨a,c,rfl,f,r,rfl,d1,dr⟩:=h1
    cases (show r=[] from dr)
    rw [List.append_nil]
    exact ⟨⟨a,x.list.length,c⟩::hs,⟨_,c2,[],[],hc,rfl,⟨rfl,rfl⟩,e1⟩,⟨f,G2,rfl,d1,e2⟩,rfl,e3⟩
theorem zD:∀ {hs:List Hd} {ts:List (List ir)} {cs:List Value} {F1 F2:List Nat},kj w cs F1 (hs.map kl.mk)→jb (D3 hs ts) w F2→ox hs ts→F1=[]∧kj w cs F2 (ts.map iZ.mk)
  | [],[],_,_,_,h,hh,_=>⟨h,hh⟩
  | [],_::_,_,_,_,_,_,h=>h.elim
  | _::_,[],_,_,_,_,_,h=>h.elim
  | ⟨a,n,c⟩::hs,t::ts,cs,F1,F2,⟨c1,c2,G1,G2,hc,hF,h1,h2⟩,⟨H1,H2,hH,k1,k2⟩,⟨n1,n2⟩=>by
    subst hF;subst hH
    cases n1
    obtain ⟨rfl,rfl⟩:=h1
    obtain ⟨rfl,e⟩:=zD h2 k2 n2
    exact ⟨rfl,_,c2,H1,H2,hc,rfl,⟨a,c,rfl,H1,[],by simp,k1,rfl⟩,e⟩
theorem DZ {l:List dW} {hs:List Hd} (h:ox hs (l.map (·.tree))):(List.zipWith tx l hs).length=l.length:=by
  have:=h.len
  rw [List.length_map] at this
  rw [List.length_zipWith,this,Nat.min_self]
theorem H3 {l:List kJ} {ts:List (List ir)} (h:ox (l.map (·.tree)) ts):(List.zipWith vf l ts).length=l.length:=by
  have:=h.len
  rw [List.length_map] at this
  rw [List.length_zipWith,this,Nat.min_self]
variable {w0:World} {F0:List Nat} {L:List Item} {a:Option Addr} {c:Nat}
theorem St.J7 {l:List dW} (hS:St w0 F0 w (sl a c l::L)):∃ hs:List Hd,ox hs (l.map (·.tree))∧St w0 F0 w (sl a c (List.zipWith tx l hs)::tl hs (l.map (·.tree))::L):=by
  refine St.conv (K:=[sl a c l]) (M:=fun hs=>[sl a c (List.zipWith tx l hs),tl hs (l.map (·.tree))]) hS ?_
  rintro F ⟨F1,F2,rfl,h,h2⟩
  cases (show F2=[] from h2)
  rcases h with ⟨rfl,rfl,rfl,rfl⟩ | ⟨g,o,cur,F',ha,hg,hs,h1,h2,hF,he⟩
  · exact ⟨[],[],trivial,List.Perm.refl _,[],[],rfl,.inl ⟨rfl,rfl,rfl,rfl⟩,[],[],rfl,rfl,rfl⟩
  · subst hF
    obtain ⟨hs',G1,G2,p,e1,e2,e3⟩:=zL he
    refine ⟨hs',(g::G1)++(G2++[]),e3,?_,g::G1,_,rfl,.inr ⟨g,o,cur,G1,ha,hg,hs,by rw [DZ e3];exact h1,h2,rfl,e1⟩,G2,[],rfl,e2,rfl⟩
    rw [List.append_nil,List.append_nil]
    exact p.cons g
theorem St.JX {l:List kJ} {hs:List Hd} {ts:List (List ir)} (hS:St w0 F0 w (sl a c l::tl hs ts::L)) (he:l.map (·.tree)=hs) (hl:ox hs ts):St w0 F0 w (sl a c (List.zipWith vf l ts)::L):=by
  subst he
  obtain ⟨_,_,h⟩:=St.conv (α:=Unit) (K:=[sl a c l,tl (l.map (·.tree)) ts]) (M:=fun _=>[sl a c (List.zipWith vf l ts)]) (R:=fun _=>True) hS (by
    rintro F ⟨F1,F2,rfl,h,F3,F4,rfl,h3,h4⟩
    cases (show F4=[] from h4)
    rcases h with ⟨rfl,rfl,rfl,rfl⟩ | ⟨g,o,cur,F',ha,hg,hs,h1,h2,hF,he⟩
    · cases ts with
      | nil=>cases (show F3=[] from h3);exact ⟨(),[],trivial,List.Perm.refl _,[],[],rfl,.inl ⟨rfl,rfl,rfl,rfl⟩,rfl⟩
      | cons t ts=>exact hl.elim
    · subst hF
      obtain ⟨G,p,e⟩:=zw he h3 hl
      refine ⟨(),(g::G)++[],trivial,?_,g::G,[],rfl,.inr ⟨g,o,cur,G,ha,hg,hs,by rw [H3 hl];exact h1,h2,rfl,e⟩,rfl⟩
      rw [List.append_nil,List.append_nil]
      exact p.cons g)
  exact h
theorem St.JQ {l:List iZ} (hS:St w0 F0 w (sl a c l::L)):∃ hs:List Hd,ox hs (l.map (·.list))∧St w0 F0 w (sl a c (hs.map kl.mk)::tl hs (l.map (·.list))::L):=by
  refine St.conv (K:=[sl a c l]) (M:=fun hs=>[sl a c (hs.map kl.mk),tl hs (l.map (·.list))]) hS ?_
  rintro F ⟨F1,F2,rfl,h,h2⟩
  cases (show F2=[] from h2)
  rcases h with ⟨rfl,rfl,rfl,rfl⟩ | ⟨g,o,cur,F',ha,hg,hs,h1,h2,hF,he⟩
  · exact ⟨[],[],trivial,List.Perm.refl _,[],[],rfl,.inl ⟨rfl,rfl,rfl,rfl⟩,[],[],rfl,rfl,rfl⟩
  · subst hF
    obtain ⟨hs',e1,e2,e3⟩:=zx he
    refine ⟨hs',(g::[])++(F'++[]),e3,by simp,[g],_,rfl,.inr ⟨g,o,cur,[],ha,hg,hs,?_,h2,rfl,e1⟩,F',[],rfl,e2,rfl⟩
    have:=e3.len
    rw [List.length_map] at this
    rw [List.length_map,this];exact h1
theorem St.Kp {hs:List Hd} {ts:List (List ir)} (hS:St w0 F0 w (sl a c (hs.map kl.mk)::tl hs ts::L)) (hl:ox hs ts):St w0 F0 w (sl a c (ts.map iZ.mk)::L):=by
  obtain ⟨_,_,h⟩:=St.conv (α:=Unit) (K:=[sl a c (hs.map kl.mk),tl hs ts]) (M:=fun _=>[sl a c (ts.map iZ.mk)]) (R:=fun _=>True) hS (by
    rintro F ⟨F1,F2,rfl,h,F3,F4,rfl,h3,h4⟩
    cases (show F4=[] from h4)
    rcases h with ⟨rfl,rfl,h5,rfl⟩ | ⟨g,o,cur,F',ha,hg,hs',h1,h2,hF,he⟩
    · cases hs with
      | cons _ _=>cases h5
      | nil=>cases ts with
        | nil=>cases (show F3=[] from h3);exact ⟨(),[],trivial,List.Perm.refl _,[],[],rfl,.inl ⟨rfl,rfl,rfl,rfl⟩,rfl⟩
        | cons t ts=>exact hl.elim
    · subst hF
      obtain ⟨rfl,e⟩:=zD he h3 hl
      have hn:=hl.len
      rw [List.length_map] at h1
      exact ⟨(),(g::F3)++[],trivial,by simp,g::F3,[],rfl,.inr ⟨g,o,cur,F3,ha,hg,hs',by rw [List.length_map, ← hn];exact h1,h2,rfl,e⟩,rfl⟩)
  exact h
theorem ox.snoc:∀ {hs:List Hd} {ts:List (List ir)} {h:Hd} {t:List ir},ox hs ts→h.n=t.length→ox (hs++[h]) (ts++[t])
  | [],[],_,_,_,h=>⟨h,trivial⟩
  | [],_::_,_,_,k,_=>k.elim
  | _::_,[],_,_,k,_=>k.elim
  | _::_,_::_,_,_,k,h=>⟨k.1,ox.snoc k.2 h⟩
end
theorem IN {β:Type} {b:Bool} {k:Unit→Option β} {r:β} (h:(gd b).bind k=some r):b=true∧k ()=some r:=by
  cases b with
  | true=>exact ⟨rfl,h⟩
  | false=>cases h
def v8 (z:kJ) (y:kl):kJ:=kJ.mk z.label z.own y.list z.heap z.ij z.next z.want z.gE z.iH z.lost
theorem Ij {pv:List kJ} {n N:Nat} (hn:n=pv.length) (hN:pv.length<N) (hB:pv.length<im) :
    ∃ o,iter (fun s:(List kl)×Int=>(bif decide (s.2<(n:Int)) then ((idx pv s.2).bind fun y=>(app s.1 [kl.mk y.tree]).bind fun z=>some (.inl (z,IntKind.i64.wrap (s.2+1)))) else some (.inr (s.1,s.2)):Option (((List kl)×Int)⊕((List kl)×Int)))) N ([],0)=some o∧o.1=pv.map fun v=>kl.mk v.tree:=by
  subst hn
  refine ⟨_,AO (fun k=>((pv.take k).map fun v=>kl.mk v.tree,(k:Int))) pv.length (r:=(pv.map fun v=>kl.mk v.tree,(pv.length:Int))) hN ?_ ?_,rfl⟩
  · intro k hk
    have hy:pv[k]?=some pv[k]:=List.getElem?_eq_getElem hk
    have hl:((pv.take k).map fun v=>kl.mk v.tree).length=k:=by rw [List.length_map,List.length_take];omega
    simp only [jh hk,cond_true,iO,hy,Option.bind_some]
    have e:pv.take (k+1)=pv.take k++[pv[k]]:=by rw [List.take_add_one,hy];rfl
    rw [lj (k:=k) (by rw [hl];exact Nat.le_refl _) (by omega),Option.bind_some,jm (Nat.lt_trans hk hB),e,List.map_append]
    rfl
  · simp only [jg,cond_false,List.take_length]
theorem Jb {pv:List kJ} {tv:List kl} {n N:Nat} (hn:n=tv.length) (hl:tv.length=pv.length) (hN:tv.length<N) (hB:tv.length<im) :
    ∃ o,iter (fun s:(List kJ)×Int=>(bif decide (s.2<(n:Int)) then ((idx tv s.2).bind fun y=>(idx s.1 s.2).bind fun z=>(some (s.1.set (s.2:Int).toNat (kJ.mk z.label z.own y.list z.heap z.ij z.next z.want z.gE z.iH z.lost))).bind fun q=>some (.inl (q,IntKind.i64.wrap (s.2+1)))) else some (.inr (s.1,s.2)):Option (((List kJ)×Int)⊕((List kJ)×Int)))) N (pv,0)=some o∧o.1=List.zipWith v8 pv tv:=by
  subst hn
  refine ⟨_,AO (fun k=>(List.zipWith v8 (pv.take k) (tv.take k)++pv.drop k,(k:Int))) tv.length (r:=(List.zipWith v8 pv tv,(tv.length:Int))) hN ?_ ?_,rfl⟩
  · intro k hk
    have hy:tv[k]?=some tv[k]:=List.getElem?_eq_getElem hk
    have hz:pv[k]?=some (pv[k]'(hl ▸ hk)):=List.getElem?_eq_getElem _
    have hL:(List.zipWith v8 (pv.take k) (tv.take k)).length=k:=by rw [List.length_zipWith,List.length_take,List.length_take];omega
    have hd:pv.drop k=(pv[k]'(hl ▸ hk))::pv.drop (k+1):=List.drop_eq_getElem_cons _
    have hg:(List.zipWith v8 (pv.take k) (tv.take k)++pv.drop k)[k]?=some (pv[k]'(hl ▸ hk)):=by
      rw [List.getElem?_append_right (by omega),hL,Nat.sub_self,hd];rfl
    simp only [jh hk,cond_true,iO,hy,hg,Option.bind_some,jm (Nat.lt_trans hk hB),Int.toNat_natCast]
    refine congrArg (fun q=>some (Sum.inl (q,((k+1:Nat):Int)))) ?_
    have e1:pv.take (k+1)=pv.take k++[pv[k]'(hl ▸ hk)]:=by rw [List.take_add_one,hz];rfl
    have e2:tv.take (k+1)=tv.take k++[tv[k]]:=by rw [List.take_add_one,hy];rfl
    rw [List.set_append,if_neg (by omega),hL,Nat.sub_self,hd,e1,e2,List.zipWith_append (by rw [List.length_take,List.length_take];omega),List.append_assoc]
    rfl
  · simp only [jg,cond_false]
    rw [List.take_length,hl,List.take_length,List.drop_length,List.append_nil]
theorem D5:∀ {l:List dW} {hs:List Hd},hs.length=l.length→(List.zipWith tx l hs).map (fun v=>kl.mk v.tree)=hs.map kl.mk
  | [],[],_=>rfl
  | [],_::_,h=>by simp at h
  | _::_,[],h=>by simp at h
  | _::l,_::hs,h=>by
    show _::(List.zipWith tx l hs).map _=_::hs.map _
    rw [D5 (by simpa using h)];rfl
theorem Hn:∀ {pv:List kJ} {ht:List Hd},ht.length=pv.length→(List.zipWith v8 pv (ht.map kl.mk)).map (·.tree)=ht
  | [],[],_=>rfl
  | [],_::_,h=>by simp at h
  | _::_,[],h=>by simp at h
  | v::pv,h::ht,k=>by
    show h::(List.zipWith v8 pv (ht.map kl.mk)).map (·.tree)=h::ht
    rw [Hn (by simpa using k)]
theorem EC:∀ {l:List dW} {hs ht:List Hd} {ts:List (List ir)},hs.length=l.length→ht.length=l.length→List.zipWith vf (List.zipWith v8 (List.zipWith tx l hs) (ht.map kl.mk)) ts=jD l ts
  | [],_,_,_,_,_=>by simp [jD]
  | _::_,[],_,_,h,_=>by simp at h
  | _::_,_::_,[],_,_,h=>by simp at h
  | _::l,_::hs,_::ht,[],_,_=>by simp [jD]
  | p::l,h::hs,k::ht,t::ts,h1,h2=>by
    show mY p t::List.zipWith vf (List.zipWith v8 (List.zipWith tx l hs) (ht.map kl.mk)) ts=mY p t::jD l ts
    rw [EC (by simpa using h1) (by simpa using h2)]
theorem BK {l:List dW} {ts:List (List ir)} (h:ts.length=l.length):(jD l ts).length=l.length:=by
  unfold jD
  rw [List.length_zipWith,h,Nat.min_self]
def Rl (l:List dW) (pv:List kJ) (hs:List Hd) (ts:List (List ir)) (i:Int):Prop :=
  (∃ h0:List Hd,h0.length=l.length∧pv=List.zipWith tx l h0∧h0.take hs.length=hs)∧ox hs ts∧i=(hs.length:Int)
theorem Rl.ix {l:List dW} {pv:List kJ} {hs:List Hd} {ts:List (List ir)} {i:Int} (h:Rl l pv hs ts i) (hc:decide (i<(l.length:Int))=true):∃ v,idx pv i=some v:=by
  obtain ⟨⟨h0,e0,rfl,_⟩,_,rfl⟩:=h
  have hk:=of_decide_eq_true hc
  have hlt:hs.length<l.length:=by omega
  exact ⟨tx (l[hs.length]'hlt) (h0[hs.length]'(by omega)),by rw [iO,List.getElem?_zipWith,List.getElem?_eq_getElem hlt,List.getElem?_eq_getElem (by omega)]⟩
theorem Rl.step {l:List dW} {pv:List kJ} {hs:List Hd} {ts:List (List ir)} {i:Int} {v:kJ} {t:List ir} {h:Hd} (r:Rl l pv hs ts i) (hc:decide (i<(l.length:Int))=true) (hB:l.length<im) (hx:idx pv i=some v) (hn:h.n=t.length) :
    Rl l (pv.set (i:Int).toNat (kJ.mk v.label v.own h v.heap v.ij v.next v.want v.gE v.iH v.lost)) (hs++[h]) (ts++[t]) (IntKind.i64.wrap (i+1)):=by
  obtain ⟨⟨h0,e0,rfl,e1⟩,e2,rfl⟩:=r
  have hk:=of_decide_eq_true hc
  have hlt:hs.length<l.length:=by omega
  have hg:(List.zipWith tx l h0)[hs.length]?=some (tx (l[hs.length]'hlt) (h0[hs.length]'(by omega))):=by rw [List.getElem?_zipWith,List.getElem?_eq_getElem hlt,List.getElem?_eq_getElem (by omega)]
  rw [iO,hg] at hx
  cases Option.some.inj hx
  refine ⟨⟨h0.set hs.length h,by rw [List.length_set,e0],?_,?_⟩,e2.snoc hn,?_⟩
  · rw [Int.toNat_natCast]
    apply List.ext_getElem? fun k=>?_
    by_cases hkk:hs.length=k
    · subst hkk
      rw [List.getElem?_set_self (by rw [List.length_zipWith];omega),List.getElem?_zipWith,List.getElem?_set_self (by omega),List.getElem?_eq_getElem hlt]
      rfl
    · rw [List.getElem?_set_ne hkk,List.getElem?_zipWith,List.getElem?_zipWith,List.getElem?_set_ne hkk]
  · rw [List.length_append,List.length_cons,List.length_nil,Nat.zero_add,List.take_add_one,List.take_set_of_le (Nat.le_refl _),e1,List.getElem?_set,if_pos rfl,if_pos (by omega)]
    rfl
  · rw [jm (Nat.lt_trans hlt hB),List.length_append];rfl
theorem CG:∀ {l:List dW} {hs:List Hd},hs.length=l.length→(List.zipWith tx l hs).map (·.tree)=hs
  | [],[],_=>rfl
  | [],_::_,h=>by simp at h
  | _::_,[],h=>by simp at h
  | _::l,h::hs,k=>by
    show h::(List.zipWith tx l hs).map (·.tree)=h::hs
    rw [CG (by simpa using k)]
theorem Eo:∀ {l:List dW} {hs:List Hd} {ts:List (List ir)},hs.length=l.length→ox hs ts→List.zipWith vf (List.zipWith tx l hs) ts=jD l ts
  | [],[],[],_,_=>rfl
  | [],[],_::_,_,h=>h.elim
  | [],_::_,_,h,_=>by simp at h
  | _::_,[],_,h,_=>by simp at h
  | _::_,_::_,[],_,h=>h.elim
  | p::l,h::hs,t::ts,k,e=>by
    show mY p t::List.zipWith vf (List.zipWith tx l hs) ts=mY p t::jD l ts
    rw [Eo (by simpa using k) e.2]
theorem Rl.fin {l:List dW} {pv:List kJ} {hs:List Hd} {ts:List (List ir)} {i:Int} (r:Rl l pv hs ts i) (hc:decide (i<(l.length:Int))=false):pv.map (·.tree)=hs∧List.zipWith vf pv ts=jD l ts∧ts.length=l.length:=by
  obtain ⟨⟨h0,e0,rfl,e1⟩,e2,rfl⟩:=r
  have hk:=of_decide_eq_false hc
  have hle:hs.length≤h0.length:=by rw [← e1,List.length_take];omega
  have hh:h0=hs:=by rw [← e1,List.take_of_length_le (by omega)]
  subst hh
  exact ⟨CG e0,Eo e0 e2,by rw [← e2.len,e0]⟩
end Go.Kx
