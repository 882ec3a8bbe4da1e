import Derived.Test.YtlcgibcdiikheaaGreatGo
import Derived.Test.YtlcgibcdiikheaaGreatLaw
namespace Go.Kx
open Go Go.RowKit
set_option linter.unusedVariables false
set_option linter.unusedSimpArgs false
set_option linter.unusedSectionVars false
section
variable {w w0:World} {F0:List Nat} {L K:List Item}
theorem St.conv {α:Type} {M:α→List Item} {R:α→Prop} (hS:St w0 F0 w (K++L)) (h:∀ F,iv K w F→∃ x F',R x∧F'.Perm F∧iv (M x) w F'):∃ x,R x∧St w0 F0 w (M x++L):=by
  obtain ⟨F,hF,hn,hb⟩:=hS.own;obtain ⟨F1,F2,rfl,h1,h2⟩:=iv.append.1 hF;obtain ⟨x,F',hR,hp,hM⟩:=h F1 h1;have hp2:(F'++F2).Perm (F1++F2):=hp.append_right F2;exact ⟨x,hR,hS.os,hS.tape,hS.output,hS.size,hS.same,F'++F2,iv.append.2 ⟨F',F2,rfl,hM,h2⟩,hp2.nodup_iff.2 hn,fun b hm=>hb b (hp2.mem_iff.1 hm)⟩
end
def qd (p:bh) (h:Hd):jA:=jA.mk p.HB p.own h p.py p.gR p.HH p.HJ p.gP p.g8 p.HG
def tE (v:jA) (t:List gW):bh:=bh.mk v.HB v.own t v.py v.gR v.HH v.HJ v.gP v.g8 v.HG
def s7:List Hd→List (List gW)→List Item
  | h::hs,t::ts=>sl h.a h.c t::s7 hs ts
  | _,_=>[]
def tl (hs:List Hd) (ts:List (List gW)):Item:=⟨fun w F=>iv (s7 hs ts) w F,fun _ _ _ h hb=>h.frame hb⟩
def mJ:List Hd→List (List gW)→Prop
  | [],[]=>True
  | h::hs,t::ts=>h.n=t.length∧mJ hs ts
  | _,_=>False
theorem mJ.len:∀ {hs:List Hd} {ts:List (List gW)},mJ hs ts→hs.length=ts.length
  | [],[],_=>rfl
  | _::_,_::_,h=>by simp [mJ.len h.2]
  | [],_::_,h=>h.elim
  | _::_,[],h=>h.elim
section
variable {w:World}
theorem A9 {cs:List Value} {F:List Nat} {x:bh} (h:gT.own w cs F x):∃ (k:Hd) (F1 F2:List Nat),(F1++F2).Perm F∧gT.own w cs F1 (qd x k)∧kW w k.a k.c F2 x.HC∧k.n=x.HC.length:=by
  obtain ⟨a0,c0,a1,c1,a2,c2,a3,c3,a7,c7,a8,c8,rfl,f0,r0,rfl,h0,f1,r1,rfl,h1,f2,r2,rfl,h2,hr⟩:=h;refine ⟨⟨a2,x.HC.length,c2⟩,f0++(f1++r2),f2,?_,⟨a0,c0,a1,c1,a3,c3,a7,c7,a8,c8,rfl,f0,_,rfl,h0,f1,_,rfl,h1,hr⟩,h2,rfl⟩;rw [List.append_assoc,List.append_assoc];exact (List.perm_append_comm.append_left f1).append_left f0
theorem Bd {cs:List Value} {F1 F2:List Nat} {v:jA} {t:List gW} (h:gT.own w cs F1 v) (ht:kW w v.HC.a v.HC.c F2 t) (hn:v.HC.n=t.length):∃ F,F.Perm (F1++F2)∧gT.own w cs F (tE v t):=by
  obtain ⟨lb,ow,⟨ta,tn,tc⟩,hp,tp,nx,wt,sp,pr,lo⟩:=v;cases hn;obtain ⟨a0,c0,a1,c1,a3,c3,a7,c7,a8,c8,rfl,f0,r0,rfl,h0,f1,r1,rfl,h1,hr⟩:=h;refine ⟨f0++(f1++(F2++r1)),?_,a0,c0,a1,c1,ta,tc,a3,c3,a7,c7,a8,c8,rfl,f0,_,rfl,h0,f1,_,rfl,h1,F2,_,rfl,ht,hr⟩;rw [List.append_assoc,List.append_assoc];exact (List.perm_append_comm.append_left f1).append_left f0
theorem four {a b c d:List Nat}:((a++b)++(c++d)).Perm ((a++c)++(b++d)):=by
  simp only [List.append_assoc];refine List.Perm.append_left a ?_;rw [← List.append_assoc, ← List.append_assoc];exact List.perm_append_comm.append_right d
theorem vm:∀ {l:List bh} {cs:List Value} {F:List Nat},jm w cs F l→∃ (hs:List Hd) (F1 F2:List Nat),(F1++F2).Perm F∧jm w cs F1 (List.zipWith qd l hs)∧iv (s7 hs (l.map (·.HC))) w F2∧mJ hs (l.map (·.HC))
  | [],cs,F,h=>⟨[],[],[],by cases (show F=[] from h);exact List.Perm.refl _,rfl,rfl,trivial⟩
  | x::l,cs,F,⟨c1,c2,G1,G2,hc,hF,h1,h2⟩=>by
    subst hF;obtain ⟨hs,F1,F2,p1,e1,e2,e3⟩:=vm h2;obtain ⟨k,H1,H2,p2,d1,d2,d3⟩:=A9 h1;exact ⟨k::hs,H1++F1,H2++F2,four.trans (p2.append p1),⟨c1,c2,H1,F1,hc,rfl,d1,e1⟩,⟨H2,F2,rfl,d2,e2⟩,d3,e3⟩
theorem vA:∀ {l:List jA} {ts:List (List gW)} {cs:List Value} {F1 F2:List Nat},jm w cs F1 l→iv (s7 (l.map (·.HC)) ts) w F2→mJ (l.map (·.HC)) ts→∃ F,F.Perm (F1++F2)∧jm w cs F (List.zipWith tE l ts)
  | [],[],cs,F1,F2,h,hh,_=>⟨[],by cases (show F1=[] from h);cases (show F2=[] from hh);exact List.Perm.refl _,rfl⟩
  | [],_::_,_,_,_,_,_,h=>h.elim
  | _::_,[],_,_,_,_,_,h=>h.elim
  | x::l,t::ts,cs,F1,F2,⟨c1,c2,G1,G2,hc,hF,h1,h2⟩,⟨H1,H2,hH,k1,k2⟩,⟨n1,n2⟩=>by
    subst hF;subst hH;obtain ⟨F,p1,e1⟩:=vA h2 k2 n2;obtain ⟨E,p2,e2⟩:=Bd h1 k1 n1;exact ⟨E++F,(p2.append p1).trans four,⟨c1,c2,E,F,hc,rfl,e2,e1⟩⟩
theorem vH:∀ {hs:List Hd} {ts:List (List gW)} {cs:List Value} {F1 F2:List Nat},jm w cs F1 (hs.map ku.mk)→iv (s7 hs ts) w F2→mJ hs ts→F1=[]∧jm w cs F2 (ts.map iA.mk)
  | [],[],_,_,_,h,hh,_=>⟨h,hh⟩
  | [],_::_,_,_,_,_,_,h=>h.elim
  | _::_,[],_,_,_,_,_,h=>h.elim
  | ⟨a,n,c⟩::hs,t::ts,cs,F1,F2,⟨c1,c2,G1,G2,hc,hF,h1,h2⟩,⟨H1,H2,hH,k1,k2⟩,⟨n1,n2⟩=>by
    subst hF;subst hH;cases n1;obtain ⟨rfl,rfl⟩:=h1;obtain ⟨rfl,e⟩:=vH h2 k2 n2;exact ⟨rfl,_,c2,H1,H2,hc,rfl,⟨a,c,rfl,H1,[],by simp,k1,rfl⟩,e⟩
theorem Ao {l:List bh} {hs:List Hd} (h:mJ hs (l.map (·.HC))):(List.zipWith qd l hs).length=l.length:=by
  have:=h.len;rw [List.length_map] at this;rw [List.length_zipWith,this,Nat.min_self]
theorem CQ {l:List jA} {ts:List (List gW)} (h:mJ (l.map (·.HC)) ts):(List.zipWith tE l ts).length=l.length:=by
  have:=h.len;rw [List.length_map] at this;rw [List.length_zipWith,this,Nat.min_self]
variable {w0:World} {F0:List Nat} {L:List Item} {a:Option Addr} {c:Nat}
theorem St.E1 {l:List bh} (hS:St w0 F0 w (sl a c l::L)):∃ hs:List Hd,mJ hs (l.map (·.HC))∧St w0 F0 w (sl a c (List.zipWith qd l hs)::tl hs (l.map (·.HC))::L):=by
  refine St.conv (K:=[sl a c l]) (M:=fun hs=>[sl a c (List.zipWith qd l hs),tl hs (l.map (·.HC))]) hS ?_;rintro F ⟨F1,F2,rfl,h,h2⟩;cases (show F2=[] from h2)
  rcases h with ⟨rfl,rfl,rfl,rfl⟩ | ⟨g,o,cur,F',ha,hg,hs,h1,h2,hF,he⟩
  · exact ⟨[],[],trivial,List.Perm.refl _,[],[],rfl,.inl ⟨rfl,rfl,rfl,rfl⟩,[],[],rfl,rfl,rfl⟩
  · subst hF;obtain ⟨hs',G1,G2,p,e1,e2,e3⟩:=vm he;refine ⟨hs',(g::G1)++(G2++[]),e3,?_,g::G1,_,rfl,.inr ⟨g,o,cur,G1,ha,hg,hs,by rw [Ao e3];exact h1,h2,rfl,e1⟩,G2,[],rfl,e2,rfl⟩;rw [List.append_nil,List.append_nil];exact p.cons g
theorem St.FE {l:List jA} {hs:List Hd} {ts:List (List gW)} (hS:St w0 F0 w (sl a c l::tl hs ts::L)) (he:l.map (·.HC)=hs) (hl:mJ hs ts):St w0 F0 w (sl a c (List.zipWith tE l ts)::L):=by
  subst he
  obtain ⟨_,_,h⟩:=St.conv (α:=Unit) (K:=[sl a c l,tl (l.map (·.HC)) ts]) (M:=fun _=>[sl a c (List.zipWith tE l ts)]) (R:=fun _=>True) hS (by
    rintro F ⟨F1,F2,rfl,h,F3,F4,rfl,h3,h4⟩;cases (show F4=[] from h4)
    rcases h with ⟨rfl,rfl,rfl,rfl⟩ | ⟨g,o,cur,F',ha,hg,hs,h1,h2,hF,he⟩
    · cases ts with
      | nil=>cases (show F3=[] from h3);exact ⟨(),[],trivial,List.Perm.refl _,[],[],rfl,.inl ⟨rfl,rfl,rfl,rfl⟩,rfl⟩
      | cons t ts=>exact hl.elim
    · subst hF;obtain ⟨G,p,e⟩:=vA he h3 hl;refine ⟨(),(g::G)++[],trivial,?_,g::G,[],rfl,.inr ⟨g,o,cur,G,ha,hg,hs,by rw [CQ hl];exact h1,h2,rfl,e⟩,rfl⟩;rw [List.append_nil,List.append_nil]
      exact p.cons g)
  exact h
theorem St.E5 {hs:List Hd} {ts:List (List gW)} (hS:St w0 F0 w (sl a c (hs.map ku.mk)::tl hs ts::L)) (hl:mJ hs ts):St w0 F0 w (sl a c (ts.map iA.mk)::L):=by
  obtain ⟨_,_,h⟩:=St.conv (α:=Unit) (K:=[sl a c (hs.map ku.mk),tl hs ts]) (M:=fun _=>[sl a c (ts.map iA.mk)]) (R:=fun _=>True) hS (by
    rintro F ⟨F1,F2,rfl,h,F3,F4,rfl,h3,h4⟩;cases (show F4=[] from h4)
    rcases h with ⟨rfl,rfl,h5,rfl⟩ | ⟨g,o,cur,F',ha,hg,hs',h1,h2,hF,he⟩
    · cases hs with
      | cons _ _=>cases h5
      | nil=>cases ts with
        | nil=>cases (show F3=[] from h3);exact ⟨(),[],trivial,List.Perm.refl _,[],[],rfl,.inl ⟨rfl,rfl,rfl,rfl⟩,rfl⟩
        | cons t ts=>exact hl.elim
    · subst hF;obtain ⟨rfl,e⟩:=vH he h3 hl;have hn:=hl.len;rw [List.length_map] at h1
      exact ⟨(),(g::F3)++[],trivial,by simp,g::F3,[],rfl,.inr ⟨g,o,cur,F3,ha,hg,hs',by rw [List.length_map, ← hn];exact h1,h2,rfl,e⟩,rfl⟩)
  exact h
theorem vC:∀ {hs hs':List Hd} {ts ts':List (List gW)},mJ hs ts→s7 (hs++hs') (ts++ts')=s7 hs ts++s7 hs' ts'
  | [],_,[],_,_=>rfl
  | [],_,_::_,_,h=>h.elim
  | _::_,_,[],_,h=>h.elim
  | h::hs,hs',t::ts,ts',k=>by
    show _::s7 (hs++hs') (ts++ts')=_::(s7 hs ts++s7 hs' ts')
    rw [vC k.2]
theorem mJ.snoc:∀ {hs:List Hd} {ts:List (List gW)} {h:Hd} {t:List gW},mJ hs ts→h.n=t.length→mJ (hs++[h]) (ts++[t])
  | [],[],_,_,_,h=>⟨h,trivial⟩
  | [],_::_,_,_,k,_=>k.elim
  | _::_,[],_,_,k,_=>k.elim
  | _::_,_::_,_,_,k,h=>⟨k.1,mJ.snoc k.2 h⟩
theorem St.Gk {hs:List Hd} {ts:List (List gW)} {t:List gW} {h:Hd} (hS:St w0 F0 w (sl h.a h.c t::tl hs ts::L)) (hl:mJ hs ts) (hn:h.n=t.length):St w0 F0 w (tl (hs++[h]) (ts++[t])::L):=by
  obtain ⟨_,_,k⟩:=St.conv (α:=Unit) (K:=[sl h.a h.c t,tl hs ts]) (M:=fun _=>[tl (hs++[h]) (ts++[t])]) (R:=fun _=>True) hS (by
    rintro F ⟨F1,F2,rfl,h1,F3,F4,rfl,h3,h4⟩;cases (show F4=[] from h4);refine ⟨(),(F3++F1)++[],trivial,by rw [List.append_nil,List.append_nil];exact List.perm_append_comm,F3++F1,[],rfl,?_,rfl⟩
    show iv (s7 (hs++[h]) (ts++[t])) w (F3++F1)
    rw [vC hl]
    exact iv.append.2 ⟨F3,F1,rfl,h3,F1,[],by simp,h1,rfl⟩)
  exact k
theorem St.Hl (hS:St w0 F0 w L):St w0 F0 w (tl [] []::L):=by
  obtain ⟨_,_,k⟩:=St.conv (α:=Unit) (K:=[]) (M:=fun _=>[tl [] []]) (R:=fun _=>True) hS (fun F hF=>⟨(),[],trivial,by cases (show F=[] from hF);exact List.Perm.refl _,[],[],rfl,rfl,rfl⟩);exact k
end
theorem DR {β:Type} {b:Bool} {k:Unit→Option β} {r:β} (h:(gd b).bind k=some r):b=true∧k ()=some r:=by
  cases b with
  | true=>exact ⟨rfl,h⟩
  | false=>cases h
theorem CS {pv:List jA} {n N:Nat} (hn:n=pv.length) (hN:pv.length<N) (hB:pv.length<gS) :
    ∃ o,iter (fun s:(List ku)×Int=>(bif decide (s.2<(n:Int)) then ((idx pv s.2).bind fun y=>(app s.1 [ku.mk y.HC]).bind fun z=>some (.inl (z,IntKind.i64.wrap (s.2+1)))) else some (.inr (s.1,s.2)):Option (((List ku)×Int)⊕((List ku)×Int)))) N ([],0)=some o∧o.1=pv.map fun v=>ku.mk v.HC:=by
  subst hn;refine ⟨_,BE (fun k=>((pv.take k).map fun v=>ku.mk v.HC,(k:Int))) pv.length (r:=(pv.map fun v=>ku.mk v.HC,(pv.length:Int))) hN ?_ ?_,rfl⟩
  · intro k hk;have hy:pv[k]?=some pv[k]:=List.getElem?_eq_getElem hk
    have hl:((pv.take k).map fun v=>ku.mk v.HC).length=k:=by rw [List.length_map,List.length_take];omega
    simp only [iX hk,HY,iz,hy,HW]
    have e:pv.take (k+1)=pv.take k++[pv[k]]:=by rw [List.take_add_one,hy];rfl
    rw [kr (k:=k) (by rw [hl];exact Nat.le_refl _) (by omega),HW,i5 (Nat.lt_trans hk hB),e,List.map_append];rfl
  · simp only [iW,HX,List.take_length]
theorem Am:∀ {l:List bh} {hs:List Hd},hs.length=l.length→(List.zipWith qd l hs).map (fun v=>ku.mk v.HC)=hs.map ku.mk
  | [],[],_=>rfl
  | [],_::_,h=>by simp at h
  | _::_,[],h=>by simp at h
  | _::l,_::hs,h=>by
    show _::(List.zipWith qd l hs).map _=_::hs.map _
    rw [Am (by simpa using h)];rfl
theorem xQ {l:List bh} {ts:List (List gW)} (h:ts.length=l.length):(kZ l ts).length=l.length:=by
  unfold kZ;rw [List.length_zipWith,h,Nat.min_self]
theorem EC {l:List bh} {hs:List Hd} {pv:List jA} {i:Int} {z:bh} (hpv:pv=List.zipWith qd l hs) (hhs:hs.length=l.length) (hz:idx l i=some z):∃ h,idx pv i=some (qd z h):=by
  unfold idx at hz ⊢;split at hz
  · have hlt:i.toNat<hs.length:=by rw [hhs];exact (List.getElem?_eq_some_iff.1 hz).1
    refine ⟨hs[i.toNat],?_⟩;rw [if_pos (by assumption),hpv,List.getElem?_zipWith,hz,List.getElem?_eq_getElem hlt]
  · cases hz
def Rl (l:List bh) (pv:List jA) (hs:List Hd) (ts:List (List gW)) (i:Int):Prop :=
  (∃ h0:List Hd,h0.length=l.length∧pv=List.zipWith qd l h0∧h0.take hs.length=hs)∧mJ hs ts∧i=(hs.length:Int)
theorem Rl.ix {l:List bh} {pv:List jA} {hs:List Hd} {ts:List (List gW)} {i:Int} (h:Rl l pv hs ts i) (hc:decide (i<(l.length:Int))=true):∃ v,idx pv i=some v:=by
  obtain ⟨⟨h0,e0,rfl,_⟩,_,rfl⟩:=h;have hk:=of_decide_eq_true hc
  have hlt:hs.length<l.length:=by omega
  exact ⟨qd (l[hs.length]'hlt) (h0[hs.length]'(by omega)),by rw [iz,List.getElem?_zipWith,List.getElem?_eq_getElem hlt,List.getElem?_eq_getElem (by omega)]⟩
theorem Rl.step {l:List bh} {pv:List jA} {hs:List Hd} {ts:List (List gW)} {i:Int} {v:jA} {t:List gW} {h:Hd} (r:Rl l pv hs ts i) (hc:decide (i<(l.length:Int))=true) (hB:l.length<gS) (hx:idx pv i=some v) (hn:h.n=t.length) :
    Rl l (pv.set (i:Int).toNat (jA.mk v.HB v.own h v.py v.gR v.HH v.HJ v.gP v.g8 v.HG)) (hs++[h]) (ts++[t]) (IntKind.i64.wrap (i+1)):=by
  obtain ⟨⟨h0,e0,rfl,e1⟩,e2,rfl⟩:=r;have hk:=of_decide_eq_true hc
  have hlt:hs.length<l.length:=by omega
  have hg:(List.zipWith qd l h0)[hs.length]?=some (qd (l[hs.length]'hlt) (h0[hs.length]'(by omega))):=by rw [List.getElem?_zipWith,List.getElem?_eq_getElem hlt,List.getElem?_eq_getElem (by omega)]
  rw [iz,hg] at hx;cases Option.some.inj hx;refine ⟨⟨h0.set hs.length h,by rw [List.length_set,e0],?_,?_⟩,e2.snoc hn,?_⟩
  · rw [Int.toNat_natCast];apply List.ext_getElem? fun k=>?_
    by_cases hkk:hs.length=k
    · subst hkk;rw [List.getElem?_set_self (by rw [List.length_zipWith];omega),List.getElem?_zipWith,List.getElem?_set_self (by omega),List.getElem?_eq_getElem hlt];rfl
    · rw [List.getElem?_set_ne hkk,List.getElem?_zipWith,List.getElem?_zipWith,List.getElem?_set_ne hkk]
  · rw [List.length_append,List.length_cons,List.length_nil,Nat.zero_add,List.take_add_one,List.take_set_of_le (Nat.le_refl _),e1,List.getElem?_set,if_pos rfl,if_pos (by omega)];rfl
  · rw [i5 (Nat.lt_trans hlt hB),List.length_append];rfl
theorem xX:∀ {l:List bh} {hs:List Hd},hs.length=l.length→(List.zipWith qd l hs).map (·.HC)=hs
  | [],[],_=>rfl
  | [],_::_,h=>by simp at h
  | _::_,[],h=>by simp at h
  | _::l,h::hs,k=>by
    show h::(List.zipWith qd l hs).map (·.HC)=h::hs
    rw [xX (by simpa using k)]
theorem An:∀ {l:List bh} {hs:List Hd} {ts:List (List gW)},hs.length=l.length→mJ hs ts→List.zipWith tE (List.zipWith qd l hs) ts=kZ l ts
  | [],[],[],_,_=>rfl
  | [],[],_::_,_,h=>h.elim
  | [],_::_,_,h,_=>by simp at h
  | _::_,[],_,h,_=>by simp at h
  | _::_,_::_,[],_,h=>h.elim
  | p::l,h::hs,t::ts,k,e=>by
    show qZ p t::List.zipWith tE (List.zipWith qd l hs) ts=qZ p t::kZ l ts
    rw [An (by simpa using k) e.2]
theorem Rl.fin {l:List bh} {pv:List jA} {hs:List Hd} {ts:List (List gW)} {i:Int} (r:Rl l pv hs ts i) (hc:decide (i<(l.length:Int))=false):pv.map (·.HC)=hs∧List.zipWith tE pv ts=kZ l ts∧ts.length=l.length:=by
  obtain ⟨⟨h0,e0,rfl,e1⟩,e2,rfl⟩:=r;have hk:=of_decide_eq_false hc
  have hle:hs.length≤h0.length:=by rw [← e1,List.length_take];omega
  have hh:h0=hs:=by rw [← e1,List.take_of_length_le (by omega)]
  subst hh;exact ⟨xX e0,An e0 e2,by rw [← e2.len,e0]⟩
end Go.Kx
