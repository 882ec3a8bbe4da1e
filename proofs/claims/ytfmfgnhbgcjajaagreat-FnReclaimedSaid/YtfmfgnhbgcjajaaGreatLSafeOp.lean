import Derived.Test.YtfmfgnhbgcjajaaGreatLSafe
import Derived.Test.YtfmfgnhbgcjajaaGreatLTreeKeep
namespace Go.Kx
open Go
open Go.IntKind (i64)
set_option linter.unusedVariables false
set_option linter.unusedSimpArgs false
set_option maxRecDepth 10000
theorem Rec.mono{g:Int->Int}{D:Int->Prop}{h:df}{a b:Int}{n:Nat}(q:a<=b)(r:Rec g D h a n):Rec g D h b n:=by
  have tg:l8 h b<=l8 h a:=by
    unfold l8;split
    · omega
    · have:v7 h b<=v7 h a:=xk _ fun k _ hk=>by
        rw[nC]at hk⊢
        rcases hk with hk|hk
        · exact .inl hk
        · exact .inr ⟨hk.1,vE q hk.2⟩
      omega
  refine⟨r.sf.mono q,⟨r.dm.rg,r.dm.ge,fun j k j0 j9 e al x=>r.dm.cl j k j0 j9 e al (vE q x)⟩,?_⟩
  rcases r.td with e|e|e
  · exact .inl e
  · exact .inr (.inl ⟨e.1,by omega⟩)
  · exact .inr (.inr (by omega))
theorem Rec.Ql{g:Int->Int}{D:Int->Prop}{h t:df}{now:Int}{n:Nat}(r:Rec g D h now n)(hk:Hk t)(gc:t.gc=h.gc)
    (kg:∀j,0<=j->j<=9->(nth t.ag j).so=(nth h.ag j).so/\(nth t.ag j).Rt=(nth h.ag j).Rt/\(nth t.ag j).mark=(nth h.ag j).mark)
    (ex:∀k,0<=k->k<=9->ey (nth t.ag k) now=false->ey (nth h.ag k) now=false\/(k ≠ 0/\Reaches h.ag now k))
    (ed:∀j k,0<=j->j<=9->k∈fx t.ag j->k∈fx h.ag j\/(Reaches h.ag now k/\(h.gc.Rj=0->0<k->(nth h.ag k).mark=true))):Rec g D t now n:=by
  have ar:=r.sf.hk.ar
  have sub:∀k,Reaches t.ag now k->Reaches h.ag now k:=fun k q=>by
    induction q with
    | root=>exact .root
    | step q1 q2 q3 ih =>
      obtain⟨i0,i9⟩:=q1.kT hk.ar;obtain⟨k0,k1⟩:=jv q2
      rcases ed _ _ i0 i9 q2 with e|e
      · rcases ex _ k0 (by have:=hk.ar.len;omega) q3 with x|x
        · exact .step ih e x
        · exact x.2
      · exact e.1
  have al:∀k,Al g D t.ag k->Al g D h.ag k:=fun k a=>by
    obtain⟨k1,k9⟩:=r.dm.rg k a.1;obtain⟨e1,e2,_⟩:=kg k (by omega) k9;exact⟨a.1,by rw[<- e1];exact a.2.1,by rw[<- e2];exact a.2.2⟩
  have al':∀k,Al g D h.ag k->Al g D t.ag k:=fun k a=>by
    obtain⟨k1,k9⟩:=r.dm.rg k a.1;obtain⟨e1,e2,_⟩:=kg k (by omega) k9;exact⟨a.1,by rw[e1];exact a.2.1,by rw[e2];exact a.2.2⟩
  have tg:l8 t now<=l8 h now:=by
    unfold l8;rw[gc];split
    · omega
    · have:v7 t now<=v7 h now:=xk _ fun k hk' hp=>by
        rw[List.mem_range]at hk';rw[nC]at hp⊢
        rcases hp with hp|hp
        · rw[gc]at hp;exact .inl hp
        · refine .inr ⟨?_,?_⟩
          · rw[<- (kg (k:Int) (by omega) (by omega)).2.2];exact hp.1
          · rcases ex (k:Int) (by omega) (by omega) hp.2 with x|x
            · exact x
            · exact np ar x.2 x.1
      omega
  refine⟨⟨hk,fun c i i0 i1=>?_,fun c i i0 i1 q=>?_,fun c i r1 r2 r3 k k1 k2 k3=>?_⟩,⟨r.dm.rg,fun i d=>?_,fun j k j0 j9 e a x=>?_⟩,?_⟩
  · rw[gc]at c i1
    rcases rr r.sf.hk with e|⟨_,p0,p9,_⟩
    · exact absurd (e.symm.trans c) (by decide)
    · rw[(kg i i0 (by omega)).2.2];exact r.sf.lo c i i0 i1
  · rw[gc]at c i1;obtain⟨_,i9⟩:=q.kT hk.ar;rw[(kg i (by omega) i9).2.2];exact r.sf.hi c i i0 i1 (sub i q)
  · rw[gc]at c r2;obtain⟨i0,i9⟩:=r1.kT hk.ar;obtain⟨k0,k9⟩:=k3.kT hk.ar;rw[(kg k k0 k9).2.2];rw[(kg i i0 i9).2.2]at r3
    rcases ed i k i0 i9 k1 with e|e
    · exact r.sf.bl c i (sub i r1) r2 r3 k e k2 (sub k k3)
    · exact e.2 c k2
  · obtain⟨i1,i9⟩:=r.dm.rg i d;rw[(kg i (by omega) i9).2.1];exact r.dm.ge i d
  · have ah:=al k a;have hn:¬ Reaches h.ag now k:=fun q=>r.dm.un ar q ah;obtain⟨k0,k1⟩:=jv e
    have k9:k<=9:=by have:=hk.ar.len;omega
    rcases ed j k j0 j9 e with e|e
    · rcases ex k k0 k9 x with x|x
      · exact al' j (r.dm.cl j k j0 j9 e ah x)
      · exact absurd x.2 hn
    · exact absurd e.1 hn
  · rcases r.td with e|⟨y,e⟩|e
    · exact .inl fun i a=>e i (al i a)
    · refine .inr (.inl ⟨fun i a=>?_,by omega⟩);obtain⟨i1,i9⟩:=r.dm.rg i a.1;rw[gc,(kg i (by omega) i9).2.2];exact y i (al i a)
    · exact .inr (.inr (by omega))
theorem Rec.QX{g:Int->Int}{D:Int->Prop}{h:df}{now:Int}{n:Nat}(r:Rec g D h now n)(hn:now<=1000000){x:Int}(hx:Reaches h.ag now x):Rec g D (fP h x) now n:=by
  have ar:=r.sf.hk.ar;have h10:=ar.len;obtain⟨x0,x9⟩:=hx.kT ar;have hk:=r.sf.hk.fP x0 x9;obtain⟨s,_⟩:=wK h10 x0 x9
  have live:ey (nth h.ag x) now=false:=by
    by_cases e:x=0
    · subst e;unfold ey;rw[ar.sd,ar.yM];simp;omega
    · exact np ar hx e
  have ne:∀i,0<=i->i ≠ x->nth (Kx.fP h x).ag i=nth h.ag i:=fun i i0 hi=>by
    unfold Kx.fP;split
    · dsimp only;rw[gJ x0 (by omega) i0,if_neg (Ne.symm hi)]
    · rfl
  have gr:∀i,i∈(Kx.fP h x).gc.da->i∈h.gc.da\/(i=x/\(nth h.ag x).mark=false):=fun i hi=>by
    unfold Kx.fP at hi;split at hi
    · rename_i c;simp only[RG,Bool.not_eq_true']at c;dsimp only at hi;split at hi
      · exact .inl hi
      · rcases List.mem_append.1 hi with e|e
        · exact .inl e
        · exact .inr ⟨by simpa using e,c.2.2⟩
    · exact .inl hi
  have sub:∀k,Reaches (Kx.fP h x).ag now k->Reaches h.ag now k:=fun k=>lL hk.ar s.sk.symm
  have tg:l8 (Kx.fP h x) now<=l8 h now:=by
    unfold l8;rw[s.ph,s.po];split
    · omega
    · have:v7 (Kx.fP h x) now<=v7 h now:=xk _ fun k hk' hp=>by
        rw[List.mem_range]at hk';rw[nC]at hp⊢
        rcases hp with hp|hp
        · rcases gr _ hp with e|⟨e,m⟩
          · exact .inl e
          · rw[e];exact .inr ⟨m,live⟩
        · refine .inr ⟨?_,?_⟩
          · cases q:(nth h.ag (k:Int)).mark
            · rfl
            · have:=s.up (k:Int) (by omega) (by omega) q;rw[hp.1]at this;cases this
          · rw[pN (jt s.sk (i:=(k:Int)) (by omega) (by omega)) now];exact hp.2
      omega
  have al:∀k,Al g D (Kx.fP h x).ag k->Al g D h.ag k:=fun k a=>by
    obtain⟨k1,k9⟩:=r.dm.rg k a.1;exact(uh h10 s.sk (by omega) k9).1 a
  refine⟨⟨hk,fun c i i0 i1=>?_,fun c i i0 i1 q=>?_,fun c i r1 r2 r3 k k1 k2 k3=>?_⟩,r.dm.gf h10 s.sk,?_⟩
  · rw[s.ph]at c
    have e:Kx.fP h x=h:=by unfold Kx.fP;rw[c];rfl
    rw[e]at i1⊢;exact r.sf.lo c i i0 i1
  · rw[s.ph]at c;rw[s.po]at i1;obtain⟨_,i9⟩:=(sub i q).kT ar;exact s.up i (by omega) i9 (r.sf.hi c i i0 i1 (sub i q))
  · rw[s.ph]at c;obtain⟨i0,i9⟩:=(sub i r1).kT ar;obtain⟨k0,k9⟩:=(sub k k3).kT ar;rw[<- tO s.sk i0 (by omega)]at k1;refine s.up k k0 k9 (r.sf.bl c i (sub i r1) (fun e=>r2 (s.gr i e)) ?_ k k1 k2 (sub k k3))
    rcases r3 with r3|r3
    · exact .inl r3
    · rcases s.dn i i0 i9 r3 with e|e
      · exact .inr e
      · exact absurd e r2
  · rcases r.td with e|⟨y,e⟩|e
    · exact .inl fun i a=>e i (al i a)
    · refine .inr (.inl ⟨fun i a=>?_,by omega⟩);have ah:=al i a;obtain⟨i1,i9⟩:=r.dm.rg i a.1;have hne:i ≠ x:=fun e=>r.dm.un ar hx (e ▸ ah);obtain⟨y1,y2,y3⟩:=y i ah;rw[ne i (by omega) hne,s.ph,s.po];refine⟨y1,fun c hi=>?_,y3⟩
      rcases gr i hi with e|e
      · exact y2 c e
      · exact hne e.1
    · exact .inr (.inr (by omega))
structure Bm (l m:List cd):Prop where
  sk:l.map gf=m.map gf
  mr:∀j,0<=j->j<=9->(nth m j).mark=(nth l j).mark
theorem Bm.rfl(l:List cd):Bm l l:=⟨Eq.refl _,fun _ _ _=>Eq.refl _⟩
theorem Bm.trans{l m n:List cd}(a:Bm l m)(b:Bm m n):Bm l n:=⟨a.sk.trans b.sk,fun j j0 j9=>(b.mr j j0 j9).trans (a.mr j j0 j9)⟩
theorem Bm.set{l:List cd}(h10:l.length=10){i:Int}(i0:0<=i)(i9:i<=9){z:cd}(e:gf z=gf (nth l i))(m:z.mark=(nth l i).mark):Bm l (l.set i.toNat z) :=
  ⟨nD i0 (by omega) e,fun j j0 j9=>by
    rw[gJ i0 (by omega) j0];split
    · rename_i q;rw[<- q];exact m
    · rfl⟩
theorem Rec.bm{g:Int->Int}{D:Int->Prop}{h t:df}{now:Int}{n:Nat}(r:Rec g D h now n)(hk:Hk t)(gc:t.gc=h.gc)(b:Bm h.ag t.ag):Rec g D t now n:=by
  have h10:=r.sf.hk.ar.len;refine r.Ql hk gc (fun j j0 j9=>?_) (fun k k0 k9 x=>?_) fun j k j0 j9 q=>?_
  · have e:=jt b.sk j0 (by omega);exact⟨(congrArg Sk.so e).symm,(congrArg Sk.Rt e).symm,b.mr j j0 j9⟩
  · rw[<- pN (jt b.sk k0 (by omega)) now]at x;exact .inl x
  · rw[<- tO b.sk j0 (by omega)]at q;exact .inl q
def Kp(now:Int)(p q:bh):Prop:=∀g D n,Rec g D p.heap now n->Rec g D q.heap now n
theorem Kp.self(now:Int)(p:bh):Kp now p p:=fun _ _ _ r=>r
theorem Kp.heap{now:Int}{p q:bh}(e:q.heap=p.heap):Kp now p q:=fun g D n r=>by rw[e];exact r
theorem Kp.trans{now:Int}{p q r:bh}(a:Kp now p q)(b:Kp now q r):Kp now p r:=fun g D n x=>b g D n (a g D n x)
theorem Kp.bm{now:Int}{p q:bh}(ok:dJ q=true)(gc:q.heap.gc=p.heap.gc)(b:Bm p.heap.ag q.heap.ag):Kp now p q:=fun g D n r=>r.bm (jE ok) gc b
theorem Iq{l:List cd}{now me h:Int}(q:decide (dt l now me h<0)=false):Reaches l now (dt l now me h):=by
  obtain⟨ar,g0,g9,_⟩:=xj q;unfold dt at *;cases hg:xK l now me h
  · rw[hg]at q;simp at q
  · rw[hg]at g0;simp only[RD]at g0⊢;unfold xK at hg;simp only[RG]at hg;exact(sC ar g0).1 hg.2.2.2
theorem xA{l:List cd}{now me h k:Int}(q:eM l now me h k=0):Reaches l now (dt l now me h):=Iq (by have:=(gL q).2.1;exact decide_eq_false (by omega))
theorem Ki{l:List cd}(h10:l.length=10)(gc:eS)(f:cd->cd)(fk:∀o,(f o).so=o.so)(fm:∀o,(f o).mark=o.mark)(fc:∀o m,f (marked o m)=marked (f o) m){i x:Int}(i0:0<=i)(i9:i<=9)(x0:0<=x)(x9:x<=9):
    fP ⟨l.set i.toNat (f (nth l i)),gc⟩ x=⟨(fP ⟨l,gc⟩ x).ag.set i.toNat (f (nth (fP ⟨l,gc⟩ x).ag i)),(fP ⟨l,gc⟩ x).gc⟩:=by
  have hn:∀j,0<=j->nth (l.set i.toNat (f (nth l i))) j=if i=j then f (nth l i)else nth l j:=fun j hj=>gJ i0 (by omega) hj
  have hk:(nth (l.set i.toNat (f (nth l i))) x).so=(nth l x).so:=by
    rw[hn x x0];split
    · rename_i e;subst e;exact fk _
    · rfl
  have hm:(nth (l.set i.toNat (f (nth l i))) x).mark=(nth l x).mark:=by
    rw[hn x x0];split
    · rename_i e;subst e;exact fm _
    · rfl
  unfold Kx.fP;dsimp only;rw[hk,hm];split
  · dsimp only;congr 1;rw[hn x x0,gJ x0 (by omega) i0]
    by_cases e:i=x
    · subst e;rw[if_pos rfl,if_pos rfl,List.set_set,List.set_set,fc]
    · rw[if_neg e,if_neg (Ne.symm e)];exact List.set_comm _ _ (by omega)
  · rfl
theorem Rec.put{g:Int->Int}{D:Int->Prop}{h:df}{now:Int}{n:Nat}(r:Rec g D h now n){i:Int}(i0:0<=i)(i9:i<=9)(f:cd->cd)(fk:(f (nth h.ag i)).so=(nth h.ag i).so)(fg:(f (nth h.ag i)).Rt=(nth h.ag i).Rt)(fm:(f (nth h.ag i)).mark=(nth h.ag i).mark)
    (ft:ey (f (nth h.ag i)) now=false->ey (nth h.ag i) now=false\/(i ≠ 0/\Reaches h.ag now i)) (hk:Hk ⟨h.ag.set i.toNat (f (nth h.ag i)),h.gc⟩)
    (ed:∀j k,0<=j->j<=9->k∈fx (h.ag.set i.toNat (f (nth h.ag i))) j->k∈fx h.ag j\/(Reaches h.ag now k/\(h.gc.Rj=0->0<k->(nth h.ag k).mark=true))):Rec g D ⟨h.ag.set i.toNat (f (nth h.ag i)),h.gc⟩ now n:=by
  have h10:=r.sf.hk.ar.len
  have hn:∀j,0<=j->nth (h.ag.set i.toNat (f (nth h.ag i))) j=if i=j then f (nth h.ag i)else nth h.ag j:=fun j hj=>gJ i0 (by omega) hj
  refine r.Ql hk rfl (fun j j0 j9=>?_) (fun k k0 k9 x=>?_) ed
  · dsimp only;rw[hn j j0];split
    · rename_i e;subst e;exact⟨fk,fg,fm⟩
    · exact⟨rfl,rfl,rfl⟩
  · dsimp only at x;rw[hn k k0]at x;split at x
    · rename_i e;subst e;exact ft x
    · exact .inl x
theorem Cv{l:List cd}(h10:l.length=10){i b x:Int}(i0:0<=i)(i9:i<=9){j k:Int}(j0:0<=j)(j9:j<=9)(q:k∈fx (l.set i.toNat (linked (nth l i) b x)) j):k∈fx l j\/k=x:=by
  have hn:∀j,0<=j->nth (l.set i.toNat (linked (nth l i) b x)) j=if i=j then linked (nth l i) b x else nth l j:=fun j hj=>gJ i0 (by omega) hj
  obtain⟨⟨k0,k9⟩,u⟩:=(iZ (by rw[List.length_set];exact h10)).1 q
  have hb:∀j,0<=j->(nth (l.set i.toNat (linked (nth l i) b x)) j).box=(nth l j).box/\(nth (l.set i.toNat (linked (nth l i) b x)) j).so=(nth l j).so:=fun j hj=>by
    rw[hn j hj];split
    · rename_i e;subst e;exact⟨rfl,rfl⟩
    · exact⟨rfl,rfl⟩
  rw[(hb k k0).1,(hb k k0).2,(hb j j0).2]at u
  rcases u with u|u
  · exact .inl ((iZ h10).2 ⟨⟨k0,k9⟩,.inl u⟩)
  · rw[hn j j0]at u;split at u
    · rename_i e;subst e
      rcases List.mem_or_eq_of_mem_set (show k∈(nth l i).dk.set b.toNat x from u)with c|c
      · exact .inl ((iZ h10).2 ⟨⟨k0,k9⟩,.inr c⟩)
      · exact .inr c
    · exact .inl ((iZ h10).2 ⟨⟨k0,k9⟩,.inr u⟩)
theorem Eo{l:List cd}(h10:l.length=10){i x:Int}(i0:0<=i)(i9:i<=9){j k:Int}(j0:0<=j)(j9:j<=9)(q:k∈fx (l.set i.toNat (boxed (nth l i) x)) j):k∈fx l j\/(k=i/\0<=x):=by
  have hn:∀j,0<=j->nth (l.set i.toNat (boxed (nth l i) x)) j=if i=j then boxed (nth l i) x else nth l j:=fun j hj=>gJ i0 (by omega) hj
  obtain⟨⟨k0,k9⟩,u⟩:=(iZ (by rw[List.length_set];exact h10)).1 q
  have hb:∀j,0<=j->(nth (l.set i.toNat (boxed (nth l i) x)) j).dk=(nth l j).dk/\(nth (l.set i.toNat (boxed (nth l i) x)) j).so=(nth l j).so:=fun j hj=>by
    rw[hn j hj];split
    · rename_i e;subst e;exact⟨rfl,rfl⟩
    · exact⟨rfl,rfl⟩
  rw[(hb k k0).2,(hb j j0).1,(hb j j0).2]at u
  rcases u with⟨a,b,c,d⟩|u
  · rw[hn k k0]at c;split at c
    · rename_i e;exact .inr ⟨e.symm,by have c:x=j:=c;omega⟩
    · exact .inl ((iZ h10).2 ⟨⟨k0,k9⟩,.inl ⟨a,b,c,d⟩⟩)
  · exact .inl ((iZ h10).2 ⟨⟨k0,k9⟩,.inr u⟩)
theorem Rec.MM{g:Int->Int}{D:Int->Prop}{h:df}{now:Int}{n:Nat}(r:Rec g D h now n)(hn:now<=1000000){i x:Int}(i0:0<=i)(i9:i<=9)(hx:Reaches h.ag now x)(f:cd->cd)(fk:∀o,(f o).so=o.so)(fm:∀o,(f o).mark=o.mark)(fc:∀o m,f (marked o m)=marked (f o) m)
    (fg:∀o,(f o).Rt=o.Rt) (ft:∀o,(f o).dV=o.dV) (hk:Hk (fP ⟨h.ag.set i.toNat (f (nth h.ag i)),h.gc⟩ x))
    (ed:∀(l:List cd),l.length=10->∀j k,0<=j->j<=9->k∈fx (l.set i.toNat (f (nth l i))) j->k∈fx l j\/k=x):Rec g D (fP ⟨h.ag.set i.toNat (f (nth h.ag i)),h.gc⟩ x) now n:=by
  have ar:=r.sf.hk.ar;obtain⟨x0,x9⟩:=hx.kT ar;have e:=Ki ar.len h.gc f fk fm fc i0 i9 x0 x9;have rs:=r.QX hn hx;obtain⟨s1,s2⟩:=wK (h:=h) ar.len x0 x9;have r':Reaches (Kx.fP h x).ag now x:=lL ar s1.sk hx;rw[e]at hk⊢;refine Rec.put (h:=Kx.fP h x) rs i0 i9 f (fk _) (fg _) (fm _) (fun q=>.inl ?_) hk fun j k j0 j9 q=>?_
  · unfold ey at q⊢;rw[fk,ft]at q;exact q
  · rcases ed _ rs.sf.hk.ar.len j k j0 j9 q with c|c
    · exact .inl c
    · subst c;refine .inr ⟨r',fun p k0=>s2 (s1.ph.symm.trans p) ?_⟩;exact yu (np ar hx (by omega))
theorem M5{h:df}{x:Int}(hk:Hk (bif fW h&&dy x 0 9 then fP h x else h))(x0:0<=x)(x9:x<=9):(fW h&&dy x 0 9)=true:=by
  cases hb:fW h
  · rw[hb]at hk;simp only[Bool.false_and,RC]at hk;rw[gG.2 hk]at hb;cases hb
  · rw[dI.2 ⟨x0,x9⟩];rfl
theorem NL{p:bh}(hp:hD p)(me:Int){now:Int}(hn:now<=1000000)(c:dG):Kp now p (jS p me now c).2.2:=by
  have hG:=Hs hp me now c;unfold jS at *;cases q1:!dy c.b 0 1
  case true=>exact Kp.self _ _
  cases q2:eM p.heap.ag now me c.a 0 != 0
  case true=>exact Kp.self _ _
  cases q3:(c.so==2)&&(eM p.heap.ag now me c.c 0 != 0)
  case true=>exact Kp.self _ _
  rw[q1,q2,q3]at hG;simp only[RC]at hG⊢;obtain⟨ar,g0,g9,gk,_⟩:=gL (fp q2)
  have hx:(bif c.so==2 then dt p.heap.ag now me c.c else -1)=-1\/Reaches p.heap.ag now (bif c.so==2 then dt p.heap.ag now me c.c else -1):=by
    cases k2:c.so==2
    · exact .inl rfl
    · rw[k2]at q3;exact .inr (xA (fp (by simpa using q3)))
  generalize (bif c.so==2 then dt p.heap.ag now me c.c else -1)=x at *;generalize dt p.heap.ag now me c.a=i at *;have hk:=jE hG.ok;intro g D n r;have eH:(Lq p i c.b x).heap=iY (df.mk (p.heap.ag.set i.toNat (linked (nth p.heap.ag i) c.b x)) p.heap.gc) x x:=rfl;rw[eH]at hk⊢;unfold iY mU at *
  rcases hx with hx|hx
  · subst hx;rw[show decide ((-1:Int)>=0)=false from rfl]at hk⊢;simp only[RC]at hk⊢;refine Rec.put (h:=p.heap) r g0 g9 (fun o=>linked o c.b (-1)) rfl rfl rfl (fun q=>.inl q) hk fun j k j0 j9 q=>?_
    rcases Cv ar.len g0 g9 j0 j9 q with e|e
    · exact .inl e
    · have:=jv q;omega
  · obtain⟨x0,x9⟩:=hx.kT ar;rw[decide_eq_true (show x>=0 from x0)]at hk⊢;simp only[RD]at hk⊢;have hb:(fW (df.mk (p.heap.ag.set i.toNat (linked (nth p.heap.ag i) c.b x)) p.heap.gc)&&dy x 0 9)=true:=M5 hk x0 x9;rw[hb]at hk⊢;simp only[RD]at hk⊢;exact Rec.MM (h:=p.heap) r hn g0 g9 hx (fun o=>linked o c.b x) (fun _=>rfl) (fun _=>rfl) (fun _ _=>rfl) (fun _=>rfl) (fun _=>rfl) hk fun l h10 j k j0 j9 q=>Cv h10 g0 g9 j0 j9 q
theorem N9{p:bh}(hp:hD p)(me:Int){now:Int}(hn:now<=1000000)(c:dG):Kp now p (j7 p me now c).2.2:=by
  have hG:=HQ hp me now c;unfold j7 at *;cases q2:eM p.heap.ag now me c.a 0 != 0
  case true=>exact Kp.self _ _
  cases q1:dt p.heap.ag now me c.a==0
  case true=>exact Kp.self _ _
  cases q3:(c.so==4)&&(eM p.heap.ag now me c.b 1 != 0)
  case true=>exact Kp.self _ _
  rw[q1,q2,q3]at hG;simp only[RC]at hG⊢;obtain⟨ar,g0,g9,gk,_⟩:=gL (fp q2);have hi:=xA (fp q2);generalize (bif c.so==4 then dt p.heap.ag now me c.b else -1)=x at *;generalize dt p.heap.ag now me c.a=i at *;have hk:=jE hG.ok;intro g D n r;have eH:(JE p i x).heap=iY (df.mk (p.heap.ag.set i.toNat (boxed (nth p.heap.ag i) x)) p.heap.gc) x i:=rfl;rw[eH]at hk⊢;unfold iY mU at *;cases hx:decide (x>=0)
  · rw[hx]at hk;simp only[RC]at hk⊢;have hx:=of_decide_eq_false hx;refine Rec.put (h:=p.heap) r g0 g9 (fun o=>boxed o x) rfl rfl rfl (fun q=>.inl q) hk fun j k j0 j9 q=>?_
    rcases Eo ar.len g0 g9 j0 j9 q with e|e
    · exact .inl e
    · exact absurd e.2 (by omega)
  · rw[hx]at hk;simp only[RD]at hk⊢;have hb:=M5 hk g0 g9;rw[hb]at hk⊢;simp only[RD]at hk⊢;refine Rec.MM (h:=p.heap) r hn g0 g9 hi (fun o=>boxed o x) (fun _=>rfl) (fun _=>rfl) (fun _ _=>rfl) (fun _=>rfl) (fun _=>rfl) hk fun l h10 j k j0 j9 q=>?_
    rcases Eo h10 g0 g9 j0 j9 q with e|e
    · exact .inl e
    · exact .inr e.1
theorem Hb{p:bh}{now:Int}{i:Int}(g0:0<=i)(g9:i<=9){z:cd}(ok:dJ p=true)(hk:dJ (jy p (p.heap.ag.set i.toNat z))=true)(e:gf z=gf (nth p.heap.ag i))(m:z.mark=(nth p.heap.ag i).mark):Kp now p (jy p (p.heap.ag.set i.toNat z)) :=
  Kp.bm hk rfl (Bm.set (eX ok).len g0 g9 e m)
theorem Nc{p:bh}(hp:hD p)(me now:Int)(c:dG):Kp now p (eZ p me now c).2.2:=by
  have hG:=HV hp me now c;unfold eZ at *;cases q2:eM p.heap.ag now me c.a 2 != 0
  case true=>exact Kp.self _ _
  cases q1:!dy c.b 0 (((nth p.heap.ag (dt p.heap.ag now me c.a)).Rm.length:Int)-1)
  case true=>exact Kp.self _ _
  cases q4:c.so==7
  case true=>exact Kp.self _ _
  cases q3:!dy c.c 0 999
  case true=>exact Kp.self _ _
  rw[q1,q2,q3,q4]at hG;simp only[RC]at hG⊢;obtain⟨ar,g0,g9,gk,_⟩:=gL (fp q2);exact Hb g0 g9 hp.ok hG.ok rfl rfl
theorem LU{p:bh}(hp:hD p)(me now:Int)(c:dG):Kp now p (ic p me now c).2.2:=by
  have hG:=DK hp me now c;unfold ic at *;cases q2:eM p.heap.ag now me c.a 0 != 0
  case true=>exact Kp.self _ _
  cases q1:(dt p.heap.ag now me c.a==0) || (!dy c.b 1 1000 || decide (i64.wrap ((nth p.heap.ag (dt p.heap.ag now me c.a)).dV+c.b)>1000000))
  case true=>exact Kp.self _ _
  cases q3:!jw p (iq p (nth p.heap.ag (dt p.heap.ag now me c.a)).Rx) (de.mk 0 (i64.wrap ((nth p.heap.ag (dt p.heap.ag now me c.a)).c6*c.b)) 0)
  case true=>exact Kp.self _ _
  rw[q1,q2,q3]at hG;simp only[RC]at hG⊢;obtain⟨ar,g0,g9,gk,_⟩:=gL (fp q2);have hi:=xA (fp q2)
  have h0:dt p.heap.ag now me c.a ≠ 0:=by
    simp only[Bool.or_eq_false_iff,beq_eq_false_iff_ne,ne_eq]at q1;exact q1.1
  generalize dt p.heap.ag now me c.a=i at *;have hk:=jE hG.ok;intro g D n r;refine Rec.put (h:=p.heap) r g0 g9 (fun o=>k6 o (i64.wrap ((nth p.heap.ag i).dV+c.b))) rfl rfl rfl (fun q=>.inr ⟨h0,hi⟩) hk fun j k j0 j9 q=>.inl ?_;have h10:=ar.len
  have hn:∀j,0<=j->nth (p.heap.ag.set i.toNat (k6 (nth p.heap.ag i) (i64.wrap ((nth p.heap.ag i).dV+c.b)))) j=if i=j then k6 (nth p.heap.ag i) (i64.wrap ((nth p.heap.ag i).dV+c.b))else nth p.heap.ag j:=fun j hj=>gJ g0 (by omega) hj
  have hb:∀j,0<=j->(nth (p.heap.ag.set i.toNat (k6 (nth p.heap.ag i) (i64.wrap ((nth p.heap.ag i).dV+c.b)))) j).box=(nth p.heap.ag j).box/\(nth (p.heap.ag.set i.toNat (k6 (nth p.heap.ag i) (i64.wrap ((nth p.heap.ag i).dV+c.b)))) j).so=(nth p.heap.ag j).so/\(nth (p.heap.ag.set i.toNat (k6 (nth p.heap.ag i) (i64.wrap ((nth p.heap.ag i).dV+c.b)))) j).dk=(nth p.heap.ag j).dk:=fun j hj=>by
    rw[hn j hj];split
    · rename_i e;subst e;exact⟨rfl,rfl,rfl⟩
    · exact⟨rfl,rfl,rfl⟩
  obtain⟨⟨k0,k9⟩,q⟩:=(iZ (by rw[List.length_set];exact h10)).1 q;rw[(hb k k0).1,(hb k k0).2.1,(hb j j0).2.1,(hb j j0).2.2]at q;exact(iZ h10).2 ⟨⟨k0,k9⟩,q⟩
theorem OG{p:bh}(now:Int)(c:dG):Kp now p (kp p c).2.2:=by
  refine Kp.heap ?_;unfold kp;cases c.so==9
  · cases c.so==10
    · simp only[RC];cases !(jo p.Rh c.a).2<;>rfl
    · simp only[RC,RD];cases !dy c.a 0 4 || (!dy c.b 0 4 || (!dy c.c 0 2 || !uW c.d))
      · simp only[RC];cases !(ju p.Rh c.a c.b (iA c.c c.d)).2<;>rfl
      · rfl
  · simp only[RD];cases !dy c.a 0 4 || !dT (de.mk c.b c.c c.d)
    · simp only[RC];cases !(iE p.Rh c.a (de.mk c.b c.c c.d)).2.2<;>rfl
    · rfl
theorem Mr{p:bh}(now:Int)(c:dG):Kp now p (o7 p c).2.2:=by
  refine Kp.heap ?_;unfold o7;cases !dy c.a 0 ((p.dc.length:Int)-1)<;>rfl
theorem O6{l:List cd}(h10:l.length=10){k w b:Int}(hk:0<=k->k<=9):Bm l (te l k w b):=by
  unfold te;cases q:decide (k>=0)&&((nth l k).Ro==w)
  · exact Bm.rfl l
  · simp only[RG,decide_eq_true_eq,beq_iff_eq]at q;have k9:=hk q.1;rw[RD];refine(Bm.set h10 q.1 k9 (z:=waiting (nth l k) 0) rfl rfl).trans (Bm.set (by rw[List.length_set];exact h10) q.1 k9 rfl rfl)
theorem Nj{p:bh}(hp:hD p)(me now:Int){th:Int}(t0:0<=th)(t9:th<=9)(tk:(nth p.heap.ag th).so=4)(c:dG):Kp now p (jb p me now th c).2.2:=by
  have hG:=HL hp me now t0 t9 tk c;unfold jb at *;cases q2:eM p.heap.ag now me c.a 3 != 0
  case true=>exact Kp.self _ _
  obtain⟨ar,g0,g9,gk,_⟩:=gL (fp q2);cases q1:!dy c.b 0 999
  case true=>exact Kp.self _ _
  rw[q1,q2]at hG;simp only[RC]at hG⊢;generalize dt p.heap.ag now me c.a=i at *;have hl:=ar.len;cases q5:c.so==12
  · rw[q5]at hG;cases q4:((nth p.heap.ag i).Ri.length:Int)==0
    case true=>exact Kp.self _ _
    rw[q4]at hG;simp only[RC]at hG⊢
    have hlen:(served p.heap.ag i).length=10:=by unfold served;rw[List.length_set];exact hl
    exact Kp.bm hG.ok rfl ((Bm.set hl g0 g9 (z:=kZ (nth p.heap.ag i) ((nth p.heap.ag i).Ri.drop 1)) rfl rfl).trans (O6 hlen fun k0=>by have:=pt hlen k0;omega))
  · rw[q5]at hG;cases q4:decide (((nth p.heap.ag i).Ri.length:Int)>=2)
    case true=>exact Kp.self _ _
    rw[q4]at hG;simp only[RC,RD]at hG⊢
    have hlen:(asked p.heap.ag i me th c).length=10:=by unfold asked;rw[List.length_set];exact hl
    exact Kp.bm hG.ok rfl ((Bm.set hl g0 g9 (z:=kZ (nth p.heap.ag i) ((nth p.heap.ag i).Ri++[eR.mk (ga me th (nth p.heap.ag th).Rt) c.b])) rfl rfl).trans (Bm.set (l:=asked p.heap.ag i me th c) hlen t0 t9 rfl rfl))
theorem Rec.born{g:Int->Int}{D:Int->Prop}{h:df}{now:Int}{n:Nat}(r:Rec g D h now n){j:Int}(j1:1<=j)(j9:j<=9)(jk:(nth h.ag j).so=0){z:cd}(zg:z.Rt=(nth h.ag j).Rt+1)(zl:∀y,y∈z.dk->y<0)(zb:z.box ≠ j)
    (zm:z.mark=((h.gc.Rj==0) || decide (j>=h.gc.Rs))) (hk:Hk ⟨h.ag.set j.toNat z,h.gc⟩):Rec g D ⟨h.ag.set j.toNat z,h.gc⟩ now n:=by
  have ar:=r.sf.hk.ar;have h10:=ar.len
  have hn:∀i,0<=i->nth (h.ag.set j.toNat z) i=if j=i then z else nth h.ag i:=fun i hi=>gJ (by omega) (by omega) hi
  have hne:∀i,0<=i->i ≠ j->nth (h.ag.set j.toNat z) i=nth h.ag i:=fun i hi e=>by rw[hn i hi,if_neg (Ne.symm e)]
  have l10:(h.ag.set j.toNat z).length=10:=by rw[List.length_set];exact h10
  have ed:∀i k,0<=i->i<=9->k∈fx (h.ag.set j.toNat z) i->i ≠ j/\(k ≠ j->k∈fx h.ag i):=fun i k i0 i9 q=>by
    obtain⟨⟨k0,k9⟩,u⟩:=(iZ l10).1 q
    have hij:i ≠ j:=fun e=>by
      subst e
      rcases u with⟨a,b,c,d⟩|u
      · by_cases e:k=i
        · subst e;rw[hn k k0,if_pos rfl]at c;exact zb c
        · rw[hne k k0 e]at b c;have:=ar.bx k0 k9 b (by omega);rw[c]at this;exact this jk
      · rw[hn i i0,if_pos rfl]at u;have:=zl k u;omega
    refine⟨hij,fun hkj=>(iZ h10).2 ⟨⟨k0,k9⟩,?_⟩⟩;rw[hne k k0 hkj,hne i i0 hij]at u;exact u
  have sub:∀k,Reaches (h.ag.set j.toNat z) now k->k=j\/Reaches h.ag now k:=fun k q=>by
    induction q with
    | root=>exact .inr .root
    | step q1 q2 q3 ih =>
      rename_i a b;obtain⟨a0,a9⟩:=q1.kT hk.ar;obtain⟨b0,_⟩:=jv q2
      by_cases e:b=j
      · exact .inl e
      · obtain⟨e1,e2⟩:=ed a b a0 a9 q2;rw[hne b b0 e]at q3
        rcases ih with c|c
        · exact absurd c e1
        · exact .inr (.step c (e2 e) q3)
  have al:∀k,Al g D (h.ag.set j.toNat z) k->k ≠ j/\Al g D h.ag k:=fun k a=>by
    obtain⟨k1,k9⟩:=r.dm.rg k a.1
    have hkj:k ≠ j:=fun e=>by
      subst e;have:=r.dm.ge k a.1;have e:=a.2.2;rw[hn k (by omega),if_pos rfl]at e;omega
    refine⟨hkj,a.1,?_,?_⟩
    · rw[<- hne k (by omega) hkj];exact a.2.1
    · rw[<- hne k (by omega) hkj];exact a.2.2
  have al':∀k,Al g D h.ag k->Al g D (h.ag.set j.toNat z) k:=fun k a=>by
    obtain⟨k1,k9⟩:=r.dm.rg k a.1
    have hkj:k ≠ j:=fun e=>by subst e;exact a.2.1 jk
    exact⟨a.1,by rw[hne k (by omega) hkj];exact a.2.1,by rw[hne k (by omega) hkj];exact a.2.2⟩
  have tg:l8 ⟨h.ag.set j.toNat z,h.gc⟩ now<=l8 h now:=by
    unfold l8;dsimp only
    rcases rr r.sf.hk with c|⟨c,_⟩
    · rw[if_neg (by rw[c];decide),if_neg (by rw[c];decide)]
      have:v7 ⟨h.ag.set j.toNat z,h.gc⟩ now<=v7 h now:=xk _ fun k hk' hp=>by
        rw[List.mem_range]at hk';rw[nC]at hp⊢
        rcases hp with hp|hp
        · exact .inl hp
        · dsimp only at hp
          by_cases e:(k:Int)=j
          · rw[e,hn j (by omega),if_pos rfl,zm,c]at hp;simp at hp
          · rw[hne _ (by omega) e]at hp;exact .inr hp
      omega
    · rw[if_pos c,if_pos c];omega
  refine⟨⟨hk,fun c i i0 i1=>?_,fun c i i0 i1 q=>?_,fun c i r1 r2 r3 k k1 k2 k3=>?_⟩,⟨r.dm.rg,fun i d=>?_,fun i k i0 i9 e a x=>?_⟩,?_⟩
  · dsimp only at c i1⊢
    by_cases e:i=j
    · subst e;rw[hn i i0,if_pos rfl,zm,c];simp;omega
    · rw[hne i i0 e];exact r.sf.lo c i i0 i1
  · dsimp only at c i1 q⊢
    by_cases e:i=j
    · subst e;rw[hn i (by omega),if_pos rfl,zm,decide_eq_true (by omega),Bool.or_true]
    · rw[hne i (by omega) e]
      rcases sub i q with s|s
      · exact absurd s e
      · exact r.sf.hi c i i0 i1 s
  · dsimp only at c r1 r2 r3 k1 k3⊢;obtain⟨i0,i9⟩:=r1.kT hk.ar;obtain⟨k0,k9⟩:=k3.kT hk.ar
    by_cases e:k=j
    · subst e;rw[hn k k0,if_pos rfl,zm,c];rfl
    · obtain⟨e1,e2⟩:=ed i k i0 i9 k1;rw[hne k k0 e];rw[hne i i0 e1]at r3
      rcases sub i r1 with s|s
      · exact absurd s e1
      · rcases sub k k3 with s'|s'
        · exact absurd s' e
        · exact r.sf.bl c i s r2 r3 k (e2 e) k2 s'
  · obtain⟨i1,i9⟩:=r.dm.rg i d;have:=r.dm.ge i d;rw[hn i (by omega)];split
    · rename_i e;subst e;omega
    · exact this
  · obtain⟨k0,_⟩:=jv e;obtain⟨hkj,ah⟩:=al k a;obtain⟨e1,e2⟩:=ed i k i0 i9 e;rw[hne k k0 hkj]at x;exact al' i (r.dm.cl i k i0 i9 (e2 hkj) ah x)
  · rcases r.td with e|⟨y,e⟩|e
    · exact .inl fun i a=>e i (al i a).2
    · refine .inr (.inl ⟨fun i a=>?_,by omega⟩);obtain⟨hij,ah⟩:=al i a;obtain⟨i1,i9⟩:=r.dm.rg i a.1;dsimp only;rw[hne i (by omega) hij];exact y i ah
    · exact .inr (.inr (by omega))
theorem Oc{p:bh}(hp:hD p)(me now:Int)(c:dG)(h0:((ji p me now c).1==0)=true):Kp now p (ji p me now c).2.2:=by
  have hG:=H3 hp me now c h0;unfold ji at *;cases q1:mV now c
  case true=>exact Kp.self _ _
  cases q2:eM p.heap.ag now me c.b 1 != 0
  case true=>exact Kp.self _ _
  cases q3:!jw p c.e (cost c)
  case true=>exact Kp.self _ _
  cases q4:decide ((hO p.heap.ag (newObj now (dt p.heap.ag now me c.b) c)).2<0)
  case true=>rw[q1,q2,q3,q4]at h0;cases h0
  rw[q1,q2,q3,q4]at hG;simp only[RC]at hG⊢;obtain⟨ar,j,j1,j9,jk,jg,e,arj⟩:=Aa q4;have hl:=ar.len;obtain⟨_,b0,b9,bk,_⟩:=gL (fp q2);rw[e]at hG⊢;generalize dt p.heap.ag now me c.b=b at *;have hbj:b ≠ (j:Int):=fun e=>bk (by rw[e];exact jk);have gj:=(ar.ok _ (ar.at (i:=(j:Int)) (by omega) (by omega)).2)
  have g0:0<=(nth p.heap.ag (j:Int)).Rt:=by
    unfold eG at gj;simp only[RG,dI]at gj;exact gj.1.1
  rw[dE (n:=(nth p.heap.ag (j:Int)).Rt+1) (by omega) (by omega)]at hG⊢
  have ca:((c.a != 0):Bool)=true:=by
    unfold mV at q1;simp only[Bool.or_eq_false_iff,Bool.not_eq_false']at q1;have:=dI.1 q1.1;simp;omega
  have hk:=jE hG.ok;have eH:∀q H,(mA q H).heap=H:=fun _ _=>rfl;rw[eH]at hk;intro g D n r;rw[eH]
  have hz:nth (p.heap.ag.set j (gv (newObj now b c) ((nth p.heap.ag (j:Int)).Rt+1))) (j:Int)=gv (newObj now b c) ((nth p.heap.ag (j:Int)).Rt+1):=by
    have:=gJ (l:=p.heap.ag) (i:=(j:Int)) (j:=(j:Int)) (o:=gv (newObj now b c) ((nth p.heap.ag (j:Int)).Rt+1)) (by omega) (by omega) (by omega)
    rwa[if_pos rfl,Int.toNat_natCast]at this
  have eB:j6 (df.mk (p.heap.ag.set j (gv (newObj now b c) ((nth p.heap.ag (j:Int)).Rt+1))) p.heap.gc) (j:Int)=⟨p.heap.ag.set (j:Int).toNat (marked (gv (newObj now b c) ((nth p.heap.ag (j:Int)).Rt+1)) ((p.heap.gc.Rj==0) || decide ((j:Int)>=p.heap.gc.Rs))),p.heap.gc⟩:=by
    have hA:=gG.2 ((jE hp.ok).ag arj);rw[dE (n:=(nth p.heap.ag (j:Int)).Rt+1) (by omega) (by omega)]at hA;unfold j6
    rw[if_pos (by
      rw[hA];dsimp only;rw[hz,dI.2 ⟨show(0:Int)<=(j:Int) by omega,show(j:Int)<=9 by omega⟩]
      exact ca)]
    dsimp only;rw[hz,Int.toNat_natCast,List.set_set]
  rw[eB]at hk⊢;refine Rec.born (h:=p.heap) r (by omega) (by omega) jk rfl (fun y hy=>?_) (fun e=>hbj e) rfl hk;have hy:y∈([-1, -1]:List Int):=hy;simp at hy;omega
theorem P9{p:bh}(hp:hD p)(me:Int){now:Int}(hn:now<=1000000){th:Int}(t0:0<=th)(t9:th<=9)(tk:(nth p.heap.ag th).so=4)(c:dG)(h:((gm p me now th c).1==0)=true):Kp now p (gm p me now th c).2.2:=by
  unfold gm at *;cases k1:c.so==1
  case true=>rw[k1]at h;exact Oc hp _ _ _ h
  cases(c.so==2) || (c.so==3)
  case true=>exact NL hp _ hn _
  cases(c.so==4) || (c.so==5)
  case true=>exact N9 hp _ hn _
  cases(c.so==6) || (c.so==7)
  case true=>exact Nc hp _ _ _
  cases c.so==8
  case true=>exact LU hp _ _ _
  cases(c.so==9) || ((c.so==10) || (c.so==11))
  case true=>exact OG _ _
  cases(c.so==12) || (c.so==13)
  case true=>exact Nj hp _ _ t0 t9 tk _
  cases c.so==14
  case true=>simp only[RC,RD,vz];exact Kp.self _ _
  cases c.so==15
  case true=>exact Mr _ _
  exact Kp.self _ _
theorem NC{p:bh}(hp:hD p)(me:Int){now:Int}(hn:now<=1000000)(th:Int)(c:dG):Kp now p (kh p me now th c).1:=by
  unfold kh;cases !dJ p || (!dy me 0 2 || !dy now 0 1000000)
  case true=>exact Kp.self _ _
  cases hc:iX p now th
  · exact Kp.self _ _
  obtain⟨_,t0,t9⟩:=qM hc;simp only[RE,RC];unfold fin;cases h:(gm p me now th c).1==0
  · cases(c.so==1)&&(((gm p me now th c).1==6) || ((gm p me now th c).1==7))
    · exact Kp.self _ _
    · exact Kp.heap rfl
  · exact P9 hp me hn t0 t9 (FO hc) c h
theorem N2{p:bh}(hp:hD p){now me h:Int}{n:Int}(hn:dy n 0 999=true):Kp now p (tM p (dt p.heap.ag now me h) n):=by
  have hG:=HX hp (now:=now) (me:=me) (h:=h) hn;unfold tM at *;have hg:=pt (l:=p.heap.ag) (now:=now) (me:=me) (h:=h) hp.ar.len;generalize dt p.heap.ag now me h=g at *;cases q:lh p.heap.ag g
  · exact Kp.heap rfl
  · rw[q]at hG;unfold lh at q;simp only[RG,decide_eq_true_eq,beq_iff_eq]at q;have hl:=hp.ar.len;have g9:=hg q.1;exact Hb q.1 (by omega) hp.ok hG.ok rfl rfl
end Go.Kx
