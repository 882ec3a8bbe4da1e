import Derived.Test.YtlcgibcdiikheaaGreatLWorld
namespace Go.Kx
open Go
open Go.IntKind (i64)
set_option linter.unusedVariables false
set_option linter.unusedSimpArgs false
set_option maxRecDepth 10000
theorem Rec.mono {g:Int→Int} {D:Int→Prop} {h:gV} {a b:Int} {n:Nat} (q:a≤b) (r:Rec g D h a n):Rec g D h b n:=by
  have tg:nZ h b≤nZ h a:=by
    unfold nZ;split
    · omega
    · have:wS h b≤wS h a:=x7 _ fun k _ hk=>by
        rw [pG] at hk ⊢
        rcases hk with hk | hk
        · exact .inl hk
        · exact .inr ⟨hk.1,wO q hk.2⟩
      omega
  refine ⟨r.sf.mono q,⟨r.dm.rg,r.dm.ge,fun j k j0 j9 e al x=>r.dm.cl j k j0 j9 e al (wO q x)⟩,?_⟩
  rcases r.td with e | e | e
  · exact .inl e
  · exact .inr (.inl ⟨e.1,by omega⟩)
  · exact .inr (.inr (by omega))
theorem Rec.P2 {g:Int→Int} {D:Int→Prop} {h t:gV} {now:Int} {n:Nat} (r:Rec g D h now n) (hk:Hk t) (gc:t.gc=h.gc)
    (kg:∀ j,0≤j→j≤9→(nth t.ag j).py=(nth h.ag j).py∧(nth t.ag j).Q3=(nth h.ag j).Q3∧(nth t.ag j).mark=(nth h.ag j).mark)
    (ex:∀ k,0≤k→k≤9→iI (nth t.ag k) now=false→iI (nth h.ag k) now=false∨(k ≠ 0∧Reaches h.ag now k))
    (ed:∀ j k,0≤j→j≤9→k ∈ jr t.ag j→k ∈ jr h.ag j∨(Reaches h.ag now k∧(h.gc.QS=0→0<k→(nth h.ag k).mark=true))):Rec g D t now n:=by
  have ar:=r.sf.hk.ar
  have sub:∀ k,Reaches t.ag now k→Reaches h.ag now k:=fun k q=>by
    induction q with
    | root=>exact .root
    | step q1 q2 q3 ih =>
      obtain ⟨i0,i9⟩:=q1.mM hk.ar;obtain ⟨k0,k1⟩:=mc q2
      rcases ed _ _ i0 i9 q2 with e | e
      · rcases ex _ k0 (by have:=hk.ar.len;omega) q3 with x | x
        · exact .step ih e x
        · exact x.2
      · exact e.1
  have al:∀ k,Al g D t.ag k→Al g D h.ag k:=fun k a=>by
    obtain ⟨k1,k9⟩:=r.dm.rg k a.1;obtain ⟨e1,e2,_⟩:=kg k (by omega) k9;exact ⟨a.1,by rw [← e1];exact a.2.1,by rw [← e2];exact a.2.2⟩
  have al':∀ k,Al g D h.ag k→Al g D t.ag k:=fun k a=>by
    obtain ⟨k1,k9⟩:=r.dm.rg k a.1;obtain ⟨e1,e2,_⟩:=kg k (by omega) k9;exact ⟨a.1,by rw [e1];exact a.2.1,by rw [e2];exact a.2.2⟩
  have tg:nZ t now≤nZ h now:=by
    unfold nZ;rw [gc];split
    · omega
    · have:wS t now≤wS h now:=x7 _ fun k hk' hp=>by
        rw [List.mem_range] at hk';rw [pG] at hp ⊢
        rcases hp with hp | hp
        · rw [gc] at hp;exact .inl hp
        · refine .inr ⟨?_,?_⟩
          · rw [← (kg (k:Int) (by omega) (by omega)).2.2];exact hp.1
          · rcases ex (k:Int) (by omega) (by omega) hp.2 with x | x
            · exact x
            · exact oe ar x.2 x.1
      omega
  refine ⟨⟨hk,fun c i i0 i1=>?_,fun c i i0 i1 q=>?_,fun c i r1 r2 r3 k k1 k2 k3=>?_⟩,⟨r.dm.rg,fun i d=>?_,fun j k j0 j9 e a x=>?_⟩,?_⟩
  · rw [gc] at c i1
    rcases sX r.sf.hk with e | ⟨_,p0,p9,_⟩
    · exact absurd (e.symm.trans c) (by decide)
    · rw [(kg i i0 (by omega)).2.2];exact r.sf.lo c i i0 i1
  · rw [gc] at c i1;obtain ⟨_,i9⟩:=q.mM hk.ar;rw [(kg i (by omega) i9).2.2];exact r.sf.hi c i i0 i1 (sub i q)
  · rw [gc] at c r2;obtain ⟨i0,i9⟩:=r1.mM hk.ar;obtain ⟨k0,k9⟩:=k3.mM hk.ar;rw [(kg k k0 k9).2.2];rw [(kg i i0 i9).2.2] at r3
    rcases ed i k i0 i9 k1 with e | e
    · exact r.sf.bl c i (sub i r1) r2 r3 k e k2 (sub k k3)
    · exact e.2 c k2
  · obtain ⟨i1,i9⟩:=r.dm.rg i d;rw [(kg i (by omega) i9).2.1];exact r.dm.ge i d
  · have ah:=al k a;have hn:¬ Reaches h.ag now k:=fun q=>r.dm.un ar q ah;obtain ⟨k0,k1⟩:=mc e
    have k9:k≤9:=by have:=hk.ar.len;omega
    rcases ed j k j0 j9 e with e | e
    · rcases ex k k0 k9 x with x | x
      · exact al' j (r.dm.cl j k j0 j9 e ah x)
      · exact absurd x.2 hn
    · exact absurd e.1 hn
  · rcases r.td with e | ⟨y,e⟩ | e
    · exact .inl fun i a=>e i (al i a)
    · refine .inr (.inl ⟨fun i a=>?_,by omega⟩);obtain ⟨i1,i9⟩:=r.dm.rg i a.1;rw [gc,(kg i (by omega) i9).2.2];exact y i (al i a)
    · exact .inr (.inr (by omega))
theorem Rec.QC {g:Int→Int} {D:Int→Prop} {h:gV} {now:Int} {n:Nat} (r:Rec g D h now n) (hn:now≤1000000) {x:Int} (hx:Reaches h.ag now x):Rec g D (jG h x) now n:=by
  have ar:=r.sf.hk.ar;have h10:=ar.len;obtain ⟨x0,x9⟩:=hx.mM ar;have hk:=r.sf.hk.jG x0 x9;obtain ⟨s,_⟩:=xk h10 x0 x9
  have live:iI (nth h.ag x) now=false:=by
    by_cases e:x=0
    · subst e;unfold iI;rw [ar.sv,ar.zG];simp;omega
    · exact oe ar hx e
  have ne:∀ i,0≤i→i ≠ x→nth (Kx.jG h x).ag i=nth h.ag i:=fun i i0 hi=>by
    unfold Kx.jG;split
    · dsimp only;rw [ko x0 (by omega) i0,if_neg (Ne.symm hi)]
    · rfl
  have gr:∀ i,i ∈ (Kx.jG h x).gc.gQ→i ∈ h.gc.gQ∨(i=x∧(nth h.ag x).mark=false):=fun i hi=>by
    unfold Kx.jG at hi;split at hi
    · rename_i c;simp only [Rg,Bool.not_eq_true'] at c;dsimp only at hi;split at hi
      · exact .inl hi
      · rcases List.mem_append.1 hi with e | e
        · exact .inl e
        · exact .inr ⟨by simpa using e,c.2.2⟩
    · exact .inl hi
  have sub:∀ k,Reaches (Kx.jG h x).ag now k→Reaches h.ag now k:=fun k=>lL hk.ar s.sk.symm
  have tg:nZ (Kx.jG h x) now≤nZ h now:=by
    unfold nZ;rw [s.ph,s.po];split
    · omega
    · have:wS (Kx.jG h x) now≤wS h now:=x7 _ fun k hk' hp=>by
        rw [List.mem_range] at hk';rw [pG] at hp ⊢
        rcases hp with hp | hp
        · rcases gr _ hp with e | ⟨e,m⟩
          · exact .inl e
          · rw [e];exact .inr ⟨m,live⟩
        · refine .inr ⟨?_,?_⟩
          · cases q:(nth h.ag (k:Int)).mark
            · rfl
            · have:=s.up (k:Int) (by omega) (by omega) q;rw [hp.1] at this;cases this
          · rw [sb (lD s.sk (i:=(k:Int)) (by omega) (by omega)) now];exact hp.2
      omega
  have al:∀ k,Al g D (Kx.jG h x).ag k→Al g D h.ag k:=fun k a=>by
    obtain ⟨k1,k9⟩:=r.dm.rg k a.1;exact (vo h10 s.sk (by omega) k9).1 a
  refine ⟨⟨hk,fun c i i0 i1=>?_,fun c i i0 i1 q=>?_,fun c i r1 r2 r3 k k1 k2 k3=>?_⟩,r.dm.jx h10 s.sk,?_⟩
  · rw [s.ph] at c
    have e:Kx.jG h x=h:=by unfold Kx.jG;rw [c];rfl
    rw [e] at i1 ⊢;exact r.sf.lo c i i0 i1
  · rw [s.ph] at c;rw [s.po] at i1;obtain ⟨_,i9⟩:=(sub i q).mM ar;exact s.up i (by omega) i9 (r.sf.hi c i i0 i1 (sub i q))
  · rw [s.ph] at c;obtain ⟨i0,i9⟩:=(sub i r1).mM ar;obtain ⟨k0,k9⟩:=(sub k k3).mM ar;rw [← vd s.sk i0 (by omega)] at k1;refine s.up k k0 k9 (r.sf.bl c i (sub i r1) (fun e=>r2 (s.gr i e)) ?_ k k1 k2 (sub k k3))
    rcases r3 with r3 | r3
    · exact .inl r3
    · rcases s.dn i i0 i9 r3 with e | e
      · exact .inr e
      · exact absurd e r2
  · rcases r.td with e | ⟨y,e⟩ | e
    · exact .inl fun i a=>e i (al i a)
    · refine .inr (.inl ⟨fun i a=>?_,by omega⟩);have ah:=al i a;obtain ⟨i1,i9⟩:=r.dm.rg i a.1;have hne:i ≠ x:=fun e=>r.dm.un ar hx (e ▸ ah);obtain ⟨y1,y2,y3⟩:=y i ah;rw [ne i (by omega) hne,s.ph,s.po];refine ⟨y1,fun c hi=>?_,y3⟩
      rcases gr i hi with e | e
      · exact y2 c e
      · exact hne e.1
    · exact .inr (.inr (by omega))
structure Bm (l m:List gE):Prop where
  sk:l.map jx=m.map jx
  mr:∀ j,0≤j→j≤9→(nth m j).mark=(nth l j).mark
theorem Bm.rfl (l:List gE):Bm l l:=⟨Eq.refl _,fun _ _ _=>Eq.refl _⟩
theorem Bm.trans {l m n:List gE} (a:Bm l m) (b:Bm m n):Bm l n:=⟨a.sk.trans b.sk,fun j j0 j9=>(b.mr j j0 j9).trans (a.mr j j0 j9)⟩
theorem Bm.set {l:List gE} (h10:l.length=10) {i:Int} (i0:0≤i) (i9:i≤9) {z:gE} (e:jx z=jx (nth l i)) (m:z.mark=(nth l i).mark):Bm l (l.set i.toNat z) :=
  ⟨oJ i0 (by omega) e,fun j j0 j9=>by
    rw [ko i0 (by omega) j0];split
    · rename_i q;rw [← q];exact m
    · rfl⟩
theorem Rec.bm {g:Int→Int} {D:Int→Prop} {h t:gV} {now:Int} {n:Nat} (r:Rec g D h now n) (hk:Hk t) (gc:t.gc=h.gc) (b:Bm h.ag t.ag):Rec g D t now n:=by
  have h10:=r.sf.hk.ar.len;refine r.P2 hk gc (fun j j0 j9=>?_) (fun k k0 k9 x=>?_) fun j k j0 j9 q=>?_
  · have e:=lD b.sk j0 (by omega);exact ⟨(congrArg Sk.py e).symm,(congrArg Sk.Q3 e).symm,b.mr j j0 j9⟩
  · rw [← sb (lD b.sk k0 (by omega)) now] at x;exact .inl x
  · rw [← vd b.sk j0 (by omega)] at q;exact .inl q
def Kp (now:Int) (p q:cd):Prop:=∀ g D n,Rec g D p.heap now n→Rec g D q.heap now n
theorem Kp.self (now:Int) (p:cd):Kp now p p:=fun _ _ _ r=>r
theorem Kp.heap {now:Int} {p q:cd} (e:q.heap=p.heap):Kp now p q:=fun g D n r=>by rw [e];exact r
theorem Kp.trans {now:Int} {p q r:cd} (a:Kp now p q) (b:Kp now q r):Kp now p r:=fun g D n x=>b g D n (a g D n x)
theorem Kp.bm {now:Int} {p q:cd} (ok:ik q=true) (gc:q.heap.gc=p.heap.gc) (b:Bm p.heap.ag q.heap.ag):Kp now p q:=fun g D n r=>r.bm (mg ok) gc b
theorem Jb {l:List gE} {now me h:Int} (q:decide (hD l now me h<0)=false):Reaches l now (hD l now me h):=by
  obtain ⟨ar,g0,g9,_⟩:=z0 q;unfold hD at *;cases hg:v5 l now me h
  · rw [hg] at q;simp at q
  · rw [hg] at g0;simp only [Rb] at g0 ⊢;unfold v5 at hg;simp only [Rg] at hg;exact (qx ar g0).1 hg.2.2.2
theorem yf {l:List gE} {now me h k:Int} (q:jl l now me h k=0):Reaches l now (hD l now me h):=Jb (by have:=(kU q).2.1;exact decide_eq_false (by omega))
theorem Kh {l:List gE} (h10:l.length=10) (gc:ka) (f:gE→gE) (fk:∀ o,(f o).py=o.py) (fm:∀ o,(f o).mark=o.mark) (fc:∀ o m,f (marked o m)=marked (f o) m) {i x:Int} (i0:0≤i) (i9:i≤9) (x0:0≤x) (x9:x≤9) :
    jG ⟨l.set i.toNat (f (nth l i)),gc⟩ x=⟨(jG ⟨l,gc⟩ x).ag.set i.toNat (f (nth (jG ⟨l,gc⟩ x).ag i)),(jG ⟨l,gc⟩ x).gc⟩:=by
  have hn:∀ j,0≤j→nth (l.set i.toNat (f (nth l i))) j=if i=j then f (nth l i) else nth l j:=fun j hj=>ko i0 (by omega) hj
  have hk:(nth (l.set i.toNat (f (nth l i))) x).py=(nth l x).py:=by
    rw [hn x x0];split
    · rename_i e;subst e;exact fk _
    · rfl
  have hm:(nth (l.set i.toNat (f (nth l i))) x).mark=(nth l x).mark:=by
    rw [hn x x0];split
    · rename_i e;subst e;exact fm _
    · rfl
  unfold Kx.jG;dsimp only;rw [hk,hm];split
  · dsimp only;congr 1;rw [hn x x0,ko x0 (by omega) i0]
    by_cases e:i=x
    · subst e;rw [if_pos rfl,if_pos rfl,List.set_set,List.set_set,fc]
    · rw [if_neg e,if_neg (Ne.symm e)];exact List.set_comm _ _ (by omega)
  · rfl
theorem Rec.put {g:Int→Int} {D:Int→Prop} {h:gV} {now:Int} {n:Nat} (r:Rec g D h now n) {i:Int} (i0:0≤i) (i9:i≤9) (f:gE→gE) (fk:(f (nth h.ag i)).py=(nth h.ag i).py) (fg:(f (nth h.ag i)).Q3=(nth h.ag i).Q3) (fm:(f (nth h.ag i)).mark=(nth h.ag i).mark)
    (ft:iI (f (nth h.ag i)) now=false→iI (nth h.ag i) now=false∨(i ≠ 0∧Reaches h.ag now i)) (hk:Hk ⟨h.ag.set i.toNat (f (nth h.ag i)),h.gc⟩)
    (ed:∀ j k,0≤j→j≤9→k ∈ jr (h.ag.set i.toNat (f (nth h.ag i))) j→k ∈ jr h.ag j∨(Reaches h.ag now k∧(h.gc.QS=0→0<k→(nth h.ag k).mark=true))):Rec g D ⟨h.ag.set i.toNat (f (nth h.ag i)),h.gc⟩ now n:=by
  have h10:=r.sf.hk.ar.len
  have hn:∀ j,0≤j→nth (h.ag.set i.toNat (f (nth h.ag i))) j=if i=j then f (nth h.ag i) else nth h.ag j:=fun j hj=>ko i0 (by omega) hj
  refine r.P2 hk rfl (fun j j0 j9=>?_) (fun k k0 k9 x=>?_) ed
  · dsimp only;rw [hn j j0];split
    · rename_i e;subst e;exact ⟨fk,fg,fm⟩
    · exact ⟨rfl,rfl,rfl⟩
  · dsimp only at x;rw [hn k k0] at x;split at x
    · rename_i e;subst e;exact ft x
    · exact .inl x
theorem CZ {l:List gE} (h10:l.length=10) {i b x:Int} (i0:0≤i) (i9:i≤9) {j k:Int} (j0:0≤j) (j9:j≤9) (q:k ∈ jr (l.set i.toNat (linked (nth l i) b x)) j):k ∈ jr l j∨k=x:=by
  have hn:∀ j,0≤j→nth (l.set i.toNat (linked (nth l i) b x)) j=if i=j then linked (nth l i) b x else nth l j:=fun j hj=>ko i0 (by omega) hj
  obtain ⟨⟨k0,k9⟩,u⟩:=(lS (by rw [List.length_set];exact h10)).1 q
  have hb:∀ j,0≤j→(nth (l.set i.toNat (linked (nth l i) b x)) j).box=(nth l j).box∧(nth (l.set i.toNat (linked (nth l i) b x)) j).py=(nth l j).py:=fun j hj=>by
    rw [hn j hj];split
    · rename_i e;subst e;exact ⟨rfl,rfl⟩
    · exact ⟨rfl,rfl⟩
  rw [(hb k k0).1,(hb k k0).2,(hb j j0).2] at u
  rcases u with u | u
  · exact .inl ((lS h10).2 ⟨⟨k0,k9⟩,.inl u⟩)
  · rw [hn j j0] at u;split at u
    · rename_i e;subst e
      rcases List.mem_or_eq_of_mem_set (show k ∈ (nth l i).gZ.set b.toNat x from u) with c | c
      · exact .inl ((lS h10).2 ⟨⟨k0,k9⟩,.inr c⟩)
      · exact .inr c
    · exact .inl ((lS h10).2 ⟨⟨k0,k9⟩,.inr u⟩)
theorem DV {l:List gE} (h10:l.length=10) {i x:Int} (i0:0≤i) (i9:i≤9) {j k:Int} (j0:0≤j) (j9:j≤9) (q:k ∈ jr (l.set i.toNat (boxed (nth l i) x)) j):k ∈ jr l j∨(k=i∧0≤x):=by
  have hn:∀ j,0≤j→nth (l.set i.toNat (boxed (nth l i) x)) j=if i=j then boxed (nth l i) x else nth l j:=fun j hj=>ko i0 (by omega) hj
  obtain ⟨⟨k0,k9⟩,u⟩:=(lS (by rw [List.length_set];exact h10)).1 q
  have hb:∀ j,0≤j→(nth (l.set i.toNat (boxed (nth l i) x)) j).gZ=(nth l j).gZ∧(nth (l.set i.toNat (boxed (nth l i) x)) j).py=(nth l j).py:=fun j hj=>by
    rw [hn j hj];split
    · rename_i e;subst e;exact ⟨rfl,rfl⟩
    · exact ⟨rfl,rfl⟩
  rw [(hb k k0).2,(hb j j0).1,(hb j j0).2] at u
  rcases u with ⟨a,b,c,d⟩ | u
  · rw [hn k k0] at c;split at c
    · rename_i e;exact .inr ⟨e.symm,by have c:x=j:=c;omega⟩
    · exact .inl ((lS h10).2 ⟨⟨k0,k9⟩,.inl ⟨a,b,c,d⟩⟩)
  · exact .inl ((lS h10).2 ⟨⟨k0,k9⟩,.inr u⟩)
theorem Rec.MU {g:Int→Int} {D:Int→Prop} {h:gV} {now:Int} {n:Nat} (r:Rec g D h now n) (hn:now≤1000000) {i x:Int} (i0:0≤i) (i9:i≤9) (hx:Reaches h.ag now x) (f:gE→gE) (fk:∀ o,(f o).py=o.py) (fm:∀ o,(f o).mark=o.mark) (fc:∀ o m,f (marked o m)=marked (f o) m)
    (fg:∀ o,(f o).Q3=o.Q3) (ft:∀ o,(f o).iF=o.iF) (hk:Hk (jG ⟨h.ag.set i.toNat (f (nth h.ag i)),h.gc⟩ x))
    (ed:∀ (l:List gE),l.length=10→∀ j k,0≤j→j≤9→k ∈ jr (l.set i.toNat (f (nth l i))) j→k ∈ jr l j∨k=x):Rec g D (jG ⟨h.ag.set i.toNat (f (nth h.ag i)),h.gc⟩ x) now n:=by
  have ar:=r.sf.hk.ar;obtain ⟨x0,x9⟩:=hx.mM ar;have e:=Kh ar.len h.gc f fk fm fc i0 i9 x0 x9;have rs:=r.QC hn hx;obtain ⟨s1,s2⟩:=xk (h:=h) ar.len x0 x9;have r':Reaches (Kx.jG h x).ag now x:=lL ar s1.sk hx;rw [e] at hk ⊢;refine Rec.put (h:=Kx.jG h x) rs i0 i9 f (fk _) (fg _) (fm _) (fun q=>.inl ?_) hk fun j k j0 j9 q=>?_
  · unfold iI at q ⊢;rw [fk,ft] at q;exact q
  · rcases ed _ rs.sf.hk.ar.len j k j0 j9 q with c | c
    · exact .inl c
    · subst c;refine .inr ⟨r',fun p k0=>s2 (s1.ph.symm.trans p) ?_⟩;exact wB (oe ar hx (by omega))
theorem MX {h:gV} {x:Int} (hk:Hk (bif kb h&&ic x 0 9 then jG h x else h)) (x0:0≤x) (x9:x≤9):(kb h&&ic x 0 9)=true:=by
  cases hb:kb h
  · rw [hb] at hk;simp only [Bool.false_and,Q9] at hk;rw [kq.2 hk] at hb;cases hb
  · rw [ir.2 ⟨x0,x9⟩];rfl
theorem Na {p:cd} (hp:lB p) (me:Int) {now:Int} (hn:now≤1000000) (c:iA):Kp now p (uW p me now c).2.2:=by
  have hG:=GZ hp me now c;unfold uW at *;cases q1:!ic c.b 0 1
  case true=>exact Kp.self _ _
  cases q2:jl p.heap.ag now me c.a 0 != 0
  case true=>exact Kp.self _ _
  cases q3:(c.py==2)&&(jl p.heap.ag now me c.c 0 != 0)
  case true=>exact Kp.self _ _
  rw [q1,q2,q3] at hG;simp only [Q9] at hG ⊢;obtain ⟨ar,g0,g9,gk,_⟩:=kU (jM q2)
  have hx:(bif c.py==2 then hD p.heap.ag now me c.c else -1)=-1∨Reaches p.heap.ag now (bif c.py==2 then hD p.heap.ag now me c.c else -1):=by
    cases k2:c.py==2
    · exact .inl rfl
    · rw [k2] at q3;exact .inr (yf (jM (by simpa using q3)))
  generalize (bif c.py==2 then hD p.heap.ag now me c.c else -1)=x at *;generalize hD p.heap.ag now me c.a=i at *;have hk:=mg hG.ok;intro g D n r;have eH:(Ko p i c.b x).heap=mi (gV.mk (p.heap.ag.set i.toNat (linked (nth p.heap.ag i) c.b x)) p.heap.gc) x x:=rfl;rw [eH] at hk ⊢;unfold mi rm at *
  rcases hx with hx | hx
  · subst hx;rw [show decide ((-1:Int) ≥ 0)=false from rfl] at hk ⊢;simp only [Q9] at hk ⊢;refine Rec.put (h:=p.heap) r g0 g9 (fun o=>linked o c.b (-1)) rfl rfl rfl (fun q=>.inl q) hk fun j k j0 j9 q=>?_
    rcases CZ ar.len g0 g9 j0 j9 q with e | e
    · exact .inl e
    · have:=mc q;omega
  · obtain ⟨x0,x9⟩:=hx.mM ar;rw [decide_eq_true (show x ≥ 0 from x0)] at hk ⊢;simp only [Rb] at hk ⊢;have hb:(kb (gV.mk (p.heap.ag.set i.toNat (linked (nth p.heap.ag i) c.b x)) p.heap.gc)&&ic x 0 9)=true:=MX hk x0 x9;rw [hb] at hk ⊢;simp only [Rb] at hk ⊢;exact Rec.MU (h:=p.heap) r hn g0 g9 hx (fun o=>linked o c.b x) (fun _=>rfl) (fun _=>rfl) (fun _ _=>rfl) (fun _=>rfl) (fun _=>rfl) hk fun l h10 j k j0 j9 q=>CZ h10 g0 g9 j0 j9 q
theorem NI {p:cd} (hp:lB p) (me:Int) {now:Int} (hn:now≤1000000) (c:iA):Kp now p (uL p me now c).2.2:=by
  have hG:=Hg hp me now c;unfold uL at *;cases q2:jl p.heap.ag now me c.a 0 != 0
  case true=>exact Kp.self _ _
  cases q1:hD p.heap.ag now me c.a==0
  case true=>exact Kp.self _ _
  cases q3:(c.py==4)&&(jl p.heap.ag now me c.b 1 != 0)
  case true=>exact Kp.self _ _
  rw [q1,q2,q3] at hG;simp only [Q9] at hG ⊢;obtain ⟨ar,g0,g9,gk,_⟩:=kU (jM q2);have hi:=yf (jM q2);generalize (bif c.py==4 then hD p.heap.ag now me c.b else -1)=x at *;generalize hD p.heap.ag now me c.a=i at *;have hk:=mg hG.ok;intro g D n r;have eH:(KV p i x).heap=mi (gV.mk (p.heap.ag.set i.toNat (boxed (nth p.heap.ag i) x)) p.heap.gc) x i:=rfl;rw [eH] at hk ⊢;unfold mi rm at *;cases hx:decide (x ≥ 0)
  · rw [hx] at hk;simp only [Q9] at hk ⊢;have hx:=of_decide_eq_false hx;refine Rec.put (h:=p.heap) r g0 g9 (fun o=>boxed o x) rfl rfl rfl (fun q=>.inl q) hk fun j k j0 j9 q=>?_
    rcases DV ar.len g0 g9 j0 j9 q with e | e
    · exact .inl e
    · exact absurd e.2 (by omega)
  · rw [hx] at hk;simp only [Rb] at hk ⊢;have hb:=MX hk g0 g9;rw [hb] at hk ⊢;simp only [Rb] at hk ⊢;refine Rec.MU (h:=p.heap) r hn g0 g9 hi (fun o=>boxed o x) (fun _=>rfl) (fun _=>rfl) (fun _ _=>rfl) (fun _=>rfl) (fun _=>rfl) hk fun l h10 j k j0 j9 q=>?_
    rcases DV h10 g0 g9 j0 j9 q with e | e
    · exact .inl e
    · exact .inr e.1
theorem GU {p:cd} {now:Int} {i:Int} (g0:0≤i) (g9:i≤9) {z:gE} (ok:ik p=true) (hk:ik (mu p (p.heap.ag.set i.toNat z))=true) (e:jx z=jx (nth p.heap.ag i)) (m:z.mark=(nth p.heap.ag i).mark):Kp now p (mu p (p.heap.ag.set i.toNat z)) :=
  Kp.bm hk rfl (Bm.set (iT ok).len g0 g9 e m)
theorem NC {p:cd} (hp:lB p) (me now:Int) (c:iA):Kp now p (jT p me now c).2.2:=by
  have hG:=GX hp me now c;unfold jT at *;cases q2:jl p.heap.ag now me c.a 2 != 0
  case true=>exact Kp.self _ _
  cases q1:!ic c.b 0 (((nth p.heap.ag (hD p.heap.ag now me c.a)).QV.length:Int) - 1)
  case true=>exact Kp.self _ _
  cases q4:c.py==7
  case true=>exact Kp.self _ _
  cases q3:!ic c.c 0 999
  case true=>exact Kp.self _ _
  rw [q1,q2,q3,q4] at hG;simp only [Q9] at hG ⊢;obtain ⟨ar,g0,g9,gk,_⟩:=kU (jM q2);exact GU g0 g9 hp.ok hG.ok rfl rfl
theorem LZ {p:cd} (hp:lB p) (me now:Int) (c:iA):Kp now p (ss p me now c).2.2:=by
  have hG:=D8 hp me now c;unfold ss at *;cases q2:jl p.heap.ag now me c.a 0 != 0
  case true=>exact Kp.self _ _
  cases q1:(hD p.heap.ag now me c.a==0) || (!ic c.b 1 1000 || decide (i64.wrap ((nth p.heap.ag (hD p.heap.ag now me c.a)).iF+c.b) > 1000000))
  case true=>exact Kp.self _ _
  cases q3:!oc p (kK p (nth p.heap.ag (hD p.heap.ag now me c.a)).res) (gT.mk 0 (i64.wrap ((nth p.heap.ag (hD p.heap.ag now me c.a)).bh * c.b)) 0)
  case true=>exact Kp.self _ _
  rw [q1,q2,q3] at hG;simp only [Q9] at hG ⊢;obtain ⟨ar,g0,g9,gk,_⟩:=kU (jM q2);have hi:=yf (jM q2)
  have h0:hD p.heap.ag now me c.a ≠ 0:=by
    simp only [Bool.or_eq_false_iff,beq_eq_false_iff_ne,ne_eq] at q1;exact q1.1
  generalize hD p.heap.ag now me c.a=i at *;have hk:=mg hG.ok;intro g D n r;refine Rec.put (h:=p.heap) r g0 g9 (fun o=>nq o (i64.wrap ((nth p.heap.ag i).iF+c.b))) rfl rfl rfl (fun q=>.inr ⟨h0,hi⟩) hk fun j k j0 j9 q=>.inl ?_;have h10:=ar.len
  have hn:∀ j,0≤j→nth (p.heap.ag.set i.toNat (nq (nth p.heap.ag i) (i64.wrap ((nth p.heap.ag i).iF+c.b)))) j=if i=j then nq (nth p.heap.ag i) (i64.wrap ((nth p.heap.ag i).iF+c.b)) else nth p.heap.ag j:=fun j hj=>ko g0 (by omega) hj
  have hb:∀ j,0≤j→(nth (p.heap.ag.set i.toNat (nq (nth p.heap.ag i) (i64.wrap ((nth p.heap.ag i).iF+c.b)))) j).box=(nth p.heap.ag j).box∧(nth (p.heap.ag.set i.toNat (nq (nth p.heap.ag i) (i64.wrap ((nth p.heap.ag i).iF+c.b)))) j).py=(nth p.heap.ag j).py∧(nth (p.heap.ag.set i.toNat (nq (nth p.heap.ag i) (i64.wrap ((nth p.heap.ag i).iF+c.b)))) j).gZ=(nth p.heap.ag j).gZ:=fun j hj=>by
    rw [hn j hj];split
    · rename_i e;subst e;exact ⟨rfl,rfl,rfl⟩
    · exact ⟨rfl,rfl,rfl⟩
  obtain ⟨⟨k0,k9⟩,q⟩:=(lS (by rw [List.length_set];exact h10)).1 q;rw [(hb k k0).1,(hb k k0).2.1,(hb j j0).2.1,(hb j j0).2.2] at q;exact (lS h10).2 ⟨⟨k0,k9⟩,q⟩
theorem Ot {p:cd} (now:Int) (c:iA):Kp now p (vZ p c).2.2:=by
  refine Kp.heap ?_;unfold vZ;cases c.py==9
  · cases c.py==10
    · simp only [Q9];cases !(ny p.QR c.a).2<;>rfl
    · simp only [Q9,Rb];cases !ic c.a 0 4 || (!ic c.b 0 4 || (!ic c.c 0 2 || !wM c.d))
      · simp only [Q9];cases !(nu p.QR c.a c.b (lG c.c c.d)).2<;>rfl
      · rfl
  · simp only [Rb];cases !ic c.a 0 4 || !iC (gT.mk c.b c.c c.d)
    · simp only [Q9];cases !(mA p.QR c.a (gT.mk c.b c.c c.d)).2.2<;>rfl
    · rfl
theorem Mc {p:cd} (now:Int) (c:iA):Kp now p (uu p c).2.2:=by
  refine Kp.heap ?_;unfold uu;cases !ic c.a 0 ((p.gR.length:Int) - 1)<;>rfl
theorem N9 {l:List gE} (h10:l.length=10) {k w b:Int} (hk:0≤k→k≤9):Bm l (uY l k w b):=by
  unfold uY;cases q:decide (k ≥ 0)&&((nth l k).QW==w)
  · exact Bm.rfl l
  · simp only [Rg,decide_eq_true_eq,beq_iff_eq] at q;have k9:=hk q.1;rw [Rb];refine (Bm.set h10 q.1 k9 (z:=waiting (nth l k) 0) rfl rfl).trans (Bm.set (by rw [List.length_set];exact h10) q.1 k9 rfl rfl)
theorem Nr {p:cd} (hp:lB p) (me now:Int) {th:Int} (t0:0≤th) (t9:th≤9) (tk:(nth p.heap.ag th).py=4) (c:iA):Kp now p (uT p me now th c).2.2:=by
  have hG:=HH hp me now t0 t9 tk c;unfold uT at *;cases q2:jl p.heap.ag now me c.a 3 != 0
  case true=>exact Kp.self _ _
  obtain ⟨ar,g0,g9,gk,_⟩:=kU (jM q2);cases q1:!ic c.b 0 999
  case true=>exact Kp.self _ _
  rw [q1,q2] at hG;simp only [Q9] at hG ⊢;generalize hD p.heap.ag now me c.a=i at *;have hl:=ar.len;cases q5:c.py==12
  · rw [q5] at hG;cases q4:((nth p.heap.ag i).QU.length:Int)==0
    case true=>exact Kp.self _ _
    rw [q4] at hG;simp only [Q9] at hG ⊢
    have hlen:(served p.heap.ag i).length=10:=by unfold served;rw [List.length_set];exact hl
    exact Kp.bm hG.ok rfl ((Bm.set hl g0 g9 (z:=n5 (nth p.heap.ag i) ((nth p.heap.ag i).QU.drop 1)) rfl rfl).trans (N9 hlen fun k0=>by have:=uq hlen k0;omega))
  · rw [q5] at hG;cases q4:decide (((nth p.heap.ag i).QU.length:Int) ≥ 2)
    case true=>exact Kp.self _ _
    rw [q4] at hG;simp only [Q9,Rb] at hG ⊢
    have hlen:(asked p.heap.ag i me th c).length=10:=by unfold asked;rw [List.length_set];exact hl
    exact Kp.bm hG.ok rfl ((Bm.set hl g0 g9 (z:=n5 (nth p.heap.ag i) ((nth p.heap.ag i).QU++[jw.mk (lC me th (nth p.heap.ag th).Q3) c.b])) rfl rfl).trans (Bm.set (l:=asked p.heap.ag i me th c) hlen t0 t9 rfl rfl))
theorem Rec.born {g:Int→Int} {D:Int→Prop} {h:gV} {now:Int} {n:Nat} (r:Rec g D h now n) {j:Int} (j1:1≤j) (j9:j≤9) (jk:(nth h.ag j).py=0) {z:gE} (zg:z.Q3=(nth h.ag j).Q3+1) (zl:∀ y,y ∈ z.gZ→y<0) (zb:z.box ≠ j)
    (zm:z.mark=((h.gc.QS==0) || decide (j ≥ h.gc.Q0))) (hk:Hk ⟨h.ag.set j.toNat z,h.gc⟩):Rec g D ⟨h.ag.set j.toNat z,h.gc⟩ now n:=by
  have ar:=r.sf.hk.ar;have h10:=ar.len
  have hn:∀ i,0≤i→nth (h.ag.set j.toNat z) i=if j=i then z else nth h.ag i:=fun i hi=>ko (by omega) (by omega) hi
  have hne:∀ i,0≤i→i ≠ j→nth (h.ag.set j.toNat z) i=nth h.ag i:=fun i hi e=>by rw [hn i hi,if_neg (Ne.symm e)]
  have l10:(h.ag.set j.toNat z).length=10:=by rw [List.length_set];exact h10
  have ed:∀ i k,0≤i→i≤9→k ∈ jr (h.ag.set j.toNat z) i→i ≠ j∧(k ≠ j→k ∈ jr h.ag i):=fun i k i0 i9 q=>by
    obtain ⟨⟨k0,k9⟩,u⟩:=(lS l10).1 q
    have hij:i ≠ j:=fun e=>by
      subst e
      rcases u with ⟨a,b,c,d⟩ | u
      · by_cases e:k=i
        · subst e;rw [hn k k0,if_pos rfl] at c;exact zb c
        · rw [hne k k0 e] at b c;have:=ar.bx k0 k9 b (by omega);rw [c] at this;exact this jk
      · rw [hn i i0,if_pos rfl] at u;have:=zl k u;omega
    refine ⟨hij,fun hkj=>(lS h10).2 ⟨⟨k0,k9⟩,?_⟩⟩;rw [hne k k0 hkj,hne i i0 hij] at u;exact u
  have sub:∀ k,Reaches (h.ag.set j.toNat z) now k→k=j∨Reaches h.ag now k:=fun k q=>by
    induction q with
    | root=>exact .inr .root
    | step q1 q2 q3 ih =>
      rename_i a b;obtain ⟨a0,a9⟩:=q1.mM hk.ar;obtain ⟨b0,_⟩:=mc q2
      by_cases e:b=j
      · exact .inl e
      · obtain ⟨e1,e2⟩:=ed a b a0 a9 q2;rw [hne b b0 e] at q3
        rcases ih with c | c
        · exact absurd c e1
        · exact .inr (.step c (e2 e) q3)
  have al:∀ k,Al g D (h.ag.set j.toNat z) k→k ≠ j∧Al g D h.ag k:=fun k a=>by
    obtain ⟨k1,k9⟩:=r.dm.rg k a.1
    have hkj:k ≠ j:=fun e=>by
      subst e;have:=r.dm.ge k a.1;have e:=a.2.2;rw [hn k (by omega),if_pos rfl] at e;omega
    refine ⟨hkj,a.1,?_,?_⟩
    · rw [← hne k (by omega) hkj];exact a.2.1
    · rw [← hne k (by omega) hkj];exact a.2.2
  have al':∀ k,Al g D h.ag k→Al g D (h.ag.set j.toNat z) k:=fun k a=>by
    obtain ⟨k1,k9⟩:=r.dm.rg k a.1
    have hkj:k ≠ j:=fun e=>by subst e;exact a.2.1 jk
    exact ⟨a.1,by rw [hne k (by omega) hkj];exact a.2.1,by rw [hne k (by omega) hkj];exact a.2.2⟩
  have tg:nZ ⟨h.ag.set j.toNat z,h.gc⟩ now≤nZ h now:=by
    unfold nZ;dsimp only
    rcases sX r.sf.hk with c | ⟨c,_⟩
    · rw [if_neg (by rw [c];decide),if_neg (by rw [c];decide)]
      have:wS ⟨h.ag.set j.toNat z,h.gc⟩ now≤wS h now:=x7 _ fun k hk' hp=>by
        rw [List.mem_range] at hk';rw [pG] at hp ⊢
        rcases hp with hp | hp
        · exact .inl hp
        · dsimp only at hp
          by_cases e:(k:Int)=j
          · rw [e,hn j (by omega),if_pos rfl,zm,c] at hp;simp at hp
          · rw [hne _ (by omega) e] at hp;exact .inr hp
      omega
    · rw [if_pos c,if_pos c];omega
  refine ⟨⟨hk,fun c i i0 i1=>?_,fun c i i0 i1 q=>?_,fun c i r1 r2 r3 k k1 k2 k3=>?_⟩,⟨r.dm.rg,fun i d=>?_,fun i k i0 i9 e a x=>?_⟩,?_⟩
  · dsimp only at c i1 ⊢
    by_cases e:i=j
    · subst e;rw [hn i i0,if_pos rfl,zm,c];simp;omega
    · rw [hne i i0 e];exact r.sf.lo c i i0 i1
  · dsimp only at c i1 q ⊢
    by_cases e:i=j
    · subst e;rw [hn i (by omega),if_pos rfl,zm,decide_eq_true (by omega),Bool.or_true]
    · rw [hne i (by omega) e]
      rcases sub i q with s | s
      · exact absurd s e
      · exact r.sf.hi c i i0 i1 s
  · dsimp only at c r1 r2 r3 k1 k3 ⊢;obtain ⟨i0,i9⟩:=r1.mM hk.ar;obtain ⟨k0,k9⟩:=k3.mM hk.ar
    by_cases e:k=j
    · subst e;rw [hn k k0,if_pos rfl,zm,c];rfl
    · obtain ⟨e1,e2⟩:=ed i k i0 i9 k1;rw [hne k k0 e];rw [hne i i0 e1] at r3
      rcases sub i r1 with s | s
      · exact absurd s e1
      · rcases sub k k3 with s' | s'
        · exact absurd s' e
        · exact r.sf.bl c i s r2 r3 k (e2 e) k2 s'
  · obtain ⟨i1,i9⟩:=r.dm.rg i d;have:=r.dm.ge i d;rw [hn i (by omega)];split
    · rename_i e;subst e;omega
    · exact this
  · obtain ⟨k0,_⟩:=mc e;obtain ⟨hkj,ah⟩:=al k a;obtain ⟨e1,e2⟩:=ed i k i0 i9 e;rw [hne k k0 hkj] at x;exact al' i (r.dm.cl i k i0 i9 (e2 hkj) ah x)
  · rcases r.td with e | ⟨y,e⟩ | e
    · exact .inl fun i a=>e i (al i a).2
    · refine .inr (.inl ⟨fun i a=>?_,by omega⟩);obtain ⟨hij,ah⟩:=al i a;obtain ⟨i1,i9⟩:=r.dm.rg i a.1;dsimp only;rw [hne i (by omega) hij];exact y i ah
    · exact .inr (.inr (by omega))
theorem Nb {p:cd} (hp:lB p) (me now:Int) (c:iA) (h0:((rN p me now c).1==0)=true):Kp now p (rN p me now c).2.2:=by
  have hG:=Hj hp me now c h0;unfold rN at *;cases q1:sD now c
  case true=>exact Kp.self _ _
  cases q2:jl p.heap.ag now me c.b 1 != 0
  case true=>exact Kp.self _ _
  cases q3:!oc p c.e (cost c)
  case true=>exact Kp.self _ _
  cases q4:decide ((kI p.heap.ag (newObj now (hD p.heap.ag now me c.b) c)).2<0)
  case true=>rw [q1,q2,q3,q4] at h0;cases h0
  rw [q1,q2,q3,q4] at hG;simp only [Q9] at hG ⊢;obtain ⟨ar,j,j1,j9,jk,jg,e,arj⟩:=Af q4;have hl:=ar.len;obtain ⟨_,b0,b9,bk,_⟩:=kU (jM q2);rw [e] at hG ⊢;generalize hD p.heap.ag now me c.b=b at *;have hbj:b ≠ (j:Int):=fun e=>bk (by rw [e];exact jk);have gj:=(ar.ok _ (ar.at (i:=(j:Int)) (by omega) (by omega)).2)
  have g0:0≤(nth p.heap.ag (j:Int)).Q3:=by
    unfold iN at gj;simp only [Rg,ir] at gj;exact gj.1.1
  rw [ig (n:=(nth p.heap.ag (j:Int)).Q3+1) (by omega) (by omega)] at hG ⊢
  have ca:((c.a != 0):Bool)=true:=by
    unfold sD at q1;simp only [Bool.or_eq_false_iff,Bool.not_eq_false'] at q1;have:=ir.1 q1.1;simp;omega
  have hk:=mg hG.ok;have eH:∀ q H,(m4 q H).heap=H:=fun _ _=>rfl;rw [eH] at hk;intro g D n r;rw [eH]
  have hz:nth (p.heap.ag.set j (kB (newObj now b c) ((nth p.heap.ag (j:Int)).Q3+1))) (j:Int)=kB (newObj now b c) ((nth p.heap.ag (j:Int)).Q3+1):=by
    have:=ko (l:=p.heap.ag) (i:=(j:Int)) (j:=(j:Int)) (o:=kB (newObj now b c) ((nth p.heap.ag (j:Int)).Q3+1)) (by omega) (by omega) (by omega)
    rwa [if_pos rfl,Int.toNat_natCast] at this
  have eB:ng (gV.mk (p.heap.ag.set j (kB (newObj now b c) ((nth p.heap.ag (j:Int)).Q3+1))) p.heap.gc) (j:Int)=⟨p.heap.ag.set (j:Int).toNat (marked (kB (newObj now b c) ((nth p.heap.ag (j:Int)).Q3+1)) ((p.heap.gc.QS==0) || decide ((j:Int) ≥ p.heap.gc.Q0))),p.heap.gc⟩:=by
    have hA:=kq.2 ((mg hp.ok).ag arj);rw [ig (n:=(nth p.heap.ag (j:Int)).Q3+1) (by omega) (by omega)] at hA;unfold ng
    rw [if_pos (by
      rw [hA];dsimp only;rw [hz,ir.2 ⟨show (0:Int)≤(j:Int) by omega,show (j:Int)≤9 by omega⟩]
      exact ca)]
    dsimp only;rw [hz,Int.toNat_natCast,List.set_set]
  rw [eB] at hk ⊢;refine Rec.born (h:=p.heap) r (by omega) (by omega) jk rfl (fun y hy=>?_) (fun e=>hbj e) rfl hk;have hy:y ∈ ([-1, -1]:List Int):=hy;simp at hy;omega
theorem PU {p:cd} (hp:lB p) (me:Int) {now:Int} (hn:now≤1000000) {th:Int} (t0:0≤th) (t9:th≤9) (tk:(nth p.heap.ag th).py=4) (c:iA) (h:((mn p me now th c).1==0)=true):Kp now p (mn p me now th c).2.2:=by
  unfold mn at *;cases k1:c.py==1
  case true=>rw [k1] at h;exact Nb hp _ _ _ h
  cases (c.py==2) || (c.py==3)
  case true=>exact Na hp _ hn _
  cases (c.py==4) || (c.py==5)
  case true=>exact NI hp _ hn _
  cases (c.py==6) || (c.py==7)
  case true=>exact NC hp _ _ _
  cases c.py==8
  case true=>exact LZ hp _ _ _
  cases (c.py==9) || ((c.py==10) || (c.py==11))
  case true=>exact Ot _ _
  cases (c.py==12) || (c.py==13)
  case true=>exact Nr hp _ _ t0 t9 tk _
  cases c.py==14
  case true=>simp only [Q9,Rb,B0];exact Kp.self _ _
  cases c.py==15
  case true=>exact Mc _ _
  exact Kp.self _ _
theorem NW {p:cd} (hp:lB p) (me:Int) {now:Int} (hn:now≤1000000) (th:Int) (c:iA):Kp now p (mZ p me now th c).1:=by
  unfold mZ;cases !ik p || (!ic me 0 2 || !ic now 0 1000000)
  case true=>exact Kp.self _ _
  cases hc:mQ p now th
  · exact Kp.self _ _
  obtain ⟨_,t0,t9⟩:=uU hc;simp only [Rd,Q9];unfold fin;cases h:(mn p me now th c).1==0
  · cases (c.py==1)&&(((mn p me now th c).1==6) || ((mn p me now th c).1==7))
    · exact Kp.self _ _
    · exact Kp.heap rfl
  · exact PU hp me hn t0 t9 (Ej hc) c h
theorem NN {p:cd} (hp:lB p) {now me h:Int} {n:Int} (hn:ic n 0 999=true):Kp now p (vD p (hD p.heap.ag now me h) n):=by
  have hG:=Ht hp (now:=now) (me:=me) (h:=h) hn;unfold vD at *;have hg:=uq (l:=p.heap.ag) (now:=now) (me:=me) (h:=h) hp.ar.len;generalize hD p.heap.ag now me h=g at *;cases q:pQ p.heap.ag g
  · exact Kp.heap rfl
  · rw [q] at hG;unfold pQ at q;simp only [Rg,decide_eq_true_eq,beq_iff_eq] at q;have hl:=hp.ar.len;have g9:=hg q.1;exact GU q.1 (by omega) hp.ok hG.ok rfl rfl
end Go.Kx
namespace Go.Kx
open Go
open Go.IntKind (i64)
set_option linter.unusedVariables false
set_option linter.unusedSimpArgs false
set_option maxRecDepth 10000
theorem Lp {l:List gE} (h10:l.length=10) {i t:Int} (i0:0≤i) (i9:i≤9) {j k:Int} (j0:0≤j) (q:k ∈ jr (l.set i.toNat (nq (nth l i) t)) j):k ∈ jr l j:=by
  have hn:∀ j,0≤j→nth (l.set i.toNat (nq (nth l i) t)) j=if i=j then nq (nth l i) t else nth l j:=fun j hj=>ko i0 (by omega) hj
  have hb:∀ j,0≤j→(nth (l.set i.toNat (nq (nth l i) t)) j).box=(nth l j).box∧(nth (l.set i.toNat (nq (nth l i) t)) j).py=(nth l j).py∧(nth (l.set i.toNat (nq (nth l i) t)) j).gZ=(nth l j).gZ:=fun j hj=>by
    rw [hn j hj];split
    · rename_i e;subst e;exact ⟨rfl,rfl,rfl⟩
    · exact ⟨rfl,rfl,rfl⟩
  obtain ⟨⟨k0,k9⟩,u⟩:=(lS (by rw [List.length_set];exact h10)).1 q;rw [(hb k k0).1,(hb k k0).2.1,(hb j j0).2.1,(hb j j0).2.2] at u;exact (lS h10).2 ⟨⟨k0,k9⟩,u⟩
theorem NK {p:cd} (ok:ik p=true) {now:Int} (hn:1≤now∧now≤1000000):Kp now p (jB p now):=by
  have hk:=mg (zu ok now).1;unfold jB at *;split
  · rename_i c;rw [if_pos c] at hk;intro g D n r;dsimp only at hk ⊢;unfold qf at *;split
    · rename_i hv;rw [if_pos hv] at hk;obtain ⟨_,v0,v9⟩:=sN (sB hv);have h4:=(yq (sB hv)).1;have h10:=(iT ok).len;generalize n7 p now=i at *;refine Rec.put (h:=p.heap) r v0 v9 (fun o=>nq o (i64.wrap (now - 1))) rfl rfl rfl (fun q=>?_) hk fun j k j0 j9 q=>.inl (Lp h10 v0 v9 j0 q);unfold iI at q
      have e:((nq (nth p.heap.ag i) (i64.wrap (now - 1))).py==0)=false:=by
        show ((nth p.heap.ag i).py==0)=false
        rw [h4];rfl
      rw [e,Q9] at q;have q:=of_decide_eq_false q;have q:¬ i64.wrap (now - 1)<now:=q;rw [ig (by omega) (by omega)] at q;omega
    · exact r
  · exact Kp.self _ _
theorem HM {p:cd} (ok:ik p=true) (me now:Int):Kp now p (jQ p me now):=by
  have hk:=(xt ok me now).1;unfold jQ at *;split
  · rename_i c;rw [if_pos c] at hk;refine Kp.bm hk rfl ⟨yj p me now,fun j j0 j9=>?_⟩
    show (nth (o9 p me now) j).mark=_
    unfold o9;rw [Ca _ j0 (by have:=(iT ok).len;omega)];split<;>rfl
  · exact Kp.self _ _
theorem Pf {p:cd} (ok:ik p=true) (now:Int):Kp now p (kG p now).1:=by
  have hk:=(AL ok now).1;unfold kG at *;rw [if_pos ok] at hk ⊢;split
  · exact Kp.heap rfl
  · rename_i c;rw [if_neg c] at hk
    have hx:decide (jC p now<0)=false:=by
      unfold pD at c;cases q:decide (jC p now<0)
      · rfl
      · rw [q] at c;simp at c
    obtain ⟨_,n0,n9⟩:=vO hx;exact Kp.bm hk rfl (Bm.set (iT ok).len n0 n9 rfl rfl)
theorem Fq {g:Int→Int} {D:Int→Prop} {now:Int}:∀ (k n:Nat) (h:gV),Rec g D h now (n+k)→Rec g D (BK now k h) now n
  | 0,n,h,r=>r
  | k+1,n,h,r=>Fq k n _ r.step
theorem Le {m:Nat} {p:cd} (ok:ik p=true) (hw:wP p) (hs:(sp p).bh≤1000000) (i:Int) {now:Int} (hn:1≤now∧now≤1000000) {g:Int→Int} {D:Int→Prop} {n:Nat} (r:Rec g D p.heap now (n+3)):Rec g D (kA m p i now).heap now n:=by
  obtain ⟨k1,k2⟩:=zu ok now;obtain ⟨w1,w2⟩:=xt k1 i now;have e:sp (jQ (jB p now) i now)=sp p:=w2.trans k2;obtain ⟨c1,c2⟩:=wY w1 (xV (xZ hw now) i now) (by rw [e];exact hs) now 3;have r1:=HM k1 i now _ _ _ (NK ok hn _ _ _ r)
  have eC:(kT p i now).heap=BK now 3 (jQ (jB p now) i now).heap:=by
    unfold kT kh;rw [if_pos (by rw [w1];rfl)];exact zh now 3 _
  have r2:Rec g D (kT p i now).heap now n:=by rw [eC];exact Fq 3 n _ r1
  unfold kA;cases Int.tmod now (m:Int)==i
  · exact r2
  · exact Pf c1 now _ _ _ r2
end Go.Kx
namespace Go.Kx
open Go
open Go.IntKind (i64)
set_option linter.unusedVariables false
set_option linter.unusedSimpArgs false
set_option maxRecDepth 10000
def Rk (n:Int):Prop:=0≤n∧n≤8
theorem QG:Rk 0:=by unfold Rk;decide
structure Rf (w:g7) (p:Int) (c:iA) (r:g7×il):Prop where
  mM:Rk r.2.code
  Q1:r.1.Q1=w.Q1
  QP:r.2.code=0→jj w=true
  Q7:r.2.code ≠ 0→r.2.Q7=0
  QO:c.py=1→r.2.code=6∨r.2.code=7→ju w p=true∧r.1=ni w p (z4 (nth w.parts p))
  same:r.2.code ≠ 0→¬(c.py=1∧(r.2.code=6∨r.2.code=7))→r.1=w
theorem Rf.no {w:g7} {p:Int} {c:iA} {k:Int} (h1:1≤k) (h5:k≤5):Rf w p c (w,⟨k,0⟩) :=
  ⟨⟨by dsimp only;omega,by dsimp only;omega⟩,rfl,fun e=>absurd e (by dsimp only;omega),fun _=>rfl,fun _ e=>absurd e (by dsimp only;omega),fun _ _=>rfl⟩
theorem Rf.three {w:g7} {p:Int} {c:iA} {r:Int×Int×g7} (ok:jj w=true) (h:Rk r.1) (hn:r.2.2.Q1=w.Q1) (hs:r.1 ≠ 0→r.2.2=w) (hk:c.py ≠ 1):Rf w p c (sU r):=by
  unfold sU;cases q:r.1 != 0
  · exact ⟨QG,hn,fun _=>ok,fun e=>absurd rfl e,fun e=>absurd e hk,fun e=>absurd rfl e⟩
  · have q':r.1 ≠ 0:=by simpa using q
    exact ⟨h,hn,fun e=>absurd e q',fun _=>rfl,fun e=>absurd e hk,fun _ _=>hs q'⟩
theorem E0 {w:g7} (ok:jj w=true) {q:Int} (hq:ju w q=true) {z:cd} (h:Gd (nth w.parts q) z):jj (ni w q z)=true∧lp (ni w q z).parts=lp w.parts:=by
  have k:=nH.1 ok;have r:=zQ hq;have e:lp (w.parts.set q.toNat z)=lp w.parts:=Ch _ _ _ _ (jv r.1 r.2) h.sp;refine ⟨nH.2 ⟨k.Q1,by show 1≤(w.parts.set _ _).length∧(w.parts.set _ _).length≤3;rw [List.length_set];exact k.len,fun y hy=>?_,by show iC (lp (w.parts.set _ _))=true;rw [e];exact k.sum⟩,e⟩
  rcases List.mem_or_eq_of_mem_set hy with a | rfl
  · exact k.ok y a
  · exact h.ok
theorem ND {w:g7} (hw:Wq w) (ok:jj w=true) (p th:Int) (c:iA):jj (lH w p th c).1=true∧lp (lH w p th c).1.parts=lp w.parts:=by
  rcases Kd hw ok p th c with e | ⟨q,z,hq,_,hg,e⟩
  · rw [e];exact ⟨ok,rfl⟩
  · rw [e];exact E0 ok hq hg
theorem Ww.q {w:g7} (h:Ww w):Wq w:=⟨h.qn,fun p hp=>Nat.le_trans (h.pw p hp).1 (by decide),h.w⟩
end Go.Kx
namespace Go.Kx
open Go
open Go.IntKind (i64)
set_option linter.unusedVariables false
set_option linter.unusedSimpArgs false
set_option maxRecDepth 10000
theorem DY {w:g7} (hw:Wq w) (ok:jj w=true) (p th:Int) (c:iA):(lH w p th c).1=w∨∃ q z,ju w q=true∧Kp w.Q1 (nth w.parts q) z∧(lH w p th c).1=ni w q z:=by
  have hn:=(nH.1 ok).Q1.2;unfold lH;cases hok:!jj w || !ju w p
  case true=>exact .inl rfl
  have hp:ju w p=true:=by rw [ok] at hok;simpa using hok
  obtain ⟨p1,p2⟩:=kp hp;have pp:=hw.Dc ok p2;cases hc:mQ (nth w.parts p) w.Q1 th
  case false=>exact .inl rfl
  cases ho:decide (other w p c<0)
  case true=>exact .inl rfl
  have hq:=uF ho;generalize other w p c=q at *;obtain ⟨q1,q2⟩:=kp hq;have pq:=hw.Dc ok q2;simp only [Q9,Rd]
  have f3:∀ r:Int×Int×g7,(sU r).1=r.2.2:=fun r=>by unfold sU;cases r.1 != 0<;>rfl
  cases c.py==7
  case true=>rw [Rb,f3,Fb];exact .inl rfl
  cases c.py==17
  case true =>
    rw [Q9,Rb,f3];unfold xY;cases hb:ic c.b 0 999
    case false=>exact .inl rfl
    cases sO w p p q
    case false=>exact .inl rfl
    exact .inr ⟨q,_,hq,NN pq hb,rfl⟩
  cases c.py==16
  case true =>
    rw [Q9,Q9,Rb,f3];unfold zX;cases decide (c.d<0) || !ly (tZ c)
    case true=>exact .inl rfl
    cases sO w p p q
    case false=>exact .inl rfl
    cases iH (nth w.parts p).QR c.a
    case false=>exact .inl rfl
    cases decide (((nth w.parts p).gR.length:Int) ≥ 3)
    case true=>exact .inl rfl
    exact .inr ⟨p,vt (nth w.parts p) ((nth w.parts p).gR++[tZ c]),hp,Kp.heap rfl,rfl⟩
  exact .inr ⟨p,_,hp,NW pp p hn th c,rfl⟩
theorem CY {t:g7} (h:Wk t) (k j:Int) (j0:0≤j) (j1:j<(t.parts.length:Int)):(nth (hZ t k).parts j).heap=(nth t.parts j).heap:=by
  unfold hZ;split
  · have hlen:(jf (o8 (j6 t.parts) k (nth t.parts k).gR)).length=t.parts.length:=by
      unfold jf;rw [List.length_map];exact sC
    generalize jf (o8 (j6 t.parts) k (nth t.parts k).gR)=ts at *;obtain ⟨l1,l2⟩:=Bn t.parts ts hlen;have hg:=jv (l:=je t.parts ts) j0 (by omega);obtain ⟨p,x,a,b,c⟩:=l2 _ _ hg
    have hp:nth t.parts j=p:=by
      rw [jv j0 j1] at a;exact Option.some.inj a
    show (nth (je t.parts ts) j).heap=_
    rw [c,hp];rfl
  · rfl
theorem K4 {w:g7} {q:Int} (h:ju w q=true):0≤q∧q<(w.parts.length:Int):=by
  unfold ju at h;have:=ir.1 h;omega
def Rw (g:Int→Int→Int) (D:Int→Int→Prop) (w:g7) (now:Int) (n:Nat):Prop:=∀ p,0≤p→p<(w.parts.length:Int)→Rec (g p) (D p) (nth w.parts p).heap now n
theorem Rw.call {g:Int→Int→Int} {D:Int→Int→Prop} {w:g7} {n:Nat} (hw:Wq w) (ok:jj w=true) (r:Rw g D w w.Q1 n) (p th:Int) (c:iA):Rw g D (lH w p th c).1 w.Q1 n:=by
  rcases DY hw ok p th c with e | ⟨q,z,hq,hk,e⟩
  · rw [e];exact r
  · rw [e];have q01:0≤q∧q<(w.parts.length:Int):=K4 hq;intro j j0 j1
    have hl:(ni w q z).parts.length=w.parts.length:=by unfold ni;dsimp only;rw [List.length_set]
    rw [hl] at j1
    show Rec (g j) (D j) (nth (w.parts.set q.toNat z) j).heap w.Q1 n
    rw [w5 (by omega) (by omega) j0];split
    · rename_i e;subst e;exact hk _ _ _ (r q j0 j1)
    · exact r j j0 j1
theorem Rw.tick {g:Int→Int→Int} {D:Int→Int→Prop} {w:g7} {n:Nat} (hT0:tb w.parts.length 0 (g7.mk (w.Q1+1) w.parts)) (ok:jj w=true) (hm:(w.Q1==1000000)=false) (r:Rw g D w (w.Q1+1) (n+3)):Jt w (w.Q1+1) w.parts.length (tick w)∧Rw g D (tick w) (w.Q1+1) n:=by
  have hk:=nH.1 ok
  have hm:w.Q1 ≠ 1000000:=by simpa using hm
  have hn:=hk.Q1;have hl:=hT0.small;unfold Kx.tick;rw [ok,show (w.Q1==1000000)=false from by simpa using hm];simp only [Bool.not_false,Bool.and_self,if_true];rw [ig (by omega) (by omega)];have h0:Jt w (w.Q1+1) 0 (g7.mk (w.Q1+1) w.parts):=⟨⟨⟨by dsimp only;omega,by dsimp only;omega⟩,hk.len,hk.ok,hk.sum⟩,rfl,rfl,rfl,fun j _ _=>ot.refl _,fun j hj=>absurd hj (Nat.not_lt_zero _),hT0.w⟩;have key:=yU (P:=fun k t=>(Jt w (w.Q1+1) k t∧tb w.parts.length k t)∧∀ p,0≤p→p<(w.parts.length:Int)→Rec (g p) (D p) (nth t.parts p).heap (w.Q1+1) (if p<(k:Int) then n else n+3)) (f:=fun k t (_:cd)=>kY w.parts.length k t) w.parts 0 w.parts.length (g7.mk (w.Q1+1) w.parts) (by simp) (fun k t y _ hk' hp=>?_) ⟨⟨h0,hT0⟩,fun p p0 p1=>by rw [if_neg (by omega)];exact r p p0 p1⟩
  · obtain ⟨⟨a,_⟩,b⟩:=key;refine ⟨a,fun p p0 p1=>?_⟩;rw [a.len] at p1;have:=b p p0 p1
    rwa [if_pos p1] at this
  · obtain ⟨⟨a,a'⟩,b⟩:=hp;have hsz:∀ p,p ∈ (hZ t (k:Int)).parts→ij p≤2000000:=fun p hp'=>Nat.le_trans ((a'.gR (k:Int)).sz p hp').1 (by omega);refine ⟨⟨a.step hk' hl hsz,a'.step hk'⟩,fun p p0 p1=>?_⟩;have hT:=Cf a.wk (k:Int);have hlen:=hT.len.trans a.len;have hm':=j7 (l:=(hZ t (k:Int)).parts) (i:=(k:Int)) (by omega) (by omega);have hnow:(hZ t (k:Int)).Q1=w.Q1+1:=hT.Q1.trans a.at_;have hsum:=iR.1 hT.wk.sum;have hge:=(Ba _ hT.wk.ok).2 _ hm';have bp:=b p p0 p1;rw [← CY a.wk (k:Int) p p0 (by have:=a.len;omega)] at bp;unfold kY;dsimp only;have hset:=w5 (l:=(hZ t (k:Int)).parts) (i:=(k:Int)) (z:=kA w.parts.length (nth (hZ t (k:Int)).parts (k:Int)) (k:Int) (hZ t (k:Int)).Q1) (by omega) (by omega) p0;rw [Int.toNat_natCast] at hset;rw [hset];split
    · rename_i e;subst e;rw [if_neg (by omega)] at bp;rw [if_pos (by omega),hnow];exact Le (hT.wk.ok _ hm') (hT.w a.w _ hm') (by omega) _ ⟨by omega,by omega⟩ bp
    · rename_i e
      have:(p<((k+1:Nat):Int))=(p<(k:Int)):=by apply propext;omega
      simp only [this];exact bp
theorem N0 {p:cd} (h:ik p=true) {x:Int} (x0:0≤x) (x9:x≤9):Gd p (vP p x):=by
  refine ⟨?_,rfl⟩;unfold ik pX at *;simp only [Rg] at h ⊢;obtain ⟨a,b,c,d,e,f,g1,g2,g3⟩:=h;refine ⟨a,b,c,d,e,f,g1,?_,g3⟩
  show ic (vP p x).QY 0 10=true
  unfold vP;dsimp only;rw [ig (by omega) (by omega),ir];omega
structure Tp (S:gT) (m:Nat) (w:g7):Prop where
  ok:jj w=true
  sum:lp w.parts=S
  len:w.parts.length=m
theorem N4 {S:gT} {m:Nat} {w:g7} (h:Tp S m w) (hw:Wt w) {g:Int→Int→Int} {D:Int→Int→Prop} {n:Nat} (r:Rw g D w w.Q1 n) (e:ja):Tp S m (pJ w e).1∧(pJ w e).1.Q1=(if e.py=1∧w.Q1 ≠ 1000000 then w.Q1+1 else w.Q1)∧(pJ w e).1.Q1 ≥ w.Q1 ∧
    ((e.py ≠ 1∨w.Q1=1000000)→Rw g D (pJ w e).1 (pJ w e).1.Q1 n)∧(e.py=1→w.Q1 ≠ 1000000→Rw g D (pJ w e).1 (pJ w e).1.Q1 (n - 3)):=by
  have hk:=nH.1 h.ok;unfold pJ;cases k1:e.py==1
  · have k1:e.py ≠ 1:=by simpa using k1
    have hl:∀ (q:Int) (z:cd),(ni w q z).parts.length=w.parts.length:=fun q z=>by unfold ni;dsimp only;rw [List.length_set]
    have fin:∀ v:g7,Tp S m v→v.Q1=w.Q1→Rw g D v w.Q1 n→Tp S m v∧v.Q1=(if e.py=1∧w.Q1 ≠ 1000000 then w.Q1+1 else w.Q1)∧v.Q1 ≥ w.Q1∧((e.py ≠ 1∨w.Q1=1000000)→Rw g D v v.Q1 n)∧(e.py=1→w.Q1 ≠ 1000000→Rw g D v v.Q1 (n - 3)):=fun v a b c =>
      ⟨a,by rw [if_neg (fun q=>k1 q.1)];exact b,by omega,fun _=>by rw [b];exact c,fun q=>absurd q k1⟩
    simp only [Q9];cases k2:e.py==2
    · simp only [Q9];cases k3:e.py==3
      · exact fin w h rfl r
      · simp only [Rb]
        rcases B1 w e with q | ⟨q1,q2,q3,q⟩
        · rw [q];exact fin w h rfl r
        · rw [q];have pq:=hw.q.Dc h.ok (kp q2).2;obtain ⟨a,b⟩:=E0 h.ok q2 (N0 pq.ok q3.1 q3.2);refine fin _ ⟨a,b.trans h.sum,(hl _ _).trans h.len⟩ rfl fun j j0 j1=>?_;rw [hl] at j1;have q01:=K4 q2
          show Rec (g j) (D j) (nth (w.parts.set e.Q5.toNat (vP (nth w.parts e.Q5) e.lj)) j).heap w.Q1 n
          rw [w5 q01.1 q01.2 j0];split
          · rename_i e';rw [← e'];exact r _ q01.1 q01.2
          · exact r j j0 j1
    · simp only [Rb];obtain ⟨a,b⟩:=ND hw.q h.ok e.Q5 e.lj e.call;have rc:=Rw.call hw.q h.ok r e.Q5 e.lj e.call
      rcases DY hw.q h.ok e.Q5 e.lj e.call with q | ⟨q,z,_,_,q'⟩
      · rw [q];exact fin w h rfl r
      · refine fin _ ⟨a,b.trans h.sum,by rw [q',hl];exact h.len⟩ (by rw [q'];rfl) rc
  · have k1:e.py=1:=by simpa using k1
    simp only [Rb]
    by_cases hm:w.Q1=1000000
    · have et:tick w=w:=by
        unfold tick;rw [if_neg (by rw [hm];simp)]
      rw [et];exact ⟨h,by rw [if_neg (fun q=>q.2 hm)],by omega,fun _=>r,fun _ q=>absurd hm q⟩
    · have hT:=hw.t h.ok;have hn:=hk.Q1;rw [ig (by omega) (by omega)] at hT;have rn:Rw g D w (w.Q1+1) (n - 3+3):=fun p p0 p1=>((r p p0 p1).mono (by omega)).more (by omega);obtain ⟨J,R⟩:=Rw.tick hT h.ok (by simpa using hm) rn;refine ⟨⟨nH.2 J.wk,J.sum.trans h.sum,J.len.trans h.len⟩,?_,?_,fun q=>?_,fun _ _=>?_⟩
      · rw [if_pos ⟨k1,hm⟩];exact J.at_
      · rw [J.at_];omega
      · rcases q with q | q
        · exact absurd k1 q
        · exact absurd q hm
      · rw [J.at_];exact R
end Go.Kx
