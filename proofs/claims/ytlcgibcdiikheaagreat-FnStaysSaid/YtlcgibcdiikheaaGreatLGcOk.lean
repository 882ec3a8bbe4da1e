import Derived.Test.YtlcgibcdiikheaaGreatLDrawP
namespace Go.Kx
open Go
set_option linter.unusedVariables false
set_option linter.unusedSimpArgs false
set_option maxRecDepth 10000
theorem o6 {o z:gE} (h:iN o=true) (hk:(o.py==0)=false) (e1:z.Q3=o.Q3) (e2:z.py=o.py) (hb:ic z.box (-1) 9=true) (e3:z.res=o.res) (ht:ic z.iF 0 1000000=true) (e4:z.bh=o.bh) (hl:lZ z=true) (e5:z.QW=o.QW) (e6:z.iK=o.iK) (e7:z.iG=o.iG):iN z=true:=by
  unfold iN at h ⊢;rw [e1,e2,e3,e4,e5,e6,e7,hk];rw [hk] at h;simp only [Q9,Rg] at h ⊢;obtain ⟨a1,a2,a3,a4,a5,a6,a7,a8⟩:=h;exact ⟨a1,a2,hb,a4,ht,a6,hl,a8⟩
theorem nE {o:gE} (h:iN o=true) (hk:(o.py==0)=false):lZ o=true:=by
  unfold iN at h;rw [hk] at h;simp only [Q9,Rg] at h;exact h.2.2.2.2.2.2.1
theorem yO {o:gE} (hk:(o.py==0)=false):(o.py != 0)=true:=by unfold bne;rw [hk];rfl
theorem NB {o:gE} (h:iN o=true) (hk:(o.py==0)=false) (b:Bool):iN (marked o b)=true :=
  o6 h hk rfl rfl (mR h (yO hk)).1 rfl (mR h (yO hk)).2.2.1 rfl (show lZ o=true from nE h hk) rfl rfl rfl
theorem ra {o:gE} (h:iN o=true) (hk:(o.py==0)=true):o=blank o.Q3:=by
  unfold iN at h;rw [hk] at h;simp only [Rb,Rg,decide_eq_true_eq] at h;exact h.2.2
theorem LL {o:gE} (h:iN o=true):iN (blank o.Q3)=true:=by
  unfold iN at h ⊢;simp only [Rg] at h
  show (ic o.Q3 0 999&&(ic 0 0 4&&decide (blank o.Q3=blank o.Q3)))=true
  rw [h.1,decide_eq_true rfl];rfl
theorem OO {o:gE} (h:iN o=true) (i:Int):iN (nf i o)=true:=by
  unfold nf;cases hk:o.py==0
  · simp only [Bool.false_eq_true,if_false];have hb:=(mR h (yO hk));refine o6 h hk rfl rfl ?_ rfl hb.2.2.1 rfl ?_ rfl rfl rfl
    · show ic (if o.box==i then -1 else o.box) (-1) 9=true
      split
      · decide
      · exact hb.1
    · have hl:=nE h hk;unfold lZ at hl ⊢;simp only [Rg,List.length_map,List.all_map,List.all_eq_true] at hl ⊢;refine ⟨fun y hy=>?_,hl.2⟩
      show ic (uP i y) (-1) 9=true
      unfold uP;split
      · decide
      · exact hl.1 y hy
  · simp only [if_true];exact h
theorem qA (i:Int) (o:gE):(nf i o).py=o.py:=by unfold nf;split<;>rfl
theorem KR (i:Int) (o:gE):(nf i o).bh=o.bh:=by unfold nf;split<;>rfl
theorem Hq (i:Int) (o:gE):(nf i o).iF=o.iF:=by unfold nf;split<;>rfl
theorem Ar.swap {l:List gE} (h:Ar l) {i:Int} (h0:0≤i) (h9:i≤9) {z:gE} (hk:z.py=(nth l i).py) (hb:z.box=(nth l i).box) (hl:z.gZ=(nth l i).gZ) (ht:i=0→z.iF=(nth l i).iF) (ok:iN z=true):Ar (l.set i.toNat z):=by
  have h10:=h.len
  have hn:∀ j,0≤j→nth (l.set i.toNat z) j=if i=j then z else nth l j:=fun j hj=>ko h0 (by omega) hj
  have hkind:∀ j,0≤j→(nth (l.set i.toNat z) j).py=(nth l j).py:=fun j hj=>by
    rw [hn j hj];split
    · rename_i e;rw [← e];exact hk
    · rfl
  have hi:=(h.at h0 h9).2;refine ⟨by rw [List.length_set];exact h10,by rw [hkind 0 (by omega)];exact h.sv,?_,?_,?_,?_,?_⟩
  · rw [hn 0 (by omega)];split
    · rename_i e;rw [hb,e];exact h.zr
    · exact h.zr
  · rw [hn 0 (by omega)];split
    · rename_i e;rw [ht e,e];exact h.zG
    · exact h.zG
  · intro o ho
    rcases List.mem_or_eq_of_mem_set ho with q | rfl
    · exact h.ok o q
    · exact ok
  · intro o ho y hy y0;rw [hkind y y0]
    rcases List.mem_or_eq_of_mem_set ho with q | rfl
    · exact h.gZ o q y hy y0
    · rw [hl] at hy;exact h.gZ _ hi y hy y0
  · intro k o hko k0 hne b0;rw [hkind o.box b0]
    by_cases e:k=i.toNat
    · subst e;rw [List.getElem?_set_self (by omega)] at hko;have:z=o:=Option.some.inj hko;subst this;have:=h.box i.toNat (nth l i) (jv h0 (by omega)) k0 (by rw [← hk];exact hne) (by rw [← hb];exact b0)
      rwa [hb]
    · rw [List.getElem?_set_ne (Ne.symm e)] at hko;exact h.box k o hko k0 hne b0
theorem Ar.mark {l:List gE} (h:Ar l) {i:Int} (h0:0≤i) (h9:i≤9) (b:Bool) (hk:b=true→((nth l i).py==0)=false):Ar (l.set i.toNat (marked (nth l i) b)):=by
  refine h.swap h0 h9 rfl rfl rfl (fun _=>rfl) ?_;have ho:=h.ok _ (h.at h0 h9).2;cases hq:(nth l i).py==0
  · exact NB ho hq b
  · cases b
    · have e:=ra ho hq
      have:marked (nth l i) false=nth l i:=by rw [e];rfl
      rw [this];exact ho
    · rw [hk rfl] at hq;cases hq
theorem Ca {l:List gE} (f:gE→gE) {j:Int} (h0:0≤j) (h1:j<(l.length:Int)):nth (l.map f) j=f (nth l j):=by
  have:=jv (l:=l) h0 h1;unfold nth;rw [List.getElem?_map];unfold nth at this;rw [this];rfl
theorem Ar.free {l:List gE} (h:Ar l) {i:Int} (h1:1≤i) (h9:i≤9):Ar ((l.set i.toNat (blank (nth l i).Q3)).map (nf i)):=by
  have h10:=h.len;have hi:=(h.at (i:=i) (by omega) h9).2
  have hn:∀ j,0≤j→j≤9→nth ((l.set i.toNat (blank (nth l i).Q3)).map (nf i)) j=nf i (if i=j then blank (nth l i).Q3 else nth l j):=fun j hj h9=>by
    rw [Ca _ hj (by rw [List.length_set];omega),ko (by omega) (by omega) hj]
  have hkind:∀ j,0≤j→j≤9→j ≠ i→(nth ((l.set i.toNat (blank (nth l i).Q3)).map (nf i)) j).py=(nth l j).py:=fun j hj h9 hne=>by
    rw [hn j hj h9,if_neg (Ne.symm hne),qA]
  have hmem:∀ o,o ∈ l.set i.toNat (blank (nth l i).Q3)→iN o=true:=fun o ho=>by
    rcases List.mem_or_eq_of_mem_set ho with q | rfl
    · exact h.ok o q
    · exact LL (h.ok _ hi)
  refine ⟨by rw [List.length_map,List.length_set];exact h10,by rw [hkind 0 (by omega) (by omega) (by omega)];exact h.sv,?_,?_,?_,?_,?_⟩
  · rw [hn 0 (by omega) (by omega),if_neg (by omega)];unfold nf;rw [h.sv]
    show (if (nth l 0).box==i then -1 else (nth l 0).box)=-1
    rw [h.zr];split<;>rfl
  · rw [hn 0 (by omega) (by omega),if_neg (by omega),Hq];exact h.zG
  · intro o ho;obtain ⟨x,hx,rfl⟩:=List.mem_map.1 ho;exact OO (hmem x hx) i
  · intro o ho y hy y0;obtain ⟨x,hx,rfl⟩:=List.mem_map.1 ho;have hok:=hmem x hx;cases hq:x.py==0
    · unfold nf at hy;rw [hq] at hy;simp only [Bool.false_eq_true,if_false] at hy;obtain ⟨v,hv,rfl⟩:=List.mem_map.1 hy;unfold uP at y0 ⊢;split at y0
      · omega
      · rename_i hne
        have hne:v ≠ i:=by simpa using hne
        have v9:=((ru hok).2 v hv).2;rw [if_neg (by simpa using hne),hkind v y0 v9 hne]
        rcases List.mem_or_eq_of_mem_set hx with q | q
        · exact h.gZ x q v hv y0
        · rw [q] at hq;simp [blank] at hq
    · have e:=ra hok hq;unfold nf at hy;rw [hq] at hy;simp only [if_true] at hy;rw [e] at hy;simp [blank] at hy
  · intro k o hko k0 hne b0;rw [List.getElem?_map] at hko;obtain ⟨x,hx,rfl⟩:=Option.map_eq_some_iff.1 hko;rw [qA] at hne
    have hq:(x.py==0)=false:=by simpa using hne
    have hb:(nf i x).box=if x.box==i then -1 else x.box:=by unfold nf;rw [hq];rfl
    rw [hb] at b0 ⊢;split at b0
    · omega
    · rename_i hnb
      have hnb:x.box ≠ i:=by simpa using hnb
      rw [if_neg (by simpa using hnb)];have hxm:=List.mem_of_getElem? hx;have b9:=ir.1 (mR (hmem x hxm) (yO hq)).1;rw [hkind x.box b0 b9.2 hnb]
      by_cases e:k=i.toNat
      · subst e;rw [List.getElem?_set_self (by omega)] at hx;have:=Option.some.inj hx;rw [← this] at hq;simp [blank] at hq
      · rw [List.getElem?_set_ne (Ne.symm e)] at hx;exact h.box k x hx k0 hne b0
structure Hk (h:gV):Prop where
  ar:Ar h.ag
  ph:nw h.gc=true
  rd:0≤h.gc.QT∧h.gc.QT≤1000000
  gr:∀ y,y ∈ h.gc.gQ→0≤y∧y≤9
  nd:h.gc.gQ.Nodup
theorem KL {g:List Int}:allI (sP g) 0 g=true ↔ (∀ y,y ∈ g→0≤y∧y≤9)∧g.Nodup:=by
  rw [mq];constructor
  · intro h;refine ⟨fun y hy=>?_,?_⟩
    · obtain ⟨k,hk⟩:=List.getElem?_of_mem hy;have:=h k y hk;unfold sP at this;simp only [Rg,ir] at this;exact this.1
    · refine List.pairwise_iff_getElem.2 fun i j hi hj hij e=>?_;have:=h j g[j] (List.getElem?_eq_getElem hj);unfold sP at this;simp only [Nat.zero_add,Rg,Bool.not_eq_true'] at this
      have hm:g[j] ∈ g.take j:=by
        rw [← e];exact List.mem_iff_getElem.2 ⟨i,by rw [List.length_take];omega,by rw [List.getElem_take]⟩
      have hc:(g.take j).contains g[j]=true:=by simpa using hm
      rw [this.2] at hc;cases hc
  · rintro ⟨h1,h2⟩ i y hy;unfold sP;simp only [Nat.zero_add,Rg,Bool.not_eq_true',ir];refine ⟨h1 y (List.mem_of_getElem? hy),?_⟩;cases hc:(g.take i).contains y
    · rfl
    · have hm:y ∈ g.take i:=by simpa using hc
      obtain ⟨j,hj,e⟩:=List.mem_iff_getElem.1 hm;rw [List.length_take] at hj;rw [List.getElem_take] at e;have hi:=iU hy;have:=List.pairwise_iff_getElem.1 h2 j i (by omega) hi (by omega);rw [List.getElem?_eq_getElem hi] at hy;exact absurd (e.trans (Option.some.inj hy).symm) this
theorem kq {h:gV}:kb h=true ↔ Hk h:=by
  unfold kb;simp only [Rg,KL,ir,jJ];exact ⟨fun ⟨a,b,c,d,e⟩=>⟨a,b,c,d,e⟩,fun q=>⟨q.ar,q.ph,q.rd,q.gr,q.nd⟩⟩
theorem oI (h:gV):∀ y,y ∈ kf h→y ∈ h.gc.gQ:=fun y hy=>List.mem_of_mem_take hy
theorem xI {h:gV} (q:h.gc.gQ.Nodup):(kf h).Nodup:=List.Sublist.nodup (List.take_sublist _ _) q
theorem Hk.QA {h:gV} (q:Hk h) {ph:h.gc.QS=0} (g:List Int):nw (ka.mk h.gc.QS h.gc.Q0 h.gc.QT g)=true:=by
  have hph:=q.ph;unfold nw at hph ⊢;simp only [Bool.or_eq_true,Rg,beq_iff_eq] at hph ⊢
  rcases hph with e | e
  · exact .inl e
  · rw [ph] at e;exact absurd e.1 (by decide)
theorem Hk.jG {h:gV} (q:Hk h) {k:Int} (k0:0≤k) (k9:k≤9):Hk (jG h k):=by
  unfold Kx.jG;split
  · rename_i c;simp only [Rg,bne_iff_ne,ne_eq] at c;refine ⟨q.ar.mark k0 k9 true fun _=>by simpa using c.2.1,q.QA (ph:=by simpa using c.1) _,q.rd,?_,?_⟩
    · intro y hy;simp only at hy;split at hy
      · exact q.gr y hy
      · rcases List.mem_append.1 hy with e | e
        · exact q.gr y e
        · rw [List.mem_singleton] at e;subst e;exact ⟨k0,k9⟩
    · simp only;split
      · exact q.nd
      · rename_i hc;refine List.nodup_append.2 ⟨q.nd,by simp,fun a ha b hb e=>?_⟩;rw [List.mem_singleton] at hb;subst hb;subst e;exact hc (by simpa using ha)
  · exact q
theorem Hk.Ky {l:List gE} {now:Int}:∀ (e:List Int) (h:gV),(∀ y,y ∈ e→0≤y∧y≤9)→Hk h→Hk (e.foldl (jy l now) h)
  | [],h,_,q=>q
  | k::e,h,he,q=>by
    rw [List.foldl_cons];refine Hk.Ky e _ (fun y hy=>he y (by simp [hy])) ?_;unfold jy;split
    · exact q
    · exact q.jG (he k (by simp)).1 (he k (by simp)).2
theorem vq {h:gV} (q:Hk h) (p0:0≤h.gc.Q0) (p9:h.gc.Q0≤9) (now:Int):Ar (jF h now):=by
  unfold jF;split
  · rename_i c;unfold kc at c;simp only [Rg,bne_iff_ne,ne_eq] at c;unfold lF;split
    · exact q.ar.free (by omega) p9
    · exact q.ar
  · exact q.ar.mark p0 p9 false fun h=>by cases h
theorem Hk.step {h:gV} (q:Hk h) (now:Int):Hk (ji h now).1:=by
  unfold ji;rw [if_pos (kq.2 q)];have hph:=q.ph;unfold nw at hph;simp only [Bool.or_eq_true,Rg,beq_iff_eq,ir] at hph;split
  · rename_i c
    have c:h.gc.QS=1:=by simpa using c
    have hp:(0≤h.gc.Q0∧h.gc.Q0≤9)∧(h.gc.gQ.length:Int)=0:=by
      rcases hph with e | e
      · rw [c] at e;exact absurd e.1 (by decide)
      · exact e.2
    have hs:=vq q hp.1.1 hp.1.2 now;unfold kV;simp only;split
    · refine ⟨hs.mark (i:=0) (by omega) (by omega) true fun _=>by rw [hs.sv];rfl,rfl,?_,by simp,by simp⟩;have hr:=q.rd;simp only;rw [ig (by omega) (by omega)];split<;>omega
    · rename_i c9
      have c9:h.gc.Q0 ≠ 9:=by simpa using c9
      refine ⟨hs,?_,q.rd,q.gr,q.nd⟩;unfold nw;simp only [Bool.or_eq_true,Rg,beq_iff_eq,ir];exact .inr ⟨c,⟨by omega,by omega⟩,hp.2⟩
  · rename_i c
    have c:h.gc.QS ≠ 1:=by simpa using c
    have hp:h.gc.QS=0∧h.gc.Q0=0:=by
      rcases hph with e | e
      · exact e
      · exact absurd e.1 c
    have hph':∀ g,nw (ka.mk h.gc.QS h.gc.Q0 h.gc.QT g)=true:=fun g=>by
      unfold nw;simp [hp.1,hp.2]
    unfold nv;simp only;split
    · rename_i hg;refine ⟨q.ar,?_,q.rd,q.gr,q.nd⟩;unfold nw;simp [hg,ic]
    · rename_i hg;obtain ⟨l0,l9⟩:=m3 (kq.2 q) hg;split
      · exact ⟨q.ar,hph' _,q.rd,fun y hy=>q.gr y (oI h y hy),xI q.nd⟩
      · rename_i he;refine Hk.Ky _ _ (mX q.ar (hO h)).1 ⟨?_,hph' _,q.rd,fun y hy=>q.gr y (oI h y hy),xI q.nd⟩;refine q.ar.mark l0 l9 true fun _=>?_
        by_cases e0:hO h=0
        · rw [e0,q.ar.sv];rfl
        · cases hq:(nth h.ag (hO h)).py==0
          · rfl
          · refine absurd ?_ he;unfold iI;rw [hq];simp [e0]
def yZ:List Int→Int
  | []=>0
  | y::l=>y+yZ l
theorem ED:∀ (l:List Int) (k:Nat) (y z:Int),l[k]?=some y→yZ (l.set k z)=yZ l - y+z
  | [],k,y,z,h=>by simp at h
  | x::l,0,y,z,h=>by
    simp at h;subst h
    show z+yZ l=(x+yZ l) - x+z
    omega
  | x::l,k+1,y,z,h=>by
    show x+yZ (l.set k z)=x+yZ l - y+z
    rw [ED l k y z (by simpa using h)];omega
def ll (l:List gE):Int:=yZ (l.map gE.bh)
theorem uE {l:List gE} {i:Int} (h0:0≤i) (h1:i<(l.length:Int)) (z:gE):ll (l.set i.toNat z)=ll l - (nth l i).bh+z.bh:=by
  unfold ll;rw [List.map_set,ED _ _ (nth l i).bh _ (by rw [List.getElem?_map,jv h0 h1];rfl)]
theorem Nd {l:List gE} {f:gE→gE} (h:∀ o,(f o).bh=o.bh):ll (l.map f)=ll l:=by
  unfold ll;rw [List.map_map];congr 1;exact List.map_congr_left fun o _=>h o
theorem CF {o:gE} (h:iN o=true):0≤o.bh∧o.bh≤8:=by
  cases hk:o.py==0
  · exact ir.1 (mR h (yO hk)).2.2.2
  · rw [ra h hk];exact ⟨Int.le_refl 0,show (0:Int)≤8 by decide⟩
theorem Ex:∀ (l:List gE) (s:Int),(∀ o,o ∈ l→iN o=true)→0≤s→s+8 * (l.length:Int)≤1000000→l.foldl (fun n o=>IntKind.i64.wrap (n+o.bh)) s=s+ll l∧0≤ll l∧ll l≤8 * (l.length:Int)
  | [],s,_,_,_=>⟨(Int.add_zero s).symm,Int.le_refl _,Int.le_refl _⟩
  | o::l,s,h,h0,hB=>by
    have ho:=CF (h o (by simp));simp only [List.length_cons] at hB;obtain ⟨a,b,c⟩:=Ex l (s+o.bh) (fun x hx=>h x (by simp [hx])) (by omega) (by omega);rw [List.foldl_cons,ig (by omega) (by omega),a];have e:ll (o::l)=o.bh+ll l:=rfl;rw [e];simp only [List.length_cons];omega
theorem D9 {p:cd} (h:Ar p.heap.ag):held p=ll p.heap.ag∧0≤ll p.heap.ag∧ll p.heap.ag≤80:=by
  have h10:=h.len;unfold held;rw [List.take_of_length_le (by omega),List.filter_eq_self.2 h.ok];obtain ⟨a,b,c⟩:=Ex p.heap.ag 0 h.ok (by decide) (by omega);exact ⟨by rw [a];omega,b,by omega⟩
theorem C0 {h:gV} (q:Ar h.ag) {k:Int} (k0:0≤k) (k9:k≤9):ll (jG h k).ag=ll h.ag:=by
  unfold jG;split
  · show ll (h.ag.set _ _)=_
    rw [uE k0 (by have:=q.len;omega)]
    show _ - _+(nth h.ag k).bh=_
    omega
  · rfl
theorem BJ {l:List gE} {now:Int}:∀ (e:List Int) (h:gV),(∀ y,y ∈ e→0≤y∧y≤9)→Hk h→ll (e.foldl (jy l now) h).ag=ll h.ag
  | [],h,_,q=>rfl
  | k::e,h,he,q=>by
    have hk:=he k (by simp);rw [List.foldl_cons]
    have q1:Hk (jy l now h k):=by
      unfold jy;split
      · exact q
      · exact q.jG hk.1 hk.2
    rw [BJ e _ (fun y hy=>he y (by simp [hy])) q1];unfold jy;split
    · rfl
    · exact C0 q.ar hk.1 hk.2
theorem LM {h:gV} (q:Hk h) (now:Int):ll (ji h now).1.ag=ll h.ag - (if decide ((ji h now).2 ≥ 0) then (nth h.ag (ji h now).2).bh else 0):=by
  have h10:=q.ar.len;unfold ji;rw [if_pos (kq.2 q)];split
  · rename_i c
    have c:h.gc.QS=1:=by simpa using c
    have hph:=q.ph;unfold nw at hph;simp only [Bool.or_eq_true,Rg,beq_iff_eq,ir] at hph
    have hp:0≤h.gc.Q0∧h.gc.Q0≤9:=by
      rcases hph with e | e
      · rw [c] at e;exact absurd e.1 (by decide)
      · exact e.2.1
    have hs:=vq q hp.1 hp.2 now;have hs10:=hs.len
    have key:ll (jF h now)=ll h.ag - (if kc h now then (nth h.ag h.gc.Q0).bh else 0):=by
      unfold jF;cases hf:kc h now
      · simp only [Bool.false_eq_true,if_false];rw [uE hp.1 (by omega)]
        show _ - _+(nth h.ag h.gc.Q0).bh=_
        omega
      · simp only [if_true];unfold kc at hf;simp only [Rg,bne_iff_ne,ne_eq] at hf;unfold lF
        rw [if_pos (by
          rw [jJ.2 q.ar];simp only [Re,Rg,ir,bne_iff_ne,ne_eq]
          exact ⟨⟨by omega,hp.2⟩,hf.2.1⟩)]
        simp only;rw [Nd (KR _),uE hp.1 (by omega)]
        show _ - _+0=_
        omega
    have ke:(kV h now).2=if kc h now then h.gc.Q0 else -1:=rfl
    rw [ke]
    have e2:ll (kV h now).1.ag=ll (jF h now):=by
      unfold kV;simp only;split
      · show ll ((jF h now).set (0:Int).toNat (marked (nth (jF h now) 0) true))=_
        rw [uE (by omega) (by omega)]
        show _ - _+(nth (jF h now) 0).bh=_
        omega
      · rfl
    rw [e2,key];cases hf:kc h now
    · simp
    · simp only [if_true];rw [show decide (h.gc.Q0 ≥ 0)=true from decide_eq_true hp.1];rfl
  · simp only [show decide ((-1:Int) ≥ 0)=false from rfl,Bool.false_eq_true,if_false,Int.sub_zero];unfold nv;split
    · rfl
    · rename_i hg;obtain ⟨l0,l9⟩:=m3 (kq.2 q) hg;split
      · rfl
      · rename_i he
        have hb:Hk (gV.mk (h.ag.set (hO h).toNat (marked (nth h.ag (hO h)) true)) (ka.mk h.gc.QS h.gc.Q0 h.gc.QT (kf h))):=by
          have:=q.step now;refine ⟨?_,?_,q.rd,fun y hy=>q.gr y (oI h y hy),xI q.nd⟩
          · refine q.ar.mark l0 l9 true fun _=>?_
            by_cases e0:hO h=0
            · rw [e0,q.ar.sv];rfl
            · cases hq:(nth h.ag (hO h)).py==0
              · rfl
              · refine absurd ?_ he;unfold iI;rw [hq];simp [e0]
          · have hph:=q.ph;unfold nw at hph ⊢;rename_i c
            have c:h.gc.QS ≠ 1:=by simpa using c
            simp only [Bool.or_eq_true,Rg,beq_iff_eq] at hph ⊢
            rcases hph with e | e
            · exact .inl e
            · exact absurd e.1 c
        rw [BJ _ _ (mX q.ar (hO h)).1 hb]
        show ll (h.ag.set _ _)=_
        rw [uE l0 (by omega)]
        show _ - _+(nth h.ag (hO h)).bh=_
        omega
theorem zq {t:List g6} {a:gT} (hT:Tr t) (f:Int) (ha:iC a=true) (hp:iS gT.bh t+a.bh≤1000000) (hr:iS gT.gS t+a.gS≤1000000) (hc:iS gT.gW t+a.gW≤1000000) :
    (mw t f a).2=true∧Tr (mw t f a).1∧iS gT.bh (mw t f a).1=iS gT.bh t+a.bh∧iS gT.gS (mw t f a).1=iS gT.gS t+a.gS∧iS gT.gW (mw t f a).1=iS gT.gW t+a.gW:=by
  have ht:=jL.2 hT;obtain ⟨t1,t2,t3⟩:=hT.iS;have hS:=iR.1 hT.sum;have ha':=iR.1 ha
  have hsum:iD (jU t) a=⟨iS gT.bh t+a.bh,iS gT.gS t+a.gS,iS gT.gW t+a.gW⟩:=by
    unfold jU iD;rw [if_pos ht,t1,t2,t3,ig (by omega) (by omega),ig (by omega) (by omega),ig (by omega) (by omega)]
  have hok:iC (iD (jU t) a)=true:=by
    rw [hsum];exact iR.2 ⟨by dsimp only;omega,by dsimp only;omega,by dsimp only;omega⟩
  have hi:0≤(if iH t f then f else 0)∧(if iH t f then f else 0)≤4∧(nth t (if iH t f then f else 0)).Q2=true:=by
    split
    · rename_i q;have:=kJ q;unfold iH at q;simp only [Rg] at q;exact ⟨this.1,this.2,q.2⟩
    · exact ⟨Int.le_refl _,by decide,hT.rC⟩
  unfold mw;rw [if_pos (by rw [ht,ha,hok];rfl)];simp only;generalize (if iH t f then f else 0)=i at *;obtain ⟨i0,i4,hv⟩:=hi;have hl:=hT.len;have hm:=j7 (l:=t) i0 (by omega);have hb:=iR.1 (hT.iw _ hm)
  have e:iD (nth t i).iw a=⟨(nth t i).iw.bh+a.bh,(nth t i).iw.gS+a.gS,(nth t i).iw.gW+a.gW⟩:=by
    unfold iD;rw [ig (by omega) (by omega),ig (by omega) (by omega),ig (by omega) (by omega)]
  obtain ⟨_,q⟩:=sK t ⟨0,0,0⟩ 0 hT.iw (by omega) (by omega) ⟨by decide,by decide⟩ ⟨by decide,by decide⟩ ⟨by decide,by decide⟩;obtain ⟨q1,q2,q3⟩:=q _ hm hv;rw [t1] at q1;rw [t2] at q2;rw [t3] at q3;rw [e];obtain ⟨w1,w2⟩:=hT.set i0 i4 hv (b:=⟨(nth t i).iw.bh+a.bh,(nth t i).iw.gS+a.gS,(nth t i).iw.gW+a.gW⟩) (iR.2 ⟨by dsimp only;omega,by dsimp only;omega,by dsimp only;omega⟩) (iR.2 ⟨by dsimp only;omega,by dsimp only;omega,by dsimp only;omega⟩);refine ⟨trivial,w1,?_,?_,?_⟩
  · rw [w2];dsimp only;omega
  · rw [w2];dsimp only;omega
  · rw [w2];dsimp only;omega
def sp (p:cd):gT:=⟨iS gT.bh p.QR+ll p.heap.ag+p.gP.bh,iS gT.gS p.QR+p.gP.gS,iS gT.gW p.QR+p.gP.gW⟩
theorem zW {p:cd} (h:ik p=true):kN p=sp p∧((0≤(sp p).bh∧(sp p).bh≤2000080)∧(0≤(sp p).gS∧(sp p).gS≤2000000)∧(0≤(sp p).gW∧(sp p).gW≤2000000))∧0≤iS gT.bh p.QR∧0≤iS gT.gS p.QR∧0≤iS gT.gW p.QR:=by
  have hT:=jL.1 (lP h);obtain ⟨t1,t2,t3⟩:=hT.iS;have hS:=iR.1 hT.sum;rw [t1,t2,t3] at hS;have hsp:=ui (nR h);obtain ⟨g1,g2,g3⟩:=D9 (iT h)
  have hts:jU p.QR=⟨iS gT.bh p.QR,iS gT.gS p.QR,iS gT.gW p.QR⟩:=by
    unfold jU;rw [if_pos (lP h), ← t1, ← t2, ← t3]
  unfold kN;rw [nR h,g1,hts];simp only [if_true];unfold iD sp;dsimp only;rw [ig (n:=iS gT.bh p.QR+ll p.heap.ag) (by omega) (by omega),ig (by omega) (by omega),ig (by omega) (by omega),ig (by omega) (by omega)];exact ⟨rfl,⟨by omega,by omega,by omega⟩,by omega,by omega,by omega⟩
structure Ck (S R C:Int) (c:wV):Prop where
  tr:Tr c.QR
  hp:Hk c.heap
  pg:iS gT.bh c.QR+ll c.heap.ag=S
  rt:iS gT.gS c.QR=R
  cp:iS gT.gW c.QR=C
  w:wA c.heap.ag
theorem Ck.step {S R C:Int} {c:wV} (h:Ck S R C c) (hS:S≤1000000) (now:Int):Ck S R C (nU now c):=by
  have hq:=h.hp.step now;have hg:=LM h.hp now;obtain ⟨t1,t2,t3⟩:=h.tr.iS;have hSm:=iR.1 h.tr.sum;rw [t1,t2,t3] at hSm;have h1:=h.pg;have h2:=h.rt;have h3:=h.cp;obtain ⟨_,hw,_,hr⟩:=su h.w now;unfold nU;cases hd:decide ((ji c.heap now).2 ≥ 0)
  · rw [hd] at hg;simp only [Bool.false_eq_true,if_false] at hg ⊢;exact ⟨h.tr,hq,by dsimp only;omega,h2,h3,hw⟩
  · rw [hd] at hg;simp only [if_true] at hg ⊢;obtain ⟨_,d0,d9⟩:=hr hd;have hpr:=CF (h.hp.ar.ok _ (h.hp.ar.at d0 d9).2);have hp':0≤ll (ji c.heap now).1.ag:=(D9 (p:=⟨⟨[]⟩,[],[],(ji c.heap now).1,[],0,0,⟨0,0,0⟩,0,0⟩) hq.ar).2.1;obtain ⟨_,b1,b2,b3,b4⟩:=zq h.tr (nth c.heap.ag (ji c.heap now).2).res (a:=⟨(nth c.heap.ag (ji c.heap now).2).bh,0,0⟩) (iR.2 ⟨by dsimp only;omega,show (0:Int)≤0∧(0:Int)≤1000000 by decide,show (0:Int)≤0∧(0:Int)≤1000000 by decide⟩) (by dsimp only;omega) (by dsimp only;omega) (by dsimp only;omega);exact ⟨b1,hq,by dsimp only at *;omega,by dsimp only at *;omega,by dsimp only at *;omega,hw⟩
theorem Ck.steps {S R C:Int} (hS:S≤1000000) {now:Int}:∀ (k:Nat) (c:wV),Ck S R C c→Ck S R C (wZ now k c)
  | 0,c,h=>h
  | k+1,c,h=>Ck.steps hS k _ (h.step hS now)
theorem wY {p:cd} (h:ik p=true) (hw:wP p) (hs:(sp p).bh≤1000000) (now steps:Int):ik (kh p now steps).1=true∧sp (kh p now steps).1=sp p:=by
  unfold kh;split
  · have hh:Hk p.heap:=kq.1 (by
      unfold ik at h;simp only [Rg] at h
      exact h.2.2.2.1)
    have hsp:=ui (nR h);have c0:Ck (iS gT.bh p.QR+ll p.heap.ag) (iS gT.gS p.QR) (iS gT.gW p.QR) ⟨0,p.QR,p.heap⟩:=⟨jL.1 (lP h),hh,rfl,rfl,rfl,hw⟩;have c1:=Ck.steps (by unfold sp at hs;dsimp only at hs;omega) (now:=now) steps.toNat _ c0;refine ⟨?_,?_⟩
    · unfold ik at h ⊢;simp only [Rg] at h ⊢;exact ⟨h.1,h.2.1,jL.2 c1.tr,kq.2 c1.hp,h.2.2.2.2⟩
    · have a:=c1.pg;have b:=c1.rt;have d:=c1.cp;unfold sp;dsimp only;rw [a,b,d]
  · exact ⟨h,rfl⟩
end Go.Kx
namespace Go.Kx
open Go
set_option linter.unusedVariables false
set_option linter.unusedSimpArgs false
set_option maxRecDepth 10000
theorem qx {l:List gE} (h:Ar l) {now i:Int} (h0:0≤i):nth (reach l now) i=true ↔ Reaches l now i:=by
  rw [zH h0,(ue h now).2 i.toNat,Int.toNat_of_nonneg h0]
structure Sf (h:gV) (now:Int):Prop where
  hk:Hk h
  lo:h.gc.QS=1→∀ i,0≤i→i<h.gc.Q0→(nth h.ag i).mark=false
  hi:h.gc.QS=1→∀ i,0<i→h.gc.Q0≤i→Reaches h.ag now i→(nth h.ag i).mark=true
  bl:h.gc.QS=0→∀ i,Reaches h.ag now i→i ∉ h.gc.gQ→(i=0∨(nth h.ag i).mark=true)→∀ k,k ∈ jr h.ag i→0<k→Reaches h.ag now k→(nth h.ag k).mark=true
theorem sX {h:gV} (q:Hk h):h.gc.QS=0∨(h.gc.QS=1∧0≤h.gc.Q0∧h.gc.Q0≤9∧h.gc.gQ=[]):=by
  have hph:=q.ph;unfold nw at hph;simp only [Bool.or_eq_true,Rg,beq_iff_eq,ir] at hph
  rcases hph with e | e
  · exact .inl e.1
  · exact .inr ⟨e.1,e.2.1.1,e.2.1.2,List.length_eq_zero_iff.1 (by omega)⟩
theorem yL {h:gV} {r:List Bool} {i:Int} (h0:0≤i) {o:gE}:(!H5 h r i.toNat o)=true ↔ (i<h.gc.Q0→o.mark=false)∧(h.gc.Q0≤i→0<i→nth r i=true→o.mark=true):=by
  unfold H5;rw [Int.toNat_of_nonneg h0];cases o.mark<;>cases nth r i<;>simp<;>omega
theorem HR {h:gV} {r:List Bool} {i:Int} (h0:0≤i) {o:gE}:Oh h r i.toNat o=true ↔ (nth r i=true→i ∉ h.gc.gQ→(i=0∨o.mark=true)→∀ k,k ∈ jr h.ag i→0<k→nth r k=true→(nth h.ag k).mark=true):=by
  unfold Oh black M0;rw [Int.toNat_of_nonneg h0];simp only [Bool.or_eq_true,Bool.not_eq_true',Bool.and_eq_false_iff,Bool.or_eq_false_iff,List.all_eq_true,decide_eq_false_iff_not,Bool.not_eq_false',beq_eq_false_iff_ne,ne_eq];constructor
  · rintro q r1 r2 r3 k k1 k2 k3
    rcases q with (q | q | q) | q
    · rw [r1] at q;cases q
    · rcases r3 with r3 | r3
      · exact absurd r3 q.2
      · rw [r3] at q;cases q.1
    · exact absurd (by simpa using q) r2
    · rcases q k k1 with a | a | a
      · exact absurd k2 a
      · rw [k3] at a;cases a
      · exact a
  · intro q
    by_cases r1:nth r i=true
    · by_cases r2:i ∈ h.gc.gQ
      · exact .inl (.inr (.inr (by simpa using r2)))
      · by_cases r3:i=0∨o.mark=true
        · refine .inr fun k k1=>?_
          by_cases k2:0<k
          · cases k3:nth r k
            · exact .inr (.inl rfl)
            · exact .inr (.inr (q r1 r2 r3 k k1 k2 k3))
          · exact .inl k2
        · refine .inl (.inr (.inl ⟨?_,fun e=>r3 (.inl e)⟩));cases hm:o.mark
          · rfl
          · exact absurd (.inr hm) r3
    · exact .inl (.inl (by simpa using r1))
theorem I9 {h:gV} {now:Int}:EA h now=true ↔ Sf h now:=by
  unfold EA;rw [Rg,kq]
  have all_:∀ {p:Nat→gE→Bool},Hk h→(allI p 0 h.ag=true ↔ ∀ i:Int,0≤i→i≤9→p i.toNat (nth h.ag i)=true):=fun {p} q=>by
    have h10:=q.ar.len;rw [mq];constructor
    · intro hp i h0 h9;have:=hp i.toNat (nth h.ag i) (jv h0 (by omega))
      rwa [Nat.zero_add] at this
    · intro hp k y hy;have hl:=iU hy;have:=hp (k:Int) (by omega) (by omega);rw [qk hy] at this
      rwa [Nat.zero_add]
  constructor
  · rintro ⟨hk,q⟩
    rcases sX hk with c | ⟨c,p0,p9,g⟩
    · rw [c] at q;rw [show ((0:Int)==1)=false from rfl,Q9,all_ hk] at q;refine ⟨hk,fun e=>absurd (c.symm.trans e) (by decide),fun e=>absurd (c.symm.trans e) (by decide),fun _ i r1 r2 r3 k k1 k2 k3=>?_⟩;obtain ⟨i0,i9⟩:=r1.mM hk.ar;exact (HR i0).1 (q i i0 i9) ((qx hk.ar i0).2 r1) r2 r3 k k1 k2 ((qx hk.ar (by omega)).2 k3)
    · rw [c] at q;rw [show ((1:Int)==1)=true from rfl,Rb,all_ hk] at q;refine ⟨hk,fun _ i i0 i1=>((yL i0).1 (q i i0 (by omega))).1 i1,fun _ i i0 i1 r=>?_,fun e=>absurd (c.symm.trans e) (by decide)⟩;obtain ⟨_,i9⟩:=r.mM hk.ar;exact ((yL (by omega)).1 (q i (by omega) i9)).2 i1 i0 ((qx hk.ar (by omega)).2 r)
  · intro s;refine ⟨s.hk,?_⟩
    rcases sX s.hk with c | ⟨c,p0,p9,g⟩
    · rw [show (h.gc.QS==1)=false by rw [c];rfl,Q9,all_ s.hk];intro i i0 i9;exact (HR i0).2 fun r1 r2 r3 k k1 k2 k3=>s.bl c i ((qx s.hk.ar i0).1 r1) r2 r3 k k1 k2 ((qx s.hk.ar (by omega)).1 k3)
    · rw [show (h.gc.QS==1)=true by rw [c];rfl,Rb,all_ s.hk];intro i i0 i9;exact (yL i0).2 ⟨fun i1=>s.lo c i i0 i1,fun i1 i2 r=>s.hi c i i2 i1 ((qx s.hk.ar i0).1 r)⟩
theorem wO {o:gE} {a b:Int} (h:a≤b) (q:iI o b=false):iI o a=false:=by
  unfold iI at q ⊢;cases hk:o.py==0
  · rw [hk] at q;simp only [Q9,decide_eq_false_iff_not] at q ⊢;omega
  · rw [hk] at q;cases q
theorem Reaches.mono {l:List gE} {a b:Int} (h:a≤b) {k:Int} (r:Reaches l b k):Reaches l a k:=by
  induction r with
  | root=>exact .root
  | step _ q2 q3 ih=>exact .step ih q2 (wO h q3)
theorem Sf.mono {h:gV} {a b:Int} (q:a≤b) (s:Sf h a):Sf h b :=
  ⟨s.hk,s.lo,fun c i i0 i1 r=>s.hi c i i0 i1 (r.mono q),fun c i r1 r2 r3 k k1 k2 k3=>s.bl c i (r1.mono q) r2 r3 k k1 k2 (k3.mono q)⟩
structure yF (h t:gV):Prop where
  sk:h.ag.map jx=t.ag.map jx
  ph:t.gc.QS=h.gc.QS
  po:t.gc.Q0=h.gc.Q0
  gr:∀ y,y ∈ h.gc.gQ→y ∈ t.gc.gQ
  up:∀ i,0≤i→i≤9→(nth h.ag i).mark=true→(nth t.ag i).mark=true
  dn:∀ i,0≤i→i≤9→(nth t.ag i).mark=true→(nth h.ag i).mark=true∨i ∈ t.gc.gQ
theorem yF.rfl (h:gV):yF h h:=⟨Eq.refl _,Eq.refl _,Eq.refl _,fun _ q=>q,fun _ _ _ q=>q,fun _ _ _ q=>.inl q⟩
theorem yF.trans {h t u:gV} (a:yF h t) (b:yF t u):yF h u :=
  ⟨a.sk.trans b.sk,b.ph.trans a.ph,b.po.trans a.po,fun y q=>b.gr y (a.gr y q),fun i i0 i9 q=>b.up i i0 i9 (a.up i i0 i9 q),fun i i0 i9 q=>by
    rcases b.dn i i0 i9 q with c | c
    · rcases a.dn i i0 i9 c with d | d
      · exact .inl d
      · exact .inr (b.gr i d)
    · exact .inr c⟩
theorem oJ {l:List gE} {i:Int} (h0:0≤i) (h1:i<(l.length:Int)) {z:gE} (e:jx z=jx (nth l i)):l.map jx=(l.set i.toNat z).map jx:=by
  rw [List.map_set,e,nA (yw i h0 h1)]
theorem xk {h:gV} (h10:h.ag.length=10) {k:Int} (k0:0≤k) (k9:k≤9):yF h (jG h k)∧(h.gc.QS=0→(nth h.ag k).py ≠ 0→(nth (jG h k).ag k).mark=true):=by
  have hn:∀ j,0≤j→nth (h.ag.set k.toNat (marked (nth h.ag k) true)) j=if k=j then marked (nth h.ag k) true else nth h.ag j:=fun j hj=>ko k0 (by omega) hj
  unfold jG;split
  · rename_i c;refine ⟨⟨oJ k0 (by omega) rfl,rfl,rfl,fun y hy=>?_,fun i i0 i9 q=>?_,fun i i0 i9 q=>?_⟩,fun _ _=>?_⟩
    · dsimp only;split
      · exact hy
      · exact List.mem_append_left _ hy
    · dsimp only;rw [hn i i0];split
      · rfl
      · exact q
    · dsimp only at q ⊢;rw [hn i i0] at q;split at q
      · rename_i e;subst e;refine .inr ?_;split
        · rename_i g;simpa using g
        · simp
      · exact .inl q
    · dsimp only;rw [hn k k0,if_pos rfl];rfl
  · rename_i c;refine ⟨yF.rfl h,fun e1 e2=>?_⟩;cases hm:(nth h.ag k).mark
    · exact absurd (by rw [e1,hm];simp [e2]) c
    · rfl
theorem u5 {l:List gE} {now:Int}:∀ (e:List Int) (h:gV),h.ag.length=10→(∀ y,y ∈ e→0≤y∧y≤9)→l.map jx=h.ag.map jx →
    yF h (e.foldl (jy l now) h)∧(h.gc.QS=0→∀ y,y ∈ e→iI (nth l y) now=false→(nth (e.foldl (jy l now) h).ag y).mark=true) ∧
    ∀ i,0≤i→i≤9→(nth (e.foldl (jy l now) h).ag i).mark=true→(nth h.ag i).mark=true∨(i ∈ e∧iI (nth l i) now=false)
  | [],h,_,_,_=>⟨yF.rfl h,fun _ y hy=>by simp at hy,fun i _ _ q=>.inl q⟩
  | k::e,h,h10,he,hs=>by
    obtain ⟨k0,k9⟩:=he k (by simp);obtain ⟨a1,a2⟩:=xk h10 k0 k9
    have b1:yF h (jy l now h k):=by
      unfold jy;split
      · exact yF.rfl h
      · exact a1
    have hl:(jy l now h k).ag.length=10:=by
      have:=congrArg List.length b1.sk;simp only [List.length_map] at this;omega
    have ek:(nth l k).py=(nth h.ag k).py:=congrArg Sk.py (lD hs k0 (by have:=congrArg List.length hs;simp only [List.length_map] at this;omega));obtain ⟨c1,c2,c3⟩:=u5 e _ hl (fun y hy=>he y (by simp [hy])) (hs.trans b1.sk);rw [List.foldl_cons];refine ⟨b1.trans c1,fun e1 y hy hx=>?_,fun i i0 i9 q=>?_⟩
    · rcases List.mem_cons.1 hy with rfl | hy
      · refine c1.up y k0 k9 ?_;unfold jy;rw [hx];exact a2 e1 (by rw [← ek];exact wB hx)
      · exact c2 (b1.ph.trans e1) y hy hx
    · rcases c3 i i0 i9 q with d | d
      · unfold jy at d;split at d
        · exact .inl d
        · rename_i hx;unfold jG at d;split at d
          · dsimp only at d;rw [ko k0 (by omega) i0] at d;split at d
            · rename_i e';subst e';exact .inr ⟨by simp,by simpa using hx⟩
            · exact .inl d
          · exact .inl d
      · exact .inr ⟨by simp [d.1],d.2⟩
def ou (l:List gE) (i:Int):List gE:=(l.set i.toNat (blank (nth l i).Q3)).map (nf i)
theorem pL {l:List gE} (h10:l.length=10) {i:Int} (h0:0≤i) (h9:i≤9) {j:Int} (j0:0≤j) (j9:j≤9):nth (ou l i) j=if i=j then blank (nth l i).Q3 else nf i (nth l j):=by
  unfold ou;rw [Ca _ j0 (by rw [List.length_set];omega),ko h0 (by omega) j0];split
  · rfl
  · rfl
theorem lS {l:List gE} (h10:l.length=10) {i k:Int}:k ∈ jr l i ↔ (0≤k∧k≤9)∧((0<k∧(nth l k).py ≠ 0∧(nth l k).box=i∧(nth l i).py=1)∨k ∈ (nth l i).gZ):=by
  unfold jr;rw [uH];constructor
  · rintro ⟨j,y,h1,h2,h3⟩;have hl:=iU h1;rw [Nat.zero_add] at h2 h3;subst h3;refine ⟨⟨by omega,by omega⟩,?_⟩;rw [qk h1];unfold wU at h2;simp only [Bool.or_eq_true,Rg,decide_eq_true_eq,bne_iff_ne,ne_eq,beq_iff_eq,List.contains_iff_mem] at h2
    rcases h2 with ⟨a,b,c,d⟩ | a
    · exact .inl ⟨a,b,c,d⟩
    · exact .inr a
  · rintro ⟨⟨k0,k9⟩,q⟩;refine ⟨k.toNat,nth l k,jv k0 (by omega),?_,by rw [Nat.zero_add];omega⟩;rw [Nat.zero_add];unfold wU;rw [Int.toNat_of_nonneg k0];simp only [Bool.or_eq_true,Rg,decide_eq_true_eq,bne_iff_ne,ne_eq,beq_iff_eq,List.contains_iff_mem]
    rcases q with ⟨a,b,c,d⟩ | a
    · exact .inl ⟨a,b,c,d⟩
    · exact .inr a
theorem JN {i:Int} {o:gE} {k:Int} (k0:0≤k) (h:k ∈ (nf i o).gZ):k ∈ o.gZ∧k ≠ i∨o.py=0∧k ∈ o.gZ:=by
  unfold nf at h;split at h
  · rename_i c;exact .inr ⟨by simpa using c,h⟩
  · obtain ⟨v,hv,e⟩:=List.mem_map.1 h;unfold uP at e;split at e
    · omega
    · rename_i c;subst e;exact .inl ⟨hv,by simpa using c⟩
theorem Bx {l:List gE} (h:Ar l) {i:Int} (h0:1≤i) (h9:i≤9) {j k:Int} (j0:0≤j) (j9:j≤9) (q:k ∈ jr (ou l i) j):k ∈ jr l j∧k ≠ i∧j ≠ i:=by
  have h10:=h.len
  have f10:(ou l i).length=10:=by unfold ou;rw [List.length_map,List.length_set];exact h10
  obtain ⟨⟨k0,k9⟩,q⟩:=(lS f10).1 q;rw [pL h10 (by omega) h9 j0 j9,pL h10 (by omega) h9 k0 k9] at q
  have hji:j ≠ i:=by
    intro e;subst e;rw [if_pos rfl] at q
    rcases q with q | q
    · exact absurd q.2.2.2 (show (0:Int) ≠ 1 by decide)
    · simp [blank] at q
  rw [if_neg (Ne.symm hji)] at q
  rcases q with ⟨a,b,c,d⟩ | q
  · have hki:k ≠ i:=by
      intro e;subst e;rw [if_pos rfl] at b;exact b rfl
    rw [if_neg (Ne.symm hki),qA] at b;rw [if_neg (Ne.symm hki)] at c;rw [qA] at d;refine ⟨(lS h10).2 ⟨⟨k0,k9⟩,.inl ⟨a,b,?_,d⟩⟩,hki,hji⟩;unfold nf at c;rw [if_neg (by simpa using b)] at c;dsimp only at c;split at c
    · omega
    · exact c
  · rcases JN k0 q with e | e
    · exact ⟨(lS h10).2 ⟨⟨k0,k9⟩,.inr e.1⟩,e.2,hji⟩
    · rw [ra (h.ok _ (h.at j0 j9).2) (by simpa using e.1)] at e;simp [blank] at e
theorem IS {l:List gE} (h:Ar l) {i:Int} (h0:1≤i) (h9:i≤9) {j k:Int} (j0:0≤j) (j9:j≤9) (hj:j ≠ i) (hk:k ≠ i) (q:k ∈ jr l j):k ∈ jr (ou l i) j:=by
  have h10:=h.len
  have f10:(ou l i).length=10:=by unfold ou;rw [List.length_map,List.length_set];exact h10
  obtain ⟨⟨k0,k9⟩,q⟩:=(lS h10).1 q;refine (lS f10).2 ⟨⟨k0,k9⟩,?_⟩;rw [pL h10 (by omega) h9 j0 j9,pL h10 (by omega) h9 k0 k9,if_neg (Ne.symm hj),if_neg (Ne.symm hk),qA,qA]
  rcases q with ⟨a,b,c,d⟩ | q
  · refine .inl ⟨a,b,?_,d⟩;unfold nf;rw [if_neg (by simpa using b)];dsimp only;rw [if_neg (by simp;omega)];exact c
  · refine .inr ?_;unfold nf;split
    · exact q
    · exact List.mem_map.2 ⟨k,q,by unfold uP;rw [if_neg (by simpa using hk)]⟩
theorem yQ {l:List gE} (h10:l.length=10) {i:Int} (h0:0≤i) (h9:i≤9) {j:Int} (j0:0≤j) (j9:j≤9) (hj:j ≠ i) (now:Int):iI (nth (ou l i) j) now=iI (nth l j) now:=by
  rw [pL h10 h0 h9 j0 j9,if_neg (Ne.symm hj)];unfold iI;rw [qA,Hq]
theorem Gx {l:List gE} (h:Ar l) {i:Int} (h0:1≤i) (h9:i≤9) {now:Int} {k:Int} (r:Reaches (ou l i) now k):Reaches l now k:=by
  induction r with
  | root=>exact .root
  | step q1 q2 q3 ih =>
    obtain ⟨j0,j9⟩:=ih.mM h;obtain ⟨e1,e2,e3⟩:=Bx h h0 h9 j0 j9 q2;obtain ⟨k0,k1⟩:=mc e1;rw [yQ h.len (by omega) h9 k0 (by have:=h.len;omega) e2] at q3;exact .step ih e1 q3
theorem F6 {l:List gE} (h:Ar l) {i:Int} (h0:1≤i) (h9:i≤9) {now:Int} (hn:¬ Reaches l now i) {k:Int} (r:Reaches l now k):Reaches (ou l i) now k:=by
  induction r with
  | root=>exact .root
  | step q1 q2 q3 ih =>
    rename_i a b;obtain ⟨j0,j9⟩:=q1.mM h;obtain ⟨k0,k1⟩:=mc q2;have ha:a ≠ i:=fun e=>hn (e ▸ q1);have hb:b ≠ i:=fun e=>hn (e ▸ .step q1 q2 q3);refine .step ih (IS h h0 h9 j0 j9 ha hb q2) ?_;rw [yQ h.len (by omega) h9 k0 (by have:=h.len;omega) hb];exact q3
theorem EX (i:Int) (o:gE):(nf i o).mark=o.mark:=by unfold nf;split<;>rfl
theorem B5 (i:Int) (o:gE):(nf i o).Q3=o.Q3:=by unfold nf;split<;>rfl
theorem AE {h:gV} (q:Hk h) (p0:0≤h.gc.Q0) (p9:h.gc.Q0≤9) (now:Int):(kc h now=true∧1≤h.gc.Q0∧jF h now=ou h.ag h.gc.Q0)∨(kc h now=false∧jF h now=h.ag.set h.gc.Q0.toNat (marked (nth h.ag h.gc.Q0) false)):=by
  unfold jF;cases hf:kc h now
  · exact .inr ⟨rfl,rfl⟩
  · unfold kc at hf;simp only [Rg,bne_iff_ne,ne_eq] at hf;refine .inl ⟨rfl,by omega,?_⟩;rw [if_pos rfl];unfold lF
    rw [if_pos (by
      rw [jJ.2 q.ar];simp only [Re,Rg,ir,bne_iff_ne,ne_eq]
      exact ⟨⟨by omega,p9⟩,hf.2.1⟩)]
    rfl
theorem Sf.free {h:gV} {now:Int} (s:Sf h now) (c:h.gc.QS=1) (hf:kc h now=true):¬ Reaches h.ag now h.gc.Q0:=by
  intro r;unfold kc at hf;simp only [Rg,bne_iff_ne,ne_eq,Bool.or_eq_true,Bool.not_eq_true'] at hf;have:=r.mM s.hk.ar
  rcases hf.2.2 with e | e
  · rw [oe s.hk.ar r hf.1] at e;cases e
  · rw [s.hi c _ (by omega) (Int.le_refl _) r] at e;cases e
theorem Sf.jF {h:gV} {now:Int} (s:Sf h now) (c:h.gc.QS=1) :
    (∀ k,Reaches (jF h now) now k ↔ Reaches h.ag now k)∧(∀ j,0≤j→j≤9→(nth (Kx.jF h now) j).mark=if h.gc.Q0=j then false else (nth h.ag j).mark) ∧
    ∀ j,Reaches h.ag now j→(nth (Kx.jF h now) j).Q3=(nth h.ag j).Q3∧(nth (Kx.jF h now) j).py=(nth h.ag j).py:=by
  rcases sX s.hk with e | ⟨_,p0,p9,g⟩
  · exact absurd (e.symm.trans c) (by decide)
  have ar:=s.hk.ar;have h10:=ar.len
  rcases AE s.hk p0 p9 now with ⟨hf,p1,e⟩ | ⟨hf,e⟩
  · have hn:=s.free c hf;rw [e];refine ⟨fun k=>⟨Gx ar p1 p9,F6 ar p1 p9 hn⟩,fun j j0 j9=>?_,fun j r=>?_⟩
    · rw [pL h10 p0 p9 j0 j9];split
      · rfl
      · exact EX _ _
    · obtain ⟨j0,j9⟩:=r.mM ar;rw [pL h10 p0 p9 j0 j9,if_neg (fun e:h.gc.Q0=j=>hn (by rw [e];exact r))];exact ⟨B5 _ _,qA _ _⟩
  · rw [e];have hs:=oJ (l:=h.ag) (i:=h.gc.Q0) p0 (by omega) (z:=marked (nth h.ag h.gc.Q0) false) rfl
    have ar':Ar (h.ag.set h.gc.Q0.toNat (marked (nth h.ag h.gc.Q0) false)):=ar.mark p0 p9 false fun h=>by cases h
    refine ⟨fun k=>⟨lL ar' hs.symm,lL ar hs⟩,fun j j0 j9=>?_,fun j r=>?_⟩
    · rw [ko p0 (by omega) j0];split
      · rfl
      · rfl
    · obtain ⟨j0,j9⟩:=r.mM ar;rw [ko p0 (by omega) j0];split
      · rename_i e;subst e;exact ⟨rfl,rfl⟩
      · exact ⟨rfl,rfl⟩
theorem xz {l:List gE} (h10:l.length=10):l.map jx=(qK l).map jx:=oJ (l:=l) (i:=0) (by omega) (by omega) rfl
theorem Sf.step {h:gV} {now:Int} (s:Sf h now):Sf (ji h now).1 now∧(∀ k,Reaches (ji h now).1.ag now k ↔ Reaches h.ag now k) ∧
    ∀ j,Reaches h.ag now j→(nth (ji h now).1.ag j).Q3=(nth h.ag j).Q3∧(nth (ji h now).1.ag j).py=(nth h.ag j).py:=by
  have hk':=s.hk.step now;have ar:=s.hk.ar;have h10:=ar.len
  have lE:∀ t:gV,Ar t.ag→h.ag.map jx=t.ag.map jx→(∀ k,Reaches t.ag now k ↔ Reaches h.ag now k) ∧
      ∀ j,Reaches h.ag now j→(nth t.ag j).Q3=(nth h.ag j).Q3∧(nth t.ag j).py=(nth h.ag j).py:=fun t at_ e =>
    ⟨fun k=>⟨lL at_ e.symm,lL ar e⟩,fun j r=>by
      obtain ⟨j0,j9⟩:=r.mM ar;have:=lD e j0 (by omega)
      exact ⟨(congrArg Sk.Q3 this).symm,(congrArg Sk.py this).symm⟩⟩
  unfold ji at hk' ⊢;rw [if_pos (kq.2 s.hk)] at hk' ⊢
  rcases sX s.hk with c | ⟨c,p0,p9,g⟩
  · rw [if_neg (by rw [c];decide)] at hk' ⊢;dsimp only at hk' ⊢;unfold nv at hk' ⊢;split at hk'
    · rename_i hg;rw [if_pos hg];refine ⟨⟨hk',fun _ i i0 i1=>?_,fun _ i i0 _ r=>?_,fun e=>absurd e (show (1:Int) ≠ 0 by decide)⟩,lE _ ar rfl⟩
      · exact absurd i1 (show ¬ i<0 by omega)
      · have hnil:h.gc.gQ=[]:=List.length_eq_zero_iff.1 hg
        have key:∀ i,Reaches h.ag now i→i=0∨(nth h.ag i).mark=true:=fun i r=>by
          induction r with
          | root=>exact .inl rfl
          | step q1 q2 q3 ih =>
            rename_i a b;obtain ⟨k0,_⟩:=mc q2
            by_cases b0:b=0
            · exact .inl b0
            · exact .inr (s.bl c a q1 (by rw [hnil];simp) ih b q2 (by omega) (.step q1 q2 q3))
        rcases key i r with e | e
        · omega
        · exact e
    · rename_i hg;rw [if_neg hg];obtain ⟨l0,l9⟩:=m3 (kq.2 s.hk) hg
      have hsub:∀ i,i ∈ h.gc.gQ→i=hO h∨i ∈ kf h:=fun i hi=>by
        obtain ⟨k,hk⟩:=List.getElem?_of_mem hi;have hl:=iU hk
        by_cases e:k=h.gc.gQ.length - 1
        · refine .inl ?_;unfold hO;rw [show ((h.gc.gQ.length:Int) - 1)=(k:Int) by omega,qk hk]
        · refine .inr ?_;unfold kf;exact List.mem_of_getElem? (i:=k) (by rw [List.getElem?_take,if_pos (by omega)];exact hk)
      split at hk'
      · rename_i he;rw [if_pos he];simp only [Rg,bne_iff_ne,ne_eq] at he;refine ⟨⟨hk',fun e=>absurd (c.symm.trans e) (by decide),fun e=>absurd (c.symm.trans e) (by decide),fun _ i r1 r2 r3 k k1 k2 k3=>?_⟩,lE _ ar rfl⟩;refine s.bl c i r1 (fun hi=>?_) r3 k k1 k2 k3
        rcases hsub i hi with e | e
        · rw [e] at r1;have:=oe ar r1 he.1;rw [he.2] at this;cases this
        · exact r2 e
      · rename_i he;rw [if_neg he];have hb:nth h.ag (hO h)=nth h.ag (hO h):=rfl;have hs0:=oJ (l:=h.ag) (i:=hO h) l0 (by omega) (z:=marked (nth h.ag (hO h)) true) rfl;obtain ⟨c1,c2,c3⟩:=u5 (l:=h.ag) (now:=now) (jr h.ag (hO h)) (gV.mk (h.ag.set (hO h).toNat (marked (nth h.ag (hO h)) true)) (ka.mk h.gc.QS h.gc.Q0 h.gc.QT (kf h))) (by dsimp only;rw [List.length_set];exact h10) (mX ar (hO h)).1 hs0
        have hm:∀ j,0≤j→nth (h.ag.set (hO h).toNat (marked (nth h.ag (hO h)) true)) j=if hO h=j then marked (nth h.ag (hO h)) true else nth h.ag j:=fun j hj=>ko l0 (by omega) hj
        have hsk:=hs0.trans c1.sk;obtain ⟨k1,k2⟩:=lE _ hk'.ar hsk;refine ⟨⟨hk',fun e=>absurd (c.symm.trans (c1.ph.symm.trans e)) (by decide),fun e=>absurd (c.symm.trans (c1.ph.symm.trans e)) (by decide),fun _ i r1 r2 r3 k q1 q2 q3=>?_⟩,k1,k2⟩;have r1':=(k1 i).1 r1;have q3':=(k1 k).1 q3;obtain ⟨i0,i9⟩:=r1'.mM ar;obtain ⟨k0,k9⟩:=q3'.mM ar;rw [← vd hsk i0 (by omega)] at q1;have live:=oe ar q3' (by omega)
        by_cases e:i=hO h
        · subst e;exact c2 c k q1 live
        · have hi0:i=0∨(nth h.ag i).mark=true:=by
            rcases r3 with r3 | r3
            · exact .inl r3
            · refine .inr ?_
              rcases c1.dn i i0 i9 r3 with d | d
              · dsimp only at d;rw [hm i i0,if_neg (Ne.symm e)] at d;exact d
              · exact absurd d r2
          have hig:i ∉ h.gc.gQ:=fun hi=>by
            rcases hsub i hi with e' | e'
            · exact e e'
            · exact r2 (c1.gr i e')
          have:=s.bl c i r1' hig hi0 k q1 q2 q3';refine c1.up k k0 k9 ?_;dsimp only;rw [hm k k0];split
          · rfl
          · exact this
  · rw [if_pos (by rw [c];rfl)] at hk' ⊢;obtain ⟨w1,w2,w3⟩:=s.jF c;unfold kV at hk' ⊢;have sar:Ar (Kx.jF h now):=vq s.hk p0 p9 now;split at hk'
    · rename_i c9
      have c9:h.gc.Q0=9:=by simpa using c9
      rw [if_pos (by rw [c9];rfl)];dsimp only at hk' ⊢;have fs:=xz sar.len;have fr:∀ k,Reaches (qK (Kx.jF h now)) now k ↔ Reaches h.ag now k:=fun k=>Iff.trans ⟨lL hk'.ar fs.symm,lL sar fs⟩ (w1 k);refine ⟨⟨hk',fun e=>absurd e (show (0:Int) ≠ 1 by decide),fun e=>absurd e (show (0:Int) ≠ 1 by decide),fun _ i r1 r2 r3 k q1 q2 q3=>?_⟩,fr,fun j r=>?_⟩
      · dsimp only at r1 r2 r3;obtain ⟨i0,i9⟩:=r1.mM hk'.ar;have hi:i ≠ 0:=fun e=>r2 (by simp [e])
        rcases r3 with r3 | r3
        · exact absurd r3 hi
        · unfold qK at r3;rw [show (0:Nat)=(0:Int).toNat from rfl,ko (by omega) (by have:=sar.len;omega) i0,if_neg (Ne.symm hi),w2 i i0 i9] at r3;split at r3
          · cases r3
          · rw [s.lo c i i0 (by omega)] at r3;cases r3
      · obtain ⟨j0,j9⟩:=r.mM ar;have:=lD fs j0 (by have:=sar.len;omega);have a:(nth (Kx.jF h now) j).Q3=(nth (qK (Kx.jF h now)) j).Q3:=congrArg Sk.Q3 this;have b:(nth (Kx.jF h now) j).py=(nth (qK (Kx.jF h now)) j).py:=congrArg Sk.py this;rw [← a, ← b];exact w3 j r
    · rename_i c9
      have c9:h.gc.Q0 ≠ 9:=by simpa using c9
      rw [if_neg (by simpa using c9)];dsimp only at hk' ⊢;refine ⟨⟨hk',fun _ i i0 i1=>?_,fun _ i i0 i1 r=>?_,fun e=>absurd (c.symm.trans e) (by decide)⟩,w1,w3⟩
      · dsimp only at i1 ⊢;rw [w2 i i0 (by omega)];split
        · rfl
        · exact s.lo c i i0 (by omega)
      · dsimp only at i1 r ⊢;have r':=(w1 i).1 r;obtain ⟨_,i9⟩:=r'.mM ar;rw [w2 i (by omega) i9,if_neg (by omega)];exact s.hi c i i0 (by omega) r'
end Go.Kx
namespace Go.Kx
open Go
set_option linter.unusedVariables false
set_option linter.unusedSimpArgs false
set_option maxRecDepth 10000
theorem x7 {p q:Nat→Bool}:∀ l:List Nat,(∀ k,k ∈ l→p k=true→q k=true)→(l.filter p).length≤(l.filter q).length
  | [],_=>Nat.le_refl _
  | k::l,h=>by
    have ih:=x7 l fun j hj=>h j (by simp [hj]);have hk:=h k (by simp);simp only [List.filter_cons];cases hp:p k<;>cases hq:q k<;>simp [hp,hq] at hk ⊢<;>omega
theorem D7 {p q:Nat→Bool}:∀ l:List Nat,(∀ k,k ∈ l→p k=true→q k=true)→(∃ k,k ∈ l∧q k=true∧p k=false)→(l.filter p).length+1≤(l.filter q).length
  | [],_,h=>by obtain ⟨k,h,_⟩:=h;simp at h
  | k::l,h,hx=>by
    have ih:=x7 l fun j hj=>h j (by simp [hj]);have hk:=h k (by simp);obtain ⟨j,hj,q1,q2⟩:=hx;simp only [List.filter_cons]
    rcases List.mem_cons.1 hj with rfl | hj
    · rw [q1,q2];simp only [if_true,Bool.false_eq_true,if_false,List.length_cons];omega
    · have ih2:=D7 l (fun j hj=>h j (by simp [hj])) ⟨j,hj,q1,q2⟩;cases hp:p k<;>cases hq:q k<;>simp [hp,hq] at hk ⊢<;>omega
def DM (h:gV) (now:Int) (k:Nat):Bool:=h.gc.gQ.contains (k:Int) || (!(nth h.ag (k:Int)).mark&&!iI (nth h.ag (k:Int)) now)
def wS (h:gV) (now:Int):Nat:=((List.range 10).filter (DM h now)).length
def nZ (h:gV) (now:Int):Nat:=if h.gc.QS=1 then (10 - h.gc.Q0).toNat else 11+wS h now
theorem Oe (h:gV) (now:Int):wS h now≤10:=Nat.le_trans (List.length_filter_le _ _) (by rw [List.length_range];exact Nat.le_refl _)
theorem pG {h:gV} {now:Int} {k:Nat}:DM h now k=true ↔ (k:Int) ∈ h.gc.gQ∨((nth h.ag (k:Int)).mark=false∧iI (nth h.ag (k:Int)) now=false):=by
  unfold DM;simp
theorem yc {h:gV} (q:Hk h) (now:Int):1≤nZ h now∧nZ h now≤21:=by
  have:=Oe h now;unfold nZ
  rcases sX q with c | ⟨c,p0,p9,g⟩
  · rw [if_neg (by rw [c];decide)];omega
  · rw [if_pos c];omega
theorem N5 {h:gV} (q:Hk h) (now:Int):h.ag.map jx=(ji h now).1.ag.map jx∨(h.gc.QS=1∧1≤h.gc.Q0∧h.gc.Q0≤9∧kc h now=true∧Ar (ou h.ag h.gc.Q0)∧(ou h.ag h.gc.Q0).map jx=(ji h now).1.ag.map jx):=by
  have ar:=q.ar;have h10:=ar.len;unfold ji;rw [if_pos (kq.2 q)]
  rcases sX q with c | ⟨c,p0,p9,g⟩
  · rw [if_neg (by rw [c];decide)];refine .inl ?_;unfold nv;split
    · rfl
    · rename_i hg;obtain ⟨l0,l9⟩:=m3 (kq.2 q) hg;split
      · rfl
      · have hs0:=oJ (l:=h.ag) (i:=hO h) l0 (by omega) (z:=marked (nth h.ag (hO h)) true) rfl;exact hs0.trans (u5 (l:=h.ag) (now:=now) (jr h.ag (hO h)) (gV.mk (h.ag.set (hO h).toNat (marked (nth h.ag (hO h)) true)) (ka.mk h.gc.QS h.gc.Q0 h.gc.QT (kf h))) (by dsimp only;rw [List.length_set];exact h10) (mX ar (hO h)).1 hs0).1.sk
  · rw [if_pos (by rw [c];rfl)];have sar:Ar (jF h now):=vq q p0 p9 now
    have e:(jF h now).map jx=(kV h now).1.ag.map jx:=by
      unfold kV;dsimp only;split
      · exact xz sar.len
      · rfl
    rcases AE q p0 p9 now with ⟨hf,p1,e1⟩ | ⟨hf,e1⟩
    · exact .inr ⟨c,p1,p9,hf,by rw [← e1];exact sar,by rw [← e1];exact e⟩
    · refine .inl ?_;rw [← e,e1];exact oJ p0 (by omega) rfl
def Al (g:Int→Int) (D:Int→Prop) (l:List gE) (k:Int):Prop:=D k∧(nth l k).py ≠ 0∧(nth l k).Q3=g k
structure Dm (g:Int→Int) (D:Int→Prop) (l:List gE) (now:Int):Prop where
  rg:∀ i,D i→1≤i∧i≤9
  ge:∀ i,D i→g i≤(nth l i).Q3
  cl:∀ j k,0≤j→j≤9→k ∈ jr l j→Al g D l k→iI (nth l k) now=false→Al g D l j
theorem Dm.un {g:Int→Int} {D:Int→Prop} {l:List gE} {now:Int} (ar:Ar l) (d:Dm g D l now) {k:Int} (r:Reaches l now k):¬ Al g D l k:=by
  induction r with
  | root=>intro a;have:=d.rg 0 a.1;omega
  | step q1 q2 q3 ih =>
    intro a;obtain ⟨j0,j9⟩:=q1.mM ar;exact ih (d.cl _ _ j0 j9 q2 a q3)
theorem vo {g:Int→Int} {D:Int→Prop} {l m:List gE} (h10:l.length=10) (h:l.map jx=m.map jx) {k:Int} (k0:0≤k) (k9:k≤9):Al g D m k ↔ Al g D l k:=by
  have e:=lD h k0 (by omega);unfold Al;rw [show (nth l k).py=(nth m k).py from congrArg Sk.py e,show (nth l k).Q3=(nth m k).Q3 from congrArg Sk.Q3 e]
theorem Dm.jx {g:Int→Int} {D:Int→Prop} {l m:List gE} {now:Int} (h10:l.length=10) (h:l.map jx=m.map jx) (d:Dm g D l now):Dm g D m now:=by
  refine ⟨d.rg,fun i di=>?_,fun j k j0 j9 q a x=>?_⟩
  · obtain ⟨i1,i9⟩:=d.rg i di;rw [← show (nth l i).Q3=(nth m i).Q3 from congrArg Sk.Q3 (lD h (by omega) (by omega))];exact d.ge i di
  rw [← vd h j0 (by omega)] at q;obtain ⟨k0,k9⟩:=mc q;rw [← sb (lD h k0 k9) now] at x;exact (vo h10 h j0 j9).2 (d.cl j k j0 j9 q ((vo h10 h k0 (by omega)).1 a) x)
theorem yz {g:Int→Int} {D:Int→Prop} {l:List gE} (h10:l.length=10) {i:Int} (h0:0≤i) (h9:i≤9) {k:Int} (k0:0≤k) (k9:k≤9):Al g D (ou l i) k ↔ Al g D l k∧k ≠ i:=by
  unfold Al;rw [pL h10 h0 h9 k0 k9];split
  · rename_i e;exact ⟨fun a=>absurd rfl a.2.1,fun a=>absurd e.symm a.2⟩
  · rename_i e;rw [qA,B5];exact ⟨fun a=>⟨a,Ne.symm e⟩,fun a=>a.1⟩
theorem Dm.ou {g:Int→Int} {D:Int→Prop} {l:List gE} {now:Int} (ar:Ar l) {i:Int} (h0:1≤i) (h9:i≤9) (d:Dm g D l now):Dm g D (ou l i) now:=by
  refine ⟨d.rg,fun j di=>?_,fun j k j0 j9 q a x=>?_⟩
  · obtain ⟨j1,j9⟩:=d.rg j di;rw [pL ar.len (by omega) h9 (by omega) j9];split
    · rename_i e;subst e;exact d.ge _ di
    · rw [B5];exact d.ge j di
  obtain ⟨e1,e2,e3⟩:=Bx ar h0 h9 j0 j9 q;obtain ⟨k0,k1⟩:=mc e1;have h10:=ar.len;rw [yQ h10 (by omega) h9 k0 (by omega) e2] at x;exact (yz h10 (by omega) h9 j0 j9).2 ⟨d.cl j k j0 j9 e1 ((yz h10 (by omega) h9 k0 (by omega)).1 a).1 x,e3⟩
theorem Dm.step {g:Int→Int} {D:Int→Prop} {h:gV} {now:Int} (q:Hk h) (d:Dm g D h.ag now):Dm g D (ji h now).1.ag now∧∀ k,Al g D (ji h now).1.ag k→Al g D h.ag k:=by
  have h10:=q.ar.len
  rcases N5 q now with e | ⟨c,p1,p9,hf,ar,e⟩
  · refine ⟨d.jx h10 e,fun k a=>?_⟩;obtain ⟨k1,k9⟩:=d.rg k a.1;exact (vo h10 e (by omega) k9).1 a
  · have f10:=ar.len;refine ⟨(d.ou q.ar p1 p9).jx f10 e,fun k a=>?_⟩;obtain ⟨k1,k9⟩:=d.rg k a.1;exact ((yz h10 (by omega) p9 (by omega) k9).1 ((vo f10 e (by omega) k9).1 a)).1
def Cy (g:Int→Int) (D:Int→Prop) (h:gV):Prop:=∀ i,Al g D h.ag i→(nth h.ag i).mark=false∧(h.gc.QS=0→i ∉ h.gc.gQ)∧(h.gc.QS=1→h.gc.Q0≤i)
theorem Bu {h:gV} (hg:h.gc.gQ.length ≠ 0) (q:h.gc.gQ.Nodup):hO h ∈ h.gc.gQ∧hO h ∉ kf h:=by
  have e:h.gc.gQ[h.gc.gQ.length - 1]?=some (hO h):=by
    have:=jv (l:=h.gc.gQ) (i:=(h.gc.gQ.length:Int) - 1) (by omega) (by omega);rw [show ((h.gc.gQ.length:Int) - 1).toNat=h.gc.gQ.length - 1 by omega] at this;exact this
  refine ⟨List.mem_of_getElem? e,fun hm=>?_⟩;unfold kf at hm;obtain ⟨j,hj,e2⟩:=List.mem_iff_getElem.1 hm;rw [List.length_take] at hj;rw [List.getElem_take] at e2;have:=List.pairwise_iff_getElem.1 q j (h.gc.gQ.length - 1) (by omega) (by omega) (by omega);rw [List.getElem?_eq_getElem (by omega)] at e;exact this (e2.trans (Option.some.inj e).symm)
theorem yx {l:List gE} {now:Int}:∀ (e:List Int) (h:gV),h.ag.length=10→(∀ y,y ∈ e→0≤y∧y≤9)→∀ i,i ∈ (e.foldl (jy l now) h).gc.gQ→i ∈ h.gc.gQ∨(i ∈ e∧(nth h.ag i).mark=false∧iI (nth l i) now=false)
  | [],h,_,_,i,q=>.inl q
  | k::e,h,h10,he,i,q=>by
    rw [List.foldl_cons] at q;obtain ⟨k0,k9⟩:=he k (by simp)
    have hl:(jy l now h k).ag.length=10:=by unfold jy;split<;>first | exact h10 | (rw [xx];exact h10)
    rcases yx e _ hl (fun y hy=>he y (by simp [hy])) i q with d | ⟨d1,d2,d3⟩
    · unfold jy at d;split at d
      · exact .inl d
      · rename_i hx;unfold jG at d;split at d
        · rename_i c;simp only [Rg,Bool.not_eq_true'] at c;dsimp only at d;split at d
          · exact .inl d
          · rcases List.mem_append.1 d with d | d
            · exact .inl d
            · have:i=k:=by simpa using d
              subst this;exact .inr ⟨by simp,c.2.2,by simpa using hx⟩
        · exact .inl d
    · refine .inr ⟨by simp [d1],?_,d3⟩;cases hm:(nth h.ag i).mark
      · rfl
      · have i0:=(he i (by simp [d1])).1;have i9:=(he i (by simp [d1])).2;unfold jy at d2;split at d2
        · rw [hm] at d2;cases d2
        · rw [(xk h10 k0 k9).1.up i i0 i9 hm] at d2;cases d2
theorem Cy.step {g:Int→Int} {D:Int→Prop} {h:gV} {now:Int} (q:Hk h) (d:Dm g D h.ag now) (y:Cy g D h):Cy g D (ji h now).1∧(h.gc.QS=1→h.gc.Q0=9→∀ i, ¬ Al g D (ji h now).1.ag i):=by
  have ar:=q.ar;have h10:=ar.len;have dn:=(d.step q).2;have rg:=d.rg;unfold ji at dn ⊢;rw [if_pos (kq.2 q)] at dn ⊢
  rcases sX q with c | ⟨c,p0,p9,gr⟩
  · rw [if_neg (by rw [c];decide)] at dn ⊢;dsimp only at dn ⊢;refine ⟨fun i a=>?_,fun e=>absurd (c.symm.trans e) (by decide)⟩;obtain ⟨a1,a2,_⟩:=y i (dn i a);obtain ⟨i1,i9⟩:=rg i a.1;have a2:=a2 c;unfold nv at a dn ⊢;split
    · exact ⟨a1,fun e=>absurd e (show (1:Int) ≠ 0 by decide),fun _=>by dsimp only;omega⟩
    · rename_i hg;rw [if_neg hg] at a dn;obtain ⟨l0,l9⟩:=m3 (kq.2 q) hg;obtain ⟨m1,m2⟩:=Bu hg q.nd;split
      · exact ⟨a1,fun _ hi=>a2 (oI h i hi),fun e=>absurd (c.symm.trans e) (by decide)⟩
      · rename_i he;rw [if_neg he] at a dn;have hs0:=oJ (l:=h.ag) (i:=hO h) l0 (by omega) (z:=marked (nth h.ag (hO h)) true) rfl;obtain ⟨c1,c2,c3⟩:=u5 (l:=h.ag) (now:=now) (jr h.ag (hO h)) (gV.mk (h.ag.set (hO h).toNat (marked (nth h.ag (hO h)) true)) (ka.mk h.gc.QS h.gc.Q0 h.gc.QT (kf h))) (by dsimp only;rw [List.length_set];exact h10) (mX ar (hO h)).1 hs0;have hil:hO h ≠ i:=fun e=>a2 (e ▸ m1)
        have hno:¬ (i ∈ jr h.ag (hO h)∧iI (nth h.ag i) now=false):=fun ⟨e1,e2⟩=>by
          have al:=d.cl (hO h) i l0 l9 e1 (dn i a) e2;exact (y _ al).2.1 c m1
        have g2:=yx (l:=h.ag) (now:=now) (jr h.ag (hO h)) (gV.mk (h.ag.set (hO h).toNat (marked (nth h.ag (hO h)) true)) (ka.mk h.gc.QS h.gc.Q0 h.gc.QT (kf h))) (by dsimp only;rw [List.length_set];exact h10) (mX ar (hO h)).1;refine ⟨?_,fun _ hi=>?_,fun e=>absurd (c.symm.trans (c1.ph.symm.trans e)) (by decide)⟩
        · cases hm:(nth (List.foldl (jy h.ag now) (gV.mk (h.ag.set (hO h).toNat (marked (nth h.ag (hO h)) true)) (ka.mk h.gc.QS h.gc.Q0 h.gc.QT (kf h))) (jr h.ag (hO h))).ag i).mark
          · rfl
          · rcases c3 i (by omega) i9 hm with e | e
            · dsimp only at e;rw [ko l0 (by omega) (by omega),if_neg hil,a1] at e;cases e
            · exact absurd e hno
        · rcases g2 i hi with e | e
          · exact a2 (oI h i e)
          · exact hno ⟨e.1,e.2.2⟩
  · rw [if_pos (by rw [c];rfl)] at dn ⊢;have sar:Ar (jF h now):=vq q p0 p9 now
    have sw:∀ i,Al g D (jF h now) i→(nth (jF h now) i).mark=false∧h.gc.Q0<i:=fun i a=>by
      obtain ⟨i1,i9⟩:=rg i a.1
      rcases AE q p0 p9 now with ⟨hf,p1,e1⟩ | ⟨hf,e1⟩
      · rw [e1] at a ⊢;obtain ⟨a,hne⟩:=(yz h10 p0 p9 (by omega) i9).1 a;obtain ⟨b1,_,b2⟩:=y i a;have b2:=b2 c;rw [pL h10 p0 p9 (by omega) i9,if_neg (Ne.symm hne),EX];exact ⟨b1,by omega⟩
      · rw [e1] at a ⊢;have hs:=oJ (l:=h.ag) (i:=h.gc.Q0) p0 (by omega) (z:=marked (nth h.ag h.gc.Q0) false) rfl;have a:=(vo h10 hs (by omega) i9).1 a;obtain ⟨b1,_,b2⟩:=y i a;have b2:=b2 c
        have hne:h.gc.Q0 ≠ i:=fun e=>by
          unfold kc at hf;rw [e,b1] at hf
          have:(i != 0)=true:=by simp;omega
          have hk:((nth h.ag i).py != 0)=true:=by simpa using a.2.1
          rw [this,hk] at hf;simp at hf
        rw [ko p0 (by omega) (by omega),if_neg hne];exact ⟨b1,by omega⟩
    unfold kV;dsimp only;split
    · rename_i c9
      have c9:h.gc.Q0=9:=by simpa using c9
      have none_:∀ i, ¬ Al g D (qK (jF h now)) i:=fun i a=>by
        obtain ⟨i1,i9⟩:=rg i a.1;have a:=(vo sar.len (xz sar.len) (by omega) i9).1 a;have:=(sw i a).2;omega
      exact ⟨fun i a=>absurd a (none_ i),fun _ _=>none_⟩
    · rename_i c9
      have c9:h.gc.Q0 ≠ 9:=by simpa using c9
      refine ⟨fun i a=>?_,fun _ e=>absurd e c9⟩;obtain ⟨b1,b2⟩:=sw i a;exact ⟨b1,fun e=>absurd (c.symm.trans e) (by decide),fun _=>by dsimp only;omega⟩
theorem Cy.fresh {g:Int→Int} {D:Int→Prop} {h:gV} {now:Int} (s:Sf h now) (d:Dm g D h.ag now) (c:h.gc.QS=1) (c9:h.gc.Q0=9):Cy g D (ji h now).1:=by
  have q:=s.hk;have h10:=q.ar.len;unfold ji;rw [if_pos (kq.2 q),if_pos (by rw [c];rfl)];unfold kV;dsimp only;rw [if_pos (by rw [c9];rfl)];obtain ⟨_,w2,_⟩:=s.jF c;have sar:Ar (jF h now):=vq q (by omega) (by omega) now;intro i a;obtain ⟨i1,i9⟩:=d.rg i a.1;refine ⟨?_,fun _ hi=>?_,fun e=>absurd e (show (0:Int) ≠ 1 by decide)⟩
  · show (nth (qK (jF h now)) i).mark=false
    unfold qK;rw [show (0:Nat)=(0:Int).toNat from rfl,ko (by omega) (by have:=sar.len;omega) (by omega),if_neg (by omega),w2 i (by omega) i9];split
    · rfl
    · exact s.lo c i (by omega) (by omega)
  · have:i=0:=by simpa using hi
    omega
theorem CJ {h:gV} (q:Hk h) (now:Int):(h.gc.QS=1∧h.gc.Q0=9)∨nZ (ji h now).1 now+1≤nZ h now:=by
  have q':=q.step now;have ar:=q.ar;have h10:=ar.len;unfold ji at q' ⊢;rw [if_pos (kq.2 q)] at q' ⊢
  rcases sX q with c | ⟨c,p0,p9,gr⟩
  · rw [if_neg (by rw [c];decide)] at q' ⊢;refine .inr ?_;dsimp only at q' ⊢
    have el:nZ h now=11+wS h now:=by unfold nZ;rw [if_neg (by rw [c];decide)]
    rw [el];unfold nv at q' ⊢;split
    · unfold nZ;rw [if_pos rfl];dsimp only;omega
    · rename_i hg;rw [if_neg hg] at q';obtain ⟨l0,l9⟩:=m3 (kq.2 q) hg;obtain ⟨m1,m2⟩:=Bu hg q.nd;split
      · rename_i he;simp only [Rg,bne_iff_ne,ne_eq] at he;unfold nZ;rw [if_neg (by dsimp only;rw [c];decide)]
        have:wS ⟨h.ag,⟨h.gc.QS,h.gc.Q0,h.gc.QT,kf h⟩⟩ now+1≤wS h now:=by
          refine D7 _ (fun k _ hk=>?_) ⟨(hO h).toNat,by rw [List.mem_range];omega,?_,?_⟩
          · rw [pG] at hk ⊢
            rcases hk with hk | hk
            · exact .inl (oI h _ hk)
            · exact .inr hk
          · rw [pG,Int.toNat_of_nonneg l0];exact .inl m1
          · cases hp:DM ⟨h.ag,⟨h.gc.QS,h.gc.Q0,h.gc.QT,kf h⟩⟩ now (hO h).toNat
            · rfl
            · rw [pG,Int.toNat_of_nonneg l0] at hp
              rcases hp with hp | hp
              · exact absurd hp m2
              · have:=hp.2;dsimp only at this;rw [he.2] at this;cases this
        omega
      · rename_i he;have hs0:=oJ (l:=h.ag) (i:=hO h) l0 (by omega) (z:=marked (nth h.ag (hO h)) true) rfl;obtain ⟨c1,c2,c3⟩:=u5 (l:=h.ag) (now:=now) (jr h.ag (hO h)) (gV.mk (h.ag.set (hO h).toNat (marked (nth h.ag (hO h)) true)) (ka.mk h.gc.QS h.gc.Q0 h.gc.QT (kf h))) (by dsimp only;rw [List.length_set];exact h10) (mX ar (hO h)).1 hs0;have g2:=yx (l:=h.ag) (now:=now) (jr h.ag (hO h)) (gV.mk (h.ag.set (hO h).toNat (marked (nth h.ag (hO h)) true)) (ka.mk h.gc.QS h.gc.Q0 h.gc.QT (kf h))) (by dsimp only;rw [List.length_set];exact h10) (mX ar (hO h)).1;have hsk:=hs0.trans c1.sk;unfold nZ;rw [if_neg (by rw [c1.ph];dsimp only;rw [c];decide)];generalize (List.foldl (jy h.ag now) (gV.mk (h.ag.set (hO h).toNat (marked (nth h.ag (hO h)) true)) (ka.mk h.gc.QS h.gc.Q0 h.gc.QT (kf h))) (jr h.ag (hO h)))=t at *
        have hm:∀ j,0≤j→nth (h.ag.set (hO h).toNat (marked (nth h.ag (hO h)) true)) j=if hO h=j then marked (nth h.ag (hO h)) true else nth h.ag j:=fun j hj=>ko l0 (by omega) hj
        have mL:(nth t.ag (hO h)).mark=true:=c1.up _ l0 l9 (by dsimp only;rw [hm _ l0,if_pos rfl];rfl)
        have nL:hO h ∉ t.gc.gQ:=fun hi=>by
          rcases g2 _ hi with e | ⟨_,e,_⟩
          · exact m2 e
          · dsimp only at e;rw [hm _ l0,if_pos rfl] at e;cases e
        have:wS t now+1≤wS h now:=by
          refine D7 _ (fun k hk' hk=>?_) ⟨(hO h).toNat,by rw [List.mem_range];omega,?_,?_⟩
          · rw [List.mem_range] at hk';rw [pG] at hk ⊢
            rcases hk with hk | hk
            · rcases g2 _ hk with e | ⟨e1,e2,e3⟩
              · exact .inl (oI h _ e)
              · refine .inr ⟨?_,e3⟩;dsimp only at e2;rw [hm _ (by omega)] at e2;split at e2
                · cases e2
                · exact e2
            · refine .inr ⟨?_,?_⟩
              · cases hq:(nth h.ag (k:Int)).mark
                · rfl
                · have:=c1.up (k:Int) (by omega) (by omega) (by dsimp only;rw [hm _ (by omega)];split<;>first | rfl | exact hq);rw [hk.1] at this;cases this
              · rw [sb (lD hsk (i:=(k:Int)) (by omega) (by omega)) now];exact hk.2
          · rw [pG,Int.toNat_of_nonneg l0];exact .inl m1
          · cases hp:DM t now (hO h).toNat
            · rfl
            · rw [pG,Int.toNat_of_nonneg l0] at hp
              rcases hp with hp | hp
              · exact absurd hp nL
              · rw [mL] at hp;cases hp.1
        omega
  · rw [if_pos (by rw [c];rfl)] at q' ⊢
    by_cases c9:h.gc.Q0=9
    · exact .inl ⟨c,c9⟩
    · refine .inr ?_;unfold kV;dsimp only;rw [if_neg (by simpa using c9)];unfold nZ;rw [if_pos c,if_pos c];dsimp only;omega
def Qp (g:Int→Int) (D:Int→Prop) (h:gV) (now:Int) (n:Nat):Prop:=(∀ i, ¬ Al g D h.ag i)∨(Cy g D h∧nZ h now≤n)∨nZ h now+21≤n
structure Rec (g:Int→Int) (D:Int→Prop) (h:gV) (now:Int) (n:Nat):Prop where
  sf:Sf h now
  dm:Dm g D h.ag now
  td:Qp g D h now n
theorem Rec.start {g:Int→Int} {D:Int→Prop} {h:gV} {now:Int} (s:Sf h now) (d:Dm g D h.ag now):Rec g D h now 42:=by
  refine ⟨s,d,.inr (.inr ?_)⟩;have:=yc s.hk now;omega
theorem Rec.done {g:Int→Int} {D:Int→Prop} {h:gV} {now:Int} (r:Rec g D h now 0):∀ i, ¬ Al g D h.ag i:=by
  have:=yc r.sf.hk now
  rcases r.td with e | e | e
  · exact e
  · omega
  · omega
theorem Rec.more {g:Int→Int} {D:Int→Prop} {h:gV} {now:Int} {a b:Nat} (q:a≤b) (r:Rec g D h now a):Rec g D h now b:=by
  refine ⟨r.sf,r.dm,?_⟩
  rcases r.td with e | e | e
  · exact .inl e
  · exact .inr (.inl ⟨e.1,by omega⟩)
  · exact .inr (.inr (by omega))
theorem Rec.step {g:Int→Int} {D:Int→Prop} {h:gV} {now:Int} {n:Nat} (r:Rec g D h now (n+1)):Rec g D (ji h now).1 now n:=by
  obtain ⟨d1,d2⟩:=r.dm.step r.sf.hk;refine ⟨r.sf.step.1,d1,?_⟩;have hp:=yc r.sf.hk now;have hp':=yc r.sf.step.1.hk now
  rcases r.td with e | ⟨y,e⟩ | e
  · exact .inl fun i a=>e i (d2 i a)
  · obtain ⟨y1,y2⟩:=y.step r.sf.hk r.dm
    rcases CJ r.sf.hk now with ⟨c,c9⟩ | l
    · exact .inl (y2 c c9)
    · exact .inr (.inl ⟨y1,by omega⟩)
  · rcases CJ r.sf.hk now with ⟨c,c9⟩ | l
    · exact .inr (.inl ⟨Cy.fresh r.sf r.dm c c9,by omega⟩)
    · exact .inr (.inr (by omega))
def BK (now:Int):Nat→gV→gV
  | 0,h=>h
  | k+1,h=>BK now k (ji h now).1
theorem zh (now:Int):∀ (k:Nat) (c:wV),(wZ now k c).heap=BK now k c.heap
  | 0,c=>rfl
  | k+1,c=>by
    have e:(nU now c).heap=(ji c.heap now).1:=by unfold nU;split<;>rfl
    show (wZ now k (nU now c)).heap=_
    rw [zh now k,e];rfl
theorem J2 (now:Int):∀ (k:Nat) (h:gV),Sf h now→Sf (BK now k h) now∧(∀ i,Reaches (BK now k h).ag now i ↔ Reaches h.ag now i)∧∀ j,Reaches h.ag now j→(nth (BK now k h).ag j).Q3=(nth h.ag j).Q3∧(nth (BK now k h).ag j).py=(nth h.ag j).py
  | 0,h,s=>⟨s,fun _=>Iff.rfl,fun _ _=>⟨rfl,rfl⟩⟩
  | k+1,h,s=>by
    obtain ⟨s1,s2,s3⟩:=s.step;obtain ⟨a,b,c⟩:=J2 now k _ s1;refine ⟨a,fun i=>(b i).trans (s2 i),fun j r=>?_⟩;obtain ⟨c1,c2⟩:=c j ((s2 j).2 r);obtain ⟨d1,d2⟩:=s3 j r;exact ⟨c1.trans d1,c2.trans d2⟩
end Go.Kx
