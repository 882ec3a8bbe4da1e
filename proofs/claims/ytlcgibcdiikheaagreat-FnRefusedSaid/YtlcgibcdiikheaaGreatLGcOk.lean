import Derived.Test.YtlcgibcdiikheaaGreatLKeep
namespace Go.Kx
open Go
set_option linter.unusedVariables false
set_option linter.unusedSimpArgs false
set_option maxRecDepth 10000
theorem o9 {o z:gE} (h:ja o=true) (hk:(o.Pz==0)=false) (e1:z.PO=o.PO) (e2:z.Pz=o.Pz) (hb:iA z.box (-1) 9=true) (e3:z.res=o.res) (ht:iA z.iK 0 1000000=true) (e4:z.bh=o.bh) (hl:lH z=true) (e5:z.PK=o.PK) (e6:z.iP=o.iP) (e7:z.iM=o.iM):ja z=true:=by
  unfold ja at h ⊢;rw [e1,e2,e3,e4,e5,e6,e7,hk];rw [hk] at h;simp only [PU,PY] at h ⊢;obtain ⟨a1,a2,a3,a4,a5,a6,a7,a8⟩:=h;exact ⟨a1,a2,hb,a4,ht,a6,hl,a8⟩
theorem np {o:gE} (h:ja o=true) (hk:(o.Pz==0)=false):lH o=true:=by
  unfold ja at h;rw [hk] at h;simp only [PU,PY] at h;exact h.2.2.2.2.2.2.1
theorem yy {o:gE} (hk:(o.Pz==0)=false):(o.Pz != 0)=true:=by unfold bne;rw [hk];rfl
theorem LY {o:gE} (h:ja o=true) (hk:(o.Pz==0)=false) (b:Bool):ja (marked o b)=true :=
  o9 h hk rfl rfl (mJ h (yy hk)).1 rfl (mJ h (yy hk)).2.2.1 rfl (show lH o=true from np h hk) rfl rfl rfl
theorem sM {o:gE} (h:ja o=true) (hk:(o.Pz==0)=true):o=blank o.PO:=by
  unfold ja at h;rw [hk] at h;simp only [PV,PY,decide_eq_true_eq] at h;exact h.2.2
theorem J6 {o:gE} (h:ja o=true):ja (blank o.PO)=true:=by
  unfold ja at h ⊢;simp only [PY] at h
  show (iA o.PO 0 999&&(iA 0 0 4&&decide (blank o.PO=blank o.PO)))=true
  rw [h.1,decide_eq_true rfl];rfl
theorem Nm {o:gE} (h:ja o=true) (i:Int):ja (pU i o)=true:=by
  unfold pU;cases hk:o.Pz==0
  · simp only [Bool.false_eq_true,if_false];have hb:=(mJ h (yy hk));refine o9 h hk rfl rfl ?_ rfl hb.2.2.1 rfl ?_ rfl rfl rfl
    · show iA (if o.box==i then -1 else o.box) (-1) 9=true
      split
      · decide
      · exact hb.1
    · have hl:=np h hk;unfold lH at hl ⊢;simp only [PY,List.length_map,List.all_map,List.all_eq_true] at hl ⊢;refine ⟨fun y hy=>?_,hl.2⟩
      show iA (xZ i y) (-1) 9=true
      unfold xZ;split
      · decide
      · exact hl.1 y hy
  · simp only [if_true];exact h
theorem Ej (i:Int) (o:gE):(pU i o).Pz=o.Pz:=by unfold pU;split<;>rfl
theorem Ih (i:Int) (o:gE):(pU i o).bh=o.bh:=by unfold pU;split<;>rfl
theorem Mn (i:Int) (o:gE):(pU i o).iK=o.iK:=by unfold pU;split<;>rfl
theorem Ar.swap {l:List gE} (h:Ar l) {i:Int} (h0:0≤i) (h9:i≤9) {z:gE} (hk:z.Pz=(nth l i).Pz) (hb:z.box=(nth l i).box) (hl:z.ig=(nth l i).ig) (ht:i=0→z.iK=(nth l i).iK) (ok:ja z=true):Ar (l.set i.toNat z):=by
  have h10:=h.len
  have hn:∀ j,0≤j→nth (l.set i.toNat z) j=if i=j then z else nth l j:=fun j hj=>tH h0 (by omega) hj
  have hkind:∀ j,0≤j→(nth (l.set i.toNat z) j).Pz=(nth l j).Pz:=fun j hj=>by
    rw [hn j hj];split
    · rename_i e;rw [← e];exact hk
    · rfl
  have hi:=(h.at h0 h9).2;refine ⟨by rw [List.length_set];exact h10,by rw [hkind 0 (by omega)];exact h.uC,?_,?_,?_,?_,?_⟩
  · rw [hn 0 (by omega)];split
    · rename_i e;rw [hb,e];exact h.yf
    · exact h.yf
  · rw [hn 0 (by omega)];split
    · rename_i e;rw [ht e,e];exact h.z7
    · exact h.z7
  · intro o ho
    rcases List.mem_or_eq_of_mem_set ho with q | rfl
    · exact h.ok o q
    · exact ok
  · intro o ho y hy y0;rw [hkind y y0]
    rcases List.mem_or_eq_of_mem_set ho with q | rfl
    · exact h.ig o q y hy y0
    · rw [hl] at hy;exact h.ig _ hi y hy y0
  · intro k o hko k0 hne b0;rw [hkind o.box b0]
    by_cases e:k=i.toNat
    · subst e;rw [List.getElem?_set_self (by omega)] at hko;have:z=o:=Option.some.inj hko;subst this;have:=h.box i.toNat (nth l i) (jM h0 (by omega)) k0 (by rw [← hk];exact hne) (by rw [← hb];exact b0)
      rwa [hb]
    · rw [List.getElem?_set_ne (Ne.symm e)] at hko;exact h.box k o hko k0 hne b0
theorem Ar.mark {l:List gE} (h:Ar l) {i:Int} (h0:0≤i) (h9:i≤9) (b:Bool) (hk:b=true→((nth l i).Pz==0)=false):Ar (l.set i.toNat (marked (nth l i) b)):=by
  refine h.swap h0 h9 rfl rfl rfl (fun _=>rfl) ?_;have ho:=h.ok _ (h.at h0 h9).2;cases hq:(nth l i).Pz==0
  · exact LY ho hq b
  · cases b
    · have e:=sM ho hq
      have:marked (nth l i) false=nth l i:=by rw [e];rfl
      rw [this];exact ho
    · rw [hk rfl] at hq;cases hq
theorem Ms {l:List gE} (f:gE→gE) {j:Int} (h0:0≤j) (h1:j<(l.length:Int)):nth (l.map f) j=f (nth l j):=by
  have:=jM (l:=l) h0 h1;unfold nth;rw [List.getElem?_map];unfold nth at this;rw [this];rfl
theorem Ar.free {l:List gE} (h:Ar l) {i:Int} (h1:1≤i) (h9:i≤9):Ar ((l.set i.toNat (blank (nth l i).PO)).map (pU i)):=by
  have h10:=h.len;have hi:=(h.at (i:=i) (by omega) h9).2
  have hn:∀ j,0≤j→j≤9→nth ((l.set i.toNat (blank (nth l i).PO)).map (pU i)) j=pU i (if i=j then blank (nth l i).PO else nth l j):=fun j hj h9=>by
    rw [Ms _ hj (by rw [List.length_set];omega),tH (by omega) (by omega) hj]
  have hkind:∀ j,0≤j→j≤9→j ≠ i→(nth ((l.set i.toNat (blank (nth l i).PO)).map (pU i)) j).Pz=(nth l j).Pz:=fun j hj h9 hne=>by
    rw [hn j hj h9,if_neg (Ne.symm hne),Ej]
  have hmem:∀ o,o ∈ l.set i.toNat (blank (nth l i).PO)→ja o=true:=fun o ho=>by
    rcases List.mem_or_eq_of_mem_set ho with q | rfl
    · exact h.ok o q
    · exact J6 (h.ok _ hi)
  refine ⟨by rw [List.length_map,List.length_set];exact h10,by rw [hkind 0 (by omega) (by omega) (by omega)];exact h.uC,?_,?_,?_,?_,?_⟩
  · rw [hn 0 (by omega) (by omega),if_neg (by omega)];unfold pU;rw [h.uC]
    show (if (nth l 0).box==i then -1 else (nth l 0).box)=-1
    rw [h.yf];split<;>rfl
  · rw [hn 0 (by omega) (by omega),if_neg (by omega),Mn];exact h.z7
  · intro o ho;obtain ⟨x,hx,rfl⟩:=List.mem_map.1 ho;exact Nm (hmem x hx) i
  · intro o ho y hy y0;obtain ⟨x,hx,rfl⟩:=List.mem_map.1 ho;have hok:=hmem x hx;cases hq:x.Pz==0
    · unfold pU at hy;rw [hq] at hy;simp only [Bool.false_eq_true,if_false] at hy;obtain ⟨v,hv,rfl⟩:=List.mem_map.1 hy;unfold xZ at y0 ⊢;split at y0
      · omega
      · rename_i hne
        have hne:v ≠ i:=by simpa using hne
        have v9:=((qD hok).2 v hv).2;rw [if_neg (by simpa using hne),hkind v y0 v9 hne]
        rcases List.mem_or_eq_of_mem_set hx with q | q
        · exact h.ig x q v hv y0
        · rw [q] at hq;simp [blank] at hq
    · have e:=sM hok hq;unfold pU at hy;rw [hq] at hy;simp only [if_true] at hy;rw [e] at hy;simp [blank] at hy
  · intro k o hko k0 hne b0;rw [List.getElem?_map] at hko;obtain ⟨x,hx,rfl⟩:=Option.map_eq_some_iff.1 hko;rw [Ej] at hne
    have hq:(x.Pz==0)=false:=by simpa using hne
    have hb:(pU i x).box=if x.box==i then -1 else x.box:=by unfold pU;rw [hq];rfl
    rw [hb] at b0 ⊢;split at b0
    · omega
    · rename_i hnb
      have hnb:x.box ≠ i:=by simpa using hnb
      rw [if_neg (by simpa using hnb)];have hxm:=List.mem_of_getElem? hx;have b9:=iS.1 (mJ (hmem x hxm) (yy hq)).1;rw [hkind x.box b0 b9.2 hnb]
      by_cases e:k=i.toNat
      · subst e;rw [List.getElem?_set_self (by omega)] at hx;have:=Option.some.inj hx;rw [← this] at hq;simp [blank] at hq
      · rw [List.getElem?_set_ne (Ne.symm e)] at hx;exact h.box k x hx k0 hne b0
structure Hk (h:il):Prop where
  ar:Ar h.ag
  ph:nI h.gc=true
  rd:0≤h.gc.PF∧h.gc.PF≤1000000
  gr:∀ y,y ∈ h.gc.hZ→0≤y∧y≤9
  nd:h.gc.hZ.Nodup
theorem IM {g:List Int}:allI (r6 g) 0 g=true ↔ (∀ y,y ∈ g→0≤y∧y≤9)∧g.Nodup:=by
  rw [nN];constructor
  · intro h;refine ⟨fun y hy=>?_,?_⟩
    · obtain ⟨k,hk⟩:=List.getElem?_of_mem hy;have:=h k y hk;unfold r6 at this;simp only [PY,iS] at this;exact this.1
    · refine List.pairwise_iff_getElem.2 fun i j hi hj hij e=>?_;have:=h j g[j] (List.getElem?_eq_getElem hj);unfold r6 at this;simp only [Nat.zero_add,PY,Bool.not_eq_true'] at this
      have hm:g[j] ∈ g.take j:=by
        rw [← e];exact List.mem_iff_getElem.2 ⟨i,by rw [List.length_take];omega,by rw [List.getElem_take]⟩
      have hc:(g.take j).contains g[j]=true:=by simpa using hm
      rw [this.2] at hc;cases hc
  · rintro ⟨h1,h2⟩ i y hy;unfold r6;simp only [Nat.zero_add,PY,Bool.not_eq_true',iS];refine ⟨h1 y (List.mem_of_getElem? hy),?_⟩;cases hc:(g.take i).contains y
    · rfl
    · have hm:y ∈ g.take i:=by simpa using hc
      obtain ⟨j,hj,e⟩:=List.mem_iff_getElem.1 hm;rw [List.length_take] at hj;rw [List.getElem_take] at e;have hi:=jl hy;have:=List.pairwise_iff_getElem.1 h2 j i (by omega) hi (by omega);rw [List.getElem?_eq_getElem hi] at hy;exact absurd (e.trans (Option.some.inj hy).symm) this
theorem nV {h:il}:kB h=true ↔ Hk h:=by
  unfold kB;simp only [PY,IM,iS,j7];exact ⟨fun ⟨a,b,c,d,e⟩=>⟨a,b,c,d,e⟩,fun q=>⟨q.ar,q.ph,q.rd,q.gr,q.nd⟩⟩
theorem wc (h:il):∀ y,y ∈ oB h→y ∈ h.gc.hZ:=fun y hy=>List.mem_of_mem_take hy
theorem w9 {h:il} (q:h.gc.hZ.Nodup):(oB h).Nodup:=List.Sublist.nodup (List.take_sublist _ _) q
theorem Hk.Pv {h:il} (q:Hk h) {ph:h.gc.PD=0} (g:List Int):nI (jv.mk h.gc.PD h.gc.PL h.gc.PF g)=true:=by
  have hph:=q.ph;unfold nI at hph ⊢;simp only [Bool.or_eq_true,PY,beq_iff_eq] at hph ⊢
  rcases hph with e | e
  · exact .inl e
  · rw [ph] at e;exact absurd e.1 (by decide)
theorem Hk.mb {h:il} (q:Hk h) {k:Int} (k0:0≤k) (k9:k≤9):Hk (mb h k):=by
  unfold Kx.mb;split
  · rename_i c;simp only [PY,bne_iff_ne,ne_eq] at c;refine ⟨q.ar.mark k0 k9 true fun _=>by simpa using c.2.1,q.Pv (ph:=by simpa using c.1) _,q.rd,?_,?_⟩
    · intro y hy;simp only at hy;split at hy
      · exact q.gr y hy
      · rcases List.mem_append.1 hy with e | e
        · exact q.gr y e
        · rw [List.mem_singleton] at e;subst e;exact ⟨k0,k9⟩
    · simp only;split
      · exact q.nd
      · rename_i hc;refine List.nodup_append.2 ⟨q.nd,by simp,fun a ha b hb e=>?_⟩;rw [List.mem_singleton] at hb;subst hb;subst e;exact hc (by simpa using ha)
  · exact q
theorem Hk.IE {l:List gE} {now:Int}:∀ (e:List Int) (h:il),(∀ y,y ∈ e→0≤y∧y≤9)→Hk h→Hk (e.foldl (kN l now) h)
  | [],h,_,q=>q
  | k::e,h,he,q=>by
    rw [List.foldl_cons];refine Hk.IE e _ (fun y hy=>he y (by simp [hy])) ?_;unfold kN;split
    · exact q
    · exact q.mb (he k (by simp)).1 (he k (by simp)).2
theorem DO {h:il} (q:Hk h) (p0:0≤h.gc.PL) (p9:h.gc.PL≤9) (now:Int):Ar (mu h now):=by
  unfold mu;split
  · rename_i c;unfold mF at c;simp only [PY,bne_iff_ne,ne_eq] at c;unfold mK;split
    · exact q.ar.free (by omega) p9
    · exact q.ar
  · exact q.ar.mark p0 p9 false fun h=>by cases h
theorem Hk.step {h:il} (q:Hk h) (now:Int):Hk (kA h now).1:=by
  unfold kA;rw [if_pos (nV.2 q)];have hph:=q.ph;unfold nI at hph;simp only [Bool.or_eq_true,PY,beq_iff_eq,iS] at hph;split
  · rename_i c
    have c:h.gc.PD=1:=by simpa using c
    have hp:(0≤h.gc.PL∧h.gc.PL≤9)∧(h.gc.hZ.length:Int)=0:=by
      rcases hph with e | e
      · rw [c] at e;exact absurd e.1 (by decide)
      · exact e.2
    have hs:=DO q hp.1.1 hp.1.2 now;unfold nC;simp only;split
    · refine ⟨hs.mark (i:=0) (by omega) (by omega) true fun _=>by rw [hs.uC];rfl,rfl,?_,by simp,by simp⟩;have hr:=q.rd;simp only;rw [iE (by omega) (by omega)];split<;>omega
    · rename_i c9
      have c9:h.gc.PL ≠ 9:=by simpa using c9
      refine ⟨hs,?_,q.rd,q.gr,q.nd⟩;unfold nI;simp only [Bool.or_eq_true,PY,beq_iff_eq,iS];exact .inr ⟨c,⟨by omega,by omega⟩,hp.2⟩
  · rename_i c
    have c:h.gc.PD ≠ 1:=by simpa using c
    have hp:h.gc.PD=0∧h.gc.PL=0:=by
      rcases hph with e | e
      · exact e
      · exact absurd e.1 c
    have hph':∀ g,nI (jv.mk h.gc.PD h.gc.PL h.gc.PF g)=true:=fun g=>by
      unfold nI;simp [hp.1,hp.2]
    unfold rC;simp only;split
    · rename_i hg;refine ⟨q.ar,?_,q.rd,q.gr,q.nd⟩;unfold nI;simp [hg,iA]
    · rename_i hg;obtain ⟨l0,l9⟩:=uM (nV.2 q) hg;split
      · exact ⟨q.ar,hph' _,q.rd,fun y hy=>q.gr y (wc h y hy),w9 q.nd⟩
      · rename_i he;refine Hk.IE _ _ (tx q.ar (jm h)).1 ⟨?_,hph' _,q.rd,fun y hy=>q.gr y (wc h y hy),w9 q.nd⟩;refine q.ar.mark l0 l9 true fun _=>?_
        by_cases e0:jm h=0
        · rw [e0,q.ar.uC];rfl
        · cases hq:(nth h.ag (jm h)).Pz==0
          · rfl
          · refine absurd ?_ he;unfold jF;rw [hq];simp [e0]
def yF:List Int→Int
  | []=>0
  | y::l=>y+yF l
theorem Eg:∀ (l:List Int) (k:Nat) (y z:Int),l[k]?=some y→yF (l.set k z)=yF l - y+z
  | [],k,y,z,h=>by simp at h
  | x::l,0,y,z,h=>by
    simp at h;subst h
    show z+yF l=(x+yF l) - x+z
    omega
  | x::l,k+1,y,z,h=>by
    show x+yF (l.set k z)=x+yF l - y+z
    rw [Eg l k y z (by simpa using h)];omega
def kQ (l:List gE):Int:=yF (l.map gE.bh)
theorem tG {l:List gE} {i:Int} (h0:0≤i) (h1:i<(l.length:Int)) (z:gE):kQ (l.set i.toNat z)=kQ l - (nth l i).bh+z.bh:=by
  unfold kQ;rw [List.map_set,Eg _ _ (nth l i).bh _ (by rw [List.getElem?_map,jM h0 h1];rfl)]
theorem Mv {l:List gE} {f:gE→gE} (h:∀ o,(f o).bh=o.bh):kQ (l.map f)=kQ l:=by
  unfold kQ;rw [List.map_map];congr 1;exact List.map_congr_left fun o _=>h o
theorem BT {o:gE} (h:ja o=true):0≤o.bh∧o.bh≤8:=by
  cases hk:o.Pz==0
  · exact iS.1 (mJ h (yy hk)).2.2.2
  · rw [sM h hk];exact ⟨Int.le_refl 0,show (0:Int)≤8 by decide⟩
theorem Dk:∀ (l:List gE) (s:Int),(∀ o,o ∈ l→ja o=true)→0≤s→s+8 * (l.length:Int)≤1000000→l.foldl (fun n o=>IntKind.i64.wrap (n+o.bh)) s=s+kQ l∧0≤kQ l∧kQ l≤8 * (l.length:Int)
  | [],s,_,_,_=>⟨(Int.add_zero s).symm,Int.le_refl _,Int.le_refl _⟩
  | o::l,s,h,h0,hB=>by
    have ho:=BT (h o (by simp));simp only [List.length_cons] at hB;obtain ⟨a,b,c⟩:=Dk l (s+o.bh) (fun x hx=>h x (by simp [hx])) (by omega) (by omega);rw [List.foldl_cons,iE (by omega) (by omega),a];have e:kQ (o::l)=o.bh+kQ l:=rfl;rw [e];simp only [List.length_cons];omega
theorem DA {p:cd} (h:Ar p.py.ag):held p=kQ p.py.ag∧0≤kQ p.py.ag∧kQ p.py.ag≤80:=by
  have h10:=h.len;unfold held;rw [List.take_of_length_le (by omega),List.filter_eq_self.2 h.ok];obtain ⟨a,b,c⟩:=Dk p.py.ag 0 h.ok (by decide) (by omega);exact ⟨by rw [a];omega,b,by omega⟩
theorem Ci {h:il} (q:Ar h.ag) {k:Int} (k0:0≤k) (k9:k≤9):kQ (mb h k).ag=kQ h.ag:=by
  unfold mb;split
  · show kQ (h.ag.set _ _)=_
    rw [tG k0 (by have:=q.len;omega)]
    show _ - _+(nth h.ag k).bh=_
    omega
  · rfl
theorem AT {l:List gE} {now:Int}:∀ (e:List Int) (h:il),(∀ y,y ∈ e→0≤y∧y≤9)→Hk h→kQ (e.foldl (kN l now) h).ag=kQ h.ag
  | [],h,_,q=>rfl
  | k::e,h,he,q=>by
    have hk:=he k (by simp);rw [List.foldl_cons]
    have q1:Hk (kN l now h k):=by
      unfold kN;split
      · exact q
      · exact q.mb hk.1 hk.2
    rw [AT e _ (fun y hy=>he y (by simp [hy])) q1];unfold kN;split
    · rfl
    · exact Ci q.ar hk.1 hk.2
theorem KG {h:il} (q:Hk h) (now:Int):kQ (kA h now).1.ag=kQ h.ag - (if decide ((kA h now).2 ≥ 0) then (nth h.ag (kA h now).2).bh else 0):=by
  have h10:=q.ar.len;unfold kA;rw [if_pos (nV.2 q)];split
  · rename_i c
    have c:h.gc.PD=1:=by simpa using c
    have hph:=q.ph;unfold nI at hph;simp only [Bool.or_eq_true,PY,beq_iff_eq,iS] at hph
    have hp:0≤h.gc.PL∧h.gc.PL≤9:=by
      rcases hph with e | e
      · rw [c] at e;exact absurd e.1 (by decide)
      · exact e.2.1
    have hs:=DO q hp.1 hp.2 now;have hs10:=hs.len
    have key:kQ (mu h now)=kQ h.ag - (if mF h now then (nth h.ag h.gc.PL).bh else 0):=by
      unfold mu;cases hf:mF h now
      · simp only [Bool.false_eq_true,if_false];rw [tG hp.1 (by omega)]
        show _ - _+(nth h.ag h.gc.PL).bh=_
        omega
      · simp only [if_true];unfold mF at hf;simp only [PY,bne_iff_ne,ne_eq] at hf;unfold mK
        rw [if_pos (by
          rw [j7.2 q.ar];simp only [PX,PY,iS,bne_iff_ne,ne_eq]
          exact ⟨⟨by omega,hp.2⟩,hf.2.1⟩)]
        simp only;rw [Mv (Ih _),tG hp.1 (by omega)]
        show _ - _+0=_
        omega
    have ke:(nC h now).2=if mF h now then h.gc.PL else -1:=rfl
    rw [ke]
    have e2:kQ (nC h now).1.ag=kQ (mu h now):=by
      unfold nC;simp only;split
      · show kQ ((mu h now).set (0:Int).toNat (marked (nth (mu h now) 0) true))=_
        rw [tG (by omega) (by omega)]
        show _ - _+(nth (mu h now) 0).bh=_
        omega
      · rfl
    rw [e2,key];cases hf:mF h now
    · simp
    · simp only [if_true];rw [show decide (h.gc.PL ≥ 0)=true from decide_eq_true hp.1];rfl
  · simp only [show decide ((-1:Int) ≥ 0)=false from rfl,Bool.false_eq_true,if_false,Int.sub_zero];unfold rC;split
    · rfl
    · rename_i hg;obtain ⟨l0,l9⟩:=uM (nV.2 q) hg;split
      · rfl
      · rename_i he
        have hb:Hk (il.mk (h.ag.set (jm h).toNat (marked (nth h.ag (jm h)) true)) (jv.mk h.gc.PD h.gc.PL h.gc.PF (oB h))):=by
          have:=q.step now;refine ⟨?_,?_,q.rd,fun y hy=>q.gr y (wc h y hy),w9 q.nd⟩
          · refine q.ar.mark l0 l9 true fun _=>?_
            by_cases e0:jm h=0
            · rw [e0,q.ar.uC];rfl
            · cases hq:(nth h.ag (jm h)).Pz==0
              · rfl
              · refine absurd ?_ he;unfold jF;rw [hq];simp [e0]
          · have hph:=q.ph;unfold nI at hph ⊢;rename_i c
            have c:h.gc.PD ≠ 1:=by simpa using c
            simp only [Bool.or_eq_true,PY,beq_iff_eq] at hph ⊢
            rcases hph with e | e
            · exact .inl e
            · exact absurd e.1 c
        rw [AT _ _ (tx q.ar (jm h)).1 hb]
        show kQ (h.ag.set _ _)=_
        rw [tG l0 (by omega)]
        show _ - _+(nth h.ag (jm h)).bh=_
        omega
theorem yS {t:List im} {a:ic} (hT:Tr t) (f:Int) (ha:iU a=true) (hp:jh ic.bh t+a.bh≤1000000) (hr:jh ic.ib t+a.ib≤1000000) (hc:jh ic.ij t+a.ij≤1000000) :
    (ma t f a).2=true∧Tr (ma t f a).1∧jh ic.bh (ma t f a).1=jh ic.bh t+a.bh∧jh ic.ib (ma t f a).1=jh ic.ib t+a.ib∧jh ic.ij (ma t f a).1=jh ic.ij t+a.ij:=by
  have ht:=jG.2 hT;obtain ⟨t1,t2,t3⟩:=hT.jh;have hS:=jd.1 hT.sum;have ha':=jd.1 ha
  have hsum:iV (ka t) a=⟨jh ic.bh t+a.bh,jh ic.ib t+a.ib,jh ic.ij t+a.ij⟩:=by
    unfold ka iV;rw [if_pos ht,t1,t2,t3,iE (by omega) (by omega),iE (by omega) (by omega),iE (by omega) (by omega)]
  have hok:iU (iV (ka t) a)=true:=by
    rw [hsum];exact jd.2 ⟨by dsimp only;omega,by dsimp only;omega,by dsimp only;omega⟩
  have hi:0≤(if iW t f then f else 0)∧(if iW t f then f else 0)≤4∧(nth t (if iW t f then f else 0)).PN=true:=by
    split
    · rename_i q;have:=kM q;unfold iW at q;simp only [PY] at q;exact ⟨this.1,this.2,q.2⟩
    · exact ⟨Int.le_refl _,by decide,hT.rl⟩
  unfold ma;rw [if_pos (by rw [ht,ha,hok];rfl)];simp only;generalize (if iW t f then f else 0)=i at *;obtain ⟨i0,i4,hv⟩:=hi;have hl:=hT.len;have hm:=lh (l:=t) i0 (by omega);have hb:=jd.1 (hT.iI _ hm)
  have e:iV (nth t i).iI a=⟨(nth t i).iI.bh+a.bh,(nth t i).iI.ib+a.ib,(nth t i).iI.ij+a.ij⟩:=by
    unfold iV;rw [iE (by omega) (by omega),iE (by omega) (by omega),iE (by omega) (by omega)]
  obtain ⟨_,q⟩:=sf t ⟨0,0,0⟩ 0 hT.iI (by omega) (by omega) ⟨by decide,by decide⟩ ⟨by decide,by decide⟩ ⟨by decide,by decide⟩;obtain ⟨q1,q2,q3⟩:=q _ hm hv;rw [t1] at q1;rw [t2] at q2;rw [t3] at q3;rw [e];obtain ⟨w1,w2⟩:=hT.set i0 i4 hv (b:=⟨(nth t i).iI.bh+a.bh,(nth t i).iI.ib+a.ib,(nth t i).iI.ij+a.ij⟩) (jd.2 ⟨by dsimp only;omega,by dsimp only;omega,by dsimp only;omega⟩) (jd.2 ⟨by dsimp only;omega,by dsimp only;omega,by dsimp only;omega⟩);refine ⟨trivial,w1,?_,?_,?_⟩
  · rw [w2];dsimp only;omega
  · rw [w2];dsimp only;omega
  · rw [w2];dsimp only;omega
def sp (p:cd):ic:=⟨jh ic.bh p.PC+kQ p.py.ag+p.hY.bh,jh ic.ib p.PC+p.hY.ib,jh ic.ij p.PC+p.hY.ij⟩
theorem zf {p:cd} (h:iO p=true):kW p=sp p∧((0≤(sp p).bh∧(sp p).bh≤2000080)∧(0≤(sp p).ib∧(sp p).ib≤2000000)∧(0≤(sp p).ij∧(sp p).ij≤2000000))∧0≤jh ic.bh p.PC∧0≤jh ic.ib p.PC∧0≤jh ic.ij p.PC:=by
  have hT:=jG.1 (kY h);obtain ⟨t1,t2,t3⟩:=hT.jh;have hS:=jd.1 hT.sum;rw [t1,t2,t3] at hS;have hsp:=vr (oC h);obtain ⟨g1,g2,g3⟩:=DA (kf h)
  have hts:ka p.PC=⟨jh ic.bh p.PC,jh ic.ib p.PC,jh ic.ij p.PC⟩:=by
    unfold ka;rw [if_pos (kY h), ← t1, ← t2, ← t3]
  unfold kW;rw [oC h,g1,hts];simp only [if_true];unfold iV sp;dsimp only;rw [iE (n:=jh ic.bh p.PC+kQ p.py.ag) (by omega) (by omega),iE (by omega) (by omega),iE (by omega) (by omega),iE (by omega) (by omega)];exact ⟨rfl,⟨by omega,by omega,by omega⟩,by omega,by omega,by omega⟩
structure Ck (S R C:Int) (c:yC):Prop where
  tr:Tr c.PC
  hp:Hk c.py
  pg:jh ic.bh c.PC+kQ c.py.ag=S
  rt:jh ic.ib c.PC=R
  cp:jh ic.ij c.PC=C
  w:wA c.py.ag
theorem Ck.step {S R C:Int} {c:yC} (h:Ck S R C c) (hS:S≤1000000) (now:Int):Ck S R C (vW now c):=by
  have hq:=h.hp.step now;have hg:=KG h.hp now;obtain ⟨t1,t2,t3⟩:=h.tr.jh;have hSm:=jd.1 h.tr.sum;rw [t1,t2,t3] at hSm;have h1:=h.pg;have h2:=h.rt;have h3:=h.cp;obtain ⟨_,hw,_,hr⟩:=vL h.w now;unfold vW;cases hd:decide ((kA c.py now).2 ≥ 0)
  · rw [hd] at hg;simp only [Bool.false_eq_true,if_false] at hg ⊢;exact ⟨h.tr,hq,by dsimp only;omega,h2,h3,hw⟩
  · rw [hd] at hg;simp only [if_true] at hg ⊢;obtain ⟨_,d0,d9⟩:=hr hd;have hpr:=BT (h.hp.ar.ok _ (h.hp.ar.at d0 d9).2);have hp':0≤kQ (kA c.py now).1.ag:=(DA (p:=⟨⟨[]⟩,[],[],(kA c.py now).1,[],0,0,⟨0,0,0⟩,0,0⟩) hq.ar).2.1;obtain ⟨_,b1,b2,b3,b4⟩:=yS h.tr (nth c.py.ag (kA c.py now).2).res (a:=⟨(nth c.py.ag (kA c.py now).2).bh,0,0⟩) (jd.2 ⟨by dsimp only;omega,show (0:Int)≤0∧(0:Int)≤1000000 by decide,show (0:Int)≤0∧(0:Int)≤1000000 by decide⟩) (by dsimp only;omega) (by dsimp only;omega) (by dsimp only;omega);exact ⟨b1,hq,by dsimp only at *;omega,by dsimp only at *;omega,by dsimp only at *;omega,hw⟩
theorem Ck.steps {S R C:Int} (hS:S≤1000000) {now:Int}:∀ (k:Nat) (c:yC),Ck S R C c→Ck S R C (BI now k c)
  | 0,c,h=>h
  | k+1,c,h=>Ck.steps hS k _ (h.step hS now)
theorem DH {p:cd} (h:iO p=true) (hw:wP p) (hs:(sp p).bh≤1000000) (now steps:Int):iO (mN p now steps).1=true∧sp (mN p now steps).1=sp p:=by
  unfold mN;split
  · have hh:Hk p.py:=nV.1 (by
      unfold iO at h;simp only [PY] at h
      exact h.2.2.2.1)
    have hsp:=vr (oC h);have c0:Ck (jh ic.bh p.PC+kQ p.py.ag) (jh ic.ib p.PC) (jh ic.ij p.PC) ⟨0,p.PC,p.py⟩:=⟨jG.1 (kY h),hh,rfl,rfl,rfl,hw⟩;have c1:=Ck.steps (by unfold sp at hs;dsimp only at hs;omega) (now:=now) steps.toNat _ c0;refine ⟨?_,?_⟩
    · unfold iO at h ⊢;simp only [PY] at h ⊢;exact ⟨h.1,h.2.1,jG.2 c1.tr,nV.2 c1.hp,h.2.2.2.2⟩
    · have a:=c1.pg;have b:=c1.rt;have d:=c1.cp;unfold sp;dsimp only;rw [a,b,d]
  · exact ⟨h,rfl⟩
end Go.Kx
namespace Go.Kx
open Go
set_option linter.unusedVariables false
set_option linter.unusedSimpArgs false
set_option maxRecDepth 10000
structure TK (t u:List im):Prop where
  tr:Tr u
  pg:jh ic.bh u=jh ic.bh t
  rt:jh ic.ib u=jh ic.ib t
  cp:jh ic.ij u=jh ic.ij t
theorem Lw {t u:List im} (h:Tr t) (len:u.length=5) (rl:(nth u 0).PN=true) (Bm:(nth u 0).PM=-1) (dead:∀ r,r ∈ u→r.PN=false→r=oo) (iI:∀ r,r ∈ u→iU r.iI=true)
    (lead:∀ (k:Nat) (r:im),u[k]?=some r→r.PN=true→leads u 5 (k:Int)=true) (pg:jh ic.bh u=jh ic.bh t) (rt:jh ic.ib u=jh ic.ib t) (cp:jh ic.ij u=jh ic.ij t):TK t u:=by
  refine ⟨⟨len,rl,Bm,dead,iI,lead,?_⟩,pg,rt,cp⟩;obtain ⟨a1,a2,a3⟩:=sC u ⟨0,0,0⟩ 0 iI (by omega) (by omega) Bx;obtain ⟨t1,t2,t3⟩:=h.jh;have hS:=jd.1 h.sum;simp only [Int.zero_add] at a1 a2 a3;exact jd.2 ⟨by omega,by omega,by omega⟩
theorem AK {t:List im}:∀ (n:Nat) (j:Int),leads t n j=true→leads t (n+1) j=true
  | 0,j,h=>by simp [leads] at h
  | n+1,j,h=>by
    unfold leads at h ⊢;simp only [Bool.or_eq_true,PY] at h ⊢
    rcases h with h | ⟨h1,h2⟩
    · exact .inl h
    · exact .inr ⟨h1,AK n _ h2⟩
theorem tw {t:List im} {n:Nat} {j:Int} (h:leads t (n+1) j=true) (hj:j ≠ 0):iW t j=true∧leads t n (up t j)=true:=by
  unfold leads at h;simp only [Bool.or_eq_true,PY,beq_iff_eq] at h;exact h.resolve_left hj
theorem Bb {t:List im} {i:Int} (hi:i ≠ 0) (hu:up t i=i):∀ n,leads t n i=false
  | 0=>rfl
  | n+1=>by
    cases h:leads t (n+1) i
    · rfl
    · have:=(tw h hi).2;rw [hu,Bb hi hu n] at this;cases this
theorem vU {t:List im} {i:Int} (h:iW t i=true):0≤i∧i≤4∧(nth t i).PN=true:=by
  have:=kM h;unfold iW at h;simp only [PY] at h;exact ⟨this.1,this.2,h.2⟩
theorem HL {t:List im} {k:Int} (k0:0≤k) (k4:k≤4) (hk:(nth t k).PN=false) (h0:(nth t 0).PN=true) {f:Int} (h:leads t 5 f=true):leads t 4 f=true:=by
  cases h4:leads t 4 f
  case true=>rfl
  have key:∀ n j,leads t (n+1) j=true→leads t n j=false→(j=0∧n=0)∨(j ≠ 0∧iW t j=true∧leads t n (up t j)=true∧∀ m,n=m+1→leads t m (up t j)=false):=fun n j a b=>by
    by_cases hj:j=0
    · cases n with
      | zero=>exact .inl ⟨hj,rfl⟩
      | succ m=>unfold leads at b;rw [hj] at b;simp at b
    · obtain ⟨c1,c2⟩:=tw a hj;refine .inr ⟨hj,c1,c2,fun m e=>?_⟩;subst e;unfold leads at b;rw [c1] at b;simp only [Bool.or_eq_false_iff,PX] at b;exact b.2
  have r:∀ j,iW t j=true→j ≠ 0→1≤j∧j≤4∧j ≠ k:=fun j hl hj=>by
    obtain ⟨a,b,c⟩:=vU hl;refine ⟨by omega,b,fun e=>?_⟩;rw [e,hk] at c;cases c
  have hk0:k ≠ 0:=fun e=>by rw [e,h0] at hk;cases hk
  rcases key 4 f h h4 with ⟨_,q⟩ | ⟨n0,l0,a0,b0⟩
  · cases q
  rcases key 3 _ a0 (b0 3 rfl) with ⟨_,q⟩ | ⟨n1,l1,a1,b1⟩
  · cases q
  rcases key 2 _ a1 (b1 2 rfl) with ⟨_,q⟩ | ⟨n2,l2,a2,b2⟩
  · cases q
  rcases key 1 _ a2 (b2 1 rfl) with ⟨_,q⟩ | ⟨n3,l3,a3,b3⟩
  · cases q
  have n4:up t (up t (up t (up t f)))=0:=by
    unfold leads at a3;simpa [leads] using a3
  have r0:=r _ l0 n0;have r1:=r _ l1 n1;have r2:=r _ l2 n2;have r3:=r _ l3 n3
  have e01:f ≠ up t f:=fun e=>by rw [← e, ← e, ← e, ← e] at n4;exact n0 n4
  have e12:up t f ≠ up t (up t f):=fun e=>by rw [← e, ← e, ← e] at n4;exact n1 n4
  have e23:up t (up t f) ≠ up t (up t (up t f)):=fun e=>by rw [← e, ← e] at n4;exact n2 n4
  have e02:f ≠ up t (up t f):=fun e=>by rw [← e, ← e] at n4;exact n0 n4
  have e13:up t f ≠ up t (up t (up t f)):=fun e=>by rw [← e] at n4;exact n2 n4
  have e03:f ≠ up t (up t (up t f)):=fun e=>by rw [← e] at n4;exact n1 n4
  generalize up t (up t (up t f))=d at *;generalize up t (up t f)=c at *;generalize up t f=b at *;omega
theorem A1:∀ (l:List Bool) (j k:Nat),um j l=some k→j≤k∧l[k - j]?=some false
  | [],j,k,h=>by simp [um] at h
  | b::l,j,k,h=>by
    unfold um at h;cases b
    · simp only [Bool.false_eq_true,if_false,Option.some.injEq] at h;subst h;simp
    · simp only [if_true] at h;obtain ⟨a,c⟩:=A1 l (j+1) k h;refine ⟨by omega,?_⟩;rw [show k - j=(k - (j+1))+1 by omega,List.getElem?_cons_succ];exact c
theorem MK {t:List im} {f:Int} {a:ic} (j:Int) (h:(iX t f a).2=true) (h0:0≤j):(nth (iX t f a).1 j).PN=(nth t j).PN∧(nth (iX t f a).1 j).PM=(nth t j).PM:=by
  obtain ⟨h1,h2⟩:=tC h;have hT:=jG.1 h1;obtain ⟨f0,f4⟩:=kM h2;have hl:=hT.len;unfold iX;split
  · split
    · exact uT f0 (by omega) _ h0
    · exact ⟨rfl,rfl⟩
  · exact ⟨rfl,rfl⟩
theorem GY {t:List im} {f:Int} {a:ic} (h:(k6 t f a).2.2=true):TK t (k6 t f a).1:=by
  unfold k6 at h ⊢;cases hp:(iX t f a).2
  case false=>rw [hp] at h;simp at h
  rw [hp] at h;simp only [if_true] at h ⊢
  cases hf:um 0 (t.map im.PN) with
  | none=>rw [hf] at h;simp at h
  | some k =>
    simp only;obtain ⟨tOk,lf⟩:=tC hp;have hT:=jG.1 tOk;obtain ⟨hu,ha,hg⟩:=uW hp;have hpl:=Dn t f a;have hup:=fun j=>MK (t:=t) (f:=f) (a:=a) j hp;generalize (iX t f a).1=u at *;obtain ⟨_,hk⟩:=A1 _ _ _ hf;rw [Nat.sub_zero, ← hpl,List.getElem?_map] at hk;obtain ⟨r,hr,hrl⟩:=Option.map_eq_some_iff.1 hk;have hl:=hu.len;have hk5:k<u.length:=jl hr;have hz:=hu.dead r (List.mem_of_getElem? hr) hrl;have hnk:nth u (k:Int)=r:=tn hr
    have n0:k ≠ 0:=fun e=>by
      subst e;have:=hu.rl;rw [show (0:Int)=((0:Nat):Int) from rfl,hnk,hrl] at this;cases this
    have hn:∀ j:Int,0≤j→nth (u.set k (im.mk true f a)) j=if (k:Int)=j then im.mk true f a else nth u j:=fun j hj=>by
      have:=wJ (t:=u) (i:=(k:Int)) (z:=im.mk true f a) (by omega) (by omega) hj
      rwa [Int.toNat_natCast] at this
    have hts:∀ g:ic→Int,jh g (u.set k (im.mk true f a))=jh g u+g a:=fun g=>by
      rw [xv g u k r _ hr]
      have e1:qh g r=0:=by unfold qh;rw [hrl];rfl
      have e2:qh g (im.mk true f a)=g a:=rfl;rw [e1,e2];omega
    have lst:∀ (n:Nat) (j:Int),leads u n j=true→leads (u.set k (im.mk true f a)) n j=true:=by
      intro n
      induction n with
      | zero=>intro j hj;simp [leads] at hj
      | succ n ih =>
        intro j hj
        by_cases j0:j=0
        · unfold leads;rw [j0];rfl
        · obtain ⟨c1,c2⟩:=tw hj j0;obtain ⟨d0,d4,d5⟩:=vU c1
          have hne:(k:Int) ≠ j:=fun e=>by rw [← e,hnk,hrl] at d5;cases d5
          have e1:nth (u.set k (im.mk true f a)) j=nth u j:=by rw [hn j d0,if_neg hne]
          have e2:up (u.set k (im.mk true f a)) j=up u j:=by unfold up;rw [e1]
          have e3:iW (u.set k (im.mk true f a)) j=true:=by unfold iW at c1 ⊢;rw [e1];exact c1
          unfold leads;rw [e2,e3,ih _ c2];simp
    obtain ⟨f0,f4,fl⟩:=vU lf
    have ful:(nth u f).PN=true:=by rw [(hup f f0).1];exact fl
    have fu5:leads u 5 f=true:=by
      have:=hu.lead f.toNat _ (jM (l:=u) f0 (by omega)) ful
      rwa [Int.toNat_of_nonneg f0] at this
    have fu4:=HL (t:=u) (k:=(k:Int)) (by omega) (by omega) (by rw [hnk];exact hrl) hu.rl fu5;refine Lw hT (by rw [List.length_set];exact hl) ?_ ?_ ?_ ?_ ?_ ?_ ?_ ?_
    · rw [hn 0 (by omega),if_neg (by omega)];exact hu.rl
    · rw [hn 0 (by omega),if_neg (by omega)];exact hu.Bm
    · intro x hx hd
      rcases List.mem_or_eq_of_mem_set hx with q | q
      · exact hu.dead x q hd
      · rw [q] at hd;cases hd
    · intro x hx
      rcases List.mem_or_eq_of_mem_set hx with q | q
      · exact hu.iI x q
      · rw [q];exact ha
    · intro j x hx hxl
      by_cases e:k=j
      · subst e;have e1:=hn (k:Int) (by omega);rw [if_pos rfl] at e1;unfold leads;rw [show up (u.set k (im.mk true f a)) (k:Int)=f from by unfold up;rw [e1],lst 4 f fu4,show iW (u.set k (im.mk true f a)) (k:Int)=true from by unfold iW;rw [e1,iS.2 ⟨by omega,by omega⟩];rfl];simp
      · rw [List.getElem?_set_ne e] at hx;exact lst 5 _ (hu.lead j x hx hxl)
    · rw [hts,hg ic.bh fun _ _=>rfl];omega
    · rw [hts,hg ic.ib fun _ _=>rfl];omega
    · rw [hts,hg ic.ij fun _ _=>rfl];omega
theorem JZ {t:List im} {f g:Int} {a:ic} (h:(l6 t f g a).2=true):TK t (l6 t f g a).1:=by
  unfold l6 at h ⊢;cases hp:(iX t f a).2&&iW t g
  case false=>rw [hp] at h;simp at h
  simp only [if_true];rw [PY] at hp;obtain ⟨tOk,lf⟩:=tC hp.1;have hT:=jG.1 tOk;obtain ⟨hu,ha,hg⟩:=uW hp.1;have g1:=hg ic.bh fun _ _=>rfl;have g2:=hg ic.ib fun _ _=>rfl;have g3:=hg ic.ij fun _ _=>rfl;obtain ⟨t1,t2,t3⟩:=hT.jh;have hS:=jd.1 hT.sum;obtain ⟨_,b2,b3,b4,b5⟩:=yS hu g ha (by omega) (by omega) (by omega);exact ⟨b2,by omega,by omega,by omega⟩
theorem Gb {g:ic→Int} {f:im→im} (h:∀ r,(f r).PN=r.PN∧(f r).iI=r.iI):∀ t:List im,jh g (t.map f)=jh g t
  | []=>rfl
  | r::t=>by
    show (if (f r).PN then g (f r).iI else 0)+jh g (t.map f)=(if r.PN then g r.iI else 0)+jh g t
    rw [(h r).1,(h r).2,Gb h t]
theorem Dd (i u:Int) (r:im):(l8 i u r).PN=r.PN∧(l8 i u r).iI=r.iI:=by
  unfold l8;split<;>exact ⟨rfl,rfl⟩
theorem Ir {t:List im} {i:Int} (h:(l7 t i).2=true):TK t (l7 t i).1:=by
  unfold l7 at h ⊢;cases hc:(kj t&&iW t i)&&(i != 0)
  case false=>rw [hc] at h;simp at h
  simp only [if_true];simp only [PY,bne_iff_ne] at hc;obtain ⟨⟨tOk,li⟩,i0⟩:=hc;have hT:=jG.1 tOk;have hl:=hT.len;obtain ⟨a0,a4,al⟩:=vU li
  have lead5:leads t 5 i=true:=by
    have:=hT.lead i.toNat _ (jM (l:=t) a0 (by omega)) al
    rwa [Int.toNat_of_nonneg a0] at this
  have hne:up t i ≠ i:=fun e=>by rw [Bb i0 e 5] at lead5;cases lead5
  have lu:iW t (up t i)=true:=by
    by_cases e:up t i=0
    · rw [e];unfold iW;rw [hT.rl];rfl
    · exact (tw (tw lead5 i0).2 e).1
  obtain ⟨u0,u4,ul⟩:=vU lu;have hfit:=Gx hT ⟨u0,u4⟩ ⟨a0,a4⟩ hne ul al
  have hW:iU (iV (nth t (up t i)).iI (nth t i).iI)=true:=by
    unfold kv at hfit;split at hfit
    · rename_i q;simp only [PY] at q;exact q.2
    · simp at hfit
  unfold dropped;generalize hu:up t i=u at *;generalize hw:mg (nth t u) (iV (nth t u).iI (nth t i).iI)=W
  have Wl:W.PN=true:=by rw [← hw];exact ul
  have Wp:W.PM=(nth t u).PM:=by rw [← hw];rfl
  have Wb:W.iI=iV (nth t u).iI (nth t i).iI:=by rw [← hw];rfl
  have hn:∀ j:Int,0≤j→j≤4→nth (((t.set u.toNat W).set i.toNat oo).map (l8 i u)) j=l8 i u (if i=j then oo else if u=j then W else nth t j):=fun j j0 j4=>by
    have e1:=wJ (t:=t.set u.toNat W) (i:=i) (z:=oo) a0 (by rw [List.length_set];omega) j0;have e2:=wJ (t:=t) (i:=u) (z:=W) u0 (by omega) j0;rw [e2] at e1;rw [← e1]
    have hlen:j<((((t.set u.toNat W).set i.toNat oo)).length:Int):=by simp only [List.length_set];omega
    have g:=jM (l:=(t.set u.toNat W).set i.toNat oo) j0 hlen
    have:(((t.set u.toNat W).set i.toNat oo).map (l8 i u))[j.toNat]?=some (l8 i u (nth ((t.set u.toNat W).set i.toNat oo) j)):=by rw [List.getElem?_map,g];rfl
    have:=tn this
    rwa [Int.toNat_of_nonneg j0] at this
  generalize hTT:((t.set u.toNat W).set i.toNat oo).map (l8 i u)=T at *
  have hTl:T.length=5:=by rw [← hTT];simp only [List.length_map,List.length_set];exact hl
  have hni:nth T i=oo:=by rw [hn i a0 a4,if_pos rfl];unfold l8 oo;rfl
  have hnl:∀ j:Int,0≤j→j≤4→i ≠ j→(nth T j).PN=(nth t j).PN:=fun j j0 j4 e=>by
    rw [hn j j0 j4,if_neg e,(Dd i u _).1];split
    · rename_i q;subst q;rw [Wl,ul]
    · rfl
  have hnp:∀ j:Int,0≤j→j≤4→i ≠ j→(nth t j).PN=true→(nth T j).PM=if (nth t j).PM=i then u else (nth t j).PM:=fun j j0 j4 e hv=>by
    rw [hn j j0 j4,if_neg e]
    have key:∀ x:im,x.PN=true→(l8 i u x).PM=if x.PM=i then u else x.PM:=fun x hx=>by
      unfold l8
      by_cases q:x.PM=i
      · rw [if_pos q,hx,if_pos (by simpa using q)]
      · rw [if_neg q,hx,if_neg (by simpa using q)]
    split
    · rename_i q;subst q;rw [key W Wl,Wp]
    · exact key _ hv
  have lst:∀ (n:Nat) (j:Int),j ≠ i→leads t n j=true→leads T n j=true:=by
    intro n
    induction n using Nat.strongRecOn with
    | _ n ih =>
      intro j hj hL
      cases n with
      | zero=>simp [leads] at hL
      | succ n =>
        by_cases j0:j=0
        · unfold leads;rw [j0];rfl
        obtain ⟨c1,c2⟩:=tw hL j0;obtain ⟨d0,d4,d5⟩:=vU c1
        have e3:iW T j=true:=by unfold iW;rw [hnl j d0 d4 (Ne.symm hj),d5,iS.2 ⟨d0,d4⟩];rfl
        have e2:=hnp j d0 d4 (Ne.symm hj) d5
        have goal:leads T n (nth T j).PM=true:=by
          by_cases q:(nth t j).PM=i
          · rw [e2,if_pos q]
            have c3:leads t n i=true:=by rw [← q];exact c2
            cases n with
            | zero=>simp [leads] at c3
            | succ m =>
              have c4:=(tw c3 i0).2;rw [hu] at c4;exact AK m u (ih m (by omega) u hne c4)
          · rw [e2,if_neg q];exact ih n (by omega) _ q c2
        unfold leads;rw [e3,show up T j=(nth T j).PM from rfl,goal];simp
  have hidx:∀ (k:Nat) (x:im),T[k]?=some x→k<5∧x=nth T (k:Int):=fun k x hx=>⟨by have:=jl hx;omega,(tn hx).symm⟩;have hgu:=jM (l:=t) u0 (by omega)
  have hgi:(t.set u.toNat W)[i.toNat]?=some (nth t i):=by rw [List.getElem?_set_ne (by omega)];exact jM a0 (by omega)
  have hts:∀ g:ic→Int,g W.iI=g (nth t u).iI+g (nth t i).iI→jh g T=jh g t:=fun g hg=>by
    rw [← hTT,Gb (Dd i u),xv g _ _ _ _ hgi,xv g _ _ _ _ hgu];have e1:qh g (nth t u)=g (nth t u).iI:=if_pos ul;have e2:qh g (nth t i)=g (nth t i).iI:=if_pos al;have e3:qh g W=g W.iI:=if_pos Wl;have e4:qh g oo=0:=rfl;rw [e1,e2,e3,e4,hg];omega
  have bu:=jd.1 (hT.iI _ (lh u0 (by omega)));have bi:=jd.1 (hT.iI _ (lh a0 (by omega)));refine Lw hT hTl ?_ ?_ ?_ ?_ ?_ ?_ ?_ ?_
  · rw [hnl 0 (by omega) (by omega) i0];exact hT.rl
  · rw [hnp 0 (by omega) (by omega) i0 hT.rl,hT.Bm,if_neg (by omega)]
  · intro x hx hd;obtain ⟨k,hk⟩:=List.getElem?_of_mem hx;obtain ⟨k5,e⟩:=hidx k x hk;rw [e] at hd ⊢
    by_cases q:i=(k:Int)
    · rw [← q,hni]
    · have hd':=hd;rw [hnl _ (by omega) (by omega) q] at hd';have hz:=hT.dead _ (lh (l:=t) (i:=(k:Int)) (by omega) (by omega)) hd';rw [hn _ (by omega) (by omega),if_neg q,if_neg (fun e=>by rw [← e,ul] at hd';cases hd'),hz];rfl
  · intro x hx;obtain ⟨k,hk⟩:=List.getElem?_of_mem hx;obtain ⟨k5,e⟩:=hidx k x hk;rw [e,hn _ (by omega) (by omega),(Dd i u _).2];split
    · exact El
    · split
      · rw [Wb];exact hW
      · exact hT.iI _ (lh (by omega) (by omega))
  · intro k x hk hxl;obtain ⟨k5,e⟩:=hidx k x hk;rw [e] at hxl
    have q:(k:Int) ≠ i:=fun q=>by rw [q,hni] at hxl;cases hxl
    rw [hnl _ (by omega) (by omega) (Ne.symm q)] at hxl;exact lst 5 _ q (hT.lead k _ (jM (l:=t) (i:=(k:Int)) (by omega) (by omega)) hxl)
  · refine hts _ ?_;rw [Wb];exact iE (by omega) (by omega)
  · refine hts _ ?_;rw [Wb];exact iE (by omega) (by omega)
  · refine hts _ ?_;rw [Wb];exact iE (by omega) (by omega)
end Go.Kx
namespace Go.Kx
open Go
set_option linter.unusedVariables false
set_option linter.unusedSimpArgs false
set_option maxRecDepth 10000
structure Bq (b:ku):Prop where
  ok:BV b=true
  sz:lL b≤1000
  pg:0≤b.kh.bh∧b.kh.bh≤1000
  rt:0≤b.kh.ib∧b.kh.ib≤1000
  cp:0≤b.kh.ij∧b.kh.ij≤1000
theorem Bq.Pj {l:List Int} {o:List Int} {b:ku} (h:Bq b) (hl:jH ⟨l⟩=true) (ho:mQ o=true) (h5:o.length≤100):Bq ⟨⟨l⟩,o,b.kh⟩:=by
  have h4:=uA hl;have h4:l.length=4:=h4;refine ⟨?_,?_,h.pg,h.rt,h.cp⟩
  · have:=h.ok;unfold BV at *;simp only [PY] at *;exact ⟨this.1,hl,ho⟩
  · unfold lL m6;simp only [h4];omega
theorem kK {k:Int} (h0:0≤k) (h4:k<4):mQ [k]=true:=by
  have:k=0∨k=1∨k=2∨k=3:=by omega
  rcases this with rfl | rfl | rfl | rfl<;>decide
theorem IZ {l:List Int} (h:jH ⟨l⟩=true) {k:Nat} {y:Int} (h0:0≤y) (h3:y≤3):jH ⟨l.set k y⟩=true:=by
  unfold jH at *;simp only [PY,List.length_set,List.all_eq_true,iS] at *;refine ⟨h.1,fun z hz=>?_⟩
  rcases List.mem_or_eq_of_mem_set hz with q | rfl
  · exact h.2 z q
  · exact ⟨h0,h3⟩
theorem KR {l:List Int} (h:jH ⟨l⟩=true) {y:Int} (hy:y ∈ l):0≤y∧y≤3:=by
  unfold jH at h;simp only [PY,List.all_eq_true,iS] at h;exact h.2 y hy
theorem Kd {N:Nat} (hN:ir≤N) {b:List U8} {i h:Int} (hb:b.length≤1048576) (hi:0≤i):WD (sR N ⟨b,i,h⟩) (fun r=>0≤r.2.i∧1≤r.1.length∧r.1.length≤3∧∀ x,x ∈ r.1→Bq x):=by
  unfold sR;dsimp only;have hB:(16777216:Nat)=ir:=rfl;refine WD.bind (iT hb hi 3 (by decide)) fun n ⟨n1,n2,n3⟩=>?_;rw [iE (n:=1+n.1) (by omega) (by omega)];refine WD.bind (WD.loop (fun s=>0≤s.2.1∧(s.1.length:Int)+s.2.1=1+n.1∧0≤s.2.2.1∧jH ⟨s.2.2.2.2⟩=true∧∀ x,x ∈ s.1→Bq x) (fun r=>1≤r.1.length∧r.1.length≤3∧0≤r.2.2.1∧∀ x,x ∈ r.1→Bq x) (fun s=>s.2.1.toNat) ⟨by dsimp only;omega,by simp,n1,show jH ⟨[0,0,0,0]⟩=true by decide,by simp⟩ (sx hN (by dsimp only;omega)) ?_) fun r ⟨r1,r2,r3,r4⟩=>WD.ret ⟨r3,r1,r2,r4⟩;rintro ⟨l,k,i,h,lab⟩ ⟨s1,s2,s3,s4,s5⟩;dsimp only at *;refine WD.ite (fun c=>?_) (fun c=>WD.inr ?_)
  · have c:=of_decide_eq_true c;rw [iE (n:=k - 1) (by omega) (by omega)];refine WD.bind (Gi hN hb s3) fun q ⟨q1,q2,q3,q4,q5,q6⟩=>?_;have hq:Bq q.1:=⟨q2,Nat.le_trans q3 (by decide),q4,q5,q6⟩
    have hq2:jH ⟨q.1.PB.PA⟩=true∧mQ q.1.own=true:=by
      have:=q2;unfold BV at this;simp only [PY] at this;exact this.2
    have hlab:lab.length=4:=uA s4;refine WD.bind (mh hb q1 3) fun y y1=>WD.bind (P:=fun (j:(List Int)×(List Int))=>jH ⟨j.2⟩=true) (WD.ite (fun _=>WD.step (jT (by omega)) (WD.ret s4)) fun _=>WD.ret hq2.1) fun j j1=>?_;have hj4:j.2.length=4:=uA j1;refine WD.bind (mh hb y1 2) fun z z1=>WD.bind (P:=fun (m:Int×Int×(List Int))=>0≤m.1∧jH ⟨m.2.2⟩=true) (WD.ite (fun _=>?_) fun _=>WD.ret ⟨z1,j1⟩) fun m ⟨m1,m2⟩=>?_
    · refine WD.bind (iT hb z1 4 (by decide)) fun u ⟨u1,u2,u3⟩=>WD.step (jT (by omega)) (WD.bind (ly u2 (by omega)) fun v hv=>WD.step rfl (WD.ret ⟨u1,?_⟩));have:=KR j1 hv;rw [iE (n:=v+1) (by omega) (by omega)];exact IZ j1 (by split<;>omega) (by split<;>omega)
    · refine WD.bind (mh hb m1 6) fun u u1=>WD.bind (P:=fun (m:Int×Int×(List Int))=>0≤m.1∧mQ m.2.2=true∧m.2.2.length≤100) (WD.ite (fun _=>WD.bind (iT hb u1 4 (by decide)) fun v ⟨v1,v2,v3⟩=>WD.ret ⟨v1,kK v2 v3,by simp⟩) fun _=>WD.ret ⟨u1,hq2.2,by unfold lL at q3;dsimp only;omega⟩) fun o ⟨o1,o2,o3⟩=>?_;refine WD.step (vE (by omega)) (WD.inl ⟨by dsimp only;omega,by simp only [List.length_append,List.length_cons,List.length_nil];omega,o1,m2,fun x hx=>?_⟩ (by dsimp only;omega))
      rcases List.mem_append.1 hx with hx | hx
      · exact s5 x hx
      · rw [List.mem_singleton] at hx;rw [hx];exact hq.Pj j1 o2 o3
  · have c:=of_decide_eq_false c;exact ⟨by dsimp only;omega,by dsimp only;omega,s3,s5⟩
theorem Da:∀ (l:List ku) (a:ic) (n:Nat),(∀ x,x ∈ l→Bq x)→l.length≤n→n≤3→(0≤a.bh∧a.bh≤1000 * (3 - (n:Int)))→(0≤a.ib∧a.ib≤1000 * (3 - (n:Int)))→(0≤a.ij∧a.ij≤1000 * (3 - (n:Int)))→uR a l=true
  | [],_,_,_,_,_,_,_,_=>rfl
  | b::l,a,n,h,hl,hn,h1,h2,h3=>by
    have hb:=h b (by simp);have g1:=hb.pg;have g2:=hb.rt;have g3:=hb.cp;simp only [List.length_cons] at hl
    have hadd:kv a b.kh=(⟨a.bh+b.kh.bh,a.ib+b.kh.ib,a.ij+b.kh.ij⟩,true):=by
      have e1:iV a b.kh=⟨a.bh+b.kh.bh,a.ib+b.kh.ib,a.ij+b.kh.ij⟩:=by
        unfold iV;rw [iE (by omega) (by omega),iE (by omega) (by omega),iE (by omega) (by omega)]
      have o1:iU a=true:=jd.2 ⟨by omega,by omega,by omega⟩;have o2:iU b.kh=true:=jd.2 ⟨by omega,by omega,by omega⟩;have o3:iU ⟨a.bh+b.kh.bh,a.ib+b.kh.ib,a.ij+b.kh.ij⟩=true:=jd.2 ⟨by dsimp only;omega,by dsimp only;omega,by dsimp only;omega⟩;unfold kv;simp [o1,o2,e1,o3]
    have hok:=hb.ok;unfold BV at hok;simp only [PY] at hok;unfold uR;rw [hadd];simp only [PX,PY];refine ⟨hok.2.1,hok.2.2,Da l _ (n - 1) (fun x hx=>h x (by simp [hx])) (by omega) (by omega) ?_ ?_ ?_⟩<;>dsimp only<;>omega
theorem MT {b:ku} (h:lL b≤1000):Pw (uZ b):=by
  refine ⟨by rw [xF];omega,fun o ho=>?_⟩
  have:∀ o ∈ C6, -9223372036854775808≤o.PK:=by decide
  exact this o ho
structure Ww (w:iC):Prop where
  len:w.parts.length≤3
  pw:∀ p,p ∈ w.parts→Pw p
theorem Ww.set {w:iC} (h:Ww w) (k:Nat) {p:cd} (hp:Pw p) (n:Int):Ww ⟨n,w.parts.set k p⟩:=by
  refine ⟨by show (w.parts.set k p).length≤3;rw [List.length_set];exact h.len,fun q hq=>?_⟩
  rcases List.mem_or_eq_of_mem_set hq with q1 | rfl
  · exact h.pw q q1
  · exact hp
theorem Ww.sz {w:iC} (h:Ww w):jr iH w.parts≤60003:=by
  have:=ve (f:=iH) (c:=20000) fun y hy=>(h.pw y hy).1;have:=h.len;unfold jr;omega
theorem Ww.oy {w:iC} (h:Ww w):jr iH w.parts<ir:=by
  have:=h.sz;have:(16777216:Nat)=ir:=rfl;omega
theorem Ww.w {w:iC} (h:Ww w):wW w.parts:=fun p hp=>(h.pw p hp).2
theorem Pw.ag {p:cd} (h:Pw p):p.py.ag.length≤1000000:=by
  have h1:=h.1;unfold iH nj jr at h1;omega
theorem Ks {N:Nat} (hN:ir≤N) {b:List U8} {i h:Int} (hb:b.length≤1048576) (hi:0≤i):WD (rv N ⟨b,i,h⟩) (fun r=>0≤r.2.i∧Ww r.1∧1≤r.1.parts.length):=by
  unfold rv;dsimp only;have hB:(16777216:Nat)=ir:=rfl;refine WD.bind (Kd hN hb hi) fun l ⟨l1,l2,l3,l4⟩=>?_
  have hs:jr lL l.1≤1048576:=by
    have:=ve (f:=lL) (c:=1000) fun y hy=>(l4 y hy).sz;unfold jr;omega
  have hok:xi l.1=true:=by
    unfold xi;rw [Da l.1 ⟨0,0,0⟩ 3 l4 l3 (by decide) (by decide) (by decide) (by decide),PX,iS];omega
  refine WD.step (Ho hN hs) ?_;rw [show xN l.1=⟨0,om l.1⟩ from by unfold xN;rw [if_pos hok]]
  have hw:Ww ⟨0,om l.1⟩∧(om l.1).length=l.1.length:=by
    have e:(om l.1).length=l.1.length:=by simp [om]
    refine ⟨⟨by show (om l.1).length≤3;omega,fun p hp=>?_⟩,e⟩;obtain ⟨x,hx,rfl⟩:=List.mem_map.1 (show p ∈ l.1.map _ from hp);have hq:=l4 x hx;rw [show (re x).1=uZ x from by unfold re;rw [if_pos hq.ok]];exact MT hq.sz
  obtain ⟨hw,he⟩:=hw;dsimp only;refine WD.bind (WD.loop (fun s=>Ww ⟨0,s.1⟩∧1≤s.1.length∧0≤s.2.1∧s.2.1≤3∧0≤s.2.2.1) (fun r=>Ww ⟨0,r.1⟩∧1≤r.1.length∧0≤r.2.2.1) (fun s=>(3 - s.2.1).toNat) ⟨hw,by dsimp only;omega,by simp,by simp,l1⟩ (sx hN (by simp)) ?_) fun r ⟨r1,r2,r3⟩=>WD.bind (iT hb r3 6 (by decide)) fun y ⟨y1,_,_⟩=>WD.ret ⟨y1,⟨r1.len,r1.pw⟩,r2⟩;rintro ⟨l,k,i,h⟩ ⟨s1,s2,s3,s4,s5⟩;dsimp only at *;have hl3:l.length≤3:=s1.len;refine WD.ite (fun c=>?_) (fun c=>WD.inr ⟨s1,s2,s5⟩);have c:=of_decide_eq_true c;rw [iE (n:=k+1) (by omega) (by omega)];refine WD.bind (mh hb s5 2) fun y y1=>WD.ite (fun _=>?_) fun _=>WD.inl ⟨s1,s2,by dsimp only;omega,by dsimp only;omega,y1⟩ (by dsimp only;omega);exact WD.bind (LO hN hb y1 k) fun p ⟨p1,p2⟩=>WD.bind (ly s3 c) fun z _=>WD.step rfl (WD.inl ⟨s1.set _ (p2.pw (by decide)) 0,by simp only [List.length_set];exact s2,by dsimp only;omega,by dsimp only;omega,p1⟩ (by dsimp only;omega))
theorem ED {N:Nat} (hN:ir≤N) {b:List U8} {i h:Int} (hb:b.length≤1048576) (hi:0≤i):WD (uI N ⟨b,i,h⟩) (fun r=>0≤r.2.i∧Ww r.1):=by
  unfold uI;dsimp only;refine WD.bind (Ks hN hb hi) fun w ⟨w1,w2,w3⟩=>WD.bind (iT hb w1 16 (by decide)) fun m ⟨m1,_,_⟩=>?_;refine WD.bind (P:=fun (j:Int×Int×Int×(List cd))=>0≤j.1∧Ww ⟨j.2.2.1,j.2.2.2⟩) ?_ fun j ⟨j1,j2⟩=>WD.ret ⟨j1,j2⟩;refine WD.ite (fun _=>WD.bind (HV hN hb m1) fun p ⟨p1,p2⟩=>WD.bind (ly (by decide) (by omega)) fun z _=>WD.step rfl (WD.ret ⟨p1,w2.set _ p2.pw _⟩)) fun _=>?_;refine WD.ite (fun _=>WD.bind (lG hb m1 (by decide)) fun y ⟨y1,_⟩=>WD.ret ⟨y1,w2.len,w2.pw⟩) fun _=>?_;refine WD.ite (fun _=>WD.ret ⟨m1,by simp,by simp⟩) fun _=>?_;refine WD.ite (fun _=>WD.bind (ly (by decide) (by omega)) fun z hz=>WD.step rfl (WD.ret ⟨m1,w2.set (0:Int).toNat (p:=cd.mk z.PB z.own z.PC z.py z.ia z.PJ z.PI (ic.mk z.hY.bh 1000000 z.hY.ij) z.ik z.PH) (w2.pw z hz) _⟩)) fun _=>WD.ret ⟨m1,w2⟩
theorem zW {N:Nat} (hN:ir≤N) {l:List U8} (hl:l.length≤1048576):WD (nQ N l) (fun r=>Ww r.1):=by
  unfold nQ;refine WD.bind (M1 hN hl) fun c c1=>WD.bind (ED hN hl c1) fun w ⟨w1,w2⟩=>WD.ite (fun _=>WD.ret w2) fun c=>?_
  have hn:0<w.1.parts.length:=by
    have:(w.1.parts.length:Int) ≠ 0:=by simpa using c
    omega
  refine WD.bind (iT hl w1 _ (by omega)) fun p ⟨p1,p2,p3⟩=>WD.bind (ly p2 p3) fun q hq=>WD.bind (GA hN hl p1 (w2.pw q hq).ag _) fun x x1=>WD.bind (iT hl x1 _ (by omega)) fun k ⟨k1,k2,k3⟩=>WD.bind (mh hl k1 2) fun y y1=>?_;refine WD.bind (P:=fun (j:Int×Int×Int×Int×Int×Int×Int×Int)=>0≤j.1) (WD.ite (fun _=>?_) fun _=>WD.ret y1) fun j j1=>?_
  · refine WD.bind (lG hl y1 (by decide)) fun z ⟨z1,_⟩=>WD.bind (ly k2 k3) fun u hu=>WD.bind (HW hN hl z1 (w2.pw u hu).ag _ _) fun v v1=>?_;refine WD.bind (P:=fun (j:Int×Int×Int×Int)=>0≤j.1) (WD.ite (fun _=>WD.bind (HW hN hl v1 (w2.pw u hu).ag _ _) fun m m1=>WD.bind (iT hl m1 20 (by decide)) fun n ⟨n1,_,_⟩=>WD.ret n1) fun _=>WD.ret v1) fun j j1=>?_;exact WD.ite (fun _=>WD.bind (iT hl j1 2 (by decide)) fun a ⟨a1,_,_⟩=>WD.bind (iT hl a1 3 (by decide)) fun b ⟨b1,_,_⟩=>WD.bind (iT hl b1 3 (by decide)) fun c ⟨c1,_,_⟩=>WD.bind (iT hl c1 2 (by decide)) fun d ⟨d1,_,_⟩=>WD.bind (iT hl d1 20 (by decide)) fun e ⟨e1,_,_⟩=>WD.ret e1) fun _=>WD.ret j1
  · exact WD.bind (mh hl j1 15) fun y y1=>WD.bind (P:=fun _=>True) (WD.ite (fun _=>WD.bind (lG hl y1 (by decide)) fun z _=>WD.ret trivial) fun _=>WD.ret trivial) fun m _=>WD.ret w2
end Go.Kx
namespace Go.Kx
open Go
set_option linter.unusedVariables false
set_option linter.unusedSimpArgs false
set_option maxRecDepth 10000
theorem LA {p q:cd} (hp:iO p=true) (hq:iO q=true) (h:kW q=kW p):sp q=sp p:=by
  rw [← (zf hp).1, ← (zf hq).1,h]
theorem I1 {o:gE} (h:ja o=true) (hk:(o.Pz==0)=false) {t:Int} (h0:0≤t) (h1:t≤1000000):ja (AX o t)=true :=
  o9 h hk rfl rfl (mJ h (yy hk)).1 rfl (iS.2 ⟨h0,h1⟩) rfl (show lH o=true from np h hk) rfl rfl rfl
theorem J0 {p:cd} (h:iO p=true) (now:Int):iO (mX p now)=true∧sp (mX p now)=sp p:=by
  unfold mX;split
  · rename_i c;simp only [PY,iS] at c;have ar:=kf h
    have key:Ar (sP p now)∧kQ (sP p now)=kQ p.py.ag:=by
      unfold sP;cases v:decide (uq p now ≥ 0)
      · exact ⟨ar,rfl⟩
      · simp only [if_true];have hv:=Bg v;obtain ⟨v0,v9⟩:=tY hv;have hk:=(An hv).1
        have hk0:((nth p.py.ag (uq p now)).Pz==0)=false:=by rw [hk];rfl
        refine ⟨ar.swap v0 v9 rfl rfl rfl (fun e=>?_) (I1 (ar.ok _ (ar.at v0 v9).2) hk0 ?_ ?_),?_⟩
        · rw [e,ar.uC] at hk;exact absurd hk (by decide)
        · rw [iE (by omega) (by omega)];omega
        · rw [iE (by omega) (by omega)];omega
        · rw [tG v0 (by have:=ar.len;omega)]
          show _ - _+(nth p.py.ag (uq p now)).bh=_
          omega
    refine ⟨?_,?_⟩
    · have hA:=j7.2 key.1;unfold iO kB rq at *;simp only [PY] at h ⊢;obtain ⟨a,b,c,⟨_,d⟩,e,f,g1,g2,g3,g4,g5⟩:=h;exact ⟨a,b,c,⟨hA,d⟩,e,f,g1,g2,g3,by decide,g5⟩
    · unfold sp;dsimp only;rw [key.2]
  · exact ⟨h,rfl⟩
theorem JH {p:cd} (h:iO p=true) (me now:Int):iO (ng p me now)=true∧sp (ng p me now)=sp p:=by
  unfold ng;split
  · exact ⟨LB h me now,LA h (LB h me now) (Nu h me now)⟩
  · exact ⟨h,rfl⟩
theorem KP {p:cd} (h:iO p=true) (now:Int):iO (mZ p now).1=true∧sp (mZ p now).1=sp p∧(mZ p now).1.PI=0:=by
  cases hr:sg p now
  · rw [IA h hr];exact ⟨Bf h hr,LA h (Bf h hr) (F5 h hr),rfl⟩
  · have e:mZ p now=(cd.mk p.PB p.own p.PC p.py p.ia p.PJ 0 p.hY p.ik p.PH, -1):=by
      unfold mZ;rw [if_pos h,hr];rfl
    rw [e];refine ⟨?_,rfl,rfl⟩;unfold iO rq at *;simp only [PY] at h ⊢;obtain ⟨a,b,c,d,e,f,g1,g2,g3⟩:=h;exact ⟨a,b,c,d,e,f,g1,show iA 0 0 10=true by decide,g3⟩
structure o8 (p q:cd):Prop where
  PB:q.PB=p.PB
  own:q.own=p.own
  PH:q.PH=p.PH
theorem o8.refl (p:cd):o8 p p:=⟨rfl,rfl,rfl⟩
theorem o8.trans {p q r:cd} (h:o8 p q) (k:o8 q r):o8 p r:=⟨k.PB.trans h.PB,k.own.trans h.own,k.PH.trans h.PH⟩
theorem Nb (p:cd) (now:Int):o8 p (mX p now):=by unfold mX;split<;>exact ⟨rfl,rfl,rfl⟩
theorem ML (p:cd) (me now:Int):o8 p (ng p me now):=by unfold ng;split<;>exact ⟨rfl,rfl,rfl⟩
theorem Jn (p:cd) (now n:Int):o8 p (mN p now n).1:=by unfold mN;split<;>exact ⟨rfl,rfl,rfl⟩
theorem N4 (p:cd) (now:Int):o8 p (mZ p now).1:=by
  unfold mZ;split
  · split<;>exact ⟨rfl,rfl,rfl⟩
  · exact ⟨rfl,rfl,rfl⟩
theorem CU {n:Nat} {p:cd} (h:iO p=true) (hw:wP p) (hs:(sp p).bh≤1000000) (i now:Int):iO (mT n p i now)=true∧sp (mT n p i now)=sp p∧o8 p (mT n p i now)∧(Int.tmod now (n:Int)=i→(mT n p i now).PI=0):=by
  obtain ⟨k1,k2⟩:=J0 h now;obtain ⟨w1,w2⟩:=JH k1 i now;have e:sp (ng (mX p now) i now)=sp p:=w2.trans k2;obtain ⟨c1,c2⟩:=DH w1 (IH (I4 hw now) i now) (by rw [e];exact hs) now 3;have kk:o8 p (tM p i now):=((Nb p now).trans (ML _ i now)).trans (Jn _ now 3);have m1:iO (tM p i now)=true:=c1;have m2:sp (tM p i now)=sp p:=c2.trans e;unfold mT;cases hc:Int.tmod now (n:Int)==i
  · exact ⟨m1,m2,kk,fun q=>by rw [q] at hc;simp at hc⟩
  · obtain ⟨r1,r2,r3⟩:=KP m1 now;exact ⟨r1,r2.trans m2,kk.trans (N4 _ now),fun _=>r3⟩
def nK (f:ic→Int):List (List im)→Int
  | []=>0
  | t::l=>jh f t+nK f l
theorem z8 (f:ic→Int):∀ (l:List (List im)) (k:Nat) (y z:List im),l[k]?=some y→nK f (l.set k z)=nK f l - jh f y+jh f z
  | [],k,y,z,h=>by simp at h
  | x::l,0,y,z,h=>by
    simp at h;subst h
    show jh f z+nK f l=(jh f x+nK f l) - jh f x+jh f z
    omega
  | x::l,k+1,y,z,h=>by
    show jh f x+nK f (l.set k z)=jh f x+nK f l - jh f y+jh f z
    rw [z8 f l k y z (by simpa using h)];omega
theorem Ny {ts:List ky} {p:Int} (h0:0≤p) (h1:p<(ts.length:Int)):(kF ts)[p.toNat]?=some (nth ts p).list:=by
  unfold kF;rw [List.getElem?_map,jM h0 h1];rfl
theorem NQ {ts:List ky} (k:Nat) (t:List im):kF (ts.set k (ky.mk t))=(kF ts).set k t:=by
  unfold kF;rw [List.map_set]
theorem Ko {ts:List ky} {i j:Int} {z:ky} (h0:0≤i) (h1:i<(ts.length:Int)) (hj:0≤j):nth (ts.set i.toNat z) j=if i=j then z else nth ts j:=by
  unfold nth
  by_cases e:i=j
  · subst e;rw [if_pos rfl,List.getElem?_set_self (by omega)];rfl
  · rw [if_neg e,List.getElem?_set_ne (by omega)]
structure Tk (ts us:List ky):Prop where
  ok:pC us=true
  pg:nK ic.bh (kF us)=nK ic.bh (kF ts)
  rt:nK ic.ib (kF us)=nK ic.ib (kF ts)
  cp:nK ic.ij (kF us)=nK ic.ij (kF ts)
theorem J4 {ts:List ky} (h:pC ts=true) (p:Int) (t:iZ):Tk ts (vT ts p t).1:=by
  unfold vT;split
  · rename_i c;rw [PY] at c;obtain ⟨c1,c2⟩:=c;obtain ⟨_,_,⟨p0,p1⟩,⟨q0,q1⟩,_⟩:=xP c1;obtain ⟨k1,k2,k3⟩:=uW (M0 c1);have e1:=k3 ic.bh fun _ _=>rfl;have e2:=k3 ic.ib fun _ _=>rfl;have e3:=k3 ic.ij fun _ _=>rfl;unfold qS at c2;have hpl:=Dp ts p t;have hpt:mM ts p t=ts.set p.toNat (ky.mk (iX (nth ts p).list t.res (lF t.kT (xc ts p t))).1):=rfl
    have hq:kj (nth (mM ts p t) t.km).list=true:=by
      rw [hpt,Ko p0 p1 q0];split
      · exact jG.2 k1
      · exact GN h q0 q1
    have hT:=jG.1 hq;obtain ⟨t1,t2,t3⟩:=hT.jh;have hS:=jd.1 hT.sum;rw [t1,t2,t3] at hS;have ha:=jd.1 k2
    have hts:ka (nth (mM ts p t) t.km).list=⟨jh ic.bh (nth (mM ts p t) t.km).list,jh ic.ib (nth (mM ts p t) t.km).list,jh ic.ij (nth (mM ts p t) t.km).list⟩:=by
      unfold ka;rw [if_pos hq, ← t1, ← t2, ← t3]
    have hfit:jh ic.bh (nth (mM ts p t) t.km).list+(lF t.kT (xc ts p t)).bh≤1000000∧jh ic.ib (nth (mM ts p t) t.km).list+(lF t.kT (xc ts p t)).ib≤1000000∧jh ic.ij (nth (mM ts p t) t.km).list+(lF t.kT (xc ts p t)).ij≤1000000:=by
      unfold ma at c2;rw [hq,k2,hts] at c2;simp only [PX] at c2;split at c2
      · rename_i ok;have:=jd.1 ok;unfold iV at this;dsimp only at this;rw [iE (by omega) (by omega),iE (by omega) (by omega),iE (by omega) (by omega)] at this;omega
      · cases c2
    obtain ⟨_,b1,b2,b3,b4⟩:=yS hT t.nu k2 hfit.1 hfit.2.1 hfit.2.2
    have hne:t.km<((mM ts p t).length:Int):=by rw [hpl];exact q1
    have tt:∀ f:ic→Int,nK f (kF ((mM ts p t).set t.km.toNat (ky.mk (qS ts p t).1)))=nK f (kF ts) - jh f (nth ts p).list+jh f (iX (nth ts p).list t.res (lF t.kT (xc ts p t))).1 - jh f (nth (mM ts p t) t.km).list+jh f (qS ts p t).1:=fun f=>by
      rw [NQ,z8 f _ _ _ _ (Ny q0 hne),hpt,NQ,z8 f _ _ _ _ (Ny p0 p1)]
    refine ⟨?_,?_,?_,?_⟩
    · unfold pC at h ⊢;rw [List.all_eq_true] at h ⊢;intro y hy
      rcases List.mem_or_eq_of_mem_set hy with q | rfl
      · rcases List.mem_or_eq_of_mem_set (show y ∈ ts.set _ _ from q) with q | rfl
        · exact h y q
        · exact jG.2 k1
      · exact jG.2 b1
    · dsimp only;rw [tt,show jh ic.bh (qS ts p t).1=_ from b2];omega
    · dsimp only;rw [tt,show jh ic.ib (qS ts p t).1=_ from b3];omega
    · dsimp only;rw [tt,show jh ic.ij (qS ts p t).1=_ from b4];omega
  · exact ⟨h,rfl,rfl,rfl⟩
theorem zF (p:Int):∀ (ia:List iZ) (ts:List ky),pC ts=true→Tk ts (uP ts p ia)
  | [],ts,h=>⟨h,rfl,rfl,rfl⟩
  | t::ia,ts,h=>by
    have a:=J4 h p t;have b:=zF p ia _ a.ok;exact ⟨b.ok,b.pg.trans a.pg,b.rt.trans a.rt,b.cp.trans a.cp⟩
def lr:List cd→ic
  | []=>⟨0,0,0⟩
  | p::l=>⟨(sp p).bh+(lr l).bh,(sp p).ib+(lr l).ib,(sp p).ij+(lr l).ij⟩
theorem DK:∀ (l:List cd) (s:ic) (n:Nat),(∀ p,p ∈ l→iO p=true)→l.length≤n→n≤3→vH s (3000000 * (3 - (n:Int))) →
    pX s l=⟨s.bh+(lr l).bh,s.ib+(lr l).ib,s.ij+(lr l).ij⟩∧(0≤(lr l).bh∧0≤(lr l).ib∧0≤(lr l).ij)
  | [],s,n,_,_,_,_=>by
    refine ⟨?_,by decide⟩
    show s=_
    unfold lr;simp only [Int.add_zero]
  | p::l,s,n,h,hl,hn,hs=>by
    obtain ⟨e,⟨r1,r2,r3⟩,_⟩:=zf (h p (by simp));simp only [List.length_cons] at hl;unfold vH at hs
    have e2:iV s (kW p)=⟨s.bh+(sp p).bh,s.ib+(sp p).ib,s.ij+(sp p).ij⟩:=by
      rw [e];unfold iV;rw [iE (by omega) (by omega),iE (by omega) (by omega),iE (by omega) (by omega)]
    have hb:vH ⟨s.bh+(sp p).bh,s.ib+(sp p).ib,s.ij+(sp p).ij⟩ (3000000 * (3 - ((n - 1:Nat):Int))):=by
      unfold vH;dsimp only;omega
    obtain ⟨a,b⟩:=DK l _ (n - 1) (fun q hq=>h q (by simp [hq])) (by omega) (by omega) hb;have e3:pX s (p::l)=pX (iV s (kW p)) l:=rfl;rw [e3,e2,a];have e4:lr (p::l)=⟨(sp p).bh+(lr l).bh,(sp p).ib+(lr l).ib,(sp p).ij+(lr l).ij⟩:=rfl;rw [e4];dsimp only;refine ⟨by rw [Int.add_assoc,Int.add_assoc,Int.add_assoc],by omega,by omega,by omega⟩
structure Wk (w:iC):Prop where
  PQ:0≤w.PQ∧w.PQ≤1000000
  len:1≤w.parts.length∧w.parts.length≤3
  ok:∀ p,p ∈ w.parts→iO p=true
  sum:iU (lr w.parts)=true
theorem Io {l:List cd} (h:∀ p,p ∈ l→iO p=true) (h3:l.length≤3):pX ⟨0,0,0⟩ l=lr l:=by
  have:=(DK l ⟨0,0,0⟩ 3 h h3 (by decide) (by unfold vH;decide)).1;rw [this];simp only [Int.zero_add]
theorem zy {w:iC}:j8 w=true ↔ Wk w:=by
  unfold j8;simp only [PY,iS,List.all_eq_true];constructor
  · rintro ⟨a,b,c,d⟩;rw [Io c (by omega)] at d;exact ⟨a,by omega,c,d⟩
  · rintro ⟨a,b,c,d⟩;refine ⟨a,by omega,c,?_⟩;rw [Io c b.2];exact d
theorem Iq:∀ (l:List cd),(∀ p,p ∈ l→iO p=true)→(0≤(lr l).bh)∧∀ p,p ∈ l→(sp p).bh≤(lr l).bh
  | [],_=>⟨by decide,fun p hp=>by simp at hp⟩
  | q::l,h=>by
    obtain ⟨_,⟨r1,_,_⟩,_⟩:=zf (h q (by simp));obtain ⟨a,b⟩:=Iq l fun p hp=>h p (by simp [hp]);have e:(lr (q::l)).bh=(sp q).bh+(lr l).bh:=rfl;rw [e];refine ⟨by omega,fun p hp=>?_⟩
    rcases List.mem_cons.1 hp with rfl | hp
    · omega
    · have:=b p hp;omega
theorem Bt:∀ (l:List cd) (k:Nat) (y z:cd),l[k]?=some y→sp z=sp y→lr (l.set k z)=lr l
  | [],k,y,z,h,_=>by simp at h
  | x::l,0,y,z,h,e=>by
    simp at h;subst h
    show ic.mk ((sp z).bh+(lr l).bh) _ _=_
    rw [e];rfl
  | x::l,k+1,y,z,h,e=>by
    show ic.mk ((sp x).bh+(lr (l.set k z)).bh) _ _=_
    rw [Bt l k y z (by simpa using h) e];rfl
theorem Oi {p:cd} (h:iO p=true) {t:List im} (ht:kj t=true):iO (oM p t)=true:=by
  unfold iO at h ⊢;simp only [PY] at h ⊢;exact ⟨h.1,h.2.1,ht,h.2.2.2⟩
theorem Gm:∀ (l:List cd) (ts:List (List im)),ts.length=l.length →
    (lr (kg l ts)).bh=(lr l).bh - nK ic.bh (mL l)+nK ic.bh ts∧(lr (kg l ts)).ib=(lr l).ib - nK ic.ib (mL l)+nK ic.ib ts∧(lr (kg l ts)).ij=(lr l).ij - nK ic.ij (mL l)+nK ic.ij ts
  | [],[],_=>by decide
  | [],_::_,h=>by simp at h
  | _::_,[],h=>by simp at h
  | p::l,t::ts,h=>by
    obtain ⟨a,b,c⟩:=Gm l ts (by simpa using h);have e:kg (p::l) (t::ts)=oM p t::kg l ts:=rfl;have e1:∀ f:ic→Int,nK f (mL (p::l))=jh f p.PC+nK f (mL l):=fun f=>rfl;have e2:∀ f:ic→Int,nK f (t::ts)=jh f t+nK f ts:=fun f=>rfl;have e3:∀ q m,lr (q::m)=⟨(sp q).bh+(lr m).bh,(sp q).ib+(lr m).ib,(sp q).ij+(lr m).ij⟩:=fun q m=>rfl;have e4:sp (oM p t)=⟨jh ic.bh t+kQ p.py.ag+p.hY.bh,jh ic.ib t+p.hY.ib,jh ic.ij t+p.hY.ij⟩:=rfl;have e5:sp p=⟨jh ic.bh p.PC+kQ p.py.ag+p.hY.bh,jh ic.ib p.PC+p.hY.ib,jh ic.ij p.PC+p.hY.ij⟩:=rfl;rw [e,e3,e3,e4,e5,e1,e1,e1,e2,e2,e2];dsimp only;omega
theorem IC:∀ (l:List cd) (ts:List (List im)),ts.length=l.length→(kg l ts).length=l.length∧∀ (k:Nat) (q:cd),(kg l ts)[k]?=some q→∃ p t,l[k]?=some p∧t ∈ ts∧q=oM p t
  | [],[],_=>⟨rfl,fun k q h=>by simp [kg] at h⟩
  | [],_::_,h=>by simp at h
  | _::_,[],h=>by simp at h
  | p::l,t::ts,h=>by
    obtain ⟨a,b⟩:=IC l ts (by simpa using h);have e:kg (p::l) (t::ts)=oM p t::kg l ts:=rfl;rw [e];refine ⟨by simp [a],fun k q hq=>?_⟩
    cases k with
    | zero=>simp at hq;exact ⟨p,t,rfl,by simp,hq.symm⟩
    | succ k =>
      obtain ⟨p',t',h1,h2,h3⟩:=b k q (by simpa using hq);exact ⟨p',t',by simpa using h1,by simp [h2],h3⟩
theorem KE (l:List cd):kF (m3 l)=mL l:=by
  unfold kF m3;rw [List.map_map];exact (List.map_congr_left fun _ _=>rfl).trans (List.map_id _)
structure OY (t u:iC):Prop where
  wk:Wk u
  sum:lr u.parts=lr t.parts
  PQ:u.PQ=t.PQ
  len:u.parts.length=t.parts.length
  lO:∀ j,0≤j→j<(t.parts.length:Int)→o8 (nth t.parts j) (nth u.parts j)∧(nth u.parts j).PI=(nth t.parts j).PI
  w:wW t.parts→wW u.parts
theorem Mm {t:iC} (h:Wk t) (k:Int):OY t (jQ t k):=by
  unfold jQ;split
  · have h0:pC (m3 t.parts)=true:=by
      unfold pC;rw [List.all_eq_true];intro y hy;obtain ⟨x,hx,rfl⟩:=List.mem_map.1 (show y ∈ (mL t.parts).map ky.mk from hy);obtain ⟨p,hp,rfl⟩:=List.mem_map.1 (show x ∈ t.parts.map _ from hx);exact kY (h.ok p hp)
    have hk:=zF k (nth t.parts k).ia (m3 t.parts) h0
    have hlen:(kF (uP (m3 t.parts) k (nth t.parts k).ia)).length=t.parts.length:=by
      unfold kF;rw [List.length_map];exact Hm
    generalize hu:kF (uP (m3 t.parts) k (nth t.parts k).ia)=ts at *
    have hts:∀ x,x ∈ ts→kj x=true:=fun x hx=>by
      rw [← hu] at hx;obtain ⟨y,hy,rfl⟩:=List.mem_map.1 (show x ∈ (uP (m3 t.parts) k (nth t.parts k).ia).map _ from hx);have:=hk.ok;unfold pC at this;rw [List.all_eq_true] at this;exact this y hy
    have e1:=hk.pg;have e2:=hk.rt;have e3:=hk.cp;rw [KE,hu] at e1 e2 e3;obtain ⟨s1,s2,s3⟩:=Gm t.parts ts hlen;obtain ⟨l1,l2⟩:=IC t.parts ts hlen
    have hs:lr (kg t.parts ts)=lr t.parts:=by
      generalize lr (kg t.parts ts)=a at *;generalize lr t.parts=b at *;obtain ⟨a1,a2,a3⟩:=a;obtain ⟨b1,b2,b3⟩:=b;dsimp only at *
      have:a1=b1:=by omega
      have:a2=b2:=by omega
      have:a3=b3:=by omega
      subst_vars;rfl
    have hall:∀ q,q ∈ kg t.parts ts→∃ p x,p ∈ t.parts∧x ∈ ts∧q=oM p x:=fun q hq=>by
      obtain ⟨i,hi⟩:=List.getElem?_of_mem hq;obtain ⟨p,x,a,b,c⟩:=l2 i q hi;exact ⟨p,x,List.mem_of_getElem? a,b,c⟩
    refine ⟨⟨h.PQ,by show 1≤(kg t.parts ts).length∧(kg t.parts ts).length≤3;rw [l1];exact h.len,fun q hq=>?_,by show iU (lr (kg t.parts ts))=true;rw [hs];exact h.sum⟩,hs,rfl,l1,fun j j0 j1=>?_,fun hw q hq=>?_⟩
    · obtain ⟨p,x,hp,hx,rfl⟩:=hall q hq;exact Oi (h.ok p hp) (hts x hx)
    · have hg:=jM (l:=kg t.parts ts) j0 (by omega);obtain ⟨p,x,a,b,c⟩:=l2 _ _ hg
      have hp:nth t.parts j=p:=by
        rw [jM j0 j1] at a;exact Option.some.inj a
      rw [hp]
      show o8 p (nth (kg t.parts ts) j)∧(nth (kg t.parts ts) j).PI=p.PI
      rw [c];exact ⟨⟨rfl,rfl,rfl⟩,rfl⟩
    · obtain ⟨p,x,hp,hx,rfl⟩:=hall q hq;exact hw p hp
  · exact ⟨h,rfl,rfl,rfl,fun j _ _=>⟨o8.refl _,rfl⟩,fun h=>h⟩
structure Jt (w:iC) (now:Int) (k:Nat) (t:iC):Prop where
  wk:Wk t
  at_:t.PQ=now
  len:t.parts.length=w.parts.length
  sum:lr t.parts=lr w.parts
  lO:∀ j,0≤j→j<(w.parts.length:Int)→o8 (nth w.parts j) (nth t.parts j)
  PI:∀ j:Nat,j<k→Int.tmod now (w.parts.length:Int)=(j:Int)→(nth t.parts (j:Int)).PI=0
  w:wW t.parts
theorem KF {l:List cd} {i j:Int} {z:cd} (h0:0≤i) (h1:i<(l.length:Int)) (hj:0≤j):nth (l.set i.toNat z) j=if i=j then z else nth l j:=by
  unfold nth
  by_cases e:i=j
  · subst e;rw [if_pos rfl,List.getElem?_set_self (by omega)];rfl
  · rw [if_neg e,List.getElem?_set_ne (by omega)]
theorem GU {n:Nat} {p:cd} (hw:wP p) (hb:iH p≤2000000) (i now:Int):wP (mT n p i now):=(zE (n:=n) hb (Nat.le_refl _) hw i now).2
theorem Jt.step {w:iC} {now:Int} {k:Nat} {t:iC} (h:Jt w now k t) (hk:k<w.parts.length) (hn:w.parts.length≤3) (hsz:∀ p,p ∈ (jQ t (k:Int)).parts→iH p≤2000000):Jt w now (k+1) (zZ w.parts.length k t):=by
  have hT:=Mm h.wk (k:Int);have hlen:=hT.len.trans h.len;have hm:=lh (l:=(jQ t (k:Int)).parts) (i:=(k:Int)) (by omega) (by omega);have hok:=hT.wk.ok _ hm;have hww:=hT.w h.w;have hsum:=jd.1 hT.wk.sum;have hge:=(Iq _ hT.wk.ok).2 _ hm;obtain ⟨a1,a2,a3,a4⟩:=CU (n:=w.parts.length) hok (hww _ hm) (by omega) (k:Int) (jQ t (k:Int)).PQ;have hnow:(jQ t (k:Int)).PQ=now:=hT.PQ.trans h.at_;have hg:=jM (l:=(jQ t (k:Int)).parts) (i:=(k:Int)) (by omega) (by omega);rw [Int.toNat_natCast] at hg;have hs:=Bt _ k _ _ hg a2
  have hset:∀ j,0≤j→nth ((jQ t (k:Int)).parts.set k (mT w.parts.length (nth (jQ t (k:Int)).parts (k:Int)) (k:Int) (jQ t (k:Int)).PQ)) j=if (k:Int)=j then mT w.parts.length (nth (jQ t (k:Int)).parts (k:Int)) (k:Int) (jQ t (k:Int)).PQ else nth (jQ t (k:Int)).parts j:=fun j hj=>by
    have:=KF (l:=(jQ t (k:Int)).parts) (i:=(k:Int)) (z:=mT w.parts.length (nth (jQ t (k:Int)).parts (k:Int)) (k:Int) (jQ t (k:Int)).PQ) (by omega) (by omega) hj
    rwa [Int.toNat_natCast] at this
  unfold zZ;refine ⟨⟨hT.wk.PQ,?_,fun q hq=>?_,?_⟩,hnow,?_,?_,fun j j0 j1=>?_,fun j hj e=>?_,fun q hq=>?_⟩
  · show 1≤(List.set _ _ _).length∧(List.set _ _ _).length≤3
    rw [List.length_set];exact hT.wk.len
  · rcases List.mem_or_eq_of_mem_set (show q ∈ List.set _ _ _ from hq) with q1 | rfl
    · exact hT.wk.ok q q1
    · exact a1
  · show iU (lr (List.set _ _ _))=true
    rw [hs];exact hT.wk.sum
  · show (List.set _ _ _).length=_
    rw [List.length_set];exact hlen
  · show lr (List.set _ _ _)=_
    rw [hs,hT.sum];exact h.sum
  · show o8 (nth w.parts j) (nth (List.set _ _ _) j)
    have b1:=h.lO j j0 j1;have b2:=(hT.lO j j0 (by have:=h.len;omega)).1;rw [hset j j0];split
    · rename_i ej;subst ej;exact (b1.trans b2).trans a3
    · exact b1.trans b2
  · show (nth ((jQ t (k:Int)).parts.set k (mT w.parts.length (nth (jQ t (k:Int)).parts (k:Int)) (k:Int) (jQ t (k:Int)).PQ)) (j:Int)).PI=0
    rw [hset (j:Int) (by omega)];split
    · rename_i ej;exact a4 (by rw [hnow,e];exact ej.symm)
    · rename_i ej
      have hjk:j<k:=by omega
      rw [(hT.lO (j:Int) (by omega) (by have:=h.len;omega)).2];exact h.PI j hjk e
  · rcases List.mem_or_eq_of_mem_set (show q ∈ List.set _ _ _ from hq) with q1 | rfl
    · exact hww q q1
    · exact GU (hww _ hm) (hsz _ hm) _ _
end Go.Kx
