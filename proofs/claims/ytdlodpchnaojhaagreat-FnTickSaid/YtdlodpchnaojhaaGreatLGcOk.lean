/- Plain laws: what collects keeps all right, and all sums. No program in sight. -/
import Derived.Test.YtdlodpchnaojhaaGreatLKeep
namespace Go.Kx
open Go
set_option linter.unusedVariables false
set_option linter.unusedSimpArgs false
set_option maxRecDepth 10000
theorem wS {o z:cd} (h:jt o=true) (hk:(o.kind==0)=false) (e1:z.gen=o.gen) (e2:z.kind=o.kind) (hb:iE z.box (-1) 9=true) (e3:z.res=o.res) (ht:iE z.iU 0 1000000=true) (e4:z.bh=o.bh) (hl:np z=true) (e5:z.wait=o.wait) (e6:z.iW=o.iW) (e7:z.iR=o.iR):jt z=true:=by
  unfold jt at h ⊢
  rw [e1,e2,e3,e4,e5,e6,e7,hk]
  rw [hk] at h
  simp only [cond_false,Bool.and_eq_true] at h ⊢
  obtain ⟨a1,a2,a3,a4,a5,a6,a7,a8⟩:=h
  exact ⟨a1,a2,hb,a4,ht,a6,hl,a8⟩
theorem vD {o:cd} (h:jt o=true) (hk:(o.kind==0)=false):np o=true:=by
  unfold jt at h
  rw [hk] at h
  simp only [cond_false,Bool.and_eq_true] at h
  exact h.2.2.2.2.2.2.1
theorem Ep {o:cd} (hk:(o.kind==0)=false):(o.kind != 0)=true:=by unfold bne;rw [hk];rfl
theorem Ju {o:cd} (h:jt o=true) (hk:(o.kind==0)=false) (b:Bool):jt (marked o b)=true :=
  wS h hk rfl rfl (oN h (Ep hk)).1 rfl (oN h (Ep hk)).2.2.1 rfl (show np o=true from vD h hk) rfl rfl rfl
theorem vP {o:cd} (h:jt o=true) (hk:(o.kind==0)=true):o=blank o.gen:=by
  unfold jt at h
  rw [hk] at h
  simp only [cond_true,Bool.and_eq_true,decide_eq_true_eq] at h
  exact h.2.2
theorem HQ {o:cd} (h:jt o=true):jt (blank o.gen)=true:=by
  unfold jt at h ⊢
  simp only [Bool.and_eq_true] at h
  show (iE o.gen 0 999&&(iE 0 0 4&&decide (blank o.gen=blank o.gen)))=true
  rw [h.1,decide_eq_true rfl]
  rfl
theorem KB {o:cd} (h:jt o=true) (i:Int):jt (oo i o)=true:=by
  unfold oo
  cases hk:o.kind==0
  · simp only [Bool.false_eq_true,if_false]
    have hb:=(oN h (Ep hk))
    refine wS h hk rfl rfl ?_ rfl hb.2.2.1 rfl ?_ rfl rfl rfl
    · show iE (if o.box==i then -1 else o.box) (-1) 9=true
      split
      · decide
      · exact hb.1
    · have hl:=vD h hk
      unfold np at hl ⊢
      simp only [Bool.and_eq_true,List.length_map,List.all_map,List.all_eq_true] at hl ⊢
      refine ⟨fun y hy=>?_,hl.2⟩
      show iE (uo i y) (-1) 9=true
      unfold uo
      split
      · decide
      · exact hl.1 y hy
  · simp only [if_true];exact h
theorem Cm (i:Int) (o:cd):(oo i o).kind=o.kind:=by unfold oo;split <;> rfl
theorem Ge (i:Int) (o:cd):(oo i o).bh=o.bh:=by unfold oo;split <;> rfl
theorem I5 (i:Int) (o:cd):(oo i o).iU=o.iU:=by unfold oo;split <;> rfl
theorem Ar.swap {l:List cd} (h:Ar l) {i:Int} (h0:0≤i) (h9:i≤9) {z:cd} (hk:z.kind=(nth l i).kind) (hb:z.box=(nth l i).box) (hl:z.il=(nth l i).il) (ht:i=0→z.iU=(nth l i).iU) (ok:jt z=true):Ar (l.set i.toNat z):=by
  have h10:=h.len
  have hn:∀ j,0≤j→nth (l.set i.toNat z) j=if i=j then z else nth l j:=fun j hj=>uO h0 (by omega) hj
  have hkind:∀ j,0≤j→(nth (l.set i.toNat z) j).kind=(nth l j).kind:=fun j hj=>by
    rw [hn j hj]
    split
    · rename_i e;rw [← e];exact hk
    · rfl
  have hi:=(h.at h0 h9).2
  refine ⟨by rw [List.length_set];exact h10,by rw [hkind 0 (by omega)];exact h.tO,?_,?_,?_,?_,?_⟩
  · rw [hn 0 (by omega)]
    split
    · rename_i e;rw [hb,e];exact h.Cl
    · exact h.Cl
  · rw [hn 0 (by omega)]
    split
    · rename_i e;rw [ht e,e];exact h.B5
    · exact h.B5
  · intro o ho
    rcases List.mem_or_eq_of_mem_set ho with q | rfl
    · exact h.ok o q
    · exact ok
  · intro o ho y hy y0
    rw [hkind y y0]
    rcases List.mem_or_eq_of_mem_set ho with q | rfl
    · exact h.il o q y hy y0
    · rw [hl] at hy
      exact h.il _ hi y hy y0
  · intro k o hko k0 hne b0
    rw [hkind o.box b0]
    by_cases e:k=i.toNat
    · subst e
      rw [List.getElem?_set_self (by omega)] at hko
      have:z=o:=Option.some.inj hko
      subst this
      have:=h.box i.toNat (nth l i) (ky h0 (by omega)) k0 (by rw [← hk];exact hne) (by rw [← hb];exact b0)
      rwa [hb]
    · rw [List.getElem?_set_ne (Ne.symm e)] at hko
      exact h.box k o hko k0 hne b0
theorem Ar.mark {l:List cd} (h:Ar l) {i:Int} (h0:0≤i) (h9:i≤9) (b:Bool) (hk:b=true→((nth l i).kind==0)=false):Ar (l.set i.toNat (marked (nth l i) b)):=by
  refine h.swap h0 h9 rfl rfl rfl (fun _=>rfl) ?_
  have ho:=h.ok _ (h.at h0 h9).2
  cases hq:(nth l i).kind==0
  · exact Ju ho hq b
  · cases b
    · have e:=vP ho hq
      have:marked (nth l i) false=nth l i:=by rw [e];rfl
      rw [this];exact ho
    · rw [hk rfl] at hq;cases hq
theorem Jl {l:List cd} (f:cd→cd) {j:Int} (h0:0≤j) (h1:j<(l.length:Int)):nth (l.map f) j=f (nth l j):=by
  have:=ky (l:=l) h0 h1
  unfold nth
  rw [List.getElem?_map]
  unfold nth at this
  rw [this]
  rfl
theorem Ar.free {l:List cd} (h:Ar l) {i:Int} (h1:1≤i) (h9:i≤9):Ar ((l.set i.toNat (blank (nth l i).gen)).map (oo i)):=by
  have h10:=h.len
  have hi:=(h.at (i:=i) (by omega) h9).2
  have hn:∀ j,0≤j→j≤9→nth ((l.set i.toNat (blank (nth l i).gen)).map (oo i)) j=oo i (if i=j then blank (nth l i).gen else nth l j):=fun j hj h9=>by
    rw [Jl _ hj (by rw [List.length_set];omega),uO (by omega) (by omega) hj]
  have hkind:∀ j,0≤j→j≤9→j ≠ i→(nth ((l.set i.toNat (blank (nth l i).gen)).map (oo i)) j).kind=(nth l j).kind:=fun j hj h9 hne=>by
    rw [hn j hj h9,if_neg (Ne.symm hne),Cm]
  have hmem:∀ o,o ∈ l.set i.toNat (blank (nth l i).gen)→jt o=true:=fun o ho=>by
    rcases List.mem_or_eq_of_mem_set ho with q | rfl
    · exact h.ok o q
    · exact HQ (h.ok _ hi)
  refine ⟨by rw [List.length_map,List.length_set];exact h10,by rw [hkind 0 (by omega) (by omega) (by omega)];exact h.tO,?_,?_,?_,?_,?_⟩
  · rw [hn 0 (by omega) (by omega),if_neg (by omega)]
    unfold oo
    rw [h.tO]
    show (if (nth l 0).box==i then -1 else (nth l 0).box)=-1
    rw [h.Cl]
    split <;> rfl
  · rw [hn 0 (by omega) (by omega),if_neg (by omega),I5];exact h.B5
  · intro o ho
    obtain ⟨x,hx,rfl⟩:=List.mem_map.1 ho
    exact KB (hmem x hx) i
  · intro o ho y hy y0
    obtain ⟨x,hx,rfl⟩:=List.mem_map.1 ho
    have hok:=hmem x hx
    cases hq:x.kind==0
    · unfold oo at hy
      rw [hq] at hy
      simp only [Bool.false_eq_true,if_false] at hy
      obtain ⟨v,hv,rfl⟩:=List.mem_map.1 hy
      unfold uo at y0 ⊢
      split at y0
      · omega
      · rename_i hne
        have hne:v ≠ i:=by simpa using hne
        have v9:=((pL hok).2 v hv).2
        rw [if_neg (by simpa using hne),hkind v y0 v9 hne]
        rcases List.mem_or_eq_of_mem_set hx with q | q
        · exact h.il x q v hv y0
        · rw [q] at hq;simp [blank] at hq
    · have e:=vP hok hq
      unfold oo at hy
      rw [hq] at hy
      simp only [if_true] at hy
      rw [e] at hy
      simp [blank] at hy
  · intro k o hko k0 hne b0
    rw [List.getElem?_map] at hko
    obtain ⟨x,hx,rfl⟩:=Option.map_eq_some_iff.1 hko
    rw [Cm] at hne
    have hq:(x.kind==0)=false:=by simpa using hne
    have hb:(oo i x).box=if x.box==i then -1 else x.box:=by unfold oo;rw [hq];rfl
    rw [hb] at b0 ⊢
    split at b0
    · omega
    · rename_i hnb
      have hnb:x.box ≠ i:=by simpa using hnb
      rw [if_neg (by simpa using hnb)]
      have hxm:=List.mem_of_getElem? hx
      have b9:=i7.1 (oN (hmem x hxm) (Ep hq)).1
      rw [hkind x.box b0 b9.2 hnb]
      by_cases e:k=i.toNat
      · subst e
        rw [List.getElem?_set_self (by omega)] at hx
        have:=Option.some.inj hx
        rw [← this] at hq
        simp [blank] at hq
      · rw [List.getElem?_set_ne (Ne.symm e)] at hx
        exact h.box k x hx k0 hne b0
structure Hk (h:iA):Prop where
  ar:Ar h.ag
  ph:mW h.gc=true
  rd:0≤h.gc.round∧h.gc.round≤1000000
  gr:∀ y,y ∈ h.gc.ia→0≤y∧y≤9
  nd:h.gc.ia.Nodup
theorem GJ {g:List Int}:allI (qY g) 0 g=true ↔ (∀ y,y ∈ g→0≤y∧y≤9)∧g.Nodup:=by
  rw [mB]
  constructor
  · intro h
    refine ⟨fun y hy=>?_,?_⟩
    · obtain ⟨k,hk⟩:=List.getElem?_of_mem hy
      have:=h k y hk
      unfold qY at this
      simp only [Bool.and_eq_true,i7] at this
      exact this.1
    · refine List.pairwise_iff_getElem.2 fun i j hi hj hij e=>?_
      have:=h j g[j] (List.getElem?_eq_getElem hj)
      unfold qY at this
      simp only [Nat.zero_add,Bool.and_eq_true,Bool.not_eq_true'] at this
      have hm:g[j] ∈ g.take j:=by
        rw [← e]
        exact List.mem_iff_getElem.2 ⟨i,by rw [List.length_take];omega,by rw [List.getElem_take]⟩
      have hc:(g.take j).contains g[j]=true:=by simpa using hm
      rw [this.2] at hc
      cases hc
  · rintro ⟨h1,h2⟩ i y hy
    unfold qY
    simp only [Nat.zero_add,Bool.and_eq_true,Bool.not_eq_true',i7]
    refine ⟨h1 y (List.mem_of_getElem? hy),?_⟩
    cases hc:(g.take i).contains y
    · rfl
    · have hm:y ∈ g.take i:=by simpa using hc
      obtain ⟨j,hj,e⟩:=List.mem_iff_getElem.1 hm
      rw [List.length_take] at hj
      rw [List.getElem_take] at e
      have hi:=jv hy
      have:=List.pairwise_iff_getElem.1 h2 j i (by omega) hi (by omega)
      rw [List.getElem?_eq_getElem hi] at hy
      exact absurd (e.trans (Option.some.inj hy).symm) this
theorem rl {h:iA}:ku h=true ↔ Hk h:=by
  unfold ku
  simp only [Bool.and_eq_true,GJ,i7,kf]
  exact ⟨fun ⟨a,b,c,d,e⟩=>⟨a,b,c,d,e⟩,fun q=>⟨q.ar,q.ph,q.rd,q.gr,q.nd⟩⟩
theorem vi (h:iA):∀ y,y ∈ mo h→y ∈ h.gc.ia:=fun y hy=>List.mem_of_mem_take hy
theorem vH {h:iA} (q:h.gc.ia.Nodup):(mo h).Nodup:=List.Sublist.nodup (List.take_sublist _ _) q
theorem Hk.LY {h:iA} (q:Hk h) {ph:h.gc.phase=0} (g:List Int):mW (ks.mk h.gc.phase h.gc.pos h.gc.round g)=true:=by
  have hph:=q.ph
  unfold mW at hph ⊢
  simp only [Bool.or_eq_true,Bool.and_eq_true,beq_iff_eq] at hph ⊢
  rcases hph with e | e
  · exact .inl e
  · rw [ph] at e;exact absurd e.1 (by decide)
theorem Hk.lT {h:iA} (q:Hk h) {k:Int} (k0:0≤k) (k9:k≤9):Hk (lT h k):=by
  unfold Kx.lT
  split
  · rename_i c
    simp only [Bool.and_eq_true,bne_iff_ne,ne_eq] at c
    refine ⟨q.ar.mark k0 k9 true fun _=>by simpa using c.2.1,q.LY (ph:=by simpa using c.1) _,q.rd,?_,?_⟩
    · intro y hy
      simp only at hy
      split at hy
      · exact q.gr y hy
      · rcases List.mem_append.1 hy with e | e
        · exact q.gr y e
        · rw [List.mem_singleton] at e;subst e;exact ⟨k0,k9⟩
    · simp only
      split
      · exact q.nd
      · rename_i hc
        refine List.nodup_append.2 ⟨q.nd,by simp,fun a ha b hb e=>?_⟩
        rw [List.mem_singleton] at hb
        subst hb;subst e
        exact hc (by simpa using ha)
  · exact q
theorem Hk.GM {l:List cd} {now:Int}:∀ (e:List Int) (h:iA),(∀ y,y ∈ e→0≤y∧y≤9)→Hk h→Hk (e.foldl (kB l now) h)
  | [],h,_,q=>q
  | k::e,h,he,q=>by
    rw [List.foldl_cons]
    refine Hk.GM e _ (fun y hy=>he y (by simp [hy])) ?_
    unfold kB
    split
    · exact q
    · exact q.lT (he k (by simp)).1 (he k (by simp)).2
theorem CX {h:iA} (q:Hk h) (p0:0≤h.gc.pos) (p9:h.gc.pos≤9) (now:Int):Ar (lh h now):=by
  unfold lh
  split
  · rename_i c
    unfold kQ at c
    simp only [Bool.and_eq_true,bne_iff_ne,ne_eq] at c
    unfold k7
    split
    · exact q.ar.free (by omega) p9
    · exact q.ar
  · exact q.ar.mark p0 p9 false fun h=>by cases h
theorem Hk.step {h:iA} (q:Hk h) (now:Int):Hk (kg h now).1:=by
  unfold kg
  rw [if_pos (rl.2 q)]
  have hph:=q.ph
  unfold mW at hph
  simp only [Bool.or_eq_true,Bool.and_eq_true,beq_iff_eq,i7] at hph
  split
  · rename_i c
    have c:h.gc.phase=1:=by simpa using c
    have hp:(0≤h.gc.pos∧h.gc.pos≤9)∧(h.gc.ia.length:Int)=0:=by
      rcases hph with e | e
      · rw [c] at e;exact absurd e.1 (by decide)
      · exact e.2
    have hs:=CX q hp.1.1 hp.1.2 now
    unfold mb
    simp only
    split
    · refine ⟨hs.mark (i:=0) (by omega) (by omega) true fun _=>by rw [hs.tO];rfl,rfl,?_,by simp,by simp⟩
      have hr:=q.rd
      simp only
      rw [iI (by omega) (by omega)]
      split <;> omega
    · rename_i c9
      have c9:h.gc.pos ≠ 9:=by simpa using c9
      refine ⟨hs,?_,q.rd,q.gr,q.nd⟩
      unfold mW
      simp only [Bool.or_eq_true,Bool.and_eq_true,beq_iff_eq,i7]
      exact .inr ⟨c,⟨by omega,by omega⟩,hp.2⟩
  · rename_i c
    have c:h.gc.phase ≠ 1:=by simpa using c
    have hp:h.gc.phase=0∧h.gc.pos=0:=by
      rcases hph with e | e
      · exact e
      · exact absurd e.1 c
    have hph':∀ g,mW (ks.mk h.gc.phase h.gc.pos h.gc.round g)=true:=fun g=>by
      unfold mW
      simp [hp.1,hp.2]
    unfold oU
    simp only
    split
    · rename_i hg
      refine ⟨q.ar,?_,q.rd,q.gr,q.nd⟩
      unfold mW
      simp [hg,iE]
    · rename_i hg
      obtain ⟨l0,l9⟩:=qj (rl.2 q) hg
      split
      · exact ⟨q.ar,hph' _,q.rd,fun y hy=>q.gr y (vi h y hy),vH q.nd⟩
      · rename_i he
        refine Hk.GM _ _ (pU q.ar (iK h)).1 ⟨?_,hph' _,q.rd,fun y hy=>q.gr y (vi h y hy),vH q.nd⟩
        refine q.ar.mark l0 l9 true fun _=>?_
        by_cases e0:iK h=0
        · rw [e0,q.ar.tO];rfl
        · cases hq:(nth h.ag (iK h)).kind==0
          · rfl
          · refine absurd ?_ he
            unfold jy
            rw [hq]
            simp [e0]
def xx:List Int→Int
  | []=>0
  | y::l=>y+xx l
theorem BQ:∀ (l:List Int) (k:Nat) (y z:Int),l[k]?=some y→xx (l.set k z)=xx l - y+z
  | [],k,y,z,h=>by simp at h
  | x::l,0,y,z,h=>by
    simp at h;subst h
    show z+xx l=(x+xx l) - x+z
    omega
  | x::l,k+1,y,z,h=>by
    show x+xx (l.set k z)=x+xx l - y+z
    rw [BQ l k y z (by simpa using h)];omega
def mD (l:List cd):Int:=xx (l.map cd.bh)
theorem uP {l:List cd} {i:Int} (h0:0≤i) (h1:i<(l.length:Int)) (z:cd):mD (l.set i.toNat z)=mD l - (nth l i).bh+z.bh:=by
  unfold mD
  rw [List.map_set,BQ _ _ (nth l i).bh _ (by rw [List.getElem?_map,ky h0 h1];rfl)]
theorem IX {l:List cd} {f:cd→cd} (h:∀ o,(f o).bh=o.bh):mD (l.map f)=mD l:=by
  unfold mD
  rw [List.map_map]
  congr 1
  exact List.map_congr_left fun o _=>h o
theorem AQ {o:cd} (h:jt o=true):0≤o.bh∧o.bh≤8:=by
  cases hk:o.kind==0
  · exact i7.1 (oN h (Ep hk)).2.2.2
  · rw [vP h hk]
    exact ⟨Int.le_refl 0,show (0:Int)≤8 by decide⟩
theorem BN:∀ (l:List cd) (s:Int),(∀ o,o ∈ l→jt o=true)→0≤s→s+8 * (l.length:Int)≤1000000→l.foldl (fun n o=>IntKind.i64.wrap (n+o.bh)) s=s+mD l∧0≤mD l∧mD l≤8 * (l.length:Int)
  | [],s,_,_,_=>⟨(Int.add_zero s).symm,Int.le_refl _,Int.le_refl _⟩
  | o::l,s,h,h0,hB=>by
    have ho:=AQ (h o (by simp))
    simp only [List.length_cons] at hB
    obtain ⟨a,b,c⟩:=BN l (s+o.bh) (fun x hx=>h x (by simp [hx])) (by omega) (by omega)
    rw [List.foldl_cons,iI (by omega) (by omega),a]
    have e:mD (o::l)=o.bh+mD l:=rfl
    rw [e]
    simp only [List.length_cons]
    omega
theorem BG {p:dW} (h:Ar p.heap.ag):held p=mD p.heap.ag∧0≤mD p.heap.ag∧mD p.heap.ag≤80:=by
  have h10:=h.len
  unfold held
  rw [List.take_of_length_le (by omega),List.filter_eq_self.2 h.ok]
  obtain ⟨a,b,c⟩:=BN p.heap.ag 0 h.ok (by decide) (by omega)
  exact ⟨by rw [a];omega,b,by omega⟩
theorem Gz {h:iA} (q:Ar h.ag) {k:Int} (k0:0≤k) (k9:k≤9):mD (lT h k).ag=mD h.ag:=by
  unfold lT
  split
  · show mD (h.ag.set _ _)=_
    rw [uP k0 (by have:=q.len;omega)]
    show _ - _+(nth h.ag k).bh=_
    omega
  · rfl
theorem zi {l:List cd} {now:Int}:∀ (e:List Int) (h:iA),(∀ y,y ∈ e→0≤y∧y≤9)→Hk h→mD (e.foldl (kB l now) h).ag=mD h.ag
  | [],h,_,q=>rfl
  | k::e,h,he,q=>by
    have hk:=he k (by simp)
    rw [List.foldl_cons]
    have q1:Hk (kB l now h k):=by
      unfold kB
      split
      · exact q
      · exact q.lT hk.1 hk.2
    rw [zi e _ (fun y hy=>he y (by simp [hy])) q1]
    unfold kB
    split
    · rfl
    · exact Gz q.ar hk.1 hk.2
theorem HG {h:iA} (q:Hk h) (now:Int):mD (kg h now).1.ag=mD h.ag - (if decide ((kg h now).2 ≥ 0) then (nth h.ag (kg h now).2).bh else 0):=by
  have h10:=q.ar.len
  unfold kg
  rw [if_pos (rl.2 q)]
  split
  · rename_i c
    have c:h.gc.phase=1:=by simpa using c
    have hph:=q.ph
    unfold mW at hph
    simp only [Bool.or_eq_true,Bool.and_eq_true,beq_iff_eq,i7] at hph
    have hp:0≤h.gc.pos∧h.gc.pos≤9:=by
      rcases hph with e | e
      · rw [c] at e;exact absurd e.1 (by decide)
      · exact e.2.1
    have hs:=CX q hp.1 hp.2 now
    have hs10:=hs.len
    have key:mD (lh h now)=mD h.ag - (if kQ h now then (nth h.ag h.gc.pos).bh else 0):=by
      unfold lh
      cases hf:kQ h now
      · simp only [Bool.false_eq_true,if_false]
        rw [uP hp.1 (by omega)]
        show _ - _+(nth h.ag h.gc.pos).bh=_
        omega
      · simp only [if_true]
        unfold kQ at hf
        simp only [Bool.and_eq_true,bne_iff_ne,ne_eq] at hf
        unfold k7
        rw [if_pos (by
          rw [kf.2 q.ar]
          simp only [Bool.true_and,Bool.and_eq_true,i7,bne_iff_ne,ne_eq]
          exact ⟨⟨by omega,hp.2⟩,hf.2.1⟩)]
        simp only
        rw [IX (Ge _),uP hp.1 (by omega)]
        show _ - _+0=_
        omega
    have ke:(mb h now).2=if kQ h now then h.gc.pos else -1:=rfl
    rw [ke]
    have e2:mD (mb h now).1.ag=mD (lh h now):=by
      unfold mb
      simp only
      split
      · show mD ((lh h now).set (0:Int).toNat (marked (nth (lh h now) 0) true))=_
        rw [uP (by omega) (by omega)]
        show _ - _+(nth (lh h now) 0).bh=_
        omega
      · rfl
    rw [e2,key]
    cases hf:kQ h now
    · simp
    · simp only [if_true]
      rw [show decide (h.gc.pos ≥ 0)=true from decide_eq_true hp.1]
      rfl
  · simp only [show decide ((-1:Int) ≥ 0)=false from rfl,Bool.false_eq_true,if_false,Int.sub_zero]
    unfold oU
    split
    · rfl
    · rename_i hg
      obtain ⟨l0,l9⟩:=qj (rl.2 q) hg
      split
      · rfl
      · rename_i he
        have hb:Hk (iA.mk (h.ag.set (iK h).toNat (marked (nth h.ag (iK h)) true)) (ks.mk h.gc.phase h.gc.pos h.gc.round (mo h))):=by
          have:=q.step now
          refine ⟨?_,?_,q.rd,fun y hy=>q.gr y (vi h y hy),vH q.nd⟩
          · refine q.ar.mark l0 l9 true fun _=>?_
            by_cases e0:iK h=0
            · rw [e0,q.ar.tO];rfl
            · cases hq:(nth h.ag (iK h)).kind==0
              · rfl
              · refine absurd ?_ he
                unfold jy
                rw [hq]
                simp [e0]
          · have hph:=q.ph
            unfold mW at hph ⊢
            rename_i c
            have c:h.gc.phase ≠ 1:=by simpa using c
            simp only [Bool.or_eq_true,Bool.and_eq_true,beq_iff_eq] at hph ⊢
            rcases hph with e | e
            · exact .inl e
            · exact absurd e.1 c
        rw [zi _ _ (pU q.ar (iK h)).1 hb]
        show mD (h.ag.set _ _)=_
        rw [uP l0 (by omega)]
        show _ - _+(nth h.ag (iK h)).bh=_
        omega
theorem A7 {t:List ir} {a:ig} (hT:Tr t) (f:Int) (ha:iY a=true) (hp:jG ig.bh t+a.bh≤1000000) (hr:jG ig.ib t+a.ib≤1000000) (hc:jG ig.ik t+a.ik≤1000000) :
    (lJ t f a).2=true∧Tr (lJ t f a).1∧jG ig.bh (lJ t f a).1=jG ig.bh t+a.bh∧jG ig.ib (lJ t f a).1=jG ig.ib t+a.ib∧jG ig.ik (lJ t f a).1=jG ig.ik t+a.ik:=by
  have ht:=ko.2 hT
  obtain ⟨t1,t2,t3⟩:=hT.jG
  have hS:=jk.1 hT.sum
  have ha':=jk.1 ha
  have hsum:iV (jU t) a=⟨jG ig.bh t+a.bh,jG ig.ib t+a.ib,jG ig.ik t+a.ik⟩:=by
    unfold jU iV
    rw [if_pos ht,t1,t2,t3,iI (by omega) (by omega),iI (by omega) (by omega),iI (by omega) (by omega)]
  have hok:iY (iV (jU t) a)=true:=by
    rw [hsum]
    exact jk.2 ⟨by dsimp only;omega,by dsimp only;omega,by dsimp only;omega⟩
  have hi:0≤(if jl t f then f else 0)∧(if jl t f then f else 0)≤4∧(nth t (if jl t f then f else 0)).live=true:=by
    split
    · rename_i q
      have:=kX q
      unfold jl at q
      simp only [Bool.and_eq_true] at q
      exact ⟨this.1,this.2,q.2⟩
    · exact ⟨Int.le_refl _,by decide,hT.yb⟩
  unfold lJ
  rw [if_pos (by rw [ht,ha,hok];rfl)]
  simp only
  generalize (if jl t f then f else 0)=i at *
  obtain ⟨i0,i4,hv⟩:=hi
  have hl:=hT.len
  have hm:=kT (l:=t) i0 (by omega)
  have hb:=jk.1 (hT.iL _ hm)
  have e:iV (nth t i).iL a=⟨(nth t i).iL.bh+a.bh,(nth t i).iL.ib+a.ib,(nth t i).iL.ik+a.ik⟩:=by
    unfold iV
    rw [iI (by omega) (by omega),iI (by omega) (by omega),iI (by omega) (by omega)]
  obtain ⟨_,q⟩:=qW t ⟨0,0,0⟩ 0 hT.iL (by omega) (by omega) ⟨by decide,by decide⟩ ⟨by decide,by decide⟩ ⟨by decide,by decide⟩
  obtain ⟨q1,q2,q3⟩:=q _ hm hv
  rw [t1] at q1
  rw [t2] at q2
  rw [t3] at q3
  rw [e]
  obtain ⟨w1,w2⟩:=hT.set i0 i4 hv (b:=⟨(nth t i).iL.bh+a.bh,(nth t i).iL.ib+a.ib,(nth t i).iL.ik+a.ik⟩) (jk.2 ⟨by dsimp only;omega,by dsimp only;omega,by dsimp only;omega⟩) (jk.2 ⟨by dsimp only;omega,by dsimp only;omega,by dsimp only;omega⟩)
  refine ⟨trivial,w1,?_,?_,?_⟩
  · rw [w2];dsimp only;omega
  · rw [w2];dsimp only;omega
  · rw [w2];dsimp only;omega
def sp (p:dW):ig:=⟨jG ig.bh p.tree+mD p.heap.ag+p.gE.bh,jG ig.ib p.tree+p.gE.ib,jG ig.ik p.tree+p.gE.ik⟩
theorem xZ {p:dW} (h:iS p=true):kF p=sp p∧((0≤(sp p).bh∧(sp p).bh≤2000080)∧(0≤(sp p).ib∧(sp p).ib≤2000000)∧(0≤(sp p).ik∧(sp p).ik≤2000000))∧0≤jG ig.bh p.tree∧0≤jG ig.ib p.tree∧0≤jG ig.ik p.tree:=by
  have hT:=ko.1 (lB h)
  obtain ⟨t1,t2,t3⟩:=hT.jG
  have hS:=jk.1 hT.sum
  rw [t1,t2,t3] at hS
  have hsp:=sK (mQ h)
  obtain ⟨g1,g2,g3⟩:=BG (jS h)
  have hts:jU p.tree=⟨jG ig.bh p.tree,jG ig.ib p.tree,jG ig.ik p.tree⟩:=by
    unfold jU
    rw [if_pos (lB h), ← t1, ← t2, ← t3]
  unfold kF
  rw [mQ h,g1,hts]
  simp only [if_true]
  unfold iV sp
  dsimp only
  rw [iI (n:=jG ig.bh p.tree+mD p.heap.ag) (by omega) (by omega),iI (by omega) (by omega),iI (by omega) (by omega),iI (by omega) (by omega)]
  exact ⟨rfl,⟨by omega,by omega,by omega⟩,by omega,by omega,by omega⟩
structure Ck (S R C:Int) (c:vq):Prop where
  tr:Tr c.tree
  hp:Hk c.heap
  pg:jG ig.bh c.tree+mD c.heap.ag=S
  rt:jG ig.ib c.tree=R
  cp:jG ig.ik c.tree=C
  w:wA c.heap.ag
theorem Ck.step {S R C:Int} {c:vq} (h:Ck S R C c) (hS:S≤1000000) (now:Int):Ck S R C (px now c):=by
  have hq:=h.hp.step now
  have hg:=HG h.hp now
  obtain ⟨t1,t2,t3⟩:=h.tr.jG
  have hSm:=jk.1 h.tr.sum
  rw [t1,t2,t3] at hSm
  have h1:=h.pg
  have h2:=h.rt
  have h3:=h.cp
  obtain ⟨_,hw,_,hr⟩:=sW h.w now
  unfold px
  cases hd:decide ((kg c.heap now).2 ≥ 0)
  · rw [hd] at hg
    simp only [Bool.false_eq_true,if_false] at hg ⊢
    exact ⟨h.tr,hq,by dsimp only;omega,h2,h3,hw⟩
  · rw [hd] at hg
    simp only [if_true] at hg ⊢
    obtain ⟨_,d0,d9⟩:=hr hd
    have hpr:=AQ (h.hp.ar.ok _ (h.hp.ar.at d0 d9).2)
    have hp':0≤mD (kg c.heap now).1.ag:=(BG (p:=⟨⟨[]⟩,[],[],(kg c.heap now).1,[],0,0,⟨0,0,0⟩,0,0⟩) hq.ar).2.1
    obtain ⟨_,b1,b2,b3,b4⟩:=A7 h.tr (nth c.heap.ag (kg c.heap now).2).res (a:=⟨(nth c.heap.ag (kg c.heap now).2).bh,0,0⟩) (jk.2 ⟨by dsimp only;omega,show (0:Int)≤0∧(0:Int)≤1000000 by decide,show (0:Int)≤0∧(0:Int)≤1000000 by decide⟩) (by dsimp only;omega) (by dsimp only;omega) (by dsimp only;omega)
    exact ⟨b1,hq,by dsimp only at *;omega,by dsimp only at *;omega,by dsimp only at *;omega,hw⟩
theorem Ck.steps {S R C:Int} (hS:S≤1000000) {now:Int}:∀ (k:Nat) (c:vq),Ck S R C c→Ck S R C (wx now k c)
  | 0,c,h=>h
  | k+1,c,h=>Ck.steps hS k _ (h.step hS now)
theorem BY {p:dW} (h:iS p=true) (hw:wP p) (hs:(sp p).bh≤1000000) (now steps:Int):iS (kO p now steps).1=true∧sp (kO p now steps).1=sp p:=by
  unfold kO
  split
  · have hh:Hk p.heap:=rl.1 (by
      unfold iS at h
      simp only [Bool.and_eq_true] at h
      exact h.2.2.2.1)
    have hsp:=sK (mQ h)
    have c0:Ck (jG ig.bh p.tree+mD p.heap.ag) (jG ig.ib p.tree) (jG ig.ik p.tree) ⟨0,p.tree,p.heap⟩:=⟨ko.1 (lB h),hh,rfl,rfl,rfl,hw⟩
    have c1:=Ck.steps (by unfold sp at hs;dsimp only at hs;omega) (now:=now) steps.toNat _ c0
    refine ⟨?_,?_⟩
    · unfold iS at h ⊢
      simp only [Bool.and_eq_true] at h ⊢
      exact ⟨h.1,h.2.1,ko.2 c1.tr,rl.2 c1.hp,h.2.2.2.2⟩
    · have a:=c1.pg
      have b:=c1.rt
      have d:=c1.cp
      unfold sp
      dsimp only
      rw [a,b,d]
  · exact ⟨h,rfl⟩
end Go.Kx
