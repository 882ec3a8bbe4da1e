/- Plain laws: what collects keeps all right, and all sums. No program in sight. -/
import Derived.Test.YtikeaiogpfjdnaaGreatLTaps
namespace Go.Kx
open Go
set_option linter.unusedVariables false
set_option linter.unusedSimpArgs false
set_option maxRecDepth 10000
theorem wz {o z:bh} (h:jF o=true) (hk:(o.kind==0)=false) (e1:z.gen=o.gen) (e2:z.kind=o.kind) (hb:iE z.box (-1) 9=true) (e3:z.res=o.res) (ht:iE z.iN 0 1000000=true) (e4:z.cd=o.cd) (hl:mB z=true) (e5:z.wait=o.wait) (e6:z.iO=o.iO) (e7:z.iP=o.iP):jF z=true:=by
  unfold jF at h ⊢
  rw [e1,e2,e3,e4,e5,e6,e7,hk]
  rw [hk] at h
  simp only [cond_false,Bool.and_eq_true] at h ⊢
  obtain ⟨a1,a2,a3,a4,a5,a6,a7,a8⟩:=h
  exact ⟨a1,a2,hb,a4,ht,a6,hl,a8⟩
theorem vR {o:bh} (h:jF o=true) (hk:(o.kind==0)=false):mB o=true:=by
  unfold jF at h
  rw [hk] at h
  simp only [cond_false,Bool.and_eq_true] at h
  exact h.2.2.2.2.2.2.1
theorem CE {o:bh} (hk:(o.kind==0)=false):(o.kind != 0)=true:=by unfold bne;rw [hk];rfl
theorem El {o:bh} (h:jF o=true) (hk:(o.kind==0)=false) (b:Bool):jF (marked o b)=true :=
  wz h hk rfl rfl (oo h (CE hk)).1 rfl (oo h (CE hk)).2.2.1 rfl (show mB o=true from vR h hk) rfl rfl rfl
theorem rj {o:bh} (h:jF o=true) (hk:(o.kind==0)=true):o=blank o.gen:=by
  unfold jF at h
  rw [hk] at h
  simp only [cond_true,Bool.and_eq_true,decide_eq_true_eq] at h
  exact h.2.2
theorem Dt {o:bh} (h:jF o=true):jF (blank o.gen)=true:=by
  unfold jF at h ⊢
  simp only [Bool.and_eq_true] at h
  show (iE o.gen 0 999&&(iE 0 0 4&&decide (blank o.gen=blank o.gen)))=true
  rw [h.1,decide_eq_true rfl]
  rfl
theorem Ft {o:bh} (h:jF o=true) (i:Int):jF (k7 i o)=true:=by
  unfold k7
  cases hk:o.kind==0
  · simp only [Bool.false_eq_true,if_false]
    have hb:=(oo h (CE hk))
    refine wz h hk rfl rfl ?_ rfl hb.2.2.1 rfl ?_ rfl rfl rfl
    · show iE (if o.box==i then -1 else o.box) (-1) 9=true
      split
      · decide
      · exact hb.1
    · have hl:=vR h hk
      unfold mB at hl ⊢
      simp only [Bool.and_eq_true,List.length_map,List.all_map,List.all_eq_true] at hl ⊢
      refine ⟨fun y hy=>?_,hl.2⟩
      show iE (qV i y) (-1) 9=true
      unfold qV
      split
      · decide
      · exact hl.1 y hy
  · simp only [if_true];exact h
theorem nC (i:Int) (o:bh):(k7 i o).kind=o.kind:=by unfold k7;split <;> rfl
theorem Cf (i:Int) (o:bh):(k7 i o).cd=o.cd:=by unfold k7;split <;> rfl
theorem A7 (i:Int) (o:bh):(k7 i o).iN=o.iN:=by unfold k7;split <;> rfl
theorem Ar.swap {l:List bh} (h:Ar l) {i:Int} (h0:0≤i) (h9:i≤9) {z:bh} (hk:z.kind=(nth l i).kind) (hb:z.box=(nth l i).box) (hl:z.ib=(nth l i).ib) (ht:i=0→z.iN=(nth l i).iN) (ok:jF z=true):Ar (l.set i.toNat z):=by
  have h10:=h.len
  have hn:∀ j,0≤j→nth (l.set i.toNat z) j=if i=j then z else nth l j:=fun j hj=>lk h0 (by omega) hj
  have hkind:∀ j,0≤j→(nth (l.set i.toNat z) j).kind=(nth l j).kind:=fun j hj=>by
    rw [hn j hj]
    split
    · rename_i e;rw [← e];exact hk
    · rfl
  have hi:=(h.at h0 h9).2
  refine ⟨by rw [List.length_set];exact h10,by rw [hkind 0 (by omega)];exact h.sV,?_,?_,?_,?_,?_⟩
  · rw [hn 0 (by omega)]
    split
    · rename_i e;rw [hb,e];exact h.yI
    · exact h.yI
  · rw [hn 0 (by omega)]
    split
    · rename_i e;rw [ht e,e];exact h.zq
    · exact h.zq
  · intro o ho
    rcases List.mem_or_eq_of_mem_set ho with q | rfl
    · exact h.ok o q
    · exact ok
  · intro o ho y hy y0
    rw [hkind y y0]
    rcases List.mem_or_eq_of_mem_set ho with q | rfl
    · exact h.ib o q y hy y0
    · rw [hl] at hy
      exact h.ib _ hi y hy y0
  · intro k o hko k0 hne b0
    rw [hkind o.box b0]
    by_cases e:k=i.toNat
    · subst e
      rw [List.getElem?_set_self (by omega)] at hko
      have:z=o:=Option.some.inj hko
      subst this
      have:=h.box i.toNat (nth l i) (lj h0 (by omega)) k0 (by rw [← hk];exact hne) (by rw [← hb];exact b0)
      rwa [hb]
    · rw [List.getElem?_set_ne (Ne.symm e)] at hko
      exact h.box k o hko k0 hne b0
theorem Ar.mark {l:List bh} (h:Ar l) {i:Int} (h0:0≤i) (h9:i≤9) (b:Bool) (hk:b=true→((nth l i).kind==0)=false):Ar (l.set i.toNat (marked (nth l i) b)):=by
  refine h.swap h0 h9 rfl rfl rfl (fun _=>rfl) ?_
  have ho:=h.ok _ (h.at h0 h9).2
  cases hq:(nth l i).kind==0
  · exact El ho hq b
  · cases b
    · have e:=rj ho hq
      have:marked (nth l i) false=nth l i:=by rw [e];rfl
      rw [this];exact ho
    · rw [hk rfl] at hq;cases hq
theorem AQ {l:List bh} (f:bh→bh) {j:Int} (h0:0≤j) (h1:j<(l.length:Int)):nth (l.map f) j=f (nth l j):=by
  have:=lj (l:=l) h0 h1
  unfold nth
  rw [List.getElem?_map]
  unfold nth at this
  rw [this]
  rfl
theorem Ar.free {l:List bh} (h:Ar l) {i:Int} (h1:1≤i) (h9:i≤9):Ar ((l.set i.toNat (blank (nth l i).gen)).map (k7 i)):=by
  have h10:=h.len
  have hi:=(h.at (i:=i) (by omega) h9).2
  have hn:∀ j,0≤j→j≤9→nth ((l.set i.toNat (blank (nth l i).gen)).map (k7 i)) j=k7 i (if i=j then blank (nth l i).gen else nth l j):=fun j hj h9=>by
    rw [AQ _ hj (by rw [List.length_set];omega),lk (by omega) (by omega) hj]
  have hkind:∀ j,0≤j→j≤9→j ≠ i→(nth ((l.set i.toNat (blank (nth l i).gen)).map (k7 i)) j).kind=(nth l j).kind:=fun j hj h9 hne=>by
    rw [hn j hj h9,if_neg (Ne.symm hne),nC]
  have hmem:∀ o,o ∈ l.set i.toNat (blank (nth l i).gen)→jF o=true:=fun o ho=>by
    rcases List.mem_or_eq_of_mem_set ho with q | rfl
    · exact h.ok o q
    · exact Dt (h.ok _ hi)
  refine ⟨by rw [List.length_map,List.length_set];exact h10,by rw [hkind 0 (by omega) (by omega) (by omega)];exact h.sV,?_,?_,?_,?_,?_⟩
  · rw [hn 0 (by omega) (by omega),if_neg (by omega)]
    unfold k7
    rw [h.sV]
    show (if (nth l 0).box==i then -1 else (nth l 0).box)=-1
    rw [h.yI]
    split <;> rfl
  · rw [hn 0 (by omega) (by omega),if_neg (by omega),A7];exact h.zq
  · intro o ho
    obtain ⟨x,hx,rfl⟩:=List.mem_map.1 ho
    exact Ft (hmem x hx) i
  · intro o ho y hy y0
    obtain ⟨x,hx,rfl⟩:=List.mem_map.1 ho
    have hok:=hmem x hx
    cases hq:x.kind==0
    · unfold k7 at hy
      rw [hq] at hy
      simp only [Bool.false_eq_true,if_false] at hy
      obtain ⟨v,hv,rfl⟩:=List.mem_map.1 hy
      unfold qV at y0 ⊢
      split at y0
      · omega
      · rename_i hne
        have hne:v ≠ i:=by simpa using hne
        have v9:=((nY hok).2 v hv).2
        rw [if_neg (by simpa using hne),hkind v y0 v9 hne]
        rcases List.mem_or_eq_of_mem_set hx with q | q
        · exact h.ib x q v hv y0
        · rw [q] at hq;simp [blank] at hq
    · have e:=rj hok hq
      unfold k7 at hy
      rw [hq] at hy
      simp only [if_true] at hy
      rw [e] at hy
      simp [blank] at hy
  · intro k o hko k0 hne b0
    rw [List.getElem?_map] at hko
    obtain ⟨x,hx,rfl⟩:=Option.map_eq_some_iff.1 hko
    rw [nC] at hne
    have hq:(x.kind==0)=false:=by simpa using hne
    have hb:(k7 i x).box=if x.box==i then -1 else x.box:=by unfold k7;rw [hq];rfl
    rw [hb] at b0 ⊢
    split at b0
    · omega
    · rename_i hnb
      have hnb:x.box ≠ i:=by simpa using hnb
      rw [if_neg (by simpa using hnb)]
      have hxm:=List.mem_of_getElem? hx
      have b9:=jb.1 (oo (hmem x hxm) (CE hq)).1
      rw [hkind x.box b0 b9.2 hnb]
      by_cases e:k=i.toNat
      · subst e
        rw [List.getElem?_set_self (by omega)] at hx
        have:=Option.some.inj hx
        rw [← this] at hq
        simp [blank] at hq
      · rw [List.getElem?_set_ne (Ne.symm e)] at hx
        exact h.box k x hx k0 hne b0
structure Hk (h:ic):Prop where
  ar:Ar h.ag
  ph:lz h.gc=true
  rd:0≤h.gc.round∧h.gc.round≤1000000
  gr:∀ y,y ∈ h.gc.gE→0≤y∧y≤9
  nd:h.gc.gE.Nodup
theorem CT {g:List Int}:allI (oU g) 0 g=true ↔ (∀ y,y ∈ g→0≤y∧y≤9)∧g.Nodup:=by
  rw [lO]
  constructor
  · intro h
    refine ⟨fun y hy=>?_,?_⟩
    · obtain ⟨k,hk⟩:=List.getElem?_of_mem hy
      have:=h k y hk
      unfold oU at this
      simp only [Bool.and_eq_true,jb] at this
      exact this.1
    · refine List.pairwise_iff_getElem.2 fun i j hi hj hij e=>?_
      have:=h j g[j] (List.getElem?_eq_getElem hj)
      unfold oU at this
      simp only [Nat.zero_add,Bool.and_eq_true,Bool.not_eq_true'] at this
      have hm:g[j] ∈ g.take j:=by
        rw [← e]
        exact List.mem_iff_getElem.2 ⟨i,by rw [List.length_take];omega,by rw [List.getElem_take]⟩
      have hc:(g.take j).contains g[j]=true:=by simpa using hm
      rw [this.2] at hc
      cases hc
  · rintro ⟨h1,h2⟩ i y hy
    unfold oU
    simp only [Nat.zero_add,Bool.and_eq_true,Bool.not_eq_true',jb]
    refine ⟨h1 y (List.mem_of_getElem? hy),?_⟩
    cases hc:(g.take i).contains y
    · rfl
    · have hm:y ∈ g.take i:=by simpa using hc
      obtain ⟨j,hj,e⟩:=List.mem_iff_getElem.1 hm
      rw [List.length_take] at hj
      rw [List.getElem_take] at e
      have hi:=jg hy
      have:=List.pairwise_iff_getElem.1 h2 j i (by omega) hi (by omega)
      rw [List.getElem?_eq_getElem hi] at hy
      exact absurd (e.trans (Option.some.inj hy).symm) this
theorem kc {h:ic}:j7 h=true ↔ Hk h:=by
  unfold j7
  simp only [Bool.and_eq_true,CT,jb,kf]
  exact ⟨fun ⟨a,b,c,d,e⟩=>⟨a,b,c,d,e⟩,fun q=>⟨q.ar,q.ph,q.rd,q.gr,q.nd⟩⟩
theorem mi (h:ic):∀ y,y ∈ jD h→y ∈ h.gc.gE:=fun y hy=>List.mem_of_mem_take hy
theorem tq {h:ic} (q:h.gc.gE.Nodup):(jD h).Nodup:=List.Sublist.nodup (List.take_sublist _ _) q
theorem Hk.GW {h:ic} (q:Hk h) {ph:h.gc.phase=0} (g:List Int):lz (jH.mk h.gc.phase h.gc.pos h.gc.round g)=true:=by
  have hph:=q.ph
  unfold lz at hph ⊢
  simp only [Bool.or_eq_true,Bool.and_eq_true,beq_iff_eq] at hph ⊢
  rcases hph with e | e
  · exact .inl e
  · rw [ph] at e;exact absurd e.1 (by decide)
theorem Hk.ku {h:ic} (q:Hk h) {k:Int} (k0:0≤k) (k9:k≤9):Hk (ku h k):=by
  unfold Kx.ku
  split
  · rename_i c
    simp only [Bool.and_eq_true,bne_iff_ne,ne_eq] at c
    refine ⟨q.ar.mark k0 k9 true fun _=>by simpa using c.2.1,q.GW (ph:=by simpa using c.1) _,q.rd,?_,?_⟩
    · intro y hy
      simp only at hy
      split at hy
      · exact q.gr y hy
      · rcases List.mem_append.1 hy with e | e
        · exact q.gr y e
        · rw [List.mem_singleton] at e;subst e;exact ⟨k0,k9⟩
    · simp only
      split
      · exact q.nd
      · rename_i hc
        refine List.nodup_append.2 ⟨q.nd,by simp,fun a ha b hb e=>?_⟩
        rw [List.mem_singleton] at hb
        subst hb;subst e
        exact hc (by simpa using ha)
  · exact q
theorem Hk.CS {l:List bh} {now:Int}:∀ (e:List Int) (h:ic),(∀ y,y ∈ e→0≤y∧y≤9)→Hk h→Hk (e.foldl (jm l now) h)
  | [],h,_,q=>q
  | k::e,h,he,q=>by
    rw [List.foldl_cons]
    refine Hk.CS e _ (fun y hy=>he y (by simp [hy])) ?_
    unfold jm
    split
    · exact q
    · exact q.ku (he k (by simp)).1 (he k (by simp)).2
theorem ra {h:ic} (q:Hk h) (p0:0≤h.gc.pos) (p9:h.gc.pos≤9) (now:Int):Ar (jv h now):=by
  unfold jv
  split
  · rename_i c
    unfold jC at c
    simp only [Bool.and_eq_true,bne_iff_ne,ne_eq] at c
    unfold kp
    split
    · exact q.ar.free (by omega) p9
    · exact q.ar
  · exact q.ar.mark p0 p9 false fun h=>by cases h
theorem Hk.step {h:ic} (q:Hk h) (now:Int):Hk (jd h now).1:=by
  unfold jd
  rw [if_pos (kc.2 q)]
  have hph:=q.ph
  unfold lz at hph
  simp only [Bool.or_eq_true,Bool.and_eq_true,beq_iff_eq,jb] at hph
  split
  · rename_i c
    have c:h.gc.phase=1:=by simpa using c
    have hp:(0≤h.gc.pos∧h.gc.pos≤9)∧(h.gc.gE.length:Int)=0:=by
      rcases hph with e | e
      · rw [c] at e;exact absurd e.1 (by decide)
      · exact e.2
    have hs:=ra q hp.1.1 hp.1.2 now
    unfold ka
    simp only
    split
    · refine ⟨hs.mark (i:=0) (by omega) (by omega) true fun _=>by rw [hs.sV];rfl,rfl,?_,by simp,by simp⟩
      have hr:=q.rd
      simp only
      rw [iM (by omega) (by omega)]
      split <;> omega
    · rename_i c9
      have c9:h.gc.pos ≠ 9:=by simpa using c9
      refine ⟨hs,?_,q.rd,q.gr,q.nd⟩
      unfold lz
      simp only [Bool.or_eq_true,Bool.and_eq_true,beq_iff_eq,jb]
      exact .inr ⟨c,⟨by omega,by omega⟩,hp.2⟩
  · rename_i c
    have c:h.gc.phase ≠ 1:=by simpa using c
    have hp:h.gc.phase=0∧h.gc.pos=0:=by
      rcases hph with e | e
      · exact e
      · exact absurd e.1 c
    have hph':∀ g,lz (jH.mk h.gc.phase h.gc.pos h.gc.round g)=true:=fun g=>by
      unfold lz
      simp [hp.1,hp.2]
    unfold ly
    simp only
    split
    · rename_i hg
      refine ⟨q.ar,?_,q.rd,q.gr,q.nd⟩
      unfold lz
      simp [hg,iE]
    · rename_i hg
      obtain ⟨l0,l9⟩:=k8 (kc.2 q) hg
      split
      · exact ⟨q.ar,hph' _,q.rd,fun y hy=>q.gr y (mi h y hy),tq q.nd⟩
      · rename_i he
        refine Hk.CS _ _ (k4 q.ar (ij h)).1 ⟨?_,hph' _,q.rd,fun y hy=>q.gr y (mi h y hy),tq q.nd⟩
        refine q.ar.mark l0 l9 true fun _=>?_
        by_cases e0:ij h=0
        · rw [e0,q.ar.sV];rfl
        · cases hq:(nth h.ag (ij h)).kind==0
          · rfl
          · refine absurd ?_ he
            unfold iY
            rw [hq]
            simp [e0]
def vb:List Int→Int
  | []=>0
  | y::l=>y+vb l
theorem yT:∀ (l:List Int) (k:Nat) (y z:Int),l[k]?=some y→vb (l.set k z)=vb l - y+z
  | [],k,y,z,h=>by simp at h
  | x::l,0,y,z,h=>by
    simp at h;subst h
    show z+vb l=(x+vb l) - x+z
    omega
  | x::l,k+1,y,z,h=>by
    show x+vb (l.set k z)=x+vb l - y+z
    rw [yT l k y z (by simpa using h)];omega
def lK (l:List bh):Int:=vb (l.map bh.cd)
theorem tG {l:List bh} {i:Int} (h0:0≤i) (h1:i<(l.length:Int)) (z:bh):lK (l.set i.toNat z)=lK l - (nth l i).cd+z.cd:=by
  unfold lK
  rw [List.map_set,yT _ _ (nth l i).cd _ (by rw [List.getElem?_map,lj h0 h1];rfl)]
theorem EL {l:List bh} {f:bh→bh} (h:∀ o,(f o).cd=o.cd):lK (l.map f)=lK l:=by
  unfold lK
  rw [List.map_map]
  congr 1
  exact List.map_congr_left fun o _=>h o
theorem uO {o:bh} (h:jF o=true):0≤o.cd∧o.cd≤8:=by
  cases hk:o.kind==0
  · exact jb.1 (oo h (CE hk)).2.2.2
  · rw [rj h hk]
    exact ⟨Int.le_refl 0,show (0:Int)≤8 by decide⟩
theorem yZ:∀ (l:List bh) (s:Int),(∀ o,o ∈ l→jF o=true)→0≤s→s+8 * (l.length:Int)≤1000000→l.foldl (fun n o=>IntKind.i64.wrap (n+o.cd)) s=s+lK l∧0≤lK l∧lK l≤8 * (l.length:Int)
  | [],s,_,_,_=>⟨(Int.add_zero s).symm,Int.le_refl _,Int.le_refl _⟩
  | o::l,s,h,h0,hB=>by
    have ho:=uO (h o (by simp))
    simp only [List.length_cons] at hB
    obtain ⟨a,b,c⟩:=yZ l (s+o.cd) (fun x hx=>h x (by simp [hx])) (by omega) (by omega)
    rw [List.foldl_cons,iM (by omega) (by omega),a]
    have e:lK (o::l)=o.cd+lK l:=rfl
    rw [e]
    simp only [List.length_cons]
    omega
theorem ua {p:ia} (h:Ar p.heap.ag):held p=lK p.heap.ag∧0≤lK p.heap.ag∧lK p.heap.ag≤80:=by
  have h10:=h.len
  unfold held
  rw [List.take_of_length_le (by omega),List.filter_eq_self.2 h.ok]
  obtain ⟨a,b,c⟩:=yZ p.heap.ag 0 h.ok (by decide) (by omega)
  exact ⟨by rw [a];omega,b,by omega⟩
theorem CI {h:ic} (q:Ar h.ag) {k:Int} (k0:0≤k) (k9:k≤9):lK (ku h k).ag=lK h.ag:=by
  unfold ku
  split
  · show lK (h.ag.set _ _)=_
    rw [tG k0 (by have:=q.len;omega)]
    show _ - _+(nth h.ag k).cd=_
    omega
  · rfl
theorem wG {l:List bh} {now:Int}:∀ (e:List Int) (h:ic),(∀ y,y ∈ e→0≤y∧y≤9)→Hk h→lK (e.foldl (jm l now) h).ag=lK h.ag
  | [],h,_,q=>rfl
  | k::e,h,he,q=>by
    have hk:=he k (by simp)
    rw [List.foldl_cons]
    have q1:Hk (jm l now h k):=by
      unfold jm
      split
      · exact q
      · exact q.ku hk.1 hk.2
    rw [wG e _ (fun y hy=>he y (by simp [hy])) q1]
    unfold jm
    split
    · rfl
    · exact CI q.ar hk.1 hk.2
theorem yL {h:ic} (q:Hk h) (now:Int):lK (jd h now).1.ag=lK h.ag - (if decide ((jd h now).2 ≥ 0) then (nth h.ag (jd h now).2).cd else 0):=by
  have h10:=q.ar.len
  unfold jd
  rw [if_pos (kc.2 q)]
  split
  · rename_i c
    have c:h.gc.phase=1:=by simpa using c
    have hph:=q.ph
    unfold lz at hph
    simp only [Bool.or_eq_true,Bool.and_eq_true,beq_iff_eq,jb] at hph
    have hp:0≤h.gc.pos∧h.gc.pos≤9:=by
      rcases hph with e | e
      · rw [c] at e;exact absurd e.1 (by decide)
      · exact e.2.1
    have hs:=ra q hp.1 hp.2 now
    have hs10:=hs.len
    have key:lK (jv h now)=lK h.ag - (if jC h now then (nth h.ag h.gc.pos).cd else 0):=by
      unfold jv
      cases hf:jC h now
      · simp only [Bool.false_eq_true,if_false]
        rw [tG hp.1 (by omega)]
        show _ - _+(nth h.ag h.gc.pos).cd=_
        omega
      · simp only [if_true]
        unfold jC at hf
        simp only [Bool.and_eq_true,bne_iff_ne,ne_eq] at hf
        unfold kp
        rw [if_pos (by
          rw [kf.2 q.ar]
          simp only [Bool.true_and,Bool.and_eq_true,jb,bne_iff_ne,ne_eq]
          exact ⟨⟨by omega,hp.2⟩,hf.2.1⟩)]
        simp only
        rw [EL (Cf _),tG hp.1 (by omega)]
        show _ - _+0=_
        omega
    have ke:(ka h now).2=if jC h now then h.gc.pos else -1:=rfl
    rw [ke]
    have e2:lK (ka h now).1.ag=lK (jv h now):=by
      unfold ka
      simp only
      split
      · show lK ((jv h now).set (0:Int).toNat (marked (nth (jv h now) 0) true))=_
        rw [tG (by omega) (by omega)]
        show _ - _+(nth (jv h now) 0).cd=_
        omega
      · rfl
    rw [e2,key]
    cases hf:jC h now
    · simp
    · simp only [if_true]
      rw [show decide (h.gc.pos ≥ 0)=true from decide_eq_true hp.1]
      rfl
  · simp only [show decide ((-1:Int) ≥ 0)=false from rfl,Bool.false_eq_true,if_false,Int.sub_zero]
    unfold ly
    split
    · rfl
    · rename_i hg
      obtain ⟨l0,l9⟩:=k8 (kc.2 q) hg
      split
      · rfl
      · rename_i he
        have hb:Hk (ic.mk (h.ag.set (ij h).toNat (marked (nth h.ag (ij h)) true)) (jH.mk h.gc.phase h.gc.pos h.gc.round (jD h))):=by
          have:=q.step now
          refine ⟨?_,?_,q.rd,fun y hy=>q.gr y (mi h y hy),tq q.nd⟩
          · refine q.ar.mark l0 l9 true fun _=>?_
            by_cases e0:ij h=0
            · rw [e0,q.ar.sV];rfl
            · cases hq:(nth h.ag (ij h)).kind==0
              · rfl
              · refine absurd ?_ he
                unfold iY
                rw [hq]
                simp [e0]
          · have hph:=q.ph
            unfold lz at hph ⊢
            rename_i c
            have c:h.gc.phase ≠ 1:=by simpa using c
            simp only [Bool.or_eq_true,Bool.and_eq_true,beq_iff_eq] at hph ⊢
            rcases hph with e | e
            · exact .inl e
            · exact absurd e.1 c
        rw [wG _ _ (k4 q.ar (ij h)).1 hb]
        show lK (h.ag.set _ _)=_
        rw [tG l0 (by omega)]
        show _ - _+(nth h.ag (ij h)).cd=_
        omega
theorem Ca {t:List iq} {a:iw} (hT:Tr t) (f:Int) (ha:i7 a=true) (hp:kh iw.cd t+a.cd≤1000000) (hr:kh iw.im t+a.im≤1000000) (hc:kh iw.iC t+a.iC≤1000000) :
    (lf t f a).2=true∧Tr (lf t f a).1∧kh iw.cd (lf t f a).1=kh iw.cd t+a.cd∧kh iw.im (lf t f a).1=kh iw.im t+a.im∧kh iw.iC (lf t f a).1=kh iw.iC t+a.iC:=by
  have ht:=mQ.2 hT
  obtain ⟨t1,t2,t3⟩:=hT.kh
  have hS:=jT.1 hT.sum
  have ha':=jT.1 ha
  have hsum:iV (kD t) a=⟨kh iw.cd t+a.cd,kh iw.im t+a.im,kh iw.iC t+a.iC⟩:=by
    unfold kD iV
    rw [if_pos ht,t1,t2,t3,iM (by omega) (by omega),iM (by omega) (by omega),iM (by omega) (by omega)]
  have hok:i7 (iV (kD t) a)=true:=by
    rw [hsum]
    exact jT.2 ⟨by dsimp only;omega,by dsimp only;omega,by dsimp only;omega⟩
  have hi:0≤(if ji t f then f else 0)∧(if ji t f then f else 0)≤4∧(nth t (if ji t f then f else 0)).live=true:=by
    split
    · rename_i q
      have:=lC q
      unfold ji at q
      simp only [Bool.and_eq_true] at q
      exact ⟨this.1,this.2,q.2⟩
    · exact ⟨Int.le_refl _,by decide,hT.wB⟩
  unfold lf
  rw [if_pos (by rw [ht,ha,hok];rfl)]
  simp only
  generalize (if ji t f then f else 0)=i at *
  obtain ⟨i0,i4,hv⟩:=hi
  have hl:=hT.len
  have hm:=nP (l:=t) i0 (by omega)
  have hb:=jT.1 (hT.iL _ hm)
  have e:iV (nth t i).iL a=⟨(nth t i).iL.cd+a.cd,(nth t i).iL.im+a.im,(nth t i).iL.iC+a.iC⟩:=by
    unfold iV
    rw [iM (by omega) (by omega),iM (by omega) (by omega),iM (by omega) (by omega)]
  obtain ⟨_,q⟩:=qF t ⟨0,0,0⟩ 0 hT.iL (by omega) (by omega) ⟨by decide,by decide⟩ ⟨by decide,by decide⟩ ⟨by decide,by decide⟩
  obtain ⟨q1,q2,q3⟩:=q _ hm hv
  rw [t1] at q1
  rw [t2] at q2
  rw [t3] at q3
  rw [e]
  obtain ⟨w1,w2⟩:=hT.set i0 i4 hv (b:=⟨(nth t i).iL.cd+a.cd,(nth t i).iL.im+a.im,(nth t i).iL.iC+a.iC⟩) (jT.2 ⟨by dsimp only;omega,by dsimp only;omega,by dsimp only;omega⟩) (jT.2 ⟨by dsimp only;omega,by dsimp only;omega,by dsimp only;omega⟩)
  refine ⟨trivial,w1,?_,?_,?_⟩
  · rw [w2];dsimp only;omega
  · rw [w2];dsimp only;omega
  · rw [w2];dsimp only;omega
def sp (p:ia):iw:=⟨kh iw.cd p.tree+lK p.heap.ag+p.hZ.cd,kh iw.im p.tree+p.hZ.im,kh iw.iC p.tree+p.hZ.iC⟩
theorem AJ {p:ia} (h:jR p=true):rf p=sp p∧((0≤(sp p).cd∧(sp p).cd≤2000080)∧(0≤(sp p).im∧(sp p).im≤2000000)∧(0≤(sp p).iC∧(sp p).iC≤2000000))∧0≤kh iw.cd p.tree∧0≤kh iw.im p.tree∧0≤kh iw.iC p.tree:=by
  have hT:=mQ.1 (rl h)
  obtain ⟨t1,t2,t3⟩:=hT.kh
  have hS:=jT.1 hT.sum
  rw [t1,t2,t3] at hS
  have hsp:=x9 (sC h)
  obtain ⟨g1,g2,g3⟩:=ua (qn h)
  have hts:kD p.tree=⟨kh iw.cd p.tree,kh iw.im p.tree,kh iw.iC p.tree⟩:=by
    unfold kD
    rw [if_pos (rl h), ← t1, ← t2, ← t3]
  unfold rf
  rw [sC h,g1,hts]
  simp only [if_true]
  unfold iV sp
  dsimp only
  rw [iM (n:=kh iw.cd p.tree+lK p.heap.ag) (by omega) (by omega),iM (by omega) (by omega),iM (by omega) (by omega),iM (by omega) (by omega)]
  exact ⟨rfl,⟨by omega,by omega,by omega⟩,by omega,by omega,by omega⟩
structure Ck (S R C:Int) (c:su):Prop where
  tr:Tr c.tree
  hp:Hk c.heap
  pg:kh iw.cd c.tree+lK c.heap.ag=S
  rt:kh iw.im c.tree=R
  cp:kh iw.iC c.tree=C
  w:wA c.heap.ag
theorem Ck.step {S R C:Int} {c:su} (h:Ck S R C c) (hS:S≤1000000) (now:Int):Ck S R C (lJ now c):=by
  have hq:=h.hp.step now
  have hg:=yL h.hp now
  obtain ⟨t1,t2,t3⟩:=h.tr.kh
  have hSm:=jT.1 h.tr.sum
  rw [t1,t2,t3] at hSm
  have h1:=h.pg
  have h2:=h.rt
  have h3:=h.cp
  obtain ⟨_,hw,_,hr⟩:=nt h.w now
  unfold lJ
  cases hd:decide ((jd c.heap now).2 ≥ 0)
  · rw [hd] at hg
    simp only [Bool.false_eq_true,if_false] at hg ⊢
    exact ⟨h.tr,hq,by dsimp only;omega,h2,h3,hw⟩
  · rw [hd] at hg
    simp only [if_true] at hg ⊢
    obtain ⟨_,d0,d9⟩:=hr hd
    have hpr:=uO (h.hp.ar.ok _ (h.hp.ar.at d0 d9).2)
    have hp':0≤lK (jd c.heap now).1.ag:=(ua (p:=⟨⟨[]⟩,[],[],(jd c.heap now).1,[],0,0,⟨0,0,0⟩,0,0⟩) hq.ar).2.1
    obtain ⟨_,b1,b2,b3,b4⟩:=Ca h.tr (nth c.heap.ag (jd c.heap now).2).res (a:=⟨(nth c.heap.ag (jd c.heap now).2).cd,0,0⟩) (jT.2 ⟨by dsimp only;omega,show (0:Int)≤0∧(0:Int)≤1000000 by decide,show (0:Int)≤0∧(0:Int)≤1000000 by decide⟩) (by dsimp only;omega) (by dsimp only;omega) (by dsimp only;omega)
    exact ⟨b1,hq,by dsimp only at *;omega,by dsimp only at *;omega,by dsimp only at *;omega,hw⟩
theorem Ck.steps {S R C:Int} (hS:S≤1000000) {now:Int}:∀ (k:Nat) (c:su),Ck S R C c→Ck S R C (sJ now k c)
  | 0,c,h=>h
  | k+1,c,h=>Ck.steps hS k _ (h.step hS now)
theorem yG {p:ia} (h:jR p=true) (hw:wP p) (hs:(sp p).cd≤1000000) (now steps:Int):jR (jS p now steps).1=true∧sp (jS p now steps).1=sp p:=by
  unfold jS
  split
  · have hh:Hk p.heap:=kc.1 (by
      unfold jR at h
      simp only [Bool.and_eq_true] at h
      exact h.2.2.2.1)
    have hsp:=x9 (sC h)
    have c0:Ck (kh iw.cd p.tree+lK p.heap.ag) (kh iw.im p.tree) (kh iw.iC p.tree) ⟨0,p.tree,p.heap⟩:=⟨mQ.1 (rl h),hh,rfl,rfl,rfl,hw⟩
    have c1:=Ck.steps (by unfold sp at hs;dsimp only at hs;omega) (now:=now) steps.toNat _ c0
    refine ⟨?_,?_⟩
    · unfold jR at h ⊢
      simp only [Bool.and_eq_true] at h ⊢
      exact ⟨h.1,h.2.1,mQ.2 c1.tr,kc.2 c1.hp,h.2.2.2.2⟩
    · have a:=c1.pg
      have b:=c1.rt
      have d:=c1.cp
      unfold sp
      dsimp only
      rw [a,b,d]
  · exact ⟨h,rfl⟩
end Go.Kx
