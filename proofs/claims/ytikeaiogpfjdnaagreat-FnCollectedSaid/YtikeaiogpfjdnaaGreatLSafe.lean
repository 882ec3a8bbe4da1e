/- Plain laws: that the collector is about to free nothing that is reached stays so, step by step. No program in sight. -/
import Derived.Test.YtikeaiogpfjdnaaGreatLGcOk
import Derived.Test.YtikeaiogpfjdnaaGreatLTaps
namespace Go.Kx
open Go
set_option linter.unusedVariables false
set_option linter.unusedSimpArgs false
set_option maxRecDepth 10000
theorem oD {l:List bh} (h:Ar l) {now i:Int} (h0:0≤i):nth (reach l now) i=true ↔ Reaches l now i:=by
  rw [Cm h0,(zA h now).2 i.toNat,Int.toNat_of_nonneg h0]
structure Sf (h:ic) (now:Int):Prop where
  hk:Hk h
  lo:h.gc.phase=1→∀ i,0≤i→i<h.gc.pos→(nth h.ag i).mark=false
  hi:h.gc.phase=1→∀ i,0<i→h.gc.pos≤i→Reaches h.ag now i→(nth h.ag i).mark=true
  bl:h.gc.phase=0→∀ i,Reaches h.ag now i→i ∉ h.gc.gE→(i=0∨(nth h.ag i).mark=true)→∀ k,k ∈ jL h.ag i→0<k→Reaches h.ag now k→(nth h.ag k).mark=true
theorem rS {h:ic} (q:Hk h):h.gc.phase=0∨(h.gc.phase=1∧0≤h.gc.pos∧h.gc.pos≤9∧h.gc.gE=[]):=by
  have hph:=q.ph
  unfold lz at hph
  simp only [Bool.or_eq_true,Bool.and_eq_true,beq_iff_eq,jb] at hph
  rcases hph with e | e
  · exact .inl e.1
  · exact .inr ⟨e.1,e.2.1.1,e.2.1.2,List.length_eq_zero_iff.1 (by omega)⟩
theorem u7 {h:ic} {r:List Bool} {i:Int} (h0:0≤i) {o:bh}:(!vo h r i.toNat o)=true ↔ (i<h.gc.pos→o.mark=false)∧(h.gc.pos≤i→0<i→nth r i=true→o.mark=true):=by
  unfold vo
  rw [Int.toNat_of_nonneg h0]
  cases o.mark <;> cases nth r i <;> simp <;> omega
theorem Bi {h:ic} {r:List Bool} {i:Int} (h0:0≤i) {o:bh}:A3 h r i.toNat o=true ↔ (nth r i=true→i ∉ h.gc.gE→(i=0∨o.mark=true)→∀ k,k ∈ jL h.ag i→0<k→nth r k=true→(nth h.ag k).mark=true):=by
  unfold A3 black wH
  rw [Int.toNat_of_nonneg h0]
  simp only [Bool.or_eq_true,Bool.not_eq_true',Bool.and_eq_false_iff,Bool.or_eq_false_iff,List.all_eq_true,decide_eq_false_iff_not,Bool.not_eq_false',beq_eq_false_iff_ne,ne_eq]
  constructor
  · rintro q r1 r2 r3 k k1 k2 k3
    rcases q with (q | q | q) | q
    · rw [r1] at q;cases q
    · rcases r3 with r3 | r3
      · exact absurd r3 q.2
      · rw [r3] at q;cases q.1
    · exact absurd (by simpa using q) r2
    · rcases q k k1 with a | a | a
      · exact absurd k2 a
      · rw [k3] at a;cases a
      · exact a
  · intro q
    by_cases r1:nth r i=true
    · by_cases r2:i ∈ h.gc.gE
      · exact .inl (.inr (.inr (by simpa using r2)))
      · by_cases r3:i=0∨o.mark=true
        · refine .inr fun k k1=>?_
          by_cases k2:0<k
          · cases k3:nth r k
            · exact .inr (.inl rfl)
            · exact .inr (.inr (q r1 r2 r3 k k1 k2 k3))
          · exact .inl k2
        · refine .inl (.inr (.inl ⟨?_,fun e=>r3 (.inl e)⟩))
          cases hm:o.mark
          · rfl
          · exact absurd (.inr hm) r3
    · exact .inl (.inl (by simpa using r1))
theorem BP {h:ic} {now:Int}:wy h now=true ↔ Sf h now:=by
  unfold wy
  rw [Bool.and_eq_true,kc]
  have all_:∀ {p:Nat→bh→Bool},Hk h→(allI p 0 h.ag=true ↔ ∀ i:Int,0≤i→i≤9→p i.toNat (nth h.ag i)=true):=fun {p} q=>by
    have h10:=q.ar.len
    rw [lO]
    constructor
    · intro hp i h0 h9
      have:=hp i.toNat (nth h.ag i) (lj h0 (by omega))
      rwa [Nat.zero_add] at this
    · intro hp k y hy
      have hl:=jg hy
      have:=hp (k:Int) (by omega) (by omega)
      rw [qN hy] at this
      rwa [Nat.zero_add]
  constructor
  · rintro ⟨hk,q⟩
    rcases rS hk with c | ⟨c,p0,p9,g⟩
    · rw [c] at q
      rw [show ((0:Int)==1)=false from rfl,cond_false,all_ hk] at q
      refine ⟨hk,fun e=>absurd (c.symm.trans e) (by decide),fun e=>absurd (c.symm.trans e) (by decide),fun _ i r1 r2 r3 k k1 k2 k3=>?_⟩
      obtain ⟨i0,i9⟩:=r1.oI hk.ar
      exact (Bi i0).1 (q i i0 i9) ((oD hk.ar i0).2 r1) r2 r3 k k1 k2 ((oD hk.ar (by omega)).2 k3)
    · rw [c] at q
      rw [show ((1:Int)==1)=true from rfl,cond_true,all_ hk] at q
      refine ⟨hk,fun _ i i0 i1=>((u7 i0).1 (q i i0 (by omega))).1 i1,fun _ i i0 i1 r=>?_,fun e=>absurd (c.symm.trans e) (by decide)⟩
      obtain ⟨_,i9⟩:=r.oI hk.ar
      exact ((u7 (by omega)).1 (q i (by omega) i9)).2 i1 i0 ((oD hk.ar (by omega)).2 r)
  · intro s
    refine ⟨s.hk,?_⟩
    rcases rS s.hk with c | ⟨c,p0,p9,g⟩
    · rw [show (h.gc.phase==1)=false by rw [c];rfl,cond_false,all_ s.hk]
      intro i i0 i9
      exact (Bi i0).2 fun r1 r2 r3 k k1 k2 k3=>s.bl c i ((oD s.hk.ar i0).1 r1) r2 r3 k k1 k2 ((oD s.hk.ar (by omega)).1 k3)
    · rw [show (h.gc.phase==1)=true by rw [c];rfl,cond_true,all_ s.hk]
      intro i i0 i9
      exact (u7 i0).2 ⟨fun i1=>s.lo c i i0 i1,fun i1 i2 r=>s.hi c i i2 i1 ((oD s.hk.ar i0).1 r)⟩
theorem yB {o:bh} {a b:Int} (h:a≤b) (q:iY o b=false):iY o a=false:=by
  unfold iY at q ⊢
  cases hk:o.kind==0
  · rw [hk] at q
    simp only [cond_false,decide_eq_false_iff_not] at q ⊢
    omega
  · rw [hk] at q;cases q
theorem Reaches.mono {l:List bh} {a b:Int} (h:a≤b) {k:Int} (r:Reaches l b k):Reaches l a k:=by
  induction r with
  | root=>exact .root
  | step _ q2 q3 ih=>exact .step ih q2 (yB h q3)
theorem Sf.mono {h:ic} {a b:Int} (q:a≤b) (s:Sf h a):Sf h b :=
  ⟨s.hk,s.lo,fun c i i0 i1 r=>s.hi c i i0 i1 (r.mono q),fun c i r1 r2 r3 k k1 k2 k3=>s.bl c i (r1.mono q) r2 r3 k k1 k2 (k3.mono q)⟩
structure uw (h t:ic):Prop where
  sk:h.ag.map kj=t.ag.map kj
  ph:t.gc.phase=h.gc.phase
  po:t.gc.pos=h.gc.pos
  gr:∀ y,y ∈ h.gc.gE→y ∈ t.gc.gE
  up:∀ i,0≤i→i≤9→(nth h.ag i).mark=true→(nth t.ag i).mark=true
  dn:∀ i,0≤i→i≤9→(nth t.ag i).mark=true→(nth h.ag i).mark=true∨i ∈ t.gc.gE
theorem uw.rfl (h:ic):uw h h:=⟨Eq.refl _,Eq.refl _,Eq.refl _,fun _ q=>q,fun _ _ _ q=>q,fun _ _ _ q=>.inl q⟩
theorem uw.trans {h t u:ic} (a:uw h t) (b:uw t u):uw h u :=
  ⟨a.sk.trans b.sk,b.ph.trans a.ph,b.po.trans a.po,fun y q=>b.gr y (a.gr y q),fun i i0 i9 q=>b.up i i0 i9 (a.up i i0 i9 q),fun i i0 i9 q=>by
    rcases b.dn i i0 i9 q with c | c
    · rcases a.dn i i0 i9 c with d | d
      · exact .inl d
      · exact .inr (b.gr i d)
    · exact .inr c⟩
theorem nu {l:List bh} {i:Int} (h0:0≤i) (h1:i<(l.length:Int)) {z:bh} (e:kj z=kj (nth l i)):l.map kj=(l.set i.toNat z).map kj:=by
  rw [List.map_set,e,qg (v5 i h0 h1)]
theorem xS {h:ic} (h10:h.ag.length=10) {k:Int} (k0:0≤k) (k9:k≤9):uw h (ku h k)∧(h.gc.phase=0→(nth h.ag k).kind ≠ 0→(nth (ku h k).ag k).mark=true):=by
  have hn:∀ j,0≤j→nth (h.ag.set k.toNat (marked (nth h.ag k) true)) j=if k=j then marked (nth h.ag k) true else nth h.ag j:=fun j hj=>lk k0 (by omega) hj
  unfold ku
  split
  · rename_i c
    refine ⟨⟨nu k0 (by omega) rfl,rfl,rfl,fun y hy=>?_,fun i i0 i9 q=>?_,fun i i0 i9 q=>?_⟩,fun _ _=>?_⟩
    · dsimp only
      split
      · exact hy
      · exact List.mem_append_left _ hy
    · dsimp only
      rw [hn i i0]
      split
      · rfl
      · exact q
    · dsimp only at q ⊢
      rw [hn i i0] at q
      split at q
      · rename_i e
        subst e
        refine .inr ?_
        split
        · rename_i g;simpa using g
        · simp
      · exact .inl q
    · dsimp only
      rw [hn k k0,if_pos rfl];rfl
  · rename_i c
    refine ⟨uw.rfl h,fun e1 e2=>?_⟩
    cases hm:(nth h.ag k).mark
    · exact absurd (by rw [e1,hm];simp [e2]) c
    · rfl
theorem qo {l:List bh} {now:Int}:∀ (e:List Int) (h:ic),h.ag.length=10→(∀ y,y ∈ e→0≤y∧y≤9)→l.map kj=h.ag.map kj →
    uw h (e.foldl (jm l now) h)∧(h.gc.phase=0→∀ y,y ∈ e→iY (nth l y) now=false→(nth (e.foldl (jm l now) h).ag y).mark=true) ∧
    ∀ i,0≤i→i≤9→(nth (e.foldl (jm l now) h).ag i).mark=true→(nth h.ag i).mark=true∨(i ∈ e∧iY (nth l i) now=false)
  | [],h,_,_,_=>⟨uw.rfl h,fun _ y hy=>by simp at hy,fun i _ _ q=>.inl q⟩
  | k::e,h,h10,he,hs=>by
    obtain ⟨k0,k9⟩:=he k (by simp)
    obtain ⟨a1,a2⟩:=xS h10 k0 k9
    have b1:uw h (jm l now h k):=by
      unfold jm
      split
      · exact uw.rfl h
      · exact a1
    have hl:(jm l now h k).ag.length=10:=by
      have:=congrArg List.length b1.sk
      simp only [List.length_map] at this
      omega
    have ek:(nth l k).kind=(nth h.ag k).kind:=congrArg Sk.kind (kS hs k0 (by have:=congrArg List.length hs;simp only [List.length_map] at this;omega))
    obtain ⟨c1,c2,c3⟩:=qo e _ hl (fun y hy=>he y (by simp [hy])) (hs.trans b1.sk)
    rw [List.foldl_cons]
    refine ⟨b1.trans c1,fun e1 y hy hx=>?_,fun i i0 i9 q=>?_⟩
    · rcases List.mem_cons.1 hy with rfl | hy
      · refine c1.up y k0 k9 ?_
        unfold jm
        rw [hx]
        exact a2 e1 (by rw [← ek];exact yS hx)
      · exact c2 (b1.ph.trans e1) y hy hx
    · rcases c3 i i0 i9 q with d | d
      · unfold jm at d
        split at d
        · exact .inl d
        · rename_i hx
          unfold ku at d
          split at d
          · dsimp only at d
            rw [lk k0 (by omega) i0] at d
            split at d
            · rename_i e'
              subst e'
              exact .inr ⟨by simp,by simpa using hx⟩
            · exact .inl d
          · exact .inl d
      · exact .inr ⟨by simp [d.1],d.2⟩
def lI (l:List bh) (i:Int):List bh:=(l.set i.toNat (blank (nth l i).gen)).map (k7 i)
theorem mX {l:List bh} (h10:l.length=10) {i:Int} (h0:0≤i) (h9:i≤9) {j:Int} (j0:0≤j) (j9:j≤9):nth (lI l i) j=if i=j then blank (nth l i).gen else k7 i (nth l j):=by
  unfold lI
  rw [AQ _ j0 (by rw [List.length_set];omega),lk h0 (by omega) j0]
  split
  · rfl
  · rfl
theorem sQ {l:List bh} (h10:l.length=10) {i k:Int}:k ∈ jL l i ↔ (0≤k∧k≤9)∧((0<k∧(nth l k).kind ≠ 0∧(nth l k).box=i∧(nth l i).kind=1)∨k ∈ (nth l i).ib):=by
  unfold jL
  rw [rF]
  constructor
  · rintro ⟨j,y,h1,h2,h3⟩
    have hl:=jg h1
    rw [Nat.zero_add] at h2 h3
    subst h3
    refine ⟨⟨by omega,by omega⟩,?_⟩
    rw [qN h1]
    unfold sF at h2
    simp only [Bool.or_eq_true,Bool.and_eq_true,decide_eq_true_eq,bne_iff_ne,ne_eq,beq_iff_eq,List.contains_iff_mem] at h2
    rcases h2 with ⟨a,b,c,d⟩ | a
    · exact .inl ⟨a,b,c,d⟩
    · exact .inr a
  · rintro ⟨⟨k0,k9⟩,q⟩
    refine ⟨k.toNat,nth l k,lj k0 (by omega),?_,by rw [Nat.zero_add];omega⟩
    rw [Nat.zero_add]
    unfold sF
    rw [Int.toNat_of_nonneg k0]
    simp only [Bool.or_eq_true,Bool.and_eq_true,decide_eq_true_eq,bne_iff_ne,ne_eq,beq_iff_eq,List.contains_iff_mem]
    rcases q with ⟨a,b,c,d⟩ | a
    · exact .inl ⟨a,b,c,d⟩
    · exact .inr a
theorem CO {i:Int} {o:bh} {k:Int} (k0:0≤k) (h:k ∈ (k7 i o).ib):k ∈ o.ib∧k ≠ i∨o.kind=0∧k ∈ o.ib:=by
  unfold k7 at h
  split at h
  · rename_i c;exact .inr ⟨by simpa using c,h⟩
  · obtain ⟨v,hv,e⟩:=List.mem_map.1 h
    unfold qV at e
    split at e
    · omega
    · rename_i c
      subst e
      exact .inl ⟨hv,by simpa using c⟩
theorem wL {l:List bh} (h:Ar l) {i:Int} (h0:1≤i) (h9:i≤9) {j k:Int} (j0:0≤j) (j9:j≤9) (q:k ∈ jL (lI l i) j):k ∈ jL l j∧k ≠ i∧j ≠ i:=by
  have h10:=h.len
  have f10:(lI l i).length=10:=by unfold lI;rw [List.length_map,List.length_set];exact h10
  obtain ⟨⟨k0,k9⟩,q⟩:=(sQ f10).1 q
  rw [mX h10 (by omega) h9 j0 j9,mX h10 (by omega) h9 k0 k9] at q
  have hji:j ≠ i:=by
    intro e
    subst e
    rw [if_pos rfl] at q
    rcases q with q | q
    · exact absurd q.2.2.2 (show (0:Int) ≠ 1 by decide)
    · simp [blank] at q
  rw [if_neg (Ne.symm hji)] at q
  rcases q with ⟨a,b,c,d⟩ | q
  · have hki:k ≠ i:=by
      intro e
      subst e
      rw [if_pos rfl] at b
      exact b rfl
    rw [if_neg (Ne.symm hki),nC] at b
    rw [if_neg (Ne.symm hki)] at c
    rw [nC] at d
    refine ⟨(sQ h10).2 ⟨⟨k0,k9⟩,.inl ⟨a,b,?_,d⟩⟩,hki,hji⟩
    unfold k7 at c
    rw [if_neg (by simpa using b)] at c
    dsimp only at c
    split at c
    · omega
    · exact c
  · rcases CO k0 q with e | e
    · exact ⟨(sQ h10).2 ⟨⟨k0,k9⟩,.inr e.1⟩,e.2,hji⟩
    · rw [rj (h.ok _ (h.at j0 j9).2) (by simpa using e.1)] at e
      simp [blank] at e
theorem BI {l:List bh} (h:Ar l) {i:Int} (h0:1≤i) (h9:i≤9) {j k:Int} (j0:0≤j) (j9:j≤9) (hj:j ≠ i) (hk:k ≠ i) (q:k ∈ jL l j):k ∈ jL (lI l i) j:=by
  have h10:=h.len
  have f10:(lI l i).length=10:=by unfold lI;rw [List.length_map,List.length_set];exact h10
  obtain ⟨⟨k0,k9⟩,q⟩:=(sQ h10).1 q
  refine (sQ f10).2 ⟨⟨k0,k9⟩,?_⟩
  rw [mX h10 (by omega) h9 j0 j9,mX h10 (by omega) h9 k0 k9,if_neg (Ne.symm hj),if_neg (Ne.symm hk),nC,nC]
  rcases q with ⟨a,b,c,d⟩ | q
  · refine .inl ⟨a,b,?_,d⟩
    unfold k7
    rw [if_neg (by simpa using b)]
    dsimp only
    rw [if_neg (by simp;omega)]
    exact c
  · refine .inr ?_
    unfold k7
    split
    · exact q
    · exact List.mem_map.2 ⟨k,q,by unfold qV;rw [if_neg (by simpa using hk)]⟩
theorem uX {l:List bh} (h10:l.length=10) {i:Int} (h0:0≤i) (h9:i≤9) {j:Int} (j0:0≤j) (j9:j≤9) (hj:j ≠ i) (now:Int):iY (nth (lI l i) j) now=iY (nth l j) now:=by
  rw [mX h10 h0 h9 j0 j9,if_neg (Ne.symm hj)]
  unfold iY
  rw [nC,A7]
theorem Az {l:List bh} (h:Ar l) {i:Int} (h0:1≤i) (h9:i≤9) {now:Int} {k:Int} (r:Reaches (lI l i) now k):Reaches l now k:=by
  induction r with
  | root=>exact .root
  | step q1 q2 q3 ih =>
    obtain ⟨j0,j9⟩:=ih.oI h
    obtain ⟨e1,e2,e3⟩:=wL h h0 h9 j0 j9 q2
    obtain ⟨k0,k1⟩:=l8 e1
    rw [uX h.len (by omega) h9 k0 (by have:=h.len;omega) e2] at q3
    exact .step ih e1 q3
theorem Ae {l:List bh} (h:Ar l) {i:Int} (h0:1≤i) (h9:i≤9) {now:Int} (hn:¬ Reaches l now i) {k:Int} (r:Reaches l now k):Reaches (lI l i) now k:=by
  induction r with
  | root=>exact .root
  | step q1 q2 q3 ih =>
    rename_i a b
    obtain ⟨j0,j9⟩:=q1.oI h
    obtain ⟨k0,k1⟩:=l8 q2
    have ha:a ≠ i:=fun e=>hn (e ▸ q1)
    have hb:b ≠ i:=fun e=>hn (e ▸ .step q1 q2 q3)
    refine .step ih (BI h h0 h9 j0 j9 ha hb q2) ?_
    rw [uX h.len (by omega) h9 k0 (by have:=h.len;omega) hb]
    exact q3
theorem zy (i:Int) (o:bh):(k7 i o).mark=o.mark:=by unfold k7;split <;> rfl
theorem xB (i:Int) (o:bh):(k7 i o).gen=o.gen:=by unfold k7;split <;> rfl
theorem wo {h:ic} (q:Hk h) (p0:0≤h.gc.pos) (p9:h.gc.pos≤9) (now:Int):(jC h now=true∧1≤h.gc.pos∧jv h now=lI h.ag h.gc.pos)∨(jC h now=false∧jv h now=h.ag.set h.gc.pos.toNat (marked (nth h.ag h.gc.pos) false)):=by
  unfold jv
  cases hf:jC h now
  · exact .inr ⟨rfl,rfl⟩
  · unfold jC at hf
    simp only [Bool.and_eq_true,bne_iff_ne,ne_eq] at hf
    refine .inl ⟨rfl,by omega,?_⟩
    rw [if_pos rfl]
    unfold kp
    rw [if_pos (by
      rw [kf.2 q.ar]
      simp only [Bool.true_and,Bool.and_eq_true,jb,bne_iff_ne,ne_eq]
      exact ⟨⟨by omega,p9⟩,hf.2.1⟩)]
    rfl
theorem Sf.free {h:ic} {now:Int} (s:Sf h now) (c:h.gc.phase=1) (hf:jC h now=true):¬ Reaches h.ag now h.gc.pos:=by
  intro r
  unfold jC at hf
  simp only [Bool.and_eq_true,bne_iff_ne,ne_eq,Bool.or_eq_true,Bool.not_eq_true'] at hf
  have:=r.oI s.hk.ar
  rcases hf.2.2 with e | e
  · rw [r8 s.hk.ar r hf.1] at e;cases e
  · rw [s.hi c _ (by omega) (Int.le_refl _) r] at e;cases e
theorem Sf.jv {h:ic} {now:Int} (s:Sf h now) (c:h.gc.phase=1) :
    (∀ k,Reaches (jv h now) now k ↔ Reaches h.ag now k)∧(∀ j,0≤j→j≤9→(nth (Kx.jv h now) j).mark=if h.gc.pos=j then false else (nth h.ag j).mark) ∧
    ∀ j,Reaches h.ag now j→(nth (Kx.jv h now) j).gen=(nth h.ag j).gen∧(nth (Kx.jv h now) j).kind=(nth h.ag j).kind:=by
  rcases rS s.hk with e | ⟨_,p0,p9,g⟩
  · exact absurd (e.symm.trans c) (by decide)
  have ar:=s.hk.ar
  have h10:=ar.len
  rcases wo s.hk p0 p9 now with ⟨hf,p1,e⟩ | ⟨hf,e⟩
  · have hn:=s.free c hf
    rw [e]
    refine ⟨fun k=>⟨Az ar p1 p9,Ae ar p1 p9 hn⟩,fun j j0 j9=>?_,fun j r=>?_⟩
    · rw [mX h10 p0 p9 j0 j9]
      split
      · rfl
      · exact zy _ _
    · obtain ⟨j0,j9⟩:=r.oI ar
      rw [mX h10 p0 p9 j0 j9,if_neg (fun e:h.gc.pos=j=>hn (by rw [e];exact r))]
      exact ⟨xB _ _,nC _ _⟩
  · rw [e]
    have hs:=nu (l:=h.ag) (i:=h.gc.pos) p0 (by omega) (z:=marked (nth h.ag h.gc.pos) false) rfl
    have ar':Ar (h.ag.set h.gc.pos.toNat (marked (nth h.ag h.gc.pos) false)):=ar.mark p0 p9 false fun h=>by cases h
    refine ⟨fun k=>⟨m6 ar' hs.symm,m6 ar hs⟩,fun j j0 j9=>?_,fun j r=>?_⟩
    · rw [lk p0 (by omega) j0]
      split
      · rfl
      · rfl
    · obtain ⟨j0,j9⟩:=r.oI ar
      rw [lk p0 (by omega) j0]
      split
      · rename_i e;subst e;exact ⟨rfl,rfl⟩
      · exact ⟨rfl,rfl⟩
theorem tj {l:List bh} (h10:l.length=10):l.map kj=(nK l).map kj:=nu (l:=l) (i:=0) (by omega) (by omega) rfl
theorem Sf.step {h:ic} {now:Int} (s:Sf h now):Sf (jd h now).1 now∧(∀ k,Reaches (jd h now).1.ag now k ↔ Reaches h.ag now k) ∧
    ∀ j,Reaches h.ag now j→(nth (jd h now).1.ag j).gen=(nth h.ag j).gen∧(nth (jd h now).1.ag j).kind=(nth h.ag j).kind:=by
  have hk':=s.hk.step now
  have ar:=s.hk.ar
  have h10:=ar.len
  have kW:∀ t:ic,Ar t.ag→h.ag.map kj=t.ag.map kj→(∀ k,Reaches t.ag now k ↔ Reaches h.ag now k) ∧
      ∀ j,Reaches h.ag now j→(nth t.ag j).gen=(nth h.ag j).gen∧(nth t.ag j).kind=(nth h.ag j).kind:=fun t at_ e =>
    ⟨fun k=>⟨m6 at_ e.symm,m6 ar e⟩,fun j r=>by
      obtain ⟨j0,j9⟩:=r.oI ar
      have:=kS e j0 (by omega)
      exact ⟨(congrArg Sk.gen this).symm,(congrArg Sk.kind this).symm⟩⟩
  unfold jd at hk' ⊢
  rw [if_pos (kc.2 s.hk)] at hk' ⊢
  rcases rS s.hk with c | ⟨c,p0,p9,g⟩
  · rw [if_neg (by rw [c];decide)] at hk' ⊢
    dsimp only at hk' ⊢
    unfold ly at hk' ⊢
    split at hk'
    · rename_i hg
      rw [if_pos hg]
      refine ⟨⟨hk',fun _ i i0 i1=>?_,fun _ i i0 _ r=>?_,fun e=>absurd e (show (1:Int) ≠ 0 by decide)⟩,kW _ ar rfl⟩
      · exact absurd i1 (show ¬ i<0 by omega)
      · have hnil:h.gc.gE=[]:=List.length_eq_zero_iff.1 hg
        have key:∀ i,Reaches h.ag now i→i=0∨(nth h.ag i).mark=true:=fun i r=>by
          induction r with
          | root=>exact .inl rfl
          | step q1 q2 q3 ih =>
            rename_i a b
            obtain ⟨k0,_⟩:=l8 q2
            by_cases b0:b=0
            · exact .inl b0
            · exact .inr (s.bl c a q1 (by rw [hnil];simp) ih b q2 (by omega) (.step q1 q2 q3))
        rcases key i r with e | e
        · omega
        · exact e
    · rename_i hg
      rw [if_neg hg]
      obtain ⟨l0,l9⟩:=k8 (kc.2 s.hk) hg
      have hsub:∀ i,i ∈ h.gc.gE→i=ij h∨i ∈ jD h:=fun i hi=>by
        obtain ⟨k,hk⟩:=List.getElem?_of_mem hi
        have hl:=jg hk
        by_cases e:k=h.gc.gE.length - 1
        · refine .inl ?_
          unfold ij
          rw [show ((h.gc.gE.length:Int) - 1)=(k:Int) by omega,qN hk]
        · refine .inr ?_
          unfold jD
          exact List.mem_of_getElem? (i:=k) (by rw [List.getElem?_take,if_pos (by omega)];exact hk)
      split at hk'
      · rename_i he
        rw [if_pos he]
        simp only [Bool.and_eq_true,bne_iff_ne,ne_eq] at he
        refine ⟨⟨hk',fun e=>absurd (c.symm.trans e) (by decide),fun e=>absurd (c.symm.trans e) (by decide),fun _ i r1 r2 r3 k k1 k2 k3=>?_⟩,kW _ ar rfl⟩
        refine s.bl c i r1 (fun hi=>?_) r3 k k1 k2 k3
        rcases hsub i hi with e | e
        · rw [e] at r1
          have:=r8 ar r1 he.1
          rw [he.2] at this;cases this
        · exact r2 e
      · rename_i he
        rw [if_neg he]
        have hb:nth h.ag (ij h)=nth h.ag (ij h):=rfl
        have hs0:=nu (l:=h.ag) (i:=ij h) l0 (by omega) (z:=marked (nth h.ag (ij h)) true) rfl
        obtain ⟨c1,c2,c3⟩:=qo (l:=h.ag) (now:=now) (jL h.ag (ij h)) (ic.mk (h.ag.set (ij h).toNat (marked (nth h.ag (ij h)) true)) (jH.mk h.gc.phase h.gc.pos h.gc.round (jD h))) (by dsimp only;rw [List.length_set];exact h10) (k4 ar (ij h)).1 hs0
        have hm:∀ j,0≤j→nth (h.ag.set (ij h).toNat (marked (nth h.ag (ij h)) true)) j=if ij h=j then marked (nth h.ag (ij h)) true else nth h.ag j:=fun j hj=>lk l0 (by omega) hj
        have hsk:=hs0.trans c1.sk
        obtain ⟨k1,k2⟩:=kW _ hk'.ar hsk
        refine ⟨⟨hk',fun e=>absurd (c.symm.trans (c1.ph.symm.trans e)) (by decide),fun e=>absurd (c.symm.trans (c1.ph.symm.trans e)) (by decide),fun _ i r1 r2 r3 k q1 q2 q3=>?_⟩,k1,k2⟩
        have r1':=(k1 i).1 r1
        have q3':=(k1 k).1 q3
        obtain ⟨i0,i9⟩:=r1'.oI ar
        obtain ⟨k0,k9⟩:=q3'.oI ar
        rw [← tU hsk i0 (by omega)] at q1
        have live:=r8 ar q3' (by omega)
        by_cases e:i=ij h
        · subst e
          exact c2 c k q1 live
        · have hi0:i=0∨(nth h.ag i).mark=true:=by
            rcases r3 with r3 | r3
            · exact .inl r3
            · refine .inr ?_
              rcases c1.dn i i0 i9 r3 with d | d
              · dsimp only at d
                rw [hm i i0,if_neg (Ne.symm e)] at d
                exact d
              · exact absurd d r2
          have hig:i ∉ h.gc.gE:=fun hi=>by
            rcases hsub i hi with e' | e'
            · exact e e'
            · exact r2 (c1.gr i e')
          have:=s.bl c i r1' hig hi0 k q1 q2 q3'
          refine c1.up k k0 k9 ?_
          dsimp only
          rw [hm k k0]
          split
          · rfl
          · exact this
  · rw [if_pos (by rw [c];rfl)] at hk' ⊢
    obtain ⟨w1,w2,w3⟩:=s.jv c
    unfold ka at hk' ⊢
    have sar:Ar (Kx.jv h now):=ra s.hk p0 p9 now
    split at hk'
    · rename_i c9
      have c9:h.gc.pos=9:=by simpa using c9
      rw [if_pos (by rw [c9];rfl)]
      dsimp only at hk' ⊢
      have fs:=tj sar.len
      have fr:∀ k,Reaches (nK (Kx.jv h now)) now k ↔ Reaches h.ag now k:=fun k=>Iff.trans ⟨m6 hk'.ar fs.symm,m6 sar fs⟩ (w1 k)
      refine ⟨⟨hk',fun e=>absurd e (show (0:Int) ≠ 1 by decide),fun e=>absurd e (show (0:Int) ≠ 1 by decide),fun _ i r1 r2 r3 k q1 q2 q3=>?_⟩,fr,fun j r=>?_⟩
      · dsimp only at r1 r2 r3
        obtain ⟨i0,i9⟩:=r1.oI hk'.ar
        have hi:i ≠ 0:=fun e=>r2 (by simp [e])
        rcases r3 with r3 | r3
        · exact absurd r3 hi
        · unfold nK at r3
          rw [show (0:Nat)=(0:Int).toNat from rfl,lk (by omega) (by have:=sar.len;omega) i0,if_neg (Ne.symm hi),w2 i i0 i9] at r3
          split at r3
          · cases r3
          · rw [s.lo c i i0 (by omega)] at r3;cases r3
      · obtain ⟨j0,j9⟩:=r.oI ar
        have:=kS fs j0 (by have:=sar.len;omega)
        have a:(nth (Kx.jv h now) j).gen=(nth (nK (Kx.jv h now)) j).gen:=congrArg Sk.gen this
        have b:(nth (Kx.jv h now) j).kind=(nth (nK (Kx.jv h now)) j).kind:=congrArg Sk.kind this
        rw [← a, ← b]
        exact w3 j r
    · rename_i c9
      have c9:h.gc.pos ≠ 9:=by simpa using c9
      rw [if_neg (by simpa using c9)]
      dsimp only at hk' ⊢
      refine ⟨⟨hk',fun _ i i0 i1=>?_,fun _ i i0 i1 r=>?_,fun e=>absurd (c.symm.trans e) (by decide)⟩,w1,w3⟩
      · dsimp only at i1 ⊢
        rw [w2 i i0 (by omega)]
        split
        · rfl
        · exact s.lo c i i0 (by omega)
      · dsimp only at i1 r ⊢
        have r':=(w1 i).1 r
        obtain ⟨_,i9⟩:=r'.oI ar
        rw [w2 i (by omega) i9,if_neg (by omega)]
        exact s.hi c i i0 (by omega) r'
end Go.Kx
