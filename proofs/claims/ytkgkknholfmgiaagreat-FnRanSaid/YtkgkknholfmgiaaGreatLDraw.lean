/- Plain laws: the first draws come to an end. No program in sight. -/
import Derived.Test.YtkgkknholfmgiaaGreatLBoot
namespace Go.Kx
open Go
set_option linter.unusedVariables false
set_option linter.unusedSimpArgs false
set_option maxRecDepth 10000
theorem iter_to {σ ρ:Type} {body:σ→Option (σ⊕ρ)} (I:σ→Prop) (J:ρ→Prop) (μ:σ→Nat)
    (h:∀ s,I s→∃ o,body s=some o∧(∀ s',o=.inl s'→I s'∧μ s'<μ s)∧∀ r,o=.inr r→J r):∀ (N:Nat) (s:σ),I s→μ s<N→∃ r,iter body N s=some r∧J r
  | 0,_,_,hN=>absurd hN (Nat.not_lt_zero _)
  | N+1,s,hI,hN=>by
    obtain ⟨o,ho,h1,h2⟩:=h s hI
    cases o with
    | inl s' =>
      obtain ⟨hI',hm⟩:=h1 s' rfl
      obtain ⟨r,hr,hJ⟩:=iter_to I J μ h N s' hI' (by omega)
      exact ⟨r,by show (body s).bind _=_;rw [ho];exact hr,hJ⟩
    | inr r=>exact ⟨r,by show (body s).bind _=_;rw [ho];rfl,h2 r rfl⟩
theorem idx_ex {α:Type} {l:List α} {i:Int} (h0:0≤i) (h1:i<(l.length:Int)):∃ y,idx l i=some y∧y ∈ l:=by
  have hz:l[i.toNat]?=some (l[i.toNat]'(by omega)):=List.getElem?_eq_getElem _
  exact ⟨_,by unfold idx;rw [if_pos h0,hz],List.getElem_mem _⟩
theorem iAnd_le (a:Int) {m:Int} (h0:0≤m) (h1:m≤2147483647):0≤iAnd a m∧iAnd a m≤m:=by
  have h:(BitVec.ofInt IntKind.i64.bits a &&& BitVec.ofInt IntKind.i64.bits m).toNat≤m.toNat:=by
    rw [BitVec.toNat_and]
    refine Nat.le_trans Nat.and_le_right ?_
    rw [BitVec.toNat_ofInt]
    show (m % ((2 ^ 64:Nat):Int)).toNat≤m.toNat
    rw [Int.emod_eq_of_lt h0 (by omega)]
    exact Nat.le_refl _
  unfold iAnd
  rw [wrap_ok (by omega) (by omega)]
  omega
def Cu (c:DCur):Prop:=c.b.length≤1048576∧0≤c.i
theorem Cu.to {c:DCur} (hc:Cu c) {i h:Int} (hi:0≤i):Cu ⟨c.b,i,h⟩:=⟨hc.1,hi⟩
theorem d_New {N:Nat} (hN:BIG≤N) {l:List U8} (hl:l.length≤1048576):∃ h,F_s_l1New N l=some ⟨l,0,h⟩:=by
  unfold F_s_l1New
  have hB:(16777216:Nat)≤N:=hN
  obtain ⟨r,hr,_⟩:=iter_to (body:=fun (s1:Int×Int)=>((bif (decide (s1.2<(l.length:Int))) then (some (decide (s1.2<4000))) else (some false):Option Bool).bind fun j3=>bif j3 then ((idx l s1.2).bind fun y8=>some (.inl (iAnd (IntKind.i64.wrap ((IntKind.i64.wrap ((IntKind.i64.wrap (s1.1 * 131))+(IntKind.i64.wrap y8.v)))+7)) 1073741823,IntKind.i64.wrap (s1.2+1)))) else (some (.inr (s1.1,s1.2))):Option ((Int×Int)⊕(Int×Int))))
    (fun s=>0≤s.2∧s.2≤(l.length:Int)) (fun _=>True) (fun s=>((l.length:Int) - s.2).toNat) (by
      rintro ⟨h,i⟩ ⟨h0,h1⟩
      simp only at h0 h1
      cases hlt:decide (i<(l.length:Int)) with
      | false=>exact ⟨_,by simp only [hlt,cond_false,Option.bind_some];rfl,by simp,fun _ _=>trivial⟩
      | true =>
        have h2:=of_decide_eq_true hlt
        cases h4:decide (i<4000) with
        | false=>exact ⟨_,by simp only [hlt,h4,cond_false,cond_true,Option.bind_some];rfl,by simp,fun _ _=>trivial⟩
        | true =>
          obtain ⟨y,hy,_⟩:=idx_ex h0 h2
          refine ⟨_,by simp only [hlt,h4,hy,cond_true,Option.bind_some];rfl,?_,by simp⟩
          rintro s' hs
          cases Sum.inl.inj hs
          simp only
          rw [wrap_ok (by omega) (by omega)]
          omega) N (IntKind.i64.wrap (10101+(l.length:Int)),0) ⟨Int.le_refl _,by simp⟩ (by simp only;omega)
  rw [hr]
  exact ⟨r.1,rfl⟩
theorem d_Byte {N:Nat} {c:DCur} (hc:Cu c):∃ x i h,F_s_l1Byte N c=some (x,⟨c.b,i,h⟩)∧0≤i∧0≤x∧x≤255:=by
  unfold F_s_l1Byte
  obtain ⟨hb,hi⟩:=hc
  cases hlt:decide (c.i<(c.b.length:Int)) with
  | true =>
    have h1:=of_decide_eq_true hlt
    obtain ⟨y,hy,_⟩:=idx_ex hi h1
    simp only [hy,cond_true,Option.bind_some]
    exact ⟨_,_,_,rfl,by rw [wrap_ok (by omega) (by omega)];omega,iAnd_le _ (by decide) (by decide)⟩
  | false=>exact ⟨_,_,_,rfl,hi,iAnd_le _ (by decide) (by decide)⟩
theorem tmod_rng {a n:Int} (ha:0≤a) (hn:0<n):0≤Int.tmod a n∧Int.tmod a n<n:=by
  rw [Int.tmod_eq_emod_of_nonneg ha]
  exact ⟨Int.emod_nonneg _ (by omega),Int.emod_lt_of_pos _ hn⟩
theorem dz_ok {n:Int} (h:n ≠ 0):dz n=some ():=by unfold dz;rw [if_neg h]
theorem d_Below {N:Nat} {c:DCur} (hc:Cu c) (n:Int):∃ x i h,F_s_l1Below N c n=some (x,⟨c.b,i,h⟩)∧0≤i∧0≤x∧(0<n→x<n)∧(n≤0→x=0):=by
  unfold F_s_l1Below
  cases h0:decide (n≤0) with
  | true=>exact ⟨0,c.i,c.h,rfl,hc.2,Int.le_refl _,fun h=>h,fun _=>rfl⟩
  | false =>
    have hn:=of_decide_eq_false h0
    simp only [cond_false]
    cases h1:decide (n≤256) with
    | true =>
      obtain ⟨x,i,h,e,hi,hx,_⟩:=d_Byte (N:=N) hc
      simp only [cond_true,e,Option.bind_some,dz_ok (show n ≠ 0 by omega)]
      obtain ⟨q1,q2⟩:=tmod_rng hx (show 0<n by omega)
      exact ⟨_,i,h,rfl,hi,q1,fun _=>q2,fun h=>by omega⟩
    | false =>
      obtain ⟨x1,i1,h1,e1,hi1,hx1,hy1⟩:=d_Byte (N:=N) hc
      obtain ⟨x2,i2,h2,e2,hi2,hx2,hy2⟩:=d_Byte (N:=N) (hc.to (h:=h1) hi1)
      obtain ⟨x3,i3,h3,e3,hi3,hx3,hy3⟩:=d_Byte (N:=N) (hc.to (h:=h2) hi2)
      obtain ⟨x4,i4,h4,e4,hi4,hx4,hy4⟩:=d_Byte (N:=N) (hc.to (h:=h3) hi3)
      simp only [cond_false,e1,e2,e3,e4,Option.bind_some,dz_ok (show n ≠ 0 by omega)]
      rw [wrap_ok (n:=x1 * 16777216) (by omega) (by omega),wrap_ok (n:=x2 * 65536) (by omega) (by omega),wrap_ok (n:=x3 * 256) (by omega) (by omega),
        wrap_ok (n:=x1 * 16777216+x2 * 65536) (by omega) (by omega),wrap_ok (n:=x1 * 16777216+x2 * 65536+x3 * 256) (by omega) (by omega),wrap_ok (n:=x1 * 16777216+x2 * 65536+x3 * 256+x4) (by omega) (by omega)]
      obtain ⟨q1,q2⟩:=tmod_rng (show 0≤x1 * 16777216+x2 * 65536+x3 * 256+x4 by omega) (show 0<n by omega)
      exact ⟨_,i4,h4,rfl,hi4,q1,fun _=>q2,fun h=>by omega⟩
theorem d_Once {N:Nat} {c:DCur} (hc:Cu c) (n:Int):∃ x i h,F_s_l1Once N c n=some (x,⟨c.b,i,h⟩)∧0≤i:=by
  unfold F_s_l1Once
  obtain ⟨x,i,h,e,hi,_⟩:=d_Below (N:=N) hc n
  simp only [e,Option.bind_some]
  exact ⟨_,i,h,rfl,hi⟩
theorem d_PickInt {N:Nat} {c:DCur} (hc:Cu c) {l:List Int} (hl:0<l.length):∃ x i h,F_s_l1PickInt N c l=some (x,⟨c.b,i,h⟩)∧0≤i∧x ∈ l:=by
  unfold F_s_l1PickInt
  obtain ⟨x,i,h,e,hi,hx,hy,_⟩:=d_Below (N:=N) hc (l.length:Int)
  obtain ⟨y,hy,hm⟩:=idx_ex hx (hy (by omega))
  simp only [e,Option.bind_some,hy]
  exact ⟨_,i,h,rfl,hi,hm⟩
theorem appD {α:Type} {t:List α} {z:α} (h:t.length≤1000000):app t [z]=some (t++[z]):=by
  have:(16777216:Nat)=BIG:=rfl
  unfold app;rw [if_pos (by simp only [List.length_cons,List.length_nil];omega)]
theorem d_Label {N:Nat} (hN:BIG≤N) {c:DCur} (hc:Cu c):∃ x i h,F_s_l3Label N c=some (x,⟨c.b,i,h⟩)∧0≤i∧x.levels.length=4∧∀ y,y ∈ x.levels→0≤y∧y≤3:=by
  unfold F_s_l3Label
  have hB:(16777216:Nat)≤N:=hN
  obtain ⟨r,hr,hJ⟩:=iter_to (body:=fun (s6:Int×Int×Int×(List Int))=>(bif (decide (s6.1<4)) then ((F_s_l1Below N (DCur.mk c.b s6.2.1 s6.2.2.1) 4).bind fun y9=>(app s6.2.2.2 ([y9.1]:List Int)).bind fun y16=>some (.inl (IntKind.i64.wrap (s6.1+1),y9.2.i,y9.2.h,y16))) else (some (.inr (s6.1,s6.2.1,s6.2.2.1,s6.2.2.2))):Option ((Int×Int×Int×(List Int))⊕(Int×Int×Int×(List Int)))))
    (fun s=>0≤s.1∧s.1≤4∧0≤s.2.1∧(s.2.2.2.length:Int)=s.1∧∀ y,y ∈ s.2.2.2→0≤y∧y≤3) (fun s=>0≤s.2.1∧s.2.2.2.length=4∧∀ y,y ∈ s.2.2.2→0≤y∧y≤3) (fun s=>(4 - s.1).toNat) (by
      rintro ⟨k,i,h,l⟩ ⟨h0,h1,h2,h3,h4⟩
      simp only at h0 h1 h2 h3 h4
      cases hlt:decide (k<4) with
      | false =>
        have:=of_decide_eq_false hlt
        refine ⟨_,by simp only [hlt,cond_false];rfl,by simp,fun r hr=>?_⟩
        cases Sum.inr.inj hr
        exact ⟨h2,by simp only;omega,h4⟩
      | true =>
        have:=of_decide_eq_true hlt
        obtain ⟨x,i',h',e,hi,hx,hy,_⟩:=d_Below (N:=N) (hc.to (h:=h) h2) 4
        refine ⟨_,by simp only [hlt,cond_true,e,Option.bind_some,appD (t:=l) (z:=x) (by omega)];rfl,?_,by simp⟩
        rintro s' hs
        cases Sum.inl.inj hs
        simp only
        rw [wrap_ok (by omega) (by omega)]
        refine ⟨⟨by omega,by omega,hi,by simp only [List.length_append,List.length_cons,List.length_nil];omega,fun y hm=>?_⟩,by omega⟩
        rcases List.mem_append.1 hm with hm | hm
        · exact h4 y hm
        · rw [List.mem_singleton] at hm
          have:=hy (by omega)
          omega) N (0,c.i,c.h,[]) ⟨Int.le_refl _,by simp,hc.2,rfl,by simp⟩ (by simp only;omega)
  rw [hr]
  exact ⟨_,_,_,rfl,hJ.1,hJ.2.1,hJ.2.2⟩
theorem d_LabelAny {N:Nat} (hN:BIG≤N) {c:DCur} (hc:Cu c):∃ x i h,F_s_l3Any N c=some (x,⟨c.b,i,h⟩)∧0≤i∧x.levels.length≤5:=by
  unfold F_s_l3Any
  obtain ⟨x,i,h,e,hi,hl,_⟩:=d_Label hN hc
  obtain ⟨x1,i1,h1,e1,hi1,_⟩:=d_Below (N:=N) (hc.to (h:=h) hi) 14
  obtain ⟨x2,i2,h2,e2,hi2,hx2,hy2,_⟩:=d_Below (N:=N) (hc.to (h:=h1) hi1) 4
  have hy2:=hy2 (by decide)
  obtain ⟨x3,i3,h3,e3,hi3,_⟩:=d_PickInt (N:=N) (hc.to (h:=h2) hi2) (l:=[-1,4]) (by decide)
  simp only [e,e1,Option.bind_some]
  cases x1==0
  · cases x1==1
    · cases x1==2
      · exact ⟨_,i1,h1,rfl,hi1,by simp only;omega⟩
      · simp only [cond_true,cond_false,appD (t:=x.levels) (z:=0) (by omega),Option.bind_some]
        exact ⟨_,i1,h1,rfl,hi1,by simp only [List.length_append,List.length_cons,List.length_nil];omega⟩
    · obtain ⟨y,hy,_⟩:=idx_ex (l:=x.levels) hx2 (by omega)
      simp only [cond_true,cond_false,e2,e3,hy,Option.bind_some]
      exact ⟨_,i3,h3,rfl,hi3,by simp only [List.length_set];omega⟩
  · have hs:sub x.levels 0 x2=some ((x.levels.drop (0:Int).toNat).take (x2.toNat - (0:Int).toNat)):=by unfold sub;rw [if_pos ⟨Int.le_refl _,hx2,by omega⟩]
    simp only [cond_true,e2,hs,Option.bind_some]
    exact ⟨_,i2,h2,rfl,hi2,by simp only [List.length_take,List.length_drop];omega⟩
theorem d_Own {N:Nat} (hN:BIG≤N) {c:DCur} (hc:Cu c):∃ x i h,F_s_l4Own N c=some (x,⟨c.b,i,h⟩)∧0≤i∧x.length≤5:=by
  unfold F_s_l4Own
  have hB:(16777216:Nat)≤N:=hN
  obtain ⟨r,hr,hJ⟩:=iter_to (body:=fun (s4:(List Int)×Int×Int×Int)=>(bif (decide (s4.2.1<4)) then ((F_s_l1Once N (DCur.mk c.b s4.2.2.1 s4.2.2.2) 3).bind fun y7=>bif y7.1 then ((app s4.1 [s4.2.1]).bind fun y14=>some (.inl (y14,IntKind.i64.wrap (s4.2.1+1),y7.2.i,y7.2.h))) else (some (.inl (s4.1,IntKind.i64.wrap (s4.2.1+1),y7.2.i,y7.2.h)))) else (some (.inr (s4.1,s4.2.1,s4.2.2.1,s4.2.2.2))):Option (((List Int)×Int×Int×Int)⊕((List Int)×Int×Int×Int))))
    (fun s=>0≤s.2.1∧s.2.1≤4∧0≤s.2.2.1∧(s.1.length:Int)≤s.2.1) (fun s=>0≤s.2.2.1∧s.1.length≤4) (fun s=>(4 - s.2.1).toNat) (by
      rintro ⟨l,k,i,h⟩ ⟨h0,h1,h2,h3⟩
      simp only at h0 h1 h2 h3
      cases hlt:decide (k<4) with
      | false =>
        have:=of_decide_eq_false hlt
        refine ⟨_,by simp only [hlt,cond_false];rfl,by simp,fun r hr=>?_⟩
        cases Sum.inr.inj hr
        exact ⟨h2,by simp only;omega⟩
      | true =>
        have:=of_decide_eq_true hlt
        obtain ⟨x,i',h',e,hi⟩:=d_Once (N:=N) (hc.to (h:=h) h2) 3
        cases x with
        | false =>
          refine ⟨_,by simp only [hlt,cond_true,cond_false,e,Option.bind_some];rfl,?_,by simp⟩
          rintro s' hs
          cases Sum.inl.inj hs
          simp only
          rw [wrap_ok (by omega) (by omega)]
          exact ⟨⟨by omega,by omega,hi,by omega⟩,by omega⟩
        | true =>
          refine ⟨_,by simp only [hlt,cond_true,e,Option.bind_some,appD (t:=l) (z:=k) (by omega)];rfl,?_,by simp⟩
          rintro s' hs
          cases Sum.inl.inj hs
          simp only
          rw [wrap_ok (by omega) (by omega)]
          exact ⟨⟨by omega,by omega,hi,by simp only [List.length_append,List.length_cons,List.length_nil];omega⟩,by omega⟩) N ([],0,c.i,c.h) ⟨Int.le_refl _,by simp,hc.2,by simp⟩ (by simp only;omega)
  rw [hr]
  obtain ⟨j1,j2⟩:=hJ
  obtain ⟨x1,i1,h1,e1,hi1,_⟩:=d_Below (N:=N) (hc.to (h:=r.2.2.2) j1) 20
  simp only [e1,Option.bind_some,appD (t:=r.1) (z:=(4:Int)) (by omega),appD (t:=r.1) (z:=(0:Int)) (by omega)]
  cases x1==0
  · cases x1==1
    · exact ⟨_,i1,h1,rfl,hi1,by omega⟩
    · exact ⟨_,i1,h1,rfl,hi1,by simp only [List.length_append,List.length_cons,List.length_nil];omega⟩
  · exact ⟨_,i1,h1,rfl,hi1,by simp only [List.length_append,List.length_cons,List.length_nil];omega⟩
theorem d_Num {N:Nat} {c:DCur} (hc:Cu c):∃ x i h,F_s_l5Num N c=some (x,⟨c.b,i,h⟩)∧0≤i:=by
  unfold F_s_l5Num
  obtain ⟨x,i,h,e,hi⟩:=d_Once (N:=N) hc 20
  simp only [e,Option.bind_some]
  cases x
  · obtain ⟨x1,i1,h1,e1,hi1,_⟩:=d_Below (N:=N) (hc.to (h:=h) hi) 60
    simp only [cond_false,e1,Option.bind_some]
    exact ⟨_,i1,h1,rfl,hi1⟩
  · obtain ⟨x1,i1,h1,e1,hi1,_⟩:=d_PickInt (N:=N) (hc.to (h:=h) hi) (l:=[-1,1000000,1000001,999999]) (by decide)
    simp only [cond_true,e1,Option.bind_some]
    exact ⟨_,i1,h1,rfl,hi1⟩
theorem d_Amt {N:Nat} {c:DCur} (hc:Cu c):∃ x i h,F_s_l5Any N c=some (x,⟨c.b,i,h⟩)∧0≤i:=by
  unfold F_s_l5Any
  obtain ⟨x1,i1,h1,e1,hi1⟩:=d_Num (N:=N) hc
  obtain ⟨x2,i2,h2,e2,hi2⟩:=d_Num (N:=N) (hc.to (h:=h1) hi1)
  obtain ⟨x3,i3,h3,e3,hi3⟩:=d_Num (N:=N) (hc.to (h:=h2) hi2)
  simp only [e1,e2,e3,Option.bind_some]
  exact ⟨_,i3,h3,rfl,hi3⟩
end Go.Kx
