/- Plain laws: what is freed, shaded, swept; a collector's step. No program in sight. -/
import Derived.Test.YtikeaiogpfjdnaaGreatLSum
namespace Go.Kx
open Go
set_option linter.unusedVariables false
set_option linter.unusedSimpArgs false
set_option maxRecDepth 10000
def qV (i:Int) (x:Int):Int:=if x==i then -1 else x
def k7 (i:Int) (o:bh):bh:=if o.kind==0 then o else bh.mk o.gen o.kind (if o.box==i then -1 else o.box) o.res o.iN o.cd o.wait o.iO o.iP o.mark (o.ib.map (qV i)) o.data o.queue
def kp (l:List bh) (i:Int):List bh×Bool:=if kq l&&(iE i 1 9&&((nth l i).kind != 0)) then ((l.set i.toNat (blank (nth l i).gen)).map (k7 i),true) else (l,false)
theorem zp {l:List bh} (h:Ar l) {i g:Int} {k:Nat} {y:bh} (hy:(l.set i.toNat (blank g))[k]?=some y) (hk:(y.kind==0)=false):jF y=true:=by
  rcases List.mem_or_eq_of_mem_set (List.mem_of_getElem? hy) with q | q
  · exact h.ok y q
  · rw [q] at hk;simp [blank] at hk
theorem u5 {o:bh} (h:jF o=true) (hk:(o.kind==0)=false):o.ib.length=2:=by
  unfold jF at h
  simp only [hk,cond_false,Bool.and_eq_true] at h
  obtain ⟨_,_,_,_,_,_,hl,_⟩:=h
  unfold mB at hl
  simp only [Bool.and_eq_true,beq_iff_eq] at hl
  omega
theorem z4 {N:Nat} (hN:iy≤N) {l:List bh} (hb:jr iu l<iy) (i:Int):nG N l i=some (kp l i):=by
  unfold nG kp
  simp only [vH hN hb,yb hN hb,oV,Option.bind_some]
  cases ha:kq l
  · rfl
  have h:=kf.1 ha
  cases hi:iE i 1 9
  · rfl
  have hr:=jb.1 hi
  simp only [Bool.not_true,cond_false,(h.at (i:=i) (by omega) hr.2).1,Option.bind_some,bne,Bool.true_and]
  cases hk:(nth l i).kind==0
  · simp only [cond_false,Bool.not_false,if_true]
    rw [show bh.mk (nth l i).gen 0 0 0 0 0 0 0 0 false [] [] []=blank (nth l i).gen from rfl]
    have hlen:(l.set i.toNat (blank (nth l i).gen)).length=l.length:=List.length_set
    rw [tN (l.set i.toNat (blank (nth l i).gen)) (k7 i) (by rw [hlen];exact Nat.lt_of_lt_of_le h.sR hN)]
    · rfl
    · intro k t y ht hty hy hkl
      have hk10:k<10:=by rw [hlen,h.len] at hkl;exact hkl
      have hd:decide ((k:Int)<(l.length:Int))=true:=by simp [h.len];omega
      have hkt:k<t.length:=jg hty
      simp only [hd,cond_true,iT,hty,Option.bind_some,jo (show k<iy from Nat.lt_trans hk10 (by decide))]
      unfold k7
      cases hyk:y.kind==0
      · have ho:=zp h hy hyk
        have h2:=u5 ho hyk
        have hLB:y.ib.length<iy:=by rw [h2];decide
        have inner:iter (fun (s124:(List Int)×Int)=>(bif (decide (s124.2<(y.ib.length:Int))) then ((idx s124.1 s124.2).bind fun y127=>bif (y127==i) then (some (.inl (s124.1.set (s124.2:Int).toNat (-1),IntKind.i64.wrap (s124.2+1)))) else (some (.inl (s124.1,IntKind.i64.wrap (s124.2+1))))) else (some (.inr (s124.1,s124.2))):Option (((List Int)×Int)⊕((List Int)×Int)))) N (y.ib,0)=some (y.ib.map (qV i),(y.ib.length:Int)):=by
          rw [tN y.ib (qV i) (Nat.lt_of_lt_of_le hLB hN)]
          · intro j t2 z ht2 hz _ hj
            simp only [jt hj,cond_true,iT,hz,Option.bind_some,jo (Nat.lt_trans hj hLB),Int.toNat_natCast]
            unfold qV
            cases z==i
            · simp [qg hz]
            · rfl
          · intro t2 ht2
            simp only [ju,cond_false]
        simp only [cond_false,Bool.false_eq_true,if_false]
        cases hbx:y.box==i
        · simp only [cond_false,Option.bind_some,iT,hty,Bool.false_eq_true,if_false]
          rw [inner];rfl
        · simp only [cond_true,Option.bind_some,Int.toNat_natCast,iT,List.getElem?_set_self hkt,if_true]
          rw [inner]
          simp only [Option.bind_some,List.set_set]
      · simp only [cond_true,if_true]
        rw [qg hty]
    · intro t ht
      have hd:decide (((l.set i.toNat (blank (nth l i).gen)).length:Int)<(l.length:Int))=false:=by rw [hlen];simp
      simp only [hd,cond_false]
  · rfl
theorem vD {N:Nat} (hN:iy≤N) {l:List bh} (hb:jr iu l<iy) (hw:wA l) (i:Int):mC N l i=some (kp l i):=by
  unfold mC kp
  simp only [wc hN hb,oz hN hb hw,mw,Option.bind_some]
  cases ha:kq l
  · rfl
  have h:=kf.1 ha
  cases hi:iE i 1 9
  · rfl
  have hr:=jb.1 hi
  simp only [Bool.not_true,cond_false,(h.at (i:=i) (by omega) hr.2).1,Option.bind_some,bne,Bool.true_and]
  cases hk:(nth l i).kind==0
  · simp only [cond_false,Bool.not_false,if_true]
    rw [show bh.mk (nth l i).gen 0 0 0 0 0 0 0 0 false [] [] []=blank (nth l i).gen from rfl]
    have hlen:(l.set i.toNat (blank (nth l i).gen)).length=l.length:=List.length_set
    rw [tN (l.set i.toNat (blank (nth l i).gen)) (k7 i) (by rw [hlen];exact Nat.lt_of_lt_of_le h.sR hN)]
    · rfl
    · intro k t y ht hty hy hkl
      have hk10:k<10:=by rw [hlen,h.len] at hkl;exact hkl
      have hkt:k<t.length:=jg hty
      simp only [jt hkt,cond_true,iT,hty,Option.bind_some,jo (show k<iy from Nat.lt_trans hk10 (by decide))]
      unfold k7
      cases hyk:y.kind==0
      · have ho:=zp h hy hyk
        have h2:=u5 ho hyk
        simp only [cond_false,Bool.false_eq_true,if_false]
        have inner:∀ (t2:List bh) (z:bh),t2.length=t.length→t2[k]?=some z→z.ib.length=2→iter (fun (s90:(List bh)×Int)=>(bif (decide (s90.2<2)) then ((idx s90.1 (k:Int)).bind fun y93=>(idx y93.ib s90.2).bind fun y115=>bif (y115==i) then (some (.inl ((s90.1.set (k:Int).toNat (bh.mk y93.gen y93.kind y93.box y93.res y93.iN y93.cd y93.wait y93.iO y93.iP y93.mark (y93.ib.set (s90.2:Int).toNat (-1)) y93.data y93.queue)),IntKind.i64.wrap (s90.2+1)))) else (some (.inl (s90.1,IntKind.i64.wrap (s90.2+1))))) else (some (.inr (s90.1,s90.2))):Option (((List bh)×Int)⊕((List bh)×Int)))) N (t2,0) =
            some (t2.set k (bh.mk z.gen z.kind z.box z.res z.iN z.cd z.wait z.iO z.iP z.mark (z.ib.map (qV i)) z.data z.queue),2):=by
          intro t2 z hl2 hz hz2
          have hk2:k<t2.length:=by omega
          obtain ⟨a,b,hab⟩:∃ a b,z.ib=[a,b]:=by
            match hq:z.ib with
            | []=>simp [hq] at hz2
            | [a]=>simp [hq] at hz2
            | [a,b]=>exact ⟨a,b,rfl⟩
            | a::b::c::r=>simp [hq] at hz2
          obtain ⟨M,rfl⟩:∃ M,N=M+3:=⟨N - 3,by have:16777216≤N:=hN;omega⟩
          have hset:∀ u:bh,(t2.set k u)[k]?=some u:=fun u=>List.getElem?_set_self hk2
          have hid:t2.set k (bh.mk z.gen z.kind z.box z.res z.iN z.cd z.wait z.iO z.iP z.mark [a,b] z.data z.queue)=t2:=by rw [← hab];exact qg hz
          have w1:IntKind.i64.wrap (0+1)=1:=by decide
          have w2:IntKind.i64.wrap (1+1)=2:=by decide
          unfold iter
          simp only [show decide ((0:Int)<2)=true from rfl,cond_true,iT,hz,Option.bind_some,hab,show idx [a,b] 0=some a from rfl,w1,Int.toNat_natCast]
          cases hA:a==i
          · simp only [cond_false,Option.bind_some]
            unfold iter
            simp only [show decide ((1:Int)<2)=true from rfl,cond_true,iT,hz,Option.bind_some,hab,show idx [a,b] 1=some b from rfl,w2,Int.toNat_natCast]
            cases hB:b==i
            · simp only [cond_false,Option.bind_some]
              unfold iter
              simp [qV,hA,hB,hid]
            · simp only [cond_true,Option.bind_some]
              unfold iter
              simp [qV,hA,hB]
          · simp only [cond_true,Option.bind_some]
            unfold iter
            simp only [show decide ((1:Int)<2)=true from rfl,cond_true,iT,hset,Option.bind_some,w2,Int.toNat_natCast]
            rw [show idx ([a,b].set (0:Int).toNat (-1)) 1=some b from rfl]
            simp only [Option.bind_some]
            cases hB:b==i
            · simp only [cond_false,Option.bind_some]
              unfold iter
              simp [qV,hA,hB]
            · simp only [cond_true,Option.bind_some,List.set_set]
              unfold iter
              simp [qV,hA,hB]
        simp only [iT,Int.toNat_natCast] at inner ⊢
        cases hbx:y.box==i
        · simp only [cond_false,Option.bind_some,Bool.false_eq_true,if_false]
          rw [inner t y rfl hty h2];rfl
        · simp only [cond_true,Option.bind_some,Int.toNat_natCast,if_true]
          have e:=inner (t.set k (bh.mk y.gen y.kind (-1) y.res y.iN y.cd y.wait y.iO y.iP y.mark y.ib y.data y.queue)) (bh.mk y.gen y.kind (-1) y.res y.iN y.cd y.wait y.iO y.iP y.mark y.ib y.data y.queue) List.length_set (List.getElem?_set_self hkt) h2
          rw [e]
          simp only [Option.bind_some,List.set_set]
      · simp only [cond_true,if_true]
        rw [qg hty]
    · intro t ht
      rw [← ht]
      simp only [ju,cond_false]
  · rfl
def lf (t:List iq) (f:Int) (a:iw):List iq×Bool :=
  if km t&&(i7 a&&i7 (iV (kD t) a)) then
    (t.set (if ji t f then f else 0).toNat (kT (nth t (if ji t f then f else 0)) (iV (nth t (if ji t f then f else 0)).iL a)),true)
  else (t,false)
theorem uz (t:List iq) (f:Int) (a:iw):(lf t f a).1.length=t.length:=by
  unfold lf
  split <;> simp
theorem BM {N:Nat} (hN:iy≤N) {t:List iq} (hB:t.length<iy) (f:Int) (a:iw):oF N t f a=some (lf t f a):=by
  unfold oF lf
  simp only [wV hB,wm hN,vw,Cs hN hB,xC,Option.bind_some,lG]
  cases ht:km t
  · rfl
  have hl:=tM ht
  cases i7 a
  · rfl
  cases i7 (iV (kD t) a)
  · rfl
  simp only [Bool.not_true,Bool.or_self,cond_false,yF N hl,Option.bind_some,Bool.and_self,if_true]
  cases hv:ji t f
  · simp only [Bool.not_false,cond_true,Option.bind_some,jk (l:=t) (i:=0) (by omega) (by omega),Bool.false_eq_true,if_false];rfl
  · obtain ⟨f0,f4⟩:=lC hv
    simp only [Bool.not_true,cond_false,Option.bind_some,jk (l:=t) f0 (by omega),if_true];rfl
theorem Ed {n:Int}:ux n=true ↔ 0≤n∧n≤1000000:=jb
theorem jT {a:iw}:i7 a=true ↔ (0≤a.cd∧a.cd≤1000000)∧(0≤a.im∧a.im≤1000000)∧(0≤a.iC∧a.iC≤1000000):=by
  unfold i7;simp only [Bool.and_eq_true,Ed]
theorem qF:∀ (t:List iq) (s:iw) (B:Int),(∀ r,r ∈ t→i7 r.iL=true)→0≤B→B+1000000 * (t.length:Int)≤1000000000→(0≤s.cd∧s.cd≤B)→(0≤s.im∧s.im≤B)→(0≤s.iC∧s.iC≤B) →
    (s.cd≤(jc s t).cd∧s.im≤(jc s t).im∧s.iC≤(jc s t).iC) ∧
      ∀ r,r ∈ t→r.live=true→r.iL.cd≤(jc s t).cd∧r.iL.im≤(jc s t).im∧r.iL.iC≤(jc s t).iC
  | [],s,B,_,_,_,_,_,_=>⟨⟨Int.le_refl _,Int.le_refl _,Int.le_refl _⟩,fun r hr=>by simp at hr⟩
  | r::t,s,B,h,hB,hL,h1,h2,h3=>by
    have hr:=jT.1 (h r (by simp))
    simp only [List.length_cons] at hL
    have e:jc s (r::t)=jc (if r.live then iV s r.iL else s) t:=rfl
    rw [e]
    cases hv:r.live
    · obtain ⟨q1,q2⟩:=qF t s B (fun x hx=>h x (by simp [hx])) hB (by omega) h1 h2 h3
      refine ⟨q1,fun x hx hl=>?_⟩
      rcases List.mem_cons.1 hx with rfl | hx
      · rw [hv] at hl;cases hl
      · exact q2 x hx hl
    · simp only [if_true]
      have w1:(iV s r.iL).cd=s.cd+r.iL.cd:=iM (by omega) (by omega)
      have w2:(iV s r.iL).im=s.im+r.iL.im:=iM (by omega) (by omega)
      have w3:(iV s r.iL).iC=s.iC+r.iL.iC:=iM (by omega) (by omega)
      obtain ⟨⟨a1,a2,a3⟩,q2⟩:=qF t (iV s r.iL) (B+1000000) (fun x hx=>h x (by simp [hx])) (by omega) (by omega) (by omega) (by omega) (by omega)
      refine ⟨⟨by omega,by omega,by omega⟩,fun x hx hl=>?_⟩
      rcases List.mem_cons.1 hx with rfl | hx
      · exact ⟨by omega,by omega,by omega⟩
      · exact q2 x hx hl
theorem xT {t:List iq} (h:Tr t) {a:iw} (ha:i7 a=true) (hs:i7 (iV (jc ⟨0,0,0⟩ t) a)=true) {i:Int} (hi:0≤i∧i≤4) (hv:(nth t i).live=true):nI (nth t i).iL a=(iV (nth t i).iL a,true):=by
  have hl:=h.len
  have hm:nth t i ∈ t:=nP hi.1 (by omega)
  obtain ⟨_,q⟩:=qF t ⟨0,0,0⟩ 0 h.iL (by omega) (by omega) ⟨by decide,by decide⟩ ⟨by decide,by decide⟩ ⟨by decide,by decide⟩
  obtain ⟨q1,q2,q3⟩:=q _ hm hv
  have hb:=jT.1 (h.iL _ hm)
  have ha':=jT.1 ha
  have hS:=jT.1 h.sum
  have w1:(iV (jc ⟨0,0,0⟩ t) a).cd=(jc ⟨0,0,0⟩ t).cd+a.cd:=iM (by omega) (by omega)
  have w2:(iV (jc ⟨0,0,0⟩ t) a).im=(jc ⟨0,0,0⟩ t).im+a.im:=iM (by omega) (by omega)
  have w3:(iV (jc ⟨0,0,0⟩ t) a).iC=(jc ⟨0,0,0⟩ t).iC+a.iC:=iM (by omega) (by omega)
  have hs':=jT.1 hs
  have v1:(iV (nth t i).iL a).cd=(nth t i).iL.cd+a.cd:=iM (by omega) (by omega)
  have v2:(iV (nth t i).iL a).im=(nth t i).iL.im+a.im:=iM (by omega) (by omega)
  have v3:(iV (nth t i).iL a).iC=(nth t i).iL.iC+a.iC:=iM (by omega) (by omega)
  have:i7 (iV (nth t i).iL a)=true:=jT.2 ⟨by omega,by omega,by omega⟩
  unfold nI
  rw [h.iL _ hm,ha,this];rfl
theorem wQ {N:Nat} (hN:iy≤N) {t:List iq} (hB:t.length<iy) (f:Int) (a:iw):ng N t f a=some (lf t f a):=by
  unfold ng lf
  simp only [oq hB,tX hN,xF hN hB,tQ,sB hN,Option.bind_some]
  cases ht:km t
  · rfl
  have hT:=mQ.1 ht
  have hl:=hT.len
  have e:(nI (jc ⟨0,0,0⟩ t) a).2=(i7 a&&i7 (iV (kD t) a)):=by
    unfold nI kD
    rw [hT.sum,ht]
    simp only [if_true,Bool.true_and]
    cases i7 a&&i7 (iV (jc ⟨0,0,0⟩ t) a) <;> rfl
  rw [e]
  simp only [Bool.not_true,cond_false,Bool.true_and]
  cases hc:(i7 a&&i7 (iV (kD t) a))
  · rfl
  rw [Bool.and_eq_true] at hc
  have hs:i7 (iV (jc ⟨0,0,0⟩ t) a)=true:=by
    have:=hc.2
    unfold kD at this
    rwa [ht,if_pos rfl] at this
  simp only [Bool.not_true,cond_false,if_true]
  cases hv:ji t f
  · simp only [Bool.not_false,cond_true,Option.bind_some,jk (l:=t) (i:=0) (by omega) (by omega),xT hT hc.1 hs (i:=0) ⟨by omega,by omega⟩ hT.wB,Bool.false_eq_true,if_false];rfl
  · obtain ⟨f0,f4⟩:=lC hv
    have hlv:(nth t f).live=true:=by unfold ji at hv;rw [Bool.and_eq_true] at hv;exact hv.2
    simp only [Bool.not_true,cond_false,Option.bind_some,jk (l:=t) f0 (by omega),xT hT hc.1 hs (i:=f) ⟨f0,f4⟩ hlv,if_true];rfl
end Go.Kx
