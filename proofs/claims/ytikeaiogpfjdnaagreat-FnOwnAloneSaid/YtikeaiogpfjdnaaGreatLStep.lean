/- Plain laws: what is freed, shaded, swept; a collector's step. No program in sight. -/
import Derived.Test.YtikeaiogpfjdnaaGreatLSum
namespace Go.Kx
open Go
set_option linter.unusedVariables false
set_option linter.unusedSimpArgs false
set_option maxRecDepth 10000
def yq (i:Int) (x:Int):Int:=if x==i then -1 else x
def yf (i:Int) (o:bh):bh:=if o.kind==0 then o else bh.mk o.gen o.kind (if o.box==i then -1 else o.box) o.res o.iL o.cd o.wait o.iK o.iM o.mark (o.ig.map (yq i)) o.data o.queue
def mc (l:List bh) (i:Int):List bh×Bool:=if ka l&&(iG i 1 9&&((nth l i).kind != 0)) then ((l.set i.toNat (blank (nth l i).gen)).map (yf i),true) else (l,false)
theorem Eu {l:List bh} (h:Ar l) {i g:Int} {k:Nat} {y:bh} (hy:(l.set i.toNat (blank g))[k]?=some y) (hk:(y.kind==0)=false):kt y=true:=by
  rcases List.mem_or_eq_of_mem_set (List.mem_of_getElem? hy) with q | q
  · exact h.ok y q
  · rw [q] at hk;simp [blank] at hk
theorem v5 {o:bh} (h:kt o=true) (hk:(o.kind==0)=false):o.ig.length=2:=by
  unfold kt at h
  simp only [hk,cond_false,Bool.and_eq_true] at h
  obtain ⟨_,_,_,_,_,_,hl,_⟩:=h
  unfold rA at hl
  simp only [Bool.and_eq_true,beq_iff_eq] at hl
  omega
theorem wZ {N:Nat} (hN:im≤N) {l:List bh} (hb:jl iA l<im) (hw:wA l) (i:Int):na N l i=some (mc l i):=by
  unfold na mc
  simp only [xi hN hb,pH hN hb hw,m6,Option.bind_some]
  cases ha:ka l
  · rfl
  have h:=ko.1 ha
  cases hi:iG i 1 9
  · rfl
  have hr:=jv.1 hi
  simp only [Bool.not_true,cond_false,(h.at (i:=i) (by omega) hr.2).1,Option.bind_some,bne,Bool.true_and]
  cases hk:(nth l i).kind==0
  · simp only [cond_false,Bool.not_false,if_true]
    rw [show bh.mk (nth l i).gen 0 0 0 0 0 0 0 0 false [] [] []=blank (nth l i).gen from rfl]
    have hlen:(l.set i.toNat (blank (nth l i).gen)).length=l.length:=List.length_set
    rw [xf (l.set i.toNat (blank (nth l i).gen)) (yf i) (by rw [hlen];exact Nat.lt_of_lt_of_le h.va hN)]
    · rfl
    · intro k t y ht hty hy hkl
      have hk10:k<10:=by rw [hlen,h.len] at hkl;exact hkl
      have hkt:k<t.length:=ju hty
      simp only [jt hkt,cond_true,iT,hty,Option.bind_some,jx (show k<im from Nat.lt_trans hk10 (by decide))]
      unfold yf
      cases hyk:y.kind==0
      · have ho:=Eu h hy hyk
        have h2:=v5 ho hyk
        simp only [cond_false,Bool.false_eq_true,if_false]
        have inner:∀ (t2:List bh) (z:bh),t2.length=t.length→t2[k]?=some z→z.ig.length=2→iter (fun (s90:(List bh)×Int)=>(bif (decide (s90.2<2)) then ((idx s90.1 (k:Int)).bind fun y93=>(idx y93.ig s90.2).bind fun y115=>bif (y115==i) then (some (.inl ((s90.1.set (k:Int).toNat (bh.mk y93.gen y93.kind y93.box y93.res y93.iL y93.cd y93.wait y93.iK y93.iM y93.mark (y93.ig.set (s90.2:Int).toNat (-1)) y93.data y93.queue)),IntKind.i64.wrap (s90.2+1)))) else (some (.inl (s90.1,IntKind.i64.wrap (s90.2+1))))) else (some (.inr (s90.1,s90.2))):Option (((List bh)×Int)⊕((List bh)×Int)))) N (t2,0) =
            some (t2.set k (bh.mk z.gen z.kind z.box z.res z.iL z.cd z.wait z.iK z.iM z.mark (z.ig.map (yq i)) z.data z.queue),2):=by
          intro t2 z hl2 hz hz2
          have hk2:k<t2.length:=by omega
          obtain ⟨a,b,hab⟩:∃ a b,z.ig=[a,b]:=by
            match hq:z.ig with
            | []=>simp [hq] at hz2
            | [a]=>simp [hq] at hz2
            | [a,b]=>exact ⟨a,b,rfl⟩
            | a::b::c::r=>simp [hq] at hz2
          obtain ⟨M,rfl⟩:∃ M,N=M+3:=⟨N - 3,by have:16777216≤N:=hN;omega⟩
          have hset:∀ u:bh,(t2.set k u)[k]?=some u:=fun u=>List.getElem?_set_self hk2
          have hid:t2.set k (bh.mk z.gen z.kind z.box z.res z.iL z.cd z.wait z.iK z.iM z.mark [a,b] z.data z.queue)=t2:=by rw [← hab];exact sJ hz
          have w1:IntKind.i64.wrap (0+1)=1:=by decide
          have w2:IntKind.i64.wrap (1+1)=2:=by decide
          unfold iter
          simp only [show decide ((0:Int)<2)=true from rfl,cond_true,iT,hz,Option.bind_some,hab,show idx [a,b] 0=some a from rfl,w1,Int.toNat_natCast]
          cases hA:a==i
          · simp only [cond_false,Option.bind_some]
            unfold iter
            simp only [show decide ((1:Int)<2)=true from rfl,cond_true,iT,hz,Option.bind_some,hab,show idx [a,b] 1=some b from rfl,w2,Int.toNat_natCast]
            cases hB:b==i
            · simp only [cond_false,Option.bind_some]
              unfold iter
              simp [yq,hA,hB,hid]
            · simp only [cond_true,Option.bind_some]
              unfold iter
              simp [yq,hA,hB]
          · simp only [cond_true,Option.bind_some]
            unfold iter
            simp only [show decide ((1:Int)<2)=true from rfl,cond_true,iT,hset,Option.bind_some,w2,Int.toNat_natCast]
            rw [show idx ([a,b].set (0:Int).toNat (-1)) 1=some b from rfl]
            simp only [Option.bind_some]
            cases hB:b==i
            · simp only [cond_false,Option.bind_some]
              unfold iter
              simp [yq,hA,hB]
            · simp only [cond_true,Option.bind_some,List.set_set]
              unfold iter
              simp [yq,hA,hB]
        simp only [iT,Int.toNat_natCast] at inner ⊢
        cases hbx:y.box==i
        · simp only [cond_false,Option.bind_some,Bool.false_eq_true,if_false]
          rw [inner t y rfl hty h2];rfl
        · simp only [cond_true,Option.bind_some,Int.toNat_natCast,if_true]
          have e:=inner (t.set k (bh.mk y.gen y.kind (-1) y.res y.iL y.cd y.wait y.iK y.iM y.mark y.ig y.data y.queue)) (bh.mk y.gen y.kind (-1) y.res y.iL y.cd y.wait y.iK y.iM y.mark y.ig y.data y.queue) List.length_set (List.getElem?_set_self hkt) h2
          rw [e]
          simp only [Option.bind_some,List.set_set]
      · simp only [cond_true,if_true]
        rw [sJ hty]
    · intro t ht
      rw [← ht]
      simp only [jr,cond_false]
  · rfl
def rl (t:List iy) (f:Int) (a:iB):List iy×Bool :=
  if ki t&&(je a&&je (iZ (m8 t) a)) then
    (t.set (if jD t f then f else 0).toNat (yw (nth t (if jD t f then f else 0)) (iZ (nth t (if jD t f then f else 0)).iU a)),true)
  else (t,false)
theorem Aa (t:List iy) (f:Int) (a:iB):(rl t f a).1.length=t.length:=by
  unfold rl
  split <;> simp
theorem CQ {N:Nat} (hN:im≤N) {t:List iy} (hB:t.length<im) (f:Int) (a:iB):pI N t f a=some (rl t f a):=by
  unfold pI rl
  simp only [oy hB,sP hN,qn,yQ hN hB,sD,Option.bind_some,kO]
  cases ht:ki t
  · rfl
  have hl:=rH ht
  cases je a
  · rfl
  cases je (iZ (m8 t) a)
  · rfl
  simp only [Bool.not_true,Bool.or_self,cond_false,rk N hl,Option.bind_some,Bool.and_self,if_true]
  cases hv:jD t f
  · simp only [Bool.not_false,cond_true,Option.bind_some,jj (l:=t) (i:=0) (by omega) (by omega),Bool.false_eq_true,if_false];rfl
  · obtain ⟨f0,f4⟩:=lS hv
    simp only [Bool.not_true,cond_false,Option.bind_some,jj (l:=t) f0 (by omega),if_true];rfl
theorem F5 {n:Int}:uL n=true ↔ 0≤n∧n≤1000000:=jv
theorem kL {a:iB}:je a=true ↔ (0≤a.cd∧a.cd≤1000000)∧(0≤a.ij∧a.ij≤1000000)∧(0≤a.iD∧a.iD≤1000000):=by
  unfold je;simp only [Bool.and_eq_true,F5]
theorem tx:∀ (t:List iy) (s:iB) (B:Int),(∀ r,r ∈ t→je r.iU=true)→0≤B→B+1000000 * (t.length:Int)≤1000000000→(0≤s.cd∧s.cd≤B)→(0≤s.ij∧s.ij≤B)→(0≤s.iD∧s.iD≤B) →
    (s.cd≤(jA s t).cd∧s.ij≤(jA s t).ij∧s.iD≤(jA s t).iD) ∧
      ∀ r,r ∈ t→r.live=true→r.iU.cd≤(jA s t).cd∧r.iU.ij≤(jA s t).ij∧r.iU.iD≤(jA s t).iD
  | [],s,B,_,_,_,_,_,_=>⟨⟨Int.le_refl _,Int.le_refl _,Int.le_refl _⟩,fun r hr=>by simp at hr⟩
  | r::t,s,B,h,hB,hL,h1,h2,h3=>by
    have hr:=kL.1 (h r (by simp))
    simp only [List.length_cons] at hL
    have e:jA s (r::t)=jA (if r.live then iZ s r.iU else s) t:=rfl
    rw [e]
    cases hv:r.live
    · obtain ⟨q1,q2⟩:=tx t s B (fun x hx=>h x (by simp [hx])) hB (by omega) h1 h2 h3
      refine ⟨q1,fun x hx hl=>?_⟩
      rcases List.mem_cons.1 hx with rfl | hx
      · rw [hv] at hl;cases hl
      · exact q2 x hx hl
    · simp only [if_true]
      have w1:(iZ s r.iU).cd=s.cd+r.iU.cd:=iX (by omega) (by omega)
      have w2:(iZ s r.iU).ij=s.ij+r.iU.ij:=iX (by omega) (by omega)
      have w3:(iZ s r.iU).iD=s.iD+r.iU.iD:=iX (by omega) (by omega)
      obtain ⟨⟨a1,a2,a3⟩,q2⟩:=tx t (iZ s r.iU) (B+1000000) (fun x hx=>h x (by simp [hx])) (by omega) (by omega) (by omega) (by omega) (by omega)
      refine ⟨⟨by omega,by omega,by omega⟩,fun x hx hl=>?_⟩
      rcases List.mem_cons.1 hx with rfl | hx
      · exact ⟨by omega,by omega,by omega⟩
      · exact q2 x hx hl
theorem yV {t:List iy} (h:Tr t) {a:iB} (ha:je a=true) (hs:je (iZ (jA ⟨0,0,0⟩ t) a)=true) {i:Int} (hi:0≤i∧i≤4) (hv:(nth t i).live=true):kz (nth t i).iU a=(iZ (nth t i).iU a,true):=by
  have hl:=h.len
  have hm:nth t i ∈ t:=m7 hi.1 (by omega)
  obtain ⟨_,q⟩:=tx t ⟨0,0,0⟩ 0 h.iU (by omega) (by omega) ⟨by decide,by decide⟩ ⟨by decide,by decide⟩ ⟨by decide,by decide⟩
  obtain ⟨q1,q2,q3⟩:=q _ hm hv
  have hb:=kL.1 (h.iU _ hm)
  have ha':=kL.1 ha
  have hS:=kL.1 h.sum
  have w1:(iZ (jA ⟨0,0,0⟩ t) a).cd=(jA ⟨0,0,0⟩ t).cd+a.cd:=iX (by omega) (by omega)
  have w2:(iZ (jA ⟨0,0,0⟩ t) a).ij=(jA ⟨0,0,0⟩ t).ij+a.ij:=iX (by omega) (by omega)
  have w3:(iZ (jA ⟨0,0,0⟩ t) a).iD=(jA ⟨0,0,0⟩ t).iD+a.iD:=iX (by omega) (by omega)
  have hs':=kL.1 hs
  have v1:(iZ (nth t i).iU a).cd=(nth t i).iU.cd+a.cd:=iX (by omega) (by omega)
  have v2:(iZ (nth t i).iU a).ij=(nth t i).iU.ij+a.ij:=iX (by omega) (by omega)
  have v3:(iZ (nth t i).iU a).iD=(nth t i).iU.iD+a.iD:=iX (by omega) (by omega)
  have:je (iZ (nth t i).iU a)=true:=kL.2 ⟨by omega,by omega,by omega⟩
  unfold kz
  rw [h.iU _ hm,ha,this];rfl
theorem C9 {N:Nat} (hN:im≤N) {t:List iy} (hB:t.length<im) (f:Int) (a:iB):pU N t f a=some (rl t f a):=by
  unfold pU rl
  simp only [pZ hB,xv hN,Cr hN hB,tR,tL hN,Option.bind_some]
  cases ht:ki t
  · rfl
  have hT:=qb.1 ht
  have hl:=hT.len
  have e:(kz (jA ⟨0,0,0⟩ t) a).2=(je a&&je (iZ (m8 t) a)):=by
    unfold kz m8
    rw [hT.sum,ht]
    simp only [if_true,Bool.true_and]
    cases je a&&je (iZ (jA ⟨0,0,0⟩ t) a) <;> rfl
  rw [e]
  simp only [Bool.not_true,cond_false,Bool.true_and]
  cases hc:(je a&&je (iZ (m8 t) a))
  · rfl
  rw [Bool.and_eq_true] at hc
  have hs:je (iZ (jA ⟨0,0,0⟩ t) a)=true:=by
    have:=hc.2
    unfold m8 at this
    rwa [ht,if_pos rfl] at this
  simp only [Bool.not_true,cond_false,if_true]
  cases hv:jD t f
  · simp only [Bool.not_false,cond_true,Option.bind_some,jj (l:=t) (i:=0) (by omega) (by omega),yV hT hc.1 hs (i:=0) ⟨by omega,by omega⟩ hT.C4,Bool.false_eq_true,if_false];rfl
  · obtain ⟨f0,f4⟩:=lS hv
    have hlv:(nth t f).live=true:=by unfold jD at hv;rw [Bool.and_eq_true] at hv;exact hv.2
    simp only [Bool.not_true,cond_false,Option.bind_some,jj (l:=t) f0 (by omega),yV hT hc.1 hs (i:=f) ⟨f0,f4⟩ hlv,if_true];rfl
end Go.Kx
/- Plain laws: ic. No program in sight. -/
namespace Go.Kx
open Go
set_option linter.unusedVariables false
set_option linter.unusedSimpArgs false
set_option maxRecDepth 10000
theorem DJ {N:Nat} (hN:im≤N) {w:List gE} (hl:w.length<im) {F:gE→Option gE} (hF:∀ y,y ∈ w→F y=some y) :
    iter (fun (s8:Int×(List gE))=>(bif (decide (s8.1<(w.length:Int))) then ((idx w s8.1).bind fun y11=>(F y11).bind fun y41=>(app s8.2 [y41]).bind fun y57=>some (.inl (IntKind.i64.wrap (s8.1+1),y57))) else (some (.inr (s8.1,s8.2))):Option ((Int×(List gE))⊕(Int×(List gE))))) N (0,[])=some ((w.length:Int),w):=by
  have e:∀ (l:List gE) (k:Nat) (acc:List gE),foldI (fun _ (acc:List gE) y=>acc++[y]) k acc l=acc++l:=by
    intro l
    induction l with
    | nil=>intro k acc;simp [foldI]
    | cons y l ih=>intro k acc;unfold foldI;rw [ih];simp
  rw [show ((0:Int),([]:List gE))=(fun (k:Nat) (t:List gE)=>((k:Int),t)) 0 [] from rfl,
    lB w (fun (k:Nat) (t:List gE)=>((k:Int),t)) (fun _ acc y=>acc++[y]) (fun t=>((w.length:Int),t)) (fun k t=>t.length≤k) ?_ ?_ (Nat.lt_of_lt_of_le hl hN) (by simp),e]
  · simp
  · intro k t y hy hk ht
    refine ⟨?_,by simp;omega⟩
    simp only [jt hk,cond_true,iT,hy,Option.bind_some,hF y (List.mem_of_getElem? hy),jx (Nat.lt_trans hk hl),kV ht (Nat.lt_of_le_of_lt hk hl)]
  · intro t _
    simp only [jr,cond_false]
theorem BT {N:Nat} (hN:im≤N) {w:jw} (hb:jl jh w.parts<im):oK N w=some w:=by
  unfold oK
  rw [DJ hN (o7 hb) fun y hy=>uZ hN (nS hb hy)];rfl
def uS (a:iB) (w:Int):Int:=if w==0 then a.cd else if w==1 then a.ij else if w==2 then a.iD else 0
theorem DN (N:Nat) (a:iB) (w:Int):qN N a w=some (uS a w):=by
  unfold qN uS
  cases w==0 <;> cases w==1 <;> cases w==2 <;> rfl
theorem DC (N:Nat) (a:iB) (w:Int):qD N a w=some (uS a w):=by
  unfold qD uS
  cases w==0 <;> cases w==1 <;> cases w==2 <;> rfl
end Go.Kx
/- Plain laws: a collector's step; what is collected. No program in sight. -/
namespace Go.Kx
open Go
set_option linter.unusedVariables false
set_option linter.unusedSimpArgs false
set_option maxRecDepth 10000
def m5 (h:iv) (k:Int):iv :=
  if (h.gc.phase==0)&&(((nth h.ag k).kind != 0)&&!(nth h.ag k).mark) then
    iv.mk (h.ag.set k.toNat (marked (nth h.ag k) true)) (jz.mk h.gc.phase h.gc.pos h.gc.round (if h.gc.ia.contains k then h.gc.ia else h.gc.ia++[k]))
  else h
theorem CV {l:List Int} {k:Int} (h:l.length+1<im):app l [k]=some (l++[k]):=by
  unfold app;rw [if_pos (by simpa using h)]
theorem FH {N:Nat} (hN:im≤N) {h:iv} {k:Int} (h0:0≤k) (h1:k<(h.ag.length:Int)) (hg:h.gc.ia.length+1<im):sY N h k=some (m5 h k):=by
  have hg':h.gc.ia.length<im:=by omega
  unfold sY m5
  rw [← Bool.cond_eq_ite]
  simp only [jj (l:=h.ag) h0 h1,ss hN hg',CV hg,Option.bind_some,bne]
  cases h.gc.phase==0
  · rfl
  cases (nth h.ag k).kind==0
  · cases (nth h.ag k).mark
    · cases h.gc.ia.contains k <;> rfl
    · rfl
  · rfl
theorem xT {N:Nat} (hN:im≤N) {h:iv} {k:Int} (h0:0≤k) (h1:k<(h.ag.length:Int)) (hg:h.gc.ia.length+1<im):nW N h k=some (m5 h k):=by
  have hg':h.gc.ia.length<im:=by omega
  unfold nW m5
  rw [← Bool.cond_eq_ite]
  simp only [jj (l:=h.ag) h0 h1,wm hN hg',CV hg,Option.bind_some,bne]
  cases h.gc.phase==0
  · rfl
  cases (nth h.ag k).kind==0
  · cases (nth h.ag k).mark
    · cases h.gc.ia.contains k <;> rfl
    · rfl
  · rfl
theorem wQ (h:iv) (k:Int):(m5 h k).ag.length=h.ag.length:=by
  unfold m5;split <;> simp
theorem uU (h:iv) (k:Int):(m5 h k).gc.ia.length≤h.gc.ia.length+1:=by
  unfold m5
  split
  · simp only
    split
    · exact Nat.le_succ _
    · simp
  · exact Nat.le_succ _
theorem Cc {l:List bh} {i j:Int} {o:bh} (h0:0≤i) (h1:i<(l.length:Int)) (hj:0≤j):nth (l.set i.toNat o) j=if i=j then o else nth l j:=by
  unfold nth
  rw [List.getElem?_set]
  by_cases e:i=j
  · subst e
    rw [if_pos rfl,if_pos (by omega),if_pos rfl];rfl
  · rw [if_neg (by omega),if_neg e]
theorem DF {h:iv} {k j:Int} {now:Int} (h0:0≤k) (h1:k<(h.ag.length:Int)) (hj:0≤j):jM (nth (m5 h k).ag j) now=jM (nth h.ag j) now:=by
  unfold m5
  split
  · simp only
    rw [Cc h0 h1 hj]
    split
    · rename_i e;subst e;rfl
    · rfl
  · rfl
def kR (l:List bh) (now:Int) (h:iv) (k:Int):iv:=if jM (nth l k) now then h else m5 h k
def jk (h:iv):Int:=nth h.gc.ia ((h.gc.ia.length:Int) - 1)
def pT (h:iv):List Int:=h.gc.ia.take (h.gc.ia.length - 1)
def sF (h:iv) (now:Int):iv :=
  if h.gc.ia.length=0 then iv.mk h.ag (jz.mk 1 0 h.gc.round h.gc.ia)
  else if (jk h != 0)&&jM (nth h.ag (jk h)) now then iv.mk h.ag (jz.mk h.gc.phase h.gc.pos h.gc.round (pT h))
  else (lk h.ag (jk h)).foldl (kR h.ag now) (iv.mk (h.ag.set (jk h).toNat (marked (nth h.ag (jk h)) true)) (jz.mk h.gc.phase h.gc.pos h.gc.round (pT h)))
def ht (h:iv):List bh×Int×Int×Int×List Int:=(h.ag,h.gc.phase,h.gc.pos,h.gc.round,h.gc.ia)
theorem D7 {N:Nat} (hN:im≤N) {l:List bh} {now:Int} {e:List Int} (he:∀ y,y ∈ e→0≤y∧y≤9) (hel:e.length≤10) {h:iv} (hl:h.ag.length=10) {G:Nat} (hg:h.gc.ia.length≤G) (hG:G+20<im)
    (hx:∀ j,0≤j→jM (nth h.ag j) now=jM (nth l j) now)
    {body:Int×List bh×Int×Int×Int×List Int→Option ((Int×List bh×Int×Int×Int×List Int)⊕(Int×List bh×Int×Int×Int×List Int))}
    (hs:∀ (k:Nat) (t:iv) (y:Int),e[k]?=some y→k<e.length→t.ag.length=10→t.gc.ia.length+1<im→(∀ j,0≤j→jM (nth t.ag j) now=jM (nth l j) now)→0≤y→y≤9→body ((k:Int),ht t)=some (.inl (((k+1:Nat):Int),ht (kR l now t y))))
    (hend:∀ t,body ((e.length:Int),ht t)=some (.inr ((e.length:Int),ht t))) :
    iter body N (0,ht h)=some ((e.length:Int),ht (e.foldl (kR l now) h)):=by
  have hB:e.length<im:=by omega
  rw [show ((0:Int),ht h)=(fun (k:Nat) (t:iv)=>((k:Int),ht t)) 0 h from rfl,
    lB e (fun (k:Nat) (t:iv)=>((k:Int),ht t)) (fun _ t y=>kR l now t y) (fun t=>((e.length:Int),ht t)) (fun k t=>t.ag.length=10∧t.gc.ia.length≤G+k∧∀ j,0≤j→jM (nth t.ag j) now=jM (nth l j) now) ?_ ?_ (Nat.lt_of_lt_of_le hB hN) ⟨hl,hg,hx⟩,nE]
  · intro k t y hy hk ⟨i1,i2,i3⟩
    obtain ⟨y0,y9⟩:=he y (List.mem_of_getElem? hy)
    refine ⟨hs k t y hy hk i1 (by omega) i3 y0 y9,?_⟩
    unfold kR
    split
    · exact ⟨i1,by omega,i3⟩
    · have:=uU t y
      exact ⟨by rw [wQ,i1],by omega,fun j hj=>by rw [DF y0 (by omega) hj,i3 j hj]⟩
  · intro t _
    exact hend t
theorem Bp {h:iv} (q:kq h=true):∀ y,y ∈ h.gc.ia→0≤y∧y≤9:=by
  unfold kq at q
  simp only [Bool.and_eq_true,nJ] at q
  intro y hy
  obtain ⟨k,hk⟩:=List.getElem?_of_mem hy
  have:=q.2.2.2 k y hk
  unfold tB at this
  rw [Bool.and_eq_true,jv] at this
  exact this.1
theorem vL {h:iv} (q:kq h=true) (hg:h.gc.ia.length ≠ 0):0≤jk h∧jk h≤9:=Bp q _ (m7 (by omega) (by omega))
theorem EI {g:List Int} (hg:g.length ≠ 0) (hB:g.length<im):IntKind.i64.wrap ((g.length:Int) - 1)=((g.length - 1:Nat):Int)∧sub g 0 ((g.length - 1:Nat):Int)=some (g.take (g.length - 1)):=by
  have:g.length<16777216:=hB
  exact ⟨by rw [iX (by omega) (by omega)];omega,vn (by omega)⟩
def xQ (l:List bh):List bh:=l.set 0 (marked (nth l 0) true)
def pM (h:iv) (now:Int):Bool:=(h.gc.pos != 0)&&(((nth h.ag h.gc.pos).kind != 0)&&(jM (nth h.ag h.gc.pos) now || !(nth h.ag h.gc.pos).mark))
def ng (h:iv) (now:Int):List bh:=if pM h now then (mc h.ag h.gc.pos).1 else h.ag.set h.gc.pos.toNat (marked (nth h.ag h.gc.pos) false)
def px (h:iv) (now:Int):iv×Int :=
  (if h.gc.pos==9 then iv.mk (xQ (ng h now)) (jz.mk 0 0 (if 1000000<IntKind.i64.wrap (h.gc.round+1) then 1000000 else IntKind.i64.wrap (h.gc.round+1)) [0])
    else iv.mk (ng h now) (jz.mk h.gc.phase (h.gc.pos+1) h.gc.round h.gc.ia),if pM h now then h.gc.pos else -1)
def mw (h:iv) (now:Int):iv×Int:=if kq h then (if h.gc.phase==1 then px h now else (sF h now, -1)) else (h, -1)
theorem vO {h:iv} (q:kq h=true):(h.gc.phase=0)∨(h.gc.phase=1∧0≤h.gc.pos∧h.gc.pos≤9):=by
  unfold kq wj at q
  simp only [Bool.and_eq_true,Bool.or_eq_true,beq_iff_eq,jv] at q
  rcases q.2.1 with ⟨h1,_⟩ | ⟨h1,h2,_⟩
  · exact .inl h1
  · exact .inr ⟨h1,h2⟩
theorem zK (l:List bh) (i:Int):(mc l i).1.length=l.length:=by
  unfold mc;split <;> simp
theorem uk (h:iv) (now:Int):(ng h now).length=h.ag.length:=by
  unfold ng
  split
  · exact zK _ _
  · simp
theorem HJ {n:Int} (h0:0≤n) (h9:n≤9):((n+1:Int)==10)=(n==9)∧IntKind.i64.wrap (n+1)=n+1:=by
  rw [iX (by omega) (by omega)]
  exact ⟨by rw [Bool.eq_iff_iff];simp;omega,rfl⟩
theorem Hp (t:iv):iv.mk t.ag (jz.mk t.gc.phase t.gc.pos t.gc.round t.gc.ia)=t:=rfl
theorem A3 {o:bh} (h:kt o=true) (hk:(o.kind==0)=true):marked o false=o:=by
  unfold kt at h
  simp only [hk,cond_true,Bool.and_eq_true,decide_eq_true_eq] at h
  rw [h.2.2];rfl
theorem Em {N:Nat} (hN:im≤N) {h:iv} (q:kq h=true) (h1:jl iA h.ag<im) (hw:wA h.ag) (h2:h.gc.ia.length+20<im) (now:Int):qq N h now=some (sF h now):=by
  have h2':h.gc.ia.length<im:=by omega
  have hB:h.gc.ia.length<16777216:=h2'
  have ha:=nh q
  unfold qq sF
  by_cases hg:h.gc.ia.length=0
  · have:decide (IntKind.i64.wrap ((h.gc.ia.length:Int) - 1)<0)=true:=by rw [hg];decide
    rw [this,if_pos hg];rfl
  · obtain ⟨g1,g2⟩:=EI hg h2'
    obtain ⟨l0,l9⟩:=vL q hg
    obtain ⟨e1,e2⟩:=tN ha (jk h)
    have eg:idx h.gc.ia ((h.gc.ia.length - 1:Nat):Int)=some (jk h):=by
      rw [jj (l:=h.gc.ia) (i:=((h.gc.ia.length - 1:Nat):Int)) (by omega) (by omega)]
      unfold jk
      rw [show ((h.gc.ia.length:Int) - 1)=((h.gc.ia.length - 1:Nat):Int) by omega]
    have hd:decide (((h.gc.ia.length - 1:Nat):Int)<0)=false:=by simp
    have hgt:decide (jk h > 0)=(jk h != 0):=by
      rw [Bool.eq_iff_iff];simp;omega
    rw [g1,hd,if_neg hg]
    simp only [cond_false,eg,g2,(ha.at l0 l9).1,tk,Option.bind_some,hgt]
    rw [show (bif jk h != 0 then some (jM (nth h.ag (jk h)) now) else some false:Option Bool)=some ((jk h != 0)&&jM (nth h.ag (jk h)) now) from k5 _ _]
    simp only [Option.bind_some]
    cases hc:((jk h != 0)&&jM (nth h.ag (jk h)) now)
    · simp only [cond_false,Bool.false_eq_true,if_false]
      rw [CA hN h1 hw ha l0 l9]
      simp only [Option.bind_some]
      rw [show ((0:Int),h.ag.set (jk h).toNat (bh.mk (nth h.ag (jk h)).gen (nth h.ag (jk h)).kind (nth h.ag (jk h)).box (nth h.ag (jk h)).res (nth h.ag (jk h)).iL (nth h.ag (jk h)).cd (nth h.ag (jk h)).wait (nth h.ag (jk h)).iK (nth h.ag (jk h)).iM true (nth h.ag (jk h)).ig (nth h.ag (jk h)).data (nth h.ag (jk h)).queue),h.gc.phase,h.gc.pos,h.gc.round,h.gc.ia.take (h.gc.ia.length - 1)) =
        ((0:Int),ht (iv.mk (h.ag.set (jk h).toNat (marked (nth h.ag (jk h)) true)) (jz.mk h.gc.phase h.gc.pos h.gc.round (pT h)))) from rfl,
        D7 hN (l:=h.ag) (now:=now) e1 e2 (h:=iv.mk (h.ag.set (jk h).toNat (marked (nth h.ag (jk h)) true)) (jz.mk h.gc.phase h.gc.pos h.gc.round (pT h))) (by simp [ha.len]) (G:=h.gc.ia.length) (by unfold pT;simp) h2
          (fun j hj=>by
            simp only
            rw [Cc l0 (by rw [ha.len];omega) hj]
            split
            · rename_i e;rw [← e];rfl
            · rfl)]
      · rfl
      · intro k t y hy hk t1 t2 t3 y0 y9
        simp only [ht,jt hk,cond_true,iT,hy,Option.bind_some,jj (l:=t.ag) y0 (show y<(t.ag.length:Int) by rw [t1];omega),tk,t3 y y0,Hp,xT hN y0 (show y<(t.ag.length:Int) by rw [t1];omega) t2,jx (show k<im by omega)]
        unfold kR
        cases jM (nth h.ag y) now <;> rfl
      · intro t
        simp only [ht,jr,cond_false]
    · rfl
theorem A6 {N:Nat} (hN:im≤N) {h:iv} (h1:jl iA h.ag<im) (hw:wA h.ag) (h2:h.gc.ia.length+20<im) (now:Int):nA N h now=some (mw h now):=by
  have h2':h.gc.ia.length<im:=by omega
  unfold nA mw
  simp only [ue hN h1 h2',uY hN h1 h2' hw,Option.bind_some]
  cases q:kq h
  · rfl
  have ha:=nh q
  simp only [Bool.not_true,cond_false,if_true]
  rcases vO q with hp | ⟨hp,hr⟩
  · rw [hp]
    simp only [beq_self_eq_true,cond_true,Em hN q h1 hw h2,Option.bind_some]
    rfl
  · obtain ⟨e1,e2⟩:=HJ hr.1 hr.2
    have hsl:=uk h now
    have e0:idx (ng h now) 0=some (nth (ng h now) 0):=jj (by omega) (by rw [hsl,ha.len];decide)
    have hgt:decide (h.gc.pos > 0)=(h.gc.pos != 0):=by rw [Bool.eq_iff_iff];simp;omega
    rw [show (h.gc.phase==0)=false by rw [hp];rfl,show (h.gc.phase==1)=true by rw [hp];rfl]
    unfold px
    simp only [cond_false,(ha.at hr.1 hr.2).1,tk,wZ hN h1 hw,Option.bind_some,hgt,e1,e2]
    rw [show (bif h.gc.pos != 0 then (bif (nth h.ag h.gc.pos).kind != 0 then (bif !(nth h.ag h.gc.pos).mark then some true else some (jM (nth h.ag h.gc.pos) now)) else some false) else some false:Option Bool)=some (pM h now) by
      unfold pM;rw [kO,k5,k5,Bool.or_comm]]
    simp only [Option.bind_some]
    have hsw:(bif pM h now then some (h.gc.pos,(mc h.ag h.gc.pos).1) else bif (nth h.ag h.gc.pos).kind != 0 then some (-1,h.ag.set h.gc.pos.toNat (bh.mk (nth h.ag h.gc.pos).gen (nth h.ag h.gc.pos).kind (nth h.ag h.gc.pos).box (nth h.ag h.gc.pos).res (nth h.ag h.gc.pos).iL (nth h.ag h.gc.pos).cd (nth h.ag h.gc.pos).wait (nth h.ag h.gc.pos).iK (nth h.ag h.gc.pos).iM false (nth h.ag h.gc.pos).ig (nth h.ag h.gc.pos).data (nth h.ag h.gc.pos).queue)) else some (-1,h.ag):Option (Int×List bh))=some (if pM h now then h.gc.pos else -1,ng h now):=by
      unfold ng
      cases pM h now
      · cases hk:(nth h.ag h.gc.pos).kind != 0
        · have hk0:((nth h.ag h.gc.pos).kind==0)=true:=by simpa [bne] using hk
          have hid:h.ag.set h.gc.pos.toNat (marked (nth h.ag h.gc.pos) false)=h.ag:=by
            rw [A3 (ha.ok _ (ha.at hr.1 hr.2).2) hk0]
            exact sJ (sy hr.1 (by rw [ha.len];omega))
          simp [hid]
        · rfl
      · rfl
    rw [hsw]
    simp only [Option.bind_some,e0]
    cases h.gc.pos==9 <;> rfl
theorem zs {α:Type} {f:α→Nat} {z:α}:∀ {l:List α} {k:Nat} {y:α},l[k]?=some y→f z=f y→nT f (l.set k z)=nT f l
  | x::l,0,y,h,e=>by simp at h;subst h;simp [nT,e]
  | x::l,k+1,y,h,e=>by
    simp only [List.set_cons_succ,nT]
    rw [zs (l:=l) (k:=k) (y:=y) (by simpa using h) e]
theorem nL {l:List bh} {i:Int} {z:bh} (h0:0≤i) (h1:i<(l.length:Int)) (e:iA z=iA (nth l i)):jl iA (l.set i.toNat z)=jl iA l:=by
  unfold jl
  rw [zs (sy h0 h1) e,List.length_set]
theorem vt {l:List bh} {now:Int}:∀ (e:List Int) (h:iv),(∀ y,y ∈ e→0≤y∧y≤9)→h.ag.length=10→wA h.ag →
    jl iA (e.foldl (kR l now) h).ag=jl iA h.ag∧wA (e.foldl (kR l now) h).ag∧(e.foldl (kR l now) h).gc.ia.length≤h.gc.ia.length+e.length
  | [],h,_,_,hw=>⟨rfl,hw,Nat.le_refl _⟩
  | y::e,h,he,hl,hw=>by
    obtain ⟨y0,y9⟩:=he y (by simp)
    have hy:y<(h.ag.length:Int):=by rw [hl];omega
    have key:jl iA (kR l now h y).ag=jl iA h.ag∧wA (kR l now h y).ag∧(kR l now h y).gc.ia.length≤h.gc.ia.length+1∧(kR l now h y).ag.length=10:=by
      unfold kR
      split
      · exact ⟨rfl,hw,Nat.le_succ _,hl⟩
      · refine ⟨?_,?_,uU h y,by rw [wQ,hl]⟩
        · unfold m5
          split
          · exact nL y0 hy rfl
          · rfl
        · unfold m5
          split
          · exact kC hw (show my (marked (nth h.ag y) true) from hw (nth h.ag y) (m7 y0 hy))
          · exact hw
    obtain ⟨a1,a2,a3⟩:=vt e (kR l now h y) (fun z hz=>he z (by simp [hz])) key.2.2.2 key.2.1
    simp only [List.foldl_cons,List.length_cons]
    exact ⟨a1.trans key.1,a2,by omega⟩
theorem DV (i:Int) (o:bh):iA (yf i o)=iA o:=by
  unfold yf
  split
  · rfl
  · unfold iA;simp
theorem Fp {i:Int} {o:bh} (h:my o):my (yf i o):=by
  unfold yf
  split
  · exact h
  · exact h
theorem B2 (g:Int):my (blank g):=by show (-9223372036854775808:Int)≤0;decide
theorem CM {l:List bh} (hw:wA l) (i:Int):jl iA (mc l i).1≤jl iA l∧wA (mc l i).1:=by
  unfold mc
  split
  · refine ⟨?_,fun o ho=>?_⟩
    · show jl iA ((l.set i.toNat (blank (nth l i).gen)).map (yf i))≤_
      rw [Gh (DV i)]
      exact wt
    · obtain ⟨y,hy,rfl⟩:=List.mem_map.1 ho
      exact Fp (kC hw (B2 _) y hy)
  · exact ⟨Nat.le_refl _,hw⟩
theorem xF {h:iv} (hw:wA h.ag) (now:Int):jl iA (mw h now).1.ag≤jl iA h.ag∧wA (mw h now).1.ag∧(mw h now).1.gc.ia.length≤h.gc.ia.length+10 ∧
    (decide ((mw h now).2 ≥ 0)=true→Ar h.ag∧0≤(mw h now).2∧(mw h now).2≤9):=by
  unfold mw
  split
  · rename_i q
    have ha:=nh q
    have hl:=ha.len
    split
    · rename_i hp
      have hp:h.gc.phase=1:=by simpa using hp
      have hr:0≤h.gc.pos∧h.gc.pos≤9:=by
        rcases vO q with e | e
        · rw [hp] at e;cases e
        · exact e.2
      have hs:jl iA (ng h now)≤jl iA h.ag∧wA (ng h now):=by
        unfold ng
        split
        · exact CM hw _
        · exact ⟨Nat.le_of_eq (nL hr.1 (by rw [hl];omega) rfl),kC hw (show my (marked (nth h.ag h.gc.pos) false) from hw (nth h.ag h.gc.pos) (ha.at hr.1 hr.2).2)⟩
      have hsl:=uk h now
      have h0:(0:Int)<((ng h now).length:Int):=by rw [hsl,hl];decide
      refine ⟨?_,?_,?_,fun hd=>⟨ha,?_⟩⟩
      · unfold px xQ
        simp only
        split
        · show jl iA ((ng h now).set (0:Int).toNat _)≤_
          rw [nL (z:=marked (nth (ng h now) 0) true) (Int.le_refl 0) h0 rfl];exact hs.1
        · exact hs.1
      · unfold px xQ
        simp only
        split
        · exact kC hs.2 (show my (marked (nth (ng h now) 0) true) from hs.2 (nth (ng h now) 0) (m7 (Int.le_refl 0) h0))
        · exact hs.2
      · unfold px
        simp only
        split
        · simp
        · exact Nat.le_add_right _ _
      · unfold px at hd ⊢
        simp only at hd ⊢
        split
        · exact hr
        · rename_i hn
          rw [if_neg hn] at hd
          simp at hd
    · refine ⟨?_,?_,?_,fun hd=>by simp at hd⟩
      all_goals
        unfold sF
        simp only
        split
        · first | exact Nat.le_refl _ | exact hw | exact Nat.le_add_right _ _
        · rename_i hg
          split
          · first | exact Nat.le_refl _ | exact hw | (unfold pT;simp;omega)
          · obtain ⟨l0,l9⟩:=vL q hg
            obtain ⟨e1,e2⟩:=tN ha (jk h)
            obtain ⟨a1,a2,a3⟩:=vt (l:=h.ag) (now:=now) (lk h.ag (jk h)) (iv.mk (h.ag.set (jk h).toNat (marked (nth h.ag (jk h)) true)) (jz.mk h.gc.phase h.gc.pos h.gc.round (pT h))) e1 (by simp [hl]) (kC hw (show my (marked (nth h.ag (jk h)) true) from hw (nth h.ag (jk h)) (ha.at l0 l9).2))
            first
              | exact Nat.le_of_eq (a1.trans (nL l0 (by rw [hl];omega) rfl))
              | exact a2
              | (refine Nat.le_trans a3 ?_
                 unfold pT
                 simp
                 omega)
  · exact ⟨Nat.le_refl _,hw,Nat.le_add_right _ _,fun hd=>by simp at hd⟩
structure IG where
  n:Int
  tree:List iy
  heap:iv
def ct (k:Nat) (c:IG):Int×Int×List iy×List bh×Int×Int×Int×List Int:=(c.n,(k:Int),c.tree,c.heap.ag,c.heap.gc.phase,c.heap.gc.pos,c.heap.gc.round,c.heap.gc.ia)
end Go.Kx
/- Plain laws: what is split off, given and dropped in a tree. No program in sight. -/
namespace Go.Kx
open Go
set_option linter.unusedVariables false
set_option linter.unusedSimpArgs false
set_option maxRecDepth 10000
theorem Gx {t:List iy} {f:Int} {a:iB} (h:(jQ t f a).2=false):(jQ t f a).1=t:=by
  unfold jQ at h ⊢
  split
  · rename_i q
    rw [if_pos q] at h
    split
    · rename_i q2
      rw [if_pos q2] at h
      cases h
    · rfl
  · rfl
theorem z9 {t:List iy} {f:Int} {a:iB} (h:(jQ t f a).2=true):ki t=true∧jD t f=true:=by
  unfold jQ at h
  split at h
  · rename_i q
    simpa using q
  · cases h
theorem Ev (t:List iy) (f:Int) (a:iB):(jQ t f a).1.map iy.live=t.map iy.live:=by
  unfold jQ
  split
  · rename_i q
    simp only [Bool.and_eq_true] at q
    obtain ⟨f0,f4⟩:=lS q.2
    have hl:=rH q.1
    split
    · rw [List.map_set]
      refine sJ ?_
      rw [List.getElem?_map,sy f0 (by omega)]
      rfl
    · rfl
  · rfl
def vl:Nat→List Bool→Option Nat
  | _,[]=>none
  | k,b::l=>if b then vl (k+1) l else some k
theorem Cf {ρ:Type} (g:Nat→ρ) (r:ρ):∀ (l:List iy) (k:Nat),lD (fun k (_:Unit) (y:iy)=>if y.live then .inl () else .inr (g k)) (fun _=>r) k () l=(match vl k (l.map iy.live) with | none=>r | some k=>g k)
  | [],k=>rfl
  | y::l,k=>by
    unfold lD
    simp only [List.map_cons,vl]
    cases y.live
    · rfl
    · exact Cf g r l (k+1)
theorem Ae {ρ:Type} {N:Nat} (hN:im≤N) {x:List iy} (hx:x.length<im) (g:Nat→ρ) (r:ρ) {body:Int→Option (Int⊕ρ)}
    (hs:∀ (k:Nat) (y:iy),x[k]?=some y→k<x.length→body (k:Int)=some (if y.live then .inl ((k+1:Nat):Int) else .inr (g k))) (he:body (x.length:Int)=some (.inr r)) :
    iter body N 0=some (match vl 0 (x.map iy.live) with | none=>r | some k=>g k):=by
  rw [show (0:Int)=(fun (k:Nat) (_:Unit)=>(k:Int)) 0 () from rfl,
    mJ x (fun (k:Nat) (_:Unit)=>(k:Int)) (fun k _ y=>if y.live then .inl () else .inr (g k)) (fun _=>r) (fun _ _=>True) ?_ ?_ (Nat.lt_of_lt_of_le hx hN) trivial,Cf]
  · intro k _ y hy hk _
    refine ⟨?_,fun _ _=>trivial⟩
    show body (k:Int)=_
    rw [hs k y hy hk]
    cases y.live <;> rfl
  · intro _ _
    exact he
def k6 (t:List iy) (f:Int) (a:iB):List iy×Int×Bool :=
  if (jQ t f a).2 then (match vl 0 (t.map iy.live) with | none=>(t,0,false) | some k=>((jQ t f a).1.set k (iy.mk true f a),(k:Int),true)) else (t,0,false)
theorem vu (t:List iy) (f:Int) (a:iB):(k6 t f a).1.length=t.length:=by
  unfold k6
  split
  · split
    · rfl
    · simp only [List.length_set,lM]
  · rfl
theorem BF {N:Nat} (hN:im≤N) {t:List iy} (hB:t.length<im) (f:Int) (a:iB):oI N t f a=some (k6 t f a):=by
  unfold oI k6
  simp only [vC hN hB,Option.bind_some]
  cases h:(jQ t f a).2
  · simp only [Bool.not_false,cond_true,Gx h,Bool.false_eq_true,if_false]
  simp only [Bool.not_true,cond_false,if_true]
  rw [Ae hN hB (fun k=>Sum.inr ((jQ t f a).1.set k (iy.mk true f a),(k:Int),true)) (Sum.inl (t.length:Int))]
  · simp only [Option.bind_some]
    cases vl 0 (t.map iy.live)
    · simp only [Sum.elim_inl,oy hB,Option.bind_some]
    · rfl
  · intro k y hy hk
    have hp:=lM t f a
    simp only [jt hk,cond_true,iT,hy,Option.bind_some,jx (Nat.lt_trans hk hB),Int.toNat_natCast]
    cases y.live
    · have:((jQ t f a).1[k]?)=some ((jQ t f a).1[k]'(by omega)):=List.getElem?_eq_getElem (by omega)
      simp only [this,Bool.not_false,cond_true,Option.bind_some,Bool.false_eq_true,if_false]
    · simp only [Bool.not_true,cond_false,if_true]
  · simp only [jr,cond_false]
theorem w9 {N:Nat} (hN:im≤N) {t:List iy} (hB:t.length<im) (f:Int) (a:iB):m9 N t f a=some (k6 t f a):=by
  unfold m9 k6
  simp only [ub hN hB,Option.bind_some]
  cases h:(jQ t f a).2
  · simp only [Bool.not_false,cond_true,pZ hB,Option.bind_some,Bool.false_eq_true,if_false]
  have hp:=lM t f a
  simp only [Bool.not_true,cond_false,if_true]
  rw [Ae (x:=(jQ t f a).1) hN (by omega) (fun k=>Sum.inr ((jQ t f a).1.set k (iy.mk true f a),(k:Int),true)) (Sum.inl ((jQ t f a).1.length:Int)),Ev]
  · simp only [Option.bind_some]
    cases vl 0 (t.map iy.live)
    · simp only [Sum.elim_inl,pZ hB,Option.bind_some]
    · rfl
  · intro k y hy hk
    simp only [jt hk,cond_true,iT,hy,Option.bind_some,jx (show k<im by omega),Int.toNat_natCast]
    cases y.live <;> rfl
  · simp only [jr,cond_false]
def ml (t:List iy) (f g:Int) (a:iB):List iy×Bool:=if (jQ t f a).2&&jD t g then rl (jQ t f a).1 g a else (t,false)
theorem z5 (t:List iy) (f g:Int) (a:iB):(ml t f g a).1.length=t.length:=by
  unfold ml
  split
  · rw [Aa,lM]
  · rfl
theorem C3 {N:Nat} (hN:im≤N) {t:List iy} (hB:t.length<im) (f g:Int) (a:iB):pX N t f g a=some (ml t f g a):=by
  unfold pX ml
  have hp:=lM t f a
  simp only [vC hN hB,Option.bind_some]
  cases h:(jQ t f a).2
  · simp only [Bool.not_false,cond_true,oy hB,Option.bind_some,Bool.false_and,Bool.false_eq_true,if_false]
  have hl:=rH (z9 h).1
  simp only [Bool.not_true,cond_false,rk N hl,Option.bind_some,Bool.true_and]
  cases jD t g
  · simp only [Bool.not_false,cond_true,oy hB,Option.bind_some,Bool.false_eq_true,if_false]
  · simp only [Bool.not_true,cond_false,if_true,CQ hN (show (jQ t f a).1.length<im by omega),Option.bind_some]
theorem CJ {N:Nat} (hN:im≤N) {t:List iy} (hB:t.length<im) (f g:Int) (a:iB):pY N t f g a=some (ml t f g a):=by
  unfold pY ml
  have hp:=lM t f a
  simp only [tL hN,ub hN hB,Option.bind_some]
  cases h:(jQ t f a).2
  · cases ki t&&jD t g <;> simp only [Bool.not_false,Bool.not_true,cond_true,cond_false,pZ hB,Option.bind_some,Bool.false_and,Bool.false_eq_true,if_false]
  rw [(z9 h).1]
  simp only [Bool.true_and]
  cases jD t g
  · simp only [Bool.not_false,cond_true,pZ hB,Option.bind_some,Bool.false_eq_true,if_false]
  · simp only [Bool.not_true,cond_false,if_true,C9 hN (show (jQ t f a).1.length<im by omega),Option.bind_some]
theorem DP {t:List iy} (h:Tr t) {i:Int} (hv:jD t i=true) (hi:i ≠ 0):0≤up t i∧up t i≤4∧up t i ≠ i∧(nth t (up t i)).live=true:=by
  obtain ⟨i0,i4⟩:=lS hv
  have hl:=h.len
  have hg:=sy (l:=t) i0 (by omega)
  have hlv:(nth t i).live=true:=by
    unfold jD at hv
    simp only [Bool.and_eq_true] at hv
    exact hv.2
  have h1:=h.lead i.toNat (nth t i) hg hlv
  rw [show ((i.toNat:Nat):Int)=i by omega] at h1
  have hne:up t i ≠ i:=fun q=>by rw [xk hi q] at h1;cases h1
  have h2:leads t 4 (up t i)=true:=by
    unfold leads at h1
    simpa [hi,hv] using h1
  by_cases hu:up t i=0
  · rw [hu]
    exact ⟨by omega,by omega,fun q=>hi q.symm,h.C4⟩
  · unfold leads at h2
    have h3:jD t (up t i)=true:=by
      cases q:jD t (up t i)
      · simp [hu,q] at h2
      · rfl
    obtain ⟨a,b⟩:=lS h3
    unfold jD at h3
    simp only [Bool.and_eq_true] at h3
    exact ⟨a,b,hne,h3.2⟩
def zD (s:iB) (B:Int):Prop:=(0≤s.cd∧s.cd≤B)∧(0≤s.ij∧s.ij≤B)∧(0≤s.iD∧s.iD≤B)
theorem zq {s a:iB} {B:Int} (hs:zD s B) (ha:je a=true) (hB:B≤1000000000):(iZ s a).cd=s.cd+a.cd∧(iZ s a).ij=s.ij+a.ij∧(iZ s a).iD=s.iD+a.iD∧zD (iZ s a) (B+1000000):=by
  have h:=kL.1 ha
  unfold zD at hs
  have w1:(iZ s a).cd=s.cd+a.cd:=iX (by omega) (by omega)
  have w2:(iZ s a).ij=s.ij+a.ij:=iX (by omega) (by omega)
  have w3:(iZ s a).iD=s.iD+a.iD:=iX (by omega) (by omega)
  exact ⟨w1,w2,w3,⟨by omega,by omega⟩,⟨by omega,by omega⟩,⟨by omega,by omega⟩⟩
theorem xc:∀ (t:List iy) (s:iB) (B:Int),(∀ r,r ∈ t→je r.iU=true)→0≤B→B+1000000 * (t.length:Int)≤1000000000→zD s B→∀ (k:Nat) (r:iy),t[k]?=some r→r.live=true →
    s.cd+r.iU.cd≤(jA s t).cd∧s.ij+r.iU.ij≤(jA s t).ij∧s.iD+r.iU.iD≤(jA s t).iD
  | [],s,B,_,_,_,_,k,r,hr,_=>by simp at hr
  | x::t,s,B,h,hB,hL,hs,k,r,hr,hv=>by
    have hx:=h x (by simp)
    simp only [List.length_cons] at hL
    obtain ⟨w1,w2,w3,w4⟩:=zq hs hx (by omega)
    have hx':=kL.1 hx
    have e:jA s (x::t)=jA (if x.live then iZ s x.iU else s) t:=rfl
    rw [e]
    have ht:∀ r,r ∈ t→je r.iU=true:=fun r hr=>h r (by simp [hr])
    match k with
    | 0 =>
      simp only [List.getElem?_cons_zero,Option.some.injEq] at hr
      subst hr
      rw [if_pos hv]
      obtain ⟨⟨a1,a2,a3⟩,_⟩:=tx t (iZ s x.iU) (B+1000000) ht (by omega) (by omega) w4.1 w4.2.1 w4.2.2
      exact ⟨by omega,by omega,by omega⟩
    | k+1 =>
      rw [List.getElem?_cons_succ] at hr
      cases hxl:x.live
      · exact xc t s B ht hB (by omega) hs k r hr hv
      · obtain ⟨a1,a2,a3⟩:=xc t (iZ s x.iU) (B+1000000) ht (by omega) (by omega) w4 k r hr hv
        rw [if_pos rfl]
        exact ⟨by omega,by omega,by omega⟩
theorem vb:∀ (t:List iy) (s:iB) (B:Int),(∀ r,r ∈ t→je r.iU=true)→0≤B→B+1000000 * (t.length:Int)≤1000000000→zD s B→∀ (k j:Nat) (r q:iy),k<j→t[k]?=some r→r.live=true→t[j]?=some q→q.live=true →
    r.iU.cd+q.iU.cd≤(jA s t).cd∧r.iU.ij+q.iU.ij≤(jA s t).ij∧r.iU.iD+q.iU.iD≤(jA s t).iD
  | [],s,B,_,_,_,_,k,j,r,q,_,hr,_,_,_=>by simp at hr
  | x::t,s,B,h,hB,hL,hs,k,j,r,q,hkj,hr,hv,hq,hw=>by
    have hx:=h x (by simp)
    simp only [List.length_cons] at hL
    obtain ⟨w1,w2,w3,w4⟩:=zq hs hx (by omega)
    have e:jA s (x::t)=jA (if x.live then iZ s x.iU else s) t:=rfl
    rw [e]
    have ht:∀ r,r ∈ t→je r.iU=true:=fun r hr=>h r (by simp [hr])
    unfold zD at hs
    match k,j,hkj with
    | 0,j+1,_ =>
      simp only [List.getElem?_cons_zero,Option.some.injEq] at hr
      subst hr
      rw [List.getElem?_cons_succ] at hq
      rw [if_pos hv]
      obtain ⟨a1,a2,a3⟩:=xc t (iZ s x.iU) (B+1000000) ht (by omega) (by omega) w4 j q hq hw
      exact ⟨by omega,by omega,by omega⟩
    | k+1,j+1,hkj =>
      rw [List.getElem?_cons_succ] at hr hq
      cases hxl:x.live
      · exact vb t s B ht hB (by omega) hs k j r q (by omega) hr hv hq hw
      · rw [if_pos rfl]
        exact vb t (iZ s x.iU) (B+1000000) ht (by omega) (by omega) w4 k j r q (by omega) hr hv hq hw
theorem Gl {t:List iy} (h:Tr t) {u i:Int} (hu:0≤u∧u≤4) (hi:0≤i∧i≤4) (hne:u ≠ i) (h1:(nth t u).live=true) (h2:(nth t i).live=true):kz (nth t u).iU (nth t i).iU=(iZ (nth t u).iU (nth t i).iU,true):=by
  have hl:=h.len
  have z:zD ⟨0,0,0⟩ 0:=by unfold zD;decide
  have hS:=kL.1 h.sum
  have gu:=sy (l:=t) (i:=u) hu.1 (by omega)
  have gi:=sy (l:=t) (i:=i) hi.1 (by omega)
  have bu:=h.iU _ (List.mem_of_getElem? gu)
  have bi:=h.iU _ (List.mem_of_getElem? gi)
  have bu':=kL.1 bu
  have bi':=kL.1 bi
  have key:(nth t u).iU.cd+(nth t i).iU.cd≤(jA ⟨0,0,0⟩ t).cd∧(nth t u).iU.ij+(nth t i).iU.ij≤(jA ⟨0,0,0⟩ t).ij∧(nth t u).iU.iD+(nth t i).iU.iD≤(jA ⟨0,0,0⟩ t).iD:=by
    rcases Int.lt_or_gt_of_ne hne with q | q
    · exact vb t ⟨0,0,0⟩ 0 h.iU (by omega) (by omega) z u.toNat i.toNat _ _ (by omega) gu h1 gi h2
    · obtain ⟨a,b,c⟩:=vb t ⟨0,0,0⟩ 0 h.iU (by omega) (by omega) z i.toNat u.toNat _ _ (by omega) gi h2 gu h1
      exact ⟨by omega,by omega,by omega⟩
  have v1:(iZ (nth t u).iU (nth t i).iU).cd=(nth t u).iU.cd+(nth t i).iU.cd:=iX (by omega) (by omega)
  have v2:(iZ (nth t u).iU (nth t i).iU).ij=(nth t u).iU.ij+(nth t i).iU.ij:=iX (by omega) (by omega)
  have v3:(iZ (nth t u).iU (nth t i).iU).iD=(nth t u).iU.iD+(nth t i).iU.iD:=iX (by omega) (by omega)
  have:je (iZ (nth t u).iU (nth t i).iU)=true:=kL.2 ⟨by omega,by omega,by omega⟩
  unfold kz
  rw [bu,bi,this];rfl
def tY (i u:Int) (r:iy):iy:=if r.live&&(r.parent==i) then iy.mk r.live u r.iU else r
def dropped (t:List iy) (i:Int):List iy:=(t.set (up t i).toNat (yw (nth t (up t i)) (iZ (nth t (up t i)).iU (nth t i).iU))).set i.toNat tS
def mn (t:List iy) (i:Int):List iy×Bool:=if (ki t&&jD t i)&&(i != 0) then ((dropped t i).map (tY i (up t i)),true) else (t,false)
theorem we (t:List iy) (i:Int):(mn t i).1.length=t.length:=by
  unfold mn dropped
  split <;> simp
theorem xI {N:Nat} (hN:im≤N) {t:List iy} (hB:t.length<im) (i:Int):n5 N t i=some (mn t i):=by
  unfold n5 mn
  simp only [pZ hB,tL hN,Option.bind_some,kO]
  cases h:(ki t&&jD t i)
  · rfl
  simp only [Bool.and_eq_true] at h
  have hT:=qb.1 h.1
  have hl:=hT.len
  cases hi:(i==0)
  case true=>simp only [Bool.not_true,Bool.or_true,cond_true,Bool.true_and,bne,hi,Bool.false_eq_true,if_false]
  have hi':i ≠ 0:=by simpa using hi
  obtain ⟨i0,i4⟩:=lS h.2
  obtain ⟨u0,u4,une,ulv⟩:=DP hT h.2 hi'
  have ilv:(nth t i).live=true:=by
    have:=h.2
    unfold jD at this
    simp only [Bool.and_eq_true] at this
    exact this.2
  have eu:idx t (nth t i).parent=some (nth t (up t i)):=jj (i:=up t i) u0 (by omega)
  have ff:=Gl hT ⟨u0,u4⟩ ⟨i0,i4⟩ une ulv ilv
  have e2:∀ z,idx (t.set (nth t i).parent.toNat z) i=some (nth (t.set (nth t i).parent.toNat z) i):=fun z=>jj i0 (by simp only [List.length_set];omega)
  simp only [Bool.not_true,Bool.or_false,cond_false,jj (l:=t) i0 (by omega),eu,tR,ff,Option.bind_some,e2,bne,hi,Bool.not_false,Bool.and_self,if_true]
  rw [show (((t.set (nth t i).parent.toNat (iy.mk (nth t (up t i)).live (nth t (up t i)).parent (iB.mk (iZ (nth t (up t i)).iU (nth t i).iU).cd (iZ (nth t (up t i)).iU (nth t i).iU).ij (iZ (nth t (up t i)).iU (nth t i).iU).iD))).set i.toNat (iy.mk false 0 (iB.mk 0 0 0))))=dropped t i from rfl]
  rw [xf (dropped t i) (tY i (up t i)) (show (dropped t i).length<N by unfold dropped;simp only [List.length_set];omega)]
  · rfl
  · intro k x y hx hty _ hk
    have hk':k<x.length:=by omega
    have hk2:k<t.length:=by unfold dropped at hk;simp only [List.length_set] at hk;omega
    simp only [jt hk',cond_true,iT,hty,Option.bind_some,k5,jx (show k<im by omega),Int.toNat_natCast]
    unfold tY
    cases (y.live&&(y.parent==i))
    · simp only [cond_false,Bool.false_eq_true,if_false,sJ hty]
    · simp only [cond_true,if_true];rfl
  · intro x hx
    rw [← hx]
    simp only [jr,cond_false]
theorem CN {N:Nat} (hN:im≤N) {t:List iy} (hB:t.length<im) (i:Int):pA N t i=some (mn t i):=by
  unfold pA mn
  simp only [oy hB,sP hN,Option.bind_some]
  cases ht:ki t
  · rfl
  have hT:=qb.1 ht
  have hl:=hT.len
  cases hi:(i==0)
  case true=>simp only [Bool.not_true,cond_false,cond_true,Option.bind_some,Bool.true_and,bne,hi,Bool.and_false,Bool.false_eq_true,if_false]
  have hi':i ≠ 0:=by simpa using hi
  simp only [Bool.not_true,cond_false,rk N hl,Option.bind_some]
  cases hv:jD t i
  · rfl
  obtain ⟨i0,i4⟩:=lS hv
  obtain ⟨u0,u4,une,ulv⟩:=DP hT hv hi'
  have eu:idx t (nth t i).parent=some (nth t (up t i)):=jj (i:=up t i) u0 (by omega)
  have e2:∀ z,idx (t.set (nth t i).parent.toNat z) i=some (nth (t.set (nth t i).parent.toNat z) i):=fun z=>jj i0 (by simp only [List.length_set];omega)
  simp only [Bool.not_true,cond_false,jj (l:=t) i0 (by omega),eu,sD,Option.bind_some,e2,bne,hi,Bool.not_false,Bool.and_self,if_true]
  rw [show (((t.set (nth t i).parent.toNat (iy.mk (nth t (up t i)).live (nth t (up t i)).parent (iZ (nth t (up t i)).iU (nth t i).iU))).set i.toNat (iy.mk false 0 (iB.mk 0 0 0))))=dropped t i from rfl]
  rw [xf (dropped t i) (tY i (up t i)) (show (dropped t i).length<N by unfold dropped;simp only [List.length_set];omega)]
  · rfl
  · intro k x y hx hty _ hk
    have hk':k<t.length:=by unfold dropped at hk;simp only [List.length_set] at hk;omega
    simp only [jt hk',cond_true,iT,hty,Option.bind_some,k5,jx (show k<im by omega),Int.toNat_natCast]
    unfold tY
    cases (y.live&&(y.parent==i))
    · simp only [cond_false,Bool.false_eq_true,if_false,sJ hty]
    · simp only [cond_true,if_true];rfl
  · intro x hx
    rw [show (dropped t i).length=t.length by unfold dropped;simp only [List.length_set]]
    simp only [jr,cond_false]
end Go.Kx
