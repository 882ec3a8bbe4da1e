/- The law FnCollected, in plain Lean. No program in sight. -/
import Derived.Test.YtikeaiogpfjdnaaGreatLCyc
import Derived.Test.YtikeaiogpfjdnaaGreatLDrawP
namespace Go.Kx
open Go
set_option linter.unusedVariables false
set_option linter.unusedSimpArgs false
set_option maxRecDepth 10000
def sN (now:Int):Nat→ic→ic
  | 0,h=>h
  | k+1,h=>sN now k (jd h now).1
theorem xN (now:Int):∀ (k:Nat) (c:su),(sJ now k c).heap=sN now k c.heap
  | 0,c=>rfl
  | k+1,c=>by
    have e:(lJ now c).heap=(jd c.heap now).1:=by unfold lJ;split <;> rfl
    show (sJ now k (lJ now c)).heap=_
    rw [xN now k,e];rfl
theorem zb {h:ic} (q:Hk h) (now:Int) {i:Int} (i0:0≤i) (i9:i≤9):(nth (jd h now).1.ag i).gen=(nth h.ag i).gen:=by
  have h10:=q.ar.len
  rcases Bg q now with e | ⟨c,p1,p9,hf,ar,e⟩
  · exact (congrArg Sk.gen (kS e i0 (by omega))).symm
  · have a:(nth (lI h.ag h.gc.pos) i).gen=_:=congrArg Sk.gen (kS e i0 (by have:=ar.len;omega))
    refine a.symm.trans ?_
    rw [mX h10 (by omega) p9 i0 i9]
    split
    · rename_i e;subst e;rfl
    · exact xB _ _
theorem zH (now:Int):∀ (k:Nat) (h:ic),Hk h→wA h.ag→Hk (sN now k h)∧lK (sN now k h).ag≤lK h.ag∧∀ i,0≤i→i≤9→(nth (sN now k h).ag i).gen=(nth h.ag i).gen
  | 0,h,q,w=>⟨q,Int.le_refl _,fun _ _ _=>rfl⟩
  | k+1,h,q,w=>by
    obtain ⟨_,hw,_,hr⟩:=nt w now
    have hg:=yL q now
    obtain ⟨a,b,c⟩:=zH now k _ (q.step now) hw
    refine ⟨a,Int.le_trans b ?_,fun i i0 i9=>(c i i0 i9).trans (zb q now i0 i9)⟩
    rw [hg]
    cases hd:decide ((jd h now).2 ≥ 0)
    · simp
    · obtain ⟨_,d0,d9⟩:=hr hd
      have:=(uO (q.ar.ok _ (q.ar.at d0 d9).2)).1
      simp only [if_true]
      omega
theorem zI (now:Int):∀ (k:Nat) (h:ic),Sf h now→Sf (sN now k h) now∧(∀ i,Reaches (sN now k h).ag now i ↔ Reaches h.ag now i)∧∀ j,Reaches h.ag now j→(nth (sN now k h).ag j).gen=(nth h.ag j).gen∧(nth (sN now k h).ag j).kind=(nth h.ag j).kind
  | 0,h,s=>⟨s,fun _=>Iff.rfl,fun _ _=>⟨rfl,rfl⟩⟩
  | k+1,h,s=>by
    obtain ⟨s1,s2,s3⟩:=s.step
    obtain ⟨a,b,c⟩:=zI now k _ s1
    refine ⟨a,fun i=>(b i).trans (s2 i),fun j r=>?_⟩
    obtain ⟨c1,c2⟩:=c j ((s2 j).2 r)
    obtain ⟨d1,d2⟩:=s3 j r
    exact ⟨c1.trans d1,c2.trans d2⟩
theorem AS {g:Int→Int} {D:Int→Prop} {now:Int}:∀ (k:Nat) (h:ic),Rec g D h now k→Rec g D (sN now k h) now 0
  | 0,h,r=>r
  | k+1,h,r=>AS k _ r.step
theorem EV {l:List bh} (ar:Ar l) (now:Int):Dm (fun i=>(nth l i).gen) (fun i=>(1≤i∧i≤9)∧¬ Reaches l now i) l now:=by
  refine ⟨fun i d=>d.1,fun j k j0 j9 q a x=>?_⟩
  have hj:¬ Reaches l now j:=fun r=>a.1.2 (.step r q x)
  refine ⟨⟨⟨?_,j9⟩,hj⟩,fun hk=>?_,rfl⟩
  · by_cases e:j=0
    · exact absurd (e ▸ Reaches.root) hj
    · omega
  · rw [wu ar j0 j9 hk] at q;simp at q
theorem BK {h:ic} {now:Int} (s:Sf h now) {n:Nat} (hn:42≤n):∀ i,0≤i→i≤9→(nth (sN now n h).ag i).kind ≠ 0→Reaches (sN now n h).ag now i:=by
  intro i i0 i9 hk
  obtain ⟨_,b,_⟩:=zI now n h s
  have ge:∀ (k:Nat) (h:ic),Hk h→∀ i,0≤i→i≤9→(nth (sN now k h).ag i).gen=(nth h.ag i).gen:=fun k=>by
    induction k with
    | zero=>intro h _ i _ _;rfl
    | succ k ih=>intro h q i i0 i9;exact (ih _ (q.step now) i i0 i9).trans (zb q now i0 i9)
  refine Classical.byContradiction fun hr=>?_
  have hr':¬ Reaches h.ag now i:=fun r=>hr ((b i).2 r)
  have al:=(AS n h ((Rec.start s (EV s.hk.ar now)).more hn)).done i
  refine al ⟨⟨⟨?_,i9⟩,hr'⟩,hk,ge n h s.hk i i0 i9⟩
  by_cases e:i=0
  · exact absurd (e ▸ Reaches.root) hr'
  · omega
theorem BW {N:Nat} (hN:iy≤N) {l:List bh} (hb:jr iu l<iy) (hw:wA l) (ar:Ar l) {now:Int} (h:∀ i,0≤i→i≤9→(nth l i).kind ≠ 0→Reaches l now i):WD (pb N l now) (fun r=>r=[]):=by
  have hr:=nh ar now
  have hB:(16777216:Nat)=iy:=rfl
  have h10:=ar.len
  unfold pb
  refine WD.step (tI hN hb hw now) ?_
  refine WD.bind (P:=fun (s:List Int×Int)=>s.1=[]) (WD.loop (fun (s:List Int×Int)=>s.1=[]∧0≤s.2∧s.2≤10) (fun (r:List Int×Int)=>r.1=[]) (fun (s:List Int×Int)=>(10 - s.2).toNat) ⟨rfl,by decide,by decide⟩ (by show ((10:Int) - 0).toNat<N;omega) ?_) fun r hr=>WD.ret hr
  intro s ⟨s1,s2,s3⟩
  refine WD.ite (fun c=>?_) fun _=>WD.inr s1
  have c:s.2<10:=by have:=of_decide_eq_true c;omega
  refine WD.bind (P:=fun j=>j=false) ?_ fun j hj=>?_
  · refine WD.step (jk s2 (by omega)) (WD.ite (fun k=>?_) fun _=>WD.ret rfl)
    refine WD.step (jk s2 (by omega)) (WD.ret ?_)
    rw [(oD ar s2).2 (h s.2 s2 (by omega) (by simpa using k))]
    rfl
  · rw [hj]
    refine WD.inl ⟨s1,?_,?_⟩ ?_
    · dsimp only;rw [iM (by omega) (by omega)];omega
    · dsimp only;rw [iM (by omega) (by omega)];omega
    · dsimp only;rw [iM (by omega) (by omega)];omega
theorem yo {x:List U8} (hx:Fit.fit x):∃ N,mR N x=some true:=by
  obtain ⟨N,hN⟩:∃ N,iy≤N:=⟨iy,Nat.le_refl _⟩
  suffices h:WD (mR N x) (fun r=>r=true) by
    obtain ⟨_,e,rfl⟩:=h
    exact ⟨N,e⟩
  unfold mR vp
  refine WD.step rfl (WD.ite (fun _=>WD.ret rfl) fun c=>?_)
  have hl:x.length≤1048576:=by have:=of_decide_eq_false c;omega
  refine WD.bind (xo hN hl) fun d ⟨⟨d1,d2⟩,n0,n1⟩=>?_
  obtain ⟨p,now,n⟩:=d
  dsimp only at *
  have hB:(16777216:Nat)=iy:=rfl
  have hb:je p<iy:=by omega
  obtain ⟨s0,s1⟩:=Bq (p:=p) (by omega) d2 now n
  have hb':je (jS p now n).1<iy:=by omega
  refine WD.step (yn hN (by omega) d2 now n) (WD.step (yr hN (by omega) d2 now n) ?_)
  rw [bne_self_eq_false,cond_false]
  refine WD.bind (P:=fun j=>j=!(jR p&&iE n 0 100)) ?_ fun j hj=>WD.ite (fun c=>?_) fun c=>?_
  · refine WD.step (sv hN hb d2) ?_
    cases jR p
    · exact WD.ret rfl
    simp only [Bool.not_true,cond_false,Bool.true_and]
    refine WD.ite (fun c=>?_) fun c=>WD.ret ?_
    · refine WD.ret ?_
      have c:=of_decide_eq_true c
      unfold iE
      rw [decide_eq_false (show ¬ 0≤n by omega)];rfl
    · have c:=of_decide_eq_false c
      unfold iE
      rw [decide_eq_true (show 0≤n by omega),Bool.true_and, ← decide_not]
      exact decide_eq_decide.2 (by omega)
  · rw [hj] at c
    have e:jS p now n=(p,0):=by unfold jS;cases q:(jR p&&iE n 0 100) <;> simp [q] at c ⊢
    rw [e]
    exact WD.step (WD.FQ (Bx hN hb)) (WD.ret (decide_eq_true rfl))
  · rw [hj] at c
    have c:jR p=true∧iE n 0 100=true:=by simpa using c
    obtain ⟨ok,hn⟩:=c
    refine WD.step (uL hN hb d2) (WD.step (oO N _) (WD.ite (fun _=>WD.ret rfl) fun ca=>?_))
    refine WD.step (uL hN hb d2) (WD.step (uL hN hb' s1) ?_)
    have ca:i7 (rf p)=true:=by simpa using ca
    obtain ⟨ps,pr,_⟩:=AJ ok
    rw [ps] at ca
    have hs:=(jT.1 ca).1
    obtain ⟨ok',sp'⟩:=yG ok d2 (by omega) now n
    have sm:rf (jS p now n).1=rf p:=by rw [(AJ ok').1,ps,sp']
    have hh:Hk p.heap:=kc.1 (by
      unfold jR at ok
      simp only [Bool.and_eq_true] at ok
      exact ok.2.2.2.1)
    have xh:(jS p now n).1.heap=sN now n.toNat p.heap:=by
      unfold jS
      rw [if_pos (by rw [ok,hn];rfl)]
      exact xN now n.toNat ⟨0,p.tree,p.heap⟩
    obtain ⟨hk',hpg,_⟩:=zH now n.toNat p.heap hh d2
    have xl:=hk'.ar.len
    rw [xh,sm]
    have hne:(((sN now n.toNat p.heap).ag.length:Int) != 10)=false:=by rw [xl];rfl
    rw [hne,cond_false]
    have hz:=m4 hb
    refine WD.step (Dr hN hz.2.2.2.1 hz.2.2.2.2.1 d2 now) ?_
    refine WD.bind (P:=fun r=>r=.inl ()) (WD.ite (fun cg=>?_) fun _=>WD.ret rfl) fun r hr=>?_
    · have sf:=BP.1 cg
      have ar:=sf.hk.ar
      have hrl:=nh ar now
      obtain ⟨_,b2,b3⟩:=zI now n.toNat p.heap sf
      refine WD.step (tI hN hz.2.2.2.1 d2 now) ?_
      refine WD.bind (P:=fun (r:Int⊕Bool)=>∃ s,r=.inl s) (WD.loop (fun (s:Int)=>0≤s∧s≤10) (fun (r:Int⊕Bool)=>∃ s,r=.inl s) (fun (s:Int)=>(10 - s).toNat) ⟨by decide,by decide⟩ (by show ((10:Int) - 0).toNat<N;omega) ?_) fun r ⟨s,hr⟩=>?_
      · intro s ⟨s2,s3⟩
        refine WD.ite (fun c=>?_) fun _=>WD.inr ⟨_,rfl⟩
        have c:s<10:=by have:=of_decide_eq_true c;omega
        refine WD.bind (P:=fun j=>j=false) ?_ fun j hj=>?_
        · refine WD.step (jk s2 (by omega)) (WD.ite (fun k=>?_) fun _=>WD.ret rfl)
          obtain ⟨g1,g2⟩:=b3 s ((oD ar s2).1 k)
          refine WD.step (jk s2 (by omega)) (WD.step (jk s2 (by have:=ar.len;omega)) ?_)
          rw [g1,g2,bne_self_eq_false,bne_self_eq_false]
          exact WD.ret rfl
        · rw [hj]
          refine WD.inl ⟨?_,?_⟩ ?_
          · rw [iM (by omega) (by omega)];omega
          · rw [iM (by omega) (by omega)];omega
          · rw [iM (by omega) (by omega)];omega
      · subst hr
        refine WD.bind (P:=fun j=>j=false) (WD.ite (fun c42=>?_) fun _=>WD.ret rfl) fun j hj=>?_
        · have c42:=of_decide_eq_true c42
          have hz':=m4 hb'
          rw [xh] at hz'
          have s1':wA (jS p now n).1.heap.ag:=s1
          rw [xh] at s1'
          refine WD.bind (BW hN hz'.2.2.2.1 s1' hk'.ar (BK sf (by omega))) fun r hr=>WD.ret ?_
          rw [hr];rfl
        · rw [hj];exact WD.ret rfl
    · subst hr
      refine WD.ite (fun _=>?_) fun cf=>?_
      · refine WD.step (sv hN hb' s1) ?_
        rw [ok',cond_true]
        refine WD.step (yR hN hb' s1) (WD.step (yR hN hb d2) (WD.ret (decide_eq_true ?_)))
        rw [(ua (p:=p) hh.ar).1,(ua (p:=(jS p now n).1) (by rw [xh];exact hk'.ar)).1,xh]
        exact hpg
      · simp at cf
end Go.Kx
