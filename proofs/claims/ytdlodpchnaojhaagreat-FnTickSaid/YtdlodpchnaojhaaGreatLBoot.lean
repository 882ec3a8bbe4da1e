/- Plain laws: ranges, amounts, labels, owned categories, what is started. No program in sight. -/
import Derived.Test.YtdlodpchnaojhaaGreatHa
namespace Go.Kx
open Go
set_option linter.unusedVariables false
set_option linter.unusedSimpArgs false
set_option maxRecDepth 10000
theorem lK (p q:Bool):(bif p then some q else some false)=some (p&&q):=by cases p <;> rfl
theorem lN (p q:Bool):(bif p then some true else some q)=some (p || q):=by cases p <;> rfl
def iE (a b c:Int):Bool:=decide (b≤a)&&decide (a≤c)
theorem i7 {a b c:Int}:iE a b c=true ↔ b≤a∧a≤c:=by simp [iE]
theorem nB (N:Nat) (a b c:Int):je N a b c=some (iE a b c):=lK _ _
theorem oF (N:Nat) (a b c:Int):jx N a b c=some (iE a b c):=lK _ _
def wV (n:Int):Bool:=iE n 0 1000000
theorem Ll (N:Nat) (a:Int):pW N a=some (wV a):=by unfold pW;rw [nB];rfl
theorem ES (N:Nat) (a:Int):nt N a=some (wV a):=by unfold nt;rw [oF];rfl
def iY (a:ig):Bool:=wV a.bh&&(wV a.ib&&wV a.ik)
theorem qX (N:Nat) (a:ig):kP N a=some (iY a):=by unfold kP;simp only [Ll,Option.bind_some,lK];rfl
theorem su (N:Nat) (a:ig):lM N a=some (iY a):=by unfold lM;simp only [ES,Option.bind_some,lK];rfl
def iV (a b:ig):ig:=ig.mk (IntKind.i64.wrap (a.bh+b.bh)) (IntKind.i64.wrap (a.ib+b.ib)) (IntKind.i64.wrap (a.ik+b.ik))
def lH (a b:ig):ig×Bool:=if iY a&&iY b&&iY (iV a b) then (iV a b,true) else (a,false)
theorem ve (N:Nat) (a b:ig):mJ N a b=some (lH a b):=by
  unfold mJ lH
  simp only [qX,Option.bind_some,lN]
  show (bif (!iY a || !iY b) then some (a,false) else (bif !iY (iV a b) then some (a,false) else some (iV a b,true)))=_
  cases iY a <;> cases iY b <;> cases iY (iV a b) <;> rfl
theorem tL (N:Nat) (a b:ig):mR N a b=some (iV a b):=rfl
def kc (l:j7):Bool:=((l.levels.length:Int)==4)&&l.levels.all fun y=>iE y 0 3
theorem xJ {N:Nat} (hN:im≤N) {l:j7} (hb:l.levels.length<im):od N l=some (kc l):=by
  unfold od kc
  rw [kn l.levels (fun _ y=>iE y 0 3) (.inl (l.levels.length:Int)) (.inr false) (Nat.lt_of_lt_of_le hb hN),kV]
  · cases h:((l.levels.length:Int)==4)
    · have:((l.levels.length:Int) != 4)=true:=by simp [bne,h]
      simp [this]
    · have:((l.levels.length:Int) != 4)=false:=by simp [bne,h]
      simp only [this,cond_false,Option.bind_some,Bool.true_and]
      cases l.levels.all fun y=>iE y 0 3 <;> rfl
  · intro k y hy hk
    simp only [jh hk,cond_true,iO,hy,Option.bind_some,nB,jm (Nat.lt_trans hk hb)]
    cases iE y 0 3 <;> rfl
  · simp only [jg,cond_false]
theorem G5 {N:Nat} (hN:im≤N) {l:j7} (hb:l.levels.length<im):rM N l=some (kc l):=by
  unfold rM kc
  rw [kn l.levels (fun _ y=>iE y 0 3) (.inl (l.levels.length:Int)) (.inr false) (Nat.lt_of_lt_of_le hb hN),kV]
  · simp only [Option.bind_some]
    cases l.levels.all fun y=>iE y 0 3 <;> simp
  · intro k y hy hk
    simp only [jh hk,cond_true,iO,hy,Option.bind_some,oF,jm (Nat.lt_trans hk hb)]
    cases iE y 0 3 <;> rfl
  · simp only [jg,cond_false]
def wK (l:List Int) (k:Nat) (y:Int):Bool:=iE y 0 3&&match k with
  | 0=>true
  | j+1=>!decide (y≤(l[j]?).getD 0)
def mX (l:List Int):Bool:=allI (wK l) 0 l
theorem DV {l:List Int} {k:Nat} {y:Int} (hy:l[k]?=some y) (hk:k<l.length) (hb:l.length<im) {N:Nat} :
    (bif (!(iE y 0 3)) then (some true) else (bif (decide ((k:Int) > 0)) then ((idx l (IntKind.i64.wrap ((k:Int) - 1))).bind fun y18=>some (decide (y≤y18))) else (some false)):Option Bool)=some (!wK l k y):=by
  have hB:l.length<16777216:=hb
  unfold wK
  cases k with
  | zero =>
    have:decide (((0:Nat):Int) > 0)=false:=by decide
    simp only [this,cond_false]
    cases iE y 0 3 <;> rfl
  | succ j =>
    have:decide (((j+1:Nat):Int) > 0)=true:=by simp
    have e:IntKind.i64.wrap (((j+1:Nat):Int) - 1)=(j:Int):=by rw [iI (by omega) (by omega)];omega
    have hz:l[j]?=some (l[j]'(by omega)):=List.getElem?_eq_getElem _
    simp only [this,cond_true,e,iO,hz,Option.bind_some,Option.getD_some]
    cases iE y 0 3 <;> simp
theorem Ay {N:Nat} (hN:im≤N) {l:List Int} (hb:l.length<im):qc N l=some (mX l):=by
  unfold qc mX
  rw [kn l (wK l) (.inl (l.length:Int)) (.inr false) (Nat.lt_of_lt_of_le hb hN)]
  · simp only [Option.bind_some]
    cases allI (wK l) 0 l <;> rfl
  · intro k y hy hk
    simp only [jh hk,cond_true,iO,hy,Option.bind_some,nB,jm (Nat.lt_trans hk hb)]
    rw [DV hy hk hb (N:=N)]
    cases wK l k y <;> rfl
  · simp only [jg,cond_false]
theorem I8 {N:Nat} (hN:im≤N) {l:List Int} (hb:l.length<im):uh N l=some (mX l):=by
  unfold uh mX
  rw [kn l (wK l) (.inl (l.length:Int)) (.inr false) (Nat.lt_of_lt_of_le hb hN)]
  · simp only [Option.bind_some]
    cases allI (wK l) 0 l <;> rfl
  · intro k y hy hk
    simp only [jh hk,cond_true,iO,hy,Option.bind_some,oF,jm (Nat.lt_trans hk hb),ge_iff_le]
    rw [DV hy hk hb (N:=N)]
    cases wK l k y <;> rfl
  · simp only [jg,cond_false]
theorem JH {N:Nat} (hN:im≤N) {l:List Int} {x:Int} (hb:l.length<im):∃ r,o7 N l x=some r∧decide (r ≥ 0)=l.contains x:=by
  unfold o7
  have hB:l.length<16777216:=hb
  rw [show (0:Int)=(fun (k:Nat) (_:Unit)=>(k:Int)) 0 () from rfl,mP l (fun k (_:Unit)=>(k:Int)) (fun k _ y=>if x==y then .inr (.inr (k:Int)) else .inl ()) (fun _=>.inl (l.length:Int)) (fun _ _=>True) ?_ ?_ (Nat.lt_of_lt_of_le hb hN) trivial]
  · simp only [Option.bind_some]
    have key:∀ (m:List Int) (k:Nat), ∃ r,Sum.elim (fun _=>some (-1)) (fun r16=>some r16) (l6 (ρ:=Int⊕Int) (fun (k:Nat) (_:Unit) y=>if x==y then .inr (.inr (k:Int)) else .inl ()) (fun _=>.inl (l.length:Int)) k () m)=some r∧decide (r ≥ 0)=m.contains x:=by
      intro m
      induction m with
      | nil=>intro k;exact ⟨-1,rfl,rfl⟩
      | cons y m ih =>
        intro k
        cases hxy:(x==y)
        · obtain ⟨r,h1,h2⟩:=ih (k+1)
          have hne:x ≠ y:=by simpa using hxy
          refine ⟨r,by simpa [l6,hxy] using h1,by rw [h2];simp [List.contains_cons,hne]⟩
        · have he:x=y:=by simpa using hxy
          exact ⟨k,by simp [l6,hxy],by simp [List.contains_cons,he]⟩
    exact key l 0
  · intro k _ y hy hk _
    simp only [jh hk,cond_true,iO,hy,Option.bind_some,jm (Nat.lt_trans hk hb)]
    cases (x==y) <;> simp
  · intro _ _
    simp only [jg,cond_false]
theorem wj {N:Nat} (hN:im≤N) {l:List Int} {x:Int} (hb:l.length<im):lZ N l x=some (l.contains x):=by
  unfold lZ
  obtain ⟨r,h1,h2⟩:=JH hN hb (x:=x)
  rw [h1,Option.bind_some,h2]
def tI:ig→List km→Bool
  | _,[]=>true
  | a,b::l=>(lH a b.j9).2&&(kc b.label&&(mX b.own&&tI (lH a b.j9).1 l))
def vU (l:List km):Bool:=tI ⟨0,0,0⟩ l&&iE (l.length:Int) 1 3
theorem zO (e:Int) (g:Nat→ig→km→ig⊕((Int×Int×Int×Int)⊕Bool)) (fin:ig→((Int×Int×Int×Int)⊕Bool)) (k:Option Bool)
    (hg:∀ k t y,g k t y=if (lH t y.j9).2&&(kc y.label&&mX y.own) then .inl (lH t y.j9).1 else .inr (.inr false)) (hf:∀ t, ∃ v,fin t=.inl v) :
    ∀ (l:List km) (j:Nat) (t:ig),Sum.elim (fun _=>k) (fun r=>some r) (l6 g fin j t l)=bif tI t l then k else some false
  | [],j,t=>by obtain ⟨v,hv⟩:=hf t;simp [l6,tI,hv]
  | b::l,j,t=>by
    have ih:=zO e g fin k hg hf l (j+1)
    simp only [l6,tI,hg]
    cases (lH t b.j9).2
    · rfl
    cases kc b.label
    · rfl
    cases mX b.own
    · rfl
    simpa using ih _
theorem Ku {l:List km} {y:km} (hb:jo lp l<im) (hy:y ∈ l):y.label.levels.length<im∧y.own.length<im:=by
  have:=lO hb hy
  unfold lp my at this
  omega
theorem HB {N:Nat} (hN:im≤N) {l:List km} (hb:jo lp l<im):s7 N l=some (vU l):=by
  have hl:=lD hb
  have hN':16777216≤N:=hN
  have hlB:l.length<16777216:=hl
  unfold s7 vU
  rw [show ((0:Int),(0:Int),(0:Int),(0:Int))=(fun (k:Nat) (t:ig)=>((k:Int),t.bh,t.ib,t.ik)) 0 ⟨0,0,0⟩ from rfl,
    mP (l.take 3) (fun (k:Nat) (t:ig)=>((k:Int),t.bh,t.ib,t.ik)) (fun k t y=>if (lH t y.j9).2&&(kc y.label&&mX y.own) then .inl (lH t y.j9).1 else .inr (.inr false)) (fun t=>.inl (((l.take 3).length:Int),t.bh,t.ib,t.ik)) (fun _ _=>True) ?_ ?_ (by simp;omega) trivial]
  · simp only [Option.bind_some,nB]
    rw [zO 0 _ _ _ (fun _ _ _=>rfl) (fun t=>⟨_,rfl⟩),lK]
    rcases Nat.lt_or_ge 3 l.length with h | h
    · have:iE (l.length:Int) 1 3=false:=by simp [iE];omega
      simp [this]
    · rw [List.take_of_length_le h]
  · intro k t y hy hk _
    have hk2:k<3∧k<l.length:=by simp at hk;omega
    rw [List.getElem?_take_of_lt hk2.1] at hy
    obtain ⟨b1,b2⟩:=Ku hb (List.mem_of_getElem? hy)
    refine ⟨?_,fun _ _=>trivial⟩
    have h3:decide ((k:Int)<3)=true:=by simp;omega
    simp only [jh hk2.2,h3,cond_true,iO,hy,Option.bind_some,ve,xJ hN b1,Ay hN b2,lN,jm (show k<im from Nat.lt_trans hk2.1 (by decide))]
    cases h1:(lH t y.j9).2
    · cases kc y.label <;> cases mX y.own <;> rfl
    cases kc y.label
    · rfl
    cases mX y.own <;> rfl
  · intro t _
    simp only [List.length_take]
    rcases Nat.lt_or_ge 3 l.length with h | h
    · have e:min 3 l.length=3:=by omega
      have h3:decide (((3:Nat):Int)<(l.length:Int))=true:=by simp;omega
      simp only [e,h3,cond_true];rfl
    · have e:min 3 l.length=l.length:=by omega
      simp only [e,jg,cond_false,Option.bind_some]
end Go.Kx
/- Plain laws of what is told alike: labels, things, parts, worlds. No program in sight. -/
namespace Go.Kx
open Go
set_option linter.unusedVariables false
set_option linter.unusedSimpArgs false
set_option maxRecDepth 10000
theorem A0 {N:Nat} (hN:im≤N) {a b:List Int} (ha:a.length<im):r6 N a b=some (decide (a=b)):=x8 a b (· != ·) (by intro y z;by_cases h:y=z <;> simp [h]) ha hN
theorem ye {N:Nat} (hN:im≤N) {a b:List Int} (ha:a.length<im):pb N a b=some (decide (a=b)):=x8 a b (· != ·) (by intro y z;by_cases h:y=z <;> simp [h]) ha hN
theorem Dj {N:Nat} (hN:im≤N) {a b:List jI} (ha:a.length<im):si N a b=some (decide (a=b)):=x8 a b (fun y z=>!decide (y=z)) (fun _ _=>rfl) ha hN
theorem FV (a b:j7):decide (a.levels=b.levels)=decide (a=b):=by cases a;cases b;simp
theorem yG {N:Nat} (hN:im≤N) {a b:j7} (ha:a.levels.length<im):pd N a b=some (decide (a=b)):=by
  rw [← FV]
  exact x8 a.levels b.levels (· != ·) (by intro y z;by_cases h:y=z <;> simp [h]) ha hN
theorem xW {o:cd} (h:iz o<im):o.il.length<im∧o.data.length<im∧o.queue.length<im:=by unfold iz at h;omega
theorem Gv {N:Nat} (hN:im≤N) {a b:cd} (ha:iz a<im):sg N a b=some (decide (a=b)):=by
  obtain ⟨h1,h2,h3⟩:=xW ha
  unfold sg
  simp only [ye hN h1,ye hN h2,Dj hN h3,Option.bind_some,lK]
  congr 1
  rw [Bool.eq_iff_iff]
  cases a;cases b
  simp [cd.mk.injEq]
theorem HP {N:Nat} (hN:im≤N) {a b:cd} (ha:iz a<im):re N a b=some (decide (a=b)):=by
  obtain ⟨h1,h2,h3⟩:=xW ha
  unfold re
  simp only [lN,Option.bind_some]
  cases hj:(a.gen != b.gen || (a.kind != b.kind || (a.box != b.box || (a.res != b.res || (a.iU != b.iU || (a.bh != b.bh || (a.wait != b.wait || (a.iW != b.iW || (a.iR != b.iR || (!(a.mark==b.mark) || ((a.il.length:Int) != (b.il.length:Int) || ((a.data.length:Int) != (b.data.length:Int) || ((a.queue.length:Int) != (b.queue.length:Int))))))))))))))
  · simp only [Bool.or_eq_false_iff,bne_eq_false_iff_eq,Bool.not_eq_false',beq_iff_eq] at hj
    obtain ⟨e1,e2,e3,e4,e5,e6,e7,e8,e9,e10,l1,l2,l3⟩:=hj
    simp only [cond_false]
    rw [u7 a.il b.il (by omega) (.inl (a.il.length:Int)) (.inr false) (Nat.lt_of_lt_of_le h1 hN),Option.bind_some,
      u7 a.data b.data (by omega) (.inl (a.data.length:Int)) (.inr false) (Nat.lt_of_lt_of_le h2 hN),Option.bind_some,
      u7 a.queue b.queue (by omega) (.inl (a.queue.length:Int)) (.inr false) (Nat.lt_of_lt_of_le h3 hN),Option.bind_some]
    · have:decide (a=b)=(decide (a.il=b.il)&&(decide (a.data=b.data)&&decide (a.queue=b.queue))):=by
        rw [Bool.eq_iff_iff]
        cases a;cases b
        simp_all [cd.mk.injEq]
      rw [this]
      by_cases q1:a.il=b.il <;> by_cases q2:a.data=b.data <;> by_cases q3:a.queue=b.queue <;> simp [q1,q2,q3]
    · intro k y z hy hz hk
      simp only [jh hk,cond_true,iO,hy,hz,Option.bind_some,jm (Nat.lt_trans hk h3)]
      by_cases h:y=z <;> simp [h]
    · simp only [jg,cond_false]
    · intro k y z hy hz hk
      simp only [jh hk,cond_true,iO,hy,hz,Option.bind_some,D1,jm (Nat.lt_trans hk h2)]
      by_cases h:y=z <;> simp [h]
    · simp only [jg,cond_false]
    · intro k y z hy hz hk
      simp only [jh hk,cond_true,iO,hy,hz,Option.bind_some,D1,jm (Nat.lt_trans hk h1)]
      by_cases h:y=z <;> simp [h]
    · simp only [jg,cond_false]
  · have:¬ a=b:=by
      rintro rfl
      simp at hj
    simp [this]
theorem Dh {N:Nat} (hN:im≤N) {a b:List cd} (ha:jo iz a<im):sh N a b=some (decide (a=b)):=D6 a b (re N) (fun y z hy _=>HP hN (lO ha hy)) (lD ha) hN
theorem mq {p:dW} (h:iG p<im):p.label.levels.length<im∧p.own.length<im∧p.tree.length<im∧jo iz p.heap.ag<im∧p.heap.gc.ia.length<im∧p.ij.length<im:=by
  unfold iG mr sf my at h;omega
theorem FJ {N:Nat} (hN:im≤N) {a b:dW} (ha:iG a<im):qy N a b=some (decide (a=b)):=by
  obtain ⟨h1,h2,h3,h4,h5,h6⟩:=mq ha
  unfold qy
  simp only [yG hN h1,A0 hN h2,Dh hN h4,A0 hN h5,Option.bind_some,lN,lK]
  cases hj:(!decide (a.label=b.label) || (!decide (a.own=b.own) || ((a.tree.length:Int) != (b.tree.length:Int) || ((a.ij.length:Int) != (b.ij.length:Int) || (a.next != b.next || (a.want != b.want || (!decide (a.gE=b.gE) || (a.iH != b.iH || a.lost != b.lost))))))))
  · simp only [Bool.or_eq_false_iff,bne_eq_false_iff_eq,Bool.not_eq_false',decide_eq_true_eq] at hj
    obtain ⟨e1,e2,l1,l2,e3,e4,e5,e6,e7⟩:=hj
    simp only [cond_false]
    rw [u7 a.tree b.tree (by omega) (.inl (a.tree.length:Int)) (.inr false) (Nat.lt_of_lt_of_le h3 hN),Option.bind_some,
      u7 a.ij b.ij (by omega) (.inl (a.ij.length:Int)) (.inr false) (Nat.lt_of_lt_of_le h6 hN),Option.bind_some]
    · have:decide (a=b)=(decide (a.tree=b.tree)&&(decide (a.ij=b.ij)&&(decide (a.heap.ag=b.heap.ag)&&((a.heap.gc.phase==b.heap.gc.phase)&&((a.heap.gc.pos==b.heap.gc.pos)&&((a.heap.gc.round==b.heap.gc.round)&&decide (a.heap.gc.ia=b.heap.gc.ia))))))):=by
        rw [Bool.eq_iff_iff]
        obtain ⟨_,_,_,⟨_,⟨_,_,_,_⟩⟩,_,_,_,_,_,_⟩:=a
        obtain ⟨_,_,_,⟨_,⟨_,_,_,_⟩⟩,_,_,_,_,_,_⟩:=b
        simp only at e1 e2 e3 e4 e5 e6 e7
        subst e1;subst e2;subst e3;subst e4;subst e5;subst e6;subst e7
        simp only [dW.mk.injEq,iA.mk.injEq,ks.mk.injEq,Bool.and_eq_true,decide_eq_true_eq,beq_iff_eq,true_and,and_true]
        constructor
        · rintro ⟨q1,⟨q2,q3,q4,q5,q6⟩,q7⟩;exact ⟨q1,q7,q2,q3,q4,q5,q6⟩
        · rintro ⟨q1,q7,q2,q3,q4,q5,q6⟩;exact ⟨q1,⟨q2,q3,q4,q5,q6⟩,q7⟩
      rw [this]
      by_cases q1:a.tree=b.tree <;> by_cases q2:a.ij=b.ij <;> simp [q1,q2]
    · intro k y z hy hz hk
      simp only [jh hk,cond_true,iO,hy,hz,Option.bind_some,jm (Nat.lt_trans hk h6)]
      by_cases h:y=z <;> simp [h]
    · simp only [jg,cond_false]
    · intro k y z hy hz hk
      simp only [jh hk,cond_true,iO,hy,hz,Option.bind_some,jm (Nat.lt_trans hk h3)]
      by_cases h:y=z <;> simp [h]
    · simp only [jg,cond_false]
  · have:¬ a=b:=by
      rintro rfl
      simp at hj
    simp [this]
theorem Gp (a b:iN):((a.now==b.now)&&decide (a.parts=b.parts))=decide (a=b):=by
  rw [Bool.eq_iff_iff]
  cases a;cases b
  simp [iN.mk.injEq]
theorem Dg {N:Nat} (hN:im≤N) {a b:iN} (ha:jo iG a.parts<im):o9 N a b=some (decide (a=b)):=by
  have hl:=lD ha
  unfold o9
  rw [← Gp]
  simp only [lN,Option.bind_some]
  cases hj:(a.now != b.now || ((a.parts.length:Int) != (b.parts.length:Int)))
  · simp only [Bool.or_eq_false_iff,bne_eq_false_iff_eq] at hj
    obtain ⟨e1,l1⟩:=hj
    simp only [cond_false]
    rw [u7 a.parts b.parts (by omega) (.inl (a.parts.length:Int)) (.inr false) (Nat.lt_of_lt_of_le hl hN),Option.bind_some]
    · by_cases q1:a.parts=b.parts <;> simp [q1,e1]
    · intro k y z hy hz hk
      simp only [jh hk,cond_true,iO,hy,hz,Option.bind_some,FJ hN (lO ha (List.mem_of_getElem? hy)),jm (Nat.lt_trans hk hl)]
      by_cases h:y=z <;> simp [h]
    · simp only [jg,cond_false]
  · have:((a.now==b.now)&&decide (a.parts=b.parts))=false:=by
      cases h:((a.now==b.now)&&decide (a.parts=b.parts))
      · rfl
      · simp at h
        simp [h.1,h.2] at hj
    rw [this];rfl
end Go.Kx
/- Plain laws: copies are what they copy. No program in sight. -/
namespace Go.Kx
open Go
set_option linter.unusedVariables false
set_option linter.unusedSimpArgs false
set_option maxRecDepth 10000
theorem kA {α:Type} {l:List α} (h:l.length<im):app ([]:List α) l=some l:=by
  unfold app;rw [if_pos (by simpa using h)];rfl
theorem te {N:Nat} {l:List Int} (h:l.length<im):mn N l=some l:=by unfold mn;rw [kA h];rfl
theorem DO {N:Nat} {l:j7} (h:l.levels.length<im):pj N l=some l:=by unfold pj;rw [te h];rfl
theorem uK {N:Nat} {l:List ir} (h:l.length<im):mM N l=some l:=by unfold mM;rw [kA h];rfl
theorem qK {N:Nat} {l:List ir} (h:l.length<im):lV N l=some l:=by unfold lV;rw [kA h];rfl
theorem Gw {N:Nat} {o:cd} (h:iz o<im):rQ N o=some o:=by
  obtain ⟨h1,h2,h3⟩:=xW h
  unfold rQ
  simp only [te h1,te h2,kA h3,Option.bind_some]
theorem Eg {N:Nat} {o:cd} (h:iz o<im):sL N o=some o:=by
  obtain ⟨h1,h2,h3⟩:=xW h
  unfold sL
  simp only [kA h1,kA h2,kA h3,Option.bind_some]
theorem yn {N:Nat} (hN:im≤N) {l:List cd} (hb:jo iz l<im):nK N l=some l:=by
  have hl:=lD hb
  unfold nK
  rw [oQ l (fun _ _=>true) (fun _ y=>y) hl hN,qA (fun _=>true)]
  · simp
  · intro k t y hy hk ht
    simp only [jh hk,cond_true,iO,hy,Option.bind_some,Gw (lO hb (List.mem_of_getElem? hy)),jm (Nat.lt_trans hk hl),lj ht (Nat.lt_of_le_of_lt hk hl)]
    rfl
  · intro t
    simp only [jg,cond_false]
theorem za {N:Nat} (hN:im≤N) {l:List cd} (hb:jo iz l<im):nU N l=some l:=by
  have hl:=lD hb
  unfold nU
  rw [oQ l (fun _ _=>true) (fun _ y=>y) hl hN,qA (fun _=>true)]
  · simp
  · intro k t y hy hk ht
    simp only [jh hk,cond_true,iO,hy,Option.bind_some,Eg (lO hb (List.mem_of_getElem? hy)),jm (Nat.lt_trans hk hl),lj ht (Nat.lt_of_le_of_lt hk hl)]
    rfl
  · intro t
    simp only [jg,cond_false]
theorem zr {N:Nat} (hN:im≤N) {h:iA} (h1:jo iz h.ag<im) (h2:h.gc.ia.length<im):oH N h=some h:=by
  unfold oH
  simp only [yn hN h1,te h2,Option.bind_some]
theorem vz {N:Nat} (hN:im≤N) {h:iA} (h1:jo iz h.ag<im) (h2:h.gc.ia.length<im):nb N h=some h:=by
  unfold nb
  simp only [za hN h1,kA h2,Option.bind_some]
theorem sO {N:Nat} (hN:im≤N) {p:dW} (h:iG p<im):mu N p=some p:=by
  obtain ⟨h1,h2,h3,h4,h5,h6⟩:=mq h
  unfold mu
  simp only [DO h1,te h2,uK h3,zr hN h4 h5,kA h6,Option.bind_some]
theorem Bf {N:Nat} (hN:im≤N) {p:dW} (h:iG p<im):pD N p=some p:=by
  obtain ⟨h1,h2,h3,h4,h5,h6⟩:=mq h
  unfold pD
  simp only [kA h1,kA h2,qK h3,vz hN h4 h5,kA h6,Option.bind_some]
theorem wI {α:Type} {l:List α} {k:Nat} (h:k≤l.length):sub l 0 (k:Int)=some (l.take k):=by
  unfold sub
  rw [if_pos ⟨Int.le_refl _,by omega,by omega⟩]
  simp
theorem AP {α:Type} (f:α→Nat):∀ (l:List α) (k:Nat),nF f (l.take k)≤nF f l
  | [],k=>by simp
  | y::l,0=>Nat.zero_le _
  | y::l,k+1=>by
    have:=AP f l k
    simp only [List.take_succ_cons,nF];omega
theorem HK {α:Type} (f:α→Nat) (l:List α) (k:Nat):jo f (l.take k)≤jo f l:=by
  have:=AP f l k
  unfold jo
  simp only [List.length_take];omega
end Go.Kx
/- Plain laws: the first draws come to an end. No program in sight. -/
namespace Go.Kx
open Go
set_option linter.unusedVariables false
set_option linter.unusedSimpArgs false
set_option maxRecDepth 10000
theorem vV {σ ρ:Type} {body:σ→Option (σ⊕ρ)} (I:σ→Prop) (J:ρ→Prop) (μ:σ→Nat)
    (h:∀ s,I s→∃ o,body s=some o∧(∀ s',o=.inl s'→I s'∧μ s'<μ s)∧∀ r,o=.inr r→J r):∀ (N:Nat) (s:σ),I s→μ s<N→∃ r,iter body N s=some r∧J r
  | 0,_,_,hN=>absurd hN (Nat.not_lt_zero _)
  | N+1,s,hI,hN=>by
    obtain ⟨o,ho,h1,h2⟩:=h s hI
    cases o with
    | inl s' =>
      obtain ⟨hI',hm⟩:=h1 s' rfl
      obtain ⟨r,hr,hJ⟩:=vV I J μ h N s' hI' (by omega)
      exact ⟨r,by show (body s).bind _=_;rw [ho];exact hr,hJ⟩
    | inr r=>exact ⟨r,by show (body s).bind _=_;rw [ho];rfl,h2 r rfl⟩
theorem xd {α:Type} {l:List α} {i:Int} (h0:0≤i) (h1:i<(l.length:Int)):∃ y,idx l i=some y∧y ∈ l:=by
  have hz:l[i.toNat]?=some (l[i.toNat]'(by omega)):=List.getElem?_eq_getElem _
  exact ⟨_,by unfold idx;rw [if_pos h0,hz],List.getElem_mem _⟩
theorem Ef (a:Int) {m:Int} (h0:0≤m) (h1:m≤2147483647):0≤w9 a m∧w9 a m≤m:=by
  have h:(BitVec.ofInt IntKind.i64.bits a &&& BitVec.ofInt IntKind.i64.bits m).toNat≤m.toNat:=by
    rw [BitVec.toNat_and]
    refine Nat.le_trans Nat.and_le_right ?_
    rw [BitVec.toNat_ofInt]
    show (m % ((2 ^ 64:Nat):Int)).toNat≤m.toNat
    rw [Int.emod_eq_of_lt h0 (by omega)]
    exact Nat.le_refl _
  unfold w9
  rw [iI (by omega) (by omega)]
  omega
def Cu (c:iu):Prop:=c.b.length≤1048576∧0≤c.i
theorem Cu.to {c:iu} (hc:Cu c) {i h:Int} (hi:0≤i):Cu ⟨c.b,i,h⟩:=⟨hc.1,hi⟩
theorem La {N:Nat} (hN:im≤N) {l:List U8} (hl:l.length≤1048576):∃ h,sD N l=some ⟨l,0,h⟩:=by
  unfold sD
  have hB:(16777216:Nat)≤N:=hN
  obtain ⟨r,hr,_⟩:=vV (body:=fun (s1:Int×Int)=>((bif (decide (s1.2<(l.length:Int))) then (some (decide (s1.2<4000))) else (some false):Option Bool).bind fun j3=>bif j3 then ((idx l s1.2).bind fun y8=>some (.inl (w9 (IntKind.i64.wrap ((IntKind.i64.wrap ((IntKind.i64.wrap (s1.1 * 131))+(IntKind.i64.wrap y8.v)))+7)) 1073741823,IntKind.i64.wrap (s1.2+1)))) else (some (.inr (s1.1,s1.2))):Option ((Int×Int)⊕(Int×Int))))
    (fun s=>0≤s.2∧s.2≤(l.length:Int)) (fun _=>True) (fun s=>((l.length:Int) - s.2).toNat) (by
      rintro ⟨h,i⟩ ⟨h0,h1⟩
      simp only at h0 h1
      cases hlt:decide (i<(l.length:Int)) with
      | false=>exact ⟨_,by simp only [hlt,cond_false,Option.bind_some];rfl,by simp,fun _ _=>trivial⟩
      | true =>
        have h2:=of_decide_eq_true hlt
        cases h4:decide (i<4000) with
        | false=>exact ⟨_,by simp only [hlt,h4,cond_false,cond_true,Option.bind_some];rfl,by simp,fun _ _=>trivial⟩
        | true =>
          obtain ⟨y,hy,_⟩:=xd h0 h2
          refine ⟨_,by simp only [hlt,h4,hy,cond_true,Option.bind_some];rfl,?_,by simp⟩
          rintro s' hs
          cases Sum.inl.inj hs
          simp only
          rw [iI (by omega) (by omega)]
          omega) N (IntKind.i64.wrap (10101+(l.length:Int)),0) ⟨Int.le_refl _,by simp⟩ (by simp only;omega)
  rw [hr]
  exact ⟨r.1,rfl⟩
theorem xA {N:Nat} {c:iu} (hc:Cu c):∃ x i h,m6 N c=some (x,⟨c.b,i,h⟩)∧0≤i∧0≤x∧x≤255:=by
  unfold m6
  obtain ⟨hb,hi⟩:=hc
  cases hlt:decide (c.i<(c.b.length:Int)) with
  | true =>
    have h1:=of_decide_eq_true hlt
    obtain ⟨y,hy,_⟩:=xd hi h1
    simp only [hy,cond_true,Option.bind_some]
    exact ⟨_,_,_,rfl,by rw [iI (by omega) (by omega)];omega,Ef _ (by decide) (by decide)⟩
  | false=>exact ⟨_,_,_,rfl,hi,Ef _ (by decide) (by decide)⟩
theorem CT {a n:Int} (ha:0≤a) (hn:0<n):0≤Int.tmod a n∧Int.tmod a n<n:=by
  rw [Int.tmod_eq_emod_of_nonneg ha]
  exact ⟨Int.emod_nonneg _ (by omega),Int.emod_lt_of_pos _ hn⟩
theorem FD {n:Int} (h:n ≠ 0):dz n=some ():=by unfold dz;rw [if_neg h]
theorem sy {N:Nat} {c:iu} (hc:Cu c) (n:Int):∃ x i h,iv N c n=some (x,⟨c.b,i,h⟩)∧0≤i∧0≤x∧(0<n→x<n)∧(n≤0→x=0):=by
  unfold iv
  cases h0:decide (n≤0) with
  | true=>exact ⟨0,c.i,c.h,rfl,hc.2,Int.le_refl _,fun h=>h,fun _=>rfl⟩
  | false =>
    have hn:=of_decide_eq_false h0
    simp only [cond_false]
    cases h1:decide (n≤256) with
    | true =>
      obtain ⟨x,i,h,e,hi,hx,_⟩:=xA (N:=N) hc
      simp only [cond_true,e,Option.bind_some,FD (show n ≠ 0 by omega)]
      obtain ⟨q1,q2⟩:=CT hx (show 0<n by omega)
      exact ⟨_,i,h,rfl,hi,q1,fun _=>q2,fun h=>by omega⟩
    | false =>
      obtain ⟨x1,i1,h1,e1,hi1,hx1,hy1⟩:=xA (N:=N) hc
      obtain ⟨x2,i2,h2,e2,hi2,hx2,hy2⟩:=xA (N:=N) (hc.to (h:=h1) hi1)
      obtain ⟨x3,i3,h3,e3,hi3,hx3,hy3⟩:=xA (N:=N) (hc.to (h:=h2) hi2)
      obtain ⟨x4,i4,h4,e4,hi4,hx4,hy4⟩:=xA (N:=N) (hc.to (h:=h3) hi3)
      simp only [cond_false,e1,e2,e3,e4,Option.bind_some,FD (show n ≠ 0 by omega)]
      rw [iI (n:=x1 * 16777216) (by omega) (by omega),iI (n:=x2 * 65536) (by omega) (by omega),iI (n:=x3 * 256) (by omega) (by omega),
        iI (n:=x1 * 16777216+x2 * 65536) (by omega) (by omega),iI (n:=x1 * 16777216+x2 * 65536+x3 * 256) (by omega) (by omega),iI (n:=x1 * 16777216+x2 * 65536+x3 * 256+x4) (by omega) (by omega)]
      obtain ⟨q1,q2⟩:=CT (show 0≤x1 * 16777216+x2 * 65536+x3 * 256+x4 by omega) (show 0<n by omega)
      exact ⟨_,i4,h4,rfl,hi4,q1,fun _=>q2,fun h=>by omega⟩
theorem BP {N:Nat} {c:iu} (hc:Cu c) (n:Int):∃ x i h,jQ N c n=some (x,⟨c.b,i,h⟩)∧0≤i:=by
  unfold jQ
  obtain ⟨x,i,h,e,hi,_⟩:=sy (N:=N) hc n
  simp only [e,Option.bind_some]
  exact ⟨_,i,h,rfl,hi⟩
theorem xe {N:Nat} {c:iu} (hc:Cu c) {l:List Int} (hl:0<l.length):∃ x i h,jd N c l=some (x,⟨c.b,i,h⟩)∧0≤i∧x ∈ l:=by
  unfold jd
  obtain ⟨x,i,h,e,hi,hx,hy,_⟩:=sy (N:=N) hc (l.length:Int)
  obtain ⟨y,hy,hm⟩:=xd hx (hy (by omega))
  simp only [e,Option.bind_some,hy]
  exact ⟨_,i,h,rfl,hi,hm⟩
theorem uv {α:Type} {t:List α} {z:α} (h:t.length≤1000000):app t [z]=some (t++[z]):=by
  have:(16777216:Nat)=im:=rfl
  unfold app;rw [if_pos (by simp only [List.length_cons,List.length_nil];omega)]
theorem Ez {N:Nat} (hN:im≤N) {c:iu} (hc:Cu c):∃ x i h,nj N c=some (x,⟨c.b,i,h⟩)∧0≤i∧x.levels.length=4∧∀ y,y ∈ x.levels→0≤y∧y≤3:=by
  unfold nj
  have hB:(16777216:Nat)≤N:=hN
  obtain ⟨r,hr,hJ⟩:=vV (body:=fun (s6:Int×Int×Int×(List Int))=>(bif (decide (s6.1<4)) then ((iv N (iu.mk c.b s6.2.1 s6.2.2.1) 4).bind fun y9=>(app s6.2.2.2 ([y9.1]:List Int)).bind fun y16=>some (.inl (IntKind.i64.wrap (s6.1+1),y9.2.i,y9.2.h,y16))) else (some (.inr (s6.1,s6.2.1,s6.2.2.1,s6.2.2.2))):Option ((Int×Int×Int×(List Int))⊕(Int×Int×Int×(List Int)))))
    (fun s=>0≤s.1∧s.1≤4∧0≤s.2.1∧(s.2.2.2.length:Int)=s.1∧∀ y,y ∈ s.2.2.2→0≤y∧y≤3) (fun s=>0≤s.2.1∧s.2.2.2.length=4∧∀ y,y ∈ s.2.2.2→0≤y∧y≤3) (fun s=>(4 - s.1).toNat) (by
      rintro ⟨k,i,h,l⟩ ⟨h0,h1,h2,h3,h4⟩
      simp only at h0 h1 h2 h3 h4
      cases hlt:decide (k<4) with
      | false =>
        have:=of_decide_eq_false hlt
        refine ⟨_,by simp only [hlt,cond_false];rfl,by simp,fun r hr=>?_⟩
        cases Sum.inr.inj hr
        exact ⟨h2,by simp only;omega,h4⟩
      | true =>
        have:=of_decide_eq_true hlt
        obtain ⟨x,i',h',e,hi,hx,hy,_⟩:=sy (N:=N) (hc.to (h:=h) h2) 4
        refine ⟨_,by simp only [hlt,cond_true,e,Option.bind_some,uv (t:=l) (z:=x) (by omega)];rfl,?_,by simp⟩
        rintro s' hs
        cases Sum.inl.inj hs
        simp only
        rw [iI (by omega) (by omega)]
        refine ⟨⟨by omega,by omega,hi,by simp only [List.length_append,List.length_cons,List.length_nil];omega,fun y hm=>?_⟩,by omega⟩
        rcases List.mem_append.1 hm with hm | hm
        · exact h4 y hm
        · rw [List.mem_singleton] at hm
          have:=hy (by omega)
          omega) N (0,c.i,c.h,[]) ⟨Int.le_refl _,by simp,hc.2,rfl,by simp⟩ (by simp only;omega)
  rw [hr]
  exact ⟨_,_,_,rfl,hJ.1,hJ.2.1,hJ.2.2⟩
theorem Fo {N:Nat} (hN:im≤N) {c:iu} (hc:Cu c):∃ x i h,ss N c=some (x,⟨c.b,i,h⟩)∧0≤i∧x.levels.length≤5:=by
  unfold ss
  obtain ⟨x,i,h,e,hi,hl,_⟩:=Ez hN hc
  obtain ⟨x1,i1,h1,e1,hi1,_⟩:=sy (N:=N) (hc.to (h:=h) hi) 14
  obtain ⟨x2,i2,h2,e2,hi2,hx2,hy2,_⟩:=sy (N:=N) (hc.to (h:=h1) hi1) 4
  have hy2:=hy2 (by decide)
  obtain ⟨x3,i3,h3,e3,hi3,_⟩:=xe (N:=N) (hc.to (h:=h2) hi2) (l:=[-1,4]) (by decide)
  simp only [e,e1,Option.bind_some]
  cases x1==0
  · cases x1==1
    · cases x1==2
      · exact ⟨_,i1,h1,rfl,hi1,by simp only;omega⟩
      · simp only [cond_true,cond_false,uv (t:=x.levels) (z:=0) (by omega),Option.bind_some]
        exact ⟨_,i1,h1,rfl,hi1,by simp only [List.length_append,List.length_cons,List.length_nil];omega⟩
    · obtain ⟨y,hy,_⟩:=xd (l:=x.levels) hx2 (by omega)
      simp only [cond_true,cond_false,e2,e3,hy,Option.bind_some]
      exact ⟨_,i3,h3,rfl,hi3,by simp only [List.length_set];omega⟩
  · have hs:sub x.levels 0 x2=some ((x.levels.drop (0:Int).toNat).take (x2.toNat - (0:Int).toNat)):=by unfold sub;rw [if_pos ⟨Int.le_refl _,hx2,by omega⟩]
    simp only [cond_true,e2,hs,Option.bind_some]
    exact ⟨_,i2,h2,rfl,hi2,by simp only [List.length_take,List.length_drop];omega⟩
theorem K9 {N:Nat} (hN:im≤N) {c:iu} (hc:Cu c):∃ x i h,sM N c=some (x,⟨c.b,i,h⟩)∧0≤i∧x.length≤5:=by
  unfold sM
  have hB:(16777216:Nat)≤N:=hN
  obtain ⟨r,hr,hJ⟩:=vV (body:=fun (s4:(List Int)×Int×Int×Int)=>(bif (decide (s4.2.1<4)) then ((jQ N (iu.mk c.b s4.2.2.1 s4.2.2.2) 3).bind fun y7=>bif y7.1 then ((app s4.1 [s4.2.1]).bind fun y14=>some (.inl (y14,IntKind.i64.wrap (s4.2.1+1),y7.2.i,y7.2.h))) else (some (.inl (s4.1,IntKind.i64.wrap (s4.2.1+1),y7.2.i,y7.2.h)))) else (some (.inr (s4.1,s4.2.1,s4.2.2.1,s4.2.2.2))):Option (((List Int)×Int×Int×Int)⊕((List Int)×Int×Int×Int))))
    (fun s=>0≤s.2.1∧s.2.1≤4∧0≤s.2.2.1∧(s.1.length:Int)≤s.2.1) (fun s=>0≤s.2.2.1∧s.1.length≤4) (fun s=>(4 - s.2.1).toNat) (by
      rintro ⟨l,k,i,h⟩ ⟨h0,h1,h2,h3⟩
      simp only at h0 h1 h2 h3
      cases hlt:decide (k<4) with
      | false =>
        have:=of_decide_eq_false hlt
        refine ⟨_,by simp only [hlt,cond_false];rfl,by simp,fun r hr=>?_⟩
        cases Sum.inr.inj hr
        exact ⟨h2,by simp only;omega⟩
      | true =>
        have:=of_decide_eq_true hlt
        obtain ⟨x,i',h',e,hi⟩:=BP (N:=N) (hc.to (h:=h) h2) 3
        cases x with
        | false =>
          refine ⟨_,by simp only [hlt,cond_true,cond_false,e,Option.bind_some];rfl,?_,by simp⟩
          rintro s' hs
          cases Sum.inl.inj hs
          simp only
          rw [iI (by omega) (by omega)]
          exact ⟨⟨by omega,by omega,hi,by omega⟩,by omega⟩
        | true =>
          refine ⟨_,by simp only [hlt,cond_true,e,Option.bind_some,uv (t:=l) (z:=k) (by omega)];rfl,?_,by simp⟩
          rintro s' hs
          cases Sum.inl.inj hs
          simp only
          rw [iI (by omega) (by omega)]
          exact ⟨⟨by omega,by omega,hi,by simp only [List.length_append,List.length_cons,List.length_nil];omega⟩,by omega⟩) N ([],0,c.i,c.h) ⟨Int.le_refl _,by simp,hc.2,by simp⟩ (by simp only;omega)
  rw [hr]
  obtain ⟨j1,j2⟩:=hJ
  obtain ⟨x1,i1,h1,e1,hi1,_⟩:=sy (N:=N) (hc.to (h:=r.2.2.2) j1) 20
  simp only [e1,Option.bind_some,uv (t:=r.1) (z:=(4:Int)) (by omega),uv (t:=r.1) (z:=(0:Int)) (by omega)]
  cases x1==0
  · cases x1==1
    · exact ⟨_,i1,h1,rfl,hi1,by omega⟩
    · exact ⟨_,i1,h1,rfl,hi1,by simp only [List.length_append,List.length_cons,List.length_nil];omega⟩
  · exact ⟨_,i1,h1,rfl,hi1,by simp only [List.length_append,List.length_cons,List.length_nil];omega⟩
theorem EI {N:Nat} {c:iu} (hc:Cu c):∃ x i h,pZ N c=some (x,⟨c.b,i,h⟩)∧0≤i:=by
  unfold pZ
  obtain ⟨x,i,h,e,hi⟩:=BP (N:=N) hc 20
  simp only [e,Option.bind_some]
  cases x
  · obtain ⟨x1,i1,h1,e1,hi1,_⟩:=sy (N:=N) (hc.to (h:=h) hi) 60
    simp only [cond_false,e1,Option.bind_some]
    exact ⟨_,i1,h1,rfl,hi1⟩
  · obtain ⟨x1,i1,h1,e1,hi1,_⟩:=xe (N:=N) (hc.to (h:=h) hi) (l:=[-1,1000000,1000001,999999]) (by decide)
    simp only [cond_true,e1,Option.bind_some]
    exact ⟨_,i1,h1,rfl,hi1⟩
theorem KO {N:Nat} {c:iu} (hc:Cu c):∃ x i h,sF N c=some (x,⟨c.b,i,h⟩)∧0≤i:=by
  unfold sF
  obtain ⟨x1,i1,h1,e1,hi1⟩:=EI (N:=N) hc
  obtain ⟨x2,i2,h2,e2,hi2⟩:=EI (N:=N) (hc.to (h:=h1) hi1)
  obtain ⟨x3,i3,h3,e3,hi3⟩:=EI (N:=N) (hc.to (h:=h2) hi2)
  simp only [e1,e2,e3,Option.bind_some]
  exact ⟨_,i3,h3,rfl,hi3⟩
end Go.Kx
