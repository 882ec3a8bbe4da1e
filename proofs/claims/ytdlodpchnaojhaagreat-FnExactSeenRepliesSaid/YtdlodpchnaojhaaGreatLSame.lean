import Derived.Test.YtdlodpchnaojhaaGreatLBoot
namespace Go.Kx
open Go
open Go.IntKind (i64)
set_option linter.unusedVariables false
set_option linter.unusedSimpArgs false
set_option maxRecDepth 10000
theorem yW {N:Nat} (hN:gS≤N) {a b:List Int} (ha:a.length<gS):pL N a b=some (decide (a=b)):=Bn a b (· != ·) (by intro y z;by_cases h:y=z<;>simp [h]) ha hN
theorem Fc {N:Nat} (hN:gS≤N) {a b:List iS} (ha:a.length<gS):sC N a b=some (decide (a=b)):=Bn a b (fun y z=>!decide (y=z)) (fun _ _=>rfl) ha hN
theorem zT {o:gP} (h:hX o<gS):o.gX.length<gS∧o.N8.length<gS∧o.N4.length<gS:=by unfold hX at h;omega
theorem IS {N:Nat} (hN:gS≤N) {a b:gP} (ha:hX a<gS):rT N a b=some (decide (a=b)):=by
  obtain ⟨h1,h2,h3⟩:=zT ha;unfold rT;simp only [yW hN h1,yW hN h2,Fc hN h3,Ok,kp];congr 1;rw [Bool.eq_iff_iff];cases a;cases b;simp [gP.mk.injEq]
theorem jK {p:cd} (h:ic p<gS):p.NZ.NY.length<gS∧p.own.length<gS∧p.N1.length<gS∧iQ hX p.py.ag<gS∧p.py.gc.gQ.length<gS∧p.gR.length<gS:=by
  unfold ic oD vD jQ at h;omega
end Go.Kx
namespace Go.Kx
open Go
open Go.IntKind (i64)
set_option linter.unusedVariables false
set_option linter.unusedSimpArgs false
set_option maxRecDepth 10000
theorem jG {α:Type} {l:List α} (h:l.length<gS):app ([]:List α) l=some l:=by
  unfold app;rw [if_pos (by simpa using h)];rfl
theorem rC {N:Nat} {l:List Int} (h:l.length<gS):lg N l=some l:=by unfold lg;rw [jG h];rfl
theorem zk {N:Nat} {l:iI} (h:l.NY.length<gS):nN N l=some l:=by unfold nN;rw [rC h];rfl
theorem ot {N:Nat} {l:List g7} (h:l.length<gS):kU N l=some l:=by unfold kU;rw [jG h];rfl
theorem oE {N:Nat} {l:List g7} (h:l.length<gS):kH N l=some l:=by unfold kH;rw [jG h];rfl
theorem B0 {N:Nat} {o:gP} (h:hX o<gS):qk N o=some o:=by
  obtain ⟨h1,h2,h3⟩:=zT h;unfold qk;simp only [rC h1,rC h2,jG h3,Ok]
theorem FU {N:Nat} {o:gP} (h:hX o<gS):sM N o=some o:=by
  obtain ⟨h1,h2,h3⟩:=zT h;unfold sM;simp only [jG h1,jG h2,jG h3,Ok]
theorem uf {N:Nat} (hN:gS≤N) {l:List gP} (hb:iQ hX l<gS):lX N l=some l:=by
  have hl:=jz hb;unfold lX;rw [mB l (fun _ _=>true) (fun _ y=>y) hl hN,o6 (fun _=>true)]
  · simp
  · intro k t y hy hk ht;simp only [iE hk,Om,ij,hy,Ok,B0 (jm hb (List.mem_of_getElem? hy)),iK (Nat.lt_trans hk hl),j6 ht (Nat.lt_of_le_of_lt hk hl)];rfl
  · intro t;simp only [iF,Ol]
theorem zy {N:Nat} (hN:gS≤N) {l:List gP} (hb:iQ hX l<gS):oh N l=some l:=by
  have hl:=jz hb;unfold oh;rw [mB l (fun _ _=>true) (fun _ y=>y) hl hN,o6 (fun _=>true)]
  · simp
  · intro k t y hy hk ht;simp only [iE hk,Om,ij,hy,Ok,FU (jm hb (List.mem_of_getElem? hy)),iK (Nat.lt_trans hk hl),j6 ht (Nat.lt_of_le_of_lt hk hl)];rfl
  · intro t;simp only [iF,Ol]
theorem uT {N:Nat} (hN:gS≤N) {h:g5} (h1:iQ hX h.ag<gS) (h2:h.gc.gQ.length<gS):mF N h=some h:=by
  unfold mF;simp only [uf hN h1,rC h2,Ok]
theorem wq {N:Nat} (hN:gS≤N) {h:g5} (h1:iQ hX h.ag<gS) (h2:h.gc.gQ.length<gS):m5 N h=some h:=by
  unfold m5;simp only [zy hN h1,jG h2,Ok]
theorem pC {N:Nat} (hN:gS≤N) {p:cd} (h:ic p<gS):j1 N p=some p:=by
  obtain ⟨h1,h2,h3,h4,h5,h6⟩:=jK h;unfold j1;simp only [zk h1,rC h2,ot h3,uT hN h4 h5,jG h6,Ok]
theorem qz {N:Nat} (hN:gS≤N) {p:cd} (h:ic p<gS):lj N p=some p:=by
  obtain ⟨h1,h2,h3,h4,h5,h6⟩:=jK h;unfold lj;simp only [jG h1,jG h2,oE h3,wq hN h4 h5,jG h6,Ok]
theorem xv {α:Type} {l:List α} {k:Nat} (h:k≤l.length):sub l 0 (k:Int)=some (l.take k):=by
  unfold sub;rw [if_pos ⟨Int.le_refl _,by omega,by omega⟩];simp
theorem BG {α:Type} (f:α→Nat):∀ (l:List α) (k:Nat),iV f (l.take k)≤iV f l
  | [],k=>by simp
  | y::l,0=>Nat.zero_le _
  | y::l,k+1=>by
    have:=BG f l k;simp only [List.take_succ_cons,iV];omega
theorem I9 {α:Type} (f:α→Nat) (l:List α) (k:Nat):iQ f (l.take k)≤iQ f l:=by
  have:=BG f l k;unfold iQ;simp only [List.length_take];omega
end Go.Kx
namespace Go.Kx
open Go
open Go.IntKind (i64)
set_option linter.unusedVariables false
set_option linter.unusedSimpArgs false
set_option maxRecDepth 10000
theorem pd {α:Type} (p:Bool) (a b:α):(bif p then some a else some b)=some (bif p then a else b):=by cases p<;>rfl
theorem zQ {ρ τ β:Type} (c:Bool) (a:ρ) (r:τ) (f:ρ→Option β) (g:τ→Option β):Sum.elim f g (if c then .inl a else .inr r)=if c then f a else g r:=by cases c<;>rfl
theorem xE (N:Nat) (a:Int):nU N a=some (ia a 0 2):=by unfold nU;rw [lv];rfl
theorem sE (N:Nat) (a:Int):lK N a=some (ia a 0 9):=by unfold lK;rw [lv];rfl
theorem vu (N:Nat) (a:Int):k4 N a=some (ia a 0 1000000):=by unfold k4;rw [lv];rfl
theorem pD (N:Nat) (a:Int):kO N a=some (ia a 0 29999):=by unfold kO;rw [lv];rfl
theorem rD (N:Nat) (a:Int):kq N a=some (ia a 0 29999):=by unfold kq;rw [k5];rfl
theorem qR (N:Nat) (a:Int):kY N a=some (ia a 0 9):=by unfold kY;rw [k5];rfl
def xo (m:iS):Bool:=!(bif (m.Oj != (-1)) then (!ia m.Oj 0 29999 || !ia m.n 0 999) else !ia m.n 0 999)
def sR (o:gP):Bool:=o.gX.all (fun y=>ia y (-1) 9)&&(o.N8.all (fun y=>ia y 0 999)&&(o.N4.all xo&&(((o.gX.length:Int)==2)&&(((o.N8.length:Int)==(bif o.N0==2 then o.gE else 0))&&decide ((o.N4.length:Int)≤(bif o.N0==3 then 2 else 0))))))
theorem Ik {N:Nat} (hN:gS≤N) {o:gP} (ho:hX o<gS):sk N o=some (sR o):=by
  obtain ⟨h1,h2,h3⟩:=zT ho;unfold sk sR;rw [jH o.gX (fun _ y=>ia y (-1) 9) (.inl (o.gX.length:Int)) (.inr false) (Nat.lt_of_lt_of_le h1 hN),j3,Ok]
  · cases o.gX.all fun y=>ia y (-1) 9
    · rfl
    simp only [if_true,Sum.elim_inl,Oo];rw [jH o.N8 (fun _ y=>ia y 0 999) (.inl (o.N8.length:Int)) (.inr false) (Nat.lt_of_lt_of_le h2 hN),j3,Ok]
    · cases o.N8.all fun y=>ia y 0 999
      · rfl
      simp only [if_true,Sum.elim_inl,Oo];rw [jH o.N4 (fun _ y=>xo y) (.inl (o.N4.length:Int)) (.inr false) (Nat.lt_of_lt_of_le h3 hN),j3,Ok]
      · cases o.N4.all xo
        · rfl
        simp only [if_true,Sum.elim_inl,Oo,pd,Ok];congr 1;cases ((o.gX.length:Int)==2)<;>cases ((o.N8.length:Int)==(bif o.N0==2 then o.gE else 0))<;>simp
      · intro k y hy hk;simp only [iE hk,Om,ij,hy,Ok,lv,pD,jR,pd,iK (Nat.lt_trans hk h3)];unfold xo;cases (y.Oj != (-1))<;>cases ia y.Oj 0 29999<;>cases ia y.n 0 999<;>rfl
      · simp only [iF,Ol]
    · intro k y hy hk;simp only [iE hk,Om,ij,hy,Ok,lv,iK (Nat.lt_trans hk h2)];cases ia y 0 999<;>rfl
    · simp only [iF,Ol]
  · intro k y hy hk;simp only [iE hk,Om,ij,hy,Ok,lv,iK (Nat.lt_trans hk h1)];cases ia y (-1) 9<;>rfl
  · simp only [iF,Ol]
def blank (g:Int):gP:=gP.mk g 0 0 0 0 0 0 0 0 false [] [] []
def j2 (o:gP):Bool:=ia o.Oe 0 999&&(ia o.N0 0 4&&(bif o.N0==0 then decide (o=blank o.Oe) else
  ia o.box (-1) 9&&(ia o.Od 0 4&&(ia o.iw 0 1000000&&(ia o.gE 0 8&&(sR o&&(bif o.N0 != 4 then (o.N9==0&&(o.iv==0&&o.iu==0)) else
    (o.N9==0 || ia (i64.wrap (o.N9 - 1)) 0 29999)&&(ia o.iv (-1) 999&&ia o.iu 0 1000000))))))))
theorem Ft {N:Nat} (hN:gS≤N) {o:gP} (ho:hX o<gS):sW N o=some (j2 o):=by
  unfold sW j2;simp only [lv,uu,vu,pD,Ik hN ho,IS hN ho,Ok,jR,kp,pd];rw [show gP.mk o.Oe 0 0 0 0 0 0 0 0 false [] [] []=blank o.Oe from rfl];congr 1;simp only [Bool.cond_true_left,Bool.cond_false_left,Bool.cond_true_right,Bool.cond_false_right,Bool.not_or,Bool.not_not,Bool.and_assoc];cases o.N9==0<;>rfl
def nB (o:gP):Prop:=-9223372036854775808≤o.N9
theorem JR {n:Int} (h:-9223372036854775808≤n) (h0:n<0):ia (i64.wrap (n - 1)) 0 29999=false:=by
  rcases Decidable.em (n=-9223372036854775808) with e | e
  · subst e;decide
  · rw [iY (by omega) (by omega)];simp [ia];omega
def AN (o:gP):Bool:=bif o.N0 != 4 then (o.N9==0&&(o.iv==0&&o.iu==0)) else
    (o.N9==0 || ia (i64.wrap (o.N9 - 1)) 0 29999)&&(ia o.iv (-1) 999&&ia o.iu 0 1000000)
theorem Lo {o : gP} (hw : nB o) (hr : ia o.iu 0 1000000 = true) : (bif o.N0 != 4 then bif o.N9 != 0 then true else bif o.iv != 0 then true else bif o.iu != 0 then true else bif o.N0 == 4 then
      bif decide (o.N9 < 0) then true else bif decide (o.N9 > 0) then !ia (i64.wrap (o.N9 - 1)) 0 29999 || !ia o.iv (-1) 999 else !ia o.iv (-1) 999 else false
    else bif o.N0 == 4 then bif decide (o.N9 < 0) then true else bif decide (o.N9 > 0) then !ia (i64.wrap (o.N9 - 1)) 0 29999 || !ia o.iv (-1) 999 else !ia o.iv (-1) 999 else false) = !AN o := by
  unfold AN;simp only [bne, hr];cases o.N0 == 4
  · simp only [Bool.not_false, Om, Ol];cases o.N9 == 0<;>cases o.iv == 0<;>cases o.iu == 0<;>rfl
  · simp only [On, Om, Ol]
    rcases Int.lt_trichotomy o.N9 0 with h | h | h
    · have e1 : decide (o.N9 < 0) = true := by simpa using h
      have e2 : (o.N9 == 0) = false := by simp; omega
      rw [e1, e2, JR hw h]; rfl
    · simp only [h];cases ia o.iv (-1) 999<;>rfl
    · have e1 : decide (o.N9 < 0) = false := by simp; omega
      have e2 : (o.N9 == 0) = false := by simp; omega
      have e3 : decide (o.N9 > 0) = true := by simpa using h
      rw [e1, e2, e3];cases ia (i64.wrap (o.N9 - 1)) 0 29999<;>cases ia o.iv (-1) 999<;>rfl
theorem Lx (o:gP):(bif (o.N8.length:Int) != 0 then bif o.N0 != 2 then true else bif (o.N8.length:Int) != o.gE then true else bif o.N0==2 then (o.N8.length:Int) != o.gE else false
    else bif o.N0==2 then (o.N8.length:Int) != o.gE else false)=!((o.N8.length:Int)==(bif o.N0==2 then o.gE else 0)):=by
  simp only [bne];cases o.N0==2<;>cases h:((o.N8.length:Int)==0)<;>cases h2:((o.N8.length:Int)==o.gE)<;>simp [h,h2]
theorem Ky (o:gP):(bif decide ((o.N4.length:Int) > 2) then true else bif decide ((o.N4.length:Int) > 0) then o.N0 != 3 else false)=!decide ((o.N4.length:Int)≤(bif o.N0==3 then 2 else 0)):=by
  simp only [bne];cases o.N0==3
  · simp only [Ol]
    rcases Nat.lt_trichotomy o.N4.length 0 with h | h | h
    · omega
    · simp [h]
    · rw [decide_eq_true (show (o.N4.length:Int) > 0 by omega),decide_eq_false (show ¬ ((o.N4.length:Int)≤0) by omega)];cases decide ((o.N4.length:Int) > 2)<;>rfl
  · simp only [Om]
    rcases Nat.lt_or_ge 2 o.N4.length with h | h
    · rw [decide_eq_true (show (o.N4.length:Int) > 2 by omega),decide_eq_false (show ¬ ((o.N4.length:Int)≤2) by omega)];rfl
    · rw [decide_eq_false (show ¬ ((o.N4.length:Int) > 2) by omega),decide_eq_true (show (o.N4.length:Int)≤2 by omega)];cases decide ((o.N4.length:Int) > 0)<;>rfl
theorem FY {N:Nat} (hN:gS≤N) {o:gP} (ho:hX o<gS) (hw:nB o):sO N o=some (j2 o):=by
  obtain ⟨h1,h2,h3⟩:=zT ho;unfold sO j2;rw [k5,Ok];cases hg:ia o.Oe 0 999
  · rfl
  simp only [On,Ol,Oo];cases hk0:o.N0==0
  · simp only [Ol,k5,vd,Ok,jR]
    have hk0':o.N0 ≠ 0:=by simpa using hk0
    cases hA:(!ia o.N0 1 4 || (!ia o.box (-1) 9 || (!ia o.Od 0 4 || (!ia o.iw 0 1000000 || (!ia o.gE 0 8 || ((o.gX.length:Int) != 2 || !ia o.iu 0 1000000))))))
    · simp only [Bool.or_eq_false_iff,Bool.not_eq_false',bne_eq_false_iff_eq] at hA;obtain ⟨a1,a2,a3,a4,a5,a6,a7⟩:=hA
      have a1':ia o.N0 0 4=true:=by rw [iR] at a1 ⊢;omega
      have hl2:o.gX.length=2:=by omega
      simp only [Ol,a1',a2,a3,a4,a5,Oo];rw [jH o.gX (fun _ y=>ia y (-1) 9) (.inl (2:Int)) (.inr false) (Nat.lt_of_lt_of_le h1 hN),j3,Ok,zQ]
      · unfold sR;cases hL:o.gX.all fun y=>ia y (-1) 9
        · rfl
        have e6:((o.gX.length:Int)==2)=true:=by simp [a6]
        simp only [if_true,Oo,e6];simp only [rD,Ok,pd];rw [Lo hw a7,Lx o];rw [show (bif o.N0 != 4 then (o.N9==0&&(o.iv==0&&o.iu==0)) else (o.N9==0 || ia (i64.wrap (o.N9 - 1)) 0 29999)&&(ia o.iv (-1) 999&&ia o.iu 0 1000000))=AN o from rfl];cases AN o
        · simp
        cases ((o.N8.length:Int)==(bif o.N0==2 then o.gE else 0))
        · simp
        simp only [On,Ol,Bool.and_true,Oo];rw [jH o.N8 (fun _ y=>ia y 0 999) (.inl (o.N8.length:Int)) (.inr false) (Nat.lt_of_lt_of_le h2 hN),j3,Ok,zQ,Ky o]
        · cases o.N8.all fun y=>ia y 0 999
          · rfl
          simp only [if_true,Oo];cases decide ((o.N4.length:Int)≤(bif o.N0==3 then 2 else 0))
          · simp
          simp only [On,Ol,Bool.and_true];rw [jH o.N4 (fun _ y=>xo y) (.inl (o.N4.length:Int)) (.inr false) (Nat.lt_of_lt_of_le h3 hN),j3,Ok,zQ]
          · cases o.N4.all xo<;>rfl
          · intro k y hy hk;simp only [iE hk,Om,ij,hy,Ok,iK (Nat.lt_trans hk h3)];unfold xo;cases (y.Oj != (-1))<;>cases ia y.Oj 0 29999<;>cases ia y.n 0 999<;>rfl
          · simp only [iF,Ol]
        · intro k y hy hk;simp only [iE hk,Om,ij,hy,Ok,iK (Nat.lt_trans hk h2)];cases ia y 0 999<;>rfl
        · simp only [iF,Ol]
      · intro k y hy hk
        have hd:decide ((k:Int)<2)=true:=by simp;omega
        simp only [hd,Om,ij,hy,Ok,k5,iK (Nat.lt_trans hk h1)];cases ia y (-1) 9<;>rfl
      · simp [hl2]
    · simp only [Om];congr 1
      symm
      rw [Bool.eq_false_iff];intro h;simp only [sR,Oq,iR,beq_iff_eq] at h;obtain ⟨b0,b1,b2,b3,b4,⟨_,_,_,b5,_,_⟩,b6⟩:=h
      have q1:ia o.N0 1 4=true:=by rw [iR];omega
      have q2:ia o.box (-1) 9=true:=by rw [iR];omega
      have q3:ia o.Od 0 4=true:=by rw [iR];omega
      have q4:ia o.iw 0 1000000=true:=by rw [iR];omega
      have q5:ia o.gE 0 8=true:=by rw [iR];omega
      have q6:((o.gX.length:Int) != 2)=false:=by simp [b5]
      have q7:ia o.iu 0 1000000=true:=by
        cases h4:o.N0 != 4
        · rw [h4] at b6;simp only [Ol,Oq] at b6;exact b6.2.2
        · rw [h4] at b6;simp only [Om,Oq,beq_iff_eq] at b6;rw [b6.2.2];decide
      simp [q1,q2,q3,q4,q5,q6,q7] at hA
  · have hk:o.N0=0:=by simpa using hk0
    simp only [Om,kp,Ok];congr 1;rw [Bool.eq_iff_iff];obtain ⟨_,_,_,_,_,_,_,_,_,_,_,_,_⟩:=o;simp only at hk;subst hk;simp [blank,ia]
end Go.Kx
namespace Go.Kx
open Go
open Go.IntKind (i64)
set_option linter.unusedVariables false
set_option linter.unusedSimpArgs false
set_option maxRecDepth 10000
theorem ub {o:gP} (h:j2 o=true):o.gX.length≤2∧∀ y,y ∈ o.gX→-1≤y∧y≤9:=by
  unfold j2 at h;cases hk:o.N0==0
  · simp only [hk,Ol,Oq] at h;obtain ⟨_,_,_,_,_,_,hl,_⟩:=h;unfold sR at hl;simp only [Oq,List.all_eq_true,iR,beq_iff_eq] at hl;exact ⟨by omega,hl.1⟩
  · simp only [hk,Om,Oq,decide_eq_true_eq] at h;rw [h.2.2];simp [blank]
theorem HE {o:gP} (h:j2 o=true) (hk:(o.N0 != 0)=true):ia o.box (-1) 9=true∧ia o.Od 0 4=true∧ia o.iw 0 1000000=true∧ia o.gE 0 8=true:=by
  unfold j2 at h
  have hk:(o.N0==0)=false:=by simpa [bne] using hk
  simp only [hk,Ol,Oq] at h;exact ⟨h.2.2.1,h.2.2.2.1,h.2.2.2.2.1,h.2.2.2.2.2.1⟩
def uD (l:List gP) (i:Int):Bool:=(nth l i).N0==0
def vr (l:List gP) (o:gP):Bool:=o.gX.all fun y=>!(decide (y ≥ 0)&&uD l y)
def tF (l:List gP) (k:Nat) (o:gP):Bool:=(j2 o&&!(decide ((k:Int) > 0)&&(o.N0 != 0&&(decide (o.box ≥ 0)&&uD l o.box))))&&vr l o
def vb (l:List gP):Bool:=((nth l 0).N0 != 1) || (((nth l 0).box != (-1)) || ((nth l 0).iw != 1000000))
def jJ (l:List gP):Bool:=!((l.length:Int) != 10)&&(!vb l&&allI (tF l) 0 l)
theorem B6 {N:Nat} (hN:gS≤N) {l:List gP} (hl:l.length=10) {o:gP} (ho:o.gX.length≤2) (hr:∀ y,y ∈ o.gX→-1≤y∧y≤9) :
    iter (fun (s75:Int)=>(bif (decide (s75<(o.gX.length:Int))) then ((idx o.gX s75).bind fun y96=>(bif (decide (y96 ≥ 0)) then ((idx l y96).bind fun y108=>some (y108.N0==0)) else (some false):Option Bool).bind fun j105=>bif j105 then (some (.inr (.inr false))) else (some (.inl (i64.wrap (s75+1))))) else (some (.inr (.inl s75))):Option (Int⊕(Int⊕Bool)))) N 0=some (if vr l o then .inl (o.gX.length:Int) else .inr false):=by
  have hB:o.gX.length<gS:=Nat.lt_of_le_of_lt ho (by decide);rw [jH o.gX (fun _ y=>!(decide (y ≥ 0)&&uD l y)) (.inl (o.gX.length:Int)) (.inr false) (Nat.lt_of_lt_of_le hB hN),j3]
  · rfl
  · intro k y hy hk;have hm:=hr y (List.mem_of_getElem? hy);simp only [iE hk,Om,ij,hy,Ok,iK (Nat.lt_trans hk hB)];cases h0:decide (y ≥ 0)
    · rfl
    · have h0:y ≥ 0:=by simpa using h0
      simp only [Om,iT (l:=l) (i:=y) h0 (by omega),Ok,Oo];unfold uD;cases (nth l y).N0==0<;>rfl
  · simp only [iF,Ol]
theorem FO {l:List gP} (hl:l.length=10) {o:gP} (ho:j2 o=true):(bif (decide (o.box ≥ 0)) then ((idx l o.box).bind fun y58=>some (y58.N0==0)) else (some false):Option Bool)=some (decide (o.box ≥ 0)&&uD l o.box)∨(o.N0 != 0)=false:=by
  cases hk:o.N0 != 0
  · exact .inr rfl
  · left;obtain ⟨hb,_⟩:=HE ho hk;rw [iR] at hb;cases h0:decide (o.box ≥ 0)
    · rfl
    · have h0:o.box ≥ 0:=by simpa using h0
      simp only [Om,iT (l:=l) (i:=o.box) h0 (by omega),Ok,Oo];rfl
theorem uB {N:Nat} (hN:gS≤N) {l:List gP} (hb:iQ hX l<gS):mu N l=some (jJ l):=by
  have hlB:=jz hb;unfold mu jJ;cases h10:((l.length:Int) != 10)
  · have hl:l.length=10:=wF (n:=10) h10;rw [iT (l:=l) (i:=0) (by omega) (by omega)];simp only [Ol,Ok,jR,Bool.not_false,Oo];rw [show ((nth l 0).N0 != 1 || ((nth l 0).box != (-1) || (nth l 0).iw != 1000000))=vb l from rfl];cases vb l
    · simp only [Ol,Bool.not_false,Oo];rw [jH l (tF l) (.inl (l.length:Int)) (.inr false) (Nat.lt_of_lt_of_le hlB hN)]
      · simp only [Ok];cases allI (tF l) 0 l<;>rfl
      · intro k y hy hk;have hm:=List.mem_of_getElem? hy;simp only [iE hk,Om,ij,hy,Ok,Ft hN (jm hb hm),iK (Nat.lt_trans hk hlB)];unfold tF;cases ho:j2 y
        · rfl
        · obtain ⟨q1,q2⟩:=ub ho;rw [B6 hN hl q1 q2]
          rcases FO hl ho with q | q
          · rw [q];simp only [On,Ol,Oo,kp,Ok];cases (decide ((k:Int) > 0)&&(y.N0 != 0&&(decide (y.box ≥ 0)&&uD l y.box)))<;>cases vr l y<;>rfl
          · simp only [q,On,Ol,Oo,Bool.false_and,Bool.and_false,kp,Ok];cases vr l y<;>rfl
      · simp only [iF,Ol]
    · rfl
  · rfl
def wA (l:List gP):Prop:=∀ o,o ∈ l→nB o
theorem ra {N:Nat} (hN:gS≤N) {l:List gP} (hb:iQ hX l<gS) (hw:wA l):lk N l=some (jJ l):=by
  have hlB:=jz hb;unfold lk jJ;cases h10:((l.length:Int) != 10)
  · have hl:l.length=10:=wF (n:=10) h10;rw [iT (l:=l) (i:=0) (by omega) (by omega)];simp only [Ol,Ok,jR,Bool.not_false,Oo];rw [show ((nth l 0).N0 != 1 || ((nth l 0).box != (-1) || (nth l 0).iw != 1000000))=vb l from rfl];cases vb l
    · simp only [Ol,Bool.not_false,Oo];rw [jH l (tF l) (.inl (l.length:Int)) (.inr false) (Nat.lt_of_lt_of_le hlB hN)]
      · simp only [Ok];cases allI (tF l) 0 l<;>rfl
      · intro k y hy hk;have hm:=List.mem_of_getElem? hy;simp only [iE hk,Om,ij,hy,Ok,FY hN (jm hb hm) (hw y hm),iK (Nat.lt_trans hk hlB)];unfold tF;cases ho:j2 y
        · rfl
        · obtain ⟨q1,q2⟩:=ub ho;rw [B6 hN hl q1 q2]
          rcases FO hl ho with q | q
          · rw [q];simp only [On,Ol,Oo,kp,Ok];cases y.N0 != 0<;>cases decide ((k:Int) > 0)<;>cases (decide (y.box ≥ 0)&&uD l y.box)<;>cases vr l y<;>rfl
          · simp only [q,On,Ol,Oo,Bool.false_and,Bool.and_false,kp,Ok];cases vr l y<;>rfl
      · simp only [iF,Ol]
    · rfl
  · rfl
theorem wR {N:Nat} (hN:gS≤N) {l:List Int} {x:Int} (hb:l.length<gS):lV N l x=some (l.contains x):=by
  unfold lV;rw [jH l (fun _ y=>!(y==x)) (.inl (l.length:Int)) (.inr true) (Nat.lt_of_lt_of_le hb hN),j3]
  · have:(l.all fun y=>!(y==x))=!l.contains x:=by
      induction l with
      | nil=>rfl
      | cons y l ih =>
        have ih:=ih (Nat.lt_trans (Nat.lt_succ_self _) hb);rw [List.all_cons,ih,List.contains_cons,Bool.beq_comm (a:=x)];cases (y==x)<;>rfl
    rw [this,Ok];cases l.contains x<;>rfl
  · intro k y hy hk;simp only [iE hk,Om,ij,hy,Ok,iK (Nat.lt_trans hk hb)];cases (y==x)<;>rfl
  · simp only [iF,Ol]
def uV (g:List Int) (k:Nat) (y:Int):Bool:=ia y 0 9&&!(g.take k).contains y
def yJ (g:iW):Bool:=((g.N2==0)&&(g.Oa==0)) || ((g.N2==1)&&(ia g.Oa 0 9&&((g.gQ.length:Int)==0)))
def j9 (h:g5):Bool:=jJ h.ag&&(yJ h.gc&&(ia h.gc.N3 0 1000000&&allI (uV h.gc.gQ) 0 h.gc.gQ))
theorem Fy {α:Type} {l:List α} {k:Nat} (h:l.length<gS):(l.take k).length<gS:=Nat.lt_of_le_of_lt (by simp;omega) h
theorem xa {N:Nat} (hN:gS≤N) {h:g5} (h1:iQ hX h.ag<gS) (h2:h.gc.gQ.length<gS):oq N h=some (j9 h):=by
  unfold oq j9;rw [jH h.gc.gQ (uV h.gc.gQ) (.inl (h.gc.gQ.length:Int)) (.inr false) (Nat.lt_of_lt_of_le h2 hN)]
  · simp only [Ok,sE,vu,uB hN h1,kp];cases allI (uV h.gc.gQ) 0 h.gc.gQ
    · simp
    · simp only [if_true,Sum.elim_inl,Bool.and_true];unfold yJ;cases jJ h.ag
      · rfl
      cases ((h.gc.N2==0)&&(h.gc.Oa==0))
      · cases ((h.gc.N2==1)&&(ia h.gc.Oa 0 9&&((h.gc.gQ.length:Int)==0)))<;>rfl
      · rfl
  · intro k y hy hk;simp only [iE hk,Om,ij,hy,Ok,sE,xv (Nat.le_of_lt hk),tG hN (Fy h2),iK (Nat.lt_trans hk h2)];unfold uV;cases ia y 0 9<;>cases (h.gc.gQ.take k).contains y<;>rfl
  · simp only [iF,Ol]
theorem KG (n:Nat):decide ((n:Int) > 0)=!((n:Int)==0):=by
  cases n with
  | zero=>rfl
  | succ n=>rw [decide_eq_true (by omega)];simp;omega
theorem xt {N:Nat} (hN:gS≤N) {h:g5} (h1:iQ hX h.ag<gS) (h2:h.gc.gQ.length<gS) (hw:wA h.ag):n4 N h=some (j9 h):=by
  unfold n4 j9;rw [jH h.gc.gQ (uV h.gc.gQ) (.inl (h.gc.gQ.length:Int)) (.inr false) (Nat.lt_of_lt_of_le h2 hN)]
  · simp only [Ok,qR,k5,ra hN h1 hw,jR,KG];cases jJ h.ag
    · rfl
    cases ia h.gc.N3 0 1000000
    · simp
    unfold yJ
    by_cases q0:h.gc.N2=0
    · have e0:(h.gc.N2==0)=true:=by simp [q0]
      have e1:(h.gc.N2==1)=false:=by simp [q0]
      have e2:ia h.gc.N2 0 1=true:=by rw [q0];decide
      rw [e0,e1,e2];simp only [bne];cases h.gc.Oa==0
      · rfl
      · cases allI (uV h.gc.gQ) 0 h.gc.gQ<;>rfl
    by_cases q1:h.gc.N2=1
    · have e0:(h.gc.N2==0)=false:=by simp [q1]
      have e1:(h.gc.N2==1)=true:=by simp [q1]
      have e2:ia h.gc.N2 0 1=true:=by rw [q1];decide
      rw [e0,e1,e2];cases ia h.gc.Oa 0 9
      · rfl
      cases ((h.gc.gQ.length:Int)==0)
      · rfl
      · cases allI (uV h.gc.gQ) 0 h.gc.gQ<;>rfl
    · have e0:(h.gc.N2==0)=false:=by simp [q0]
      have e1:(h.gc.N2==1)=false:=by simp [q1]
      have e2:ia h.gc.N2 0 1=false:=by
        rw [Bool.eq_false_iff,Ne,iR];omega
      rw [e0,e1,e2];rfl
  · intro k y hy hk;simp only [iE hk,Om,ij,hy,Ok,qR,xv (Nat.le_of_lt hk),wR hN (Fy h2),iK (Nat.lt_trans hk h2)];unfold uV;cases ia y 0 9<;>cases (h.gc.gQ.take k).contains y<;>rfl
  · simp only [iF,Ol]
def ku (t:iL):Bool:=(ia t.Od 0 4&&(ia t.jI 0 2&&(ia t.mN 0 4&&ia t.kc 0 2)))&&(((t.N0==1)&&ia t.kK 0 1000) || ((t.N0==2)&&ia t.kK 0 100))
theorem yR (N:Nat) (t:iL):pn N t=some (ku t):=by
  unfold pn ku;simp only [uu,xE,lv,Ok,jR,kp]
  by_cases q:t.N0=1
  · have e1:(t.N0==1)=true:=by simp [q]
    have e2:(t.N0==2)=false:=by simp [q]
    rw [e1,e2];cases ia t.Od 0 4<;>cases ia t.mN 0 4<;>cases ia t.jI 0 2<;>cases ia t.kc 0 2<;>cases ia t.kK 0 1000<;>rfl
  · have e1:(t.N0==1)=false:=by simp [q]
    rw [e1];cases ia t.Od 0 4<;>cases ia t.mN 0 4<;>cases ia t.jI 0 2<;>cases ia t.kc 0 2<;>cases (t.N0==2)<;>cases ia t.kK 0 100<;>rfl
theorem yD (N:Nat) (t:iL):pw N t=some (ku t):=by
  unfold pw ku;simp only [vd,k5,Ok,jR,kp]
  by_cases q:t.N0=1
  · have e1:(t.N0==1)=true:=by simp [q]
    have e2:(t.N0==2)=false:=by simp [q]
    rw [e1,e2];cases ia t.Od 0 4<;>cases ia t.jI 0 2<;>cases ia t.mN 0 4<;>cases ia t.kc 0 2<;>cases ia t.kK 0 1000<;>rfl
  · have e1:(t.N0==1)=false:=by simp [q]
    rw [e1];cases ia t.Od 0 4<;>cases ia t.jI 0 2<;>cases ia t.mN 0 4<;>cases ia t.kc 0 2<;>cases (t.N0==2)<;>cases ia t.kK 0 100<;>rfl
def Aj (p:cd):Bool:=ia p.N6 0 9&&(ia p.N7 0 10&&(iH p.bh&&(ia p.gW 0 1000000&&ia p.N5 0 1000000)))
def jd (p:cd):Bool:=jL p.NZ&&(lp p.own&&(jy p.N1&&(j9 p.py&&(!decide ((p.gR.length:Int) > 3)&&(p.gR.all ku&&Aj p)))))
theorem sK {N:Nat} (hN:gS≤N) {p:cd} (h:ic p<gS):lI N p=some (jd p):=by
  obtain ⟨h1,h2,h3,h4,h5,h6⟩:=jK h;unfold lI jd;rw [jH p.gR (fun _ t=>ku t) (.inl (p.gR.length:Int)) (.inr false) (Nat.lt_of_lt_of_le h6 hN),j3]
  · simp only [Ok,ur hN h1,yP hN h2,ri hN,xa hN h4 h5,sE,lv,qe,vu,jR,kp];rw [show (ia p.N6 0 9&&(ia p.N7 0 10&&(iH p.bh&&(ia p.gW 0 1000000&&ia p.N5 0 1000000))))=Aj p from rfl];cases p.gR.all ku
    · simp
    · simp only [if_true,Sum.elim_inl,Oo];cases jL p.NZ<;>cases lp p.own<;>cases jy p.N1<;>cases j9 p.py<;>cases decide ((p.gR.length:Int) > 3)<;>rfl
  · intro k y hy hk;simp only [iE hk,Om,ij,hy,Ok,yR,iK (Nat.lt_trans hk h6)];cases ku y<;>rfl
  · simp only [iF,Ol]
def wP (p:cd):Prop:=wA p.py.ag
theorem sF {N:Nat} (hN:gS≤N) {p:cd} (h:ic p<gS) (hw:wP p):lP N p=some (jd p):=by
  obtain ⟨h1,h2,h3,h4,h5,h6⟩:=jK h;unfold lP jd;rw [jH p.gR (fun _ t=>ku t) (.inl (p.gR.length:Int)) (.inr false) (Nat.lt_of_lt_of_le h6 hN),j3]
  · simp only [Ok,qA hN h1,yQ hN h2,vR hN,xt hN h4 h5 hw,qR,k5,qt,jR,kp];unfold Aj;cases jL p.NZ
    · rfl
    cases lp p.own
    · rfl
    cases jy p.N1
    · rfl
    cases j9 p.py
    · rfl
    cases decide ((p.gR.length:Int) > 3)
    · simp only [On,Bool.not_false,Bool.false_or,Oo];cases ia p.N6 0 9<;>cases ia p.N7 0 10<;>cases iH p.bh<;>cases ia p.gW 0 1000000<;>cases ia p.N5 0 1000000<;>cases p.gR.all ku<;>rfl
    · rfl
  · intro k y hy hk;simp only [iE hk,Om,ij,hy,Ok,yD,iK (Nat.lt_trans hk h6)];cases ku y<;>rfl
  · simp only [iF,Ol]
end Go.Kx
