import Derived.Test.YtlcgibcdiikheaaGreatLDrawP
namespace Go.Kx
open Go
open Go.IntKind (i64)
set_option linter.unusedVariables false
set_option linter.unusedSimpArgs false
set_option maxRecDepth 10000
def jh (f:ic→Int):List im→Int
  | []=>0
  | r::t=>(if r.PN then f r.iI else 0)+jh f t
def qh (f:ic→Int) (r:im):Int:=if r.PN then f r.iI else 0
theorem xv (f:ic→Int):∀ (t:List im) (k:Nat) (r z:im),t[k]?=some r→jh f (t.set k z)=jh f t - qh f r+qh f z
  | [],k,r,z,h=>by simp at h
  | x::t,0,r,z,h=>by
    simp only [List.getElem?_cons_zero,Option.some.injEq] at h;subst h
    show qh f z+jh f t=qh f x+jh f t - qh f x+qh f z
    omega
  | x::t,k+1,r,z,h=>by
    rw [List.getElem?_cons_succ] at h;have:=xv f t k r z h
    show qh f x+jh f (t.set k z)=qh f x+jh f t - qh f r+qh f z
    omega
theorem sC:∀ (t:List im) (s:ic) (B:Int),(∀ r,r ∈ t→iU r.iI=true)→0≤B→B+1000000 * (t.length:Int)≤1000000000→vH s B →
    (ju s t).bh=s.bh+jh ic.bh t∧(ju s t).ib=s.ib+jh ic.ib t∧(ju s t).ij=s.ij+jh ic.ij t
  | [],s,B,_,_,_,_=>⟨(Int.add_zero _).symm,(Int.add_zero _).symm,(Int.add_zero _).symm⟩
  | x::t,s,B,h,hB,hL,hs=>by
    have hx:=h x (by simp);simp only [List.length_cons] at hL;obtain ⟨w1,w2,w3,w4⟩:=yJ hs hx (by omega);have e:ju s (x::t)=ju (if x.PN then iV s x.iI else s) t:=rfl;have ht:∀ r,r ∈ t→iU r.iI=true:=fun r hr=>h r (by simp [hr]);have d:∀ f:ic→Int,jh f (x::t)=(if x.PN then f x.iI else 0)+jh f t:=fun f=>rfl;rw [e,d,d,d];cases hxl:x.PN
    · obtain ⟨a1,a2,a3⟩:=sC t s B ht hB (by omega) hs;simp only [Bool.false_eq_true,if_false];exact ⟨by omega,by omega,by omega⟩
    · obtain ⟨a1,a2,a3⟩:=sC t (iV s x.iI) (B+1000000) ht (by omega) (by omega) w4;simp only [if_true];exact ⟨by omega,by omega,by omega⟩
theorem Bx:vH ⟨0,0,0⟩ 0:=by unfold vH;decide
theorem Tr.jh {t:List im} (h:Tr t):(ju ⟨0,0,0⟩ t).bh=jh ic.bh t∧(ju ⟨0,0,0⟩ t).ib=jh ic.ib t∧(ju ⟨0,0,0⟩ t).ij=jh ic.ij t:=by
  have hl:=h.len;obtain ⟨a,b,c⟩:=sC t ⟨0,0,0⟩ 0 h.iI (by omega) (by omega) Bx;simp only [Int.zero_add] at a b c;exact ⟨a,b,c⟩
theorem wJ {t:List im} {i j:Int} {z:im} (h0:0≤i) (h1:i<(t.length:Int)) (hj:0≤j):nth (t.set i.toNat z) j=if i=j then z else nth t j:=by
  unfold nth
  by_cases e:i=j
  · subst e;rw [if_pos rfl,List.getElem?_set_self (by omega)];rfl
  · rw [if_neg e,List.getElem?_set_ne (by omega)]
theorem uT {t:List im} {i:Int} (h0:0≤i) (h1:i<(t.length:Int)) (b:ic) {j:Int} (hj:0≤j):(nth (t.set i.toNat (mg (nth t i) b)) j).PN=(nth t j).PN∧(nth (t.set i.toNat (mg (nth t i) b)) j).PM=(nth t j).PM:=by
  rw [wJ h0 h1 hj];split
  · rename_i e;subst e;exact ⟨rfl,rfl⟩
  · exact ⟨rfl,rfl⟩
theorem AM {t:List im} {i:Int} (h0:0≤i) (h1:i<(t.length:Int)) (b:ic) (j:Int):iW (t.set i.toNat (mg (nth t i) b)) j=iW t j:=by
  unfold iW;cases hj:iA j 0 4
  · rfl
  · rw [(uT h0 h1 b (iS.1 hj).1).1]
theorem B7 {t:List im} {i:Int} (h0:0≤i) (h1:i<(t.length:Int)) (b:ic):∀ (n:Nat) (j:Int),leads (t.set i.toNat (mg (nth t i) b)) n j=leads t n j
  | 0,j=>rfl
  | n+1,j=>by
    unfold leads;rw [AM h0 h1];cases hv:iW t j
    · rfl
    · have:=(kM hv).1;have e:up (t.set i.toNat (mg (nth t i) b)) j=up t j:=(uT h0 h1 b this).2;rw [e,B7 h0 h1 b n (up t j)]
theorem Tr.set {t:List im} (h:Tr t) {i:Int} (h0:0≤i) (h4:i≤4) (hv:(nth t i).PN=true) {b:ic} (hb:iU b=true)
    (hs:iU ⟨Kx.jh ic.bh t - (nth t i).iI.bh+b.bh,Kx.jh ic.ib t - (nth t i).iI.ib+b.ib,Kx.jh ic.ij t - (nth t i).iI.ij+b.ij⟩=true) :
    Tr (t.set i.toNat (mg (nth t i) b))∧∀ f:ic→Int,Kx.jh f (t.set i.toNat (mg (nth t i) b))=Kx.jh f t - f (nth t i).iI+f b:=by
  have hl:=h.len
  have hi:i<(t.length:Int):=by omega
  have hg:=jM (l:=t) h0 hi
  have ht:∀ f:ic→Int,Kx.jh f (t.set i.toNat (mg (nth t i) b))=Kx.jh f t - f (nth t i).iI+f b:=fun f=>by
    rw [xv f t i.toNat _ _ hg];have e1:qh f (nth t i)=f (nth t i).iI:=if_pos hv;have e2:qh f (mg (nth t i) b)=f b:=if_pos hv;rw [e1,e2]
  have hbal:∀ r,r ∈ t.set i.toNat (mg (nth t i) b)→iU r.iI=true:=fun r hr=>by
    rcases List.mem_or_eq_of_mem_set hr with q | q
    · exact h.iI r q
    · rw [q];exact hb
  have hl':(t.set i.toNat (mg (nth t i) b)).length=5:=by rw [List.length_set];exact hl
  refine ⟨⟨hl',?_,?_,?_,hbal,?_,?_⟩,ht⟩
  · rw [(uT h0 hi b (by omega)).1];exact h.rl
  · rw [(uT h0 hi b (by omega)).2];exact h.Bm
  · intro r hr hd
    rcases List.mem_or_eq_of_mem_set hr with q | q
    · exact h.dead r q hd
    · rw [q] at hd;have:(nth t i).PN=false:=hd;rw [hv] at this;cases this
  · intro k r hr hlv;rw [B7 h0 hi];have hk:k<(t.set i.toNat (mg (nth t i) b)).length:=jl hr;have e1:=tn hr;have e2:=(uT h0 hi b (j:=(k:Int)) (by omega)).1;rw [e1,hlv] at e2;exact h.lead k (nth t (k:Int)) (jM (l:=t) (i:=(k:Int)) (by omega) (by omega)) e2.symm
  · obtain ⟨a1,a2,a3⟩:=sC _ ⟨0,0,0⟩ 0 hbal (by omega) (by omega) Bx
    have e:ju ⟨0,0,0⟩ (t.set i.toNat (mg (nth t i) b))=⟨Kx.jh ic.bh t - (nth t i).iI.bh+b.bh,Kx.jh ic.ib t - (nth t i).iI.ib+b.ib,Kx.jh ic.ij t - (nth t i).iI.ij+b.ij⟩:=by
      generalize ju ⟨0,0,0⟩ (t.set i.toNat (mg (nth t i) b))=q at *;obtain ⟨q1,q2,q3⟩:=q;simp only [Int.zero_add,ht] at a1 a2 a3;subst a1 a2 a3;rfl
    rw [e];exact hs
theorem Dx {a b:ic} (h:lI a b=true):(uY b a)=⟨b.bh - a.bh,b.ib - a.ib,b.ij - a.ij⟩∧iU ⟨b.bh - a.bh,b.ib - a.ib,b.ij - a.ij⟩=true:=by
  unfold lI at h;simp only [PY,decide_eq_true_eq] at h;obtain ⟨h1,h2,h3,h4,h5⟩:=h;have a1:=jd.1 h1;have a2:=jd.1 h2;refine ⟨?_,jd.2 ⟨by simp only;omega,by simp only;omega,by simp only;omega⟩⟩;unfold uY;rw [iE (by omega) (by omega),iE (by omega) (by omega),iE (by omega) (by omega)]
theorem uW {t:List im} {f:Int} {a:ic} (h:(iX t f a).2=true):Tr (iX t f a).1∧iU a=true∧∀ g:ic→Int,(∀ x y:ic,g ⟨x.bh - y.bh,x.ib - y.ib,x.ij - y.ij⟩=g x - g y)→jh g (iX t f a).1=jh g t - g a:=by
  obtain ⟨h1,h2⟩:=tC h;have hT:=jG.1 h1;obtain ⟨f0,f4⟩:=kM h2
  have hlv:(nth t f).PN=true:=by
    unfold iW at h2;simp only [PY] at h2;exact h2.2
  unfold iX at *;rw [h1,h2] at *;simp only [Bool.and_self,if_true] at *;cases hf:lI a (nth t f).iI
  · rw [hf] at h;simp at h
  · simp only [if_true];obtain ⟨e,ok⟩:=Dx hf
    have ha:iU a=true:=by
      unfold lI at hf;simp only [PY] at hf;exact hf.1
    rw [e];have hl:=hT.len;have hm:nth t f ∈ t:=lh f0 (by omega);have hS:=jd.1 hT.sum;obtain ⟨t1,t2,t3⟩:=hT.jh;have ha':=jd.1 ha;have ok':=jd.1 ok;obtain ⟨_,q⟩:=sf t ⟨0,0,0⟩ 0 hT.iI (by omega) (by omega) ⟨by decide,by decide⟩ ⟨by decide,by decide⟩ ⟨by decide,by decide⟩;obtain ⟨q1,q2,q3⟩:=q _ hm hlv;simp only at ok';obtain ⟨r1,r2⟩:=hT.set f0 f4 hlv ok (jd.2 ⟨by simp only;omega,by simp only;omega,by simp only;omega⟩);refine ⟨r1,ha,fun g hg=>?_⟩;rw [r2 g,hg];omega
end Go.Kx
namespace Go.Kx
open Go
open Go.IntKind (i64)
set_option linter.unusedVariables false
set_option linter.unusedSimpArgs false
set_option maxRecDepth 10000
theorem tY {p:cd} {now y:Int} (h:y ∈ threads p now):0≤y∧y≤9:=(xz h).2
theorem An {p:cd} {now y:Int} (h:y ∈ threads p now):(nth p.py.ag y).Pz=4∧jF (nth p.py.ag y) now=false:=by
  obtain ⟨ok,y0,y9⟩:=xz h;have ar:=kf ok;unfold threads at h;rw [if_pos ok] at h;obtain ⟨i,b,h1,h2,h3⟩:=vB.1 h;simp only [Nat.zero_add,PY,beq_iff_eq] at h2 h3;obtain ⟨hb,hk⟩:=h2;subst h3;rw [hb] at h1;refine ⟨hk,AJ ar (((uV ar now).2 i).1 h1) fun q=>?_⟩;rw [q,ar.uC] at hk;cases hk
theorem KN {p:cd} (h:iO p=true) (i:Int):iW p.PC (kJ p i)=true:=by
  have hT:=jG.1 (kY h);unfold kJ;split
  · rename_i q;simp only [PY] at q;exact q.2
  · unfold iW;rw [hT.rl];rfl
theorem qg {p:cd} {now:Int} (h:sg p now=false):kq p now ∈ runnable p now:=by
  unfold sg at h;simp only [Bool.or_eq_false_iff] at h;exact zv _ _ _ h.1
theorem BG {p:cd} {now:Int} (ok:iO p=true) {i:Int} (h:i ∈ runnable p now):(iX p.PC (kJ p (nth p.py.ag i).res) ⟨0,0,1⟩).2=true:=by
  unfold runnable at h;obtain ⟨_,hm⟩:=List.mem_filter.1 h;unfold vm at hm;simp only [PY,decide_eq_true_eq] at hm;have hT:=jG.1 (kY ok);obtain ⟨r0,r4⟩:=wM p (nth p.py.ag i).res;have hl:=hT.len;have hb:=hT.iI _ (lh (l:=p.PC) (i:=kJ p (nth p.py.ag i).res) r0 (by omega));have hb':=jd.1 hb;have hc:(nth p.PC (kJ p (nth p.py.ag i).res)).iI.ij > 0:=hm.2
  have hf:lI ⟨0,0,1⟩ (nth p.PC (kJ p (nth p.py.ag i).res)).iI=true:=by
    unfold lI;rw [hb];simp only [show iU ⟨0,0,1⟩=true from by decide,PX,PY,decide_eq_true_eq];exact ⟨by omega,by omega,by omega⟩
  unfold iX;rw [kY ok,KN ok,hf];rfl
theorem LQ {p:cd} {now:Int} (ok:iO p=true) {i:Int} (h:i ∈ runnable p now):(ka (iX p.PC (kJ p (nth p.py.ag i).res) ⟨0,0,1⟩).1).ij=(ka p.PC).ij - 1∧(ka (iX p.PC (kJ p (nth p.py.ag i).res) ⟨0,0,1⟩).1).bh=(ka p.PC).bh∧(ka (iX p.PC (kJ p (nth p.py.ag i).res) ⟨0,0,1⟩).1).ib=(ka p.PC).ib:=by
  have hT:=jG.1 (kY ok);obtain ⟨q,_,k⟩:=uW (BG ok h);unfold ka;rw [if_pos (jG.2 q),if_pos (kY ok),q.jh.1,q.jh.2.1,q.jh.2.2,hT.jh.1,hT.jh.2.1,hT.jh.2.2,k ic.ij (fun _ _=>rfl),k ic.bh (fun _ _=>rfl),k ic.ib (fun _ _=>rfl)];exact ⟨rfl,Int.sub_zero _,Int.sub_zero _⟩
structure Sk where
  PO:Int
  Pz:Int
  box:Int
  iK:Int
  ig:List Int
def lK (o:gE):Sk:=⟨o.PO,o.Pz,o.box,o.iK,o.ig⟩
theorem DD {α γ β:Type} {s:α→γ} {p:Nat→α→Bool} {q:Nat→γ→Bool} {h:Nat→α→β} {r:Nat→γ→β} (hp:∀ k y,p k y=q k (s y)) (hh:∀ k y,h k y=r k (s y)):∀ (l:List α) (k:Nat),kP p h k l=kP q r k (l.map s)
  | [],_=>rfl
  | y::l,k=>by
    unfold kP;simp only [List.map_cons,kP];rw [hp,hh,DD hp hh l (k+1)]
theorem Af {l:List gE} (i:Int) (h0:0≤i) (h1:i<(l.length:Int)):(l.map lK)[i.toNat]?=some (lK (nth l i)):=by
  rw [List.getElem?_map,jM h0 h1];rfl
theorem rG {l m:List gE} (h:l.map lK=m.map lK) {i:Int} (h0:0≤i) (h1:i<(l.length:Int)):lK (nth l i)=lK (nth m i):=by
  have hl:l.length=m.length:=by simpa using congrArg List.length h
  have a:=Af i h0 h1;rw [h,Af i h0 (by omega)] at a;exact (Option.some.inj a).symm
theorem HX {l m:List gE} (h:l.map lK=m.map lK) {i:Int} (h0:0≤i) (h1:i<(l.length:Int)):lU l i=lU m i:=by
  have e:=rG h h0 h1;have ek:(nth l i).Pz=(nth m i).Pz:=congrArg Sk.Pz e;have el:(nth l i).ig=(nth m i).ig:=congrArg Sk.ig e;unfold lU;have key:∀ x:List gE,kP (xD x i) (fun k _=>(k:Int)) 0 x=kP (fun (k:Nat) (y:Sk)=>(decide ((k:Int) > 0)&&(y.Pz != 0&&((y.box==i)&&((nth x i).Pz==1)))) || (nth x i).ig.contains (k:Int)) (fun k _=>(k:Int)) 0 (x.map lK):=fun x=>DD (s:=lK) (p:=xD x i) (q:=fun (k:Nat) (y:Sk)=>(decide ((k:Int) > 0)&&(y.Pz != 0&&((y.box==i)&&((nth x i).Pz==1)))) || (nth x i).ig.contains (k:Int)) (h:=fun k _=>(k:Int)) (r:=fun k _=>(k:Int)) (fun k y=>rfl) (fun k y=>rfl) x 0;rw [key l,key m,h,ek,el]
theorem DI {a b:gE} (h:lK a=lK b) (now:Int):jF a now=jF b now:=by
  unfold jF;rw [show a.Pz=b.Pz from congrArg Sk.Pz h,show a.iK=b.iK from congrArg Sk.iK h]
theorem ym {l m:List gE} (hl:Ar l) (h:l.map lK=m.map lK) {now k:Int} (r:Reaches l now k):Reaches m now k:=by
  have hlen:=hl.len
  induction r with
  | root=>exact .root
  | step q1 q2 q3 ih =>
    obtain ⟨i0,i9⟩:=q1.v8 hl;obtain ⟨k0,k1⟩:=vo q2;rw [HX h i0 (by omega)] at q2;rw [DI (rG h k0 k1)] at q3;exact .step ih q2 q3
theorem HN {l m:List gE} (hl:Ar l) (hm:Ar m) (h:l.map lK=m.map lK) (now:Int):reach l now=reach m now:=by
  have a:=uV hl now;have b:=uV hm now;refine List.ext_getElem? fun k=>?_
  have hk:(reach l now)[k]?=some true ↔ (reach m now)[k]?=some true:=by
    rw [a.2 k,b.2 k];exact ⟨fun q=>ym hl h q,fun q=>ym hm h.symm q⟩
  cases ha:(reach l now)[k]? with
  | none =>
    have:=List.getElem?_eq_none_iff.1 ha;exact (List.getElem?_eq_none (by rw [b.1];rw [a.1] at this;exact this)).symm
  | some x =>
    have hlt:=jl ha
    have hkm:k<(reach m now).length:=by rw [b.1];rw [a.1] at hlt;exact hlt
    have hb:(reach m now)[k]?=some ((reach m now)[k]'hkm):=List.getElem?_eq_getElem _;rw [ha,hb] at hk;rw [hb];generalize (reach m now)[k]'hkm=y at *;cases x<;>cases y<;>simp at hk ⊢
theorem Ar.lK {l m:List gE} (hl:Ar l) (h:l.map lK=m.map lK) (ok:∀ o,o ∈ m→ja o=true):Ar m:=by
  have hlen:l.length=m.length:=by simpa using congrArg List.length h
  have h10:=hl.len;have e0:=rG h (i:=0) (by omega) (by omega);refine ⟨by omega,?_,?_,?_,ok,?_,?_⟩
  · rw [← hl.uC];exact (congrArg Sk.Pz e0).symm
  · rw [← hl.yf];exact (congrArg Sk.box e0).symm
  · rw [← hl.z7];exact (congrArg Sk.iK e0).symm
  · intro o ho y hy y0;obtain ⟨k,hk⟩:=List.getElem?_of_mem ho;have hkl:=jl hk;have e:=rG h (i:=(k:Int)) (by omega) (by omega)
    have el:(nth l (k:Int)).ig=o.ig:=by rw [show o=nth m (k:Int) from (tn hk).symm];exact congrArg Sk.ig e
    have hm:=(hl.at (i:=(k:Int)) (by omega) (by omega)).2;have y9:=((qD (ok o ho)).2 y hy).2;have:=hl.ig _ hm y (by rw [el];exact hy) y0
    rwa [show (nth l y).Pz=(nth m y).Pz from congrArg Sk.Pz (rG h y0 (by omega))] at this
  · intro k o hk k0 hne b0;have hkl:=jl hk;have e:=rG h (i:=(k:Int)) (by omega) (by omega);have eo:o=nth m (k:Int):=(tn hk).symm
    have eb:(nth l (k:Int)).box=o.box:=by rw [eo];exact congrArg Sk.box e
    have ek:(nth l (k:Int)).Pz=o.Pz:=by rw [eo];exact congrArg Sk.Pz e
    have b9:=iS.1 (mJ (ok o (List.mem_of_getElem? hk)) (by simpa using hne)).1;have:=hl.box k (nth l (k:Int)) (jM (l:=l) (i:=(k:Int)) (by omega) (by omega)) k0 (by rw [ek];exact hne) (by rw [eb];exact b0);rw [eb] at this
    rwa [show (nth l o.box).Pz=(nth m o.box).Pz from congrArg Sk.Pz (rG h b0 (by omega))] at this
theorem Hx (p:cd) (me now:Int):p.py.ag.map lK=(sq p me now).map lK:=by
  unfold sq;rw [List.map_map];refine List.map_congr_left fun o _=>?_
  show lK o=lK (if C0 p me now o then AO o else o)
  split<;>rfl
theorem KW {p:cd} {me now:Int} (h:∀ o,o ∈ p.py.ag→ja o=true):∀ o,o ∈ sq p me now→ja o=true:=by
  intro o ho;obtain ⟨x,hx,rfl⟩:=List.mem_map.1 (show o ∈ p.py.ag.map _ from ho);have hok:=h x hx;split
  · rename_i q;unfold C0 at q;simp only [PY,decide_eq_true_eq] at q
    have hk:(x.Pz==0)=false:=by
      cases hk:x.Pz==0
      · rfl
      · unfold ja at hok;simp only [hk,PV,PY,decide_eq_true_eq] at hok;rw [hok.2.2] at q;simp [blank] at q
    unfold ja at hok ⊢;have hk':((AO x).Pz==0)=false:=hk;rw [hk] at hok;rw [hk'];simp only [PU,PY] at hok ⊢;obtain ⟨a1,a2,a3,a4,a5,a6,a7,a8⟩:=hok;refine ⟨a1,a2,a3,a4,a5,a6,a7,?_⟩;cases h4:x.Pz != 4
    · rw [h4] at a8;have h4':((AO x).Pz != 4)=false:=h4;rw [h4'];simp only [PU,PY] at a8 ⊢;exact ⟨rfl,show iA (-1) (-1) 999=true by decide,a8.2.2⟩
    · rw [h4] at a8;simp only [PV,PY,beq_iff_eq] at a8;omega
  · exact hok
end Go.Kx
namespace Go.Kx
open Go
open Go.IntKind (i64)
set_option linter.unusedVariables false
set_option linter.unusedSimpArgs false
set_option maxRecDepth 10000
theorem Lv {p:cd} (h:iO p=true) (me now:Int):Ar (sq p me now):=by
  have ar:=kf h;exact ar.lK (Hx p me now) (KW ar.ok)
theorem LB {p:cd} (h:iO p=true) (me now:Int):iO (nf p (sq p me now))=true:=by
  have hw:=j7.2 (Lv h me now);unfold iO kB at *;simp only [PY] at h ⊢;obtain ⟨a,b,c,⟨_,d⟩,e⟩:=h;exact ⟨a,b,c,⟨hw,d⟩,e⟩
theorem MA {l m:List gE} (h:l.map gE.bh=m.map gE.bh) (hl:∀ o,o ∈ l→ja o=true) (hm:∀ o,o ∈ m→ja o=true):((l.take 10).filter ja).foldl (fun n o=>i64.wrap (n+o.bh)) 0=((m.take 10).filter ja).foldl (fun n o=>i64.wrap (n+o.bh)) 0:=by
  rw [List.filter_eq_self.2 fun o ho=>hl o (List.mem_of_mem_take ho),List.filter_eq_self.2 fun o ho=>hm o (List.mem_of_mem_take ho)]
  have key:∀ (x:List gE) (s:Int),x.foldl (fun n o=>i64.wrap (n+o.bh)) s=(x.map gE.bh).foldl (fun n k=>i64.wrap (n+k)) s:=fun x s=>by rw [List.foldl_map]
  rw [key,key,List.map_take,List.map_take,h]
theorem Nu {p:cd} (h:iO p=true) (me now:Int):kW (nf p (sq p me now))=kW p:=by
  have ar:=kf h
  have hp:(sq p me now).map gE.bh=p.py.ag.map gE.bh:=by
    unfold sq;rw [List.map_map];refine List.map_congr_left fun o _=>?_
    show gE.bh (if C0 p me now o then AO o else o)=o.bh
    split<;>rfl
  have e:held (nf p (sq p me now))=held p:=MA hp (Lv h me now).ok ar.ok;unfold kW;rw [e];rfl
end Go.Kx
namespace Go.Kx
open Go
open Go.IntKind (i64)
set_option linter.unusedVariables false
set_option linter.unusedSimpArgs false
set_option maxRecDepth 10000
theorem KV {l:List gE} {i:Int} {z:gE} (h0:0≤i) (h1:i<(l.length:Int)) (e:lK z=lK (nth l i)):(l.set i.toNat z).map lK=l.map lK:=by
  rw [List.map_set,e];exact oe (Af i h0 h1)
theorem LJ {o:gE} (h:ja o=true) (hk:o.Pz=4) (hr:o.iM<1000000):ja (r7 o)=true:=by
  have r0:=(NW h).1
  have hk0:(o.Pz==0)=false:=by rw [hk];rfl
  have hk4:(o.Pz != 4)=false:=by rw [hk];rfl
  unfold ja at h ⊢;have hk0':((r7 o).Pz==0)=false:=hk0;have hk4':((r7 o).Pz != 4)=false:=hk4;rw [hk0] at h;rw [hk0'];simp only [PU,PY] at h ⊢;obtain ⟨a1,a2,a3,a4,a5,a6,a7,a8⟩:=h;rw [hk4] at a8;rw [hk4'];simp only [PU,PY] at a8 ⊢;exact ⟨a1,a2,a3,a4,a5,a6,a7,a8.1,a8.2.1,iS.2 ⟨by show 0≤i64.wrap (o.iM+1);rw [iE (by omega) (by omega)];omega,by show i64.wrap (o.iM+1)≤1000000;rw [iE (by omega) (by omega)];omega⟩⟩
def tZ (p : cd) (now : Int) : cd := cd.mk p.PB p.own (iX p.PC (kJ p (nth p.py.ag (kq p now)).res) ⟨0, 0, 1⟩).1 (il.mk (p.py.ag.set (kq p now).toNat (r7 (nth p.py.ag (kq p now)))) p.py.gc) p.ia (kq p now) 0
        (ic.mk p.hY.bh p.hY.ib (i64.wrap (p.hY.ij + 1))) p.ik p.PH
theorem IA {p:cd} {now:Int} (ok:iO p=true) (hr:sg p now=false):mZ p now=(tZ p now,kq p now):=by
  unfold mZ;rw [if_pos ok,hr];rfl
theorem z0 {p:cd} {now:Int} (hr:sg p now=false):p.hY.ij<1000000∧(nth p.py.ag (kq p now)).iM<1000000:=by
  unfold sg at hr;simp only [Bool.or_eq_false_iff,decide_eq_false_iff_not] at hr;omega
theorem yV {p:cd} {now:Int} (ok:iO p=true) (hr:sg p now=false):(tZ p now).py.ag.map lK=p.py.ag.map lK∧Ar (tZ p now).py.ag:=by
  have ar:=kf ok;obtain ⟨q0,q9⟩:=tY (List.mem_filter.1 (qg hr)).1;have hk:=(An (List.mem_filter.1 (qg hr)).1).1;have hl:=ar.len;have hs:=KV (l:=p.py.ag) (z:=r7 (nth p.py.ag (kq p now))) q0 (by omega) rfl;refine ⟨hs,ar.lK hs.symm fun o ho=>?_⟩
  rcases List.mem_or_eq_of_mem_set ho with q | q
  · exact ar.ok o q
  · rw [q];exact LJ (ar.ok _ (ar.at q0 q9).2) hk (z0 hr).2
theorem Bf {p:cd} {now:Int} (ok:iO p=true) (hr:sg p now=false):iO (tZ p now)=true:=by
  have hA:=j7.2 (yV ok hr).2;have hT:=jG.2 (uW (BG ok (qg hr))).1;obtain ⟨q0,q9⟩:=tY (List.mem_filter.1 (qg hr)).1;have hc:=(z0 hr).1;have sp:=vr (oC ok);unfold iO kB rq at *;simp only [PY] at ok ⊢;obtain ⟨a,b,c,⟨_,d⟩,e,f,g1,g2,g3,g4⟩:=ok;refine ⟨a,b,hT,⟨hA,d⟩,e,f,iS.2 ⟨q0,q9⟩,rfl,?_,g4⟩;refine jd.2 ⟨sp.1,sp.2.1,?_⟩
  show 0≤i64.wrap (p.hY.ij+1)∧i64.wrap (p.hY.ij+1)≤1000000
  rw [iE (by omega) (by omega)];omega
theorem Mg {l m:List gE} (h:l.map gE.bh=m.map gE.bh) (hl:∀ o,o ∈ l→ja o=true) (hm:∀ o,o ∈ m→ja o=true):((l.take 10).filter ja).foldl (fun n o=>i64.wrap (n+o.bh)) 0=((m.take 10).filter ja).foldl (fun n o=>i64.wrap (n+o.bh)) 0:=by
  rw [List.filter_eq_self.2 fun o ho=>hl o (List.mem_of_mem_take ho),List.filter_eq_self.2 fun o ho=>hm o (List.mem_of_mem_take ho)]
  have key:∀ (x:List gE) (s:Int),x.foldl (fun n o=>i64.wrap (n+o.bh)) s=(x.map gE.bh).foldl (fun n k=>i64.wrap (n+k)) s:=fun x s=>by rw [List.foldl_map]
  rw [key,key,List.map_take,List.map_take,h]
theorem F5 {p:cd} {now:Int} (ok:iO p=true) (hr:sg p now=false):kW (tZ p now)=kW p:=by
  have ar:=kf ok;obtain ⟨q0,q9⟩:=tY (List.mem_filter.1 (qg hr)).1;have hl:=ar.len
  have hp:(tZ p now).py.ag.map gE.bh=p.py.ag.map gE.bh:=by
    show (p.py.ag.set (kq p now).toNat (r7 (nth p.py.ag (kq p now)))).map gE.bh=_
    rw [List.map_set];exact oe (by rw [List.getElem?_map,jM q0 (by omega)];rfl)
  have e:held (tZ p now)=held p:=Mg hp (yV ok hr).2.ok ar.ok;obtain ⟨s1,s2,s3⟩:=LQ ok (qg hr);have o1:=oC ok;have o2:=oC (Bf ok hr);have hc:=(z0 hr).1;have sp:=vr o1;unfold kW;rw [o1,o2,e];simp only [if_true]
  show iV ⟨i64.wrap ((ka (iX p.PC (kJ p (nth p.py.ag (kq p now)).res) ⟨0,0,1⟩).1).bh+held p),(ka (iX p.PC (kJ p (nth p.py.ag (kq p now)).res) ⟨0,0,1⟩).1).ib,(ka (iX p.PC (kJ p (nth p.py.ag (kq p now)).res) ⟨0,0,1⟩).1).ij⟩ ⟨p.hY.bh,p.hY.ib,i64.wrap (p.hY.ij+1)⟩=_
  rw [s1,s2,s3,iE (n:=p.hY.ij+1) (by omega) (by omega)];unfold iV;simp only;rw [show (ka p.PC).ij - 1+(p.hY.ij+1)=(ka p.PC).ij+p.hY.ij by omega]
theorem zn {α β:Type} {p q:Nat→α→Bool} {h:Nat→α→β}:∀ (l:List α) (k:Nat),(∀ i y,l[i]?=some y→p (k+i) y=q (k+i) y)→kP p h k l=kP q h k l
  | [],_,_=>rfl
  | y::l,k,e=>by
    have h1:=e 0 y rfl
    have h2:=zn (p:=p) (q:=q) (h:=h) l (k+1) fun i z hz=>by
      have:=e (i+1) z hz
      rwa [show k+1+i=k+(i+1) by omega]
    unfold kP;rw [Nat.add_zero] at h1;rw [h1,h2]
theorem KC {p x:cd} {now:Int} (hp:iO p=true) (hx:iO x=true) (h:x.py.ag.map lK=p.py.ag.map lK):threads x now=threads p now:=by
  have ar:=kf hp;have ax:=kf hx;unfold threads;rw [if_pos hp,if_pos hx,HN ax ar h];refine zn _ 0 fun i y hy=>?_;have hi:=jl hy;have hlen:=(uV ar now).1;have h10:=ax.len;have h10p:=ar.len;rw [Nat.zero_add,show (nth x.py.ag (i:Int)).Pz=(nth p.py.ag (i:Int)).Pz from congrArg Sk.Pz (rG h (by omega) (by omega))]
theorem Cl {α:Type} {p:Nat→α→Bool}:∀ (l:List α) (k:Nat),(kP p (fun k _=>(k:Int)) k l).Pairwise (·<·)∧∀ y,y ∈ kP p (fun k _=>(k:Int)) k l→(k:Int)≤y
  | [],_=>by simp [kP]
  | z::l,k=>by
    obtain ⟨a,b⟩:=Cl (p:=p) l (k+1);unfold kP;split
    · refine ⟨List.pairwise_cons.2 ⟨fun y hy=>?_,a⟩,fun y hy=>?_⟩
      · have:=b y hy;omega
      · rcases List.mem_cons.1 hy with rfl | hy
        · exact Int.le_refl _
        · have:=b y hy;omega
    · exact ⟨a,fun y hy=>by have:=b y hy;omega⟩
theorem yG (p:cd) (now:Int):(runnable p now).Pairwise (·<·):=by
  unfold runnable;refine List.Pairwise.filter _ ?_;unfold threads;split
  · exact (Cl _ 0).1
  · exact List.Pairwise.nil
theorem J5 {last:Int}:∀ (l:List Int) (a b:Int),l.Pairwise (·<·)→(∀ y,y ∈ l→0≤y)→(0≤a→∀ y,y ∈ l→a<y)→(0≤b→∀ y,y ∈ l→b<y) →
    xH last (-1) a b l=if 0≤b then b else match l.find? (fun y=>decide (y > last)) with | some y=>y | none=>if 0≤a then a else l.headD a
  | [],a,b,_,_,_,_=>by
    unfold xH
    by_cases hb:0≤b
    · simp [hb]
    · simp only [List.find?_nil,List.headD_nil,if_neg hb];rw [show decide (b ≥ 0)=false from decide_eq_false hb];simp
  | y::l,a,b,hp,h0,ha,hb=>by
    obtain ⟨h1,h2⟩:=List.pairwise_cons.1 hp;have y0:=h0 y (by simp);have g0:∀ z,z ∈ l→0≤z:=fun z hz=>h0 z (by simp [hz]);unfold xH;rw [show decide (y<0)=false from decide_eq_false (by omega),show (y==(-1:Int))=false from by rw [beq_eq_false_iff_ne];omega];simp only [Bool.false_eq_true,if_false]
    have ea:(if decide (a<0) || decide (y<a) then y else a)=if 0≤a then a else y:=by
      by_cases q:0≤a
      · have:=ha q y (by simp);rw [if_pos q,show decide (a<0)=false from decide_eq_false (by omega),show decide (y<a)=false from decide_eq_false (by omega)];rfl
      · rw [if_neg q,show decide (a<0)=true from decide_eq_true (by omega)];rfl
    have eb:(if decide (y > last)&&(decide (b<0) || decide (y<b)) then y else b)=if 0≤b then b else if y > last then y else b:=by
      by_cases q:0≤b
      · have:=hb q y (by simp);rw [if_pos q,show decide (b<0)=false from decide_eq_false (by omega),show decide (y<b)=false from decide_eq_false (by omega)];simp
      · rw [if_neg q,show decide (b<0)=true from decide_eq_true (by omega)];simp
    rw [ea,eb]
    rw [J5 l _ _ h2 g0 (fun _ z hz=>by split<;>rename_i q;exact ha q z (by simp [hz]);exact h1 z hz) (fun q2 z hz=>by
      by_cases q:0≤b
      · rw [if_pos q];exact hb q z (by simp [hz])
      · rw [if_neg q] at q2 ⊢
        by_cases q3:y > last
        · rw [if_pos q3];exact h1 z hz
        · rw [if_neg q3] at q2;exact absurd q2 q)]
    by_cases q:0≤b
    · simp [q]
    · simp only [if_neg q,List.find?_cons]
      by_cases q3:y > last
      · simp [q3,y0]
      · rw [if_neg q3,if_neg q,show decide (y > last)=false from decide_eq_false q3];simp only
        cases l.find? (fun y=>decide (y > last)) with
        | some z=>rfl
        | none =>
          simp only [List.headD_cons]
          by_cases qa:0≤a
          · simp [qa]
          · simp [qa,y0]
def ring (l:List Int) (k:Nat):Int:=nth l ((k % l.length:Nat):Int)
theorem Ky {l:List Int} (h:0<l.length) (k:Nat):ring l k ∈ l:=by
  have:=Nat.mod_lt k h;exact lh (by omega) (by omega)
theorem Kf {l:List Int} (hp:l.Pairwise (·<·)) {k i j:Nat} (hj:j<i) (hi:i<l.length) (e:ring l (k+i)=ring l (k+j)):False:=by
  have hn:0<l.length:=by omega
  have a1:=Nat.mod_lt (k+i) hn;have a2:=Nat.mod_lt (k+j) hn;have g1:=jM (l:=l) (i:=(((k+i) % l.length:Nat):Int)) (by omega) (by omega);have g2:=jM (l:=l) (i:=(((k+j) % l.length:Nat):Int)) (by omega) (by omega);have e:nth l (((k+i) % l.length:Nat):Int)=nth l (((k+j) % l.length:Nat):Int):=e;rw [e] at g1;rw [Int.toNat_natCast] at g1 g2;rw [List.getElem?_eq_getElem a1] at g1;rw [List.getElem?_eq_getElem a2] at g2;have hpw:=List.pairwise_iff_getElem.1 hp
  have e3:(k+i) % l.length=(k+j) % l.length:=by
    rcases Nat.lt_trichotomy ((k+i) % l.length) ((k+j) % l.length) with q | q | q
    · have:=hpw _ _ a1 a2 q;rw [Option.some.inj g1,Option.some.inj g2] at this;omega
    · exact q
    · have:=hpw _ _ a2 a1 q;rw [Option.some.inj g1,Option.some.inj g2] at this;omega
  have e4:=Nat.sub_mod_eq_zero_of_mod_eq e3;rw [show k+i - (k+j)=i - j by omega,Nat.mod_eq_of_lt (by omega)] at e4;omega
theorem IT {l:List Int} (hp:l.Pairwise (·<·)) (h0:∀ y,y ∈ l→0≤y) (hn:0<l.length) (k:Nat):tE l (ring l k) (-1)=ring l (k+1):=by
  have a1:=Nat.mod_lt k hn;have g1:=jM (l:=l) (i:=((k % l.length:Nat):Int)) (by omega) (by omega);rw [Int.toNat_natCast,List.getElem?_eq_getElem a1] at g1;have hpw:=List.pairwise_iff_getElem.1 hp;unfold tE;rw [J5 l (-1) (-1) hp h0 (fun q=>absurd q (by decide)) (fun q=>absurd q (by decide))];rw [if_neg (show ¬ (0:Int)≤-1 by decide)];have er:ring l k=l[k % l.length]:=(Option.some.inj g1).symm
  by_cases hl:k % l.length+1<l.length
  · have e2:(k+1) % l.length=k % l.length+1:=by rw [Nat.add_mod,Nat.mod_eq_of_lt (show 1<l.length by omega),Nat.mod_eq_of_lt hl]
    have hf:l.find? (fun y=>decide (y > ring l k))=some l[k % l.length+1]:=by
      rw [List.find?_eq_some_iff_getElem];refine ⟨by rw [er];exact decide_eq_true (hpw _ _ a1 hl (by omega)),k % l.length+1,hl,rfl,fun j hj=>?_⟩;rw [er]
      by_cases q:j=k % l.length
      · subst q;simp
      · have:=hpw j (k % l.length) (by omega) a1 (by omega);simp;omega
    rw [hf];have g2:=jM (l:=l) (i:=(((k+1) % l.length:Nat):Int)) (by omega) (by omega);rw [Int.toNat_natCast,e2,List.getElem?_eq_getElem hl] at g2
    have:ring l (k+1)=l[k % l.length+1]:=by unfold ring;rw [e2];exact (Option.some.inj g2).symm
    rw [this]
  · have e2:(k+1) % l.length=0:=by
      rw [Nat.add_mod]
      by_cases h1:l.length=1
      · rw [h1,Nat.mod_one]
      · rw [Nat.mod_eq_of_lt (show 1<l.length by omega),show k % l.length+1=l.length by omega,Nat.mod_self]
    have hf:l.find? (fun y=>decide (y > ring l k))=none:=by
      rw [List.find?_eq_none];intro y hy;obtain ⟨j,hj,rfl⟩:=List.getElem_of_mem hy;rw [er]
      by_cases q:j=k % l.length
      · subst q;simp
      · have:=hpw j (k % l.length) hj a1 (by omega);simp;omega
    rw [hf];simp only [if_neg (show ¬ (0:Int)≤-1 by decide)];unfold ring;rw [e2]
    cases l with
    | nil=>simp at hn
    | cons y l=>rfl
theorem Kw {t:List im} {f:Int} (h:(iX t f ⟨0,0,1⟩).2=true):(∀ r,iW (iX t f ⟨0,0,1⟩).1 r=iW t r)∧∀ r,0≤r→r≤4→(nth t r).iI.ij - 1≤(nth (iX t f ⟨0,0,1⟩).1 r).iI.ij∧(nth (iX t f ⟨0,0,1⟩).1 r).iI.ij≤(nth t r).iI.ij:=by
  obtain ⟨h1,h2⟩:=tC h;have hl:=(jG.1 h1).len;obtain ⟨f0,f4⟩:=kM h2;unfold iX at *;rw [h1,h2] at *;simp only [Bool.and_self,if_true] at *;cases hf:lI ⟨0,0,1⟩ (nth t f).iI
  · rw [hf] at h;simp at h
  · simp only [if_true];refine ⟨AM f0 (by omega) _,fun r r0 r4=>?_⟩;rw [wJ f0 (by omega) r0];split
    · rename_i e;subst e
      show (nth t f).iI.ij - 1≤(uY (nth t f).iI ⟨0,0,1⟩).ij∧(uY (nth t f).iI ⟨0,0,1⟩).ij≤_
      rw [(Dx hf).1];exact ⟨Int.le_refl _,by show (nth t f).iI.ij - 1≤_;omega⟩
    · omega
structure xC (p x:cd) (l:List Int) (k0 i:Nat) (who:List Int):Prop where
  ok:iO x=true
  w:wP x
  sz:iH x≤20000+100 * i
  sk:x.py.ag.map lK=p.py.ag.map lK
  wt:∀ k,0≤k→k≤9→(nth x.py.ag k).PK=(nth p.py.ag k).PK∧(nth x.py.ag k).res=(nth p.py.ag k).res
  iM:∀ k,0≤k→k≤9→k ∉ who→(nth x.py.ag k).iM=(nth p.py.ag k).iM
  lv:∀ r,iW x.PC r=iW p.PC r
  iI:∀ r,0≤r→r≤4→(nth p.PC r).iI.ij - i≤(nth x.PC r).iI.ij∧(nth x.PC r).iI.ij≤(nth p.PC r).iI.ij
  sp:x.hY.ij=p.hY.ij+i
  wa:x.PI=0
  nx:tE l x.PJ (-1)=ring l (k0+i)
  wh:∀ s,s ∈ who→∃ j,j<i∧s=ring l (k0+j)
  wl:who.length=i
  sum:kW x=kW p
theorem xC.res {p x:cd} {l who:List Int} {k0 i:Nat} (h:xC p x l k0 i who) (hp:iO p=true) {k:Int} (k0:0≤k) (k9:k≤9):(si p k).ij - i≤(si x k).ij∧(si x k).ij≤(si p k).ij:=by
  have e:kJ x (nth x.py.ag k).res=kJ p (nth p.py.ag k).res:=by
    rw [(h.wt k k0 k9).2];unfold kJ;rw [kY h.ok,kY hp,h.lv]
  unfold si;rw [e];obtain ⟨r0,r4⟩:=wM p (nth p.py.ag k).res;exact h.iI _ r0 r4
theorem xC.less {p x:cd} {now:Int} {l who:List Int} {k0 i:Nat} (h:xC p x l k0 i who) (hp:iO p=true) {y:Int} (hy:y ∈ threads p now) (hm:vm x y=true):vm p y=true:=by
  obtain ⟨y0,y9⟩:=tY hy;have hr:=h.res hp y0 y9;unfold vm at *;rw [(h.wt y y0 y9).1] at hm;simp only [PY,decide_eq_true_eq] at *;exact ⟨hm.1,by omega⟩
theorem xC.list {p x:cd} {now:Int} {who:List Int} {k0 i:Nat} (h:xC p x (runnable p now) k0 i who) (hp:iO p=true) (hi:i<(runnable p now).length) (hc:∀ y,y ∈ runnable p now→((runnable p now).length:Int)≤(si p y).ij):runnable x now=runnable p now:=by
  show (threads x now).filter (vm x)=(threads p now).filter (vm p)
  rw [KC hp h.ok h.sk];refine List.filter_congr fun y hy=>?_;rw [Bool.eq_iff_iff];refine ⟨h.less hp hy,fun q=>?_⟩;have hm:y ∈ runnable p now:=List.mem_filter.2 ⟨hy,q⟩;obtain ⟨y0,y9⟩:=tY hy;have hr:=h.res hp y0 y9;have:=hc y hm;unfold vm at *;rw [(h.wt y y0 y9).1];simp only [PY,decide_eq_true_eq] at *;exact ⟨q.1,by omega⟩
theorem xC.step {p x:cd} {now:Int} {who:List Int} {k0 i:Nat} (h:xC p x (runnable p now) k0 i who) (hp:iO p=true) (hi:i<(runnable p now).length) (hc:∀ y,y ∈ runnable p now→((runnable p now).length:Int)≤(si p y).ij∧(nth p.py.ag y).iM+((runnable p now).length:Int)≤1000000)
    (hs:p.hY.ij+((runnable p now).length:Int)≤1000000) :
    (mZ x now).2=ring (runnable p now) (k0+i)∧ring (runnable p now) (k0+i) ∉ who∧xC p (mZ x now).1 (runnable p now) k0 (i+1) (who++[ring (runnable p now) (k0+i)]):=by
  have hl:=h.list hp hi fun y hy=>(hc y hy).1
  have hn:0<(runnable p now).length:=by omega
  have hm:=Ky hn (k0+i);obtain ⟨r0,r9⟩:=tY (List.mem_filter.1 hm).1
  have e:kq x now=ring (runnable p now) (k0+i):=by
    unfold kq;rw [hl,h.wa];exact h.nx
  have hnot:ring (runnable p now) (k0+i) ∉ who:=fun q=>by
    obtain ⟨j,hj,ej⟩:=h.wh _ q;exact Kf (yG p now) hj hi ej
  have hran:=h.iM _ r0 r9 hnot;have hcy:=hc _ hm
  have hnr:sg x now=false:=by
    unfold sg;rw [e,h.sp,hran];simp only [Bool.or_eq_false_iff,decide_eq_false_iff_not];omega
  have ax:=kf h.ok;have hlen:=ax.len;have hpay:=BG h.ok (qg hnr);obtain ⟨b1,b2⟩:=Kw hpay;have hrs:=Jl x now;have hsz:=h.sz;rw [IA h.ok hnr] at hrs ⊢;dsimp only at *;have hsp:=vr (oC h.ok)
  have hset:∀ k,0≤k→nth (tZ x now).py.ag k=if kq x now=k then r7 (nth x.py.ag (kq x now)) else nth x.py.ag k:=fun k hk=>tH (by omega) (by omega) hk
  refine ⟨e,hnot,Bf h.ok hnr,?_,by omega,(yV h.ok hnr).1.trans h.sk,?_,?_,?_,?_,?_,rfl,?_,?_,?_,(F5 h.ok hnr).trans h.sum⟩
  · exact kR h.w (show nn (nth x.py.ag (kq x now)) from h.w _ (ax.at (by omega) (by omega)).2)
  · intro k q0 q9;rw [hset k q0];split
    · rename_i ek;rw [← ek];exact h.wt _ (by omega) (by omega)
    · exact h.wt k q0 q9
  · intro k q0 q9 hk;rw [hset k q0,if_neg (fun ek=>hk (by rw [← ek,e];simp))];exact h.iM k q0 q9 fun q=>hk (by simp [q])
  · intro r;exact (b1 r).trans (h.lv r)
  · intro r q0 q4;have a:=b2 r q0 q4;have b:=h.iI r q0 q4
    show (nth p.PC r).iI.ij - ((i+1:Nat):Int)≤(nth (iX x.PC (kJ x (nth x.py.ag (kq x now)).res) ⟨0,0,1⟩).1 r).iI.ij∧(nth (iX x.PC (kJ x (nth x.py.ag (kq x now)).res) ⟨0,0,1⟩).1 r).iI.ij≤_
    omega
  · show i64.wrap (x.hY.ij+1)=_
    rw [iE (by omega) (by omega),h.sp];omega
  · show tE (runnable p now) (kq x now) (-1)=_
    rw [e];exact IT (yG p now) (fun y hy=>(tY (List.mem_filter.1 hy).1).1) hn (k0+i)
  · intro s hs
    rcases List.mem_append.1 hs with q | q
    · obtain ⟨j,hj,ej⟩:=h.wh s q;exact ⟨j,by omega,ej⟩
    · rw [List.mem_singleton] at q;exact ⟨i,by omega,q⟩
  · simp [h.wl]
end Go.Kx
