import Derived.Test.YtlcgibcdiikheaaGreatLGcOk
namespace Go.Kx
open Go
open Go.IntKind (i64)
set_option linter.unusedVariables false
set_option linter.unusedSimpArgs false
set_option maxRecDepth 10000
theorem HC {l:List gE} (h:wA l) (i:Int):n8 (nth l i):=by
  unfold nth
  cases e:l[i.toNat]? with
  | none=>show (-9223372036854775808:Int)≤0;decide
  | some o=>exact h o (List.mem_of_getElem? e)
theorem xZ {p:cd} (h:wP p) (now:Int):wP (jB p now):=by
  unfold jB;split
  · show wA (qf p now)
    unfold qf;split
    · exact lz h (HC h _)
    · exact h
  · exact h
theorem xV {p:cd} (h:wP p) (me now:Int):wP (jQ p me now):=by
  unfold jQ;split
  · intro o ho;obtain ⟨x,hx,rfl⟩:=List.mem_map.1 (show o ∈ p.heap.ag.map _ from ho);split
    · show (-9223372036854775808:Int)≤0;decide
    · exact h x hx
  · exact h
theorem PT {p:cd} (h:wP p) (now:Int):wP (kG p now).1:=by
  unfold kG;split
  · split
    · exact h
    · exact lz h (HC h (jC p now))
  · exact h
def kT (p:cd) (i now:Int):cd:=(kh (jQ (jB p now) i now) now 3).1
def kA (n:Nat) (p:cd) (i now:Int):cd:=bif Int.tmod now (n:Int)==i then (kG (kT p i now) now).1 else kT p i now
def kY (n:Nat) (k:Nat) (w:g7):g7:=g7.mk (hZ w (k:Int)).Q1 ((hZ w (k:Int)).parts.set k (kA n (nth (hZ w (k:Int)).parts (k:Int)) (k:Int) (hZ w (k:Int)).Q1))
def tick (w:g7):g7:=if jj w&&!(w.Q1==1000000) then foldI (fun k t (_:cd)=>kY w.parts.length k t) 0 (g7.mk (i64.wrap (w.Q1+1)) w.parts) w.parts else w
theorem yv {p:cd} {b:Nat} (hb:ij p≤b) (h2:b≤2000000) (hw:wP p) (i now:Int):ij (kT p i now)≤b+1200∧wP (kT p i now):=by
  have h1:=Cl p now;have h3:=Co (jB p now) i now;obtain ⟨a,c⟩:=I8 (p:=jQ (jB p now) i now) (by omega) (xV (xZ hw now) i now) now 3;exact ⟨by show ij (kh (jQ (jB p now) i now) now 3).1≤_;omega,c⟩
theorem xG {n:Nat} {p:cd} {b:Nat} (hb:ij p≤b) (h2:b≤2000000) (hw:wP p) (i now:Int):ij (kA n p i now)≤b+1300∧wP (kA n p i now):=by
  obtain ⟨a,c⟩:=yv hb h2 hw i now;unfold kA;cases Int.tmod now (n:Int)==i
  · exact ⟨by simp only [Q9];omega,c⟩
  · have:=Jh (kT p i now) now;exact ⟨by simp only [Rb];omega,PT c now⟩
theorem Ev:∀ {l:List cd} {ts:List (List g6)},ts.map List.length=(kr l).map List.length→(je l ts).length=l.length∧∀ q,q ∈ je l ts→∃ p,p ∈ l∧ij q=ij p∧q.heap=p.heap
  | [],[],_=>⟨rfl,fun _ h=>absurd h (by simp [je])⟩
  | [],_::_,h=>by simp [kr] at h
  | _::_,[],h=>by simp [kr] at h
  | p::l,t::ts,h=>by
    simp only [kr,List.map_cons,List.cons.injEq] at h;obtain ⟨i1,i2⟩:=Ev (l:=l) (ts:=ts) h.2;refine ⟨by show (nV p t::je l ts).length=_;simp [i1],fun q hq=>?_⟩
    rcases List.mem_cons.1 (show q ∈ nV p t::je l ts from hq) with rfl | hq
    · exact ⟨p,List.mem_cons_self,by unfold ij nV;simp only [h.1],rfl⟩
    · obtain ⟨y,hy,e⟩:=i2 q hq;exact ⟨y,List.mem_cons_of_mem _ hy,e⟩
theorem zJ (w:g7) (p:Int):(hZ w p).Q1=w.Q1∧(hZ w p).parts.length=w.parts.length∧∀ q,q ∈ (hZ w p).parts→∃ p,p ∈ w.parts∧ij q=ij p∧q.heap=p.heap:=by
  unfold hZ;split
  · refine ⟨rfl,Ev ?_⟩;have h:(o8 (j6 w.parts) p (nth w.parts p).gR).map (fun t=>t.list.length)=(j6 w.parts).map (fun t=>t.list.length):=vB p (nth w.parts p).gR (j6 w.parts);unfold jf;rw [List.map_map];refine Eq.trans (show _=(o8 (j6 w.parts) p (nth w.parts p).gR).map (fun t=>t.list.length) from rfl) (h.trans ?_);unfold j6;rw [List.map_map];rfl
  · exact ⟨rfl,rfl,fun q hq=>⟨q,hq,rfl,rfl⟩⟩
structure tb (n:Nat) (k:Nat) (t:g7):Prop where
  len:t.parts.length=n
  small:n≤3
  sz:∀ p,p ∈ t.parts→ij p≤1048576+1300 * k∧wP p
theorem tb.qn {n k:Nat} {t:g7} (h:tb n k t) (hk:k≤3):iY ij t.parts<gX:=by
  have hB:(16777216:Nat)=gX:=rfl;have h1:oU ij t.parts≤(1048576+1300 * 3) * t.parts.length:=uy fun y hy=>Nat.le_trans (h.sz y hy).1 (by omega);have h2:=h.len;have h3:=h.small;have h4:(1048576+1300 * 3) * t.parts.length≤(1048576+1300 * 3) * 3:=Nat.mul_le_mul_left _ (by omega);unfold iY;omega
theorem tb.w {n k:Nat} {t:g7} (h:tb n k t):wW t.parts:=fun p hp=>(h.sz p hp).2
theorem tb.gR {n k:Nat} {t:g7} (h:tb n k t) (p:Int):tb n k (hZ t p):=by
  obtain ⟨_,h2,h3⟩:=zJ t p;refine ⟨h2.trans h.len,h.small,fun q hq=>?_⟩;obtain ⟨y,hy,e1,e2⟩:=h3 q hq;obtain ⟨a,b⟩:=h.sz y hy;exact ⟨by omega,by unfold wP at *;rw [e2];exact b⟩
theorem tb.step {n k:Nat} {t:g7} (h:tb n k t) (hk:k<n):tb n (k+1) (kY n k t):=by
  have hT:=h.gR (k:Int);have hs:=hT.small;refine ⟨by show ((hZ t (k:Int)).parts.set k _).length=n;rw [List.length_set];exact hT.len,hT.small,fun q hq=>?_⟩
  rcases List.mem_or_eq_of_mem_set (show q ∈ (hZ t (k:Int)).parts.set k _ from hq) with h1 | h1
  · obtain ⟨a,b⟩:=hT.sz q h1;exact ⟨by omega,b⟩
  · subst h1;have hl:=hT.len;obtain ⟨a,b⟩:=hT.sz _ (j7 (l:=(hZ t (k:Int)).parts) (i:=(k:Int)) (by omega) (by omega));obtain ⟨c,d⟩:=xG (n:=n) a (by omega) b (k:Int) (hZ t (k:Int)).Q1;exact ⟨by omega,d⟩
theorem FE {N:Nat} (hN:gX≤N) {w:g7} {body:Int×Int×List cd→Option ((Int×Int×List cd)⊕(Int×Int×List cd))} (h0:tb w.parts.length 0 (g7.mk (i64.wrap (w.Q1+1)) w.parts))
    (hs:∀ (k:Nat) (t:g7),k<w.parts.length→k<gX→tb w.parts.length k t→body ((k:Int),t.Q1,t.parts)=some (.inl (((k+1:Nat):Int),(kY w.parts.length k t).Q1,(kY w.parts.length k t).parts)))
    (he:∀ t:g7,tb w.parts.length w.parts.length t→body ((w.parts.length:Int),t.Q1,t.parts)=some (.inr ((w.parts.length:Int),t.Q1,t.parts))) :
    iter body N (0,i64.wrap (w.Q1+1),w.parts)=some ((w.parts.length:Int),(foldI (fun k t (_:cd)=>kY w.parts.length k t) 0 (g7.mk (i64.wrap (w.Q1+1)) w.parts) w.parts).Q1,(foldI (fun k t (_:cd)=>kY w.parts.length k t) 0 (g7.mk (i64.wrap (w.Q1+1)) w.parts) w.parts).parts):=by
  have hB:(16777216:Nat)=gX:=rfl;have h3:=h0.small
  exact kO w.parts (fun (k:Nat) (t:g7)=>((k:Int),t.Q1,t.parts)) (fun k t _=>kY w.parts.length k t) (fun t=>((w.parts.length:Int),t.Q1,t.parts)) (tb w.parts.length)
    (fun k t y _ hk hI=>⟨hs k t hk (by omega) hI,hI.step hk⟩) he (Nat.lt_of_lt_of_le (show w.parts.length<gX by omega) hN) h0
theorem Oa {n:Int} (h:n ≠ 0):dz n=some ():=by unfold dz;rw [if_neg h]
theorem Cr {w:g7} (h:jj w=true):1≤w.parts.length∧w.parts.length≤3∧0≤w.Q1∧w.Q1≤1000000:=by
  unfold jj at h;simp only [Rg,ir] at h;omega
theorem Ng {N:Nat} (hN:gX≤N) {w:g7} (hb:iY ij w.parts<gX) (hW:wW w.parts) (hT0:jj w=true→tb w.parts.length 0 (g7.mk (i64.wrap (w.Q1+1)) w.parts)):xc N w=some (tick w):=by
  have hB:(16777216:Nat)=gX:=rfl;unfold xc tick;simp only [Ak hN hb,CP hN hb,Q8,lM];cases hw:jj w
  · rfl
  cases hm:w.Q1==1000000
  case true=>rfl
  obtain ⟨n1,n3,_,_⟩:=Cr hw;simp only [Rd,Bool.not_false,Bool.or_self,Q9,Bool.and_self,if_true];rw [FE hN (hT0 hw)]
  · rfl
  · intro k t hk hkB hI;have hT:=hI.gR (k:Int);have hl:=hT.len;obtain ⟨a,b⟩:=hT.sz _ (j7 (l:=(hZ t (k:Int)).parts) (i:=(k:Int)) (by omega) (by omega));obtain ⟨c,d⟩:=yv a (by omega) b (k:Int) (hZ t (k:Int)).Q1;have q1:=Cl (nth (hZ t (k:Int)).parts (k:Int)) (hZ t (k:Int)).Q1;have q2:=Co (jB (nth (hZ t (k:Int)).parts (k:Int)) (hZ t (k:Int)).Q1) (k:Int) (hZ t (k:Int)).Q1
    simp only [iX hk,Rb,show g7.mk t.Q1 t.parts=t from rfl,Ig hN (hI.qn (by omega)),Q8,jh (l:=(hZ t (k:Int)).parts) (i:=(k:Int)) (by omega) (by omega),
      H3 hN (p:=nth (hZ t (k:Int)).parts (k:Int)) (by omega),IA hN (p:=jB (nth (hZ t (k:Int)).parts (k:Int)) (hZ t (k:Int)).Q1) (by omega)]
    have e1:=Dq hN (p:=jQ (jB (nth (hZ t (k:Int)).parts (k:Int)) (hZ t (k:Int)).Q1) (k:Int) (hZ t (k:Int)).Q1) (by omega) (xV (xZ b _) _ _) (hZ t (k:Int)).Q1 3;have e2:=Jy hN (p:=kT (nth (hZ t (k:Int)).parts (k:Int)) (k:Int) (hZ t (k:Int)).Q1) (by omega) (hZ t (k:Int)).Q1;unfold kT at e2;have e3:((k:Int)==Int.tmod (hZ t (k:Int)).Q1 (w.parts.length:Int))=(Int.tmod (hZ t (k:Int)).Q1 (w.parts.length:Int)==(k:Int)):=Bool.beq_comm ..;refine Eq.trans (congrArg (fun x=>Option.bind x _) e1) ?_;simp only [Q8,Oa (show (w.parts.length:Int) ≠ 0 by omega),e2,e3,iZ hkB];unfold kY kA kT;generalize kG (kh (jQ (jB (nth (hZ t (k:Int)).parts (k:Int)) (hZ t (k:Int)).Q1) (k:Int) (hZ t (k:Int)).Q1) (hZ t (k:Int)).Q1 3).1 (hZ t (k:Int)).Q1=R;generalize kh (jQ (jB (nth (hZ t (k:Int)).parts (k:Int)) (hZ t (k:Int)).Q1) (k:Int) (hZ t (k:Int)).Q1) (hZ t (k:Int)).Q1 3=C;have hid:=jh (l:=(hZ t (k:Int)).parts) (i:=(k:Int)) (by omega) (by omega);generalize hZ t (k:Int)=X at hid ⊢;cases Int.tmod X.Q1 (w.parts.length:Int)==(k:Int)
    · simp only [Q9,Q8,hid,Int.toNat_natCast]
    · simp only [Rb,Q8,hid,Int.toNat_natCast]
  · intro t _;simp only [iW,Q9]
theorem N1 {N:Nat} (hN:gX≤N) {w:g7} (hb:iY ij w.parts<gX) (hW:wW w.parts) (hT0:jj w=true→tb w.parts.length 0 (g7.mk (i64.wrap (w.Q1+1)) w.parts)):wL N w=some (tick w):=by
  have hB:(16777216:Nat)=gX:=rfl;unfold wL tick;simp only [vF hN hb,xu hN hb hW,Q8,lM];cases hw:jj w
  · rfl
  obtain ⟨n1,n3,m0,m1⟩:=Cr hw
  have hge:decide (w.Q1 ≥ 1000000)=(w.Q1==1000000):=by
    by_cases h:w.Q1=1000000
    · simp [h]
    · rw [decide_eq_false (by omega)];simp [h]
  rw [hge];cases hm:w.Q1==1000000
  case true=>rfl
  simp only [Rd,Bool.not_false,Bool.or_self,Q9,Bool.and_self,if_true];rw [FE hN (hT0 hw)]
  · rfl
  · intro k t hk hkB hI;have hT:=hI.gR (k:Int);have hl:=hT.len;have hl2:=hI.len;obtain ⟨a,b⟩:=hT.sz _ (j7 (l:=(hZ t (k:Int)).parts) (i:=(k:Int)) (by omega) (by omega));obtain ⟨c,d⟩:=yv a (by omega) b (k:Int) (hZ t (k:Int)).Q1;have q1:=Cl (nth (hZ t (k:Int)).parts (k:Int)) (hZ t (k:Int)).Q1;have q2:=Co (jB (nth (hZ t (k:Int)).parts (k:Int)) (hZ t (k:Int)).Q1) (k:Int) (hZ t (k:Int)).Q1
    simp only [hl2,iX hk,Rb,show g7.mk t.Q1 t.parts=t from rfl,IW hN (hI.qn (by omega)) hI.w,Q8,jh (l:=(hZ t (k:Int)).parts) (i:=(k:Int)) (by omega) (by omega),
      IP hN (p:=nth (hZ t (k:Int)).parts (k:Int)) (by omega) b]
    have e0:=HV hN (p:=jB (nth (hZ t (k:Int)).parts (k:Int)) (hZ t (k:Int)).Q1) (by omega) (xZ b _) (k:Int) (hZ t (k:Int)).Q1;have e1:=Dl hN (p:=jQ (jB (nth (hZ t (k:Int)).parts (k:Int)) (hZ t (k:Int)).Q1) (k:Int) (hZ t (k:Int)).Q1) (by omega) (xV (xZ b _) _ _) (hZ t (k:Int)).Q1 3;have e2:=La hN (p:=kT (nth (hZ t (k:Int)).parts (k:Int)) (k:Int) (hZ t (k:Int)).Q1) (by omega) d (hZ t (k:Int)).Q1;unfold kT at e2;refine Eq.trans (congrArg (fun x=>Option.bind x _) e0) ?_;simp only [Q8,e1,hl,Oa (show (w.parts.length:Int) ≠ 0 by omega),e2,iZ hkB];unfold kY kA kT;generalize kG (kh (jQ (jB (nth (hZ t (k:Int)).parts (k:Int)) (hZ t (k:Int)).Q1) (k:Int) (hZ t (k:Int)).Q1) (hZ t (k:Int)).Q1 3).1 (hZ t (k:Int)).Q1=R;generalize kh (jQ (jB (nth (hZ t (k:Int)).parts (k:Int)) (hZ t (k:Int)).Q1) (k:Int) (hZ t (k:Int)).Q1) (hZ t (k:Int)).Q1 3=C;have hid:=jh (l:=(hZ t (k:Int)).parts) (i:=(k:Int)) (by omega) (by omega);generalize hZ t (k:Int)=X at hid ⊢;cases Int.tmod X.Q1 (w.parts.length:Int)==(k:Int)
    · simp only [Q9,Q8,hid,Int.toNat_natCast]
    · simp only [Rb,Q8,hid,Int.toNat_natCast]
  · intro t ht;simp only [ht.len,iW,Q9]
end Go.Kx
namespace Go.Kx
open Go
open Go.IntKind (i64)
set_option linter.unusedVariables false
set_option linter.unusedSimpArgs false
set_option maxRecDepth 10000
theorem MC {p q:cd} (hp:ik p=true) (hq:ik q=true) (h:kN q=kN p):sp q=sp p:=by
  rw [← (zW hp).1, ← (zW hq).1,h]
theorem Je {o:gE} (h:iN o=true) (hk:(o.py==0)=false) {t:Int} (h0:0≤t) (h1:t≤1000000):iN (nq o t)=true :=
  o6 h hk rfl rfl (mR h (yO hk)).1 rfl (ir.2 ⟨h0,h1⟩) rfl (show lZ o=true from nE h hk) rfl rfl rfl
theorem zu {p:cd} (h:ik p=true) (now:Int):ik (jB p now)=true∧sp (jB p now)=sp p:=by
  unfold jB;split
  · rename_i c;simp only [Rg,ir] at c;have ar:=iT h
    have key:Ar (qf p now)∧ll (qf p now)=ll p.heap.ag:=by
      unfold qf;cases v:decide (n7 p now ≥ 0)
      · exact ⟨ar,rfl⟩
      · simp only [if_true];have hv:=sB v;obtain ⟨v0,v9⟩:=ur hv;have hk:=(yq hv).1
        have hk0:((nth p.heap.ag (n7 p now)).py==0)=false:=by rw [hk];rfl
        refine ⟨ar.swap v0 v9 rfl rfl rfl (fun e=>?_) (Je (ar.ok _ (ar.at v0 v9).2) hk0 ?_ ?_),?_⟩
        · rw [e,ar.sv] at hk;exact absurd hk (by decide)
        · rw [ig (by omega) (by omega)];omega
        · rw [ig (by omega) (by omega)];omega
        · rw [uE v0 (by have:=ar.len;omega)]
          show _ - _+(nth p.heap.ag (n7 p now)).bh=_
          omega
    refine ⟨?_,?_⟩
    · have hA:=jJ.2 key.1;unfold ik kb pX at *;simp only [Rg] at h ⊢;obtain ⟨a,b,c,⟨_,d⟩,e,f,g1,g2,g3,g4,g5⟩:=h;exact ⟨a,b,c,⟨hA,d⟩,e,f,g1,g2,g3,by decide,g5⟩
    · unfold sp;dsimp only;rw [key.2]
  · exact ⟨h,rfl⟩
theorem xt {p:cd} (h:ik p=true) (me now:Int):ik (jQ p me now)=true∧sp (jQ p me now)=sp p:=by
  unfold jQ;split
  · exact ⟨MA h me now,MC h (MA h me now) (OE h me now)⟩
  · exact ⟨h,rfl⟩
theorem AL {p:cd} (h:ik p=true) (now:Int):ik (kG p now).1=true∧sp (kG p now).1=sp p∧(kG p now).1.QY=0:=by
  cases hr:pD p now
  · rw [KE h hr];exact ⟨Bp h hr,MC h (Bp h hr) (Ho h hr),rfl⟩
  · have e:kG p now=(cd.mk p.QQ p.own p.QR p.heap p.gR p.QZ 0 p.gP p.hY p.QX, -1):=by
      unfold kG;rw [if_pos h,hr];rfl
    rw [e];refine ⟨?_,rfl,rfl⟩;unfold ik pX at *;simp only [Rg] at h ⊢;obtain ⟨a,b,c,d,e,f,g1,g2,g3⟩:=h;exact ⟨a,b,c,d,e,f,g1,show ic 0 0 10=true by decide,g3⟩
structure ot (p q:cd):Prop where
  QQ:q.QQ=p.QQ
  own:q.own=p.own
  QX:q.QX=p.QX
theorem ot.refl (p:cd):ot p p:=⟨rfl,rfl,rfl⟩
theorem ot.trans {p q r:cd} (h:ot p q) (k:ot q r):ot p r:=⟨k.QQ.trans h.QQ,k.own.trans h.own,k.QX.trans h.QX⟩
theorem OL (p:cd) (now:Int):ot p (jB p now):=by unfold jB;split<;>exact ⟨rfl,rfl,rfl⟩
theorem Pm (p:cd) (me now:Int):ot p (jQ p me now):=by unfold jQ;split<;>exact ⟨rfl,rfl,rfl⟩
theorem JJ (p:cd) (now n:Int):ot p (kh p now n).1:=by unfold kh;split<;>exact ⟨rfl,rfl,rfl⟩
theorem PJ (p:cd) (now:Int):ot p (kG p now).1:=by
  unfold kG;split
  · split<;>exact ⟨rfl,rfl,rfl⟩
  · exact ⟨rfl,rfl,rfl⟩
theorem DG {n:Nat} {p:cd} (h:ik p=true) (hw:wP p) (hs:(sp p).bh≤1000000) (i now:Int):ik (kA n p i now)=true∧sp (kA n p i now)=sp p∧ot p (kA n p i now)∧(Int.tmod now (n:Int)=i→(kA n p i now).QY=0):=by
  obtain ⟨k1,k2⟩:=zu h now;obtain ⟨w1,w2⟩:=xt k1 i now;have e:sp (jQ (jB p now) i now)=sp p:=w2.trans k2;obtain ⟨c1,c2⟩:=wY w1 (xV (xZ hw now) i now) (by rw [e];exact hs) now 3;have kk:ot p (kT p i now):=((OL p now).trans (Pm _ i now)).trans (JJ _ now 3);have m1:ik (kT p i now)=true:=c1;have m2:sp (kT p i now)=sp p:=c2.trans e;unfold kA;cases hc:Int.tmod now (n:Int)==i
  · exact ⟨m1,m2,kk,fun q=>by rw [q] at hc;simp at hc⟩
  · obtain ⟨r1,r2,r3⟩:=AL m1 now;exact ⟨r1,r2.trans m2,kk.trans (PJ _ now),fun _=>r3⟩
def nW (f:gT→Int):List (List g6)→Int
  | []=>0
  | t::l=>iS f t+nW f l
theorem AO (f:gT→Int):∀ (l:List (List g6)) (k:Nat) (y z:List g6),l[k]?=some y→nW f (l.set k z)=nW f l - iS f y+iS f z
  | [],k,y,z,h=>by simp at h
  | x::l,0,y,z,h=>by
    simp at h;subst h
    show iS f z+nW f l=(iS f x+nW f l) - iS f x+iS f z
    omega
  | x::l,k+1,y,z,h=>by
    show iS f x+nW f (l.set k z)=iS f x+nW f l - iS f y+iS f z
    rw [AO f l k y z (by simpa using h)];omega
theorem Oz {ts:List iB} {p:Int} (h0:0≤p) (h1:p<(ts.length:Int)):(jf ts)[p.toNat]?=some (nth ts p).list:=by
  unfold jf;rw [List.getElem?_map,jv h0 h1];rfl
theorem OY {ts:List iB} (k:Nat) (t:List g6):jf (ts.set k (iB.mk t))=(jf ts).set k t:=by
  unfold jf;rw [List.map_set]
theorem L9 {ts:List iB} {i j:Int} {z:iB} (h0:0≤i) (h1:i<(ts.length:Int)) (hj:0≤j):nth (ts.set i.toNat z) j=if i=j then z else nth ts j:=by
  unfold nth
  by_cases e:i=j
  · subst e;rw [if_pos rfl,List.getElem?_set_self (by omega)];rfl
  · rw [if_neg e,List.getElem?_set_ne (by omega)]
structure Tk (ts us:List iB):Prop where
  ok:l8 us=true
  pg:nW gT.bh (jf us)=nW gT.bh (jf ts)
  rt:nW gT.gS (jf us)=nW gT.gS (jf ts)
  cp:nW gT.gW (jf us)=nW gT.gW (jf ts)
theorem JM {ts:List iB} (h:l8 ts=true) (p:Int) (t:i7):Tk ts (k8 ts p t).1:=by
  unfold k8;split
  · rename_i c;rw [Rg] at c;obtain ⟨c1,c2⟩:=c;obtain ⟨_,_,⟨p0,p1⟩,⟨q0,q1⟩,_⟩:=vg c1;obtain ⟨k1,k2,k3⟩:=vn (KY c1);have e1:=k3 gT.bh fun _ _=>rfl;have e2:=k3 gT.gS fun _ _=>rfl;have e3:=k3 gT.gW fun _ _=>rfl;unfold nh at c2;have hpl:=vu ts p t;have hpt:k6 ts p t=ts.set p.toNat (iB.mk (iQ (nth ts p).list t.res (lG t.kH (sW ts p t))).1):=rfl
    have hq:jD (nth (k6 ts p t) t.jz).list=true:=by
      rw [hpt,L9 p0 p1 q0];split
      · exact jL.2 k1
      · exact zN h q0 q1
    have hT:=jL.1 hq;obtain ⟨t1,t2,t3⟩:=hT.iS;have hS:=iR.1 hT.sum;rw [t1,t2,t3] at hS;have ha:=iR.1 k2
    have hts:jU (nth (k6 ts p t) t.jz).list=⟨iS gT.bh (nth (k6 ts p t) t.jz).list,iS gT.gS (nth (k6 ts p t) t.jz).list,iS gT.gW (nth (k6 ts p t) t.jz).list⟩:=by
      unfold jU;rw [if_pos hq, ← t1, ← t2, ← t3]
    have hfit:iS gT.bh (nth (k6 ts p t) t.jz).list+(lG t.kH (sW ts p t)).bh≤1000000∧iS gT.gS (nth (k6 ts p t) t.jz).list+(lG t.kH (sW ts p t)).gS≤1000000∧iS gT.gW (nth (k6 ts p t) t.jz).list+(lG t.kH (sW ts p t)).gW≤1000000:=by
      unfold mw at c2;rw [hq,k2,hts] at c2;simp only [Re] at c2;split at c2
      · rename_i ok;have:=iR.1 ok;unfold iD at this;dsimp only at this;rw [ig (by omega) (by omega),ig (by omega) (by omega),ig (by omega) (by omega)] at this;omega
      · cases c2
    obtain ⟨_,b1,b2,b3,b4⟩:=zq hT t.nD k2 hfit.1 hfit.2.1 hfit.2.2
    have hne:t.jz<((k6 ts p t).length:Int):=by rw [hpl];exact q1
    have tt:∀ f:gT→Int,nW f (jf ((k6 ts p t).set t.jz.toNat (iB.mk (nh ts p t).1)))=nW f (jf ts) - iS f (nth ts p).list+iS f (iQ (nth ts p).list t.res (lG t.kH (sW ts p t))).1 - iS f (nth (k6 ts p t) t.jz).list+iS f (nh ts p t).1:=fun f=>by
      rw [OY,AO f _ _ _ _ (Oz q0 hne),hpt,OY,AO f _ _ _ _ (Oz p0 p1)]
    refine ⟨?_,?_,?_,?_⟩
    · unfold l8 at h ⊢;rw [List.all_eq_true] at h ⊢;intro y hy
      rcases List.mem_or_eq_of_mem_set hy with q | rfl
      · rcases List.mem_or_eq_of_mem_set (show y ∈ ts.set _ _ from q) with q | rfl
        · exact h y q
        · exact jL.2 k1
      · exact jL.2 b1
    · dsimp only;rw [tt,show iS gT.bh (nh ts p t).1=_ from b2];omega
    · dsimp only;rw [tt,show iS gT.gS (nh ts p t).1=_ from b3];omega
    · dsimp only;rw [tt,show iS gT.gW (nh ts p t).1=_ from b4];omega
  · exact ⟨h,rfl,rfl,rfl⟩
theorem Ah (p:Int):∀ (gR:List i7) (ts:List iB),l8 ts=true→Tk ts (o8 ts p gR)
  | [],ts,h=>⟨h,rfl,rfl,rfl⟩
  | t::gR,ts,h=>by
    have a:=JM h p t;have b:=Ah p gR _ a.ok;exact ⟨b.ok,b.pg.trans a.pg,b.rt.trans a.rt,b.cp.trans a.cp⟩
def lp:List cd→gT
  | []=>⟨0,0,0⟩
  | p::l=>⟨(sp p).bh+(lp l).bh,(sp p).gS+(lp l).gS,(sp p).gW+(lp l).gW⟩
theorem EZ:∀ (l:List cd) (s:gT) (n:Nat),(∀ p,p ∈ l→ik p=true)→l.length≤n→n≤3→vX s (3000000 * (3 - (n:Int))) →
    nY s l=⟨s.bh+(lp l).bh,s.gS+(lp l).gS,s.gW+(lp l).gW⟩∧(0≤(lp l).bh∧0≤(lp l).gS∧0≤(lp l).gW)
  | [],s,n,_,_,_,_=>by
    refine ⟨?_,by decide⟩
    show s=_
    unfold lp;simp only [Int.add_zero]
  | p::l,s,n,h,hl,hn,hs=>by
    obtain ⟨e,⟨r1,r2,r3⟩,_⟩:=zW (h p (by simp));simp only [List.length_cons] at hl;unfold vX at hs
    have e2:iD s (kN p)=⟨s.bh+(sp p).bh,s.gS+(sp p).gS,s.gW+(sp p).gW⟩:=by
      rw [e];unfold iD;rw [ig (by omega) (by omega),ig (by omega) (by omega),ig (by omega) (by omega)]
    have hb:vX ⟨s.bh+(sp p).bh,s.gS+(sp p).gS,s.gW+(sp p).gW⟩ (3000000 * (3 - ((n - 1:Nat):Int))):=by
      unfold vX;dsimp only;omega
    obtain ⟨a,b⟩:=EZ l _ (n - 1) (fun q hq=>h q (by simp [hq])) (by omega) (by omega) hb;have e3:nY s (p::l)=nY (iD s (kN p)) l:=rfl;rw [e3,e2,a];have e4:lp (p::l)=⟨(sp p).bh+(lp l).bh,(sp p).gS+(lp l).gS,(sp p).gW+(lp l).gW⟩:=rfl;rw [e4];dsimp only;refine ⟨by rw [Int.add_assoc,Int.add_assoc,Int.add_assoc],by omega,by omega,by omega⟩
structure Wk (w:g7):Prop where
  Q1:0≤w.Q1∧w.Q1≤1000000
  len:1≤w.parts.length∧w.parts.length≤3
  ok:∀ p,p ∈ w.parts→ik p=true
  sum:iC (lp w.parts)=true
theorem DZ {l:List cd} (h:∀ p,p ∈ l→ik p=true) (h3:l.length≤3):nY ⟨0,0,0⟩ l=lp l:=by
  have:=(EZ l ⟨0,0,0⟩ 3 h h3 (by decide) (by unfold vX;decide)).1;rw [this];simp only [Int.zero_add]
theorem nH {w:g7}:jj w=true ↔ Wk w:=by
  unfold jj;simp only [Rg,ir,List.all_eq_true];constructor
  · rintro ⟨a,b,c,d⟩;rw [DZ c (by omega)] at d;exact ⟨a,by omega,c,d⟩
  · rintro ⟨a,b,c,d⟩;refine ⟨a,by omega,c,?_⟩;rw [DZ c b.2];exact d
theorem Ba:∀ (l:List cd),(∀ p,p ∈ l→ik p=true)→(0≤(lp l).bh)∧∀ p,p ∈ l→(sp p).bh≤(lp l).bh
  | [],_=>⟨by decide,fun p hp=>by simp at hp⟩
  | q::l,h=>by
    obtain ⟨_,⟨r1,_,_⟩,_⟩:=zW (h q (by simp));obtain ⟨a,b⟩:=Ba l fun p hp=>h p (by simp [hp]);have e:(lp (q::l)).bh=(sp q).bh+(lp l).bh:=rfl;rw [e];refine ⟨by omega,fun p hp=>?_⟩
    rcases List.mem_cons.1 hp with rfl | hp
    · omega
    · have:=b p hp;omega
theorem Ch:∀ (l:List cd) (k:Nat) (y z:cd),l[k]?=some y→sp z=sp y→lp (l.set k z)=lp l
  | [],k,y,z,h,_=>by simp at h
  | x::l,0,y,z,h,e=>by
    simp at h;subst h
    show gT.mk ((sp z).bh+(lp l).bh) _ _=_
    rw [e];rfl
  | x::l,k+1,y,z,h,e=>by
    show gT.mk ((sp x).bh+(lp (l.set k z)).bh) _ _=_
    rw [Ch l k y z (by simpa using h) e];rfl
theorem PI {p:cd} (h:ik p=true) {t:List g6} (ht:jD t=true):ik (nV p t)=true:=by
  unfold ik at h ⊢;simp only [Rg] at h ⊢;exact ⟨h.1,h.2.1,ht,h.2.2.2⟩
theorem Hu:∀ (l:List cd) (ts:List (List g6)),ts.length=l.length →
    (lp (je l ts)).bh=(lp l).bh - nW gT.bh (kr l)+nW gT.bh ts∧(lp (je l ts)).gS=(lp l).gS - nW gT.gS (kr l)+nW gT.gS ts∧(lp (je l ts)).gW=(lp l).gW - nW gT.gW (kr l)+nW gT.gW ts
  | [],[],_=>by decide
  | [],_::_,h=>by simp at h
  | _::_,[],h=>by simp at h
  | p::l,t::ts,h=>by
    obtain ⟨a,b,c⟩:=Hu l ts (by simpa using h);have e:je (p::l) (t::ts)=nV p t::je l ts:=rfl;have e1:∀ f:gT→Int,nW f (kr (p::l))=iS f p.QR+nW f (kr l):=fun f=>rfl;have e2:∀ f:gT→Int,nW f (t::ts)=iS f t+nW f ts:=fun f=>rfl;have e3:∀ q m,lp (q::m)=⟨(sp q).bh+(lp m).bh,(sp q).gS+(lp m).gS,(sp q).gW+(lp m).gW⟩:=fun q m=>rfl;have e4:sp (nV p t)=⟨iS gT.bh t+ll p.heap.ag+p.gP.bh,iS gT.gS t+p.gP.gS,iS gT.gW t+p.gP.gW⟩:=rfl;have e5:sp p=⟨iS gT.bh p.QR+ll p.heap.ag+p.gP.bh,iS gT.gS p.QR+p.gP.gS,iS gT.gW p.QR+p.gP.gW⟩:=rfl;rw [e,e3,e3,e4,e5,e1,e1,e1,e2,e2,e2];dsimp only;omega
theorem Bn:∀ (l:List cd) (ts:List (List g6)),ts.length=l.length→(je l ts).length=l.length∧∀ (k:Nat) (q:cd),(je l ts)[k]?=some q→∃ p t,l[k]?=some p∧t ∈ ts∧q=nV p t
  | [],[],_=>⟨rfl,fun k q h=>by simp [je] at h⟩
  | [],_::_,h=>by simp at h
  | _::_,[],h=>by simp at h
  | p::l,t::ts,h=>by
    obtain ⟨a,b⟩:=Bn l ts (by simpa using h);have e:je (p::l) (t::ts)=nV p t::je l ts:=rfl;rw [e];refine ⟨by simp [a],fun k q hq=>?_⟩
    cases k with
    | zero=>simp at hq;exact ⟨p,t,rfl,by simp,hq.symm⟩
    | succ k =>
      obtain ⟨p',t',h1,h2,h3⟩:=b k q (by simpa using hq);exact ⟨p',t',by simpa using h1,by simp [h2],h3⟩
theorem Mm (l:List cd):jf (j6 l)=kr l:=by
  unfold jf j6;rw [List.map_map];exact (List.map_congr_left fun _ _=>rfl).trans (List.map_id _)
structure Qv (t u:g7):Prop where
  wk:Wk u
  sum:lp u.parts=lp t.parts
  Q1:u.Q1=t.Q1
  len:u.parts.length=t.parts.length
  lE:∀ j,0≤j→j<(t.parts.length:Int)→ot (nth t.parts j) (nth u.parts j)∧(nth u.parts j).QY=(nth t.parts j).QY
  w:wW t.parts→wW u.parts
theorem Cf {t:g7} (h:Wk t) (k:Int):Qv t (hZ t k):=by
  unfold hZ;split
  · have h0:l8 (j6 t.parts)=true:=by
      unfold l8;rw [List.all_eq_true];intro y hy;obtain ⟨x,hx,rfl⟩:=List.mem_map.1 (show y ∈ (kr t.parts).map iB.mk from hy);obtain ⟨p,hp,rfl⟩:=List.mem_map.1 (show x ∈ t.parts.map _ from hx);exact lP (h.ok p hp)
    have hk:=Ah k (nth t.parts k).gR (j6 t.parts) h0
    have hlen:(jf (o8 (j6 t.parts) k (nth t.parts k).gR)).length=t.parts.length:=by
      unfold jf;rw [List.length_map];exact sC
    generalize hu:jf (o8 (j6 t.parts) k (nth t.parts k).gR)=ts at *
    have hts:∀ x,x ∈ ts→jD x=true:=fun x hx=>by
      rw [← hu] at hx;obtain ⟨y,hy,rfl⟩:=List.mem_map.1 (show x ∈ (o8 (j6 t.parts) k (nth t.parts k).gR).map _ from hx);have:=hk.ok;unfold l8 at this;rw [List.all_eq_true] at this;exact this y hy
    have e1:=hk.pg;have e2:=hk.rt;have e3:=hk.cp;rw [Mm,hu] at e1 e2 e3;obtain ⟨s1,s2,s3⟩:=Hu t.parts ts hlen;obtain ⟨l1,l2⟩:=Bn t.parts ts hlen
    have hs:lp (je t.parts ts)=lp t.parts:=by
      generalize lp (je t.parts ts)=a at *;generalize lp t.parts=b at *;obtain ⟨a1,a2,a3⟩:=a;obtain ⟨b1,b2,b3⟩:=b;dsimp only at *
      have:a1=b1:=by omega
      have:a2=b2:=by omega
      have:a3=b3:=by omega
      subst_vars;rfl
    have hall:∀ q,q ∈ je t.parts ts→∃ p x,p ∈ t.parts∧x ∈ ts∧q=nV p x:=fun q hq=>by
      obtain ⟨i,hi⟩:=List.getElem?_of_mem hq;obtain ⟨p,x,a,b,c⟩:=l2 i q hi;exact ⟨p,x,List.mem_of_getElem? a,b,c⟩
    refine ⟨⟨h.Q1,by show 1≤(je t.parts ts).length∧(je t.parts ts).length≤3;rw [l1];exact h.len,fun q hq=>?_,by show iC (lp (je t.parts ts))=true;rw [hs];exact h.sum⟩,hs,rfl,l1,fun j j0 j1=>?_,fun hw q hq=>?_⟩
    · obtain ⟨p,x,hp,hx,rfl⟩:=hall q hq;exact PI (h.ok p hp) (hts x hx)
    · have hg:=jv (l:=je t.parts ts) j0 (by omega);obtain ⟨p,x,a,b,c⟩:=l2 _ _ hg
      have hp:nth t.parts j=p:=by
        rw [jv j0 j1] at a;exact Option.some.inj a
      rw [hp]
      show ot p (nth (je t.parts ts) j)∧(nth (je t.parts ts) j).QY=p.QY
      rw [c];exact ⟨⟨rfl,rfl,rfl⟩,rfl⟩
    · obtain ⟨p,x,hp,hx,rfl⟩:=hall q hq;exact hw p hp
  · exact ⟨h,rfl,rfl,rfl,fun j _ _=>⟨ot.refl _,rfl⟩,fun h=>h⟩
structure Jt (w:g7) (now:Int) (k:Nat) (t:g7):Prop where
  wk:Wk t
  at_:t.Q1=now
  len:t.parts.length=w.parts.length
  sum:lp t.parts=lp w.parts
  lE:∀ j,0≤j→j<(w.parts.length:Int)→ot (nth w.parts j) (nth t.parts j)
  QY:∀ j:Nat,j<k→Int.tmod now (w.parts.length:Int)=(j:Int)→(nth t.parts (j:Int)).QY=0
  w:wW t.parts
theorem w5 {l:List cd} {i j:Int} {z:cd} (h0:0≤i) (h1:i<(l.length:Int)) (hj:0≤j):nth (l.set i.toNat z) j=if i=j then z else nth l j:=by
  unfold nth
  by_cases e:i=j
  · subst e;rw [if_pos rfl,List.getElem?_set_self (by omega)];rfl
  · rw [if_neg e,List.getElem?_set_ne (by omega)]
theorem HZ {n:Nat} {p:cd} (hw:wP p) (hb:ij p≤2000000) (i now:Int):wP (kA n p i now):=(xG (n:=n) hb (Nat.le_refl _) hw i now).2
theorem Jt.step {w:g7} {now:Int} {k:Nat} {t:g7} (h:Jt w now k t) (hk:k<w.parts.length) (hn:w.parts.length≤3) (hsz:∀ p,p ∈ (hZ t (k:Int)).parts→ij p≤2000000):Jt w now (k+1) (kY w.parts.length k t):=by
  have hT:=Cf h.wk (k:Int);have hlen:=hT.len.trans h.len;have hm:=j7 (l:=(hZ t (k:Int)).parts) (i:=(k:Int)) (by omega) (by omega);have hok:=hT.wk.ok _ hm;have hww:=hT.w h.w;have hsum:=iR.1 hT.wk.sum;have hge:=(Ba _ hT.wk.ok).2 _ hm;obtain ⟨a1,a2,a3,a4⟩:=DG (n:=w.parts.length) hok (hww _ hm) (by omega) (k:Int) (hZ t (k:Int)).Q1;have hnow:(hZ t (k:Int)).Q1=now:=hT.Q1.trans h.at_;have hg:=jv (l:=(hZ t (k:Int)).parts) (i:=(k:Int)) (by omega) (by omega);rw [Int.toNat_natCast] at hg;have hs:=Ch _ k _ _ hg a2
  have hset:∀ j,0≤j→nth ((hZ t (k:Int)).parts.set k (kA w.parts.length (nth (hZ t (k:Int)).parts (k:Int)) (k:Int) (hZ t (k:Int)).Q1)) j=if (k:Int)=j then kA w.parts.length (nth (hZ t (k:Int)).parts (k:Int)) (k:Int) (hZ t (k:Int)).Q1 else nth (hZ t (k:Int)).parts j:=fun j hj=>by
    have:=w5 (l:=(hZ t (k:Int)).parts) (i:=(k:Int)) (z:=kA w.parts.length (nth (hZ t (k:Int)).parts (k:Int)) (k:Int) (hZ t (k:Int)).Q1) (by omega) (by omega) hj
    rwa [Int.toNat_natCast] at this
  unfold kY;refine ⟨⟨hT.wk.Q1,?_,fun q hq=>?_,?_⟩,hnow,?_,?_,fun j j0 j1=>?_,fun j hj e=>?_,fun q hq=>?_⟩
  · show 1≤(List.set _ _ _).length∧(List.set _ _ _).length≤3
    rw [List.length_set];exact hT.wk.len
  · rcases List.mem_or_eq_of_mem_set (show q ∈ List.set _ _ _ from hq) with q1 | rfl
    · exact hT.wk.ok q q1
    · exact a1
  · show iC (lp (List.set _ _ _))=true
    rw [hs];exact hT.wk.sum
  · show (List.set _ _ _).length=_
    rw [List.length_set];exact hlen
  · show lp (List.set _ _ _)=_
    rw [hs,hT.sum];exact h.sum
  · show ot (nth w.parts j) (nth (List.set _ _ _) j)
    have b1:=h.lE j j0 j1;have b2:=(hT.lE j j0 (by have:=h.len;omega)).1;rw [hset j j0];split
    · rename_i ej;subst ej;exact (b1.trans b2).trans a3
    · exact b1.trans b2
  · show (nth ((hZ t (k:Int)).parts.set k (kA w.parts.length (nth (hZ t (k:Int)).parts (k:Int)) (k:Int) (hZ t (k:Int)).Q1)) (j:Int)).QY=0
    rw [hset (j:Int) (by omega)];split
    · rename_i ej;exact a4 (by rw [hnow,e];exact ej.symm)
    · rename_i ej
      have hjk:j<k:=by omega
      rw [(hT.lE (j:Int) (by omega) (by have:=h.len;omega)).2];exact h.QY j hjk e
  · rcases List.mem_or_eq_of_mem_set (show q ∈ List.set _ _ _ from hq) with q1 | rfl
    · exact hww q q1
    · exact HZ (hww _ hm) (hsz _ hm) _ _
theorem yU {α τ:Type} {P:Nat→τ→Prop} {f:Nat→τ→α→τ}:∀ (l:List α) (k n:Nat) (t:τ),k+l.length=n→(∀ j t y,k≤j→j<n→P j t→P (j+1) (f j t y))→P k t→P n (foldI f k t l)
  | [],k,n,t,e,_,h=>by
    simp at e;subst e;exact h
  | y::l,k,n,t,e,hs,h=>by
    simp only [List.length_cons] at e;unfold foldI;exact yU l (k+1) n _ (by omega) (fun j t y hj hn hp=>hs j t y (by omega) hn hp) (hs k t y (Nat.le_refl _) (by omega) h)
end Go.Kx
