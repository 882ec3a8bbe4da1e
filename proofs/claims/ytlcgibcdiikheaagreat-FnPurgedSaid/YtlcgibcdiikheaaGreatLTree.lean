import Derived.Test.YtlcgibcdiikheaaGreatLBoot
namespace Go.Kx
open Go
open Go.IntKind (i64)
set_option linter.unusedVariables false
set_option linter.unusedSimpArgs false
set_option maxRecDepth 10000
def nth {α:Type} [gT α] (l:List α) (i:Int):α:=(l[i.toNat]?).getD gT.zero
theorem je {α:Type} [gT α] {l:List α} {i:Int} (h0:0≤i) (h1:i<(l.length:Int)):idx l i=some (nth l i):=by
  have hz:l[i.toNat]?=some (l[i.toNat]'(by omega)):=List.getElem?_eq_getElem _;unfold idx nth;rw [if_pos h0,hz];rfl
theorem Ca {α:Type} [gT α] {l:List α} {i a b:Int} (h:ia i a b=true) (ha:0≤a) (hb:b<(l.length:Int)):idx l i=some (nth l i):=by
  rw [iG] at h;exact je (by omega) (by omega)
theorem yT {α:Type} [gT α] {l:List α} {k:Nat} {y:α} (h:l[k]?=some y):nth l (k:Int)=y:=by simp [nth,h]
theorem kv {α:Type} [gT α] {l:List α} {i:Int} (h0:0≤i) (h1:i<(l.length:Int)):nth l i ∈ l:=by
  have hz:l[i.toNat]?=some (l[i.toNat]'(by omega)):=List.getElem?_eq_getElem _;unfold nth;rw [hz];exact List.getElem_mem _
theorem wq {α:Type} {l:List α} {n:Nat} (h:((l.length:Int) != (n:Int))=false):l.length=n:=by simp at h;omega
theorem rh (N:Nat) (a:Int):ky N a=some (ia a 0 4):=by unfold ky;rw [ke];rfl
def jc (t:List gW) (i:Int):Bool:=ia i 0 4&&(nth t i).HN
def up (t:List gW) (i:Int):Int:=(nth t i).HO
def leads (t:List gW):Nat→Int→Bool
  | 0,_=>false
  | n+1,i=>(i==0) || (jc t i&&leads t n (up t i))
def i9 (t:List gW):Nat→Int→Int
  | 0,a=>a
  | n+1,a=>if a > 0 then i9 t n (up t a) else a
theorem Hi {k:Nat} (h:k<(List.replicate 5 ()).length):k<5∧decide ((k:Int)<5)=true:=by
  have h:k<5:=by simpa using h
  exact ⟨h,by simp;omega⟩
theorem GA {k n:Nat} {N:Nat} (hN:gS≤N) (hn:n<16777216):(List.replicate n ()).length<N:=by
  have:16777216≤N:=hN;simp;omega
def sN:gW:=gW.mk false 0 (ig.mk 0 0 0)
def qR (t:List gW) (k:Nat) (r:gW):Bool:=if r.HN then iT r.iB&&leads t 5 (k:Int) else decide (r=sN)
def i6 (s:ig) (t:List gW):ig:=t.foldl (fun s r=>if r.HN then iN s r.iB else s) s
def jH (t:List gW):Bool:=!((t.length:Int) != 5)&&((nth t 0).HN&&(!((nth t 0).HO != (-1))&&(allI (qR t) 0 t&&iT (i6 ⟨0,0,0⟩ t))))
def p1 (t:List gW) (k:Nat) (r:gW):Bool:=!((!r.HN&&!decide (r=sN)) || !iT r.iB)&&!(decide ((k:Int) > 0)&&(r.HN&&(!ia r.HO 0 4 || (r.HO==(k:Int) || !(nth t r.HO).HN))))
def p2 (t:List gW) (k:Nat) (r:gW):Bool:=!(r.HN&&(i9 t 5 (k:Int) != 0))
def Good (t:List gW):Prop:=∀ i:Int,0<i→i≤4→(nth t i).HN=true→0≤up t i∧up t i≤4∧up t i ≠ i∧(nth t (up t i)).HN=true
theorem zO {t:List gW} (hl:t.length=5) (h:allI (p1 t) 0 t=true):Good t:=by
  intro i h0 h4 hlv;rw [lz] at h
  have hz:t[i.toNat]?=some (nth t i):=by
    have:=je (l:=t) (i:=i) (by omega) (by omega);unfold idx at this
    rwa [if_pos (by omega)] at this
  have:=h _ _ hz
  have e:((0+i.toNat:Nat):Int)=i:=by omega
  unfold p1 at this;rw [e] at this;unfold up;simp [hlv,ia] at this
  rcases this.2 with q | q
  · omega
  · exact ⟨q.1.1,q.1.2,q.2.1,q.2.2⟩
theorem wY {t:List gW} (hg:Good t):∀ (n:Nat) (a:Int),0≤a→a≤4→(nth t a).HN=true→0≤i9 t n a∧i9 t n a≤4∧(nth t (i9 t n a)).HN=true
  | 0,a,h0,h4,hlv=>⟨h0,h4,hlv⟩
  | n+1,a,h0,h4,hlv=>by
    unfold i9
    by_cases ha:a > 0
    · rw [if_pos ha];obtain ⟨g1,g2,_,g4⟩:=hg a ha h4 hlv;exact wY hg n _ g1 g2 g4
    · rw [if_neg ha];exact ⟨h0,h4,hlv⟩
theorem qx (t:List gW):∀ (m n:Nat) (a:Int),i9 t (m+n) a=i9 t n (i9 t m a)
  | 0,n,a=>by simp [i9]
  | m+1,n,a=>by
    rw [show m+1+n=(m+n)+1 by omega]
    show (if a > 0 then i9 t (m+n) (up t a) else a)=i9 t n (if a > 0 then i9 t m (up t a) else a)
    by_cases ha:a > 0
    · rw [if_pos ha,if_pos ha,qx t m n]
    · rw [if_neg ha,if_neg ha];cases n<;>simp [i9,ha]
theorem vu (t:List gW) (n:Nat):i9 t n 0=0:=by cases n<;>simp [i9]
theorem sk {t:List gW} (hg:Good t):∀ (n:Nat) (a:Int),0≤a→a≤4→(nth t a).HN=true→leads t (n+1) a=(i9 t n a==0)
  | 0,a,h0,h4,hlv=>by simp [leads,i9]
  | n+1,a,h0,h4,hlv=>by
    rw [show leads t (n+1+1) a=((a==0) || (jc t a&&leads t (n+1) (up t a))) from rfl];unfold i9
    by_cases ha:a=0
    · subst ha;simp
    · have hp:a > 0:=by omega
      obtain ⟨g1,g2,_,g4⟩:=hg a hp h4 hlv;rw [if_pos hp,sk hg n _ g1 g2 g4]
      have:jc t a=true:=by simp [jc,iG,hlv];omega
      have h0':(a==0)=false:=by simpa using ha
      rw [this,h0'];rfl
theorem CU {t:List gW} (hg:Good t) {a:Int} (h0:0≤a) (h4:a≤4) (hlv:(nth t a).HN=true) (h:i9 t 5 a=0):i9 t 4 a=0:=by
  have key:∀ (i j:Nat),i+j≤5→i9 t i a=i9 t (i+j) a→i9 t (5 - j) a=0:=by
    intro i j hij e
    have h1:i9 t (5 - j) a=i9 t (5 - j - i) (i9 t i a):=by rw [← qx];congr 1;omega
    have h2:i9 t 5 a=i9 t (5 - j - i) (i9 t (i+j) a):=by rw [← qx];congr 1;omega
    rw [h1,e, ← h2,h]
  have mono:∀ (i j:Nat),i9 t i a=0→i9 t (i+j) a=0:=by
    intro i j e;rw [qx,e,vu]
  rcases Decidable.em (i9 t 4 a=0) with q | q
  · exact q
  exfalso
  have nz:∀ i,i≤4→i9 t i a ≠ 0:=fun i hi e=>q (by have:=mono i (4 - i) e;rwa [show i+(4 - i)=4 by omega] at this)
  have v7:∀ i,i≤4→1≤i9 t i a∧i9 t i a≤4:=fun i hi=>by
    obtain ⟨r1,r2,_⟩:=wY hg i a h0 h4 hlv;have:=nz i hi;omega
  have ne:∀ (i j:Nat),0<j→i+j≤4→i9 t i a ≠ i9 t (i+j) a:=fun i j hj hij e=>nz (5 - j) (by omega) (key i j (by omega) e);have r0:=v7 0 (by omega);have r1:=v7 1 (by omega);have r2:=v7 2 (by omega);have r3:=v7 3 (by omega);have r4:=v7 4 (by omega);have n01:=ne 0 1 (by omega) (by omega);have n02:=ne 0 2 (by omega) (by omega);have n03:=ne 0 3 (by omega) (by omega);have n04:=ne 0 4 (by omega) (by omega);have n12:=ne 1 1 (by omega) (by omega);have n13:=ne 1 2 (by omega) (by omega);have n14:=ne 1 3 (by omega) (by omega);have n23:=ne 2 1 (by omega) (by omega);have n24:=ne 2 2 (by omega) (by omega);have n34:=ne 3 1 (by omega) (by omega);simp only [Nat.zero_add,Nat.reduceAdd] at *;generalize i9 t 0 a=c0 at *;generalize i9 t 1 a=c1 at *;generalize i9 t 2 a=c2 at *;generalize i9 t 3 a=c3 at *;generalize i9 t 4 a=c4 at *;clear key mono nz v7 ne;omega
theorem u6 {t:List gW} {a:Int} (ha:a ≠ 0) (hu:up t a=a):∀ n,leads t n a=false
  | 0=>rfl
  | n+1=>by
    unfold leads;rw [hu,u6 ha hu n];simp [ha]
theorem Ch {t:List gW} (hl:t.length=5) (h0:(nth t 0).HN=true):(allI (p1 t) 0 t&&allI (p2 t) 0 t)=allI (qR t) 0 t:=by
  have hget:∀ (i:Nat) (r:gW),t[i]?=some r→(i:Int)≤4∧nth t (i:Int)=r:=fun i r h=>⟨by have:=iQ h;omega,yT h⟩;rw [Bool.eq_iff_iff,H3];constructor
  · rintro ⟨h1,h2⟩;have hg:=zO hl h1;rw [lz] at h1 h2 ⊢;intro i r hr;obtain ⟨i4,hn⟩:=hget i r hr;have q1:=h1 i r hr;have q2:=h2 i r hr;simp only [Nat.zero_add] at q1 q2 ⊢;unfold p1 at q1;unfold p2 at q2;unfold qR;cases hlv:r.HN
    · simp [hlv] at q1;simp [q1.1]
    · simp [hlv] at q1 q2
      have hlv':(nth t (i:Int)).HN=true:=by rw [hn];exact hlv
      have:=CU hg (by omega) i4 hlv' q2;simp only [if_true,H3];refine ⟨q1.1,?_⟩;rw [sk hg 4 _ (by omega) i4 hlv',this];rfl
  · intro h;rw [lz] at h
    have hp:∀ (i:Int),0≤i→i≤4→(nth t i).HN=true→iT (nth t i).iB=true∧leads t 5 i=true:=by
      intro i hi hi4 hlv
      have hz:t[i.toNat]?=some (nth t i):=by
        have:=je (l:=t) (i:=i) (by omega) (by omega);unfold idx at this
        rwa [if_pos (by omega)] at this
      have:=h _ _ hz;unfold qR at this;rw [if_pos hlv] at this
      have e:((0+i.toNat:Nat):Int)=i:=by omega
      rw [e] at this;simpa using this
    have hg:Good t:=by
      intro i hi hi4 hlv;obtain ⟨_,q⟩:=hp i (by omega) hi4 hlv
      have hne:up t i ≠ i:=fun e=>by rw [u6 (by omega) e] at q;cases q
      have hi0:(i==0)=false:=by simp;omega
      rw [show leads t 5 i=((i==0) || (jc t i&&leads t 4 (up t i))) from rfl,hi0] at q;simp only [Bool.false_or,H3] at q;rw [show leads t 4 (up t i)=((up t i==0) || (jc t (up t i)&&leads t 3 (up t (up t i)))) from rfl] at q
      rcases Decidable.em (up t i=0) with e | e
      · rw [e];exact ⟨by omega,by omega,by omega,h0⟩
      · have e':(up t i==0)=false:=by simpa using e
        rw [e'] at q;simp only [Bool.false_or,H3] at q;have:=q.2.1;simp only [jc,H3,iG] at this;exact ⟨this.1.1,this.1.2,hne,this.2⟩
    rw [lz,lz];refine ⟨fun i r hr=>?_,fun i r hr=>?_⟩
    · obtain ⟨i4,hn⟩:=hget i r hr;have q:=h i r hr;simp only [Nat.zero_add] at q ⊢;unfold p1;unfold qR at q;cases hlv:r.HN
      · simp [hlv] at q;subst q;simp;decide
      · simp [hlv] at q;simp [q.1]
        by_cases hi:i=0
        · exact .inl hi
        · have:=hg (i:Int) (by omega) i4 (by rw [hn];exact hlv);unfold up at this;rw [hn] at this;exact .inr ⟨iG.2 ⟨this.1,this.2.1⟩,this.2.2.1,this.2.2.2⟩
    · obtain ⟨i4,hn⟩:=hget i r hr;simp only [Nat.zero_add];unfold p2;cases hlv:r.HN
      · rfl
      · have hlv':(nth t (i:Int)).HN=true:=by rw [hn];exact hlv
        obtain ⟨_,q⟩:=hp (i:Int) (by omega) i4 hlv';rw [sk hg 4 _ (by omega) i4 hlv'] at q
        have q:i9 t 4 (i:Int)=0:=by simpa using q
        have:i9 t 5 (i:Int)=0:=by rw [show 5=4+1 from rfl,qx,q,vu]
        simp [this]
theorem wT {N:Nat} (hN:gS≤N) {t:List gW} (hB:t.length<gS):nF N t=some (i6 ⟨0,0,0⟩ t):=by
  unfold nF i6
  rw [show ((0:Int),(0:Int),(0:Int),(0:Int))=(fun (k:Nat) (s:ig)=>((k:Int),s.gE,s.gV,s.hY)) 0 ⟨0,0,0⟩ from rfl,
    jQ t (fun (k:Nat) (s:ig)=>((k:Int),s.gE,s.gV,s.hY)) (fun _ s r=>if r.HN then iN s r.iB else s) (fun s=>((t.length:Int),s.gE,s.gV,s.hY)) (fun _ _=>True) ?_ ?_ (Nat.lt_of_lt_of_le hB hN) trivial,lK]
  · rfl
  · intro k s r hy hk _;refine ⟨?_,trivial⟩;simp only [iX hk,HY,iz,hy,HW,i5 (Nat.lt_trans hk hB)];cases r.HN<;>rfl
  · intro s _;simp only [iW,HX]
theorem CE {N:Nat} (hN:gS≤N) {t:List gW} (hl:t.length=5) (hg:Good t) {k:Nat} {r:gW} (hr:t[k]?=some r) :
    ∃ n,iter (fun (s72:Int×Int)=>((bif (decide (s72.2<5)) then ((idx t (k:Int)).bind fun y77=>bif y77.HN then (some (decide (s72.1 > 0))) else (some false)) else (some false):Option Bool).bind fun j74=>bif j74 then ((idx t s72.1).bind fun y89=>some (.inl (y89.HO,i64.wrap (s72.2+1)))) else (some (.inr (s72.1,s72.2))):Option ((Int×Int)⊕(Int×Int)))) N ((k:Int),0)=some (if r.HN then i9 t 5 (k:Int) else (k:Int),n):=by
  have hk:=iQ hr
  rw [show (((k:Int),0):Int×Int)=(fun (n:Nat) (a:Int)=>(a,(n:Int))) 0 (k:Int) from rfl,
    mP (List.replicate 5 ()) (fun (n:Nat) (a:Int)=>(a,(n:Int))) (fun n a _=>if r.HN&&decide (a > 0) then .inl (up t a) else .inr (a,(n:Int))) (fun a=>(a,5)) (fun _ a=>r.HN=true→0≤a∧a≤4∧(nth t a).HN=true) ?_ ?_ (GA (k:=0) hN (by decide)) (fun h=>⟨by omega,by omega,by rw [yT hr];exact h⟩)]
  · have key:∀ (n j:Nat) (a:Int),(ly (ρ:=Int×Int) (fun (n:Nat) a (_:Unit)=>if r.HN&&decide (a > 0) then .inl (up t a) else .inr (a,(n:Int))) (fun a=>(a,5)) j a (List.replicate n ())).1=if r.HN then i9 t n a else a:=by
      intro n
      induction n with
      | zero=>intro j a;simp [ly,i9]
      | succ n ih =>
        intro j a;rw [List.replicate_succ];unfold ly i9;cases hlv:r.HN
        · rfl
        · have ih:=ih (j+1) (up t a);rw [hlv] at ih
          by_cases ha:a > 0
          · simpa [ha] using ih
          · simp [ha]
    have:=key 5 0 (k:Int);exact ⟨_,congrArg some (Prod.ext this rfl)⟩
  · intro n a y hy hn hI;obtain ⟨h5,hd⟩:=Hi hn;simp only [hd,HY,iz,hr,HW];cases hlv:r.HN
    · exact ⟨rfl,fun t' h=>by simp at h⟩
    · obtain ⟨i1,i2,i3⟩:=hI hlv
      by_cases ha:a > 0
      · have hd2:decide (a > 0)=true:=by simpa using ha
        simp only [HY,hd2,HW,je (l:=t) (i:=a) i1 (by omega),i5 (show n<gS from Nat.lt_trans h5 (by decide)),Bool.and_self,if_true];refine ⟨rfl,fun t' h _=>?_⟩;cases h;obtain ⟨g1,g2,_,g4⟩:=hg a ha i2 i3;exact ⟨g1,g2,g4⟩
      · have hd2:decide (a > 0)=false:=by simpa using ha
        simp only [HY,hd2,HW,HX];exact ⟨rfl,fun t' h=>by simp at h⟩
  · intro a _;rfl
theorem rj {N:Nat} (hN:gS≤N) {t:List gW}:lF N t=some (jH t):=by
  unfold lF jH;cases h5:((t.length:Int) != 5)
  · have hl:t.length=5:=wq (n:=5) h5
    have hB:t.length<gS:=by rw [hl];decide
    rw [je (l:=t) (i:=0) (by omega) (by omega)];simp only [HX,HW,lB,Bool.not_false,H0];cases h1:(nth t 0).HN
    · rfl
    cases h2:((nth t 0).HO != (-1))
    · simp only [HZ,Bool.or_self,HX,H0,Bool.not_false];rw [jY t (p1 t) (.inl (t.length:Int)) (.inr false) (Nat.lt_of_lt_of_le hB hN), ← Ch hl h1]
      · simp only [HW];cases hp:allI (p1 t) 0 t
        · rfl
        · have hg:=zO hl hp;simp only [if_true,Sum.elim_inl,H0];rw [jY t (p2 t) (.inl (t.length:Int)) (.inr false) (Nat.lt_of_lt_of_le hB hN)]
          · simp only [HW,wT hN hB,nq];cases allI (p2 t) 0 t<;>rfl
          · intro k r hy hk;obtain ⟨n,hn⟩:=CE hN hl hg hy;simp only [iX hk,HY];rw [hn];simp only [iz,hy,HW,i5 (Nat.lt_trans hk hB)];unfold p2;cases hlv:r.HN
            · rfl
            · simp only [HY,HW,if_true,H0];cases (i9 t 5 (k:Int) != 0)<;>rfl
          · simp only [iW,HX]
      · intro k r hy hk;simp only [iX hk,HY,iz,hy,HW,nq,rh,lB,i5 (Nat.lt_trans hk hB)];unfold p1;rw [show gW.mk false 0 (ig.mk 0 0 0)=sN from rfl];cases hin:ia r.HO 0 4
        · cases r.HN<;>cases decide (r=sN)<;>cases iT r.iB<;>cases decide ((k:Int) > 0)<;>rfl
        · rw [Ca hin (by omega) (show (4:Int)<(t.length:Int) by omega)];simp only [HW];cases r.HN<;>cases decide (r=sN)<;>cases iT r.iB<;>cases decide ((k:Int) > 0)<;>cases (r.HO==(k:Int))<;>cases (nth t r.HO).HN<;>rfl
      · simp only [iW,HX]
    · rfl
  · rfl
end Go.Kx
namespace Go.Kx
open Go
open Go.IntKind (i64)
set_option linter.unusedVariables false
set_option linter.unusedSimpArgs false
set_option maxRecDepth 10000
theorem DJ {o:cd} (h:gX o<gS):o.g5.length<gS∧o.HI.length<gS∧o.HE.length<gS:=by unfold gX at h;omega
theorem kc {p:bh} (h:ib p<gS):p.HB.Hz.length<gS∧p.own.length<gS∧p.HC.length<gS∧iL gX p.py.ag<gS∧p.py.gc.gQ.length<gS∧p.gR.length<gS:=by
  unfold ib ks oX jJ at h;omega
end Go.Kx
namespace Go.Kx
open Go
open Go.IntKind (i64)
set_option linter.unusedVariables false
set_option linter.unusedSimpArgs false
set_option maxRecDepth 10000
theorem jw {α:Type} {l:List α} (h:l.length<gS):app ([]:List α) l=some l:=by
  unfold app;rw [if_pos (by simpa using h)];rfl
theorem mo {N:Nat} {l:List gW} (h:l.length<gS):j0 N l=some l:=by unfold j0;rw [jw h];rfl
theorem zN {N:Nat} {o:cd} (h:gX o<gS):pt N o=some o:=by
  obtain ⟨h1,h2,h3⟩:=DJ h;unfold pt;simp only [jw h1,jw h2,jw h3,HW]
theorem uY {N:Nat} (hN:gS≤N) {l:List cd} (hb:iL gX l<gS):mf N l=some l:=by
  have hl:=lr hb;unfold mf;rw [pJ l (fun _ _=>true) (fun _ y=>y) hl hN,nZ (fun _=>true)]
  · simp
  · intro k t y hy hk ht;simp only [iX hk,HY,iz,hy,HW,zN (jG hb (List.mem_of_getElem? hy)),i5 (Nat.lt_trans hk hl),kr ht (Nat.lt_of_le_of_lt hk hl)];rfl
  · intro t;simp only [iW,HX]
theorem rX {N:Nat} (hN:gS≤N) {h:g7} (h1:iL gX h.ag<gS) (h2:h.gc.gQ.length<gS):lH N h=some h:=by
  unfold lH;simp only [uY hN h1,jw h2,HW]
theorem nS {N:Nat} (hN:gS≤N) {p:bh} (h:ib p<gS):kn N p=some p:=by
  obtain ⟨h1,h2,h3,h4,h5,h6⟩:=kc h;unfold kn;simp only [jw h1,jw h2,mo h3,rX hN h4 h5,jw h6,HW]
theorem yE {α:Type} {l:List α} {k:Nat} (h:k≤l.length):sub l 0 (k:Int)=some (l.take k):=by
  unfold sub;rw [if_pos ⟨Int.le_refl _,by omega,by omega⟩];simp
end Go.Kx
namespace Go.Kx
open Go
open Go.IntKind (i64)
set_option linter.unusedVariables false
set_option linter.unusedSimpArgs false
set_option maxRecDepth 10000
theorem ti {α:Type} (p:Bool) (a b:α):(bif p then some a else some b)=some (bif p then a else b):=by cases p<;>rfl
theorem u5 {ρ τ β:Type} (c:Bool) (a:ρ) (r:τ) (f:ρ→Option β) (g:τ→Option β):Sum.elim f g (if c then .inl a else .inr r)=if c then f a else g r:=by cases c<;>rfl
theorem oz (N:Nat) (a:Int):jS N a=some (ia a 0 29999):=by unfold jS;rw [ke];rfl
theorem ny (N:Nat) (a:Int):j9 N a=some (ia a 0 9):=by unfold j9;rw [ke];rfl
def xK (m:jg):Bool:=!(bif (m.HV != (-1)) then (!ia m.HV 0 29999 || !ia m.n 0 999) else !ia m.n 0 999)
def qY (o:cd):Bool:=o.g5.all (fun y=>ia y (-1) 9)&&(o.HI.all (fun y=>ia y 0 999)&&(o.HE.all xK&&(((o.g5.length:Int)==2)&&(((o.HI.length:Int)==(bif o.HA==2 then o.gE else 0))&&decide ((o.HE.length:Int)≤(bif o.HA==3 then 2 else 0))))))
def blank (g:Int):cd:=cd.mk g 0 0 0 0 0 0 0 0 false [] [] []
def kK (o:cd):Bool:=ia o.HR 0 999&&(ia o.HA 0 4&&(bif o.HA==0 then decide (o=blank o.HR) else
  ia o.box (-1) 9&&(ia o.HP 0 4&&(ia o.iK 0 1000000&&(ia o.gE 0 8&&(qY o&&(bif o.HA != 4 then (o.HK==0&&(o.iF==0&&o.iE==0)) else
    (o.HK==0 || ia (i64.wrap (o.HK - 1)) 0 29999)&&(ia o.iF (-1) 999&&ia o.iE 0 1000000))))))))
def lN (o:cd):Prop:=-9223372036854775808≤o.HK
theorem CI {n:Int} (h:-9223372036854775808≤n) (h0:n<0):ia (i64.wrap (n - 1)) 0 29999=false:=by
  rcases Decidable.em (n=-9223372036854775808) with e | e
  · subst e;decide
  · rw [iC (by omega) (by omega)];simp [ia];omega
def vp (o:cd):Bool:=bif o.HA != 4 then (o.HK==0&&(o.iF==0&&o.iE==0)) else
    (o.HK==0 || ia (i64.wrap (o.HK - 1)) 0 29999)&&(ia o.iF (-1) 999&&ia o.iE 0 1000000)
theorem FC {o : cd} (hw : lN o) (hr : ia o.iE 0 1000000 = true) : (bif o.HA != 4 then bif o.HK != 0 then true else bif o.iF != 0 then true else bif o.iE != 0 then true else bif o.HA == 4 then
      bif decide (o.HK < 0) then true else bif decide (o.HK > 0) then !ia (i64.wrap (o.HK - 1)) 0 29999 || !ia o.iF (-1) 999 else !ia o.iF (-1) 999 else false
    else bif o.HA == 4 then bif decide (o.HK < 0) then true else bif decide (o.HK > 0) then !ia (i64.wrap (o.HK - 1)) 0 29999 || !ia o.iF (-1) 999 else !ia o.iF (-1) 999 else false) = !vp o := by
  unfold vp;simp only [bne, hr];cases o.HA == 4
  · simp only [Bool.not_false, HY, HX];cases o.HK == 0<;>cases o.iF == 0<;>cases o.iE == 0<;>rfl
  · simp only [HZ, HY, HX]
    rcases Int.lt_trichotomy o.HK 0 with h | h | h
    · have e1 : decide (o.HK < 0) = true := by simpa using h
      have e2 : (o.HK == 0) = false := by simp; omega
      rw [e1, e2, CI hw h]; rfl
    · simp only [h];cases ia o.iF (-1) 999<;>rfl
    · have e1 : decide (o.HK < 0) = false := by simp; omega
      have e2 : (o.HK == 0) = false := by simp; omega
      have e3 : decide (o.HK > 0) = true := by simpa using h
      rw [e1, e2, e3];cases ia (i64.wrap (o.HK - 1)) 0 29999<;>cases ia o.iF (-1) 999<;>rfl
theorem Fm (o:cd):(bif (o.HI.length:Int) != 0 then bif o.HA != 2 then true else bif (o.HI.length:Int) != o.gE then true else bif o.HA==2 then (o.HI.length:Int) != o.gE else false
    else bif o.HA==2 then (o.HI.length:Int) != o.gE else false)=!((o.HI.length:Int)==(bif o.HA==2 then o.gE else 0)):=by
  simp only [bne];cases o.HA==2<;>cases h:((o.HI.length:Int)==0)<;>cases h2:((o.HI.length:Int)==o.gE)<;>simp [h,h2]
theorem Ej (o:cd):(bif decide ((o.HE.length:Int) > 2) then true else bif decide ((o.HE.length:Int) > 0) then o.HA != 3 else false)=!decide ((o.HE.length:Int)≤(bif o.HA==3 then 2 else 0)):=by
  simp only [bne];cases o.HA==3
  · simp only [HX]
    rcases Nat.lt_trichotomy o.HE.length 0 with h | h | h
    · omega
    · simp [h]
    · rw [decide_eq_true (show (o.HE.length:Int) > 0 by omega),decide_eq_false (show ¬ ((o.HE.length:Int)≤0) by omega)];cases decide ((o.HE.length:Int) > 2)<;>rfl
  · simp only [HY]
    rcases Nat.lt_or_ge 2 o.HE.length with h | h
    · rw [decide_eq_true (show (o.HE.length:Int) > 2 by omega),decide_eq_false (show ¬ ((o.HE.length:Int)≤2) by omega)];rfl
    · rw [decide_eq_false (show ¬ ((o.HE.length:Int) > 2) by omega),decide_eq_true (show (o.HE.length:Int)≤2 by omega)];cases decide ((o.HE.length:Int) > 0)<;>rfl
theorem zV {N:Nat} (hN:gS≤N) {o:cd} (ho:gX o<gS) (hw:lN o):pN N o=some (kK o):=by
  obtain ⟨h1,h2,h3⟩:=DJ ho;unfold pN kK;rw [ke,HW];cases hg:ia o.HR 0 999
  · rfl
  simp only [HZ,HX,H0];cases hk0:o.HA==0
  · simp only [HX,ke,rh,HW,lB]
    have hk0':o.HA ≠ 0:=by simpa using hk0
    cases hA:(!ia o.HA 1 4 || (!ia o.box (-1) 9 || (!ia o.HP 0 4 || (!ia o.iK 0 1000000 || (!ia o.gE 0 8 || ((o.g5.length:Int) != 2 || !ia o.iE 0 1000000))))))
    · simp only [Bool.or_eq_false_iff,Bool.not_eq_false',bne_eq_false_iff_eq] at hA;obtain ⟨a1,a2,a3,a4,a5,a6,a7⟩:=hA
      have a1':ia o.HA 0 4=true:=by rw [iG] at a1 ⊢;omega
      have hl2:o.g5.length=2:=by omega
      simp only [HX,a1',a2,a3,a4,a5,H0];rw [jY o.g5 (fun _ y=>ia y (-1) 9) (.inl (2:Int)) (.inr false) (Nat.lt_of_lt_of_le h1 hN),kq,HW,u5]
      · unfold qY;cases hL:o.g5.all fun y=>ia y (-1) 9
        · rfl
        have e6:((o.g5.length:Int)==2)=true:=by simp [a6]
        simp only [if_true,H0,e6];simp only [oz,HW,ti];rw [FC hw a7,Fm o];rw [show (bif o.HA != 4 then (o.HK==0&&(o.iF==0&&o.iE==0)) else (o.HK==0 || ia (i64.wrap (o.HK - 1)) 0 29999)&&(ia o.iF (-1) 999&&ia o.iE 0 1000000))=vp o from rfl];cases vp o
        · simp
        cases ((o.HI.length:Int)==(bif o.HA==2 then o.gE else 0))
        · simp
        simp only [HZ,HX,Bool.and_true,H0];rw [jY o.HI (fun _ y=>ia y 0 999) (.inl (o.HI.length:Int)) (.inr false) (Nat.lt_of_lt_of_le h2 hN),kq,HW,u5,Ej o]
        · cases o.HI.all fun y=>ia y 0 999
          · rfl
          simp only [if_true,H0];cases decide ((o.HE.length:Int)≤(bif o.HA==3 then 2 else 0))
          · simp
          simp only [HZ,HX,Bool.and_true];rw [jY o.HE (fun _ y=>xK y) (.inl (o.HE.length:Int)) (.inr false) (Nat.lt_of_lt_of_le h3 hN),kq,HW,u5]
          · cases o.HE.all xK<;>rfl
          · intro k y hy hk;simp only [iX hk,HY,iz,hy,HW,i5 (Nat.lt_trans hk h3)];unfold xK;cases (y.HV != (-1))<;>cases ia y.HV 0 29999<;>cases ia y.n 0 999<;>rfl
          · simp only [iW,HX]
        · intro k y hy hk;simp only [iX hk,HY,iz,hy,HW,i5 (Nat.lt_trans hk h2)];cases ia y 0 999<;>rfl
        · simp only [iW,HX]
      · intro k y hy hk
        have hd:decide ((k:Int)<2)=true:=by simp;omega
        simp only [hd,HY,iz,hy,HW,ke,i5 (Nat.lt_trans hk h1)];cases ia y (-1) 9<;>rfl
      · simp [hl2]
    · simp only [HY];congr 1
      symm
      rw [Bool.eq_false_iff];intro h;simp only [qY,H3,iG,beq_iff_eq] at h;obtain ⟨b0,b1,b2,b3,b4,⟨_,_,_,b5,_,_⟩,b6⟩:=h
      have q1:ia o.HA 1 4=true:=by rw [iG];omega
      have q2:ia o.box (-1) 9=true:=by rw [iG];omega
      have q3:ia o.HP 0 4=true:=by rw [iG];omega
      have q4:ia o.iK 0 1000000=true:=by rw [iG];omega
      have q5:ia o.gE 0 8=true:=by rw [iG];omega
      have q6:((o.g5.length:Int) != 2)=false:=by simp [b5]
      have q7:ia o.iE 0 1000000=true:=by
        cases h4:o.HA != 4
        · rw [h4] at b6;simp only [HX,H3] at b6;exact b6.2.2
        · rw [h4] at b6;simp only [HY,H3,beq_iff_eq] at b6;rw [b6.2.2];decide
      simp [q1,q2,q3,q4,q5,q6,q7] at hA
  · have hk:o.HA=0:=by simpa using hk0
    simp only [HY,ns,HW];congr 1;rw [Bool.eq_iff_iff];obtain ⟨_,_,_,_,_,_,_,_,_,_,_,_,_⟩:=o;simp only at hk;subst hk;simp [blank,ia]
end Go.Kx
namespace Go.Kx
open Go
open Go.IntKind (i64)
set_option linter.unusedVariables false
set_option linter.unusedSimpArgs false
set_option maxRecDepth 10000
theorem sj {o:cd} (h:kK o=true):o.g5.length≤2∧∀ y,y ∈ o.g5→-1≤y∧y≤9:=by
  unfold kK at h;cases hk:o.HA==0
  · simp only [hk,HX,H3] at h;obtain ⟨_,_,_,_,_,_,hl,_⟩:=h;unfold qY at hl;simp only [H3,List.all_eq_true,iG,beq_iff_eq] at hl;exact ⟨by omega,hl.1⟩
  · simp only [hk,HY,H3,decide_eq_true_eq] at h;rw [h.2.2];simp [blank]
theorem B7 {o:cd} (h:kK o=true) (hk:(o.HA != 0)=true):ia o.box (-1) 9=true∧ia o.HP 0 4=true∧ia o.iK 0 1000000=true∧ia o.gE 0 8=true:=by
  unfold kK at h
  have hk:(o.HA==0)=false:=by simpa [bne] using hk
  simp only [hk,HX,H3] at h;exact ⟨h.2.2.1,h.2.2.2.1,h.2.2.2.2.1,h.2.2.2.2.2.1⟩
def rl (l:List cd) (i:Int):Bool:=(nth l i).HA==0
def tN (l:List cd) (o:cd):Bool:=o.g5.all fun y=>!(decide (y ≥ 0)&&rl l y)
def ss (l:List cd) (k:Nat) (o:cd):Bool:=(kK o&&!(decide ((k:Int) > 0)&&(o.HA != 0&&(decide (o.box ≥ 0)&&rl l o.box))))&&tN l o
def uA (l:List cd):Bool:=((nth l 0).HA != 1) || (((nth l 0).box != (-1)) || ((nth l 0).iK != 1000000))
def kg (l:List cd):Bool:=!((l.length:Int) != 10)&&(!uA l&&allI (ss l) 0 l)
theorem BD {N:Nat} (hN:gS≤N) {l:List cd} (hl:l.length=10) {o:cd} (ho:o.g5.length≤2) (hr:∀ y,y ∈ o.g5→-1≤y∧y≤9) :
    iter (fun (s75:Int)=>(bif (decide (s75<(o.g5.length:Int))) then ((idx o.g5 s75).bind fun y96=>(bif (decide (y96 ≥ 0)) then ((idx l y96).bind fun y108=>some (y108.HA==0)) else (some false):Option Bool).bind fun j105=>bif j105 then (some (.inr (.inr false))) else (some (.inl (i64.wrap (s75+1))))) else (some (.inr (.inl s75))):Option (Int⊕(Int⊕Bool)))) N 0=some (if tN l o then .inl (o.g5.length:Int) else .inr false):=by
  have hB:o.g5.length<gS:=Nat.lt_of_le_of_lt ho (by decide);rw [jY o.g5 (fun _ y=>!(decide (y ≥ 0)&&rl l y)) (.inl (o.g5.length:Int)) (.inr false) (Nat.lt_of_lt_of_le hB hN),kq]
  · rfl
  · intro k y hy hk;have hm:=hr y (List.mem_of_getElem? hy);simp only [iX hk,HY,iz,hy,HW,i5 (Nat.lt_trans hk hB)];cases h0:decide (y ≥ 0)
    · rfl
    · have h0:y ≥ 0:=by simpa using h0
      simp only [HY,je (l:=l) (i:=y) h0 (by omega),HW,H0];unfold rl;cases (nth l y).HA==0<;>rfl
  · simp only [iW,HX]
theorem Ec {l:List cd} (hl:l.length=10) {o:cd} (ho:kK o=true):(bif (decide (o.box ≥ 0)) then ((idx l o.box).bind fun y58=>some (y58.HA==0)) else (some false):Option Bool)=some (decide (o.box ≥ 0)&&rl l o.box)∨(o.HA != 0)=false:=by
  cases hk:o.HA != 0
  · exact .inr rfl
  · left;obtain ⟨hb,_⟩:=B7 ho hk;rw [iG] at hb;cases h0:decide (o.box ≥ 0)
    · rfl
    · have h0:o.box ≥ 0:=by simpa using h0
      simp only [HY,je (l:=l) (i:=o.box) h0 (by omega),HW,H0];rfl
def wA (l:List cd):Prop:=∀ o,o ∈ l→lN o
theorem nQ {N:Nat} (hN:gS≤N) {l:List cd} (hb:iL gX l<gS) (hw:wA l):kk N l=some (kg l):=by
  have hlB:=lr hb;unfold kk kg;cases h10:((l.length:Int) != 10)
  · have hl:l.length=10:=wq (n:=10) h10;rw [je (l:=l) (i:=0) (by omega) (by omega)];simp only [HX,HW,lB,Bool.not_false,H0];rw [show ((nth l 0).HA != 1 || ((nth l 0).box != (-1) || (nth l 0).iK != 1000000))=uA l from rfl];cases uA l
    · simp only [HX,Bool.not_false,H0];rw [jY l (ss l) (.inl (l.length:Int)) (.inr false) (Nat.lt_of_lt_of_le hlB hN)]
      · simp only [HW];cases allI (ss l) 0 l<;>rfl
      · intro k y hy hk;have hm:=List.mem_of_getElem? hy;simp only [iX hk,HY,iz,hy,HW,zV hN (jG hb hm) (hw y hm),i5 (Nat.lt_trans hk hlB)];unfold ss;cases ho:kK y
        · rfl
        · obtain ⟨q1,q2⟩:=sj ho;rw [BD hN hl q1 q2]
          rcases Ec hl ho with q | q
          · rw [q];simp only [HZ,HX,H0,ns,HW];cases y.HA != 0<;>cases decide ((k:Int) > 0)<;>cases (decide (y.box ≥ 0)&&rl l y.box)<;>cases tN l y<;>rfl
          · simp only [q,HZ,HX,H0,Bool.false_and,Bool.and_false,ns,HW];cases tN l y<;>rfl
      · simp only [iW,HX]
    · rfl
  · rfl
theorem sE {N:Nat} (hN:gS≤N) {l:List Int} {x:Int} (hb:l.length<gS):kP N l x=some (l.contains x):=by
  unfold kP;rw [jY l (fun _ y=>!(y==x)) (.inl (l.length:Int)) (.inr true) (Nat.lt_of_lt_of_le hb hN),kq]
  · have:(l.all fun y=>!(y==x))=!l.contains x:=by
      induction l with
      | nil=>rfl
      | cons y l ih =>
        have ih:=ih (Nat.lt_trans (Nat.lt_succ_self _) hb);rw [List.all_cons,ih,List.contains_cons,Bool.beq_comm (a:=x)];cases (y==x)<;>rfl
    rw [this,HW];cases l.contains x<;>rfl
  · intro k y hy hk;simp only [iX hk,HY,iz,hy,HW,i5 (Nat.lt_trans hk hb)];cases (y==x)<;>rfl
  · simp only [iW,HX]
def ua (g:List Int) (k:Nat) (y:Int):Bool:=ia y 0 9&&!(g.take k).contains y
def wH (g:jK):Bool:=((g.HD==0)&&(g.HL==0)) || ((g.HD==1)&&(ia g.HL 0 9&&((g.gQ.length:Int)==0)))
def ki (h:g7):Bool:=kg h.ag&&(wH h.gc&&(ia h.gc.HF 0 1000000&&allI (ua h.gc.gQ) 0 h.gc.gQ))
theorem Eh {α:Type} {l:List α} {k:Nat} (h:l.length<gS):(l.take k).length<gS:=Nat.lt_of_le_of_lt (by simp;omega) h
theorem D9 (n:Nat):decide ((n:Int) > 0)=!((n:Int)==0):=by
  cases n with
  | zero=>rfl
  | succ n=>rw [decide_eq_true (by omega)];simp;omega
theorem sI {N:Nat} (hN:gS≤N) {h:g7} (h1:iL gX h.ag<gS) (h2:h.gc.gQ.length<gS) (hw:wA h.ag):ma N h=some (ki h):=by
  unfold ma ki;rw [jY h.gc.gQ (ua h.gc.gQ) (.inl (h.gc.gQ.length:Int)) (.inr false) (Nat.lt_of_lt_of_le h2 hN)]
  · simp only [HW,ny,ke,nQ hN h1 hw,lB,D9];cases kg h.ag
    · rfl
    cases ia h.gc.HF 0 1000000
    · simp
    unfold wH
    by_cases q0:h.gc.HD=0
    · have e0:(h.gc.HD==0)=true:=by simp [q0]
      have e1:(h.gc.HD==1)=false:=by simp [q0]
      have e2:ia h.gc.HD 0 1=true:=by rw [q0];decide
      rw [e0,e1,e2];simp only [bne];cases h.gc.HL==0
      · rfl
      · cases allI (ua h.gc.gQ) 0 h.gc.gQ<;>rfl
    by_cases q1:h.gc.HD=1
    · have e0:(h.gc.HD==0)=false:=by simp [q1]
      have e1:(h.gc.HD==1)=true:=by simp [q1]
      have e2:ia h.gc.HD 0 1=true:=by rw [q1];decide
      rw [e0,e1,e2];cases ia h.gc.HL 0 9
      · rfl
      cases ((h.gc.gQ.length:Int)==0)
      · rfl
      · cases allI (ua h.gc.gQ) 0 h.gc.gQ<;>rfl
    · have e0:(h.gc.HD==0)=false:=by simp [q0]
      have e1:(h.gc.HD==1)=false:=by simp [q1]
      have e2:ia h.gc.HD 0 1=false:=by
        rw [Bool.eq_false_iff,Ne,iG];omega
      rw [e0,e1,e2];rfl
  · intro k y hy hk;simp only [iX hk,HY,iz,hy,HW,ny,yE (Nat.le_of_lt hk),sE hN (Eh h2),i5 (Nat.lt_trans hk h2)];unfold ua;cases ia y 0 9<;>cases (h.gc.gQ.take k).contains y<;>rfl
  · simp only [iW,HX]
def mh (t:iS):Bool:=(ia t.HP 0 4&&(ia t.j6 0 2&&(ia t.oq 0 4&&ia t.mg 0 2)))&&(((t.HA==1)&&ia t.mV 0 1000) || ((t.HA==2)&&ia t.mV 0 100))
theorem uc (N:Nat) (t:iS):mO N t=some (mh t):=by
  unfold mO mh;simp only [rh,ke,HW,lB,ns]
  by_cases q:t.HA=1
  · have e1:(t.HA==1)=true:=by simp [q]
    have e2:(t.HA==2)=false:=by simp [q]
    rw [e1,e2];cases ia t.HP 0 4<;>cases ia t.j6 0 2<;>cases ia t.oq 0 4<;>cases ia t.mg 0 2<;>cases ia t.mV 0 1000<;>rfl
  · have e1:(t.HA==1)=false:=by simp [q]
    rw [e1];cases ia t.HP 0 4<;>cases ia t.j6 0 2<;>cases ia t.oq 0 4<;>cases ia t.mg 0 2<;>cases (t.HA==2)<;>cases ia t.mV 0 100<;>rfl
def Bx (p:bh):Bool:=ia p.HH 0 9&&(ia p.HJ 0 10&&(iT p.gP&&(ia p.g8 0 1000000&&ia p.HG 0 1000000)))
def jr (p:bh):Bool:=iU p.HB&&(kp p.own&&(jH p.HC&&(ki p.py&&(!decide ((p.gR.length:Int) > 3)&&(p.gR.all mh&&Bx p)))))
def wP (p:bh):Prop:=wA p.py.ag
theorem ph {N:Nat} (hN:gS≤N) {p:bh} (h:ib p<gS) (hw:wP p):kH N p=some (jr p):=by
  obtain ⟨h1,h2,h3,h4,h5,h6⟩:=kc h;unfold kH jr;rw [jY p.gR (fun _ t=>mh t) (.inl (p.gR.length:Int)) (.inr false) (Nat.lt_of_lt_of_le h6 hN),kq]
  · simp only [HW,qD hN h1,uf hN h2,rj hN,sI hN h4 h5 hw,ny,ke,nq,lB,ns];unfold Bx;cases iU p.HB
    · rfl
    cases kp p.own
    · rfl
    cases jH p.HC
    · rfl
    cases ki p.py
    · rfl
    cases decide ((p.gR.length:Int) > 3)
    · simp only [HZ,Bool.not_false,Bool.false_or,H0];cases ia p.HH 0 9<;>cases ia p.HJ 0 10<;>cases iT p.gP<;>cases ia p.g8 0 1000000<;>cases ia p.HG 0 1000000<;>cases p.gR.all mh<;>rfl
    · rfl
  · intro k y hy hk;simp only [iX hk,HY,iz,hy,HW,uc,i5 (Nat.lt_trans hk h6)];cases mh y<;>rfl
  · simp only [iW,HX]
end Go.Kx
