import Derived.Test.YtlcgibcdiikheaaGreatWa38
namespace Go.Kx
open Go Go.RowKit Go.Proofs
open Tryz
set_option maxRecDepth 10000
set_option maxHeartbeats 8000000
set_option linter.unusedVariables false
set_option linter.unusedSimpArgs false
theorem zI {w0 N j r} (h:qZ N j=some r) {b f d} (g:f=j.parts.length) (i:rb w0 b d j.parts) :
    iq prog 16 #[.agg #[vI j.PQ,vS b f d]] w0 (fun v w=>v=.bool r∧St w0 [] w []):=by
 subst g;unfold qZ at h;refine iq.fn func16 fun e=>?_;have ap:=St.start w0;refine T ?_;intro aM aN q;obtain ⟨Z,A,C⟩:=ob h;refine CW.jn [1] [0] [(14,.bool Z)] q (h1:=?_) (h2:=?_)
 · have h:=A;refine T ?_;intro aQ ay h aO aq;refine bH h ?_ ?_<;>intro _ h
   · exact rt
   refine T ?_;intro aR az h aP ar;exact rt
 intro e aC z;have h:=C;refine gc h ?_ ?_<;>intro _ h
 · exact rt
 refine go ?_;obtain ⟨l,n,k⟩:=ob h;refine CW.mono (CW.lx [1] [0] [1] 0 (fun m=>[(3,vI m)]) (RT prog f16.results (fun u=>.bool u) w0 []) z n (hb:=?_)) ?_
 · intro m e aD o au h;refine gc h ?_ ?_<;>intro _ h
   · refine gb h fun aI p h=>?_;obtain ⟨ah,aA,B,rfl,H,J,K,⟨aa,ai,ab,aj,ac,ak,ad,am,ae,an,af,ao,rfl,L,M,O,R,U,V⟩,I⟩:=i.idx p;refine go ?_;refine T ?_;intro aJ W h aE av;refine CW.fl [1,3,28] fun e=>?_;refine gc h ?_ ?_<;>intro _ h
     · exact rt
     exact rt
   exact rt
 intro x e aF hM;rcases l with l | aB
 · obtain ⟨rfl,hM⟩:=hM;obtain ⟨e,rfl,aw⟩:=eo hM;have h:=k;refine T ?_;intro aK X h aG ax aL Y h aH G;exact rt
 obtain ⟨rfl,u,rfl,hM⟩:=hM;cases k;exact And.intro trivial hM
instance k_16:Ct prog 16:=⟨by kernel_rfl,@zI⟩
theorem E2 {w0 N b R U r} (h:rf N b R U=some r) {d u l} (G:u=b.PB.PA.length) (V:rb w0 d l b.PB.PA) {f x m} (H:x=b.own.length) (W:rb w0 f m b.own) {g z n} (I:z=b.PC.length) (X:rb w0 g n b.PC) {i A o} (J:A=b.py.ag.length) (M:rb w0 i o b.py.ag) {j B p} (K:B=b.py.gc.hZ.length) (Y:rb w0 j p b.py.gc.hZ) {k C q} (L:C=b.ia.length) (Z:rb w0 k q b.ia) :
    iq prog 85 #[.agg #[vS d u l,vS f x m,vS g z n,vS i A o,vI b.py.gc.PD,vI b.py.gc.PL,vI b.py.gc.PF,vS j B p,vS k C q,vI b.PJ,vI b.PI,vI b.hY.bh,vI b.hY.ib,vI b.hY.ij,vI b.ik,vI b.PH],vI R,vI U] w0 (fun v w=>v=.bool r∧St w0 [] w []):=by
 subst G H I J K L;unfold rf at h;refine iq.fn func85 fun e=>?_;have ar:=St.start w0;refine T ?_;intro aD aE au;refine T ?_;intro aH ax h aB aC aF av aI ay h aG aw;refine bH h ?_ ?_<;>intro _ h
 · refine gb h fun aA O h=>?_;obtain ⟨an,az,aa,rfl,ab,ad,ae,⟨aj,ao,ak,ap,am,aq,rfl,af,ah,ai⟩,ac⟩:=M.idx O;refine go ?_;refine T ?_;exact rt
 exact rt
instance k_85:Ct prog 85:=⟨by kernel_rfl,@E2⟩
theorem xg {w0 N b M O R r} (h:nA N b M O R=some r) {d u l} (G:u=b.PB.PA.length) (U:rb w0 d l b.PB.PA) {f x m} (H:x=b.own.length) (V:rb w0 f m b.own) {g z n} (I:z=b.PC.length) (W:rb w0 g n b.PC) {i A o} (J:A=b.py.ag.length) (X:rb w0 i o b.py.ag) {j B p} (K:B=b.py.gc.hZ.length) (Y:rb w0 j p b.py.gc.hZ) {k C q} (L:C=b.ia.length) (Z:rb w0 k q b.ia) :
    iq prog 266 #[.agg #[vS d u l,vS f x m,vS g z n,vS i A o,vI b.py.gc.PD,vI b.py.gc.PL,vI b.py.gc.PF,vS j B p,vS k C q,vI b.PJ,vI b.PI,vI b.hY.bh,vI b.hY.ib,vI b.hY.ij,vI b.ik,vI b.PH],vI M,vI O,vI R] w0 (fun v w=>v=.tuple #[vI r.1,vI r.2]∧St w0 [] w []):=by
 subst G H I J K L;unfold nA at h;refine iq.fn func266 fun e=>?_;have aa:=St.start w0;refine T ?_;intro ak am ab ap af h an ac;refine gc h ?_ ?_<;>intro _ h
 · exact rt
 refine T ?_;intro aq ah h ao ad;refine gc h ?_ ?_<;>intro _ h
 · exact rt
 refine T ?_;intro ar ai h aj ae;refine CW.fl [10,26] fun e=>?_;refine gc h ?_ ?_<;>intro _ h
 · exact rt
 exact rt
instance k_266:Ct prog 266:=⟨by kernel_rfl,@xg⟩
end Go.Kx
