import Derived.Test.YtfmfgnhbgcjajaaGreatDat
import Derived.WalkKit
import Derived.ProofKit
import Derived.OpenShut
import Derived.JoinedCond
import Derived.ChangeArms
import Derived.ChangeSame
import Derived.Below
import Derived.Carry
namespace Go.Kx
open Go Go.RowKit Go.ChangeShapes Go.WideShapes Go.ChangeAt
set_option linter.unusedVariables false
set_option linter.unusedSimpArgs false
section
variable {P:Program} {α:Type} [dp α] [Fit α]
def Op(P:Program)(t:TypeId)(α:Type)[dp α][Fit α]:Prop:=∀{H:Type} {enc:TypeId×Value->H} {W:World} {base:Nat} {sp:Nat->Bool} {held:Bool} {n:Nat} {cs:List Value} {x:DataW H×List MemPlace},
  DataW.trod enc P W base sp held n t cs=some x->∃a:α,dp.rd (eJ W []) W cs a/\Fit.fit a
def Hb(P:Program)(t:TypeId)(α:Type)[dp α][Fit α]:Prop:=∀{H:Type} {enc:TypeId×Value->H} {W:World} {base:Nat} {sp:Nat->Bool} {held:Bool} {n:Nat} {cs:List Value} {x:DataW H×List MemPlace},
  DataW.trod enc P W base sp held n t cs=some x->∃a c, ∃l:List α,cs=[.slice a l.length c]/\dX (eJ W []) W a c l/\Fit.fit l
theorem Pm{n:Int}(h:(Lit.int .i64 n).wf=true):Fit.fit n:=by
  have:-9223372036854775808<=n/\n<=9223372036854775807:=by simp[Lit.wf,IntKind.min,IntKind.max,IntKind.signed,IntKind.bits]at h;omega
  exact this
theorem Op.int{t:TypeId}(h:P.underlying t=some (.int .i64)):Op P t Int:=fun hx=>by
  obtain⟨n,rfl,_,hw⟩:=DataW.trod_int h hx;exact⟨n,rfl,Pm hw⟩
theorem wf_u8{n:Int}(h:(Lit.int .u8 n).wf=true):Fit.fit (U8.mk n):=by
  have:0<=n/\n<=255:=by simp[Lit.wf,IntKind.min,IntKind.max,IntKind.signed,IntKind.bits]at h;omega
  exact this
theorem Op.u8{t:TypeId}(h:P.underlying t=some (.int .u8)):Op P t U8:=fun hx=>by
  obtain⟨n,rfl,_,hw⟩:=DataW.trod_int h hx;exact⟨⟨n⟩,rfl,wf_u8 hw⟩
theorem Op.bool{t:TypeId}(h:P.underlying t=some .bool):Op P t Bool:=fun hx=>by
  obtain⟨b,rfl,_⟩:=DataW.trod_bool h hx;exact⟨b,rfl,trivial⟩
theorem NG{β:Type}{len:Nat}{R:Nat->β->Prop}(h:∀i,i<len->∃b,R i b):∃l:List β,l.length=len/\∀i b,l[i]?=some b->R i b:=by
  induction len with
  | zero=>exact⟨[],rfl,by simp⟩
  | succ n ih =>
    obtain⟨l,hl,hr⟩:=ih fun i hi=>h i (by omega);obtain⟨b,hb⟩:=h n (by omega);refine⟨l++[b],by simp[hl],fun i c hc=>?_⟩;rw[List.getElem?_append]at hc;split at hc
    · exact hr i c hc
    · rename_i hi
      have:i-l.length=0:=by
        have:=(List.getElem?_eq_some_iff.1 hc).1;simp at this;omega
      rw[this]at hc
      have hi':i=n:=by omega
      subst hi';simp at hc;subst hc;exact hb
theorem Hb.of{t e:TypeId}(h:P.underlying t=some (.slice e))(hm:P.cellsOf e=dp.sz α)(K:Op P e α):Hb P t α:=fun{H enc W base sp held n cs x} hx=>by
  rcases DataW.trod_slice h hx with⟨rfl,_⟩|⟨a,len,cap,elems,rest,n,rfl,rfl,_,hb,hl,hc,hlen,hel,_,_⟩
  · exact⟨none,0,[],rfl,dX.nil _ _ _ _ (Nat.zero_le _),And.intro (Nat.zero_le _) (by simp)⟩
  · have h1:∀i,i<len->∃y:α, ∃cs',W.cells? base (a.add (i*dp.sz α)) (dp.sz α)=some cs'/\dp.rd (eJ W []) W cs' y/\Fit.fit y:=fun i hi=>by
      have q:=hel i hi;rw[hm]at q;rw[List.getElem?_eq_getElem (by omega)]at q
      cases hcs:W.cells? base (a.add (i*dp.sz α)) (dp.sz α)with
      | none=>rw[hcs]at q;cases q
      | some cs' =>
        rw[hcs]at q;obtain⟨y,hy⟩:=K (show DataW.trod enc P W base sp held n e cs'=some _ from q);exact⟨y,cs',rfl,hy⟩
    obtain⟨l,rfl,hr⟩:=NG h1;refine⟨some a,cap,l,rfl,⟨hl,hc,fun hne=>?_⟩,And.intro (Nat.le_trans hl hc) fun y hy=>?_⟩
    case refine_2 =>
      obtain⟨i,hi⟩:=List.getElem?_of_mem hy;obtain⟨_,_,_,hf⟩:=hr i y hi;exact hf
    have hpos:0<l.length:=List.length_pos_iff.2 hne;obtain⟨y0,cs0,q0,_,_⟩:=h1 0 hpos;have hz:=dp.pos (α:=α);have hbl:=World.cells?_block q0 hz;obtain⟨_,q1,q2⟩:=World.cells?_some q0
    have hsp:a.spot=none:=by
      have:=q2 0 hz;rw[Nat.zero_mul]at this;simp only[Addr.add,if_true]at this;unfold World.cell? at this
      cases hsp:a.spot with
      | none=>rfl
      | some s =>
        rw[hsp]at this
        have h0:(cs0[0]?:Option Value)=none:=by
          rw[<- this];split<;>simp
        rw[List.getElem?_eq_none_iff]at h0;omega
    obtain⟨b,o,s⟩:=a;cases hsp;refine⟨b,o,rfl,⟨by simpa[Addr.add]using hbl,by simp⟩,fun k y hy=>?_⟩;obtain⟨cs',q,hrd,_⟩:=hr k y hy;refine⟨cs',hrd,fun j u hu=>?_⟩;obtain⟨_,q1,q2⟩:=World.cells?_some q
    have hj:j<dp.sz α:=by
      have:=(List.getElem?_eq_some_iff.1 hu).1;omega
    have:=q2 j hj;rw[hu]at this;rw[add_lit,add_lit]at this;exact this
end
section
variable {H:Type} {enc:TypeId×Value->H} {P:Program} {W W':World}
theorem Op.arg{α:Type}[dp α][Fit α]{t:TypeId}{v:Value}{d:DataW H}{ps:List MemPlace}{base:Nat}{sp:Nat->Bool}{held:Bool}(K:Op P t α)(h:DataW.Trod enc P W base sp held t v d ps):∃a:α,dp.rd (eJ W []) W v.cells.toList a/\Fit.fit a:=by
  obtain⟨n,h⟩:=h;exact K h
theorem Hb.arg{α:Type}[dp α][Fit α]{t:TypeId}{v:Value}{d:DataW H}{ps:List MemPlace}{base:Nat}{sp:Nat->Bool}{held:Bool}(K:Hb P t α)(h:DataW.Trod enc P W base sp held t v d ps):
    ∃a c, ∃l:List α,v.cells.toList=[.slice a l.length c]/\dX (eJ W []) W a c l/\Fit.fit l:=by
  obtain⟨n,h⟩:=h;exact K h
theorem D6(hl:laidOutB P=true)(hb:Below W.heap.size W W'){sp:Nat->Bool}:∀{ts:List TypeId} {vs:List Value} {ds:List (DataW H)} {ps:List MemPlace},(∀t∈ts,P.readableRec t=true/\t<P.types.size) ->
    DataW.TrodAll enc P W 0 (fun _=>true) true ts vs ds ps->(∀p∈ps,p.block<W.heap.size)->(∀p∈ps,sp p.block=true)->DataW.TrodAll enc P W' 0 sp true ts vs ds ps
  | [],[],[],_,_,h,_,_=>h
  | t::_,_::_,_::_,_,ht,⟨p,q,h,hs,e⟩,hlt,hsp =>
    ⟨p,q,WideElems.Trod_stays hl (ht t (by simp)).1 (ht t (by simp)).2 h (fun x hx=>hb.same (hlt x (by rw[e];exact List.mem_append_left _ hx))) (fun x hx=>hsp x (by rw[e];exact List.mem_append_left _ hx)),
      D6 hl hb (fun t h=>ht t (List.mem_cons_of_mem _ h)) hs (fun x hx=>hlt x (by rw[e];exact List.mem_append_right _ hx)) (fun x hx=>hsp x (by rw[e];exact List.mem_append_right _ hx)),e⟩
theorem Ky{f:Func}{s:ChangeSpec}{apart fresh handsOn again:Bool}{args:Array Value}{v:Value}{ds gs:List (DataW H)}{before pa pv:List MemPlace}
    (hW:DataW.Whole enc P f.params.toList s.vars apart W args.toList ds gs before)
    (hres:∀(b:Nat) (sp:Nat->Bool) (hd:Bool),DataW.TrodAll enc P W' b sp hd f.resultTypes.toList (v.resultList f.resultTypes.size) (s.fn H (ds++gs)).results [])
    (hargs:∀sp:Nat->Bool,(∀p∈before,sp p.block=true)->DataW.TrodAll enc P W' 0 sp true f.params.toList args.toList (s.fn H (ds++gs)).args pa)
    (hvars:∀sp:Nat->Bool,(∀p∈before,sp p.block=true)->DataW.TrodVars enc P W' sp s.vars (s.fn H (ds++gs)).vars pv)
    (hps:before=pa++pv) (hb:Below W.heap.size W W')
    (hok:∀(j:Nat) (t:TypeId) (r:Value),f.resultTypes[j]?=some t->(v.resultList f.resultTypes.size)[j]?=some r->Value.okWide P W' .any 0 t r) :
    s.post enc P f apart fresh handsOn again W args v W':=by
  have hlt:∀p∈before,p.block<W.heap.size:=fun p hp=>hW.lt p hp
  have hold:∀p∈before,(fun b=>decide (b<W.heap.size)) p.block=true:=fun p hp=>by simpa using hlt p hp
  refine⟨ds,gs,before,[],pa,pv,hW,hres _ _ _,hargs _ hold,hvars _ hold,World.keptBut_mono (fun p hp=>⟨hp,?_⟩) (hb.frame (· ∈ before)),fun _=>?_⟩
  · rw[hps,List.mem_append]at hp;exact Or.inr hp
  · obtain⟨_,_,_,_,_,hz,hn⟩:=hW;refine⟨hok,_,_,([]++pa)++pv,⟨[]++pa,pv,trodAll_append (hargs _ (fun _ _=>rfl)) (hres _ _ _),hvars _ (fun _ _=>rfl),rfl,?_,?_⟩,?_⟩
    · intro b off hp
      have hin:MemPlace.cell b off∈before:=by rw[hps];simpa using hp
      rw[hb.frozen (hlt _ hin)];exact hz b off hin
    · intro ha;have:=hn ha;rw[hps]at this;simpa using this
    · intro p hp _;rw[hps];simpa using hp
theorem N2{f:Func}{s:ChangeSpec}{args:Array Value}{ds gs:List (DataW H)}{before:List MemPlace}{t:TypeId}(hl:laidOutB P=true)(hts:∀t∈f.params.toList,P.readableRec t=true/\t<P.types.size)
    (hv:s.vars=[]) (hr:f.resultTypes=#[t]) (ht:P.underlying t=some .bool) (hW:DataW.Whole enc P f.params.toList s.vars false W args.toList ds gs before)
    (hs1:gs=[]->(s.fn H (ds++gs)).results=[.lit (.bool true)]) (hs2:gs=[]->(s.fn H (ds++gs)).args=ds) (hs3:gs=[]->(s.fn H (ds++gs)).vars=[]) (hb:Below W.heap.size W W') :
    s.post enc P f false true false false W args (.bool true) W':=by
  have hW':=hW;obtain⟨p,q,hA,hV,hbef,hfz,hnd⟩:=hW';have hV':=hV;rw[hv]at hV';obtain⟨hg,hq⟩:=trodVars_none hV';refine Ky (pa:=p) (pv:=q) hW ?_ ?_ ?_ hbef hb ?_
  · intro b sp hd;rw[hs1 hg,hr];exact trodAll_cons_mk (shut_bool ht true) trodAll_mk0
  · intro sp hsp;rw[hs2 hg];exact D6 hl hb hts hA (fun x hx=>hW.lt x (by rw[hbef];exact List.mem_append_left _ hx)) (fun x hx=>hsp x (by rw[hbef];exact List.mem_append_left _ hx))
  · intro sp hsp;rw[hs3 hg,hv,hq];rfl
  · exact ok_one hr rfl (okWide_bool_mk ht _)
end
end Go.Kx
