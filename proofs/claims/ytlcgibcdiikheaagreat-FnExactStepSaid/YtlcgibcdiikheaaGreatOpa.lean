import Derived.Test.YtlcgibcdiikheaaGreatEnv
import Derived.OrdersHeld
namespace Go.Kx
open Go Go.RowKit
set_option linter.unusedVariables false
set_option linter.unusedSimpArgs false
theorem J4 (zc:List Value) (hz:0<zc.length):∀ (m j:Nat),j<m * zc.length→(List.replicate m zc).flatten[j]?=zc[j % zc.length]?
  | 0,j,h=>by simp at h
  | m+1,j,h=>by
    rw [List.replicate_succ,List.flatten_cons]
    by_cases hj:j<zc.length
    · rw [List.getElem?_append_left hj,Nat.mod_eq_of_lt hj]
    · rw [List.getElem?_append_right (by omega),J4 zc hz m (j - zc.length) (by rw [Nat.succ_mul] at h;omega)];congr 1;rw [Nat.mod_eq_sub_mod (by omega:j ≥ zc.length)]
section
variable {P:Program} {w0 w:World} {F0:List Nat} {L M:List Item} {α:Type} [qe α]
variable {n:Nat} {Q:tr} {e:Env} {ops:Array Oper} {rest:List Oper} {ty:TypeId} {pos:String} {aft:Array Edge} {d:Nat} {v:Value}
theorem LW.B9 {t:TypeId} {x y:Operand} {av:Option Nat} {i:Nat} {g o0 off:Nat} {c:Nat} {l:List α} {k:Int} {z z':α} {o:Nat} {vs:Array Value}
    (hS:St w0 F0 w (M++L)) (hi:L[i]?=some (sl (some ⟨g,o0,none⟩) c l)) (hk:idx l k=some z) (ht:rr P t=some av) (hx:ev e x=.pointer (some ⟨g,off,none⟩)) (hoff:off=o0+k.toNat * qe.sz α+o)
    (hy:(ev e y).cells=vs) (hm:vs.size=av.getD 1) (h1:vs.toList.all (·.oneCell')=true) (hold:Nat.ble (o+vs.size) (qe.sz α)=true)
    (hM:∀ (w:World) (cs:List Value) (F G:List Nat),qe.own w cs F z→qX M w G→∃ F',qe.own w (cs.take o++vs.toList++cs.drop (o+vs.toList.length)) F' z'∧(∀ b,b ∈ F'→b ∈ F∨b ∈ G)∧(F.Nodup→G.Nodup→(∀ b,b ∈ F→b ∉ G)→F'.Nodup))
    (h:∀ w':World,St w0 F0 w' (L.set i (sl (some ⟨g,o0,none⟩) c (l.set k.toNat z')))→Fr w w' [g]→LW P n ops Q rest e w'):LW P n ops Q (⟨none,.store t x y,ty,pos,aft,none⟩::rest) e w:=by
  have hold:=Nat.le_of_ble_eq_true hold;obtain ⟨g',o0',cur,ha,h0,hlt,hg,hsz,hst⟩:=St.OI (o:=o) (vs:=vs.toList) hS hi hk (by simpa using hold) hM;cases ha;subst hoff;have hr:=run_storeCells_at P g (o0+k.toNat * qe.sz α+o) (qe.ty α) vs.toList 0 cur w hg (by simpa using hsz) (fun u hu=>List.all_eq_true.1 h1 u hu);simp only [Nat.add_zero] at hr;refine LW.HQ (w':=w.setRow g (CP cur (o0+k.toNat * qe.sz α+o) vs.toList)) ?_ (h _ hst ⟨by simp,fun b _ hb=>setRow_other w g b _ (by simpa using hb)⟩);have:=xD (w:=w) ht;simp [execOp,Instr.storeAt,Instr.sureAddr,hx,storeVar,hy,hm,this.2,hr,CP]
theorem LW.mk {t:TypeId} {x y:Operand} {m:Int} {l:List α} (hT:vw P t α) (hx:ev e x=.int .i64 m) (hy:ev e y=.int .i64 m) (hl:Kx.mk α m=some l) (hS:St w0 F0 w L) (hd:Nat.ble (d+1) n=true)
    (h:∀ (a:Option Addr) (c:Nat) (w':World),St w0 F0 w' (sl a c l::L)→Fr w w' []→LW P n ops Q rest (tm e d (.slice a l.length c)) w'):LW P n ops Q (⟨some d,.makeSlice t x y,ty,pos,aft,none⟩::rest) e w:=by
  unfold Kx.mk at hl;split at hl
  case isFalse=>cases hl
  case isTrue hb =>
  obtain ⟨h0,hb⟩:=hb;cases hl;obtain ⟨i,z,hi,hz,hs,hby,hzc⟩:=hT.info;unfold pW at hb
  have hbytes:(i.bytes:Int) * m≤281474976710656:=by
    have h1:(i.bytes:Int) * m≤4096 * 16777216:=Int.mul_le_mul (by omega) (by omega) h0 (by omega);omega
  have hr:=run_make (P:=P) w t _ i z hT.GL hi hz .i64 .i64 m m h0 (Int.le_refl _) hbytes (by omega);have hh:=h (some ⟨w.heap.size,0,none⟩) m.toNat (w.alloc (.cells (madeCells z.cells (m.toNat * i.size)) (qe.ty α)));simp only [List.length_replicate] at hh
  have hrun:(execOp (ev e) ⟨some d,.makeSlice t x y,ty,pos,aft,none⟩).run P w=.ok (.value (.slice (some ⟨w.heap.size,0,none⟩) m.toNat m.toNat)) (w.alloc (.cells (madeCells z.cells (m.toNat * i.size)) (qe.ty α))):=by
    simp [execOp,hx,hy,hr]
  refine LW.run hrun hd (hh (St.add (M:=[_]) hS ?_) ⟨by simp,fun b hb _=>Below.heap_alloc w _ b hb⟩)
  have hlen:∀ u,u ∈ List.replicate m.toNat (qe.zc α)→u.length=qe.sz α:=by
    intro u hu;rw [(List.mem_replicate.1 hu).2];exact qe.rn (qe.rH w)
  have hcells:(madeCells z.cells (m.toNat * i.size)).toList=(List.replicate m.toNat (qe.zc α)).flatten:=by
    have hzl:z.cells.size=qe.sz α:=by rw [← Array.length_toList,hzc];exact qe.rn (qe.rH w)
    apply List.ext_getElem?;intro j;have hz0:=qe.pos (α:=α)
    have hfl:(List.replicate m.toNat (qe.zc α)).flatten.length=m.toNat * qe.sz α:=by
      simp [List.length_flatten,qe.rn (qe.rH w)]
    by_cases hj:j<m.toNat * qe.sz α
    · have hfr:=J4 (qe.zc α) (by rw [qe.rn (qe.rH w)];exact hz0) m.toNat j (by rw [qe.rn (qe.rH w)];exact hj);rw [hfr,qe.rn (qe.rH w)]
      have hjm:j % qe.sz α<z.cells.size:=by rw [hzl];exact Nat.mod_lt _ hz0
      simp only [madeCells,hs,hzl,Array.toList_map,Array.toList_range,List.getElem?_map,List.getElem?_range hj,Option.map_some];rw [← hzc,Array.getElem?_toList,Array.getElem?_eq_getElem hjm,getElem!_pos z.cells _ hjm]
    · rw [List.getElem?_eq_none (by simp [madeCells,hs];omega),List.getElem?_eq_none (by omega)]
  refine ⟨rfl,rfl,rfl,by simp,fun b hb _=>Below.heap_alloc w _ b hb,[w.heap.size],⟨[w.heap.size],[],rfl,.inr ⟨_,0,_,_,rfl,heap_alloc_new w _,?_,by simp,by unfold maxLen;omega,rfl,?_⟩,rfl⟩,by simp,by simp⟩
  · rw [← Array.length_toList,hcells];simp [List.length_flatten,qe.rn (qe.rH w)]
  · rw [List.drop_zero,hcells];exact sa.ME _
theorem St.CM {F G:List Nat} {w':World} {M:List Item} (hs:w.heap.size≤w'.heap.size) (ho:w'.os=w.os) (ht:w'.tape=w.tape) (hu:w'.output=w.output)
    (hsame:∀ b,b<w.heap.size→b ∉ F→w'.heap[b]?=w.heap[b]?) (hM:qX M w' G) (hn:G.Nodup) (hG:∀ b,b ∈ G→(b ∈ F∨w.heap.size≤b)∧b<w'.heap.size):St w F w' M :=
  ⟨ho,ht,hu,hs,hsame,G,hM,hn,hG⟩
theorem Cj {t ty:TypeId} (hT:vw P t α) {a:Option Addr} {c:Nat} {F G:List Nat} {l ys:List α} (ho:uV w a c F l) {ad:Addr} {cc:Nat} {news:List Value}
    (hl:news.length=ys.length * qe.sz α) (hnews:∀ (j:Nat) (u:Value),news[j]?=some u→w.cell? (ad.add j)=some u) (hels:sa w news G ys)
    (hn:(F++G).Nodup) (hlt:∀ b,b ∈ F++G→b<w.heap.size) (hb:l.length+ys.length<pW) :
    ∃ a' c' w',(Builtin.append_ #[t,t] ty #[.slice a l.length c,.slice (some ad) ys.length cc]).run P w=.ok (.slice a' (l++ys).length c') w'∧St w (F++G) w' [sl a' c' (l++ys)]∧Fr w w' ((a.map (·.block)).toList):=by
  obtain ⟨i,z,hi,hz,hs,hby,hzc⟩:=hT.info;unfold pW at hb
  have hzl:z.cells.size=qe.sz α:=by rw [← Array.length_toList,hzc];exact qe.rn (qe.rH w)
  have h1:∀ u,u ∈ news→u.oneCell'=true:=fun u hu=>sa.one hels u (by rw [← hl,List.take_length];exact hu);obtain ⟨n1,n2,nd⟩:=List.nodup_append.1 hn
  have hby2:(l.length+ys.length) * i.bytes≤140737488355328:=by
    have:(l.length+ys.length) * i.bytes≤16777216 * 4096:=Nat.mul_le_mul (by omega) hby;omega
  have hmx:l.length+ys.length≤maxLen:=by unfold maxLen;omega
  -- what the growing arm leaves
  have grown:∀ (xs:List Value) (F':List Nat) (rR:Nat),sa w xs F' l→xs.length=l.length * qe.sz α→(∀ b,b ∈ F'→b ∈ F)→F'.Nodup→rR<l.length+ys.length →
      St w (F++G) (w.drew.alloc (.cells (xs.toArray++news.toArray++Builtin.zeroCells z.cells (grownCap w (l.length+ys.length) rR (qe.ty α) - (l.length+ys.length))) (qe.ty α)))
        [sl (some ⟨w.heap.size,0,none⟩) (grownCap w (l.length+ys.length) rR (qe.ty α)) (l++ys)]:=by
    intro xs F' rR hex hxl hF' nF' hold;have hge:=grownCap_ge w (l.length+ys.length) rR (qe.ty α);have hcm:grownCap w (l.length+ys.length) rR (qe.ty α)≤maxLen:=grownCap_le_maxLen w (l.length+ys.length) rR (qe.ty α) hmx
    have hblk:∀ k,k<w.heap.size→(w.drew.alloc (.cells (xs.toArray++news.toArray++Builtin.zeroCells z.cells (grownCap w (l.length+ys.length) rR (qe.ty α) - (l.length+ys.length))) (qe.ty α))).heap[k]?=w.heap[k]? :=
      fun k hk=>heap_alloc_old w.drew _ hk
    refine St.CM (G:=w.heap.size::(F'++G)) (by simp) rfl rfl rfl (fun b hbl _=>hblk b hbl)
      ⟨w.heap.size::(F'++G),[],by simp,.inr ⟨w.heap.size,0,_,F'++G,rfl,heap_alloc_new w.drew _,?_,by simpa using hge,hcm,rfl,?_⟩,rfl⟩ ?_ ?_
    · simp only [Array.size_append,List.size_toArray,size_zeroCells,hzl,hxl,hl, ← Nat.add_mul,Nat.zero_add];refine Nat.mul_le_mul_right _ ?_;omega
    · rw [List.drop_zero];simp only [Array.toList_append,List.append_assoc];rw [← List.append_assoc];refine sa.more (sa.append.2 ⟨xs,news,F',G,rfl,rfl,hxl,hex.frame (fun b h=>hblk b (hlt b (List.mem_append_left _ (hF' b h)))),hels.frame (fun b h=>hblk b (hlt b (List.mem_append_right _ h)))⟩) _
    · refine List.nodup_cons.2 ⟨fun hm=>?_,List.nodup_append.2 ⟨nF',n2,fun a ha b hb e=>nd a (hF' a ha) b hb e⟩⟩
      have:w.heap.size ∈ F++G:=by
        rcases List.mem_append.1 hm with h | h
        · exact List.mem_append_left _ (hF' _ h)
        · exact List.mem_append_right _ h
      have:=hlt _ this;omega
    · intro b hbm
      rcases List.mem_cons.1 hbm with rfl | hbm
      · exact ⟨.inr (Nat.le_refl _),by simp⟩
      · have:b ∈ F++G:=by
          rcases List.mem_append.1 hbm with h | h
          · exact List.mem_append_left _ (hF' _ h)
          · exact List.mem_append_right _ h
        exact ⟨.inl this,Nat.lt_of_lt_of_le (hlt b this) (by simp)⟩
  rcases ho with ⟨rfl,rfl,rfl,rfl⟩ | ⟨g,o,cur,F',rfl,hg,hs',k1,k2,rfl,he⟩
  · by_cases hm:ys.length=0
    · have hy0:ys=[]:=List.eq_nil_of_length_eq_zero hm;subst hy0;refine ⟨none,0,w,?_,St.CM (G:=[]) (Nat.le_refl _) rfl rfl rfl (fun _ _ _=>rfl) ⟨[],[],rfl,.inl ⟨rfl,rfl,rfl,rfl⟩,rfl⟩ List.nodup_nil (by simp),⟨Nat.le_refl _,fun _ _ _=>rfl⟩⟩;simp [Builtin.append_,run_underlying hT.GL,sizeOf,typeInfo,hi,Builtin.lenOf,Builtin.firstCells,loadCells,loadCellsFrom]
    · have hr:=run_append_nil (P:=P) w t ty (qe.ty α) i z hT.GL hi hz ad ys.length cc news (by rw [hs];exact hl) hnews (by omega) (by unfold maxLen at hmx;simp at hmx;omega) (by have hb:=hby2;simp only [List.length_nil,Nat.zero_add] at hb;omega);have hg:=grown [] [] 0 rfl (by simp) (by simp) List.nodup_nil (by simp;omega);simp only [List.length_nil,Nat.zero_add,List.nil_append] at hr hg ⊢;exact ⟨_,_,_,hr,by simpa using hg,⟨by simp,fun b hb _=>heap_alloc_old w.drew _ hb⟩⟩
  · obtain ⟨q1,q2⟩:=he.take;obtain ⟨m1,m2⟩:=List.nodup_cons.1 n1
    have hdl:(cur.toList.drop o).length=cur.size - o:=by rw [List.length_drop,Array.length_toList]
    by_cases hroom:l.length+ys.length≤c
    · have hfit:o+l.length * qe.sz α+news.length≤cur.size:=by
        have:(l.length+ys.length) * qe.sz α≤c * qe.sz α:=Nat.mul_le_mul_right _ hroom;rw [Nat.add_mul] at this;omega
      have hfc:=run_firstCells_some (P:=P) w (qe.sz α) ys.length ad ys.length cc news hl hnews;have hst:=run_storeCells_at P g (o+l.length * qe.sz α) (qe.ty α) news 0 cur w hg (by simpa using hfit) (fun u hu=>h1 u hu);simp only [Nat.add_zero] at hst;refine ⟨some ⟨g,o,none⟩,c,w.setRow g (cur.toList.take (o+l.length * qe.sz α)++news++cur.toList.drop (o+l.length * qe.sz α+news.length)).toArray,?_,?_,⟨by simp,fun b _ hb=>setRow_other w g b _ (by simpa using hb)⟩⟩
      · simp [Builtin.append_,run_underlying hT.GL,sizeOf,typeInfo,hi,Builtin.lenOf,hroom,hs,hfc,add_lit,hst]
      · have hoth:∀ b,b ≠ g→(w.setRow g (cur.toList.take (o+l.length * qe.sz α)++news++cur.toList.drop (o+l.length * qe.sz α+news.length)).toArray).heap[b]?=w.heap[b]?:=fun b hb=>setRow_other w g b _ hb
        refine St.CM (G:=g::(F'++G)) (by simp) rfl rfl rfl (fun b _ hno=>hoth b fun e=>hno (by simp [e]))
          ⟨g::(F'++G),[],by simp,.inr ⟨g,o,_,F'++G,rfl,setRow_heap w g cur _ _ _ hg,?_,by simpa using hroom,k2,rfl,?_⟩,rfl⟩ ?_ ?_
        · simp only [List.size_toArray,List.length_append,List.length_take,List.length_drop,Array.length_toList];omega
        · have e:(cur.toList.take (o+l.length * qe.sz α)++news++cur.toList.drop (o+l.length * qe.sz α+news.length)).drop o=((cur.toList.drop o).take (l.length * qe.sz α)++news)++cur.toList.drop (o+l.length * qe.sz α+news.length):=by
            rw [List.append_assoc,List.drop_append_of_le_length (by have hcl:cur.toList.length=cur.size:=Array.length_toList;rw [List.length_take];omega),List.drop_take,Nat.add_sub_cancel_left, ← List.append_assoc]
          simp only [List.toList_toArray] at e ⊢;rw [e];refine sa.more (sa.append.2 ⟨_,news,F',G,rfl,rfl,by rw [List.length_take];omega,q1.frame (fun b h=>hoth b fun e=>m1 (e ▸ h)),hels.frame (fun b h=>hoth b fun e=>nd g (by simp) b h e.symm)⟩) _
        · refine List.nodup_cons.2 ⟨fun hm=>?_,List.nodup_append.2 ⟨m2,n2,fun a ha b hb e=>nd a (by simp [ha]) b hb e⟩⟩
          rcases List.mem_append.1 hm with h | h
          · exact m1 h
          · exact nd g (by simp) g h rfl
        · intro b hbm
          have:b ∈ (g::F')++G:=by simpa using hbm
          exact ⟨.inl this,by simpa using hlt b this⟩
    · have holds:∀ (j:Nat) (u:Value),((cur.toList.drop o).take (l.length * qe.sz α))[j]?=some u→w.cell? ((⟨g,o,none⟩:Addr).add j)=some u:=by
        intro j u hu;rw [List.getElem?_take] at hu;split at hu
        · rw [List.getElem?_drop] at hu;rw [add_lit,cell_of_row w g (o+j) cur _ (0,0) hg];simpa using hu
        · cases hu
      have hxl:((cur.toList.drop o).take (l.length * qe.sz α)).length=l.length * qe.sz α:=by rw [List.length_take];omega
      have hr:=run_append_grow (P:=P) w t ty (qe.ty α) i z hT.GL hi hz ⟨g,o,none⟩ l.length c _ (by rw [hs];exact hxl) holds ad ys.length cc news (by rw [hs];exact hl) hnews (by omega) (by unfold maxLen at hmx;omega) (growslice_fits (by omega) hby2);exact ⟨_,_,_,by rw [List.length_append];exact hr,grown _ F' c q1 hxl (fun b h=>by simp [h]) m2 (by omega),⟨by simp,fun b hb _=>heap_alloc_old w.drew _ hb⟩⟩
def Gn (P:Program) (t:TypeId) (len:Nat) (parts:List (Nat×Value)):Option (TypeId×Array Value) :=
  match P.underlying t with
  | some (.slice el) =>
    match P.info? el with
    | some i =>
      match i.zero with
      | some z=>if len * i.size > 16777216 then none else
        (Instr.fill (fun k=>some (k * i.size,i.size)) ((Array.range (len * i.size)).map ((if len * i.size=0 then #[] else z.cells)[· % (if len * i.size=0 then #[] else z.cells:Array Value).size]!)) parts).map fun cs=>(el,cs)
      | none=>none
    | none=>none
  | _=>none
theorem HD {t el:TypeId} {len:Nat} {parts:Array (Nat×Value)} {cs:Array Value} (h:Gn P t len parts.toList=some (el,cs)) :
    (Instr.buildSlice t len parts).run P w=.ok (.slice (some ⟨w.heap.size,0,none⟩) len len) (w.alloc (.cells cs el)):=by
  unfold Gn at h;split at h
  · rename_i el' hu;split at h
    · rename_i i hi;split at h
      · rename_i z hz;split at h
        · cases h
        · rename_i hsm;have hsm':¬ 16777216<len * i.size:=hsm
          cases hf:Instr.fill (fun k=>some (k * i.size,i.size)) ((Array.range (len * i.size)).map ((if len * i.size=0 then #[] else z.cells)[· % (if len * i.size=0 then #[] else z.cells:Array Value).size]!)) parts.toList with
          | none=>rw [hf] at h;cases h
          | some cs' =>
            rw [hf] at h;simp only [Option.map_some,Option.some.injEq,Prod.mk.injEq] at h;obtain ⟨rfl,rfl⟩:=h
            by_cases h0:len * i.size=0
            · simp [h0] at hf;simp [Instr.buildSlice,run_underlying hu,sizeOf,typeInfo,hi,h0,hf,newRow]
            · simp only [h0,if_false] at hf;simp [Instr.buildSlice,run_underlying hu,sizeOf,typeInfo,hi,hsm',h0,zeroValue,hz,hf,newRow]
      · cases h
    · cases h
  · cases h
theorem LW.Ew {t:TypeId} {len:Nat} {parts:Array (Nat×Operand)} {vs:List (Nat×Value)} {cs:Array Value} {l:List α} (hp:parts.toList.map (fun p=>(p.1,ev e p.2))=vs) (hb:Gn P t len vs=some (qe.ty α,cs))
    (hl:l.length=len) (hcs:cs.size=len * qe.sz α) (hL:Nat.ble len 65536=true) (hels:∀ w:World,sa w cs.toList [] l) (hS:St w0 F0 w L) (hd:Nat.ble (d+1) n=true)
    (h:∀ (a:Option Addr) (c:Nat) (w':World),St w0 F0 w' (sl a c l::L)→Fr w w' []→LW P n ops Q rest (tm e d (.slice a l.length c)) w'):LW P n ops Q (⟨some d,.buildSlice t len parts,ty,pos,aft,none⟩::rest) e w:=by
  have hp':(parts.map fun (i,x)=>(i,ev e x)).toList=vs:=by rw [← hp];simp
  subst hp';subst hl;have hL:=Nat.le_of_ble_eq_true hL
  have hrun:(execOp (ev e) ⟨some d,.buildSlice t l.length parts,ty,pos,aft,none⟩).run P w=.ok (.value (.slice (some ⟨w.heap.size,0,none⟩) l.length l.length)) (w.alloc (.cells cs (qe.ty α))):=by
    have:=HD (P:=P) (w:=w) hb;simp only [execOp,Sem.run_bind,this,Result.andThen_ok];rfl
  refine LW.run hrun hd (h _ _ _ (St.add (M:=[_]) hS ?_) ⟨by simp,fun b hb _=>Below.heap_alloc w _ b hb⟩);exact ⟨rfl,rfl,rfl,by simp,fun b hb _=>Below.heap_alloc w _ b hb,[w.heap.size],⟨[w.heap.size],[],rfl,.inr ⟨_,0,_,_,rfl,heap_alloc_new w _,by rw [hcs];omega,Nat.le_refl _,by unfold maxLen;omega,rfl,hels _⟩,rfl⟩,by simp,by simp⟩
theorem St.lay {w0 w w':World} {F0:List Nat} {L:List Item} (h:St w0 F0 w L) (hs:w.heap.size≤w'.heap.size) (ho:w'.os=w.os) (ht:w'.tape=w.tape) (hu:w'.output=w.output)
    (hsame:∀ b,b<w.heap.size→w'.heap[b]?=w.heap[b]?):St w0 F0 w' L :=
  St.add (M:=[]) h ⟨ho,ht,hu,hs,fun b hb _=>hsame b hb,[],rfl,List.nodup_nil,by simp⟩
theorem LW.tQ {t ty2:TypeId} {pos2:String} {aft2:Array Edge} {x s:Operand} {d1:Nat} {vs:Array Value} {i:Nat} {a:Option Addr} {c:Nat} {l l':List α} {y:α} (hT:vw P t α)
    (hp:(ev e x).cells=vs) (hb:Gn P t 1 [(0,ev e x)]=some (qe.ty α,vs)) (hs:ev e s=.slice a l.length c) (hs1:ev (tm e d1 undef) s=ev e s) (hl:app l [y]=some l')
    (hS:St w0 F0 w (M++L)) (hi:L[i]?=some (sl a c l)) (hM:∀ (w:World) (G:List Nat),qX M w G→qe.own w vs.toList G y) (hd1:Nat.ble (d1+1) n=true) (hd:Nat.ble (d+1) n=true)
    (h:∀ (v1:Value) (a':Option Addr) (c':Nat) (w':World),St w0 F0 w' (L.set i (sl a' c' l'))→Fr w w' ((a.map (·.block)).toList)→LW P n ops Q rest (tm (tm e d1 v1) d (.slice a' l'.length c')) w') :
    LW P n ops Q (⟨some d1,.buildSlice t 1 #[(0,x)],ty2,pos2,aft2,none⟩::⟨some d,.call { callee:=.builtin .append,args:=#[s,.tmp d1],argTypes:=#[t,t] },ty,pos,aft,none⟩::rest) e w:=by
  unfold app at hl;split at hl
  case isFalse=>cases hl
  case isTrue hbig =>
  cases hl
  have hrun:(execOp (ev e) ⟨some d1,.buildSlice t 1 #[(0,x)],ty2,pos2,aft2,none⟩).run P w=.ok (.value (.slice (some ⟨w.heap.size,0,none⟩) 1 1)) (w.alloc (.cells vs (qe.ty α))):=by
    have:=HD (P:=P) (w:=w) (parts:=#[(0,ev e x)]) hb;simp [execOp,this]
  refine LW.run hrun hd1 ?_;generalize hw1:w.alloc (.cells vs (qe.ty α))=w1;have hS1:St w0 F0 w1 (M++L):=hS.lay (by subst hw1;simp) (by subst hw1;rfl) (by subst hw1;rfl) (by subst hw1;rfl) (fun b hb=>by subst hw1;exact Below.heap_alloc w _ b hb)
  have h':St w0 F0 w1 ((sl a c l::M)++L.eraseIdx i):=by
    have:=hS1.front (M.length+i) (x:=sl a c l) (by rw [List.getElem?_append_right (by omega),Nat.add_sub_cancel_left];exact hi);refine this.perm ?_
    have e:(M++L).eraseIdx (M.length+i)=M++L.eraseIdx i:=by
      rw [List.eraseIdx_append_of_length_le (by omega)];simp
    rw [e];simp
  obtain ⟨F,hF,hn,hlt2,_,_,hm⟩:=h'.share;obtain ⟨F1,F2,rfl,q1,q2⟩:=hF;have hy:=hM w1 F2 q2
  have hcell:∀ (j:Nat) (u:Value),vs.toList[j]?=some u→w1.cell? ((⟨w.heap.size,0,none⟩:Addr).add j)=some u:=by
    intro j u hu;subst hw1;rw [add_lit,Nat.zero_add,cell_of_row _ w.heap.size j vs (qe.ty α) (0,0) (heap_alloc_new w _)];simpa using hu
  obtain ⟨a',c',w',hr,hst,hfr⟩:=Cj (ty:=ty) (ys:=[y]) (cc:=1) hT q1 (by rw [qe.rn hy];simp) hcell (show sa w1 vs.toList F2 [y] from ⟨vs.toList,[],F2,[],by simp,by simp,hy,rfl⟩) hn hlt2 hbig
  have hfr1:Fr w w' ((a.map (·.block)).toList):=⟨Nat.le_trans (by subst hw1;simp) hfr.size,fun b hb hno=>by
    rw [hfr.same b (by subst hw1;simp;omega) hno];subst hw1
    exact Below.heap_alloc w _ b hb⟩
  refine LW.run (v:=.slice a' (l++[y]).length c') ?_ hd (h _ a' c' w' ((hm w' _ hst).perm (eraseIdx_set L i _ (rD hi))) hfr1)
  have hs2:ev (tm e d1 (.slice (some ⟨w.heap.size,0,none⟩) 1 1)) s=.slice a l.length c:=by
    cases s with
    | tmp t' =>
      simp only [ev] at hs hs1 ⊢
      have:Nat.beq t' d1=false:=by
        cases hb:Nat.beq t' d1
        · rfl
        · simp only [tm,hb,Vy] at hs1;rw [hs] at hs1;cases hs1
      simp only [tm,this,Vx];exact hs
    | _=>exact hs
  have hx2:ev (tm e d1 (.slice (some ⟨w.heap.size,0,none⟩) 1 1)) (.tmp d1)=.slice (some ⟨w.heap.size,0,none⟩) 1 1:=by
    simp only [ev,tm];rw [Nat.beq_refl];rfl
  simp only [List.length_cons,List.length_nil,Nat.zero_add] at hr;simp [execOp,resolve,invoke,builtin,hs2,hx2,hr]
theorem LW.So {t:TypeId} {x:Operand} {vs:Array Value} (hT:vw P t α) (hp:(ev e x).cells=vs) (hb:Gn P t 1 [(0,ev e x)]=some (qe.ty α,vs)) (hS:St w0 F0 w L) (hd:Nat.ble (d+1) n=true)
    (h:∀ (g:Nat) (w':World),St w0 F0 w' (bx g (qe.ty α) vs.toList::L)→Fr w w' []→LW P n ops Q rest (tm e d (.slice (some ⟨g,0,none⟩) 1 1)) w') :
    LW P n ops Q (⟨some d,.buildSlice t 1 #[(0,x)],ty,pos,aft,none⟩::rest) e w:=by
  have hrun:(execOp (ev e) ⟨some d,.buildSlice t 1 #[(0,x)],ty,pos,aft,none⟩).run P w=.ok (.value (.slice (some ⟨w.heap.size,0,none⟩) 1 1)) (w.alloc (.cells vs (qe.ty α))):=by
    have:=HD (P:=P) (w:=w) (parts:=#[(0,ev e x)]) hb;simp [execOp,this]
  refine LW.run hrun hd (h _ _ ?_ ⟨by simp,fun b hb _=>Below.heap_alloc w _ b hb⟩);have:=hS.add (JH w (qe.ty α) vs.toList);simpa using this
theorem St.lit {g:Nat} {vs:List Value} {M:List Item} {y:α} (hS:St w0 F0 w (bx g (qe.ty α) vs::(M++L))) (hM:∀ (w:World) (G:List Nat),qX M w G→qe.own w vs G y):St w0 F0 w (sl (some ⟨g,0,none⟩) 1 [y]::L):=by
  have h':St w0 F0 w ((bx g (qe.ty α) vs::M)++L):=hS;obtain ⟨F,hF,hn,hlt,_,_,hm⟩:=h'.share;refine hm w [sl (some ⟨g,0,none⟩) 1 [y]] (St.init ?_ hn hlt);obtain ⟨F1,F2,rfl,⟨rfl,hg⟩,q2⟩:=hF;have hy:=hM w F2 q2;refine ⟨[g]++F2,[],by simp,.inr ⟨g,0,vs.toArray,F2,rfl,hg,?_,by simp,by simp [maxLen],rfl,⟨vs,[],F2,[],by simp,by simp,hy,rfl⟩⟩,rfl⟩;simp [qe.rn hy]
theorem LW.Kt {t:TypeId} {x s:Operand} {vs:List Value} {i j g:Nat} {a:Option Addr} {c:Nat} {l l':List α} {y:α} (hT:vw P t α)
    (hs:ev e s=.slice a l.length c) (hx:ev e x=.slice (some ⟨g,0,none⟩) 1 1) (hl:app l [y]=some l')
    (hS:St w0 F0 w (M++L)) (hi:L[i]?=some (sl a c l)) (hj:L[j]?=some (bx g (qe.ty α) vs)) (hM:∀ (w:World) (G:List Nat),qX M w G→qe.own w vs G y) (hd:Nat.ble (d+1) n=true)
    (h:∀ (a':Option Addr) (c':Nat) (w':World),St w0 F0 w' (L.set i (sl a' c' l'))→Fr w w' ((a.map (·.block)).toList)→LW P n ops Q rest (tm e d (.slice a' l'.length c')) w') :
    LW P n ops Q (⟨some d,.call { callee:=.builtin .append,args:=#[s,x],argTypes:=#[t,t] },ty,pos,aft,none⟩::rest) e w:=by
  unfold app at hl;split at hl
  case isFalse=>cases hl
  case isTrue hbig =>
  cases hl;have hg:=St.cell (h:=hS) (i:=M.length+j) (by rw [List.getElem?_append_right (by omega),Nat.add_sub_cancel_left];exact hj)
  have h':St w0 F0 w ((sl a c l::M)++L.eraseIdx i):=by
    have:=hS.front (M.length+i) (x:=sl a c l) (by rw [List.getElem?_append_right (by omega),Nat.add_sub_cancel_left];exact hi);refine this.perm ?_
    have e:(M++L).eraseIdx (M.length+i)=M++L.eraseIdx i:=by
      rw [List.eraseIdx_append_of_length_le (by omega)];simp
    rw [e];simp
  obtain ⟨F,hF,hn,hlt2,_,_,hm⟩:=h'.share;obtain ⟨F1,F2,rfl,q1,q2⟩:=hF;have hy:=hM w F2 q2
  have hcell:∀ (k:Nat) (u:Value),vs[k]?=some u→w.cell? ((⟨g,0,none⟩:Addr).add k)=some u:=by
    intro k u hu;rw [add_lit,Nat.zero_add,cell_of_row _ g k vs.toArray (qe.ty α) (0,0) hg];simpa using hu
  obtain ⟨a',c',w',hr,hst,hfr⟩:=Cj (ty:=ty) (ys:=[y]) (cc:=1) hT q1 (by rw [qe.rn hy];simp) hcell (show sa w vs F2 [y] from ⟨vs,[],F2,[],by simp,by simp,hy,rfl⟩) hn hlt2 hbig;refine LW.run (v:=.slice a' (l++[y]).length c') ?_ hd (h a' c' w' ((hm w' _ hst).perm (eraseIdx_set L i _ (rD hi))) hfr);simp only [List.length_cons,List.length_nil,Nat.zero_add] at hr;simp [execOp,resolve,invoke,builtin,hs,hx,hr]
class Flat (α:Type) [qe α]:Prop where
  flat:∀ {S w w' cs} {x:α},qe.rd S w cs x→qe.own w' cs [] x
theorem sa.flat [Flat α] {S:Nat→Prop} {a:Option Addr} {c:Nat} {l:List α} (h:ra S w a c l):∃ news:List Value,news.length=l.length * qe.sz α∧(∀ w':World,sa w' news [] l)∧(l ≠ []→∃ b o,a=some ⟨b,o,none⟩∧∀ (j:Nat) (u:Value),news[j]?=some u→w.cell? ⟨b,o+j,none⟩=some u):=by
  by_cases hne:l=[]
  · subst hne;exact ⟨[],by simp,fun _=>rfl,fun h=>absurd rfl h⟩
  · obtain ⟨b,o,ha,_,hc⟩:=h.cells hne
    have key:∀ (m:List α) (o':Nat),(∀ (k:Nat) (x:α),m[k]?=some x→∃ cs,qe.rd S w cs x∧∀ (j:Nat) (u:Value),cs[j]?=some u→w.cell? ⟨b,o'+k * qe.sz α+j,none⟩=some u) →
        ∃ news:List Value,news.length=m.length * qe.sz α∧(∀ w':World,sa w' news [] m)∧∀ (j:Nat) (u:Value),news[j]?=some u→w.cell? ⟨b,o'+j,none⟩=some u:=by
      intro m
      induction m with
      | nil=>exact fun _ _=>⟨[],by simp,fun _=>rfl,fun j u hu=>by simp at hu⟩
      | cons x m ih =>
        intro o' hm;obtain ⟨cs,h1,h2⟩:=hm 0 x rfl;have hl:=qe.tI h1
        obtain ⟨news,g1,g2,g3⟩:=ih (o'+qe.sz α) (fun k y hy=>by
          obtain ⟨cs',q1,q2⟩:=hm (k+1) y (by simpa using hy)
          exact ⟨cs',q1,fun j u hu=>by
            have:=q2 j u hu;rw [Nat.succ_mul] at this;rw [show o'+qe.sz α+k * qe.sz α+j=o'+(k * qe.sz α+qe.sz α)+j by omega]
            exact this⟩)
        refine ⟨cs++news,by simp [hl,g1,Nat.succ_mul,Nat.add_comm],fun w'=>⟨cs,news,[],[],rfl,rfl,Flat.flat h1,g2 w'⟩,fun j u hu=>?_⟩
        by_cases hj:j<cs.length
        · rw [List.getElem?_append_left hj] at hu;simpa using h2 j u hu
        · rw [List.getElem?_append_right (by omega)] at hu;have:=g3 _ u hu;rw [show o'+j=o'+qe.sz α+(j - cs.length) by omega];exact this
    obtain ⟨news,g1,g2,g3⟩:=key l o hc;exact ⟨news,g1,g2,fun _=>⟨b,o,ha,g3⟩⟩
theorem GW {t ty:TypeId} (hT:vw P t α) {a:Option Addr} {c cc:Nat} {F:List Nat} {l:List α} (ho:uV w a c F l):(Builtin.append_ #[t,t] ty #[.slice a l.length c,.slice none 0 cc]).run P w=.ok (.slice a l.length c) w:=by
  obtain ⟨i,z,hi,hz,hs,hby,hzc⟩:=hT.info
  rcases ho with ⟨rfl,rfl,rfl,rfl⟩ | ⟨g,o,cur,F',rfl,hg,hs',k1,k2,rfl,he⟩
  · simp [Builtin.append_,run_underlying hT.GL,sizeOf,typeInfo,hi,Builtin.lenOf,Builtin.firstCells]
  · simp [Builtin.append_,run_underlying hT.GL,sizeOf,typeInfo,hi,Builtin.lenOf,Builtin.firstCells,k1,storeCells]
theorem LW.sh [Flat α] {t:TypeId} {s x:Operand} {i:Nat} {S:Nat→Prop} {a b:Option Addr} {c cb:Nat} {l m l':List α} (hT:vw P t α) (hs:ev e s=.slice a l.length c) (hx:ev e x=.slice b m.length cb) (hr:ra S w b cb m)
    (hl:app l m=some l') (hS:St w0 F0 w L) (hi:L[i]?=some (sl a c l)) (hd:Nat.ble (d+1) n=true)
    (h:∀ (a':Option Addr) (c':Nat) (w':World),St w0 F0 w' (L.set i (sl a' c' l'))→Fr w w' ((a.map (·.block)).toList)→LW P n ops Q rest (tm e d (.slice a' l'.length c')) w') :
    LW P n ops Q (⟨some d,.call { callee:=.builtin .append,args:=#[s,x],argTypes:=#[t,t] },ty,pos,aft,none⟩::rest) e w:=by
  unfold app at hl;split at hl
  case isFalse=>cases hl
  case isTrue hbig =>
  cases hl;have h':St w0 F0 w ([sl a c l]++L.eraseIdx i):=hS.front i hi;obtain ⟨F,hF,hn,hlt2,_,_,hm⟩:=h'.share;obtain ⟨F1,F2,rfl,q1,q2⟩:=hF;cases (show F2=[] from q2);rw [List.append_nil] at hn hlt2 hm;obtain ⟨news,g1,g2,g3⟩:=sa.flat hr
  by_cases hne:m=[]
  · subst hne
    cases b with
    | none =>
      refine LW.run (v:=.slice a (l++[]).length c) ?_ hd (h a c w (by
        have:=hS.setAt (w':=w) (y:=sl a c (l++[])) hi (fun F hF hn hlt=>St.init ⟨F,[],by simp,by rw [List.append_nil];exact hF,rfl⟩ hn hlt)
        exact this) ⟨Nat.le_refl _,fun b _ _=>rfl⟩)
      have:=GW (P:=P) (ty:=ty) (cc:=cb) hT q1;simp [execOp,resolve,invoke,builtin,hs,hx,this]
    | some ad =>
      obtain ⟨a',c',w',hr',hst,hfr⟩:=Cj (ty:=ty) (ad:=ad) (cc:=cb) (ys:=[]) hT q1 (news:=[]) (G:=[]) (by simp) (by simp) rfl (by simpa using hn) (by simpa using hlt2) hbig;rw [List.append_nil] at hst;refine LW.run (v:=.slice a' (l++[]).length c') ?_ hd (h a' c' w' ((hm w' _ hst).perm (eraseIdx_set L i _ (rD hi))) hfr);simp only [List.length_nil] at hr' hx;simp only [execOp,resolve,invoke,builtin,Sem.run_bind,Sem.run_pure,Result.andThen_ok,List.map_toArray,List.map_cons,List.map_nil,hs,hx,hr']
  · obtain ⟨b',o,rfl,hc⟩:=g3 hne;obtain ⟨a',c',w',hr',hst,hfr⟩:=Cj (ty:=ty) (ad:=⟨b',o,none⟩) (cc:=cb) (ys:=m) hT q1 g1 (fun j u hu=>by rw [add_lit];exact hc j u hu) (g2 w) (by simpa using hn) (by simpa using hlt2) hbig;rw [List.append_nil] at hst;refine LW.run (v:=.slice a' (l++m).length c') ?_ hd (h a' c' w' ((hm w' _ hst).perm (eraseIdx_set L i _ (rD hi))) hfr);simp only [execOp,resolve,invoke,builtin,Sem.run_bind,Sem.run_pure,Result.andThen_ok,List.map_toArray,List.map_cons,List.map_nil,hs,hx,hr']
end
end Go.Kx
namespace Go.Kx
open Go Go.RowKit
set_option linter.unusedVariables false
set_option linter.unusedSimpArgs false
def waits (ops:Array Oper) (j k:Nat):Bool :=
  match ops[j]? with
  | some o=>o.after.any fun e=>Region.binds .any e&&e.on==k
  | none=>false
abbrev xg:=List (Nat×(World→Prop))
def zy (P:Program) (ops:Array Oper) (Q:Exit→Act→World→Prop):Nat→xg→Array Bool→Act→World→Prop
  | 0,_,listed,a,w=>Region.ready .any ops listed=[]∧Q .normal a w
  | fuel+1,E,listed,a,w=>(Region.ready .any ops listed=[]→Q .normal a w)∧∀ j ∈ Region.ready .any ops listed,
      wpOp P ops Q j (fun a' w'=>(∀ p,p ∈ E→waits ops j p.1=false→p.2 w→p.2 w')∧zy P ops Q fuel E (listed.setIfInBounds j true) a' w') a w
section
variable {P:Program} {ops:Array Oper} {Q:Exit→Act→World→Prop}
theorem zy.any:∀ (fuel:Nat) {E:xg} {listed:Array Bool} {a:Act} {w:World},zy P ops Q fuel E listed a w→wpAny P .any ops Q fuel listed a w
  | 0,_,_,_,_,h=>h
  | fuel+1,_,_,_,_,h=>⟨h.1,fun i hi=>wpOp_mono (fun a' w' h'=>zy.any fuel h'.2) (h.2 i hi)⟩
theorem zy.less:∀ (fuel:Nat) {E E':xg} {listed:Array Bool} {a:Act} {w:World},(∀ p,p ∈ E'→p ∈ E∨∀ w,p.2 w)→zy P ops Q fuel E listed a w→zy P ops Q fuel E' listed a w
  | 0,_,_,_,_,_,_,h=>h
  | fuel+1,_,_,_,_,_,he,h=>⟨h.1,fun i hi=>wpOp_mono (fun a' w' h'=>⟨fun p hp hw hc=>(he p hp).elim (fun h1=>h'.1 p h1 hw hc) (fun h1=>h1 w'),zy.less fuel he h'.2⟩) (h.2 i hi)⟩
theorem NP {j k:Nat} {o:Oper} (ho:ops[j]?=some o) (h:∀ e ∈ o.after,Region.binds .any e=true→e.on ≠ k):waits ops j k=false:=by
  unfold waits;rw [ho];simp only;cases hb:o.after.any fun e=>Region.binds .any e&&e.on==k
  · rfl
  · obtain ⟨e,he,hb⟩:=Array.any_eq_true'.1 hb;simp only [VB,beq_iff_eq] at hb;exact absurd hb.2 (h e he hb.1)
theorem zy.first {C:World→Prop} {i:Nat} {oi:Oper} {v:Value} (hi:ops[i]?=some oi) (hsel:∀ (j:Nat) (o:Oper) cs b,ops[j]?=some o→o.op ≠ .select cs b)
    (hQ:∀ c a w,Q (.panic c) (a.put oi.dst v) w→Q (.panic c) a w) :
    ∀ (fuel:Nat) (E:xg) (listed:Array Bool) (a:Act) (w:World),
      (∀ j oj,ops[j]?=some oj→j ≠ i→listed.getD j true=false→(∀ e ∈ oj.after,Region.binds .any e=true→e.on ≠ i)→oi.apart ops oj=true) →
      i ∈ Region.ready .any ops listed→YieldsIf P ops C oi v a→C w →
      zy P ops Q fuel ((i,C)::E) (listed.setIfInBounds i true) (a.put oi.dst v) w→zy P ops Q (fuel+1) E listed a w:=by
  intro fuel
  induction fuel with
  | zero =>
    intro E listed a w _ hr hy hC H;refine ⟨fun h=>(by rw [h] at hr;cases hr),fun j hj=>?_⟩
    by_cases hji:j=i
    · subst hji;exact hy.wpOp hi hC ⟨fun _ _ _ h=>h,H⟩
    · have:=ready_mono hj hji;rw [H.1] at this;cases this
  | succ fuel ih =>
    intro E listed a w hfree hr hy hC H;refine ⟨fun h=>(by rw [h] at hr;cases hr),fun j hj=>?_⟩
    by_cases hji:j=i
    · subst hji;exact hy.wpOp hi hC ⟨fun _ _ _ h=>h,H.less _ (fun p hp=>.inl (List.mem_cons_of_mem _ hp))⟩
    · have h1:=H.2 j (ready_mono hj hji);obtain ⟨hjun,oj,hoj,hall⟩:=mem_ready.1 hj
      have hnot:∀ e ∈ oj.after,Region.binds .any e=true→e.on ≠ i:=fun e he hb heq=>by
        have h1:=hall e he hb;have h0:=(mem_ready.1 hr).1;rw [heq] at h1
        rcases Nat.lt_or_ge i listed.size with h' | h'
        · simp [h'] at h0 h1;rw [h0] at h1;cases h1
        · simp [Array.getElem?_eq_none h'] at h1
      have h2:=wpOp_putIf hoj (hfree j oj hoj hji hjun hnot) (fun cs b=>hsel i oi cs b hi) (fun cs b=>hsel j oj cs b hoj) hQ hy h1;refine wpOp_mono (fun a' w' h3=>⟨fun p hp hw hc=>h3.2.1 p (List.mem_cons_of_mem _ hp) hw hc,?_⟩) h2;refine ih E (listed.setIfInBounds j true) a' w' (fun k ok hk hki hun hno=>?_) (ready_mono hr (Ne.symm hji)) h3.1 (h3.2.1 (i,C) (by simp) (NP hoj hnot) hC) ?_
      · refine hfree k ok hk hki ?_ hno
        by_cases hjk:j=k
        · subst hjk;exact hjun
        · rw [getD_set_ne true hjk] at hun;exact hun
      · rw [Array.setIfInBounds_comm _ _ hji];exact h3.2.2
end
def AW (P:Program) (n:Nat) (ops:Array Oper) (Q:tr) (fuel:Nat) (E:xg) (listed:Array Bool) (e:Env) (w:World):Prop:=∀ a,Is a n e→zy P ops (lift n Q) fuel E listed a w
def su (ops:Array Oper) (listed:Array Bool) (i:Nat):Bool:=Region.noSelect ops&&Region.free .any ops listed i&&(Region.ready .any ops listed).contains i
section
variable {P:Program} {n:Nat} {Q:tr} {e:Env} {w:World} {ops:Array Oper} {fuel:Nat} {E:xg} {listed:Array Bool} {i:Nat}
  {ty:TypeId} {pos:String} {aft:Array Edge} {d:Nat} {v:Value} {g:Option (Nat×Bool)}
theorem CW.draw {id:Nat} {l:List Oper} (hm:P.follows .mixedOrders=true) (h:AW P n l.toArray Q l.length [] (Array.replicate l.length false) e w.drew):CW P n (.region id l.toArray true) Q e w:=by
  intro a ha;refine wp_region_any hm (zy.any _ (E:=[]) ?_);rw [List.size_toArray];exact h a ha
theorem AW.take {op:Op} {C:World→Prop} (hi:ops[i]?=some ⟨some d,op,ty,pos,aft,g⟩) (hok:su ops listed i=true) (hw:xe ops g e=true) (hd:Nat.ble (d+1) n=true)
    (hl:rh P (ev e) op C v) (hC:C w) (h:AW P n ops Q fuel ((i,C)::E) (listed.setIfInBounds i true) (tm e d v) w):AW P n ops Q (fuel+1) E listed e w:=by
  intro a ha;unfold su at hok;simp only [VB] at hok;obtain ⟨⟨h1,h2⟩,h3⟩:=hok;refine zy.first (C:=C) (v:=v) hi (Region.noSelect_spec h1) (fun c a w hq=>hq.1.elim) fuel E listed a w (Region.free_spec hi h2) (by simpa using h3) (.inl ⟨?_,fun w' hw'=>?_⟩) hC (h _ (ha.put (Nat.le_of_ble_eq_true hd) v))
  · rw [Dp ha];exact hw
  · rw [ha.eval];exact hl _ _ _ _ _ _ hw'
theorem AW.u {op:Op} (hi:ops[i]?=some ⟨some d,op,ty,pos,aft,g⟩) (hok:su ops listed i=true) (hw:xe ops g e=true) (hd:Nat.ble (d+1) n=true)
    (hl:qp P (ev e) op v) (h:AW P n ops Q fuel E (listed.setIfInBounds i true) (tm e d v) w):AW P n ops Q (fuel+1) E listed e w :=
  AW.take (C:=fun _=>True) hi hok hw hd (fun d ty pos aft g w _=>hl d ty pos aft g w) trivial fun a ha=>(h a ha).less _ fun p hp=>(List.mem_cons.1 hp).elim (fun h=>.inr fun _=>by subst h;trivial) .inl
theorem AW.no {op:Op} (hi:ops[i]?=some ⟨some d,op,ty,pos,aft,g⟩) (hok:su ops listed i=true) (hw:xe ops g e=false) (hd:Nat.ble (d+1) n=true)
    (h:AW P n ops Q fuel E (listed.setIfInBounds i true) (tm e d undef) w):AW P n ops Q (fuel+1) E listed e w:=by
  intro a ha;unfold su at hok;simp only [VB] at hok;obtain ⟨⟨h1,h2⟩,h3⟩:=hok
  refine zy.first (C:=fun _=>True) (v:=undef) hi (Region.noSelect_spec h1) (fun c a w hq=>hq.1.elim) fuel E listed a w (Region.free_spec hi h2) (by simpa using h3) (.inr ⟨?_,rfl⟩) trivial
    ((h _ (ha.put (Nat.le_of_ble_eq_true hd) undef)).less _ fun p hp=>(List.mem_cons.1 hp).elim (fun h=>.inr fun _=>by subst h;trivial) .inl)
  rw [Dp ha];exact hw
def Jy:List Nat→(Nat→Prop)→Prop
  | [],_=>True
  | i::r,p=>p i∧Jy r p
theorem Jy.mem {p:Nat→Prop}:∀ {l:List Nat},Jy l p→∀ i,i ∈ l→p i
  | i::r,h,j,hj=>(List.mem_cons.1 hj).elim (fun e=>e ▸ h.1) (Jy.mem h.2 j)
def Kept (ops:Array Oper) (i:Nat) (E:xg) (w w':World):Prop:=∀ p,p ∈ E→waits ops i p.1=false→p.2 w→p.2 w'
def One (P:Program) (n:Nat) (ops:Array Oper) (Q:tr) (fuel:Nat) (E:xg) (listed:Array Bool) (e:Env) (w:World) (i:Nat):Prop :=
  ∃ o,ops[i]?=some o∧LW P n ops (fun x e' w'=>x=.normal∧Kept ops i E w w'∧AW P n ops Q fuel E (listed.setIfInBounds i true) e' w') [o] e w
theorem OY {o:Oper} {a:Act} {w:World} {K:Act→World→Prop} {Q Q':Exit→Act→World→Prop} (hp:∀ c a w,Q (.panic c) a w→Q' (.panic c) a w) (hl:LetsOut Q→LetsOut Q')
    (h:o.wp P a w K Q):o.wp P a w K Q':=by
  unfold Oper.wp at *;generalize (execOp a.eval o).run P w=r at *
  cases r with
  | ok x w' =>
    cases x<;>simp only [Oper.upon] at h ⊢<;>first
      | exact h
      | (refine Calls.mono h fun e w'' hh=>?_
         cases e with
         | returned v=>exact hh
         | panicked c=>exact hp _ _ _ hh
         | outgrown=>exact hl hh)
  | halt x w'=>cases x<;>simp only [Oper.upon] at h ⊢<;>first | exact h | exact hp _ _ _ h
theorem AW.all {rs:List Nat} (hr:Region.ready .any ops listed=rs) (hne:rs ≠ []) (h:Jy rs (One P n ops Q fuel E listed e w)):AW P n ops Q (fuel+1) E listed e w:=by
  intro a ha;refine ⟨fun h0=>absurd (hr ▸ h0) hne,fun j hj=>?_⟩;obtain ⟨o,ho,hL⟩:=h.mem j (hr ▸ hj);have h1:=hL a ha;unfold wpList at h1;unfold wpOp;rw [ho];simp only
  have hK:∀ (a':Act) (w':World),wpList P ops (lift n fun x e' w'=>x=.normal∧Kept ops j E w w'∧AW P n ops Q fuel E (listed.setIfInBounds j true) e' w') [] a' w' →
      (∀ p,p ∈ E→waits ops j p.1=false→p.2 w→p.2 w')∧zy P ops (lift n Q) fuel E (listed.setIfInBounds j true) a' w':=by
    rintro a' w' ⟨_,e',he',_,hk,hA⟩;exact ⟨hk,hA a' he'⟩
  split
  · rename_i hwt;rw [if_pos hwt] at h1
    rcases h1 with h1 | ⟨_,hq⟩
    · exact .inl (Oper.wp_mono hK (OY (fun c a w hq=>hq.1.elim) (fun hq=>by obtain ⟨a0,w0,hc,_⟩:=hq;exact hc.elim) h1))
    · obtain ⟨a0,w0,hc,_⟩:=hq;exact hc.elim
  · rename_i hwt;rw [if_neg hwt] at h1;exact hK _ _ h1
theorem AW.one (hr:Region.ready .any ops listed=[i]) (h:One P n ops Q fuel E listed e w i):AW P n ops Q (fuel+1) E listed e w:=AW.all hr (by simp) ⟨h,trivial⟩
theorem AW.done (hr:Region.ready .any ops listed=[]) (h:Q .normal e w):AW P n ops Q fuel E listed e w:=by
  intro a ha
  cases fuel with
  | zero=>exact ⟨hr,trivial,e,ha,h⟩
  | succ f=>exact ⟨fun _=>⟨trivial,e,ha,h⟩,by rw [hr];simp⟩
end
end Go.Kx
namespace Go.Kx
open Go Go.RowKit
set_option linter.unusedVariables false
set_option linter.unusedSimpArgs false
def iter {σ ρ:Type} (body:σ→Option (σ⊕ρ)):Nat→σ→Option ρ
  | 0,_=>none
  | n+1,s=>(body s).bind fun o=>match o with
    | .inl s'=>iter body n s'
    | .inr r=>some r
theorem vl {α β:Type} {x:Option α} {f:α→Option β} {b:β} (h:x.bind f=some b):∃ a,x=some a∧f a=some b:=Option.bind_eq_some_iff.1 h
theorem U6 {α:Type} {c:Bool} {a b:Option α} {r:α} (h:(bif c then a else b)=some r) (hc:c=true):a=some r:=by subst hc;exact h
theorem U1 {α:Type} {c:Bool} {a b:Option α} {r:α} (h:(bif c then a else b)=some r) (hc:c=false):b=some r:=by subst hc;exact h
section
variable {P:Program} {n:Nat} {e:Env} {w:World}
theorem CW.iter {σ ρ:Type} {c:Code} {body:σ→Option (σ⊕ρ)} (R:σ→Env→World→Prop) (Q:ρ→tr)
    (hb:∀ (s:σ) (e:Env) (w:World) (o:σ⊕ρ),R s e w→body s=some o→CW P n c (fun x e' w'=>match o with
      | .inl s'=>x=.normal∧R s' e' w'
      | .inr r=>(match x with | .normal=>False | _=>True)∧Q r x e' w') e w)
    (N:Nat) (s:σ) (e:Env) (w:World) (r:ρ) (hR:R s e w) (h:Kx.iter body N s=some r):CW P n (.loop c) (Q r) e w:=by
  have key:∀ (N:Nat) (s:σ) (e:Env) (w:World),R s e w→Kx.iter body N s=some r→∀ a,Is a n e→Code.rounds P c (lift n (Q r)) N a w:=by
    intro N
    induction N with
    | zero=>intro s e w _ h;cases h
    | succ N ih =>
      intro s e w hR h a ha;obtain ⟨o,ho,h2⟩:=vl h;rw [rounds_succ];refine Code.wp_mono ?_ (hb s e w o hR ho a ha);rintro x a' w' ⟨hc,e',he',hq⟩
      cases o with
      | inl s' =>
        obtain ⟨rfl,hR'⟩:=hq;exact ih s' e' w' hR' h2 a' he'
      | inr r' =>
        cases h2
        cases x with
        | normal=>exact hq.1.elim
        | _=>exact ⟨hc,e',he',hq.2⟩
  exact fun a ha=>wp_loop_rounds N (key N s e w hR h a ha)
def I1 (args:Array Value):Env:=fun i=>args.getD i undef
def qt (P:Program) (e:Env) (w:World):ResultVar→Value→Prop
  | .tmp t,v=>e t=v
  | .cell a T,v=>∃ ad,e a=.pointer (some ad)∧(loadVar T ad).run P w=.ok v w
def tu (P:Program) (rs:Array ResultVar) (e:Env) (w:World) (v:Value):Prop:=∀ (fn:Func) (tmps:Array Value),fn.results=rs→(∀ i,tmps.getD i undef=e i)→(results fn tmps).run P w=.ok v w
def GX (tmps:Array Value):ResultVar→Sem Value
  | .tmp t=>pure (tmps.getD t undef)
  | .cell a t=>do loadVar t (← asAddr (tmps.getD a undef))
theorem Be (fn:Func) (tmps:Array Value):results fn tmps=(do
    let vs ← fn.results.mapM (GX tmps)
    pure (if h:vs.size=1 then vs[0] else .tuple vs)):=by
  unfold results;congr 2
theorem yo {tmps:Array Value} (h2:∀ i,tmps.getD i undef=e i) {r:ResultVar} {v:Value} (h:qt P e w r v):(GX tmps r).run P w=.ok v w:=by
  cases r with
  | tmp t=>rw [← (show e t=v from h), ← h2 t];simp [GX]
  | cell a t =>
    obtain ⟨ad,h1,h3⟩:=h;rw [← h2 a] at h1;simp only [GX,h1,asAddr];simpa using h3
theorem tu.zero:tu P #[] e w (.tuple #[]):=fun fn tmps h1 h2=>by simp [Be,h1]
theorem tu.one {r:ResultVar} {v:Value} (h:qt P e w r v):tu P #[r] e w v:=fun fn tmps h1 h2=>by
  have:=yo h2 h;simp [Be,h1,this]
theorem tu.two {r s:ResultVar} {u v:Value} (h:qt P e w r u) (k:qt P e w s v):tu P #[r,s] e w (.tuple #[u,v]):=fun fn tmps h1 h2=>by
  have:=yo h2 h;have:=yo h2 k;simp [Be,h1, *]
theorem tu.three {r s t:ResultVar} {u v x:Value} (h:qt P e w r u) (k:qt P e w s v) (l:qt P e w t x):tu P #[r,s,t] e w (.tuple #[u,v,x]):=fun fn tmps h1 h2=>by
  have:=yo h2 h;have:=yo h2 k;have:=yo h2 l;simp [Be,h1, *]
theorem tu.four {r s t q:ResultVar} {u v x y:Value} (h:qt P e w r u) (k:qt P e w s v) (l:qt P e w t x) (m:qt P e w q y):tu P #[r,s,t,q] e w (.tuple #[u,v,x,y]):=fun fn tmps h1 h2=>by
  have:=yo h2 h;have:=yo h2 k;have:=yo h2 l;have:=yo h2 m;simp [Be,h1, *]
theorem qt.t {t:Nat} {v:Value} (h:e t=v):qt P e w (.tmp t) v:=h
theorem qt.b {w0:World} {F0:List Nat} {L:List Item} {a T:Nat} {m g:Nat} {bt:TypeId} {cs:List Value} (hS:St w0 F0 w L) (i:Nat) (hi:L[i]?=some (bx g bt cs)) (ht:rr P T=some (some m)) (ha:e a=.pointer (some ⟨g,0,none⟩)) (hm:cs.length=m):qt P e w (.cell a T) (.agg cs.toArray):=by
  have hl:=rh.agg (P:=P) (ρ:=ev e) (x:=.tmp a) (o:=0) (cs:=cs) ht ha hm;refine ⟨_,ha,?_⟩;have h1:=hl none 0 "" #[] none w (fun j u hu=>by rw [cell_of_row w g _ cs.toArray bt (0,0) (St.cell (h:=hS) hi)];simpa using hu);have ha':ev e (.tmp a)=.pointer (some ⟨g,0,none⟩):=ha;simp only [execOp,Instr.loadAt,ha',Instr.sureAddr] at h1
  cases hr:(loadVar T ⟨g,0,none⟩).run P w with
  | ok v w'=>simp [hr] at h1;obtain ⟨h2,h3⟩:=h1;subst h2;subst h3;rfl
  | halt x w'=>simp [hr] at h1
theorem pY.of {f:FuncId} {fn:Func} {c:Code} {args:Array Value} {K:Value→World→Prop} (hf:P.funcs[f]?=some fn) (hb:fn.body=some c) (hn:fn.ntmps=n) (ha:Nat.ble args.size n=true)
    (h:CW P n c (fun x e' w'=>(match x with | .ret=>True | .normal=>True | _=>False)∧∃ v,tu P fn.results e' w' v∧K v w') (I1 args) w):pY P f args w K:=by
  have ha:=Nat.le_of_ble_eq_true ha;refine calls_of_wp hf hb (Code.wp_mono ?_ (h _ ⟨rfl,?_,fun i=>?_⟩))
  · rintro x a w' ⟨hc,e',he',hx,v,hr,hk⟩;have hres:=hr fn a.tmps rfl he'.get
    cases x with
    | normal=>exact ⟨he'.defers,v,hres,hk⟩
    | ret=>exact ⟨he'.defers,v,hres,hk⟩
    | _=>exact hx.elim
  · simp [hn];omega
  · unfold I1;simp only [Array.getD_eq_getD_getElem?,Array.getElem?_append];split
    · rfl
    · rename_i hi;rw [Array.getElem?_eq_none (xs:=args) (by omega)]
      by_cases hj:i - args.size<fn.ntmps - args.size
      · rw [Array.getElem?_replicate,if_pos hj];rfl
      · rw [Array.getElem?_replicate,if_neg hj]
end
theorem qX.vm {α:Type} [qe α] {M:List Item} {w:World} {F:List Nat} {S:Nat→Prop} (h:qX M w F) (i:Nat) {a:Option Addr} {c:Nat} {l:List α} (hi:M[i]?=some (sl a c l)) (hS:∀ b,b ∈ F→S b):ra S w a c l:=by
  obtain ⟨Fi,q1,q2⟩:=h.at_ i hi;exact uV.rd q1 fun b hb=>hS b (q2 b hb)
def dz (b:Int):Option Unit:=if b=0 then none else some ()
theorem Qq {b:Int} {u:Unit} (h:dz b=some u):b ≠ 0:=by unfold dz at h;split at h<;>simp_all
theorem G9 {w:World} {b o:Nat} {cs:List Value} (h:∀ (j:Nat) (u:Value),cs[j]?=some u→w.cell? ⟨b,o+j,none⟩=some u) (k:Nat) {m j:Nat} {u:Value} (hu:((cs.drop k).take m)[j]?=some u):w.cell? ⟨b,o+k+j,none⟩=some u:=by
  rw [List.getElem?_take] at hu;split at hu
  · rw [List.getElem?_drop] at hu;rw [Nat.add_assoc];exact h _ u hu
  · cases hu
theorem pV {α:Type} {l y:List α} {k:Nat} {x:α} (h:l.set k x=y):l.length=y.length:=by rw [← h,List.length_set]
section
variable {P:Program} {w0 w:World} {F0:List Nat} {L:List Item} {α:Type} [qe α]
theorem St.rB {a:Option Addr} {c:Nat} {l:List α} (h:St w0 F0 w L) (hr:ra (r7 w0 F0) w0 a c l):ra (r7 w []) w a c l :=
  (h.T0 hr).mono fun b hb=>⟨Nat.lt_of_lt_of_le hb.1 h.size,by simp⟩
theorem St.rI {a:Option Addr} {c:Nat} {l:List α} (h:St w0 F0 w L) (i:Nat) (hi:L[i]?=some (sl a c l)):ra (r7 w []) w a c l:=by
  obtain ⟨F,hF,_,hb⟩:=h.own;obtain ⟨Fi,q,q2⟩:=hF.at_ i hi;exact uV.rd q fun b hbm=>⟨(hb b (q2 b hbm)).2,by simp⟩
theorem St.nil (h:St w0 F0 w L):St w0 F0 w (sl none 0 ([]:List α)::L):=by
  obtain ⟨F,hF,hn,hb⟩:=h.own;exact ⟨h.os,h.tape,h.output,h.size,h.same,F,⟨[],F,rfl,.inl ⟨rfl,rfl,rfl,rfl⟩,hF⟩,hn,hb⟩
def uy {β:Type} (L:List β):List Nat→Option (List β)
  | []=>some []
  | i::r=>match L[i]?,uy L r with
    | some x,some m=>some (x::m)
    | _,_=>none
def xW:List Nat→Bool
  | []=>true
  | i::r=>(r.all fun j=>!Nat.beq i j)&&xW r
theorem qX.parts:∀ {L:List Item} {w:World} {F:List Nat},qX L w F→F.Nodup→∃ G:Nat→List Nat,
    (∀ (i:Nat) (it:Item),L[i]?=some it→it.p w (G i)∧(G i).Nodup∧∀ b,b ∈ G i→b ∈ F)∧∀ (i j:Nat),i ≠ j→i<L.length→j<L.length→∀ b,b ∈ G i→b ∉ G j
  | [],w,F,_,_=>⟨fun _=>[],fun i it h=>by simp at h,fun i j _ h=>by simp at h⟩
  | x::L,w,F,⟨F1,F2,hF,h1,h2⟩,hn=>by
    subst hF;obtain ⟨n1,n2,nd⟩:=List.nodup_append.1 hn;obtain ⟨G,g1,g2⟩:=qX.parts h2 n2;have gin:∀ (i:Nat),i<L.length→∀ b,b ∈ G i→b ∈ F2:=fun i hi b hb=>(g1 i _ (List.getElem?_eq_getElem hi)).2.2 b hb;refine ⟨fun i=>match i with | 0=>F1 | i+1=>G i,fun i it hi=>?_,fun i j hij hi hj b hb=>?_⟩
    · cases i with
      | zero=>simp at hi;subst hi;exact ⟨h1,n1,fun b hb=>List.mem_append_left _ hb⟩
      | succ i =>
        obtain ⟨q1,q2,q3⟩:=g1 i it (by simpa using hi);exact ⟨q1,q2,fun b hb=>List.mem_append_right _ (q3 b hb)⟩
    · cases i with
      | zero =>
        cases j with
        | zero=>exact absurd rfl hij
        | succ j=>exact fun hb2=>nd b hb b (gin j (by simpa using hj) b hb2) rfl
      | succ i =>
        cases j with
        | zero=>exact fun hb2=>nd b hb2 b (gin i (by simpa using hi) b hb) rfl
        | succ j=>exact g2 i j (fun e=>hij (by rw [e])) (by simpa using hi) (by simpa using hj) b hb
theorem St.pick (is:List Nat) {M:List Item} (h:St w0 F0 w L) (hp:uy L is=some M) (hn:xW is=true):St w0 F0 w M:=by
  obtain ⟨F,hF,hnd,hb⟩:=h.own;obtain ⟨G,g1,g2⟩:=hF.parts hnd
  have key:∀ (is:List Nat) (M:List Item),uy L is=some M→xW is=true→∃ F',qX M w F'∧F'.Nodup∧(∀ b,b ∈ F'→b ∈ F)∧(∀ b,b ∈ F'→∃ i,i ∈ is∧i<L.length∧b ∈ G i):=by
    intro is
    induction is with
    | nil =>
      intro M hp _;cases hp;exact ⟨[],rfl,List.nodup_nil,by simp,by simp⟩
    | cons i r ih =>
      intro M hp hn;simp only [xW,VB,List.all_eq_true] at hn;simp only [uy] at hp;split at hp
      · rename_i x m hx hm;cases hp;obtain ⟨F',q1,q2,q3,q4⟩:=ih m hm hn.2;obtain ⟨p1,p2,p3⟩:=g1 i x hx;have hlt:=rD hx;refine ⟨G i++F',⟨G i,F',rfl,p1,q1⟩,List.nodup_append.2 ⟨p2,q2,fun a ha b hb e=>?_⟩,fun b hb=>?_,fun b hb=>?_⟩
        · subst e;obtain ⟨j,hj,hjl,hja⟩:=q4 a hb
          have hne:i ≠ j:=by
            rintro rfl;have:=hn.1 i hj;simp at this
          exact g2 i j hne hlt hjl a ha hja
        · rcases List.mem_append.1 hb with h | h
          · exact p3 b h
          · exact q3 b h
        · rcases List.mem_append.1 hb with h | h
          · exact ⟨i,by simp,hlt,h⟩
          · obtain ⟨j,hj,hjl,hja⟩:=q4 b h;exact ⟨j,by simp [hj],hjl,hja⟩
      · cases hp
  obtain ⟨F',q1,q2,q3,_⟩:=key is M hp hn;exact ⟨h.os,h.tape,h.output,h.size,h.same,F',q1,q2,fun b hbm=>hb b (q3 b hbm)⟩
end
theorem CW.cut {P:Program} {n:Nat} {c:Code} {Q:tr} {e:Env} {w:World} (M:Env→World→Prop) (h1:CW P n c (Fq M Q) e w) (h2:∀ e w,M e w→Q .normal e w):CW P n c Q e w :=
  h1.mono fun x e w hq=>by cases x<;>first | exact h2 _ _ hq | exact hq
def fz (w1:World) (F:List Nat):Item:=⟨fun w G=>G=F∧∀ b,b ∈ F→w.heap[b]?=w1.heap[b]?,fun w w' G h hb=>⟨h.1,fun b hm=>(hb b (h.1 ▸ hm)).trans (h.2 b hm)⟩⟩
section
variable {P:Program} {w0 w w1:World} {F0 F:List Nat} {L:List Item} {α:Type} [qe α]
theorem St.freeze {a:Option Addr} {c:Nat} {l:List α} (h:St w0 F0 w L) (i:Nat) (hi:L[i]?=some (sl a c l)):∃ F,uV w a c F l∧St w0 F0 w (L.set i (fz w F)):=by
  have h':St w0 F0 w ([sl a c l]++L.eraseIdx i):=h.front i hi;obtain ⟨F,hF,hn,hlt,_,_,hm⟩:=h'.share;obtain ⟨F1,F2,rfl,q1,q2⟩:=hF;cases (show F2=[] from q2);rw [List.append_nil] at hn hlt hm;exact ⟨F1,q1,(hm w [fz w F1] (St.init ⟨F1,[],by simp,⟨rfl,fun _ _=>rfl⟩,rfl⟩ hn hlt)).perm (eraseIdx_set L i _ (rD hi))⟩
theorem St.qG {a:Option Addr} {c:Nat} {l:List α} (h:St w0 F0 w L) (i:Nat) (hi:L[i]?=some (fz w1 F)) (ho:uV w1 a c F l):St w0 F0 w (L.set i (sl a c l)) :=
  h.setAt hi fun G hG hn hlt=>by
    obtain ⟨rfl,hb⟩:=hG;exact St.init ⟨G,[],by simp,ho.frame hb,rfl⟩ hn hlt
theorem St.zC (h:St w0 F0 w L) (i:Nat) (hi:L[i]?=some (fz w1 F)) {b:Nat} (hb:b ∈ F):w.heap[b]?=w1.heap[b]?:=by
  obtain ⟨G,hG,_,_⟩:=h.own;obtain ⟨Fi,q,_⟩:=hG.at_ i hi;exact q.2 b hb
theorem St.rZ {a:Option Addr} {c:Nat} {l:List α} (h:St w0 F0 w L) (i:Nat) (hi:L[i]?=some (fz w1 F)) (hr:ra (fun b=>b ∈ F) w1 a c l):ra (r7 w []) w a c l:=by
  obtain ⟨G,hG,_,hb⟩:=h.own;obtain ⟨Fi,q,q2⟩:=hG.at_ i hi;obtain ⟨rfl,q3⟩:=q;exact (hr.vv fun b hm=>q3 b hm).mono fun b hm=>⟨(hb b (q2 b hm)).2,by simp⟩
theorem uV.rQ {a:Option Addr} {c:Nat} {l:List α} (h:uV w1 a c F l):ra (fun b=>b ∈ F) w1 a c l:=h.rd fun b hb=>hb
end
theorem whole {α:Type} [qe α] {M:List Item} {vs:List Value} {z y:α} (h:∀ (w:World) (G:List Nat),qX M w G→qe.own w vs G y) :
    ∀ (w:World) (cs:List Value) (F G:List Nat),qe.own w cs F z→qX M w G→∃ F',qe.own w (cs.take 0++vs++cs.drop (0+vs.length)) F' y∧(∀ b,b ∈ F'→b ∈ F∨b ∈ G)∧(F.Nodup→G.Nodup→(∀ b,b ∈ F→b ∉ G)→F'.Nodup):=by
  intro w cs F G hF hG;have h1:=h w G hG
  have e:cs.take 0++vs++cs.drop (0+vs.length)=vs:=by
    rw [List.drop_eq_nil_of_le (by rw [qe.rn h1,qe.rn hF];omega)];simp
  exact ⟨G,by rw [e];exact h1,fun b hb=>.inr hb,fun _ hn _=>hn⟩
theorem rm {α:Type} [qe α] {o:Nat} {vs:List Value} {z y:α} (h:∀ (w:World) (cs:List Value) (F:List Nat),qe.own w cs F z→qe.own w (cs.take o++vs++cs.drop (o+vs.length)) F y) :
    ∀ (w:World) (cs:List Value) (F G:List Nat),qe.own w cs F z→qX [] w G→∃ F',qe.own w (cs.take o++vs++cs.drop (o+vs.length)) F' y∧(∀ b,b ∈ F'→b ∈ F∨b ∈ G)∧(F.Nodup→G.Nodup→(∀ b,b ∈ F→b ∉ G)→F'.Nodup) :=
  fun w cs F G hF _=>⟨F,h w cs F hF,fun b hb=>.inl hb,fun hn _ _=>hn⟩
theorem Kept.n {ops:Array Oper} {i:Nat} {w w':World}:Kept ops i [] w w':=fun p hp=>by cases hp
theorem Kept.c {ops:Array Oper} {i j:Nat} {C:World→Prop} {E:xg} {w w':World} (h:C w') (k:Kept ops i E w w'):Kept ops i ((j,C)::E) w w':=fun p hp hw hc=>by
  rcases List.mem_cons.1 hp with rfl | hp
  · exact h
  · exact k p hp hw hc
theorem Kept.w {ops:Array Oper} {i j:Nat} {C:World→Prop} {E:xg} {w w':World} (h:waits ops i j=true) (k:Kept ops i E w w'):Kept ops i ((j,C)::E) w w':=fun p hp hw hc=>by
  rcases List.mem_cons.1 hp with rfl | hp
  · rw [h] at hw;cases hw
  · exact k p hp hw hc
section
variable {P:Program} {n:Nat} {t:TypeId} {xs ys:Array Value} {u v a b:Value} {r q:Bool}
def zx (P:Program) (n:Nat) (t:TypeId) (u v:Value) (r:Bool):Prop:=∀ (d:Nat) (w:World),(Op.equalIn (d+n+1) t u v).run P w=.ok r w
def AG (P:Program) (n:Nat) (xs ys:Array Value) (fs:List Field) (r:Bool):Prop:=∀ (d:Nat) (w:World),(Op.eqFields (d+n+1) xs ys fs).run P w=.ok r w
theorem zx.int {k k':IntKind} {x y:Int} (h:P.underlying t=some (.int k')):zx P n t (.int k x) (.int k y) (x==y):=fun _ w=>run_equalIn_int w _ t k k' x y h
theorem zx.bool {x y:Bool} (h:P.underlying t=some .bool):zx P n t (.bool x) (.bool y) (x==y):=fun _ w=>run_equalIn_bool' w _ t x y h
theorem zx.agg {fs:Array Field} (h:P.underlying t=some (.struct fs)) (hp:P.stoodInHeld t=false) (hf:AG P n xs ys fs.toList r):zx P (n+1) t (.agg xs) (.agg ys) r:=fun d w=>by
  have e:P.fieldsOf t=fs:=by simp [Program.fieldsOf,h]
  have:=run_equalIn_agg (P:=P) w (d+n+1) t xs ys (by rw [e];exact h) hp;rw [e,hf d w] at this;exact this
theorem AG.nil:AG P n xs ys [] true:=fun _ _=>rfl
theorem AG.one {f:Field} {fs:List Field} (hn:(f.name=="_")=false) (ha:rr P f.type=some none) (hx:Dl xs.toList f.offset=some a) (hy:Dl ys.toList f.offset=some b) (h:zx P n f.type a b r)
    (h2:AG P n xs ys fs q):AG P n xs ys (f::fs) (r&&q):=fun d w=>by
  have hx:xs[f.offset]?=some a:=by rw [E4] at hx;simpa using hx
  have hy:ys[f.offset]?=some b:=by rw [E4] at hy;simpa using hy
  have hn:f.name ≠ "_":=by simpa using hn
  have:=h d w;have:=h2 d w;cases r<;>simp_all [Op.eqFields,part,(xD (w:=w) ha).1]
theorem AG.more {f:Field} {fs:List Field} {m:Nat} (hn:(f.name=="_")=false) (ha:rr P f.type=some (some m))
    (h:zx P n f.type (.agg (xs.extract f.offset (f.offset+m))) (.agg (ys.extract f.offset (f.offset+m))) r) (h2:AG P n xs ys fs q):AG P n xs ys (f::fs) (r&&q):=fun d w=>by
  have hn:f.name ≠ "_":=by simpa using hn
  have:=h d w;have:=h2 d w;have h3:=xD (w:=w) ha;cases r<;>simp_all [Op.eqFields,part]
theorem zx.top {p:Prop} [Decidable p] (h:zx P n t u v r) (hn:n<10000) (hp:r=decide p) (w:World):(Op.equalIn 10000 t u v).run P w=.ok (decide p) w:=by
  have h:=h (10000 - n - 1) w;rw [show 10000 - n - 1+n+1=10000 from by omega,hp] at h;exact h
end
theorem CW.fresh {P:Program} {n:Nat} {c:Code} {Q:tr} {e:Env} {w:World} {l:List (Nat×Value)} (h:En e l) (k:∀ e',CW P n c Q (qy e' l) w):CW P n c Q e w:=by
  obtain ⟨e',rfl⟩:=h.out;exact k e'
theorem LW.fresh {P:Program} {n:Nat} {oa:Array Oper} {ops:List Oper} {Q:tr} {e:Env} {w:World} {l:List (Nat×Value)} (h:En e l) (k:∀ e',LW P n oa Q ops (qy e' l) w):LW P n oa Q ops e w:=by
  obtain ⟨e',rfl⟩:=h.out;exact k e'
theorem AW.fresh {P:Program} {n:Nat} {ops:Array Oper} {Q:tr} {f:Nat} {E:xg} {li:Array Bool} {e:Env} {w:World} {l:List (Nat×Value)} (h:En e l) (k:∀ e',AW P n ops Q f E li (qy e' l) w):AW P n ops Q f E li e w:=by
  obtain ⟨e',rfl⟩:=h.out;exact k e'
end Go.Kx
namespace Go.Kx
open Go Go.RowKit
set_option linter.unusedVariables false
set_option linter.unusedSimpArgs false
section
variable {P:Program} {w0 w w1:World} {F0 F:List Nat} {L M:List Item} {α:Type} [qe α]
structure wm (w0:World) (F0:List Nat) (w:World) (L M:List Item) (F:List Nat):Prop where
  st:St w F w L
  Ul:∀ b,r7 w0 F0 b→r7 w F b∧w.heap[b]?=w0.heap[b]?
  rest:∀ (i:Nat) (it:Item),M[i]?=some it→∃ Fi,it.p w Fi∧∀ b,b ∈ Fi→r7 w F b
  back:∀ w' L',St w F w' L'→St w0 F0 w' (L'++M)
theorem St.SO (h:St w0 F0 w (L++M)):∃ F,wm w0 F0 w L M F:=by
  obtain ⟨F,h1,h2,h3,h4,h5,h6⟩:=h.share;exact ⟨F,⟨St.init h1 h2 h3,fun b hb=>⟨h4 b hb,h.same b hb.1 hb.2⟩,h5,h6⟩⟩
theorem wm.rB {a:Option Addr} {c:Nat} {l:List α} (h:wm w0 F0 w L M F) (hr:ra (r7 w0 F0) w0 a c l):ra (r7 w F) w a c l :=
  (hr.vv fun b hb=>(h.Ul b hb).2).mono fun b hb=>(h.Ul b hb).1
theorem wm.rI {a:Option Addr} {c:Nat} {l:List α} (h:wm w0 F0 w L M F) (i:Nat) (hi:M[i]?=some (sl a c l)):ra (r7 w F) w a c l:=by
  obtain ⟨Fi,q,q2⟩:=h.rest i _ hi;exact uV.rd q q2
theorem wm.rZ {Fz:List Nat} {a:Option Addr} {c:Nat} {l:List α} (h:wm w0 F0 w L M F) (i:Nat) (hi:M[i]?=some (fz w1 Fz)) (hr:ra (fun b=>b ∈ Fz) w1 a c l):ra (r7 w F) w a c l:=by
  obtain ⟨Fi,q,q2⟩:=h.rest i _ hi;obtain ⟨rfl,q3⟩:=q;exact (hr.vv fun b hm=>q3 b hm).mono fun b hm=>q2 b hm
def hole (α:Type) [qe α] (a:Option Addr) (c:Nat) (l:List α) (k:Nat) (cs:List Value):Item :=
  ⟨fun w F=>∃ g o cur G0 G2 c0 c2,a=some ⟨g,o,none⟩∧w.heap[g]?=some (.cells cur (qe.ty α) (0,0))∧o+c * qe.sz α≤cur.size∧l.length≤c∧c≤maxLen∧F=g::(G0++G2) ∧
      cur.toList.drop o=c0++(cs++c2)∧c0.length=k * qe.sz α∧cs.length=qe.sz α∧k<l.length∧o≤cur.size ∧
      ∀ (w':World) (d1:List Value) (G1:List Nat) (y:α),qe.own w' d1 G1 y→(∀ b,b ∈ G0++G2→w'.heap[b]?=w.heap[b]?)→sa w' (c0++(d1++c2)) (G0++(G1++G2)) (l.set k y),
   by
    rintro w w' F ⟨g,o,cur,G0,G2,c0,c2,ha,hg,h1,h2,h3,rfl,h4,h5,h6,h7,h8,h9⟩ hb
    exact ⟨g,o,cur,G0,G2,c0,c2,ha,(hb g (by simp)).trans hg,h1,h2,h3,rfl,h4,h5,h6,h7,h8,
      fun w'' d1 G1 y hy hh=>h9 w'' d1 G1 y hy fun b hm=>(hh b hm).trans (hb b (List.mem_cons_of_mem _ hm))⟩⟩
theorem Og {c1 cs:List Value} {f:Nat→Option Value} (hl:c1.length=cs.length) (h1:∀ j u,c1[j]?=some u→f j=some u) (h2:∀ j u,cs[j]?=some u→f j=some u):c1=cs:=by
  apply List.ext_getElem?;intro j
  by_cases hj:j<c1.length
  · have a1:=h1 j _ (List.getElem?_eq_getElem hj);have a2:=h2 j _ (List.getElem?_eq_getElem (hl ▸ hj));rw [List.getElem?_eq_getElem hj,List.getElem?_eq_getElem (hl ▸ hj)];exact a1.symm.trans a2
  · rw [List.getElem?_eq_none (by omega),List.getElem?_eq_none (by omega)]
theorem St.PO {w0 w:World} {F0:List Nat} {L M:List Item} {i:Nat} {y:Item} (h:St w0 F0 w ((M++[y])++L.eraseIdx i)) (hi:i<L.length):St w0 F0 w (M++L.set i y) :=
  h.perm (by rw [List.append_assoc];exact (eraseIdx_set L i y hi).append_left M)
theorem St.focus {c b o:Nat} {l:List α} {k:Int} {x:α} {cs:List Value} (h:St w0 F0 w L) (i:Nat) (hi:L[i]?=some (sl (some ⟨b,o,none⟩) c l)) (hx:idx l k=some x) (hl:cs.length=qe.sz α)
    (hcs:∀ (j:Nat) (u:Value),cs[j]?=some u→w.cell? ⟨b,o+k.toNat * qe.sz α+j,none⟩=some u) :
    ∃ Fx,qe.own w cs Fx x∧∀ M,qX M w Fx→St w0 F0 w (M++L.set i (hole α (some ⟨b,o,none⟩) c l k.toNat cs)):=by
  obtain ⟨Fi,ho,hS⟩:=h.freeze i hi;unfold Kx.idx at hx;split at hx
  case isFalse=>cases hx
  case isTrue h0 =>
  have hlt:=rD hx
  rcases ho with ⟨_,_,rfl,_⟩ | ⟨g,o',cur,F',ha,hg,hs,h1,h2,hF,he⟩
  · simp at hlt
  · cases ha;obtain ⟨c0,c1,c2,G0,G1,G2,hc,rfl,hl0,q1,q2⟩:=he.set k.toNat hx;have hl1:=qe.rn q1
    have e:c1=cs:=by
      refine Og (f:=fun j=>w.cell? ⟨b,o+k.toNat * qe.sz α+j,none⟩) (hl1.trans hl.symm) (fun j u hu=>?_) hcs;have hj:j<c1.length:=rD hu
      show w.cell? _=_
      rw [cell_of_row w b _ cur _ (0,0) hg,Nat.add_assoc]
      have:(cur.toList.drop o)[k.toNat * qe.sz α+j]?=some u:=by
        rw [hc,List.getElem?_append_right (by omega),hl0,Nat.add_sub_cancel_left,List.getElem?_append_left hj];exact hu
      rw [List.getElem?_drop] at this;simpa using this
    subst e
    have hoc:o≤cur.size:=by omega
    refine ⟨G1,q1,fun M hM=>St.PO (St.head (x:=fz w Fi) (M:=M++[_]) (hS.front i (by rw [List.getElem?_set_self (rD hi)])) fun G hG hn hlt2=>?_ ) (by simpa using rD hi) |> fun q=>by simpa using q⟩;obtain ⟨rfl,_⟩:=hG;subst hF;obtain ⟨hgn,hnd⟩:=List.nodup_cons.1 hn;obtain ⟨n0,n12,d0⟩:=List.nodup_append.1 hnd;obtain ⟨n1,n2,d12⟩:=List.nodup_append.1 n12;refine ⟨rfl,rfl,rfl,Nat.le_refl _,fun _ _ _=>rfl,G1++(b::(G0++G2)),qX.append.2 ⟨G1,_,rfl,hM,_,[],by simp,⟨b,o,cur,G0,G2,c0,c2,rfl,hg,hs,h1,h2,rfl,hc,hl0,hl,hlt,hoc,q2⟩,rfl⟩,?_,?_⟩
    · refine List.nodup_append.2 ⟨n1,List.nodup_cons.2 ⟨fun hm=>hgn ?_,List.nodup_append.2 ⟨n0,n2,fun a ha d hd e=>d0 a ha d (List.mem_append_right _ hd) e⟩⟩,fun a ha d hd e=>?_⟩
      · rcases List.mem_append.1 hm with q | q<;>simp [q]
      · subst e
        rcases List.mem_cons.1 hd with rfl | hd
        · exact hgn (by simp [ha])
        · rcases List.mem_append.1 hd with q | q
          · exact d0 a q a (List.mem_append_left _ ha) rfl
          · exact d12 a ha a q rfl
    · intro d hd
      have:d ∈ b::(G0++(G1++G2)):=by
        simp only [List.mem_append,List.mem_cons] at hd ⊢
        rcases hd with q | q | q | q<;>simp [q]
      exact ⟨.inl this,hlt2 d this⟩
theorem St.yA {b o c k:Nat} {l:List α} {cs:List Value} (h:St w0 F0 w L) (i:Nat) (hi:L[i]?=some (hole α (some ⟨b,o,none⟩) c l k cs)) {j:Nat} {u:Value} (hu:cs[j]?=some u):w.cell? ⟨b,o+k * qe.sz α+j,none⟩=some u:=by
  obtain ⟨F,hF,_,_⟩:=h.own;obtain ⟨Fi,⟨g,o',cur,G0,G2,c0,c2,ha,hg,_,_,_,_,h4,h5,h6,_⟩,_⟩:=hF.at_ i hi;cases ha;have hj:=rD hu;rw [cell_of_row w b _ cur _ (0,0) hg,Nat.add_assoc]
  have:(cur.toList.drop o)[k * qe.sz α+j]?=some u:=by
    rw [h4,List.getElem?_append_right (by omega),h5,Nat.add_sub_cancel_left,List.getElem?_append_left hj];exact hu
  rw [List.getElem?_drop] at this;simpa using this
theorem St.RQ {a:Option Addr} {c k:Nat} {l:List α} {cs:List Value} {y:α} (h:St w0 F0 w (M++L)) (i:Nat) (hi:L[i]?=some (hole α a c l k cs)) (hM:∀ (w:World) (G:List Nat),qX M w G→qe.own w cs G y) :
    St w0 F0 w (L.set i (sl a c (l.set k y))):=by
  have h':St w0 F0 w ((M++[hole α a c l k cs])++L.eraseIdx i):=by
    refine h.perm ?_;rw [List.append_assoc];exact (Eu L i _ hi).append_left M
  obtain ⟨F,hF,hn,hlt,_,_,hm⟩:=h'.share;refine (hm w [sl a c (l.set k y)] ?_).perm (eraseIdx_set L i _ (rD hi));obtain ⟨F1,F2,rfl,q1,F3,F4,rfl,⟨g,o,cur,G0,G2,c0,c2,ha,hg,h1,h2,h3,rfl,h4,h5,h6,h7,h8,h9⟩,q4⟩:=qX.append.1 hF;cases (show F4=[] from q4);have hE:=h9 w cs F1 y (hM w F1 q1) (fun _ _=>rfl);rw [List.append_nil] at hn hlt ⊢;obtain ⟨n1,n2,nd⟩:=List.nodup_append.1 hn;obtain ⟨m1,m2⟩:=List.nodup_cons.1 n2;obtain ⟨k0,k2,kd⟩:=List.nodup_append.1 m2;refine ⟨rfl,rfl,rfl,Nat.le_refl _,fun _ _ _=>rfl,g::(G0++(F1++G2)),⟨g::(G0++(F1++G2)),[],(List.append_nil _).symm,.inr ⟨g,o,cur,_,ha,hg,h1,by simpa using h2,h3,rfl,?_⟩,rfl⟩,?_,?_⟩
  · rw [h4];exact hE
  · refine List.nodup_cons.2 ⟨fun hm=>?_,List.nodup_append.2 ⟨k0,List.nodup_append.2 ⟨n1,k2,fun p hp d hd e=>nd p hp d (by simp [hd]) e⟩,fun p hp d hd e=>?_⟩⟩
    · simp only [List.mem_append] at hm
      rcases hm with q | q | q
      · exact m1 (by simp [q])
      · exact nd g q g (by simp) rfl
      · exact m1 (by simp [q])
    · subst e
      rcases List.mem_append.1 hd with q | q
      · exact nd p q p (by simp [hp]) rfl
      · exact kd p hp p q rfl
  · intro d hd
    have:d ∈ F1++(g::(G0++G2)):=by
      simp only [List.mem_append,List.mem_cons] at hd ⊢
      rcases hd with q | q | q | q<;>simp [q]
    exact ⟨.inl this,hlt d this⟩
end
section
variable {P:Program} {w0 w w1:World} {F0 F:List Nat} {L M:List Item} {α:Type} [qe α]
variable {n:Nat} {Q:tr} {e:Env} {ops:Array Oper} {rest:List Oper} {ty:TypeId} {pos:String} {aft:Array Edge} {d:Nat} {v:Value}
theorem LW.zw {t:TypeId} {x y:Operand} {av:Option Nat} {g o off j c k:Nat} {l:List α} {cs vs:List Value} (hS:St w0 F0 w L) (i:Nat) (hi:L[i]?=some (hole α (some ⟨g,o,none⟩) c l k cs)) (ht:rr P t=some av)
    (hx:ev e x=.pointer (some ⟨g,off,none⟩)) (hoff:off=o+k * qe.sz α+j) (hy:(ev e y).cells.toList=vs) (hm:vs.length=av.getD 1) (hl:Nat.ble (j+vs.length) cs.length=true) (h1:vs.all (·.oneCell')=true)
    (h:∀ w':World,St w0 F0 w' (L.set i (hole α (some ⟨g,o,none⟩) c l k (Ez cs j vs)))→Fr w w' [g]→LW P n ops Q rest e w'):LW P n ops Q (⟨none,.store t x y,ty,pos,aft,none⟩::rest) e w:=by
  subst hoff;have hl:=Nat.le_of_ble_eq_true hl;obtain ⟨Fa,hFa,_,_⟩:=hS.own;obtain ⟨Fi,⟨g',o',cur,G0,G2,c0,c2,ha,hg,p1,p2,p3,rfl,p4,p5,p6,p7,p8,p9⟩,_⟩:=hFa.at_ i hi;cases ha
  have hlen:cur.size=o+(c0.length+(cs.length+c2.length)):=by
    have:=congrArg List.length p4;rw [List.length_drop,Array.length_toList] at this;simp only [List.length_append] at this;omega
  have hr:=run_storeCells_at P g (o+k * qe.sz α+j) (qe.ty α) vs 0 cur w hg (by omega) (fun u hu=>List.all_eq_true.1 h1 u hu);simp only [Nat.add_zero] at hr
  have hto:(cur.toList.take o).length=o:=by rw [List.length_take,Array.length_toList];omega
  have hcc:cur.toList=(cur.toList.take o++c0)++(cs++c2):=by rw [List.append_assoc, ← p4,List.take_append_drop]
  have hspl:cur.toList.take (o+k * qe.sz α+j)++vs++cur.toList.drop (o+k * qe.sz α+j+vs.length)=(cur.toList.take o++c0)++(Ez cs j vs++c2):=by
    have hl0:(cur.toList.take o++c0).length=o+k * qe.sz α:=by rw [List.length_append,hto,p5]
    have:=Mc (cur.toList.take o++c0) cs c2 vs j hl;rw [← hcc,hl0, ← G5 cs j vs hl] at this;exact this
  have hsl:(Ez cs j vs).length=cs.length:=by rw [G5 cs j vs hl];simp;omega
  refine LW.HQ (w':=w.setRow g (cur.toList.take (o+k * qe.sz α+j)++vs++cur.toList.drop (o+k * qe.sz α+j+vs.length)).toArray) ?_ (h _ (hS.setAt hi fun G hG hn hlt=>?_) ⟨by simp,fun b _ hb=>setRow_other w g b _ (by simpa using hb)⟩)
  · have:=xD (w:=w) ht
    have hy2:(ev e y).cells.size=av.getD 1:=by rw [← hm, ← hy,Array.length_toList]
    simp [execOp,Instr.storeAt,Instr.sureAddr,hx,storeVar,hy,hy2,this.2,hr]
  · obtain ⟨g',o',cur',G0',G2',c0',c2',ha,hg',q1,q2,q3,rfl,q4,q5,q6,q7,q8,q9⟩:=hG;cases ha;rw [hg] at hg';cases hg';have hoth:∀ b,b ≠ g→(w.setRow g (cur.toList.take (o+k * qe.sz α+j)++vs++cur.toList.drop (o+k * qe.sz α+j+vs.length)).toArray).heap[b]?=w.heap[b]?:=fun b hb=>setRow_other w g b _ hb;obtain ⟨m1,m2⟩:=List.nodup_cons.1 hn
    have e1:c0=c0'∧c2=c2':=by
      rw [p4] at q4;have r1:=List.append_inj q4 (by omega);exact ⟨r1.1,(List.append_inj r1.2 rfl).2⟩
    obtain ⟨rfl,rfl⟩:=e1;refine ⟨rfl,rfl,rfl,by simp,fun b _ hno=>hoth b fun e=>hno (by simp [e]),g::(G0'++G2'),⟨_,[],by simp,⟨g,o,_,G0',G2',c0,c2,rfl,setRow_heap w g cur _ _ _ hg,?_,q2,q3,rfl,?_,p5,by omega,p7,?_,?_⟩,rfl⟩,hn,fun b hb=>⟨.inl hb,by simpa using hlt b hb⟩⟩
    · rw [hspl];simp [hto,hsl];omega
    · simp only [List.toList_toArray];rw [hspl,List.append_assoc];exact List.drop_left' hto
    · rw [hspl];simp [hto]
    · intro w'' d1 G1 y' hy' hb;exact q9 w'' d1 G1 y' hy' fun b hm=>(hb b hm).trans (hoth b fun e=>m1 (e ▸ hm))
def sub {α:Type} (l:List α) (i j:Int):Option (List α):=if 0≤i∧i≤j∧j≤(l.length:Int) then some ((l.drop i.toNat).take (j.toNat - i.toNat)) else none
theorem yy {α:Type} {l m:List α} {i j:Int} (h:sub l i j=some m):0≤i∧i≤j∧j≤(l.length:Int)∧m=(l.drop i.toNat).take (j.toNat - i.toNat)∧m.length=j.toNat - i.toNat:=by
  unfold sub at h;split at h
  · rename_i hc;cases h;obtain ⟨h1,h2,h3⟩:=hc;exact ⟨h1,h2,h3,rfl,by rw [List.length_take,List.length_drop];omega⟩
  · cases h
def Ql (ρ:Operand→Value) (x:Option Operand) (d i:Int):Prop :=
  match x with
  | none=>i=d
  | some x=>∃ k,ρ x=.int k i
theorem B8 {ρ:Operand→Value} {d:Int}:Ql ρ none d d:=rfl
theorem B1 {ρ:Operand→Value} {x:Operand} {k:IntKind} {d i:Int} (h:ρ x=.int k i):Ql ρ (some x) d i:=⟨k,h⟩
def vr (a:Option Addr) (c i m:Nat):Option Addr:=if c=i then a else a.map fun b=>b.add (i * m)
theorem qp.sub {ρ:Operand→Value} {t:TypeId} {x:Operand} {lo hi:Option Operand} {a:Option Addr} {c:Nat} {l m:List α} {i j:Int} (hT:P.underlying t=some (.slice (qe.ty α))) (hz:wi P (qe.ty α)=some (qe.sz α)) (hx:ρ x=.slice a l.length c)
    (hlo:Ql ρ lo 0 i) (hhi:Ql ρ hi (l.length:Int) j) (hs:Kx.sub l i j=some m) (hlc:l.length≤c) {a':Option Addr} {c':Nat} (e1:a'=vr a c i.toNat (qe.sz α)) (e2:c'=c - i.toNat):qp P ρ (.slice t x lo hi none) (.slice a' m.length c'):=by
  subst e1;subst e2;obtain ⟨h1,h2,h3,rfl,hm⟩:=yy hs;intro d ty pos aft gd w;rw [hm]
  cases hi':P.info? (qe.ty α) with
  | none=>simp [wi,hi'] at hz
  | some inf =>
    have hz':inf.size=qe.sz α:=by simpa [wi,hi'] using hz
    have h4:0≤j:=by omega
    have h5:j≤(c:Int):=by omega
    have h6:i≤(j.toNat:Int):=by omega
    have hb:(Instr.sliceBounds true l.length c (lo.map ρ) (hi.map ρ) none).run P w=.ok (i.toNat,j.toNat,c) w:=by
      cases lo with
      | none =>
        cases (show i=0 from hlo)
        cases hi with
        | none =>
          cases (show j=_ from hhi);simp [Instr.sliceBounds]
        | some y =>
          obtain ⟨k,hy⟩:=hhi;simp [Instr.sliceBounds,Instr.sliceBound,hy,asIntOf,h4,h5]
      | some x' =>
        obtain ⟨k',hx'⟩:=hlo
        cases hi with
        | none =>
          cases (show j=_ from hhi);simp [Instr.sliceBounds,Instr.sliceBound,hx',asIntOf,h1,h3];omega
        | some y =>
          obtain ⟨k,hy⟩:=hhi;simp [Instr.sliceBounds,Instr.sliceBound,hx',hy,asIntOf,h1,h4,h5];omega
    have hcu:(if c=i.toNat then a else a.map fun b=>b.add (i.toNat * inf.size))=vr a c i.toNat (qe.sz α):=by unfold vr;rw [hz']
    simp [execOp,Instr.sliceAt,Instr.slice,run_underlying hT,hx,hb,sizeOf,typeInfo,hi', ← hcu]
theorem ra.sub {S:Nat→Prop} {a:Option Addr} {c:Nat} {l m:List α} {i j:Int} (h:ra S w a c l) (hs:Kx.sub l i j=some m):ra S w (vr a c i.toNat (qe.sz α)) (c - i.toNat) m:=by
  obtain ⟨h1,h2,h3,rfl,hm⟩:=yy hs;have hle:=h.le;refine ⟨by rw [hm];omega,Nat.le_trans (Nat.sub_le _ _) h.cap,fun hne=>?_⟩;have hlen:0<((l.drop i.toNat).take (j.toNat - i.toNat)).length:=List.length_pos_iff.2 hne;obtain ⟨b,o,rfl,hb,hc⟩:=h.cells (by rintro rfl;simp at hlen)
  have hci:¬ c=i.toNat:=by omega
  refine ⟨b,o+i.toNat * qe.sz α,by unfold vr;rw [if_neg hci];simp [add_lit],hb,fun k x hx=>?_⟩;rw [List.getElem?_take] at hx;split at hx
  · rw [List.getElem?_drop] at hx;obtain ⟨cs,q1,q2⟩:=hc _ x hx;refine ⟨cs,q1,fun p u hu=>?_⟩;have:=q2 p u hu;rw [Nat.add_mul, ← Nat.add_assoc] at this;exact this
  · cases hx
theorem ra.B3 {S:Nat→Prop} {a:Option Addr} {c:Nat} {l m:List α} {i j:Int} (h:ra S w a c l) (hs:Kx.sub l i j=some m):∃ (a':Option Addr) (c':Nat),a'=vr a c i.toNat (qe.sz α)∧c'=c - i.toNat∧ra S w a' c' m :=
  ⟨_,_,rfl,rfl,h.sub hs⟩
theorem sa.drop:∀ (k:Nat) {l:List α} {cs:List Value} {F:List Nat},sa w cs F l→∃ F1 F2,F=F1++F2∧sa w (cs.drop (k * qe.sz α)) F2 (l.drop k)
  | 0,_,_,F,h=>⟨[],F,rfl,by simpa using h⟩
  | k+1,[],cs,F,h=>⟨[],F,rfl,h⟩
  | k+1,x::l,cs,F,⟨c1,c2,F1,F2,hc,hF,h1,h2⟩=>by
    obtain ⟨G1,G2,rfl,q⟩:=sa.drop k h2;refine ⟨F1++G1,G2,by simp [hF],?_⟩
    have e:cs.drop ((k+1) * qe.sz α)=c2.drop (k * qe.sz α):=by
      rw [hc,Nat.succ_mul,Nat.add_comm, ← qe.rn h1,List.drop_length_add_append]
    rw [e];exact q
theorem sa.QJ:∀ (k:Nat) {l:List α} {cs:List Value} {F:List Nat},sa w cs F l→∃ F1 F2,F=F1++F2∧sa w cs F1 (l.take k)
  | 0,l,_,F,h=>⟨[],F,rfl,by simp [sa]⟩
  | k+1,[],cs,F,h=>⟨F,[],by simp,by simpa using h⟩
  | k+1,x::l,cs,F,⟨c1,c2,F1,F2,hc,hF,h1,h2⟩=>by
    obtain ⟨G1,G2,rfl,q⟩:=sa.QJ k h2;exact ⟨F1++G1,G2,by simp [hF],by rw [List.take_succ_cons];exact ⟨c1,c2,F1,G1,hc,rfl,h1,q⟩⟩
theorem St.sub {a:Option Addr} {c:Nat} {l m:List α} {i j:Int} (h:St w0 F0 w L) (k:Nat) (hi:L[k]?=some (sl a c l)) (hs:Kx.sub l i j=some m):l.length≤c∧St w0 F0 w (L.set k (sl (vr a c i.toNat (qe.sz α)) (c - i.toNat) m)):=by
  refine ⟨?_,h.setAt hi fun F hF hn hlt=>?_⟩
  · obtain ⟨F,hF,_,_⟩:=h.own;obtain ⟨Fi,q,_⟩:=hF.at_ k hi
    rcases q with ⟨_,_,rfl,_⟩ | ⟨_,_,_,_,_,_,_,h1,_⟩
    · simp
    · exact h1
  · obtain ⟨h1,h2,h3,rfl,hm⟩:=yy hs
    rcases hF with ⟨rfl,rfl,rfl,rfl⟩ | ⟨g,o,cur,F',rfl,hg,hz,q1,q2,rfl,he⟩
    · refine St.init (F:=[]) ⟨[],[],rfl,.inl ⟨by simp [vr],by simp,by simp,rfl⟩,rfl⟩ List.nodup_nil (by simp)
    · obtain ⟨G1,G2,hG,e1⟩:=sa.drop i.toNat he;obtain ⟨G3,G4,hG',e2⟩:=sa.QJ (j.toNat - i.toNat) e1;subst hG;subst hG'
      have hnn:(g::G3).Nodup:=by
        refine hn.sublist ?_;simp only [List.cons_sublist_cons];exact (List.sublist_append_left G3 G4).trans (List.sublist_append_right _ _)
      refine ⟨rfl,rfl,rfl,Nat.le_refl _,fun _ _ _=>rfl,g::G3,⟨g::G3,[],(List.append_nil _).symm,.inr ?_,rfl⟩,hnn,fun b hb=>?_⟩
      · by_cases hc:c=i.toNat
        · have hl0:(l.drop i.toNat).take (j.toNat - i.toNat)=[]:=by rw [List.drop_eq_nil_of_le (by omega)];simp
          rw [hl0] at e2 ⊢;refine ⟨g,o,cur,G3,by simp [vr,hc],hg,?_,by simp,by omega,rfl,e2⟩;rw [hc];simp;omega
        · refine ⟨g,o+i.toNat * qe.sz α,cur,G3,by simp [vr,hc,add_lit],hg,?_,by rw [hm];omega,by omega,rfl,?_⟩
          · have:i.toNat+(c - i.toNat)=c:=by omega
            rw [Nat.add_assoc, ← Nat.add_mul,this];exact hz
          · rw [← List.drop_drop];exact e2
      · have:b ∈ g::(G1++(G3++G4)):=by
          rcases List.mem_cons.1 hb with rfl | hb
          · simp
          · simp [hb]
        exact ⟨.inl this,hlt b this⟩
theorem St.B3 {a:Option Addr} {c:Nat} {l m:List α} {i j:Int} (h:St w0 F0 w L) (k:Nat) (hi:L[k]?=some (sl a c l)) (hs:Kx.sub l i j=some m) :
    l.length≤c∧∃ (a':Option Addr) (c':Nat),a'=vr a c i.toNat (qe.sz α)∧c'=c - i.toNat∧St w0 F0 w (L.set k (sl a' c' m)):=by
  obtain ⟨h1,h2⟩:=St.sub h k hi hs;exact ⟨h1,_,_,rfl,rfl,h2⟩
end
def sJ {α β:Type} (l m:List α) (k:Option β):Option β:=if l.length=m.length then k else none
theorem qN {α β:Type} {l m:List α} {k:Option β} {y:β} (h:sJ l m k=some y):l.length=m.length∧k=some y:=by
  unfold sJ at h;split at h
  · rename_i hc;exact ⟨hc,h⟩
  · cases h
theorem qt.b1 {P:Program} {e:Env} {w w0:World} {F0:List Nat} {L:List Item} {a T:Nat} {g:Nat} {bt:TypeId} {cs:List Value} {v:Value} (hS:St w0 F0 w L) (i:Nat) (hi:L[i]?=some (bx g bt cs)) (ht:rr P T=some none) (ha:e a=.pointer (some ⟨g,0,none⟩)) (hv:Dl cs 0=some v):qt P e w (.cell a T) v:=by
  have hl:=rh.box (P:=P) (ρ:=ev e) (x:=.tmp a) (o:=0) (cs:=cs) (bt:=bt) (fr:=(0,0)) ht ha hv;refine ⟨_,ha,?_⟩;have h1:=hl none 0 "" #[] none w (St.cell (h:=hS) hi);have ha':ev e (.tmp a)=.pointer (some ⟨g,0,none⟩):=ha;simp only [execOp,Instr.loadAt,ha',Instr.sureAddr] at h1
  cases hr:(loadVar T ⟨g,0,none⟩).run P w with
  | ok v w'=>simp [hr] at h1;obtain ⟨h2,h3⟩:=h1;subst h2;subst h3;rfl
  | halt x w'=>simp [hr] at h1
end Go.Kx
namespace Go.Kx
open Go Go.RowKit
set_option linter.unusedVariables false
set_option linter.unusedSimpArgs false
section
variable {P:Program} {w0 w w1:World} {F0 F:List Nat} {L:List Item} {α β γ:Type} [qe α] [qe β] [qe γ]
def al (x:Item) (b:Option Addr) (k:Nat) (m:List β):Item :=
  ⟨fun w F=>∃ F1 F2,F=F1++F2∧x.p w F1∧ra (fun q=>q ∈ F) w b k m,fun w w' F h hb=>by
    obtain ⟨F1,F2,rfl,h1,h2⟩:=h
    exact ⟨F1,F2,rfl,x.frame w w' F1 h1 fun q hq=>hb q (List.mem_append_left _ hq),h2.vv hb⟩⟩
end
theorem rh.cells {P:Program} {ρ:Operand→Value} {t:TypeId} {x:Operand} {b o m:Nat} {cs:List Value} (ht:rr P t=some (some m)) (hx:ρ x=.pointer (some ⟨b,o,none⟩)) (hl:cs.length=m) :
    rh P ρ (.load t x) (fun w=>∀ (j:Nat) (u:Value),cs[j]?=some u→w.cell? ⟨b,o+j,none⟩=some u) (.agg cs.toArray) :=
  fun d ty pos aft gd w hc=>rh.agg ht hx hl d ty pos aft gd w hc
section
variable {P:Program} {n:Nat} {ops:Array Oper} {Q:tr} {rest:List Oper} {e:Env} {w w0:World} {F0:List Nat} {L M:List Item} {d:Nat} {ty:TypeId} {pos:String} {aft:Array Edge} {α β γ:Type} [qe α] [qe β] [qe γ]
end
end Go.Kx
