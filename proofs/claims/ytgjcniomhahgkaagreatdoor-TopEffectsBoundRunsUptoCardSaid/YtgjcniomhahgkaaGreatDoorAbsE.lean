/-
  The driver's rules for operations.
-/
import Derived.Test.YtgjcniomhahgkaaGreatDoorM2
set_option linter.unusedSimpArgs false
set_option linter.unusedVariables false
namespace Go.Abs
section
variable {E : Env} {ops : Array Oper} {op : Oper} {rest : List Oper} {k : List KI} {V : VF} {H : List HA} {m m' : Md}
inductive Ny:Md→Md→List HA→List HA→Prop
 | o {H:List HA}:Ny .o .o H H
 | s {H:List HA}:Ny .s .s H H
 | t {Ds:List Nat} {bs:List Fb} {ls:Array Bool} {i:Nat} {is:List Nat} {Kl:List (List Nat)} {H Hs:List HA}:Ny (.a Ds (.t::bs) ls (i::is) Kl Hs) (.a Ds bs (ls.setIfInBounds i true) is Kl Hs) H Hs
 | n {Ds:List Nat} {bs:List Fb} {ls:Array Bool} {i:Nat} {is:List Nat} {Kl:List (List Nat)} {H Hs:List HA}:Ny (.a Ds (.n::bs) ls (i::is) Kl Hs) (.a Ds bs (ls.setIfInBounds i true) is Kl Hs) H []
 | f {Ds:List Nat} {bs:List Fb} {ls:Array Bool} {i:Nat} {is:List Nat} {Kl Kl' : List (List Nat)} {H Hs Hs' : List HA} (h:Kd i Kl Hs Kl' Hs'):Ny (.a Ds (.f::bs) ls (i::is) Kl Hs) (.a (Ds.filter (· != i)) bs (ls.setIfInBounds i true) is Kl' Hs') H H
 | ut {i:Nat} {Ds:List Nat} {T:Ot} {ls:Array Bool} {Kl:List (List Nat)} {H Hs:List HA}:Ny (.u true i Ds T ls Kl Hs) (.t true Ds T (ls.setIfInBounds i true) Kl Hs) H Hs
 | uf {i:Nat} {Ds:List Nat} {T:Ot} {ls:Array Bool} {Kl Kl' : List (List Nat)} {H Hs Hs' : List HA} (h:Kd i Kl Hs Kl' Hs'):Ny (.u false i Ds T ls Kl Hs) (.t true (Ds.filter (· != i)) T (ls.setIfInBounds i true) Kl' Hs') H H
inductive Nz:Md→Md→Prop
 | o:Nz .o .o
 | s:Nz .s .s
 | t {Ds:List Nat} {bs:List Fb} {ls:Array Bool} {i:Nat} {is:List Nat} {Kl:List (List Nat)} {Hs:List HA}:Nz (.a Ds (.t::bs) ls (i::is) Kl Hs) (.a Ds bs (ls.setIfInBounds i true) is Kl Hs)
 | n {Ds:List Nat} {bs:List Fb} {ls:Array Bool} {i:Nat} {is:List Nat} {Kl:List (List Nat)} {Hs:List HA}:Nz (.a Ds (.n::bs) ls (i::is) Kl Hs) (.a Ds bs (ls.setIfInBounds i true) is Kl Hs)
 | f {Ds:List Nat} {bs:List Fb} {ls:Array Bool} {i:Nat} {is:List Nat} {Kl Kl' : List (List Nat)} {Hs Hs' : List HA} (h:Kd i Kl Hs Kl' Hs'):Nz (.a Ds (.f::bs) ls (i::is) Kl Hs) (.a (Ds.filter (· != i)) bs (ls.setIfInBounds i true) is Kl' Hs')
inductive Oz:Md→Prop
 | o:Oz .o
 | s:Oz .s
inductive Nt:Md→Md→Prop
 | o:Nt .o .o
 | a {Ds:List Nat} {bs:List Fb} {ls:Array Bool} {i:Nat} {is:List Nat} {Kl Kl' : List (List Nat)} {Hs Hs' : List HA} (h:Kd i Kl Hs Kl' Hs'):Nt (.a Ds (.f::bs) ls (i::is) Kl Hs) (.a (Ds.filter (· != i)) bs (ls.setIfInBounds i true) is Kl' Hs')
 | u {i:Nat} {Ds:List Nat} {T:Ot} {ls:Array Bool} {Kl Kl' : List (List Nat)} {Hs Hs' : List HA} (h:Kd i Kl Hs Kl' Hs'):Nt (.u false i Ds T ls Kl Hs) (.t true (Ds.filter (· != i)) T (ls.setIfInBounds i true) Kl' Hs')
theorem ord_t {ops:Array Oper} {i:Nat} {Ds is:List Nat} {ls:Array Bool} {bs:List Fb} (h:ordok ops Ds (i::is) ls (.t::bs)=true):Region.noSelect ops=true∧Region.free .any ops ls i=true∧(Region.ready .any ops ls).contains i=true∧zb3 ops ls i Ds=true∧ordok ops Ds is (ls.setIfInBounds i true) bs=true:=by
 simp only [ordok,Bool.and_eq_true] at h
 exact ⟨h.1.1.1.1,h.1.1.1.2,h.1.1.2,h.1.2,h.2⟩
theorem ord_f {ops:Array Oper} {i:Nat} {Ds is:List Nat} {ls:Array Bool} {bs:List Fb} (h:ordok ops Ds (i::is) ls (.f::bs)=true):Region.ready .any ops ls=[i]∧ordok ops (Ds.filter (· != i)) is (ls.setIfInBounds i true) bs=true:=by
 simp only [ordok,Bool.and_eq_true,beq_iff_eq] at h
 exact h
theorem zgz {ops:Array Oper} {ls:Array Bool} {i:Nat}:∀ (l S:List Nat),(zfe ops i S∧∀ d∈S,ls.getD d true=false)→zfe ops i (l.foldl (fun S j=>bif clB ops ls i S j then j::S else S) S)∧∀ d∈l.foldl (fun S j=>bif clB ops ls i S j then j::S else S) S,ls.getD d true=false
  | [],_,h=>h
  | j :: l, S, h => by
    rw [List.foldl_cons]
    refine zgz l _ ?_
    cases hb:clB ops ls i S j with
    | false=>exact h
    | true =>
      unfold clB at hb
      simp only [Bool.and_eq_true,bne_iff_ne,ne_eq,Bool.not_eq_true'] at hb
      obtain ⟨⟨h1,h2⟩,h3⟩:=hb
      refine ⟨fun d hd=>?_,fun d hd=>?_⟩
      · rcases List.mem_cons.1 hd with rfl | hd
        · cases ho:ops[d]? with
          | none=>rw [ho] at h3; cases h3
          | some o =>
            rw [ho] at h3
            simp only [Array.any_eq_true'] at h3
            obtain ⟨e,h4,h5⟩:=h3
            simp only [Bool.and_eq_true,Bool.or_eq_true,beq_iff_eq,List.contains_iff_mem] at h5
            exact ⟨h1,o,e,rfl,h4,h5.1,h5.2.imp id fun h=>List.mem_cons_of_mem _ h⟩
        · obtain ⟨g1,od,e,g2,g3,g4,g5⟩:=h.1 d hd
          exact ⟨g1,od,e,g2,g3,g4,g5.imp id fun h=>List.mem_cons_of_mem _ h⟩
      · rcases List.mem_cons.1 hd with rfl | hd
        · exact h2
        · exact h.2 d hd
theorem zby {ops:Array Oper} {ls:Array Bool} {i:Nat} {Ds:List Nat} (h:zb3 ops ls i Ds=true):∃ D,zfe ops i D∧(∀ d∈D,ls.getD d true=false)∧∀ d∈Ds,d∈D:=by
  cases Ds with
  | nil=>exact ⟨[],fun d hd=>by simp at hd,fun d hd=>by simp at hd,fun d hd=>by simp at hd⟩
  | cons x Ds =>
    obtain ⟨h1,h2⟩:=zgz (ops:=ops) (ls:=ls) (i:=i) (List.range ops.size) [] ⟨fun d hd=>by simp at hd,fun d hd=>by simp at hd⟩
    exact ⟨_,h1,h2,fun d hd=>by
      have:=List.all_eq_true.1 h d hd
      exact List.contains_iff_mem.1 this⟩
theorem Rel.sh {a:Act} {w:World} {Hs:List HA} (r:Rel E V H a w) (hs:Sub H Hs):SH E Hs w:=by
 obtain ⟨_,_,_,o,hb,ht,hst⟩:=r
 exact ⟨o,hb,ht.tr,hs.sats hst⟩
theorem Rel.sh' {a:Act} {w:World} {Hs:List HA} (r:Rel E V H a w) (hs:Tsub H Hs):SH E Hs w:=by
 obtain ⟨_,_,_,o,hb,ht,hst⟩:=r
 obtain ⟨H',h1,h2⟩:=hs
 obtain ⟨o',g1,g2,g3⟩:=h1 w o hb hst
 exact ⟨o',g1,ht.tr.trans g2,h2.sats g3⟩
theorem SH.lv {Hs:List HA} {w:World} {L:Array Bool} {Kl:List (List Nat)} (h:SH E Hs w):SH E (lvK L Kl Hs) w:=let ⟨o,h1,h2,h3⟩:=h; ⟨o,h1,h2,(zef Kl Hs).sats h3⟩
section
variable {i fuel : Nat} {ls : Array Bool} {Kl Kl' : List (List Nat)} {Hs Hs' : List HA} {Ds : List Nat}
theorem zdh {v:Value} (hi:ops[i]? = some op) (h1:Region.noSelect ops=true) (h2:Region.free .any ops ls i=true) (h3:(Region.ready .any ops ls).contains i=true) (h5:zb3 ops ls i Ds=true) (hK:∀ p∈Kl,∀ d∈p,d∈Ds) (hs:Sub H Hs) (hbl:E.blind=true) (hd:inB E.n op.dst=true)
  (hy:∀ a,(∃ w,Rel E V H a w)→YieldsIf E.P ops (SH E Hs) op v a) (hk:AnyM E ops (ls.setIfInBounds i true) fuel k (V.put op.dst v) H Kl Hs):AnyM E ops ls (fuel+1) k V H Kl Hs:=by
 intro a w r
 obtain ⟨D,hB,hun,hsub⟩:=zby h5
 have hne:∀ p∈Kl,∀ d∈p,d≠i:=fun p hp d hd=>(hB d (hsub d (hK p hp d hd))).1
 refine z7X (S:=SH E Hs) (D:=D) hi (Region.noSelect_spec h1) (fun c a w hq=>z5C hbl k c a w hq) hB ?_ ?_ ?_ _ _ _ _ (Region.free_spec hi h2) (by simpa using h3) (hy a ⟨w,r⟩) hun (r.sh hs).lv ?_
 ·intro L w hL h
  rwa [zgP Kl Hs fun p hp d hd=>hL d (hsub d (hK p hp d hd))] at h
 ·intro L w h
  rwa [zbc Kl Hs hne] at h
 ·intro L w h
  rwa [zbc Kl Hs hne]
 ·obtain ⟨h1,h2,h3,o,hb,ht,hst⟩:=r
  exact hk _ w (Rel.put h1 h2 h3 hd hb ht (Tr.refl w o) hst)
theorem ord_n {ops:Array Oper} {i:Nat} {Ds is:List Nat} {ls:Array Bool} {bs:List Fb} (h:ordok ops Ds (i::is) ls (.n::bs)=true):Region.noSelect ops=true∧Region.free .any ops ls i=true∧(Region.ready .any ops ls).contains i=true∧¬ i∈Ds∧ordok ops Ds is (ls.setIfInBounds i true) bs=true:=by
 simp only [ordok,Bool.and_eq_true,Bool.not_eq_true',List.contains_eq_mem,decide_eq_false_iff_not] at h
 exact ⟨h.1.1.1.1,h.1.1.1.2,by simpa using h.1.1.2,h.1.2,h.2⟩
theorem zdi {v:Value} (hi:ops[i]? = some op) (h1:Region.noSelect ops=true) (h2:Region.free .any ops ls i=true) (h3:(Region.ready .any ops ls).contains i=true) (h5:¬ i∈Ds) (hK:∀ p∈Kl,∀ d∈p,d∈Ds) (hs:Sub H Hs) (hbl:E.blind=true) (hd:inB E.n op.dst=true)
  (hy:∀ a,(∃ w,Rel E V H a w)→YieldsIf E.P ops (fun _=>True) op v a) (hk:AnyM E ops (ls.setIfInBounds i true) fuel k (V.put op.dst v) H Kl Hs):AnyM E ops ls (fuel+1) k V H Kl Hs:=by
 intro a w r
 have hne:∀ p∈Kl,∀ d∈p,d≠i:=fun p hp d hd e=>h5 (e ▸ hK p hp d hd)
 refine z7X (S:=fun _=>True) (D:=[]) hi (Region.noSelect_spec h1) (fun c a w hq=>z5C hbl k c a w hq) (fun d hd=>by simp at hd) (fun _ _ _ _=>trivial) ?_ ?_ _ _ _ _ (Region.free_spec hi h2) (by simpa using h3) (hy a ⟨w,r⟩) (fun d hd=>by simp at hd) (r.sh hs).lv ?_
 ·intro L w h
  rwa [zbc Kl Hs hne] at h
 ·intro L w h
  rwa [zbc Kl Hs hne]
 ·obtain ⟨h1,h2,h3,o,hb,ht,hst⟩:=r
  exact hk _ w (Rel.put h1 h2 h3 hd hb ht (Tr.refl w o) hst)
theorem zbY {V:VF} (hK:Kd i Kl Hs Kl' Hs'):∀ (fuel:Nat) (ls:Array Bool) (a:Act) (w:World),ls.getD i true=true→z6U E.r E.P ops (Qof E k) (fun L=>SH E (lvK L Kl' Hs')) fuel ls a w→z6U E.r E.P ops (Qof E k) (fun L=>SH E (lvK L Kl Hs)) fuel ls a w
 | 0,_,_,_,_,hh=>hh
 | fuel+1,ls,_,_,hl,hh=>⟨hh.1,fun j hj=>z8N (fun a' w' ⟨h1,h2⟩=>by
  have hl' : (ls.setIfInBounds j true).getD i true=true:=by
   by_cases hji:j=i
   ·subst hji
    rcases Nat.lt_or_ge j ls.size with h | h
    ·simp [h]
    ·simp [Array.getElem?_eq_none h]
   ·rw [getD_set_ne true hji]; exact hl
  exact ⟨by show SH E (lvK (ls.setIfInBounds j true) Kl Hs) w'; rw [hK.eq hl']; exact h1,zbY (V:=V) hK fuel _ a' w' hl' h2⟩) (hh.2 j hj)⟩
theorem zeJ (ls:Array Bool) (i:Nat):(ls.setIfInBounds i true).getD i true=true:=by
 rcases Nat.lt_or_ge i ls.size with h | h
 ·simp [h]
 ·simp [Array.getElem?_eq_none h]
theorem am_ot {post:Post} (hi:ops[i]? = some op) (hK:Kd i Kl Hs Kl' Hs') (hw:Wants E.n ops V op) (hd:inB E.n op.dst=true) (h:OpT E.P op V H post)
    (hk:∀ v H',post v H'→Tsub H' Hs'∧AnyM E ops (ls.setIfInBounds i true) fuel k (V.put op.dst v) H' Kl' Hs'):AnyOM E ops ls fuel k V H Kl Hs i:=by
  intro a w r
  have hl:=zeJ ls i
  have fin:∀ {v:Value} {H' : List HA} {a' : Act} {w' : World},Tsub H' Hs'∧AnyM E ops (ls.setIfInBounds i true) fuel k (V.put op.dst v) H' Kl' Hs'→Rel E (V.put op.dst v) H' a' w'→SH E (lvK (ls.setIfInBounds i true) Kl Hs) w'∧z6U E.r E.P ops (Qof E k) (fun L=>SH E (lvK L Kl Hs)) fuel (ls.setIfInBounds i true) a' w':=fun hq hr=>⟨by rw [hK.eq hl]; exact (hr.sh' hq.1).lv,zbY (V:=V) hK _ _ _ _ hl (hq.2 _ _ hr)⟩
  unfold wpOpI
  simp only [hi]
  rw [if_pos (hw.wanted r)]
  have hf:=r.fits
  obtain ⟨h1,h2,h3,o,hb,ht,hs⟩:=r
  have:=h a.eval w o hf hb hs
  unfold Does at this
  generalize (execOp a.eval op).run E.P w=x at *
  cases x with
  | halt x w'=>simp at this
  | ok nx w' =>
    cases nx <;> simp only [Oper.uponIn] at this ⊢
    case value v=>
      obtain ⟨H',o',hp,hb',ht',hs'⟩:=this
      exact fin (hk v H' hp) (Rel.put h1 h2 h3 hd hb' ht ht' hs')
    case skip=>
      obtain ⟨H',o',hp,hb',ht',hs'⟩:=this
      exact fin (hk _ H' hp) (Rel.put h1 h2 h3 hd hb' ht ht' hs')
    case enter f args=>
      refine ⟨(fun h=>nomatch h),CallsIn.mono (F:=FR E.r) (callsIn_wide.2 this) ?_⟩
      rintro e w'' ⟨v,rfl,H',o',hp,hb',ht',hs'⟩
      exact fin (hk v H' hp) (Rel.put h1 h2 h3 hd hb' ht ht' hs')
theorem am_t {post:Post} (hi:ops[i]? = some op) (hr:Region.ready .any ops ls=[i]) (hK:Kd i Kl Hs Kl' Hs') (hw:Wants E.n ops V op) (hd:inB E.n op.dst=true) (h:OpT E.P op V H post)
  (hk:∀ v H',post v H'→Tsub H' Hs'∧AnyM E ops (ls.setIfInBounds i true) fuel k (V.put op.dst v) H' Kl' Hs'):AnyM E ops ls (fuel+1) k V H Kl Hs:=by
 refine zfg hr fun j hj=>?_
 obtain rfl:=List.mem_singleton.1 hj
 exact am_ot hi hK hw hd h hk
theorem zjs (hi:ops[i]? = some op) (hr:Region.ready .any ops ls=[i]) (hK:Kd i Kl Hs Kl' Hs') (hd:inB E.n op.dst=true) (hs:Sub H Hs') (hw:∀ a w,Rel E V H a w→Region.wanted op (yielded ops a.tmps)=false)
  (hk:AnyM E ops (ls.setIfInBounds i true) fuel k (V.put op.dst undef) H Kl' Hs'):AnyM E ops ls (fuel+1) k V H Kl Hs:=by
 intro a w r
 refine z9W hr (by simp) ?_
 intro j hj
 obtain rfl:=List.mem_singleton.1 hj
 have hl:=zeJ ls j
 unfold wpOpI
 simp only [hi]
 rw [if_neg (by rw [hw a w r]; simp)]
 have r' : Rel E (V.put op.dst undef) H (a.put op.dst undef) w:=by
  obtain ⟨h1,h2,h3,o,hb,ht,hst⟩:=r
  exact Rel.put h1 h2 h3 hd hb ht (Tr.refl w o) hst
 exact ⟨by show SH E (lvK (ls.setIfInBounds j true) Kl Hs) w; rw [hK.eq hl]; exact (r'.sh hs).lv,zbY (V:=V) hK _ _ _ _ hl (hk _ _ r')⟩
end
theorem Kd.sub' {i:Nat} {Kl Kl' : List (List Nat)} {Hs Hs' H:List HA} (h:Kd i Kl Hs Kl' Hs') (hs:Sub H Hs):Sub H Hs':=by
 have:Sub Hs Hs':=by
  clear hs
  induction h with
  | z=>exact fun j h hj=>.inr hj
  | k _ _ ih=>exact z4O ih
  | d _ _ ih=>exact z7R ih
 exact fun j x hj=>(this j x hj).elim .inl fun h=>hs j x h
theorem Kd.ds {i:Nat} {Kl Kl' : List (List Nat)} {Hs Hs' : List HA} {Ds:List Nat} (h:Kd i Kl Hs Kl' Hs') (hK:∀ p∈Kl,∀ d∈p,d∈Ds):∀ p∈Kl',∀ d∈p,d∈Ds.filter (· != i):=fun p hp d hd=>by
 obtain ⟨h1,q,h2,h3⟩:=h.sub p hp d hd
 exact List.mem_filter.2 ⟨hK q h2 d h3,by simpa using h1⟩
theorem wk_t {post:Post} (hn:Nt m m') (hw:Wants E.n ops V op) (hd:inB E.n op.dst=true) (h:OpT E.P op V H post) (hk:∀ v H',post v H'→Wd m' E ops rest k (V.put op.dst v) H'):Wk m E ops (op::rest) k V H:=by
  cases hn with
  | o=>exact ops_t hw hd h hk
  | a hK =>
    intro hbl ho hD hp hs
    obtain ⟨h1,h2⟩:=ord_f ho
    cases hp with
    | s hi hp=>exact am_t hi h1 hK hw hd h fun v H' hv=>hk v H' hv hbl h2 (hK.ds hD) hp
  | u hK =>
    intro hbl ho hD hp hs fuel hf
    cases hp with
    | s hi hp=>exact am_ot hi hK hw hd h fun v H' hv=>let ⟨h1,h2⟩:=hk v H' hv hbl ho (hK.ds hD); ⟨h1,h2 fuel hf⟩
theorem wk_y {v:Value} {G:List HA} (hn:Ny m m' H G) (hw:Wants E.n ops V op) (hd:inB E.n op.dst=true) (h:OpY E.P op V G v) (hk:Wk m' E ops rest k (V.put op.dst v) H):Wk m E ops (op::rest) k V H:=by
  cases hn with
  | o=>exact ops_y hw hd h hk
  | s=>exact zeT hw hd h hk
  | t =>
    intro hbl ho hD hp hs
    obtain ⟨h1,h2,h3,h5,h4⟩:=ord_t ho
    cases hp with
    | s hi hp=>exact zdh hi h1 h2 h3 h5 hD hs hbl hd (fun a ⟨w,r⟩=>.inl ⟨hw.wanted r,fun w' ⟨o,hb,ht,hst⟩=>h a.eval w' o r.fits hb hst⟩) (hk hbl h4 hD hp hs)
  | n =>
    intro hbl ho hD hp hs
    obtain ⟨h1,h2,h3,h5,h4⟩:=ord_n ho
    cases hp with
    | s hi hp=>exact zdi hi h1 h2 h3 h5 hD hs hbl hd (fun a ⟨w,r⟩=>.inl ⟨hw.wanted r,fun w' _=>h a.eval w' (fun _=>.no) r.fits (fun _ _=>rfl) (fun _ _ hj=>by simp at hj)⟩) (hk hbl h4 hD hp hs)
  | f hK =>
    intro hbl ho hD hp hs
    obtain ⟨h1,h2⟩:=ord_f ho
    cases hp with
    | s hi hp=>exact am_t hi h1 hK hw hd h.t fun _ _ ⟨e1,e2⟩=>by subst e1; subst e2; exact ⟨.of (hK.sub' hs),hk hbl h2 (hK.ds hD) hp (hK.sub' hs)⟩
  | ut =>
    intro hbl ho hD hp hs fuel hf
    simp only [trok,Bool.and_eq_true] at ho
    cases hp with
    | s hi hp=>exact zdh hi ho.1.1.1.1 ho.1.1.1.2 ho.1.1.2 ho.1.2 hD hs hbl hd (fun a ⟨w,r⟩=>.inl ⟨hw.wanted r,fun w' ⟨o,hb,ht,hst⟩=>h a.eval w' o r.fits hb hst⟩) (hk hbl ho.2 hD hs fuel hf)
  | uf hK =>
    intro hbl ho hD hp hs fuel hf
    cases hp with
    | s hi hp=>exact am_ot hi hK hw hd h.t fun _ _ ⟨e1,e2⟩=>by subst e1; subst e2; exact ⟨.of (hK.sub' hs),hk hbl ho (hK.ds hD) (hK.sub' hs) fuel hf⟩
theorem wk_nw (hn:Nz m m') (hw:∀ a w,Rel E V H a w→Region.wanted op (yielded ops a.tmps)=false) (hd:inB E.n op.dst=true) (hno:m≠.o) (hns:m≠.s) (hk:Wk m' E ops rest k (V.put op.dst undef) H):Wk m E ops (op::rest) k V H:=by
  cases hn with
  | o=>exact absurd rfl hno
  | s=>exact absurd rfl hns
  | t =>
    intro hbl ho hD hp hs
    obtain ⟨h1,h2,h3,h5,h4⟩:=ord_t ho
    cases hp with
    | s hi hp=>exact zdh hi h1 h2 h3 h5 hD hs hbl hd (fun a ⟨w,r⟩=>.inr ⟨hw a w r,rfl⟩) (hk hbl h4 hD hp hs)
  | n =>
    intro hbl ho hD hp hs
    obtain ⟨h1,h2,h3,h5,h4⟩:=ord_n ho
    cases hp with
    | s hi hp=>exact zdi hi h1 h2 h3 h5 hD hs hbl hd (fun a ⟨w,r⟩=>.inr ⟨hw a w r,rfl⟩) (hk hbl h4 hD hp hs)
  | f hK =>
    intro hbl ho hD hp hs
    obtain ⟨h1,h2⟩:=ord_f ho
    cases hp with
    | s hi hp=>exact zjs hi h1 hK hd (hK.sub' hs) hw (hk hbl h2 (hK.ds hD) hp (hK.sub' hs))
theorem wk_no (hn:Nz m m') (j:Nat) (b:Bool) (t:Nat) (hg:op.guard=some (j,b)) (hj:((ops[j]?).bind (·.dst))=some t) (hv:V t=some (.bool (!b))) (ht:Nat.blt t E.n=true) (hd:inB E.n op.dst=true) (hk:Wk m' E ops rest k (V.put op.dst undef) H):Wk m E ops (op::rest) k V H:=by
 have hw:∀ a w,Rel E V H a w→Region.wanted op (yielded ops a.tmps)=false:=fun a w r=>by
  have h2:=getD_some r.1 ht (r.2.2.1 t _ hv)
  cases b <;> simp [Region.wanted,hg,yielded,hj,h2]
 cases hn with
 | o=>exact zl8 j b t hg hj hv ht hd hk
 | s=>exact zeR j b t hg hj hv ht hd hk
 | t=>exact wk_nw .t hw hd (by intro h; cases h) (by intro h; cases h) hk
 | n=>exact wk_nw .n hw hd (by intro h; cases h) (by intro h; cases h) hk
 | f hK=>exact wk_nw (.f hK) hw hd (by intro h; cases h) (by intro h; cases h) hk
theorem wk_un (hn:Nz m m') (j:Nat) (b:Bool) (t:Nat) (hg:op.guard=some (j,b)) (hj:((ops[j]?).bind (·.dst))=some t) (hv:V t=some undef) (ht:Nat.blt t E.n=true) (hd:inB E.n op.dst=true) (hk:Wk m' E ops rest k (V.put op.dst undef) H):Wk m E ops (op::rest) k V H:=by
 have hw:∀ a w,Rel E V H a w→Region.wanted op (yielded ops a.tmps)=false:=fun a w r=>by
  have h2:=getD_some r.1 ht (r.2.2.1 t _ hv)
  cases b <;> simp [Region.wanted,hg,yielded,hj,h2,undef]
 cases hn with
 | o=>exact znG j b t hg hj hv ht hd hk
 | s=>exact ziC j b t hg hj hv ht hd hk
 | t=>exact wk_nw .t hw hd (by intro h; cases h) (by intro h; cases h) hk
 | n=>exact wk_nw .n hw hd (by intro h; cases h) (by intro h; cases h) hk
 | f hK=>exact wk_nw (.f hK) hw hd (by intro h; cases h) (by intro h; cases h) hk
theorem wd_ex {γ:Type} {K:γ→List HA} {l:List Oper} (h:ExT H K) (hk:∀ g,Wd m E ops l k V (H++K g)):Wk m E ops l k V H:=by
  cases m with
  | o=>exact zl7 h hk
  | s=>exact zeQ h hk
  | a Ds bs ls is Kl Hs=>exact fun hbl ho hD hp hs=>fun a w r=>let ⟨g,r'⟩:=r.ex h; (hk g hbl ho hD hp).2 a w r'
  | t top => cases top with
    | true=>exact fun hbl ho hD hs fuel hf=>fun a w r=>let ⟨g,r'⟩:=r.ex h; (hk g hbl ho hD).2 fuel hf a w r'
    | false=>exact fun hbl ho hD hs fuel hf i hi=>fun a w r=>let ⟨g,r'⟩:=r.ex h; (hk g hbl ho hD).2 fuel hf i hi a w r'
  | u fr => cases fr with
    | true=>exact fun hbl ho hD hp hs fuel hf=>fun a w r=>let ⟨g,r'⟩:=r.ex h; (hk g hbl ho hD hp).2 fuel hf a w r'
    | false=>exact fun hbl ho hD hp hs fuel hf=>fun a w r=>let ⟨g,r'⟩:=r.ex h; (hk g hbl ho hD hp).2 fuel hf a w r'
theorem z7l {l:List Oper} {H' : List HA} (h:Turn H H') (hk:Wd m E ops l k V H'):Wk m E ops l k V H:=by
  cases m with
  | o=>exact zaO h hk
  | s=>exact zeS h hk
  | a Ds bs ls is Kl Hs=>exact fun hbl ho hD hp hs=>fun a w r=>(hk hbl ho hD hp).2 a w (r.turn h)
  | t top => cases top with
    | true=>exact fun hbl ho hD hs fuel hf=>fun a w r=>(hk hbl ho hD).2 fuel hf a w (r.turn h)
    | false=>exact fun hbl ho hD hs fuel hf i hi=>fun a w r=>(hk hbl ho hD).2 fuel hf i hi a w (r.turn h)
  | u fr => cases fr with
    | true=>exact fun hbl ho hD hp hs fuel hf=>fun a w r=>(hk hbl ho hD hp).2 fuel hf a w (r.turn h)
    | false=>exact fun hbl ho hD hp hs fuel hf=>fun a w r=>(hk hbl ho hD hp).2 fuel hf a w (r.turn h)
end
section
variable {P : Program} {V : VF} {H : List HA} {d : Option Nat} {ty : TypeId} {pos : String} {af : Array Edge} {g : Option (Nat × Bool)}
inductive Fx:List Field→Nat→TypeId→Nat→Prop
 | z {nm:String} {T:TypeId} {o:Nat} {e:Bool} {tag pp:String} {bo:Nat} {fs:List Field}:Fx (⟨nm,T,o,e,tag,pp,bo⟩::fs) 0 T o
 | s {f:Field} {fs:List Field} {i:Nat} {T:TypeId} {o:Nat} (r:Fx fs i T o):Fx (f::fs) (i+1) T o
theorem Fx.get {fs:List Field} {i:Nat} {T:TypeId} {o:Nat} (h:Fx fs i T o):∃ f,fs.toArray[i]? = some f∧f.type=T∧f.offset=o:=by
 induction h with
 | z=>exact ⟨_,rfl,rfl,rfl⟩
 | s _ ih=>obtain ⟨f,h1,h2⟩:=ih; exact ⟨f,by simpa using h1,h2⟩
theorem fxx {fs:List Field} {i:Nat} {T:TypeId} {o:Nat} (h:Fx fs i T o:=by ((repeat (first | exact Fx.z | apply Fx.s)); (first | done | fail))):Fx fs i T o:=h
theorem y_fab {S T:TypeId} {x:Operand} {b off o fi n:Nat} {fs:List Field} (hx:V.ev x=some (boxP b off)) (hu:∀ w,(underlying S).run P w = .ok (.struct fs.toArray) w) (hf' : Fx fs fi T o) (hz:∀ w,(sizeOf T).run P w = .ok n w) (hn:Nat.blt 0 n=true) :
  OpY P ⟨d,.fieldAddr S x fi,ty,pos,af,g⟩ V H (boxP b (off+o)):=by
 obtain ⟨f,hf,rfl,rfl⟩:=hf'.get
 obtain ⟨sz,rfl⟩ : ∃ sz,n=sz+1:=⟨n - 1,by simp at hn; omega⟩
 exact z8f hu hf hz hx
theorem y_pt {c x y:Operand} {u v:Value} (hc:V.ev c=some u) (hb:Isb u true) (hv:V.ev x=some v):OpY P ⟨d,.pick c x y,ty,pos,af,g⟩ V H v:=zlO (b:=true) (hb.eq ▸ hc) hv
theorem y_pf {c x y:Operand} {u v:Value} (hc:V.ev c=some u) (hb:Isb u false) (hv:V.ev y=some v):OpY P ⟨d,.pick c x y,ty,pos,af,g⟩ V H v:=zlO (b:=false) (hb.eq ▸ hc) hv
section
variable {v : Value} {T el : TypeId} {es n : Nat} {x : Operand}
theorem y1_ln (hx:V.ev x=some v) (hu:∀ w,(underlying T).run P w = .ok (.slice el) w) (hr:Rn H v es n):OpY P ⟨d,.call ⟨.builtin .len,#[x],#[T]⟩,ty,pos,af,g⟩ V H (.int .i64 n):=y_ln hx rfl hu hr
theorem y1_lm {α:Type} {l:List α} {F:α→List Value} (hx:V.ev x=some v) (hu:∀ w,(underlying T).run P w = .ok (.slice el) w) (hr:Rd H v es (l.map F)):OpY P ⟨d,.call ⟨.builtin .len,#[x],#[T]⟩,ty,pos,af,g⟩ V H (.int .i64 (l.length:Int)):=y_lm hx rfl hu hr
theorem y1_ll {c:List (List Value)} (hx:V.ev x=some v) (hu:∀ w,(underlying T).run P w = .ok (.slice el) w) (hr:Rd H v es c):OpY P ⟨d,.call ⟨.builtin .len,#[x],#[T]⟩,ty,pos,af,g⟩ V H (.int .i64 c.length):=y_ll hx rfl hu hr
theorem zoe {ll:List UInt8} (hx:V.ev x=some (.string (bs ll))) (hu:∀ w,(underlying T).run P w = .ok .string w):OpY P ⟨d,.call ⟨.builtin .len,#[x],#[T]⟩,ty,pos,af,g⟩ V H (.int .i64 (ll.length:Int)):=zgs rfl hu hx
theorem zod (hx:V.ev x=some (.slice none 0 0)) (hu:∀ w,(underlying T).run P w = .ok (.slice el) w):OpY P ⟨d,.call ⟨.builtin .len,#[x],#[T]⟩,ty,pos,af,g⟩ V H (.int .i64 0):=zgr rfl hu hx
end
theorem y_fae {S T:TypeId} {x:Operand} {v:Value} {k fi n o:Nat} {fs:List Field} (hx:V.ev x=some (elemP v k)) (hu:∀ w,(underlying S).run P w = .ok (.struct fs.toArray) w) (hf' : Fx fs fi T o) (hz:∀ w,(sizeOf T).run P w = .ok n w) (hn:Nat.blt 0 n=true) :
  OpY P ⟨d,.fieldAddr S x fi,ty,pos,af,g⟩ V H (elemP v (k+o)):=by
 obtain ⟨f,hf,rfl,rfl⟩:=hf'.get
 obtain ⟨sz,rfl⟩ : ∃ sz,n=sz+1:=⟨n - 1,by simp at hn; omega⟩
 exact z9Z hu hf hz hx
theorem y_fl {S T:TypeId} {x:Operand} {cs:List Value} {fi o:Nat} {fs:List Field} {r:Value} (hx:V.ev x=some (.agg cs.toArray)) (hu:∀ w,(underlying S).run P w = .ok (.struct fs.toArray) w) (hf' : Fx fs fi T o) (ha:∀ w,(isAgg T).run P w = .ok false w) (hr:cs[o]? = some r) :
  OpY P ⟨d,.field S x fi,ty,pos,af,g⟩ V H r:=by
 obtain ⟨f,hf,rfl,rfl⟩:=hf'.get
 exact y_ff hx hu hf ha hr
theorem y_fla {S T:TypeId} {x:Operand} {cs c:List Value} {fi o n:Nat} {fs:List Field} (hx:V.ev x=some (.agg cs.toArray)) (hu:∀ w,(underlying S).run P w = .ok (.struct fs.toArray) w) (hf' : Fx fs fi T o) (ha:∀ w,(isAgg T).run P w = .ok true w) (hz:∀ w,(sizeOf T).run P w = .ok n w) (hc:Tk cs o n c) :
  OpY P ⟨d,.field S x fi,ty,pos,af,g⟩ V H (.agg c.toArray):=by
 obtain ⟨f,hf,rfl,rfl⟩:=hf'.get
 exact y_fa hx hu hf ha hz hc
end
section
variable {R : Type} {g : Hn} {X : Option R} {r : R} {E : Env} {k : List KI} {L L' : List (Nat × Value)} {H H' H1 : List HA} {ops : Array Oper} {rest l : List Oper} {m m' : Md} {Hg : List HA}
variable {d : Nat} {o : Op} {ty : TypeId} {pos : String} {af : Array Edge} {gd : Option (Nat × Bool)} {T el : TypeId} {x y : Operand} {v u : Value}
theorem do_y (hn:Ny m m' H Hg) (h:OpY E.P ⟨some d,o,ty,pos,af,gd⟩ (VF.of L) Hg v) (hk:DO m' rest X g r E ops k ((d,v)::L) H) (hw:Wants E.n ops (VF.of L) ⟨some d,o,ty,pos,af,gd⟩) (hd:inB E.n (some d)=true):DO m (⟨some d,o,ty,pos,af,gd⟩::rest) X g r E ops k L H:=
 ⟨fun hx=>wk_y hn hw hd h (hk.out hx)⟩
theorem do_no {j t:Nat} {b b' : Bool} {u:Value} (hz:Nz m m') (hk:DO m' rest X g r E ops k ((d,undef)::L) H) (hj:((ops[j]?).bind (·.dst))=some t) (hv:VF.of L t=some u) (hn:Nb b b') (hb:Isb u b') (ht:Nat.blt t E.n=true) (hd:inB E.n (some d)=true):DO m (⟨some d,o,ty,pos,af,some (j,b)⟩::rest) X g r E ops k L H:=
 ⟨fun hx=>wk_no hz j b t rfl hj (by rw [← hn.eq,← hb.eq]; exact hv) ht hd (hk.out hx)⟩
theorem do_un {j t:Nat} {b:Bool} (hz:Nz m m') (hk:DO m' rest X g r E ops k ((d,undef)::L) H) (hj:((ops[j]?).bind (·.dst))=some t) (hv:VF.of L t=some undef) (ht:Nat.blt t E.n=true) (hd:inB E.n (some d)=true):DO m (⟨some d,o,ty,pos,af,some (j,b)⟩::rest) X g r E ops k L H:=
 ⟨fun hx=>wk_un hz j b t rfl hj hv ht hd (hk.out hx)⟩
theorem zhB {z:Value} {zs:List Value} (hn:Nt m m') (hk:∀ b,DM m' rest X g r E ops k ((d,boxP b 0)::L) (H++[box b zs])) (h0:∀ w,(zeroValue T).run E.P w = .ok z w) (hz:Nl z.cells.toList zs) (hw:Wants E.n ops (VF.of L) ⟨some d,.alloc T,ty,pos,af,gd⟩) (hd:inB E.n (some d)=true):DO m (⟨some d,.alloc T,ty,pos,af,gd⟩::rest) X g r E ops k L H:=
 ⟨fun hx=>wk_t hn hw hd (zep h0 hz) (by rintro _ _ ⟨b,rfl,rfl⟩; exact (hk b).out hx)⟩
theorem znA {P:Program} {V:VF} {cs:List Value} (hx:V.ev x=some u) (hc:Cel H u cs):OpT P ⟨some d,.box T x,ty,pos,af,gd⟩ V H (fun v' G=>∃ b,v'=boxP b 0∧G=H++[box b cs]):=by
 intro ρ w o hf hb hs
 have h:=t_box (P:=P) (V:=V) (H:=H) (d:=some d) (ty:=ty) (pos:=pos) (af:=af) (g:=gd) (T:=T) hx ρ w o hf hb hs
 rwa [hc.is hs] at h
theorem zmG {cs:List Value} (hn:Nt m m') (hk:∀ b,DM m' rest X g r E ops k ((d,boxP b 0)::L) (H++[box b cs])) (hx:(VF.of L).ev x=some u) (hc:Cel H u cs) (hw:Wants E.n ops (VF.of L) ⟨some d,.box T x,ty,pos,af,gd⟩) (hd:inB E.n (some d)=true):DO m (⟨some d,.box T x,ty,pos,af,gd⟩::rest) X g r E ops k L H:=
 ⟨fun hx'=>wk_t hn hw hd (znA hx hc) (by rintro _ _ ⟨b,rfl,rfl⟩; exact (hk b).out hx')⟩
theorem zhK {b off i:Nat} {cells vs vs' : List Value} (hn:Nt m m') (hb:Sb m' H') (hk:DO m' rest X g r E ops k L H') (hx:(VF.of L).ev x=some (boxP b off)) (hy:(VF.of L).ev y=some u) (hm:At H i (box b vs)) (hc:Cel H u cells) (hww:Wl vs off cells vs') (hS:St H i (box b vs') H') (h1:Ones H cells) {n:Nat} (hz:∀ w,(sizeOf T).run E.P w = .ok n w) (hl:cells.length=n)
  (hw:Wants E.n ops (VF.of L) ⟨none,.store T x y,ty,pos,af,gd⟩):DO m (⟨none,.store T x y,ty,pos,af,gd⟩::rest) X g r E ops k L H:=
 ⟨fun hx'=>wk_t hn hw rfl (zbH hx hy hm hc hww hS h1 (hl ▸ hz)) (by rintro _ _ ⟨rfl,rfl⟩; exact wd hb (hk.out hx'))⟩
section
variable {α : Type} {F : α → List Value} {C : NC α} {ll : List α} {es : Nat} {q : Int} {kd : IntKind} {kk : α → Option R}
theorem do_ix (hn:Ny m m' H Hg) (hk:∀ a,ll[q.toNat]? = some a→0≤q→q.toNat<ll.length→DO m' rest (kk a) g r E ops k ((d,elemP v (q.toNat*es))::L) H) (hx:(VF.of L).ev x=some v) (hy:(VF.of L).ev y=some (.int kd q)) (hu:∀ w,(underlying T).run E.P w = .ok (.slice el) w) (hz:∀ w,(sizeOf el).run E.P w = .ok es w) (hr:Rd Hg v es (ll.map F))
  (hw:Wants E.n ops (VF.of L) ⟨some d,.indexAddr T x y,ty,pos,af,gd⟩) (hd:inB E.n (some d)=true):DO m (⟨some d,.indexAddr T x y,ty,pos,af,gd⟩::rest) (idx ll q kk) g r E ops k L H:=
 ⟨fun hX=>let ⟨a,h0,h1,h2,h3⟩:=z8U hX; wk_y hn hw hd (y_ixl hx hy hu hz hr h0 (by rw [List.length_map]; exact h1)) ((hk a h2 h0 h1).out h3)⟩
theorem zmO (hn:Ny m m' H Hg) (hk:∀ a,ll[q.toNat]? = some a→0≤q→q.toNat<ll.length→DO m' rest (kk a) g r E ops k ((d,elemP v (q.toNat*es))::L) H) (hx:(VF.of L).ev x=some v) (hy:(VF.of L).ev y=some (.int kd q)) (hu:∀ w,(underlying T).run E.P w = .ok (.slice el) w) (hz:∀ w,(sizeOf el).run E.P w = .ok es w) {i:Nat} (hm:At Hg i (nrow v C ll)) (he:C.es=es)
  (hw:Wants E.n ops (VF.of L) ⟨some d,.indexAddr T x y,ty,pos,af,gd⟩) (hd:inB E.n (some d)=true):DO m (⟨some d,.indexAddr T x y,ty,pos,af,gd⟩::rest) (idx ll q kk) g r E ops k L H:=
 ⟨fun hX=>let ⟨a,h0,h1,h2,h3⟩:=z8U hX; wk_y hn hw hd (z7B i hu hz hx hy hm.get (he ▸ z8H) h0 h1) ((hk a h2 h0 h1).out h3)⟩
theorem zmL (hn:Ny m m' H Hg) (hk:∀ a,ll[q.toNat]? = some a→0≤q→q.toNat<ll.length→Al fun (e:C.G)=>DM m' rest (kk a) g r E ops k ((d,elemP v (q.toNat*es))::L) (H++atc v (q.toNat*es) (C.F a e)::C.S a e)) (hx:(VF.of L).ev x=some v) (hy:(VF.of L).ev y=some (.int kd q)) (hu:∀ w,(underlying T).run E.P w = .ok (.slice el) w) (hz:∀ w,(sizeOf el).run E.P w = .ok es w) {i i' : Nat} (hm:At H i (nro v C ll)) (hg:At Hg i' (nro v C ll)) (he:C.es=es)
  (hw:Wants E.n ops (VF.of L) ⟨some d,.indexAddr T x y,ty,pos,af,gd⟩) (hd:inB E.n (some d)=true):DO m (⟨some d,.indexAddr T x y,ty,pos,af,gd⟩::rest) (idx ll q kk) g r E ops k L H:=
 ⟨fun hX=>by
  obtain ⟨a,h0,h1,h2,h3⟩:=z8U hX
  subst he
  exact wk_y hn hw hd (z7B i' hu hz hx hy hg.get z81 h0 h1) (wd_ex (exAt i hm.get h2) fun e=>((hk a h2 h0 h1).out e).out h3)⟩
theorem zmN {T' : TC α} {ll:List α} (hn:Ny m m' H Hg) (hk:∀ a,ll[q.toNat]? = some a→0≤q→q.toNat<ll.length→Al fun (e:T'.G)=>DM m' rest (kk a) g r E ops k ((d,elemP v (q.toNat*es))::L) (H++atc v (q.toNat*es) (T'.F a e)::(T'.fixed a e++(T'.kids a e).map fun q=>nro q.1 T'.nc q.2))) (hx:(VF.of L).ev x=some v) (hy:(VF.of L).ev y=some (.int kd q)) (hu:∀ w,(underlying T).run E.P w = .ok (.slice el) w) (hz:∀ w,(sizeOf el).run E.P w = .ok es w) {i i' : Nat} (hm:At H i (nro v T'.nc ll)) (hg:At Hg i' (nro v T'.nc ll)) (he:T'.es=es)
  (hw:Wants E.n ops (VF.of L) ⟨some d,.indexAddr T x y,ty,pos,af,gd⟩) (hd:inB E.n (some d)=true):DO m (⟨some d,.indexAddr T x y,ty,pos,af,gd⟩::rest) (idx ll q kk) g r E ops k L H:=
 ⟨fun hX=>by
  obtain ⟨a,h0,h1,h2,h3⟩:=z8U hX
  subst he
  exact wk_y hn hw hd (z7B i' hu hz hx hy hg.get z81 h0 h1) (wd_ex (exAtT i hm.get h2) fun e=>((hk a h2 h0 h1).out e).out h3)⟩
end
theorem zmM {ll:List UInt8} {q:Int} {kd:IntKind} {kk:UInt8→Option R} (hn:Ny m m' H Hg) (hk:∀ a:UInt8,ll[q.toNat]? = some a→0≤q→q.toNat<ll.length→DO m' rest (kk a) g r E ops k ((d,.int .u8 (a.toNat:Int))::L) H) (hx:(VF.of L).ev x=some (.string (bs ll))) (hy:(VF.of L).ev y=some (.int kd q)) (hu:∀ w,(underlying T).run E.P w = .ok .string w)
  (hw:Wants E.n ops (VF.of L) ⟨some d,.index T x y,ty,pos,af,gd⟩) (hd:inB E.n (some d)=true):DO m (⟨some d,.index T x y,ty,pos,af,gd⟩::rest) (idx ll q kk) g r E ops k L H:=
 ⟨fun hX=>let ⟨a,h0,h1,h2,h3⟩:=z8U hX; wk_y hn hw hd (za0 hu hx hy h0 h2) ((hk a h2 h0 h1).out h3)⟩
end
class Con (P:Program) (f v:Nat) (K:outParam Prop):Prop where
 call:∀ args w,(callFunc f args).run P w = .ok (.enter f args) w
 out:K
structure Ct {A:Type} (P:Program) (f:Nat) (x:Option A) (az:List Value) (Hc:List HA) (post:A→Post):Prop where
 call:∀ args w,(callFunc f args).run P w = .ok (.enter f args) w
 out:∀ q,x=some q→Meets P f az Hc (post q)
structure CtP {A:Type} (P:Program) (f:Nat) (x:Option (Pn A)) (az:List Value) (Hc:List HA) (post:Pn A→Post) (pan:Pn A→Value→Prop):Prop where
 call:∀ args w,(callFunc f args).run P w = .ok (.enter f args) w
 out:∀ q,x=some q→z60 P f az Hc (post q) (pan q)
theorem ct {A:Type} {P:Program} {f:Nat} {x:Option A} {az:List Value} {Hc:List HA} {post:A→Post} {K:Prop} (v:Nat) (c:Con P f v K) (h:K→∀ q,x=some q→Meets P f az Hc (post q)):Ct P f x az Hc post:=⟨c.call,h c.out⟩
theorem ctp {A:Type} {P:Program} {f:Nat} {x:Option (Pn A)} {az:List Value} {Hc:List HA} {post:Pn A→Post} {pan:Pn A→Value→Prop} {K:Prop} (v:Nat) (c:Con P f v K) (h:K→∀ q,x=some q→z60 P f az Hc (post q) (pan q)):CtP P f x az Hc post pan:=⟨c.call,h c.out⟩
inductive Av (V:VF):List Operand→List Value→Prop
 | z:Av V [] []
 | s {x:Operand} {v:Value} {xs:List Operand} {vs:List Value} (h:V.ev x=some v) (r:Av V xs vs):Av V (x::xs) (v::vs)
theorem Av.eq {V:VF} {xs:List Operand} {vs:List Value} (h:Av V xs vs):xs.map V.ev=vs.map some∧xs.length=vs.length:=by
 induction h with
 | z=>exact ⟨rfl,rfl⟩
 | s h _ ih=>exact ⟨by rw [List.map_cons,List.map_cons,h,ih.1],by rw [List.length_cons,List.length_cons,ih.2]⟩
theorem cs_c {V:VF} {d:Option Nat} {ty:TypeId} {pos:String} {af:Array Edge} {g:Option (Nat×Bool)} {fx:Operand} {f:FuncId} {xs:List Operand} {Ts:Array TypeId} {bv cs vs az:List Value} (hfx:V.ev fx=some (.func (.func f) bv.toArray cs.toArray)) (h:Av V xs vs) (he:bv++(vs++cs)=az):Cs V ⟨d,.call ⟨.value fx,xs.toArray,Ts⟩,ty,pos,af,g⟩ d f az:=by
 obtain ⟨h1,h2⟩:=h.eq
 have h3:(az.drop bv.length).take xs.toArray.size=vs:=by
  subst he
  rw [List.drop_left,List.size_toArray,h2,List.take_left]
 refine .k hfx ?_ ?_
 ·rw [h3]; exact h1
 ·rw [h3,← he,List.append_assoc]
theorem cs_p {V:VF} {d:Option Nat} {ty:TypeId} {pos:String} {af:Array Edge} {g:Option (Nat×Bool)} {fx:Operand} {f:FuncId} {xs:List Operand} {Ts:Array TypeId} {vs:List Value} (hfx:V.ev fx=some (.func (.func f) #[] #[])) (h:Av V xs vs):Cs V ⟨d,.call ⟨.value fx,xs.toArray,Ts⟩,ty,pos,af,g⟩ d f vs:=cs_c (bv:=[]) (cs:=[]) hfx h (List.append_nil _)
inductive Sx:List HA→List HA→List (Nat×Nat)→List HA→Prop
 | z {H:List HA}:Sx H [] [] H
 | l {H G H1:List HA} {g:HA} {i:Nat} {sh:List (Nat×Nat)} (h:At H i g) (r:Sx H G sh H1):Sx H (g::G) ((i,2)::sh) H1
 | v {H G H1:List HA} {g:HA} {i:Nat} {sh:List (Nat×Nat)} (h:At H i g) (f:Free g) (r:Sx H G sh H1):Sx H (g::G) ((i,0)::sh) H1
 | k {H G H1:List HA} {v:Value} {es:Nat} {c:List (List Value)} {i:Nat} {sh:List (Nat×Nat)} (h:At H i (row v es c)) (r:Sx H G sh H1):Sx H (ro v es c::G) ((i,1)::sh) H1
 | kn {H G H1:List HA} {α:Type} {C:NC α} {v:Value} {l:List α} {i:Nat} {sh:List (Nat×Nat)} (h:At H i (nrow v C l)) (r:Sx H G sh H1):Sx H (nro v C l::G) ((i,1)::sh) H1
 | ks {H G H1:List HA} {α:Type} {F:α→List Value} {v:Value} {es a b:Nat} {src nl:List α} {i:Nat} {sh:List (Nat×Nat)} (h:At H i (row v es (src.map F))) (r:Sx H G sh H1):Sx H (ro (subS v es a b) es (nl.map F)::G) ((i,1)::sh) H1
 | f {H H' G H1:List HA} {v:Value} {es:Nat} {c:List (List Value)} {i:Nat} {sh:List (Nat×Nat)} (h:At H i (row v es c)) (s:St H i (ro v es c) H') (r:Sx H' (ro v es c::G) sh H1):Sx H (ro v es c::G) sh H1
 | fn {H H' G H1:List HA} {α:Type} {C:NC α} {v:Value} {l:List α} {i:Nat} {sh:List (Nat×Nat)} (h:At H i (nrow v C l)) (hn:C.nn=true→l≠[]) (s:St H i (nro v C l) H') (r:Sx H' (nro v C l::G) sh H1):Sx H (nro v C l::G) sh H1
 | nw {H H' G H1:List HA} {es j:Nat} {sh:List (Nat×Nat)} (a:Ap H (row (.slice none 0 0) es []) H' j) (r:Sx H' G sh H1):Sx H (row (.slice none 0 0) es []::G) ((j,2)::sh) H1
 | no {H H' G H1:List HA} {es j:Nat} {sh:List (Nat×Nat)} (a:Ap H (ro (.slice none 0 0) es []) H' j) (r:Sx H' G sh H1):Sx H (ro (.slice none 0 0) es []::G) ((j,0)::sh) H1
 | nnw {H H' G H1:List HA} {α:Type} {C:NC α} {j:Nat} {sh:List (Nat×Nat)} (a:Ap H (nrow (.slice none 0 0) C []) H' j) (r:Sx H' G sh H1):Sx H (nrow (.slice none 0 0) C []::G) ((j,2)::sh) H1
 | nno {H H' G H1:List HA} {α:Type} {C:NC α} {j:Nat} {sh:List (Nat×Nat)} (a:Ap H (nro (.slice none 0 0) C []) H' j) (r:Sx H' G sh H1):Sx H (nro (.slice none 0 0) C []::G) ((j,0)::sh) H1
 | q {H H' G H1:List HA} {F:Value→HA} {v:Value} {j:Nat} {sh:List (Nat×Nat)} (f:Fre F v) (a:Ap H (F v) H' j) (r:Sx H' G sh H1):Sx H (F v::G) ((j,2)::sh) H1
theorem Sx.turn {H G H1:List HA} {sh:List (Nat×Nat)} (h:Sx H G sh H1):Turn H H1:=by
 induction h with
 | z=>exact Turn.refl _
 | l _ _ ih=>exact ih
 | v _ _ _ ih=>exact ih
 | k _ _ ih=>exact ih
 | kn _ _ ih=>exact ih
 | ks _ _ ih=>exact ih
 | f h s _ ih=>exact (s.eq ▸ Go.Abs.freeze _ h.get:Turn _ _).trans ih
 | fn h hn s _ ih=>exact (s.eq ▸ zcf _ h.get hn:Turn _ _).trans ih
 | nw a _ ih=>exact (a.eq.1 ▸ nilrow _:Turn _ _).trans ih
 | no a _ ih=>exact (a.eq.1 ▸ nilro _:Turn _ _).trans ih
 | nnw a _ ih=>exact (a.eq.1 ▸ zgT _:Turn _ _).trans ih
 | nno a _ ih=>exact (a.eq.1 ▸ zin _:Turn _ _).trans ih
 | q f a _ ih=>exact (a.eq.1 ▸ f.t _:Turn _ _).trans ih
theorem sxl {H G H1:List HA} {sh:List (Nat×Nat)} (h:Sx H G sh H1:=by
 (repeat (first
  | with_reducible exact Sx.z
  | ((with_reducible apply Sx.v); (case f=>with_reducible apply z5u); (case h=>exact atx))
  | ((with_reducible apply Sx.v); (case f=>with_reducible apply z47); (case h=>exact atx))
  | ((with_reducible apply Sx.v); (case f=>with_reducible exact z8z); (case h=>exact atx))
  | ((with_reducible apply Sx.l); (case h=>exact atx))
  | ((with_reducible apply Sx.k); (case h=>exact atx))
  | ((with_reducible apply Sx.kn); (case h=>exact atx))
  | ((with_reducible apply Sx.ks); (case h=>exact atx))
  | ((apply Sx.nw); (case a=>exact apx))
  | ((apply Sx.no); (case a=>exact apx))
  | ((apply Sx.nnw); (case a=>exact apx))
  | ((apply Sx.nno); (case a=>exact apx))
  | ((with_reducible apply Sx.l); (case h=>exact aty))
  | ((apply Sx.q); (case f=>infer_instance); (case a=>exact apx)))); (first | done | fail)):Sx H G sh H1:=h
theorem sxf {H G H1:List HA} {sh:List (Nat×Nat)} (h:Sx H G sh H1:=by
 (repeat (first
  | with_reducible exact Sx.z
  | ((with_reducible apply Sx.v); (case f=>with_reducible apply z5u); (case h=>exact atx))
  | ((with_reducible apply Sx.v); (case f=>with_reducible apply z47); (case h=>exact atx))
  | ((with_reducible apply Sx.v); (case f=>with_reducible exact z8z); (case h=>exact atx))
  | ((with_reducible apply Sx.l); (case h=>exact atx))
  | ((with_reducible apply Sx.f); (case h=>exact atx); (case s=>exact stx))
  | ((with_reducible apply Sx.fn); (case h=>exact atx); (case hn=>exact fun h=>absurd h (by decide)); (case s=>exact stx))
  | ((with_reducible apply Sx.ks); (case h=>exact atx))
  | ((apply Sx.nw); (case a=>exact apx))
  | ((apply Sx.no); (case a=>exact apx))
  | ((apply Sx.nnw); (case a=>exact apx))
  | ((apply Sx.nno); (case a=>exact apx))
  | ((with_reducible apply Sx.l); (case h=>exact aty))
  | ((apply Sx.q); (case f=>infer_instance); (case a=>exact apx)))); (first | done | fail)):Sx H G sh H1:=h
section
variable {R A : Type} {g : Hn} {r : R} {E : Env} {k : List KI} {L : List (Nat × Value)} {H H1 Hc : List HA} {ops : Array Oper} {rest : List Oper} {op : Oper} {d : Nat} {f : Nat} {az : List Value} {sh : List (Nat × Nat)} {x : Option A} {kk : A → Option R} {post : A → Post} {m m' : Md}
def SgP (post:A→Post):Prop:=∀ q v G,post q v G→∀ g∈G,g.Strict
theorem zjM (c:Cs (VF.of L) op (some d) f az) (hc:Ct E.P f x az Hc post) (hn:Nt m m') (hs:Sx H Hc sh H1) (hb:Sb m H1) (hsh:z4H H1 sh Hc) (hok:okX sh=true) (hst:(sh.all fun s=>s.2 != 1)=true∨SgP post) (hw:Wants E.n ops (VF.of L) op) (hd:inB E.n (some d)=true)
  (hk:∀ q,Ep (post q) fun v G=>DM m' rest (kk q) g r E ops k ((d,v)::L) (zX sh H1++G)):DO m (op::rest) (obind x kk) g r E ops k L H:=⟨fun hX=>by
 obtain ⟨q,hq,hr⟩:=z1R hX
 refine z7l hs.turn (wd hb ?_)
 have e:=c.dst
 refine wk_t hn hw (by rw [e]; exact hd) (c.t sh hc.call (hc.out q hq) hsh hok (hst.imp id fun h=>h q)) ?_
 rintro v _ ⟨G,hp,rfl⟩
 rw [e]
 exact ((hk q).out v G hp).out hr⟩
theorem zhC (c:Cs (VF.of L) op none f az) (hc:Ct E.P f x az Hc post) (hn:Nt m m') (hs:Sx H Hc sh H1) (hb:Sb m H1) (hsh:z4H H1 sh Hc) (hok:okX sh=true) (hst:(sh.all fun s=>s.2 != 1)=true∨SgP post) (hw:Wants E.n ops (VF.of L) op)
  (hk:∀ q,Ep (post q) fun v G=>DM m' rest (kk q) g r E ops k L (zX sh H1++G)):DO m (op::rest) (obind x kk) g r E ops k L H:=⟨fun hX=>by
 obtain ⟨q,hq,hr⟩:=z1R hX
 refine z7l hs.turn (wd hb ?_)
 have e:=c.dst
 refine wk_t hn hw (by rw [e]; rfl) (c.t sh hc.call (hc.out q hq) hsh hok (hst.imp id fun h=>h q)) ?_
 rintro v _ ⟨G,hp,rfl⟩
 rw [e]
 exact ((hk q).out v G hp).out hr⟩
end
section
variable {R A : Type} {g : Hn} {r : R} {E : Env} {k : List KI} {L : List (Nat × Value)} {H H1 Hc : List HA} {ops : Array Oper} {rest : List Oper} {op : Oper} {d : Nat} {f : Nat} {az : List Value} {sh : List (Nat × Nat)} {x : Option (Pn A)} {kk : A → Option R} {kp : Int → Option R} {post : A → Post} {pv : Int → Value}
theorem zhE (c:Cs (VF.of L) op (some d) f az) (hc:CtP E.P f x az Hc (fun q v G=>∃ q',q = .ret q'∧post q' v G) (fun q v=>∃ e,q = .pan e∧v=pv e)) (hs:Sx H Hc sh H1) (hsh:z4H H1 sh Hc) (hok:okX sh=true) (hst:(sh.all fun s=>s.2 != 1)=true∨SgP post) (hw:Wants E.n ops (VF.of L) op) (hd:inB E.n (some d)=true)
  (hp:∀ e,DP (kp e) r E L (zX sh H1) (pv e))
  (hk:∀ q,Ep (post q) fun v G=>DM .o rest (kk q) g r E ops k ((d,v)::L) (zX sh H1++G)):DO .o (op::rest) (obind x fun q=>pbind q kp kk) g r E ops k L H:=⟨fun hX=>by
 obtain ⟨q,hq,hr⟩:=z1R hX
 refine zaO hs.turn ?_
 have e:=c.dst
 refine zbI hw (by rw [e]; exact hd) (c.tp sh hc.call (hc.out q hq) hsh hok (hst.imp id fun h v G ⟨q',_,hp⟩=>h q' v G hp)) ?_ ?_
 ·rintro v _ ⟨G,⟨q',rfl,hp'⟩,rfl⟩
  rw [e]
  exact ((hk q').out v G hp').out hr
 ·rintro _ ⟨e',rfl,rfl⟩
  exact (hp e').out hr⟩
theorem zfs (c:Cs (VF.of L) op none f az) (hc:CtP E.P f x az Hc (fun q v G=>∃ q',q = .ret q'∧post q' v G) (fun q v=>∃ e,q = .pan e∧v=pv e)) (hs:Sx H Hc sh H1) (hsh:z4H H1 sh Hc) (hok:okX sh=true) (hst:(sh.all fun s=>s.2 != 1)=true∨SgP post) (hw:Wants E.n ops (VF.of L) op)
  (hp:∀ e,DP (kp e) r E L (zX sh H1) (pv e))
  (hk:∀ q,Ep (post q) fun v G=>DM .o rest (kk q) g r E ops k L (zX sh H1++G)):DO .o (op::rest) (obind x fun q=>pbind q kp kk) g r E ops k L H:=⟨fun hX=>by
 obtain ⟨q,hq,hr⟩:=z1R hX
 refine zaO hs.turn ?_
 have e:=c.dst
 refine zbI hw (by rw [e]; rfl) (c.tp sh hc.call (hc.out q hq) hsh hok (hst.imp id fun h v G ⟨q',_,hp⟩=>h q' v G hp)) ?_ ?_
 ·rintro v _ ⟨G,⟨q',rfl,hp'⟩,rfl⟩
  rw [e]
  exact ((hk q').out v G hp').out hr
 ·rintro _ ⟨e',rfl,rfl⟩
  exact (hp e').out hr⟩
end
inductive Pr:List HA→List HA→Prop
 | z {H:List HA}:Pr H []
 | s {h:HA} {H G:List HA} (r:Pr H G):Pr (h::H) (h::G)
theorem Pr.eq {H G:List HA} (h:Pr H G):∃ K,H=G++K:=by
 induction h with
 | z=>exact ⟨_,rfl⟩
 | s _ ih=>obtain ⟨K,rfl⟩:=ih; exact ⟨K,rfl⟩
theorem zls {H G:List HA} (h:Pr H G):Turn H G:=by
 obtain ⟨K,rfl⟩:=h.eq
 refine z41 (is:=List.range G.length) List.nodup_range ?_
 unfold Picks
 apply List.ext_getElem?
 intro i
 simp only [List.getElem?_map]
 rcases Nat.lt_or_ge i G.length with h | h
 ·simp [h,List.getElem?_append_left h]
 ·simp [Nat.not_lt.2 h]
inductive Gs (gs:Nat):List Oper→List Oper→List Oper→Nat→Prop
 | z {d:Nat} {x y:Operand} {ty:TypeId} {pos:String} {af:Array Edge} {gd:Option (Nat×Bool)} {l:List Oper}:Gs gs (⟨some d,.pick (.tmp gs) x y,ty,pos,af,gd⟩::l) [⟨some d,.pick (.tmp gs) x y,ty,pos,af,gd⟩] l d
 | s {o:Oper} {l a b:List Oper} {d:Nat} (r:Gs gs l a b d):Gs gs (o::l) (o::a) b d
theorem Gs.eq {gs d:Nat} {l a b:List Oper} (h:Gs gs l a b d):l=a++b:=by
 induction h with
 | z=>rfl
 | s _ ih=>rw [ih]; rfl
def dsts:List Oper→List Nat
  | []=>[]
  | o :: l => match o.dst with
    | some d=>d::dsts l
    | none=>dsts l
inductive Fl:List Nat→List (Nat×Value)→List (Nat×Value)→Prop
 | z {ds:List Nat}:Fl ds [] []
 | k {ds:List Nat} {t:Nat} {v:Value} {L L' : List (Nat×Value)} (h:ds.contains t=false) (r:Fl (t::ds) L L'):Fl ds ((t,v)::L) ((t,v)::L')
 | d {ds:List Nat} {x:Nat×Value} {L L' : List (Nat×Value)} (r:Fl ds L L'):Fl ds (x::L) L'
class Bp (c t f:Bool) (e:outParam Bool):Prop where
 h:e=bif c then t else f
instance (priority:=2000) {c f:Bool}:Bp c true f (c || f):=⟨by cases c <;> rfl⟩
instance (priority:=1900) {c t:Bool}:Bp c t false (c && t):=⟨by cases c <;> rfl⟩
instance (priority:=1800) {c t:Bool}:Bp c t true (!c || t):=⟨by cases c <;> rfl⟩
instance (priority:=1700) {c f:Bool}:Bp c false f (!c && f):=⟨by cases c <;> rfl⟩
instance (priority:=100) {c t f:Bool}:Bp c t f (bif c then t else f):=⟨rfl⟩
section
variable {E : Env} {ops : Array Oper} {k : List KI} {V : VF} {H : List HA} {m m' : Md}
theorem ziV (ho:Oz m) {l a b:List Oper} (hl:l=a++b) (S:Type) (Vi:S→List (Nat×Value)) (Hi:S→List HA) (inv:S→Prop)
  (h1:∀ L:Act→World→Prop,(∀ s,inv s→∀ a w,Rel E (VF.of (Vi s)) (Hi s) a w→L a w)→Wk m E ops a (.loop L::k) V H)
  (h2:∀ s,inv s→Wk m E ops b k (VF.of (Vi s)) (Hi s)):Wk m E ops l k V H:=by
 subst hl
 cases ho
 ·exact zcq a.length S Vi Hi inv (fun L hL=>by rw [List.take_left]; exact h1 L hL) (fun s hs=>by rw [List.drop_left]; exact h2 s hs)
 ·exact z9s a.length S Vi Hi inv (fun L hL=>by rw [List.take_left]; exact h1 L hL) (fun s hs=>by rw [List.drop_left]; exact h2 s hs)
theorem zbQ (ho:Oz m) {l:List Oper} (t:Nat) (b:Bool) (hv:V t=some (.bool b)) (ht:b=true→Wk m E ops l k (V.set t (.bool true)) H) (hf:b=false→Wk m E ops l k (V.set t (.bool false)) H):Wk m E ops l k V H:=by
 cases ho
 ·exact zcr t b hv ht hf
 ·exact zar t b hv ht hf
variable {R : Type} {X : Option R} {g : Hn} {r : R} {L L' : List (Nat × Value)}
inductive Ltb:Bool→Prop
 | t:Ltb true
 | f:Ltb false
theorem zmH {l a b:List Oper} {op:Oper} {j gs d:Nat} {bb c t f e:Bool} (hoz:Oz m) (hg:op.guard=some (j,bb)) (hj:((ops[j]?).bind (·.dst))=some gs) (hv:VF.of L gs=some (.bool c)) (hn:Ltb c∨True) (hs:Gs gs (op::l) a b d) (hF:Fl (gs::dsts a) L L')
  (h1:∀ Lf:Act→World→Prop,Bk E (fun s (_:Unit)=>(d,.bool s)::L') (fun _ _=>H) (.go t:Lp Bool Unit) Lf→DO m a (some (.go t)) .e (.go t:Lp Bool Unit) E ops (.loop Lf::k) ((gs,.bool true)::L) H)
  (h2:∀ Lf:Act→World→Prop,Bk E (fun s (_:Unit)=>(d,.bool s)::L') (fun _ _=>H) (.go f:Lp Bool Unit) Lf→DO m a (some (.go f)) .e (.go f:Lp Bool Unit) E ops (.loop Lf::k) ((gs,.bool false)::L) H)
  (he:Bp c t f e) (hk:DO m b X g r E ops k ((d,.bool e)::L') H):DO m (op::l) X g r E ops k L H:=⟨fun hX=>by
 refine ziV hoz hs.eq Bool (fun s=>(d,.bool s)::L') (fun _=>H) (fun s=>s=e) (fun Lf hL=>?_) (by rintro _ rfl; exact hk.out hX)
 have hh:=he.h
 refine zbQ hoz gs c hv (fun hc=>(h1 Lf ⟨?_⟩).out rfl) (fun hc=>(h2 Lf ⟨?_⟩).out rfl)
 ·intro s _ hs; injection hs with hs; subst hs; subst hc; exact hL _ hh.symm
 ·intro s _ hs; injection hs with hs; subst hs; subst hc; exact hL _ hh.symm⟩
theorem zjO {l a b:List Oper} {op:Oper} {j gs d:Nat} {bb c:Bool} {X1 X2:Option (Lp Bool R)} {kk:Bool→Option R} (hoz:Oz m) (hg:op.guard=some (j,bb)) (hj:((ops[j]?).bind (·.dst))=some gs) (hv:VF.of L gs=some (.bool c)) (hn:Ltb c∨True) (hs:Gs gs (op::l) a b d) (hF:Fl (gs::dsts a) L L')
  (h1:∀ (o:Lp Bool R) (Lf:Act→World→Prop),Bk E (fun s (_:Unit)=>(d,.bool s)::L') (fun _ _=>H) o Lf→Lv o r→DO m a X1 .e o E ops (.loop Lf::k) ((gs,.bool true)::L) H)
  (h2:∀ (o:Lp Bool R) (Lf:Act→World→Prop),Bk E (fun s (_:Unit)=>(d,.bool s)::L') (fun _ _=>H) o Lf→Lv o r→DO m a X2 .e o E ops (.loop Lf::k) ((gs,.bool false)::L) H)
  (hk:∀ s:Bool,DO m b (kk s) g r E ops k ((d,.bool s)::L') H):DO m (op::l) (bindJ (cond c X1 X2) kk) g r E ops k L H:=⟨fun hX=>by
 obtain ⟨o,ho,ha⟩:=z5D hX
 refine ziV hoz hs.eq Bool (fun s=>(d,.bool s)::L') (fun _=>H) (fun s=>o = .go s) (fun Lf hL=>?_) (by rintro s rfl; exact (hk s).out (z7n ha))
 refine zbQ hoz gs c hv (fun hc=>(h1 o Lf ⟨fun s _ hs=>hL s hs⟩ ⟨fun r' hr=>?_⟩).out (zhp ho hc)) (fun hc=>(h2 o Lf ⟨fun s _ hs=>hL s hs⟩ ⟨fun r' hr=>?_⟩).out (zho ho hc))
 ·subst hr; exact z78 ha
 ·subst hr; exact z78 ha⟩
end
theorem zaU {h:HA} {H H' : List HA} (ht:Turn H H'):Turn (h::H) (h::H'):=by
  intro w o hb hs
  obtain ⟨o1,hb1,t1,hs1⟩:=ht w (downO o) (fun b hle=>by simp [downO,hb b hle]) (fun j g hj=>g.keep (Nat.le_refl _) (fun b _ h=>⟨by simp [downO,h],rfl⟩) (fun b _ h=>⟨by simp [downO,h],rfl⟩) (hs (j+1) g hj))
  have h0:∀ b,b<w.heap.size→o b = .mine 0→o1 b = .far:=fun b hlt h=>(t1.far b hlt (by simp [downO,h])).1
  have hn:∀ b,b<w.heap.size→o b = .no→o1 b = .no:=fun b hlt h=>(t1.no b hlt (by simp [downO,h])).1
  have hf:∀ b,b<w.heap.size→o b = .far→o1 b = .far:=fun b hlt h=>(t1.far b hlt (by simp [downO,h])).1
  refine ⟨fun b=>match o b with | .mine 0=>.mine 0 | _=>match o1 b with | .mine k=>.mine (k+1) | x=>x,fun b hle=>by simp [hb b hle,hb1 b hle],⟨rfl,rfl,rfl,Nat.le_refl _,fun b hlt h=>⟨by simp [h,hn b hlt h],rfl⟩,fun b hlt h=>⟨by simp [h,hf b hlt h],rfl⟩⟩,?_⟩
  intro j g hj
  cases j with
  | zero =>
    simp at hj
    subst hj
    exact h.keep (Nat.le_refl _) (fun b _ h=>⟨by simp [h],rfl⟩) (fun b hlt h=>⟨by simp [h,hn b hlt h],rfl⟩) (hs 0 h rfl)
  | succ j =>
    refine g.keep (Nat.le_refl _) (fun b hlt h=>⟨?_,rfl⟩) (fun b hlt h=>⟨?_,rfl⟩) (hs1 j g hj)
    · cases hob:o b with
      | no=>rw [hn b hlt hob] at h; cases h
      | far=>rw [hf b hlt hob] at h; cases h
      | mine k =>
        cases k with
        | zero=>rw [h0 b hlt hob] at h; cases h
        | succ k=>simp [hob,h]
    · cases hob:o b with
      | no=>simp [hob,h]
      | far=>rw [hf b hlt hob] at h; cases h
      | mine k =>
        cases k with
        | zero=>rw [h0 b hlt hob] at h; cases h
        | succ k=>simp [hob,h]
inductive Pbk:List HA→List HA→List HA→Prop
 | z {H:List HA}:Pbk H [] H
 | k {h:HA} {H Hs H' : List HA} (r:Pbk H Hs H'):Pbk (h::H) (h::Hs) (h::H')
 | e {h:HA} {H Hs H' : List HA} (r:Pbk H Hs H'):Pbk (h::H) (HA.emp::Hs) (h::H')
 | m {g:HA} {H H1 Hs H' : List HA} {i:Nat} (h:At H i g) (s:St H i HA.emp H1) (r:Pbk H1 Hs H'):Pbk (HA.emp::H) (g::Hs) (g::H')
theorem zgn {g:HA} {H:List HA} {i:Nat} (h:H[i]? = some g):Turn (HA.emp::H) (g::H.set i HA.emp):=by
  intro w o hb hs
  refine ⟨fun b=>match o b with | .mine 0=>.no | .mine (k+1)=>if k=i then .mine 0 else .mine (k+1) | x=>x,fun b hle=>by simp [hb b hle],⟨rfl,rfl,rfl,Nat.le_refl _,fun b _ h=>⟨by simp [h],rfl⟩,fun b _ h=>⟨by simp [h],rfl⟩⟩,?_⟩
  intro j x hj
  cases j with
  | zero =>
    simp at hj
    subst hj
    exact g.keep (Nat.le_refl _) (fun b _ hb=>⟨by simp [hb],rfl⟩) (fun b _ hb=>⟨by simp [hb],rfl⟩) (hs (i+1) g h)
  | succ j =>
    simp only [List.getElem?_cons_succ,List.getElem?_set] at hj
    by_cases hij:i=j
    · subst hij
      simp at hj
      obtain ⟨_,rfl⟩:=hj
      trivial
    · rw [if_neg hij] at hj
      have hji:¬ j=i:=fun e=>hij e.symm
      exact x.keep (Nat.le_refl _) (fun b _ hb=>⟨by simp [hb,hji],rfl⟩) (fun b _ hb=>⟨by simp [hb],rfl⟩) (hs (j+1) x hj)
theorem Pbk.turn {H Hs H' : List HA} (h:Pbk H Hs H'):Turn H H'∧Sub H' Hs:=by
 induction h with
 | z=>exact ⟨Turn.refl _,z5Z⟩
 | k _ ih=>exact ⟨zaU ih.1,z4O ih.2⟩
 | e _ ih=>exact ⟨zaU ih.1,z7R ih.2⟩
 | m h s _ ih=>exact ⟨(zgn h.get).trans (s.eq ▸ zaU ih.1),z4O ih.2⟩
section
variable {R : Type} {g : Hn} {X : Option R} {r : R} {E : Env} {k : List KI} {L : List (Nat × Value)} {H H' H2 : List HA} {ops : Array Oper} {l : List Oper}
inductive Mh:Md→List HA→Prop
 | a {Ds:List Nat} {bs:List Fb} {ls:Array Bool} {is:List Nat} {Kl:List (List Nat)} {Hs:List HA}:Mh (.a Ds bs ls is Kl Hs) Hs
 | t {Ds:List Nat} {T:Ot} {ls:Array Bool} {Kl:List (List Nat)} {Hs:List HA}:Mh (.t true Ds T ls Kl Hs) Hs
theorem dmb {m:Md} {Hs:List HA} (hm:Mh m Hs) (hH:Nd H H2) (hP:Pbk H2 Hs H') (h:DO m l X g r E ops k L H'):DM m l X g r E ops k L H:=⟨fun hx=>by
 rw [hH.eq]
 obtain ⟨h1,h2⟩:=hP.turn
 have ht:Tsub H2 Hs:=⟨H',fun w o hb hs=>h1 w o hb hs,h2⟩
 cases hm with
 | a=>exact fun e1 e2 e3 e4=>⟨ht,fun a w q=>h.out hx e1 e2 e3 e4 h2 a w (q.turn h1)⟩
 | t=>exact fun e1 e2 e3=>⟨ht,fun fuel hf a w q=>h.out hx e1 e2 e3 h2 fuel hf a w (q.turn h1)⟩⟩
end
inductive Om:Md→Prop
 | a {Ds:List Nat} {bs:List Fb} {ls:Array Bool} {is:List Nat} {Kl:List (List Nat)} {Hs:List HA}:Om (.a Ds bs ls is Kl Hs)
structure Gc {R:Type} (X:Option R) (c:Bool) (X1 X2:Option R):Prop where
 t:c=true→X=X1
 f:c=false→X=X2
theorem gc_z {S R:Type} {c:Bool} {A B:Option (Lp S R)} {kk:S→Option R}:Gc (bindJ (cond c A B) kk) c (bindJ A kk) (bindJ B kk):=⟨fun h=>by subst h; rfl,fun h=>by subst h; rfl⟩
theorem gc_s {S R:Type} {c:Bool} {X X1 X2:Option (Lp S R)} {kk:S→Option R} (h:Gc X c X1 X2):Gc (bindJ X kk) c (bindJ X1 kk) (bindJ X2 kk):=⟨fun e=>by rw [h.t e],fun e=>by rw [h.f e]⟩
structure Pu {R:Type} (X Y:Option R):Prop where
 e:X=Y
section
variable {S R A : Type} {kk : S → Option R} {x : Option A} {k1 : A → Option (Lp S R)} {s : S} {X Y : Option (Lp S R)}
theorem pu_ob:Pu (bindJ (obind x k1) kk) (obind x fun q=>bindJ (k1 q) kk):=⟨by cases x <;> rfl⟩
theorem pu_ix {l:List A} {i:Int}:Pu (bindJ (idx l i k1) kk) (idx l i fun q=>bindJ (k1 q) kk):=⟨by unfold idx; split <;> first | rfl | (split <;> rfl)⟩
theorem pu_nd {p:Prop} [Decidable p]:Pu (bindJ (need p X) kk) (need p (bindJ X kk)):=⟨by unfold need; split <;> rfl⟩
theorem pu_go:Pu (bindJ (some (.go s)) kk) (kk s):=⟨rfl⟩
theorem pu_no:Pu (bindJ none kk) (none:Option R):=⟨rfl⟩
theorem pu_in (h:Pu X Y):Pu (bindJ X kk) (bindJ Y kk):=⟨by rw [h.e]⟩
end
section
variable {R : Type} {g : Hn} {X Y : Option R} {r : R} {E : Env} {k : List KI} {L L' : List (Nat × Value)} {H H' : List HA} {ops : Array Oper} {l : List Oper} {m : Md} {op : Oper}
theorem do_pu (ho:Om m) (h:Pu X Y) (hk:DO m l Y g r E ops k L H):DO m l X g r E ops k L H:=⟨fun hx=>hk.out (h.e ▸ hx)⟩
theorem wk_gs (ho:Om m) {V:VF} (t:Nat) (b:Bool) (hv:V t=some (.bool b)) (ht:b=true→Wk m E ops l k (V.set t (.bool true)) H) (hf:b=false→Wk m E ops l k (V.set t (.bool false)) H):Wk m E ops l k V H:=by
 have same:∀ c,b=c→∀ a,Agree V a→Agree (V.set t (.bool c)) a:=by
  intro c hc a ha u x hx
  rcases VF.set_eq hx with ⟨rfl,rfl⟩ | ⟨_,hx⟩
  ·exact hc ▸ ha u _ hv
  ·exact ha u x hx
 cases ho
 intro hbl ho hD hp hs a w q
 cases hb:b with
 | true=>exact ht hb hbl ho hD hp hs a w ⟨q.1,q.2.1,same _ hb a q.2.2.1,q.2.2.2⟩
 | false=>exact hf hb hbl ho hD hp hs a w ⟨q.1,q.2.1,same _ hb a q.2.2.1,q.2.2.2⟩
theorem do_gs {j gs:Nat} {bb c:Bool} {X1 X2:Option R} (ho:Om m) (hg:op.guard=some (j,bb)) (hj:((ops[j]?).bind (·.dst))=some gs) (hv:VF.of L gs=some (.bool c)) (hn:Ltb c∨True) (hc:Gc X c X1 X2)
  (h1:c=true→DO m (op::l) X1 g r E ops k ((gs,.bool true)::L) H) (h2:c=false→DO m (op::l) X2 g r E ops k ((gs,.bool false)::L) H):DO m (op::l) X g r E ops k L H:=
 ⟨fun hX=>wk_gs ho gs c hv (fun e=>(h1 e).out (hc.t e ▸ hX)) (fun e=>(h2 e).out (hc.f e ▸ hX))⟩
structure DQ (l:List Oper) (X:Option R) (g:Hn) (r:R) (E:Env) (ops:Array Oper) (k:List KI) (L:List (Nat×Value)) (H:List HA):Prop where
 out:X=some r→Ops E ops l k (VF.of L) H
theorem dq (hV:Nv L L') (hH:Nd H H') (h:DO .o l X g r E ops k L' H'):DQ l X g r E ops k L H:=⟨fun hx=>by rw [hV.eq,hH.eq]; exact h.out hx⟩
theorem do_jg {S G:Type} {ng:Nat} [Gh ng G] {VN:S→G→List (Nat×Value)} {HN:S→G→List HA} {ts:List Nat} {ss:List (Nat×Cc)} {hs:List Hc} {ga gb gc:Hn} {X1 X2:Option (Lp S R)} {kk:S→Option R} {a b:List Oper} {j gs d:Nat} {bb c:Bool}
  (hV:Vw S G L ss ts VN) (hH:Hw S G H hs HN) (hg:op.guard=some (j,bb)) (hj:((ops[j]?).bind (·.dst))=some gs) (hv:VF.of L gs=some (.bool c)) (hs' : Gs gs (op::l) a b d)
  (h1:∀ (o:Lp S R) (Lf:Act→World→Prop),Bk E VN HN o Lf→Lv o r→DO .o a X1 ga o E ops (.loop Lf::k) ((gs,.bool true)::L) H)
  (h2:∀ (o:Lp S R) (Lf:Act→World→Prop),Bk E VN HN o Lf→Lv o r→DO .o a X2 gb o E ops (.loop Lf::k) ((gs,.bool false)::L) H)
  (hk:Al fun s=>Al fun γ=>DQ b (kk s) gc r E ops k (VN s γ) (HN s γ)):DO .o (op::l) (bindJ (cond c X1 X2) kk) (.j ng ts ss hs (.c ga gb) gc) r E ops k L H:=⟨fun hX=>by
 obtain ⟨o,ho,ha⟩:=z5D hX
 refine ziV .o hs'.eq (S×G) (fun σ=>VN σ.1 σ.2) (fun σ=>HN σ.1 σ.2) (fun σ=>o = .go σ.1) (fun Lf hL=>?_) (by rintro ⟨s,γ⟩ rfl; exact ((hk.out s).out γ).out (z7n ha))
 have hB:Bk E VN HN o Lf:=⟨fun s γ hs=>hL (s,γ) hs⟩
 have hV' : Lv o r:=⟨fun r' hr=>by subst hr; exact z78 ha⟩
 exact zbQ .o gs c hv (fun hc=>(h1 o Lf hB hV').out (zhp ho hc)) (fun hc=>(h2 o Lf hB hV').out (zho ho hc))⟩
end
end Go.Abs
