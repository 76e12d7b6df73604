import PyProof.Rows.All
import Wide.All
import OpenK.AllK
import Wide.FinOn
import PySem.Challenge.RW_no0003_01
open PySem PySem.W PySem.Calls PyProof.Rows
set_option Elab.async false
set_option maxRecDepth 100000
set_option linter.all false
set_option maxHeartbeats 8000000
set_option compiler.extract_closed false
set_option genSizeOf false
set_option genInjectivity false
namespace Mine
section
open_top hd for PySem.Challenge.rw_no0003_01
example : True := by w_top off; trivial
end
section

noncomputable abbrev mkA (dp un : Nat) (gd : Option (List Code)) (l : List Env) : Around := { handled := none, depth := dp, frames := some l, guards := gd, units := un }

/-- what was stays, but for the addresses named -/
noncomputable def Kept (h h' : Heap) (adr : List Addr) : Prop := ∀ b o, h.get? b = some o → b ∉ adr → h'.get? b = some o

theorem Kept.trans {h₁ h₂ h₃ : Heap} {a : List Addr} (x : Kept h₁ h₂ a) (y : Kept h₂ h₃ a) : Kept h₁ h₃ a := fun b o e n => y b o (x b o e n) n
theorem Kept.mono {h₁ h₂ : Heap} {a b : List Addr} (x : Kept h₁ h₂ a) (k : ∀ c ∈ a, c ∈ b) : Kept h₁ h₂ b := fun c o e n => x c o e fun q => n (k c q)

/-- the part of the heap that a call works on -/
noncomputable def Led (base : Heap) (l : List Env) (h : Heap) (news : List (Addr × Obj)) : Prop :=
  ∀ p ∈ news, h.get? p.1 = some p.2 ∧ base.get? p.1 = none ∧ p.1 ∉ l.filterMap (·.frame)

inductive Done (R : Result → Shared → Prop) (v : Value) (s' : Shared) : Prop
  | mk (h : R (.ok (.ret v)) s')

section
variable {prog : Program} {w : World} {A : Around} {base : Heap} {l : List Env} {s : Shared} {news : List (Addr × Obj)} {K : Frag} {R : Result → Shared → Prop} {name qual : Str} {params : Arguments} {body : List Stmt} {scope : Scope}
  {dV kV doc pm cdv ct oc : Value} {an od : Option Addr} {osl : Array (Option Value)} {f : Addr} {args : Args} {binds : List (Str × Value)} {p : Program} {loose : List Str} {mean : ExcName → Option Value} {mg mb : Str → Option Value}

theorem ground (B : Below A base l s.heap) (N : Led base l s.heap news) : Below A base l (hideAll s.heap (news.map (·.1))) ∧ base.StaysIn (hideAll s.heap (news.map (·.1))) := by
  have st : base.StaysIn (hideAll s.heap (news.map (·.1))) := fun b o e => hideAll_get _ (B.stays b o e) fun q => by
    obtain ⟨p, hp, rfl⟩ := List.mem_map.mp q
    rw [(N p hp).2.1] at e; cases e
  refine ⟨⟨B.stack, st, funFrames_hideAll B.frames fun env he b hb hf => ?_⟩, st⟩
  obtain ⟨p, hp, rfl⟩ := List.mem_map.mp hb
  exact (N p hp).2.2 (List.mem_filterMap.mpr ⟨env, he, hf⟩)

theorem enter (B : Below A base l s.heap) (X : K.In base) (N : Led base l s.heap news) (T : Top p loose mean mg mb base)
    (ho : K.lookup f = some ⟨oc, od, .func (fnOf name qual params body scope dV kV doc pm an cdv ct), osl⟩) (hcd : codeIn K cdv qual = true) (hroom : A.depth < recursionLimit)
    (hbind : BindsTo s (fnOf name qual params body scope dV kV doc pm an cdv ct) args binds) (hloc : ∀ y ∈ binds, scope.names.lookup y.1 = some .local)
    (h : ∀ g L' h₁, Fr g L' h₁ (fun y => binds.reverse.lookup y) → News g L' h₁ news → Below A base l g → K.In g → Top p loose mean mg mb g → Kept s.heap g (news.map (·.1)) → g.StaysIn s.heap → (∀ p ∈ news, p.1 < L') → s.heap.get? L' = none →
      wpAny (model prog w) (A.deeper (envOf qual scope L' f cdv)) (execs body (envOf qual scope L' f cdv))
        (fun fl s' => Done R (match fl with | .ret v => v | _ => .none) s')
        (fun e s' => wpAny (model prog w) (A.deeper (envOf qual scope L' f cdv)) (leaving (envOf qual scope L' f cdv) e) (fun _ s'' => R (.error e) s'') (fun e' s'' => R (.error e') s'') s')
        { s with heap := h₁, toks := s.toks + binds.length })
    (hco : scope.isCoroutine = false) (hgen : scope.isGenerator = false) (hk : scope.kind = .function)
    (hcell : ∀ x ∈ scope.names, x.2 ≠ .cell) : codeAny (model prog w) A (.call (.ref f) args) R s := by
  obtain ⟨BG, st⟩ := ground B N
  have X' := X.keeps B.stays
  refine codeAny_call_def (fd := fnOf name qual params body scope dV kV doc pm an cdv ct) (body := body) (binds := binds) hroom (X' _ _ ho) rfl (T.nolimit.keeps B.stays) (codeRec_of X' hcd) rfl hbind hcell hloc (fun h₁ hns hk₁ => ?_) hco hgen hk
  exact wpAny_mono (h _ s.heap.objs.size h₁ ⟨hns, fun b o e => hk₁ b o (of_hideAll _ e), Nat.le_of_eq (hideAll_size _ _)⟩
    (fun p hp => ⟨hk₁ _ _ (N p hp).1, Nat.ne_of_lt (Heap.lt_size (N p hp).1), hideAll_none _ (List.mem_map_of_mem hp)⟩) BG (X.keeps st) (T.keeps st) (fun b o e n => hideAll_get _ e n) (fun b o e => of_hideAll _ e) (fun p hp => Heap.lt_size (N p hp).1) (Heap.get?_none_of_le (Nat.le_refl _)))
    (fun fl s' hl => hl.1) fun _ _ y => y
end


theorem keptOf {h₀ g h : Heap} {L : Addr} {m : Str → Option Value} {adr : List Addr} (kG : Kept h₀ g adr) (F : Fr g L h m) : Kept h₀ h adr := fun b o e n => F.keep b o (kG b o e n)
theorem frBut {h₀ h h' : Heap} {L e : Addr} {m : Str → Option Value} (F : Fr h₀ L h m) (hk : ∀ b o, h.get? b = some o → b ≠ e → h'.get? b = some o) (hn : h₀.get? e = none) (hL : e ≠ L) : Fr h₀ L h' m := by
  obtain ⟨oL, es, ep, hLo, r⟩ := F.ns
  exact ⟨⟨oL, es, ep, hk _ _ hLo (Ne.symm hL), r⟩, fun b o q => hk b o (F.keep b o q) (fun z => by rw [z, hn] at q; cases q), F.above⟩
theorem frKept {h₀ h h' : Heap} {L : Addr} {m : Str → Option Value} {adr : List Addr} (F : Fr h₀ L h m) (hk : Kept h h' adr) (hn : ∀ a ∈ adr, h₀.get? a = none ∧ a ≠ L) : Fr h₀ L h' m := by
  obtain ⟨oL, es, ep, hLo, r⟩ := F.ns
  exact ⟨⟨oL, es, ep, hk _ _ hLo (fun z => (hn _ z).2 rfl), r⟩, fun b o q => hk b o (F.keep b o q) (fun z => by rw [(hn _ z).1] at q; cases q), F.above⟩

end
section
theorem Kept.list {h g : Heap} {adr : List Addr} {l : Addr} {items : Array Value} (k : Kept h g adr) (x : h.IsList l items) (n : l ∉ adr) : g.IsList l items := let ⟨o, ho, r⟩ := x; ⟨o, k l o ho n, r⟩
theorem Kept.tup {h g : Heap} {adr : List Addr} {l : Addr} {items : Array Value} (k : Kept h g adr) (x : IsTup h l items) (n : l ∉ adr) : IsTup g l items := let ⟨o, ho, r⟩ := x; ⟨o, k l o ho n, r⟩
section
variable {prog : Program} {w : World} {K : Type} [DecidableEq K] {knd : KeyKind prog w K} {A : Around} {E : Value → Shared → Prop} {s : Shared} {h₀ : Heap} {L d : Addr} {m : Str → Option Value} {news : List (Addr × Obj)}
  {g : Obj → List (Addr × Obj)} {o : Obj} {kvs : List (K × Value)} {k : K} {key v : Value}

theorem dictAt (N : News h₀ L s.heap news) (hm : (d, o) ∈ news) (hd : o.IsDictOf knd kvs) : s.heap.DictOf knd d kvs := Heap.dictOf_iff.mpr ⟨o, (N _ hm).1, hd⟩

theorem item_led {value slice : Expr} {Q : Value → Shared → Prop} (hkey : knd.is k key = true) (N : News h₀ L s.heap news) (hm : (d, o) ∈ news) (hd : o.IsDictOf knd kvs) (hv : valueAt kvs k = some v) (h : Q v { s with toks := s.toks + 1 })
    (hs : subscripted slice false (.ref d) key = operate [.ref d, key] (getItem (.ref d) key) := by with_unfolding_all rfl) :
    wpAny (model prog w) A (subscriptTail value slice (.ref d) key) Q E s :=
  have hD := dictAt N hm hd
  tail_any hD.typeIs slot_dict_getitem.lookup (wpAny_getItem_of hkey hD.mapOf hv h) hs
theorem get_led {Q : Value → Shared → Prop} (hkey : knd.is k key = true) (N : News h₀ L s.heap news) (hm : (d, o) ∈ news) (hd : o.IsDictOf knd kvs) (hv : valueAt kvs k = some v) (h : Q v { s with toks := s.toks + 1 }) :
    wpAny (model prog w) A (getItem (.ref d) key) Q E s := wpAny_getItem_of hkey (dictAt N hm hd).mapOf hv h
theorem in_led {Q : Value → Shared → Prop} (hkey : knd.is k key = true) (N : News h₀ L s.heap news) (hm : (d, o) ∈ news) (hd : o.IsDictOf knd kvs) (lo : (d == sysModules) = false) (h : Q (.bool (valueAt kvs k).isSome) { s with toks := s.toks + 1 }) :
    wpAny (model prog w) A (compareOp .In key (.ref d)) Q E s := wpAny_in_of hkey lo (dictAt N hm hd).mapOf h
theorem notin_led {Q : Value → Shared → Prop} (hkey : knd.is k key = true) (N : News h₀ L s.heap news) (hm : (d, o) ∈ news) (hd : o.IsDictOf knd kvs) (lo : (d == sysModules) = false) (h : Q (.bool (!(valueAt kvs k).isSome)) { s with toks := s.toks + 1 }) :
    wpAny (model prog w) A (compareOp .NotIn key (.ref d)) Q E s := wpAny_notIn_of hkey lo (dictAt N hm hd).mapOf (by simpa using h)
theorem set_led {Q : Unit → Shared → Prop} (hkey : knd.is k key = true) (F : Fr h₀ L s.heap m) (N : News h₀ L s.heap news) (U : UpdF d o news g) (hd : o.IsDictOf knd kvs)
    (h : ∀ h' o', Fr h₀ L h' m → News h₀ L h' (g o') → o'.IsDictOf knd (stored kvs k v) → Q () { s with heap := h', toks := s.toks + 1 })
    (hsz : kvs.length ≤ sizeLine) : wpAny (model prog w) A (setItem (.ref d) key v) Q E s := by
  obtain ⟨pre, post, rfl, hg, a, b⟩ := U.split
  have hm := N (d, o) (List.mem_append_right _ (.head _))
  refine wpAny_setItem_pairs (hsz := hsz) hkey (Heap.dictOf_iff.mpr ⟨o, hm.1, hd⟩) fun h' hD hs => ?_
  obtain ⟨o', ho', hd'⟩ := Heap.dictOf_iff.mp hD
  exact h h' o' (F.change hs hm.2.1 hm.2.2) (hg o' ▸ N.setIn a b hs ho') hd'
theorem del_led {Q : Unit → Shared → Prop} (hkey : knd.is k key = true) (F : Fr h₀ L s.heap m) (N : News h₀ L s.heap news) (U : UpdF d o news g) (hd : o.IsDictOf knd kvs) (hl : (valueAt kvs k).isSome = true)
    (h : ∀ h' o', Fr h₀ L h' m → News h₀ L h' (g o') → o'.IsDictOf knd (without kvs k) → Q () { s with heap := h', toks := s.toks + 1 })
    (hsz : kvs.length ≤ sizeLine) : wpAny (model prog w) A (delItem (.ref d) key) Q E s := by
  obtain ⟨pre, post, rfl, hg, a, b⟩ := U.split
  have hm := N (d, o) (List.mem_append_right _ (.head _))
  have hD : s.heap.DictOf knd d kvs := Heap.dictOf_iff.mpr ⟨o, hm.1, hd⟩
  unfold delItem
  try with_reducible refine wpAny_holding ?_
  refine wpAny_bind (wpAny_sequenceKey hD.typeIs (by decide) ?_)
  refine wpAny_bind (wpAny_callSpecial?_slot (name := Str.ofString "__delitem__") hD.typeIs PySem.F.slot_dict_delitem
    (call_meetsIn PySem.F.slot_dict_delitem hD.typeIs PySem.F.entry_dict_delitem (PySem.F.args_dict_delitem_2 _ _) (meets_dict_delitem_pairs knd d hkey) ⟨kvs, hD, hsz, hl, fun h' hmm hs => ?_⟩))
  obtain ⟨o', ho', hd'⟩ := Heap.dictOf_iff.mp hmm
  exact wpAny_pure (h h' o' (F.change hs hm.2.1 hm.2.2) (hg o' ▸ N.setIn a b hs ho') hd')
end
section
variable {prog : Program} {w : World} {A : Around} {E : Value → Shared → Prop} {s : Shared} {h₀ : Heap} {L l : Addr} {m : Str → Option Value} {items : Array Value}
theorem len_base {Q : Value → Shared → Prop} (F : Fr h₀ L s.heap m) (hl : h₀.IsList l items) (hfit : (items.size : Int) < 2 ^ 63) (h : Q (.int items.size (s.toks + 1)) { s with toks := s.toks + 1 + 1 }) :
    wpAny (model prog w) A (call (.builtin "len") [.ref l]) Q E s := call_len_list (stays_list F.keep hl) hfit h
theorem item_base {value slice : Expr} {k : Int} {u : Tok} {v : Value} {Q : Value → Shared → Prop} (F : Fr h₀ L s.heap m) (hl : h₀.IsList l items) (h0 : 0 ≤ k) (hhi : k < 2 ^ 63) (hx : items[k.toNat]? = some v) (h : Q v s)
    (hs : subscripted slice false (.ref l) (.int k u) = operate [.ref l, .int k u] (getItem (.ref l) (.int k u)) := by with_unfolding_all rfl) :
    wpAny (model prog w) A (subscriptTail value slice (.ref l) (.int k u)) Q E s :=
  have hL := stays_list F.keep hl
  tail_any hL.typeIs slot_list_getitem.lookup (wpAny_getItem_list hL h0 hhi hx h) hs
end
end
section

/-- a table that gives each of the names its place -/
inductive Places {K : Type} : List (K × Value) → List K → Nat → Prop
  | nil (n : Nat) : Places [] [] n
  | cons (k : K) (n : Nat) (t : Tok) {kvs ks} : Places kvs ks (n + 1) → Places ((k, .int n t) :: kvs) (k :: ks) n

section
variable {K : Type} [DecidableEq K]
theorem Places.keys {kvs : List (K × Value)} {ks : List K} {n : Nat} (h : Places kvs ks n) : kvs.map (·.1) = ks := by
  induction h with
  | nil => rfl
  | cons k n t _ ih => simp [ih]
theorem Places.length {kvs : List (K × Value)} {ks : List K} {n : Nat} (h : Places kvs ks n) : kvs.length = ks.length := by
  rw [← h.keys, List.length_map]
theorem Places.isSome {kvs : List (K × Value)} {ks : List K} {n : Nat} (h : Places kvs ks n) (k : K) : (valueAt kvs k).isSome = decide (k ∈ ks) := by
  induction h with
  | nil => simp [valueAt]
  | cons k' n t _ ih =>
    by_cases e : k' = k
    · subst e; simp [valueAt]
    · have : ¬ k = k' := fun q => e q.symm
      simp only [valueAt, List.find?_cons, e, decide_false] at ih ⊢
      rw [ih]
      simp [this]
theorem Places.at {kvs : List (K × Value)} {ks : List K} {n i : Nat} (h : Places kvs ks n) (hn : ks.Nodup) {k : K} (hi : ks[i]? = some k) : ∃ t, valueAt kvs k = some (.int ((n + i : Nat) : Int) t) := by
  induction h generalizing i with
  | nil => simp at hi
  | cons k' n t _ ih =>
    rw [List.nodup_cons] at hn
    cases i with
    | zero => simp only [List.getElem?_cons_zero, Option.some.injEq] at hi; subst hi; exact ⟨t, by simp [valueAt]⟩
    | succ j =>
      simp only [List.getElem?_cons_succ] at hi
      have hm := List.mem_of_getElem? hi
      have e : ¬ k' = k := fun q => hn.1 (q ▸ hm)
      obtain ⟨t', h'⟩ := ih hn.2 hi
      refine ⟨t', ?_⟩
      simp only [valueAt, List.find?_cons, e, decide_false] at h' ⊢
      rw [h']
      congr 2
      omega
theorem Places.append {kvs : List (K × Value)} {ks : List K} {n : Nat} (h : Places kvs ks n) (k : K) (t : Tok) : Places (kvs ++ [(k, .int ((n + ks.length : Nat) : Int) t)]) (ks ++ [k]) n := by
  induction h with
  | nil n => exact Places.cons k n t (Places.nil _)
  | @cons k' n t' kvs' ks' _ ih =>
    simp only [List.cons_append, List.length_cons]
    refine Places.cons k' n t' ?_
    have : n + (ks'.length + 1) = n + 1 + ks'.length := by omega
    rw [this]
    exact ih
theorem Places.stored {kvs : List (K × Value)} {ks : List K} (h : Places kvs ks 0) {k : K} (hk : k ∉ ks) {i : Int} (hi : i = ks.length) (t : Tok) : Places (stored kvs k (.int i t)) (ks ++ [k]) 0 := by
  have := h.append k t
  rw [Nat.zero_add] at this
  have e : PySem.stored kvs k (.int i t) = kvs ++ [(k, .int i t)] := by
    unfold PySem.stored
    rw [if_neg]
    intro q
    obtain ⟨x, hx, he⟩ := List.any_eq_true.mp q
    exact hk (h.keys ▸ List.mem_map.mpr ⟨x, hx, of_decide_eq_true he⟩)
  rw [e, hi]
  exact this
theorem Places.without {kvs : List (K × Value)} {ks : List K} {n : Nat} {k : K} (h : Places kvs (ks ++ [k]) n) (hn : k ∉ ks) : Places (without kvs k) ks n := by
  induction ks generalizing kvs n with
  | nil =>
    cases h with
    | cons _ _ t h' =>
      cases h'
      have : PySem.without [(k, Value.int (n : Int) t)] k = [] := by simp [PySem.without]
      rw [this]
      exact Places.nil _
  | cons k' ks ih =>
    simp only [List.cons_append] at h
    cases h with
    | @cons _ _ t kvs' _ h' =>
      simp only [List.mem_cons, not_or] at hn
      have e : PySem.without ((k', Value.int (n : Int) t) :: kvs') k = (k', Value.int (n : Int) t) :: PySem.without kvs' k := by
        unfold PySem.without
        rw [List.filter_cons, if_pos]
        simp; exact fun q => hn.1 q.symm
      rw [e]
      exact Places.cons k' n t (ih h' hn.2)
end

structure KA where
  dk : Addr
  ik : Addr
  ll : Addr
  ls : Addr
  lf : Addr
  pn : Addr
  ps : Addr

structure KA.Ord (a : KA) : Prop where
  o1 : @LT.lt Nat _ a.dk a.ik
  o2 : @LT.lt Nat _ a.ik a.ll
  o3 : @LT.lt Nat _ a.ll a.ls
  o4 : @LT.lt Nat _ a.ls a.lf
  o5 : @LT.lt Nat _ a.lf a.pn
  o6 : @LT.lt Nat _ a.pn a.ps
  n1 : (a.pn == sysModules) = false
  n2 : (a.ps == sysModules) = false

end
section
structure KD where
  h1 : Int
  h2 : Int
  h3 : Int
  h4 : Int
  h5 : Int
  t1 : Tok
  t2 : Tok
  t3 : Tok
  t4 : Tok
  t5 : Tok
  n : Nat
noncomputable abbrev kDict (a : KA) (d : KD) : Obj := dictOf [⟨d.h1, .str (Str.ofString "labels") d.t1, .ref a.ll⟩, ⟨d.h2, .str (Str.ofString "switches") d.t2, .ref a.ls⟩, ⟨d.h3, .str (Str.ofString "floors") d.t3, .ref a.lf⟩,
  ⟨d.h4, .str (Str.ofString "place_of_name") d.t4, .ref a.pn⟩, ⟨d.h5, .str (Str.ofString "place_of_switch") d.t5, .ref a.ps⟩] d.n
structure KS where
  lv : Array Value
  nl : Nat
  sv : Array Value
  ns : Nat
  fv : Array Value
  nf : Nat
  opn : Obj
  ops : Obj
noncomputable abbrev kLed (a : KA) (d : KD) (k : KS) : List (Addr × Obj) :=
  [(a.ik, instObj 140 a.dk), (a.dk, kDict a d), (a.ll, listOf k.lv k.nl), (a.ls, listOf k.sv k.ns), (a.lf, listOf k.fv k.nf), (a.pn, k.opn), (a.ps, k.ops)]
noncomputable abbrev kAdr (a : KA) : List Addr := [a.ik, a.dk, a.ll, a.ls, a.lf, a.pn, a.ps]
structure KRep (prog : Program) (w : World) (k : KS) (names : List Str) (sws floors : List Int) : Prop where
  kn : ∃ kvs, k.opn.IsDictOf (strKind prog w) kvs ∧ Places kvs names 0
  ks : ∃ kvs, k.ops.IsDictOf (intKind prog w) kvs ∧ Places kvs sws 0
  lv : StrsAre k.lv.toList names
  sv : IntsAre k.sv.toList sws
  fv : IntsAre k.fv.toList floors
  len : names.length = sws.length
noncomputable def KAt (prog : Program) (w : World) (a : KA) (d : KD) (names : List Str) (sws floors : List Int) (h : Heap) : Prop :=
  ∃ k, (∀ p ∈ kLed a d k, h.get? p.1 = some p.2) ∧ KRep prog w k names sws floors
end
section
section
variable {prog : Program} {w : World} {K : Type} [DecidableEq K] {knd : KeyKind prog w K} {A : Around} {E : Value → Shared → Prop} {s : Shared} {h₀ : Heap} {L d : Addr} {m : Str → Option Value} {news : List (Addr × Obj)}
  {o : Obj} {kvs : List (K × Value)} {ks : List K} {n : Nat} {k : K} {key : Value}
theorem in_places {Q : Value → Shared → Prop} (hkey : knd.is k key = true) (N : News h₀ L s.heap news) (hm : (d, o) ∈ news) (hd : o.IsDictOf knd kvs) (hp : Places kvs ks n) (lo : (d == sysModules) = false) (h : Q (.bool (decide (k ∈ ks))) { s with toks := s.toks + 1 }) :
    wpAny (model prog w) A (compareOp .In key (.ref d)) Q E s := in_led hkey N hm hd lo (by rw [hp.isSome]; exact h)
theorem notin_places {Q : Value → Shared → Prop} (hkey : knd.is k key = true) (N : News h₀ L s.heap news) (hm : (d, o) ∈ news) (hd : o.IsDictOf knd kvs) (hp : Places kvs ks n) (lo : (d == sysModules) = false) (h : Q (.bool (!decide (k ∈ ks))) { s with toks := s.toks + 1 }) :
    wpAny (model prog w) A (compareOp .NotIn key (.ref d)) Q E s := notin_led hkey N hm hd lo (by rw [hp.isSome]; exact h)
end
theorem int_is (prog : Program) (w : World) (x : Int) (t : Tok) : (intKind prog w).is x (.int x t) = true := by simp [intKind, Value.isInt]
end
section
theorem sl1 {a i : Nat} (h : i < a) : a - (i + 1) < a := Nat.sub_lt (Nat.lt_of_le_of_lt (Nat.zero_le _) h) (Nat.succ_pos _)
theorem sl2 {a i : Nat} (h0 : ¬ i = 0) (h : i ≤ a) : a - i < a := Nat.sub_lt (Nat.lt_of_lt_of_le (Nat.pos_of_ne_zero h0) h) (Nat.pos_of_ne_zero h0)
theorem sl3 {a i : Nat} (h : i < a) : a - (i + 1) < a - i := Nat.sub_lt_sub_left h (Nat.lt_succ_self i)
theorem sl4 {a i : Nat} (h : i < a) : a - i = a - (i + 1) + 1 := (Nat.sub_add_cancel (Nat.sub_pos_of_lt h)).symm
theorem subT {a : Nat} {i : Int} (h : 0 ≤ i) : ((a : Int) - i).toNat = a - i.toNat := by
  obtain ⟨k, rfl⟩ := Int.eq_ofNat_of_zero_le h
  exact Int.toNat_sub a k
theorem last1 (n : Nat) : ((-1 : Int) + (n : Int)).toNat = n - 1 := by
  rw [Int.add_comm]
  exact Int.toNat_sub n 1
theorem maxMin {y : Int} {n : Nat} (h : 0 ≤ y) : max 0 (min y (n : Int)) = ((min y.toNat n : Nat) : Int) := by
  obtain ⟨k, rfl⟩ := Int.eq_ofNat_of_zero_le h
  show max 0 (min (k : Int) (n : Int)) = ((min k n : Nat) : Int)
  have e : min (k : Int) (n : Int) = ((min k n : Nat) : Int) := by
    rcases Nat.le_total k n with h | h
    · rw [Nat.min_eq_left h, Int.min_eq_left (Int.ofNat_le.mpr h)]
    · rw [Nat.min_eq_right h, Int.min_eq_right (Int.ofNat_le.mpr h)]
  rw [e]
  exact Int.max_eq_right (Int.natCast_nonneg _)
theorem of5 {r : Int} (h0 : 0 ≤ r) (h1 : r < 5) : r = 0 ∨ r = 1 ∨ r = 2 ∨ r = 3 ∨ r = 4 := by
  obtain ⟨k, rfl⟩ := Int.eq_ofNat_of_zero_le h0
  have h : k < 5 := Int.ofNat_lt.mp h1
  match k, h with
  | 0, _ => exact .inl rfl
  | 1, _ => exact .inr (.inl rfl)
  | 2, _ => exact .inr (.inr (.inl rfl))
  | 3, _ => exact .inr (.inr (.inr (.inl rfl)))
  | 4, _ => exact .inr (.inr (.inr (.inr rfl)))
  | n + 5, h => exact absurd h (Nat.not_lt.mpr (Nat.le_add_left 5 n))
theorem of4 {r : Int} (h0 : 0 ≤ r) (h1 : r < 4) : r = 0 ∨ r = 1 ∨ r = 2 ∨ r = 3 := by
  rcases of5 h0 (Int.lt_trans h1 (by decide)) with h | h | h | h | h
  · exact .inl h
  · exact .inr (.inl h)
  · exact .inr (.inr (.inl h))
  · exact .inr (.inr (.inr h))
  · rw [h] at h1; exact absurd h1 (by decide)
theorem of2 {r : Int} (h0 : 0 ≤ r) (h1 : r < 2) : r = 0 ∨ r = 1 := by
  rcases of5 h0 (Int.lt_trans h1 (by decide)) with h | h | h | h | h
  · exact .inl h
  · exact .inr h
  all_goals (rw [h] at h1; exact absurd h1 (by decide))
theorem upA {i k n : Nat} (e : i + (k + 1) = n) : i < n := e ▸ Nat.lt_add_of_pos_right (Nat.succ_pos k)
theorem upB {i k n : Nat} (e : i + (k + 1) = n) : i + 1 + k = n := by rw [Nat.add_assoc, Nat.add_comm 1 k]; exact e
theorem pj1 {l j : Nat} (h : l < j) : j - 1 - l < j - l := Nat.sub_lt_sub_right (Nat.le_sub_one_of_lt h) (Nat.sub_lt (Nat.lt_of_le_of_lt (Nat.zero_le _) h) Nat.one_pos)
theorem pj2 {l j n : Nat} (h : l < j) (k : j ≤ n) : j - 1 < n := Nat.lt_of_lt_of_le (Nat.sub_lt (Nat.lt_of_le_of_lt (Nat.zero_le _) h) Nat.one_pos) k
theorem litA {r top : Int} (h0 : 0 ≤ r) (h1 : r < top) : 3 ≤ 1 * (3 + r) ∧ 1 * (3 + r) < 3 + top ∨ -(3 + top) < 1 * (3 + r) ∧ 1 * (3 + r) ≤ -3 := by
  rw [Int.one_mul]
  exact .inl ⟨Int.le_add_of_nonneg_right h0, Int.add_lt_add_left h1 3⟩
theorem litB {r top : Int} (h0 : 0 ≤ r) (h1 : r < top) : 3 ≤ -1 * (3 + r) ∧ -1 * (3 + r) < 3 + top ∨ -(3 + top) < -1 * (3 + r) ∧ -1 * (3 + r) ≤ -3 := by
  rw [Int.neg_mul, Int.one_mul]
  exact .inr ⟨Int.neg_lt_neg (Int.add_lt_add_left h1 3), Int.neg_le_neg (Int.le_add_of_nonneg_right h0)⟩
theorem len_le {xs : List Value} {a n : Nat} (h : xs.length = a) (k : a ≤ n) : xs.length ≤ n := h ▸ k
end
section
/-- two addresses apart (a word of its own, so that the arithmetic passes it by) -/
noncomputable def Df (x y : Nat) : Prop := @Ne Nat x y
theorem Df.ne {x y : Nat} (h : Df x y) : x ≠ y := h
theorem Df.en {x y : Nat} (h : Df y x) : x ≠ y := Ne.symm h
/-- the addresses of the state, each apart from each -/
theorem kPairs {a : KA} (O : a.Ord) : @Ne Nat a.dk a.ik ∧ @Ne Nat a.dk a.ll ∧ @Ne Nat a.dk a.ls ∧ @Ne Nat a.dk a.lf ∧ @Ne Nat a.dk a.pn ∧ @Ne Nat a.dk a.ps ∧ @Ne Nat a.ik a.ll ∧ @Ne Nat a.ik a.ls ∧ @Ne Nat a.ik a.lf ∧ @Ne Nat a.ik a.pn ∧ @Ne Nat a.ik a.ps ∧ @Ne Nat a.ll a.ls ∧ @Ne Nat a.ll a.lf ∧ @Ne Nat a.ll a.pn ∧ @Ne Nat a.ll a.ps ∧ @Ne Nat a.ls a.lf ∧ @Ne Nat a.ls a.pn ∧ @Ne Nat a.ls a.ps ∧ @Ne Nat a.lf a.pn ∧ @Ne Nat a.lf a.ps ∧ @Ne Nat a.pn a.ps := by
  obtain ⟨o1, o2, o3, o4, o5, o6, _, _⟩ := O
  have q (x y : Nat) (h : x < y) : x ≠ y := Nat.ne_of_lt h
  have e0_2 := Nat.lt_trans o1 o2
  have e1_3 := Nat.lt_trans o2 o3
  have e2_4 := Nat.lt_trans o3 o4
  have e3_5 := Nat.lt_trans o4 o5
  have e4_6 := Nat.lt_trans o5 o6
  have e0_3 := Nat.lt_trans e0_2 o3
  have e1_4 := Nat.lt_trans e1_3 o4
  have e2_5 := Nat.lt_trans e2_4 o5
  have e3_6 := Nat.lt_trans e3_5 o6
  have e0_4 := Nat.lt_trans e0_3 o4
  have e1_5 := Nat.lt_trans e1_4 o5
  have e2_6 := Nat.lt_trans e2_5 o6
  have e0_5 := Nat.lt_trans e0_4 o5
  have e1_6 := Nat.lt_trans e1_5 o6
  have e0_6 := Nat.lt_trans e0_5 o6
  exact ⟨q _ _ o1, q _ _ e0_2, q _ _ e0_3, q _ _ e0_4, q _ _ e0_5, q _ _ e0_6, q _ _ o2, q _ _ e1_3, q _ _ e1_4, q _ _ e1_5, q _ _ e1_6, q _ _ o3, q _ _ e2_4, q _ _ e2_5, q _ _ e2_6, q _ _ o4, q _ _ e3_5, q _ _ e3_6, q _ _ o5, q _ _ e4_6, q _ _ o6⟩
theorem kPairsD {a : KA} (O : a.Ord) : Df a.dk a.ik ∧ Df a.dk a.ll ∧ Df a.dk a.ls ∧ Df a.dk a.lf ∧ Df a.dk a.pn ∧ Df a.dk a.ps ∧ Df a.ik a.ll ∧ Df a.ik a.ls ∧ Df a.ik a.lf ∧ Df a.ik a.pn ∧ Df a.ik a.ps ∧ Df a.ll a.ls ∧ Df a.ll a.lf ∧ Df a.ll a.pn ∧ Df a.ll a.ps ∧ Df a.ls a.lf ∧ Df a.ls a.pn ∧ Df a.ls a.ps ∧ Df a.lf a.pn ∧ Df a.lf a.ps ∧ Df a.pn a.ps := kPairs O
theorem tPairs {a : KA} {df lo : Addr} (O : a.Ord) (h172 : @LT.lt Nat _ 172 df) (h1 : @LT.lt Nat _ df a.dk) (h2 : @LT.lt Nat _ a.ps lo) : Df 167 172 ∧ Df 167 df ∧ Df 167 a.dk ∧ Df 167 a.ik ∧ Df 167 a.ll ∧ Df 167 a.ls ∧ Df 167 a.lf ∧ Df 167 a.pn ∧ Df 167 a.ps ∧ Df 167 lo ∧ Df 172 df ∧ Df 172 a.dk ∧ Df 172 a.ik ∧ Df 172 a.ll ∧ Df 172 a.ls ∧ Df 172 a.lf ∧ Df 172 a.pn ∧ Df 172 a.ps ∧ Df 172 lo ∧ Df df a.dk ∧ Df df a.ik ∧ Df df a.ll ∧ Df df a.ls ∧ Df df a.lf ∧ Df df a.pn ∧ Df df a.ps ∧ Df df lo ∧ Df a.dk a.ik ∧ Df a.dk a.ll ∧ Df a.dk a.ls ∧ Df a.dk a.lf ∧ Df a.dk a.pn ∧ Df a.dk a.ps ∧ Df a.dk lo ∧ Df a.ik a.ll ∧ Df a.ik a.ls ∧ Df a.ik a.lf ∧ Df a.ik a.pn ∧ Df a.ik a.ps ∧ Df a.ik lo ∧ Df a.ll a.ls ∧ Df a.ll a.lf ∧ Df a.ll a.pn ∧ Df a.ll a.ps ∧ Df a.ll lo ∧ Df a.ls a.lf ∧ Df a.ls a.pn ∧ Df a.ls a.ps ∧ Df a.ls lo ∧ Df a.lf a.pn ∧ Df a.lf a.ps ∧ Df a.lf lo ∧ Df a.pn a.ps ∧ Df a.pn lo ∧ Df a.ps lo := by
  obtain ⟨o1, o2, o3, o4, o5, o6, _, _⟩ := O
  have q (x y : Nat) (h : x < y) : x ≠ y := Nat.ne_of_lt h
  have h0 : @LT.lt Nat _ 167 172 := by decide
  have e0_2 := Nat.lt_trans h0 h172
  have e1_3 := Nat.lt_trans h172 h1
  have e2_4 := Nat.lt_trans h1 o1
  have e3_5 := Nat.lt_trans o1 o2
  have e4_6 := Nat.lt_trans o2 o3
  have e5_7 := Nat.lt_trans o3 o4
  have e6_8 := Nat.lt_trans o4 o5
  have e7_9 := Nat.lt_trans o5 o6
  have e8_10 := Nat.lt_trans o6 h2
  have e0_3 := Nat.lt_trans e0_2 h1
  have e1_4 := Nat.lt_trans e1_3 o1
  have e2_5 := Nat.lt_trans e2_4 o2
  have e3_6 := Nat.lt_trans e3_5 o3
  have e4_7 := Nat.lt_trans e4_6 o4
  have e5_8 := Nat.lt_trans e5_7 o5
  have e6_9 := Nat.lt_trans e6_8 o6
  have e7_10 := Nat.lt_trans e7_9 h2
  have e0_4 := Nat.lt_trans e0_3 o1
  have e1_5 := Nat.lt_trans e1_4 o2
  have e2_6 := Nat.lt_trans e2_5 o3
  have e3_7 := Nat.lt_trans e3_6 o4
  have e4_8 := Nat.lt_trans e4_7 o5
  have e5_9 := Nat.lt_trans e5_8 o6
  have e6_10 := Nat.lt_trans e6_9 h2
  have e0_5 := Nat.lt_trans e0_4 o2
  have e1_6 := Nat.lt_trans e1_5 o3
  have e2_7 := Nat.lt_trans e2_6 o4
  have e3_8 := Nat.lt_trans e3_7 o5
  have e4_9 := Nat.lt_trans e4_8 o6
  have e5_10 := Nat.lt_trans e5_9 h2
  have e0_6 := Nat.lt_trans e0_5 o3
  have e1_7 := Nat.lt_trans e1_6 o4
  have e2_8 := Nat.lt_trans e2_7 o5
  have e3_9 := Nat.lt_trans e3_8 o6
  have e4_10 := Nat.lt_trans e4_9 h2
  have e0_7 := Nat.lt_trans e0_6 o4
  have e1_8 := Nat.lt_trans e1_7 o5
  have e2_9 := Nat.lt_trans e2_8 o6
  have e3_10 := Nat.lt_trans e3_9 h2
  have e0_8 := Nat.lt_trans e0_7 o5
  have e1_9 := Nat.lt_trans e1_8 o6
  have e2_10 := Nat.lt_trans e2_9 h2
  have e0_9 := Nat.lt_trans e0_8 o6
  have e1_10 := Nat.lt_trans e1_9 h2
  have e0_10 := Nat.lt_trans e0_9 h2
  exact ⟨q _ _ h0, q _ _ e0_2, q _ _ e0_3, q _ _ e0_4, q _ _ e0_5, q _ _ e0_6, q _ _ e0_7, q _ _ e0_8, q _ _ e0_9, q _ _ e0_10, q _ _ h172, q _ _ e1_3, q _ _ e1_4, q _ _ e1_5, q _ _ e1_6, q _ _ e1_7, q _ _ e1_8, q _ _ e1_9, q _ _ e1_10, q _ _ h1, q _ _ e2_4, q _ _ e2_5, q _ _ e2_6, q _ _ e2_7, q _ _ e2_8, q _ _ e2_9, q _ _ e2_10, q _ _ o1, q _ _ e3_5, q _ _ e3_6, q _ _ e3_7, q _ _ e3_8, q _ _ e3_9, q _ _ e3_10, q _ _ o2, q _ _ e4_6, q _ _ e4_7, q _ _ e4_8, q _ _ e4_9, q _ _ e4_10, q _ _ o3, q _ _ e5_7, q _ _ e5_8, q _ _ e5_9, q _ _ e5_10, q _ _ o4, q _ _ e6_8, q _ _ e6_9, q _ _ e6_10, q _ _ o5, q _ _ e7_9, q _ _ e7_10, q _ _ o6, q _ _ e8_10, q _ _ h2⟩
theorem cells5 {x1 x2 x3 x4 x5 x6 x7 x8 x9 x10 L : Nat} (h : @LT.lt Nat _ x1 L ∧ @LT.lt Nat _ x2 L ∧ @LT.lt Nat _ x3 L ∧ @LT.lt Nat _ x4 L ∧ @LT.lt Nat _ x5 L ∧ @LT.lt Nat _ x6 L ∧ @LT.lt Nat _ x7 L ∧ @LT.lt Nat _ x8 L ∧ @LT.lt Nat _ x9 L ∧ @LT.lt Nat _ x10 L) : Df x1 (L + 1) ∧ Df x2 (L + 1) ∧ Df x3 (L + 1) ∧ Df x4 (L + 1) ∧ Df x5 (L + 1) ∧ Df x6 (L + 1) ∧ Df x7 (L + 1) ∧ Df x8 (L + 1) ∧ Df x9 (L + 1) ∧ Df x10 (L + 1) ∧ Df x1 (L + 1 + 1) ∧ Df x2 (L + 1 + 1) ∧ Df x3 (L + 1 + 1) ∧ Df x4 (L + 1 + 1) ∧ Df x5 (L + 1 + 1) ∧ Df x6 (L + 1 + 1) ∧ Df x7 (L + 1 + 1) ∧ Df x8 (L + 1 + 1) ∧ Df x9 (L + 1 + 1) ∧ Df x10 (L + 1 + 1) ∧ Df x1 (L + 1 + 1 + 1) ∧ Df x2 (L + 1 + 1 + 1) ∧ Df x3 (L + 1 + 1 + 1) ∧ Df x4 (L + 1 + 1 + 1) ∧ Df x5 (L + 1 + 1 + 1) ∧ Df x6 (L + 1 + 1 + 1) ∧ Df x7 (L + 1 + 1 + 1) ∧ Df x8 (L + 1 + 1 + 1) ∧ Df x9 (L + 1 + 1 + 1) ∧ Df x10 (L + 1 + 1 + 1) ∧ Df x1 (L + 1 + 1 + 1 + 1) ∧ Df x2 (L + 1 + 1 + 1 + 1) ∧ Df x3 (L + 1 + 1 + 1 + 1) ∧ Df x4 (L + 1 + 1 + 1 + 1) ∧ Df x5 (L + 1 + 1 + 1 + 1) ∧ Df x6 (L + 1 + 1 + 1 + 1) ∧ Df x7 (L + 1 + 1 + 1 + 1) ∧ Df x8 (L + 1 + 1 + 1 + 1) ∧ Df x9 (L + 1 + 1 + 1 + 1) ∧ Df x10 (L + 1 + 1 + 1 + 1) ∧ Df x1 (L + 1 + 1 + 1 + 1 + 1) ∧ Df x2 (L + 1 + 1 + 1 + 1 + 1) ∧ Df x3 (L + 1 + 1 + 1 + 1 + 1) ∧ Df x4 (L + 1 + 1 + 1 + 1 + 1) ∧ Df x5 (L + 1 + 1 + 1 + 1 + 1) ∧ Df x6 (L + 1 + 1 + 1 + 1 + 1) ∧ Df x7 (L + 1 + 1 + 1 + 1 + 1) ∧ Df x8 (L + 1 + 1 + 1 + 1 + 1) ∧ Df x9 (L + 1 + 1 + 1 + 1 + 1) ∧ Df x10 (L + 1 + 1 + 1 + 1 + 1) ∧ Df (L + 1) (L + 1 + 1) ∧ Df (L + 1) (L + 1 + 1 + 1) ∧ Df (L + 1) (L + 1 + 1 + 1 + 1) ∧ Df (L + 1) (L + 1 + 1 + 1 + 1 + 1) ∧ Df (L + 1 + 1) (L + 1 + 1 + 1) ∧ Df (L + 1 + 1) (L + 1 + 1 + 1 + 1) ∧ Df (L + 1 + 1) (L + 1 + 1 + 1 + 1 + 1) ∧ Df (L + 1 + 1 + 1) (L + 1 + 1 + 1 + 1) ∧ Df (L + 1 + 1 + 1) (L + 1 + 1 + 1 + 1 + 1) ∧ Df (L + 1 + 1 + 1 + 1) (L + 1 + 1 + 1 + 1 + 1) := by
  obtain ⟨h1, h2, h3, h4, h5, h6, h7, h8, h9, h10⟩ := h
  have q (x y : Nat) (h : x < y) : x ≠ y := Nat.ne_of_lt h
  have u (x y : Nat) (h : x < y) : x < y + 1 := Nat.lt_succ_of_lt h
  have a1_1 := u _ _ h1
  have a1_2 := u _ _ h2
  have a1_3 := u _ _ h3
  have a1_4 := u _ _ h4
  have a1_5 := u _ _ h5
  have a1_6 := u _ _ h6
  have a1_7 := u _ _ h7
  have a1_8 := u _ _ h8
  have a1_9 := u _ _ h9
  have a1_10 := u _ _ h10
  have a2_1 := u _ _ a1_1
  have a2_2 := u _ _ a1_2
  have a2_3 := u _ _ a1_3
  have a2_4 := u _ _ a1_4
  have a2_5 := u _ _ a1_5
  have a2_6 := u _ _ a1_6
  have a2_7 := u _ _ a1_7
  have a2_8 := u _ _ a1_8
  have a2_9 := u _ _ a1_9
  have a2_10 := u _ _ a1_10
  have a3_1 := u _ _ a2_1
  have a3_2 := u _ _ a2_2
  have a3_3 := u _ _ a2_3
  have a3_4 := u _ _ a2_4
  have a3_5 := u _ _ a2_5
  have a3_6 := u _ _ a2_6
  have a3_7 := u _ _ a2_7
  have a3_8 := u _ _ a2_8
  have a3_9 := u _ _ a2_9
  have a3_10 := u _ _ a2_10
  have a4_1 := u _ _ a3_1
  have a4_2 := u _ _ a3_2
  have a4_3 := u _ _ a3_3
  have a4_4 := u _ _ a3_4
  have a4_5 := u _ _ a3_5
  have a4_6 := u _ _ a3_6
  have a4_7 := u _ _ a3_7
  have a4_8 := u _ _ a3_8
  have a4_9 := u _ _ a3_9
  have a4_10 := u _ _ a3_10
  have a5_1 := u _ _ a4_1
  have a5_2 := u _ _ a4_2
  have a5_3 := u _ _ a4_3
  have a5_4 := u _ _ a4_4
  have a5_5 := u _ _ a4_5
  have a5_6 := u _ _ a4_6
  have a5_7 := u _ _ a4_7
  have a5_8 := u _ _ a4_8
  have a5_9 := u _ _ a4_9
  have a5_10 := u _ _ a4_10
  have b1_2 := Nat.lt_succ_self (L + 1)
  have b1_3 := u _ _ b1_2
  have b1_4 := u _ _ b1_3
  have b1_5 := u _ _ b1_4
  have b2_3 := Nat.lt_succ_self (L + 1 + 1)
  have b2_4 := u _ _ b2_3
  have b2_5 := u _ _ b2_4
  have b3_4 := Nat.lt_succ_self (L + 1 + 1 + 1)
  have b3_5 := u _ _ b3_4
  have b4_5 := Nat.lt_succ_self (L + 1 + 1 + 1 + 1)
  exact ⟨q _ _ a1_1, q _ _ a1_2, q _ _ a1_3, q _ _ a1_4, q _ _ a1_5, q _ _ a1_6, q _ _ a1_7, q _ _ a1_8, q _ _ a1_9, q _ _ a1_10, q _ _ a2_1, q _ _ a2_2, q _ _ a2_3, q _ _ a2_4, q _ _ a2_5, q _ _ a2_6, q _ _ a2_7, q _ _ a2_8, q _ _ a2_9, q _ _ a2_10, q _ _ a3_1, q _ _ a3_2, q _ _ a3_3, q _ _ a3_4, q _ _ a3_5, q _ _ a3_6, q _ _ a3_7, q _ _ a3_8, q _ _ a3_9, q _ _ a3_10, q _ _ a4_1, q _ _ a4_2, q _ _ a4_3, q _ _ a4_4, q _ _ a4_5, q _ _ a4_6, q _ _ a4_7, q _ _ a4_8, q _ _ a4_9, q _ _ a4_10, q _ _ a5_1, q _ _ a5_2, q _ _ a5_3, q _ _ a5_4, q _ _ a5_5, q _ _ a5_6, q _ _ a5_7, q _ _ a5_8, q _ _ a5_9, q _ _ a5_10, q _ _ b1_2, q _ _ b1_3, q _ _ b1_4, q _ _ b1_5, q _ _ b2_3, q _ _ b2_4, q _ _ b2_5, q _ _ b3_4, q _ _ b3_5, q _ _ b4_5⟩
theorem cells4 {x1 x2 x3 x4 x5 x6 x7 x8 x9 x10 L : Nat} (h : @LT.lt Nat _ x1 L ∧ @LT.lt Nat _ x2 L ∧ @LT.lt Nat _ x3 L ∧ @LT.lt Nat _ x4 L ∧ @LT.lt Nat _ x5 L ∧ @LT.lt Nat _ x6 L ∧ @LT.lt Nat _ x7 L ∧ @LT.lt Nat _ x8 L ∧ @LT.lt Nat _ x9 L ∧ @LT.lt Nat _ x10 L) : Df x1 (L + 1) ∧ Df x2 (L + 1) ∧ Df x3 (L + 1) ∧ Df x4 (L + 1) ∧ Df x5 (L + 1) ∧ Df x6 (L + 1) ∧ Df x7 (L + 1) ∧ Df x8 (L + 1) ∧ Df x9 (L + 1) ∧ Df x10 (L + 1) ∧ Df x1 (L + 1 + 1) ∧ Df x2 (L + 1 + 1) ∧ Df x3 (L + 1 + 1) ∧ Df x4 (L + 1 + 1) ∧ Df x5 (L + 1 + 1) ∧ Df x6 (L + 1 + 1) ∧ Df x7 (L + 1 + 1) ∧ Df x8 (L + 1 + 1) ∧ Df x9 (L + 1 + 1) ∧ Df x10 (L + 1 + 1) ∧ Df x1 (L + 1 + 1 + 1) ∧ Df x2 (L + 1 + 1 + 1) ∧ Df x3 (L + 1 + 1 + 1) ∧ Df x4 (L + 1 + 1 + 1) ∧ Df x5 (L + 1 + 1 + 1) ∧ Df x6 (L + 1 + 1 + 1) ∧ Df x7 (L + 1 + 1 + 1) ∧ Df x8 (L + 1 + 1 + 1) ∧ Df x9 (L + 1 + 1 + 1) ∧ Df x10 (L + 1 + 1 + 1) ∧ Df x1 (L + 1 + 1 + 1 + 1) ∧ Df x2 (L + 1 + 1 + 1 + 1) ∧ Df x3 (L + 1 + 1 + 1 + 1) ∧ Df x4 (L + 1 + 1 + 1 + 1) ∧ Df x5 (L + 1 + 1 + 1 + 1) ∧ Df x6 (L + 1 + 1 + 1 + 1) ∧ Df x7 (L + 1 + 1 + 1 + 1) ∧ Df x8 (L + 1 + 1 + 1 + 1) ∧ Df x9 (L + 1 + 1 + 1 + 1) ∧ Df x10 (L + 1 + 1 + 1 + 1) ∧ Df (L + 1) (L + 1 + 1) ∧ Df (L + 1) (L + 1 + 1 + 1) ∧ Df (L + 1) (L + 1 + 1 + 1 + 1) ∧ Df (L + 1 + 1) (L + 1 + 1 + 1) ∧ Df (L + 1 + 1) (L + 1 + 1 + 1 + 1) ∧ Df (L + 1 + 1 + 1) (L + 1 + 1 + 1 + 1) := by
  obtain ⟨h1, h2, h3, h4, h5, h6, h7, h8, h9, h10⟩ := h
  have q (x y : Nat) (h : x < y) : x ≠ y := Nat.ne_of_lt h
  have u (x y : Nat) (h : x < y) : x < y + 1 := Nat.lt_succ_of_lt h
  have a1_1 := u _ _ h1
  have a1_2 := u _ _ h2
  have a1_3 := u _ _ h3
  have a1_4 := u _ _ h4
  have a1_5 := u _ _ h5
  have a1_6 := u _ _ h6
  have a1_7 := u _ _ h7
  have a1_8 := u _ _ h8
  have a1_9 := u _ _ h9
  have a1_10 := u _ _ h10
  have a2_1 := u _ _ a1_1
  have a2_2 := u _ _ a1_2
  have a2_3 := u _ _ a1_3
  have a2_4 := u _ _ a1_4
  have a2_5 := u _ _ a1_5
  have a2_6 := u _ _ a1_6
  have a2_7 := u _ _ a1_7
  have a2_8 := u _ _ a1_8
  have a2_9 := u _ _ a1_9
  have a2_10 := u _ _ a1_10
  have a3_1 := u _ _ a2_1
  have a3_2 := u _ _ a2_2
  have a3_3 := u _ _ a2_3
  have a3_4 := u _ _ a2_4
  have a3_5 := u _ _ a2_5
  have a3_6 := u _ _ a2_6
  have a3_7 := u _ _ a2_7
  have a3_8 := u _ _ a2_8
  have a3_9 := u _ _ a2_9
  have a3_10 := u _ _ a2_10
  have a4_1 := u _ _ a3_1
  have a4_2 := u _ _ a3_2
  have a4_3 := u _ _ a3_3
  have a4_4 := u _ _ a3_4
  have a4_5 := u _ _ a3_5
  have a4_6 := u _ _ a3_6
  have a4_7 := u _ _ a3_7
  have a4_8 := u _ _ a3_8
  have a4_9 := u _ _ a3_9
  have a4_10 := u _ _ a3_10
  have b1_2 := Nat.lt_succ_self (L + 1)
  have b1_3 := u _ _ b1_2
  have b1_4 := u _ _ b1_3
  have b2_3 := Nat.lt_succ_self (L + 1 + 1)
  have b2_4 := u _ _ b2_3
  have b3_4 := Nat.lt_succ_self (L + 1 + 1 + 1)
  exact ⟨q _ _ a1_1, q _ _ a1_2, q _ _ a1_3, q _ _ a1_4, q _ _ a1_5, q _ _ a1_6, q _ _ a1_7, q _ _ a1_8, q _ _ a1_9, q _ _ a1_10, q _ _ a2_1, q _ _ a2_2, q _ _ a2_3, q _ _ a2_4, q _ _ a2_5, q _ _ a2_6, q _ _ a2_7, q _ _ a2_8, q _ _ a2_9, q _ _ a2_10, q _ _ a3_1, q _ _ a3_2, q _ _ a3_3, q _ _ a3_4, q _ _ a3_5, q _ _ a3_6, q _ _ a3_7, q _ _ a3_8, q _ _ a3_9, q _ _ a3_10, q _ _ a4_1, q _ _ a4_2, q _ _ a4_3, q _ _ a4_4, q _ _ a4_5, q _ _ a4_6, q _ _ a4_7, q _ _ a4_8, q _ _ a4_9, q _ _ a4_10, q _ _ b1_2, q _ _ b1_3, q _ _ b1_4, q _ _ b2_3, q _ _ b2_4, q _ _ b3_4⟩
theorem perm3 {x y z b : Addr} {ks : List Addr} : b ∈ x :: y :: (ks ++ [z]) ↔ b ∈ x :: y :: z :: ks := by
  have p : List.Perm (ks ++ [z]) (z :: ks) := List.perm_append_comm
  exact ((p.cons y).cons x).mem_iff
theorem n172_of {a : KA} {df lo : Addr} (O : a.Ord) (h172 : @LT.lt Nat _ 172 df) (h1 : @LT.lt Nat _ df a.dk) (h2 : @LT.lt Nat _ a.ps lo) : (172 : Addr) ∉ (167 : Addr) :: df :: lo :: kAdr a := by
  obtain ⟨o1, o2, o3, o4, o5, o6, _, _⟩ := O
  have t (x y z : Nat) (h : x < y) (k : y < z) : x < z := Nat.lt_trans h k
  have q (x y : Nat) (h : x < y) : x ≠ y := Nat.ne_of_lt h
  have kd : @LT.lt Nat _ 172 df := h172
  have k0 := t _ _ _ kd h1
  have k1 := t _ _ _ k0 o1
  have k2 := t _ _ _ k1 o2
  have k3 := t _ _ _ k2 o3
  have k4 := t _ _ _ k3 o4
  have k5 := t _ _ _ k4 o5
  have k6 := t _ _ _ k5 o6
  have k7 := t _ _ _ k6 h2
  exact List.not_mem_cons_of_ne_of_not_mem (by decide) (List.not_mem_cons_of_ne_of_not_mem (q _ _ kd) (List.not_mem_cons_of_ne_of_not_mem (q _ _ k7) (List.not_mem_cons_of_ne_of_not_mem (q _ _ k1) (List.not_mem_cons_of_ne_of_not_mem (q _ _ k0) (List.not_mem_cons_of_ne_of_not_mem (q _ _ k2) (List.not_mem_cons_of_ne_of_not_mem (q _ _ k3) (List.not_mem_cons_of_ne_of_not_mem (q _ _ k4) (List.not_mem_cons_of_ne_of_not_mem (q _ _ k5) (List.not_mem_cons_of_ne_of_not_mem (q _ _ k6) List.not_mem_nil)))))))))
theorem n167_of {a : KA} {df lo : Addr} (O : a.Ord) (h172 : @LT.lt Nat _ 172 df) (h1 : @LT.lt Nat _ df a.dk) (h2 : @LT.lt Nat _ a.ps lo) : (167 : Addr) ∉ (172 : Addr) :: df :: lo :: kAdr a := by
  obtain ⟨o1, o2, o3, o4, o5, o6, _, _⟩ := O
  have t (x y z : Nat) (h : x < y) (k : y < z) : x < z := Nat.lt_trans h k
  have q (x y : Nat) (h : x < y) : x ≠ y := Nat.ne_of_lt h
  have kd : @LT.lt Nat _ 167 df := t _ 172 _ (by decide) h172
  have k0 := t _ _ _ kd h1
  have k1 := t _ _ _ k0 o1
  have k2 := t _ _ _ k1 o2
  have k3 := t _ _ _ k2 o3
  have k4 := t _ _ _ k3 o4
  have k5 := t _ _ _ k4 o5
  have k6 := t _ _ _ k5 o6
  have k7 := t _ _ _ k6 h2
  exact List.not_mem_cons_of_ne_of_not_mem (by decide) (List.not_mem_cons_of_ne_of_not_mem (q _ _ kd) (List.not_mem_cons_of_ne_of_not_mem (q _ _ k7) (List.not_mem_cons_of_ne_of_not_mem (q _ _ k1) (List.not_mem_cons_of_ne_of_not_mem (q _ _ k0) (List.not_mem_cons_of_ne_of_not_mem (q _ _ k2) (List.not_mem_cons_of_ne_of_not_mem (q _ _ k3) (List.not_mem_cons_of_ne_of_not_mem (q _ _ k4) (List.not_mem_cons_of_ne_of_not_mem (q _ _ k5) (List.not_mem_cons_of_ne_of_not_mem (q _ _ k6) List.not_mem_nil)))))))))
theorem out_hi {a : KA} {df lo x : Addr} (O : a.Ord) (h172 : @LT.lt Nat _ 172 df) (h1 : @LT.lt Nat _ df a.dk) (k : @LT.lt Nat _ a.ps x) (k2 : @LT.lt Nat _ x lo) : x ∉ (172 : Addr) :: (167 : Addr) :: df :: lo :: kAdr a := by
  obtain ⟨o1, o2, o3, o4, o5, o6, _, _⟩ := O
  have t (x y z : Nat) (h : x < y) (k : y < z) : x < z := Nat.lt_trans h k
  have q (x y : Nat) (h : x < y) : y ≠ x := Nat.ne_of_gt h
  have k6 := t _ _ _ o6 k
  have k5 := t _ _ _ o5 k6
  have k4 := t _ _ _ o4 k5
  have k3 := t _ _ _ o3 k4
  have k1 := t _ _ _ o2 k3
  have k0 := t _ _ _ o1 k1
  have kd := t _ _ _ h1 k0
  have k7 := t _ _ _ h172 kd
  have k8 := t 167 172 _ (by decide) k7
  exact List.not_mem_cons_of_ne_of_not_mem (q _ _ k7) (List.not_mem_cons_of_ne_of_not_mem (q _ _ k8) (List.not_mem_cons_of_ne_of_not_mem (q _ _ kd) (List.not_mem_cons_of_ne_of_not_mem (q _ _ k2).symm (List.not_mem_cons_of_ne_of_not_mem (q _ _ k1) (List.not_mem_cons_of_ne_of_not_mem (q _ _ k0) (List.not_mem_cons_of_ne_of_not_mem (q _ _ k3) (List.not_mem_cons_of_ne_of_not_mem (q _ _ k4) (List.not_mem_cons_of_ne_of_not_mem (q _ _ k5) (List.not_mem_cons_of_ne_of_not_mem (q _ _ k6) (List.not_mem_cons_of_ne_of_not_mem (q _ _ k) List.not_mem_nil))))))))))
theorem out_lo {a : KA} {df lo x : Addr} (O : a.Ord) (h2 : @LT.lt Nat _ a.ps lo) (d1 : @Ne Nat df x) (d2 : @Ne Nat 172 x) (d3 : @Ne Nat 167 x) (k : @LT.lt Nat _ x a.dk) : x ∉ (172 : Addr) :: (167 : Addr) :: df :: lo :: kAdr a := by
  obtain ⟨o1, o2, o3, o4, o5, o6, _, _⟩ := O
  have t (x y z : Nat) (h : x < y) (k : y < z) : x < z := Nat.lt_trans h k
  have q (x y : Nat) (h : x < y) : x ≠ y := Nat.ne_of_lt h
  have k1 := t _ _ _ k o1
  have k2 := t _ _ _ k1 o2
  have k3 := t _ _ _ k2 o3
  have k4 := t _ _ _ k3 o4
  have k5 := t _ _ _ k4 o5
  have k6 := t _ _ _ k5 o6
  have k7 := t _ _ _ k6 h2
  exact List.not_mem_cons_of_ne_of_not_mem (Ne.symm d2) (List.not_mem_cons_of_ne_of_not_mem (Ne.symm d3) (List.not_mem_cons_of_ne_of_not_mem (Ne.symm d1) (List.not_mem_cons_of_ne_of_not_mem (q _ _ k7) (List.not_mem_cons_of_ne_of_not_mem (q _ _ k1) (List.not_mem_cons_of_ne_of_not_mem (q _ _ k) (List.not_mem_cons_of_ne_of_not_mem (q _ _ k2) (List.not_mem_cons_of_ne_of_not_mem (q _ _ k3) (List.not_mem_cons_of_ne_of_not_mem (q _ _ k4) (List.not_mem_cons_of_ne_of_not_mem (q _ _ k5) (List.not_mem_cons_of_ne_of_not_mem (q _ _ k6) List.not_mem_nil))))))))))
/-- what a def's walk ends in, by a name (the goals stay small) -/
theorem cutR {M : Model} {A : Around} {X : Sem Flow} {R : Result → Shared → Prop} {E : Value → Shared → Prop} {s : Shared}
    (h : ∀ (R' : Result → Shared → Prop) (E' : Value → Shared → Prop), (∀ r s', R r s' → R' r s') → wpAny M A X (fun fl s' => Done R' (match fl with | .ret v => v | _ => .none) s') E' s) : wpAny M A X (fun fl s' => Done R (match fl with | .ret v => v | _ => .none) s') E s := h R E fun _ _ q => q
end
section
/-- what holds of the one that is chosen as its worst case holds of all: so a long proof may go over constants -/
theorem hkAll {V : Type} [Nonempty V] (P : V → Prop) (h : P (Classical.epsilon fun v => ¬ P v)) (v : V) : P v :=
  Classical.byContradiction fun q => absurd h (Classical.epsilon_spec (p := fun v => ¬ P v) ⟨v, q⟩)
theorem neW : Nonempty World := ⟨aWorld 1⟩
theorem neS : Nonempty Shared := ⟨{}⟩
theorem neR : Nonempty Around := ⟨mkA 0 0 none []⟩
theorem neA : Nonempty KA := ⟨⟨0, 0, 0, 0, 0, 0, 0⟩⟩
theorem neD : Nonempty KD := ⟨⟨0, 0, 0, 0, 0, 0, 0, 0, 0, 0, 0⟩⟩
theorem neK : Nonempty KS := ⟨⟨#[], 0, #[], 0, #[], 0, default, default⟩⟩
end
section
local macro_rules | `(tactic| k_room) => `(tactic| ((try simp only [depth_mark, depth_under_make, depth_under_kw, depth_in1, depth_deeper, depth_caller]); (try simp only [recursionLimit]); omega))
section
theorem fill : PySem.Challenge.rw_no0003_01 = PySem.Challenge.rw_no0003_01 ∧ hd.heap_39 = hd.heap_39 := by k_fill; exact ⟨rfl, rfl⟩
section
variable {prog : Program} {w : World} {A : Around} {R : Result → Shared → Prop} {h : Heap} {g : Array GenState} {d : Drawn} {t : Nat} {os : OsState}

structure FaultCls (M : Model) (h : Heap) : Prop where
  sE : Looks M h (isSubtype (.ref 67) (.type "Exception")) true
  sB : Looks M h (isSubtype (.ref 67) (.type "BaseException")) true
  sA : Looks M h (isSubtype (.ref 67) (.type "AttributeError")) false
  sN : Looks M h (isSubtype (.ref 67) (.type "NameError")) false
  sO : Looks M h (isSubtype (.ref 67) (.ref 67)) true
  tT : Looks M h (isInstance (.ref 67) (.type "type")) true
  made : Looks M h (Bind.madeBy (.ref 67)) (some "Exception.__new__")
  base : Looks M h (Bind.staticBase (.ref 67)) (.ref 67)
  call : Looks M h (specialOf (.ref 67) "__call__") (some (.builtin "type.__call__"))
  init : Looks M h (typeLookup (.ref 67) "__init__") (some (.ref 37))
  bind : ∀ self, Looks M h (bindSpecial (.ref 37) self) (.ref 37, [self])

theorem fault_cls {M : Model} {P : Params} (X : (hd.heap_39 P).In h) : FaultCls M h := by
  have hC := X 67 _ (by k_is)
  have hm : Looks M h (mroOf (.ref 67)) _ := (looks_clsIn X (C := 67) (by k_is)).andThen .now
  have made : Looks M h (Bind.madeBy (.ref 67)) (some "Exception.__new__") := by
    intro A Q E s k q
    unfold Bind.madeBy
    refine wpAny_bind (hm A _ E s k ?_)
    rw [List.forIn_cons]
    refine wpAny_bind (wpAny_bind (wpAny_bind (wpAny_bind (wpAny_loadPart (k _ _ hC) (wpAny_pure ?_)))))
    exact wpAny_pure (wpAny_pure (wpAny_pure q))
  refine ⟨looks_subIn X (by k_is), looks_subIn X (by k_is), looks_subIn X (by k_is), looks_subIn X (by k_is), looks_subIn X (by k_is), looks_instIn X (by k_is), made, ?_, looks_specialIn X (by k_is), looks_findIn X (by k_is), fun self => bind_fn X self (by k_is)⟩
  intro A Q E s k q
  unfold Bind.staticBase
  refine wpAny_bind (hm A _ E s k ?_)
  rw [List.forIn_cons]
  exact wpAny_bind (wpAny_bind (wpAny_bind (made A _ E s k (wpAny_pure (wpAny_pure (wpAny_pure q))))))

noncomputable abbrev rawExc (tp : Addr) : Obj := { cls := .ref 67, data := .fields #[.ref tp, .none, .none, .none, .bool false, .none] }
noncomputable abbrev tupObj (vs : List Value) : Obj := { cls := .type "tuple", data := .seq vs.toArray }

theorem fault_new {P : Params} (X : (hd.heap_39 P).In h) {rest : List Value} (hrest : rest.length ≤ sizeLine)
    (hq : R (.ok (.ret (.ref (h.objs.size + 1)))) ⟨(h.push (tupObj rest)).push (rawExc h.objs.size), g, d, t, os⟩) :
    codeAny (model prog w) A (.call (.builtin "Exception.__new__") ⟨.ref 67 :: rest, []⟩) R ⟨h, g, d, t, os⟩ := by
  have F := PySem.F.excBase_Exception
  have Y := fault_cls (M := model prog w) X
  obtain ⟨sE, sB, sA, sN, sO, tT, made, base, call, init, bind⟩ := Y
  have hC := X 67 _ (by k_is)
  have hstar := F.noStar
  refine codeAny_call_builtin_code (Code.quiet_builtin _ F.quiet) ?_
  simp only [checkBuiltinCall, F.newKind, F.newSplit, F.newRow]
  repeat (first | with_reducible refine wpAny_loadPart_at hC ?_ | lk | simp only [bne_self_eq_false, Bool.false_eq_true, if_false] | wp_step)
  have here : Looks (model prog w) h (Bind.madeHere "BaseException.__new__" (.ref 67)) () := base.andThen (made.andThen (Looks.of_pure (by simp only [Option.map_some, F.canon, bne_self_eq_false, Bool.false_eq_true, if_false])))
  have hends := F.ends
  refine codeAny_builtinAt F.entry ?_
  unfold Builtin.«BaseException.__new__»
  refine PySem.wpAt_bind ?_
  show PySem.wpAt _ _ _ (stack >>= _) _ _ _
  refine PySem.wpAt_bind (PySem.wpAt_stack fun p below => PySem.wpAt_of_wpAny ?_)
  wp_walk
  refine PySem.wpAt_of_wpAny ?_
  rw [F.owner]
  repeat (first | with_reducible refine wpAny_loadPart_at hC ?_ | lk | simp only [bne_self_eq_false, Bool.false_eq_true, if_false, Bool.not_true] | wp_step)
  refine nd_load (Heap.get?_push_of_some _ (Heap.get?_push_of_some _ hC)) ?_
  refine wpAny_pure ?_
  simp only [Bool.false_eq_true, if_false]
  refine wpAny_pure (wpAny_pure (wpAny_pure ?_))
  show R _ _
  rw [Heap.size_push]
  exact hq

theorem fault_core {P : Params} (X : (hd.heap_39 P).In h) {rest : List Value} (hrest : rest.length ≤ sizeLine)
    (hq : codeAny (model prog w) (A.under (.builtin "type.__call__" ⟨.ref 67 :: rest, []⟩)) (.call (.ref 37) ⟨.ref (h.objs.size + 1) :: rest, []⟩) (InitBack (h.objs.size + 1) R) ⟨(h.push (tupObj rest)).push (rawExc h.objs.size), g, d, t, os⟩) :
    codeAny (model prog w) A (.call (.ref 67) ⟨rest, []⟩) R ⟨h, g, d, t, os⟩ := by
  have Y := fault_cls (M := model prog w) X
  obtain ⟨sE, sB, sA, sN, sO, tT, made, base, call, init, bind⟩ := Y
  have hC := X 67 _ (by k_is)
  refine codeAny_of_tree ?_
  show wpAny _ _ (callAny (.ref 67) _) _ _ _
  refine nd_load hC ?_
  show wpAny _ _ (callAny.viaDunder (.ref 67) _) _ _ _
  unfold callAny.viaDunder
  refine wpAny_bind (call.at ?_)
  dsimp only
  rw [tc_bind]
  refine wpAny_bind (wpAny_pure (wpAny_bind (wpAny_pure ?_)))
  refine wpAny_pure (a := Fin.again (.call (.builtin "type.__call__") ⟨.ref 67 :: rest, []⟩)) (And.intro rfl ?_)
  refine codeAny_call_builtin_at (Code.quiet_builtin _ (by decide +kernel)) entry_typeCall (check_slot tc_kind tc_split tT (tc_args _ _ _) ?_)
  unfold Builtin.«type.__call__»
  have hm : Looks (model prog w) h (mroOf (.ref 67)) _ := (looks_clsIn X (C := 67) (by k_is)).andThen .now
  repeat (first | simp only [List.isEmpty_cons, Bool.false_eq_true, if_false] | with_reducible refine wpAny_call ?_ | lk)
  refine fault_new X hrest ?_
  have k : ∀ b o, h.get? b = some o → ((h.push (tupObj rest)).push (rawExc h.objs.size)).get? b = some o := fun b o e => Heap.get?_push_of_some _ (Heap.get?_push_of_some _ e)
  have hx : ((h.push (tupObj rest)).push (rawExc h.objs.size)).get? (h.objs.size + 1) = some (rawExc h.objs.size) := by heap_get
  have t1 : Looks (model prog w) ((h.push (tupObj rest)).push (rawExc h.objs.size)) (typeOf (.ref (h.objs.size + 1))) (.ref 67) := (Looks.ld hx).andThen .now
  have s1 := sO.keeps k
  have i1 := init.keeps k
  have b1 := (bind (.ref (h.objs.size + 1))).keeps k
  unfold isInstance callSpecial? specialOf
  repeat (first | with_reducible refine wpAny_call ?_ | lk)
  refine codeAny_mono hq fun r s' z => ?_
  rcases r with e | (v | _ | _ | _) <;> first | exact z | exact z.elim | skip
  obtain ⟨rfl, z⟩ := z
  exact wpAny_pure (wpAny_pure z)
end
end
section
theorem fill1 : PySem.Challenge.rw_no0003_01 = PySem.Challenge.rw_no0003_01 ∧ hd.heap_39 = hd.heap_39 := by k_fill; exact ⟨rfl, rfl⟩
theorem slot_wd_get : Slot "wrapper_descriptor" "__get__" "wrapper_descriptor.__get__" := .of (owner := "wrapper_descriptor") (n := "__get__") (by rw [typeLookup_type, builtinLookup_eq_fast]; kernel_rfl) (by decide +kernel) (by decide +kernel) (by decide +kernel)
  (by first | exact .inl (by decide +kernel) | exact .inr (by decide +kernel)) (by rw [isSubtype_type]; kernel_rfl)
theorem entry_wd_get : entryFor table "wrapper_descriptor.__get__" = some Builtin.«wrapper_descriptor.__get__» := entryFor_of_tree (by kernel_rfl)
theorem args_wd_get (a b c : Value) : argsOk "wrapper_descriptor.__get__" ⟨[a, b, c], []⟩ := by unfold argsOk; kernel_rfl
noncomputable abbrev mwObj (e : Addr) : Obj := { cls := .type "method-wrapper", data := .fields #[.builtin "Exception.__init__", .ref e] }
theorem ei_type : typeOf (.builtin "Exception.__init__") = pure (.type "wrapper_descriptor") := by
  show builtinType "Exception.__init__" = _
  rw [builtinType_eq_fast]; kernel_rfl
section
variable {prog : Program} {w : World} {M : Model} {A : Around} {E : Value → Shared → Prop} {h : Heap} {g : Array GenState} {d : Drawn} {t : Nat} {os : OsState}
theorem wd_owner : ".".intercalate ("Exception.__init__".cutAt '.').dropLast = "Exception" := by decide +kernel
theorem wd_get {e : Addr} {oe : Obj} {Q : Fin → Shared → Prop} (he : h.get? e = some oe) (hcls : oe.cls = .ref 67) (hs : Looks (model prog w) h (isSubtype (.ref 67) (.type "Exception")) true) (hq : Q (.done (.ret (.ref h.objs.size))) ⟨h.push (mwObj e), g, d, t, os⟩) :
    wpAny (model prog w) A (Builtin.«wrapper_descriptor.__get__» ⟨[.builtin "Exception.__init__", .ref e, .ref 67], []⟩) Q E ⟨h, g, d, t, os⟩ := by
  unfold Builtin.«wrapper_descriptor.__get__»
  obtain ⟨oc, od, oda, osl⟩ := oe
  dsimp only at hcls
  subst hcls
  have hs' : Looks (model prog w) h (isSubtype (.ref 67) (.type (".".intercalate ("Exception.__init__".cutAt '.').dropLast))) true := by rw [wd_owner]; exact hs
  repeat (first | lk | dsimp only | simp only [Bool.not_true, Bool.false_eq_true, if_false])
  exact hq

theorem super_ga_b {so e : Addr} {l₀ l : List Value} {K : Frag} {tk : Tok} {Q : Fin → Shared → Prop}
    (hso : h.get? so = some (ks_superObj 47 e 67)) (hno : Looks (model prog w) h (opaqueClassAbove (.ref 67)) none)
    (hC : Looks (model prog w) h (mroOf (.ref 67)) l₀) (hl : (l₀.dropWhile (· != .ref 47)).drop 1 = l) (X : K.In h)
    (hf : alongIn K "__init__" l = some (some (.builtin "Exception.__init__"))) (hxC : e ≠ 67) {oe : Obj} (he : h.get? e = some oe) (hcls : oe.cls = .ref 67) (hs : Looks (model prog w) h (isSubtype (.ref 67) (.type "Exception")) true)
    (hq : Q (.done (.ret (.ref h.objs.size))) ⟨h.push (mwObj e), g, d, t, os⟩) :
    wpAny (model prog w) A (Builtin.«super.__getattribute__» ⟨[.ref so, .str (Str.ofString "__init__") tk], []⟩) Q E ⟨h, g, d, t, os⟩ := by
  have hlk := slot_wd_get.lookup
  have hne : (Value.ref e == Value.ref 67) = false := by simp [hxC]
  have hTf : (⟨h, g, d, t, os⟩ : Shared).TypeIs (.builtin "Exception.__init__") "wrapper_descriptor" := ei_type
  have hdt : (ks_superObj 47 e 67).data = .fields #[.ref 47, .ref e, .ref 67] := rfl
  have f0 : (#[.ref 47, .ref e, .ref 67] : Array Value)[0]? = some (.ref 47) := rfl
  have f1 : (#[.ref 47, .ref e, .ref 67] : Array Value)[1]? = some (.ref e) := rfl
  have f2 : (#[.ref 47, .ref e, .ref 67] : Array Value)[2]? = some (.ref 67) := rfl
  have hn : (Str.ofString "__init__" == ("__class__" : Str)) = false := by decide
  unfold Builtin.«super.__getattribute__»
  repeat (first
    | (with_reducible refine wpAny_field hso hdt f0 ?_) | (with_reducible refine wpAny_field hso hdt f1 ?_) | (with_reducible refine wpAny_field hso hdt f2 ?_)
    | (with_reducible refine ks_wpAny_notOpaque hno ?_)
    | (with_reducible refine Looks.at hC ?_; rw [hl])
    | (refine ks_forIn_along X (fun _ _ => rfl) rfl ?_ hf)
    | (with_reducible refine wpAny_typeOf hTf ?_)
    | (with_reducible refine wpAny_call_entry slot_wd_get hTf entry_wd_get ?_ (args_wd_get _ _ _))
    | (with_reducible refine wd_get he hcls hs ?_)
    | (with_reducible refine ⟨_, rfl, ?_⟩)
    | (simp only [hn, hne, Bool.or_false, Bool.false_eq_true, if_false])
    | wp_step
    | dsimp only)
  all_goals exact hq

theorem super_method_b {P : Params} {so e : Addr} {pl : Sem Bool} {Q : Value × List Value → Shared → Prop} (X : (hd.heap_39 P).In h)
    (hso : h.get? so = some (ks_superObj 47 e 67)) {oe : Obj} (he : h.get? e = some oe) (hcls : oe.cls = .ref 67) (hxC : e ≠ 67)
    (hq : Q (.ref h.objs.size, []) ⟨h.push (mwObj e), g, d, t + 1, os⟩) :
    wpAny (model prog w) A (getMethod (.ref so) (Str.ofString "__init__") pl) Q E ⟨h, g, d, t, os⟩ := by
  have hlk := PySem.F.ks_slot_super_ga.lookup
  have hcan := PySem.F.ks_canon_super_ga
  have hno : Looks (model prog w) h (opaqueClassAbove (.ref 67)) none := looks_opaque X (by k_is)
  have hC : Looks (model prog w) h (mroOf (.ref 67)) _ := (looks_clsIn X (C := 67) (by k_is)).andThen .now
  have hs := (fault_cls (M := model prog w) X).sE
  have hT : ∀ t', (⟨h, g, d, t', os⟩ : Shared).TypeIs (.ref so) "super" := fun _ => ⟨_, hso, rfl⟩
  unfold getMethod
  refine wpAny_bind (wpAny_specialOf (hT _) hlk ?_)
  show wpAny _ _ (if (Manifest.canonical "super.__getattribute__" != "object.__getattribute__") = true then _ else _) _ _ _
  rw [if_pos hcan]
  unfold getAttr getAttrBy
  refine wpAny_bind (wpAny_bind (wpAny_mkText (wpAny_holding (wpAny_bind (wpAny_typeOf (hT _) (wpAny_bind (wpAny_of_eq hlk ?_)))))))
  show wpAny _ _ (getAttrByItsOwn (.ref so) (.str (Str.ofString "__init__") t) (.type "super") (.builtin "super.__getattribute__") true false) _ _ _
  unfold getAttrByItsOwn hookBefore callGetattribute boundAndCalled
  refine wpAny_bind (wpAny_of_eq (show (if onTheHeap (.type "super") then typeLookup (.type "super") "__getattr__" else pure none) = pure none from rfl) ?_)
  refine wpAny_bind (wpAny_attempt (wpAny_holding ?_))
  show wpAny _ _ (bindSpecial (.builtin "super.__getattribute__") (.ref so) >>= _) _ _ _
  refine wpAny_bind (wpAny_of_eq (PySem.F.ks_slot_super_ga.bind _) ?_)
  refine wpAny_mono (Q := fun v s' => v = .ref h.objs.size ∧ s' = ⟨h.push (mwObj e), g, d, t + 1, os⟩) (E := fun _ _ => False)
    (wpAny_call_entry PySem.F.ks_slot_super_ga (hT _) PySem.F.ks_entry_super_ga (super_ga_b hso hno hC rfl X ?_ hxC he hcls hs ⟨_, rfl, rfl, rfl⟩) (PySem.F.ks_gaArgs_super _ _)) (fun v s' hv => ?_) fun _ _ z => z.elim
  · kernel_rfl
  · obtain ⟨rfl, rfl⟩ := hv
    exact wpAny_pure (wpAny_pure hq)

theorem mw_call {P : Params} {mw e tp : Addr} {y : Value} {Q : Value → Shared → Prop} (X : (hd.heap_39 P).In h)
    (hm : h.get? mw = some (mwObj e)) (he : h.get? e = some (rawExc tp))
    (hq : ∀ h' t', (∀ b o, h.get? b = some o → b ≠ e → h'.get? b = some o) → h'.get? e = some (rawExc t') → Q .none ⟨h', g, d, t, os⟩) :
    wpAny (model prog w) A (PySem.call (.ref mw) [y]) Q E ⟨h, g, d, t, os⟩ := by
  have F := PySem.F.excBase_Exception
  have hC := X 67 _ (by k_is)
  refine wpAny_call (codeAny_of_tree ?_)
  show wpAny _ _ (callAny (.ref mw) _) _ _ _
  refine nd_load (show (⟨h, g, d, t, os⟩ : Shared).heap.get? mw = some (mwObj e) from hm) ?_
  dsimp only
  simp only [checkBoundCall, F.initKind, F.initSplit, F.initRow]
  repeat (first | lk | dsimp only | simp only [Bool.not_true, Bool.false_eq_true, if_false])
  refine ⟨Code.quiet_builtin _ (by decide +kernel), codeAny_builtin F.initEntry ?_⟩
  unfold Builtin.«BaseException.__init__»
  repeat (first | lk | dsimp only | simp only [Bool.not_true, Bool.false_eq_true, if_false])
  have he₁ : (h.push (tupObj [y])).get? e = some (rawExc tp) := Heap.get?_push_of_some _ he
  refine nd_load (show (⟨h.push (tupObj [y]), g, d, t, os⟩ : Shared).heap.get? e = some (rawExc tp) from he₁) ?_
  refine wpAny_pure ?_
  refine wpAny_pure ?_
  refine wpAny_pure (wpAny_bind (wpAny_setField (show (⟨h.push (tupObj [y]), g, d, t, os⟩ : Shared).heap.get? e = some (rawExc tp) from he₁) rfl (i := 0) (Nat.succ_pos _) ?_))
  refine wpAny_letGo (wpAny_pure ?_)
  refine hq _ h.objs.size (fun b o hb hne => ?_) ?_
  · exact (Heap.get?_update_other _ _ (Ne.symm hne)).trans (Heap.get?_push_of_some _ hb)
  · exact Heap.get?_update_self _ he₁ rfl
end
end
open PySem PySem.W PySem.Calls PyProof.Rows Builtin Builtin.ObjectAttr
section
theorem fill3 : PySem.Challenge.rw_no0003_01 = PySem.Challenge.rw_no0003_01 ∧ hd.heap_39 = hd.heap_39 := by k_fill; exact ⟨rfl, rfl⟩
section
variable {prog : Program} {w : World} {M : Model} {A : Around} {E : Value → Shared → Prop} {h : Heap} {g : Array GenState} {d : Drawn} {t : Nat} {os : OsState}
theorem refuse_skip {self : Value} {what : Str} {n : String} {l : List Value} (hn1 : (n == "_thread._local") = false) (hn2 : (n == "_pickle.Pickler" || n == "_pickle.Unpickler") = false) (h : classOwn (.type n) what = pure none) :
    refuseLoop self what (.type n :: l) = refuseLoop self what l := by
  unfold refuseLoop
  simp only [List.forIn_cons, hn1, hn2, h]
  rfl
theorem refuse_exc (self : Value) : refuseLoop self "__setattr__" [.ref 67, .ref 47, .type "Exception", .type "BaseException", .type "object"] = pure () := by
  have h1 : classOwn (.type "Exception") "__setattr__" = pure none := by kernel_rfl
  have h2 : classOwn (.type "BaseException") "__setattr__" = pure none := by kernel_rfl
  rw [refuseLoop_ref, refuseLoop_ref, refuse_skip (n := "Exception") (by decide +kernel) (by decide +kernel) h1, refuse_skip (n := "BaseException") (by decide +kernel) (by decide +kernel) h2]
  exact PySem.F.store_object.passes self
noncomputable abbrev faultObj (tp de : Addr) : Obj := { cls := .ref 67, dict := some de, data := .fields #[.ref tp, .none, .none, .none, .bool false, .none] }
set_option maxHeartbeats 4000000 in
theorem fault_setattr {P : Params} {e tp : Addr} {v : Value} {Q : Unit → Shared → Prop} (X : (hd.heap_39 P).In h) (he : h.get? e = some (rawExc tp))
    (hq : ∀ h' de t', (∀ b o, h.get? b = some o → b ≠ e → h'.get? b = some o) → h'.get? e = some (faultObj tp de) → Q () ⟨h', g, d, t', os⟩) :
    wpAny (model prog w) A (setAttr (.ref e) (Str.ofString "what") v) Q E ⟨h, g, d, t, os⟩ := by
  have SF := PySem.F.store_object
  have hC := X 67 _ (by k_is)
  have t1 : Looks (model prog w) h (typeOf (.ref e)) (.ref 67) := (Looks.ld he).andThen .now
  have hs : Looks (model prog w) h (typeLookup (.ref 67) "__setattr__") (some (.builtin "object.__setattr__")) := looks_findIn X (by k_is)
  have sub : Looks (model prog w) h (isInstance (.ref e) (.type "object")) true := t1.andThen (looks_subIn X (by k_is))
  have hm : Looks (model prog w) h (mroOf (.ref 67)) _ := (looks_clsIn X (C := 67) (by k_is)).andThen .now
  have ha : Looks (model prog w) h (typeLookup (.ref 67) (Str.ofString "what")) none := looks_findIn X (by k_is)
  have L3 : Looks (model prog w) h (storeTaker? none) none := .now
  unfold setAttr callSpecial? specialOf
  repeat (first | with_reducible refine wpAny_call ?_ | lk | dsimp only)
  show codeAny _ _ (.call (.builtin "object.__setattr__") ⟨[.ref e, .str (Str.ofString "what") t, v], []⟩) _ _
  refine codeAny_call_builtin SF.slot.plain SF.entry (@check_slot (model prog w) _ _ ⟨h, g, d, t + 1, os⟩ "object.__setattr__" "object" "__setattr__" (.ref e) [.str (Str.ofString "what") t, v] [] _ SF.kind SF.split sub (SF.args (.ref e) (.str (Str.ofString "what") t) v) ?_)
  rw [osa_eq, refuse_eq]
  refine wpAny_bind (wpAny_bind (t1.at (wpAny_bind (hm.at ?_))))
  rw [refuse_exc]
  refine wpAny_pure (wpAny_bind (t1.at (wpAny_bind (ha.at (wpAny_bind (L3.at ?_))))))
  dsimp only
  unfold storeInOwnDict
  repeat (first | lk | dsimp only)
  have he₁ : (h.push emptyDict).get? e = some (rawExc tp) := Heap.get?_push_of_some _ he
  have hd₁ : (h.push emptyDict).get? h.objs.size = some emptyDict := Heap.get?_push_size _ rfl
  have hne : e ≠ h.objs.size := Nat.ne_of_lt (Heap.lt_size he)
  refine wpAny_update (s := ⟨h.push emptyDict, g, d, t + 1, os⟩) he₁ ?_
  have hd₂ : ((h.push emptyDict).update e fun o => { cls := o.cls, dict := some h.objs.size, data := o.data, slots := o.slots }).get? h.objs.size = some emptyDict := (Heap.get?_update_other _ _ hne).trans hd₁
  have he₂ : ((h.push emptyDict).update e fun o => { cls := o.cls, dict := some h.objs.size, data := o.data, slots := o.slots }).get? e = some (faultObj tp h.objs.size) := Heap.get?_update_self _ he₁ rfl
  generalize hh : ((h.push emptyDict).update e fun o => { cls := o.cls, dict := some h.objs.size, data := o.data, slots := o.slots }) = h2 at *
  repeat (first | lk | dsimp only)
  refine wpAny_updatePart (s := ⟨h2, g, d, t + 1 + 1, os⟩) hd₂ ?_
  generalize (if (Str.ofString "what").cps.isEmpty = true then (0 : Int) else reduceHash ((model prog w).w.params.strHash (Str.ofString "what").cps)) = hsh
  have hp : Obj.putName (Str.ofString "what") hsh (.str (Str.ofString "what") (t + 1)) v emptyDict = dictOf _ _ := putName_dict (Str.ofString "what") hsh (.str (Str.ofString "what") (t + 1)) v [] 0
  have hd₃ := Heap.get?_update_self (Obj.putName (Str.ofString "what") hsh (.str (Str.ofString "what") (t + 1)) v) hd₂ (by rw [hp]; rfl)
  rw [hp] at hd₃
  refine wpAny_bind (wpAny_lookBehind (s := ⟨_, g, d, t + 1 + 1, os⟩) hd₃ (pastItsLine_dict (by rw [sizeLine_eq]; simp [putL])) ?_)
  refine wpAny_pure (wpAny_pure (wpAny_pure ?_))
  refine hq _ h.objs.size (t + 1 + 1) (fun b o hb hbe => ?_) ((Heap.get?_update_other _ _ (Ne.symm hne)).trans he₂)
  refine (Heap.get?_update_other _ _ (Nat.ne_of_gt (Heap.lt_size hb))).trans ?_
  subst hh
  exact (Heap.get?_update_other _ _ (Ne.symm hbe)).trans (Heap.get?_push_of_some _ hb)
end
end
section
example : True := by w_top off; trivial
local macro_rules | `(tactic| walk_at "x_pad0") => `(tactic| skip)
theorem fill2 : PySem.Challenge.rw_no0003_01 = PySem.Challenge.rw_no0003_01 ∧ hd.heap_39 = hd.heap_39 := by k_fill; exact ⟨rfl, rfl⟩
section
variable {prog : Program} {w : World} {A : Around} {base : Heap} {l : List Env} {s : Shared} {news : List (Addr × Obj)} {K : Frag} {R : Result → Shared → Prop} {name qual : Str} {params : Arguments} {body : List Stmt} {scope : Scope}
  {dV kV doc pm cdv ct oc : Value} {an od : Option Addr} {osl : Array (Option Value)} {f cc : Addr} {args : Args} {binds : List (Str × Value)} {p : Program} {loose : List Str} {mean : ExcName → Option Value} {mg mb : Str → Option Value}
theorem enterS (B : Below A base l s.heap) (X : K.In base) (N : Led base l s.heap news) (T : Top p loose mean mg mb base)
    (ho : K.lookup f = some ⟨oc, od, .func (ksFn name qual params body scope dV kV doc pm an cdv ct cc), osl⟩) (hcd : codeIn K cdv qual = true) (hroom : A.depth < recursionLimit)
    (hbind : BindsTo s (ksFn name qual params body scope dV kV doc pm an cdv ct cc) args binds) (hloc : ∀ y ∈ binds, scope.names.lookup y.1 = some .local)
    (h : ∀ g L' h₁, Fr g L' h₁ (fun y => binds.reverse.lookup y) → News g L' h₁ news → Below A base l g → K.In g → Top p loose mean mg mb g → Kept s.heap g (news.map (·.1)) → g.StaysIn s.heap → (∀ p ∈ news, p.1 < L') → s.heap.get? L' = none →
      _root_.PySem.wpAt (model prog w) (A.deeper (ksEnv qual scope L' f cdv cc)) (.func body (ksEnv qual scope L' f cdv cc)) (execs body (ksEnv qual scope L' f cdv cc))
        (fun fl s' => Done R (match fl with | .ret v => v | _ => .none) s')
        (fun e s' => wpAny (model prog w) (A.deeper (ksEnv qual scope L' f cdv cc)) (leaving (ksEnv qual scope L' f cdv cc) e) (fun _ s'' => R (.error e) s'') (fun e' s'' => R (.error e') s'') s')
        { s with heap := h₁, toks := s.toks + binds.length })
    (hco : scope.isCoroutine = false) (hgen : scope.isGenerator = false) (hk : scope.kind = .function)
    (hcell : ∀ x ∈ scope.names, x.2 ≠ .cell) : codeAny (model prog w) A (.call (.ref f) args) R s := by
  obtain ⟨BG, st⟩ := ground B N
  have X' := X.keeps B.stays
  refine ks_codeAny_call_defAt (fd := ksFn name qual params body scope dV kV doc pm an cdv ct cc) (body := body) (binds := binds) hroom (X' _ _ ho) rfl (T.nolimit.keeps B.stays) (codeRec_of X' hcd) rfl hbind hcell hloc (fun h₁ hns hk₁ => ?_) hco hgen hk
  exact ks_wpAt_mono (h _ s.heap.objs.size h₁ ⟨hns, fun b o e => hk₁ b o (of_hideAll _ e), Nat.le_of_eq (hideAll_size _ _)⟩
    (fun p hp => ⟨hk₁ _ _ (N p hp).1, Nat.ne_of_lt (Heap.lt_size (N p hp).1), hideAll_none _ (List.mem_map_of_mem hp)⟩) BG (X.keeps st) (T.keeps st) (fun b o e n => hideAll_get _ e n) (fun b o e => of_hideAll _ e) (fun p hp => Heap.lt_size (N p hp).1) (Heap.get?_none_of_le (Nat.le_refl _)))
    (fun fl s' hl => hl.1) fun _ _ y => y
end

theorem callWith_mw {M : Model} {A : Around} {E : Value → Shared → Prop} {s : Shared} {env : Env} {pos : Pos} {first : List Value} {Q : Value → Shared → Prop} {q x : Addr} {e : Expr} {rest : List Expr}
    (h : wpAny M A (spliced (backTo pos (starEach (e :: rest) env))) (fun vs s₁ => s₁.heap.get? q = some (mwObj x) ∧ wpAny M A (call (.ref q) (first ++ vs)) Q E s₁) E s)
    (he : starEach (e :: rest) env = (false, eval e env) :: starEach rest env := by rfl) (hplain : (backTo pos (starEach rest env)).any (·.1) = false := by rfl) :
    wpAny M A (callWith pos (.ref q) first (backTo pos (starEach (e :: rest) env)) []) Q E s := by
  rw [he] at h ⊢
  exact callWith_of (P := fun h => h.get? q = some (mwObj x)) (by show ((false || (backTo pos (starEach rest env)).any (·.1)) || false) = false; rw [hplain]; rfl)
    (fun h hp => ⟨.machine, .inr (.inl rfl), (Looks.ld (part := none) hp).andThen .now⟩) (evalArgs_plain h)
set_option maxHeartbeats 4000000 in
theorem fault_init {prog : Program} {w : World} {base : Heap} {l : List Env} {A : Around} {s : Shared} {p : Program} {loose : List Str} {mean : ExcName → Option Value} {mg mb : Str → Option Value}
    {e tp : Addr} {y : Str} {t : Tok} {R : Result → Shared → Prop}
    (X : (hd.heap_39 w.params).In base) (T : Top p loose mean mg mb base) (B : Below A base l s.heap)
    (hdp : A.depth ≤ 700) (hprog : (prog.main.file : Str) = "/claim/cut.py") (hsup : (prog.main.scope.names.lookup ("super" : Str)).isSome = false)
    (N : Led base l s.heap [(e, rawExc tp)])
    (hq : ∀ h' tp' de tk', Kept s.heap h' [e] → h'.get? e = some (faultObj tp' de) → R (.ok (.ret .none)) { s with heap := h', toks := tk' }) :
    codeAny (model prog w) A (.call (.ref 37) ⟨[.ref e, .str y t], []⟩) R s := by
  k_dflt (refine' enterS (binds := [("self", .ref e), ("what", .str y t)]) ?k1 ?k2 ?k3 ?k4 ?k6 ?k7 ?k8 ?k9 ?kB ?_ ?c2 ?c3 ?c4 ?c5; ((case k1 => assumption); (case k2 => assumption); (case k3 => assumption); (case k4 => assumption); (case k6 => k_is); (case k7 => k_is); (case k8 => k_room); (case k9 => exact BindsTo.of_eq rfl); (case c5 => decide); (case kB => exact locs rfl); (case c2 => exact rfl); (case c3 => exact rfl); (case c4 => exact rfl)))
  intro g' L' h' F' N' B' X' T' kG' gS' l1 nL
  (try k_lt l1)
  (try dsimp only); 
  refine ks_wpAt_execs_cons ?_
  refine ks_wpAt_Expr_any ?_
  refine ks_wpAt_MethodCall ?_
  have I : InstAt h' e (rawExc tp) 67 none := ⟨(N' _ (.head _)).1, rfl, rfl, True.intro⟩
  k_dflt (refine ks_node (C := 67) (by k_asm) (by k_asm) (by k_asm) (by k_asm) (by k_is) (by rfl) (by rfl) I (by k_is) (by rfl) (by rw [hprog]; decide +kernel) (by k_is) (by k_is) (by k_is) (by k_is) (by decide) (by rfl) (by rfl) (by rfl) (by rfl) hsup (by first | boot_by_name | rfl | kernel_rfl) ?_)
  intro so h2 F2 N2 l2
  have hC := X 67 _ (by k_is)
  have hne : e ≠ 67 := fun q => by
    have h1 := (N (e, rawExc tp) (.head _)).2.1
    rw [show (e, rawExc tp).1 = 67 from q, hC] at h1
    cases h1
  refine super_method_b (X'.keeps F2.keep) (N2 (so, ks_superObj 47 e 67) (.head _)).1 (N2 (e, rawExc tp) (.tail _ (.head _))).1 rfl hne ?_
  have F3 := F2.push (mwObj e)
  have N3 := N2.push F2 (mwObj e)
  refine callWith_mw (x := e) ?_
  dsimp only
  (repeat' (first | ((fail_if_success (with_reducible show Done _ _ _)); (first | (k_unfold; (try dsimp only)) | (k_end; wrow_close) | walk1 | (dsimp only; walk1) | (leave1; walk_say "STEP leave1"; try dsimp only)))))
  · exact (N3 _ (.head _)).1
  refine mw_call (X'.keeps F3.keep) (N3 (_, mwObj e) (.head _)).1 (N3 (e, rawExc tp) (.tail _ (.tail _ (.head _)))).1 fun h4 t4 hk4 he4 => ?_
  have F4 := frBut F3 hk4 (N3 (e, rawExc tp) (.tail _ (.tail _ (.head _)))).2.2 (N3 (e, rawExc tp) (.tail _ (.tail _ (.head _)))).2.1
  have N4 : News g' L' h4 [(e, rawExc t4)] := fun p hp => by
    cases hp with
    | head => exact ⟨he4, (N3 (e, rawExc tp) (.tail _ (.tail _ (.head _)))).2⟩
    | tail _ h => cases h
  refine PySem.wpAt_of_wpAny ?_
  (repeat' (first | ((fail_if_success (with_reducible show Done _ _ _)); (first | (k_unfold; (try dsimp only)) | (k_end; wrow_close) | walk1 | (dsimp only; walk1) | (leave1; walk_say "STEP leave1"; try dsimp only)))))
  have F4' := (by assumption : Fr g' L' h4 _)
  refine fault_setattr (X'.keeps F4.keep) he4 fun h5 de t5 hk5 he5 => ?_
  have F5 := frBut F4 hk5 (N4 (e, rawExc t4) (.head _)).2.2 (N4 (e, rawExc t4) (.head _)).2.1
  have N5 : News g' L' h5 [(e, faultObj t4 de)] := fun p hp => by
    cases hp with
    | head => exact ⟨he5, (N4 (e, rawExc t4) (.head _)).2⟩
    | tail _ h => cases h
  dsimp only
  (repeat' (first | ((fail_if_success (with_reducible show Done _ _ _)); (first | (k_unfold; (try dsimp only)) | (k_end; wrow_close) | walk1 | (dsimp only; walk1) | (leave1; walk_say "STEP leave1"; try dsimp only)))))
  exact .mk (hq _ _ _ _ (keptOf kG' F5) he5)
end
section
theorem belowGrow {A A' : Around} {base h h' : Heap} {l : List Env} (B : Below A base l h) (hs : A'.frames = A.frames) (k : ∀ b o, h.get? b = some o → h'.get? b = some o) : Below A' base l h' :=
  ⟨hs.trans B.stack, fun b o e => k b o (B.stays b o e), B.frames.of_keeps fun b o e _ => ⟨o, k b o e, rfl⟩⟩
theorem base_none {A : Around} {base h : Heap} {l : List Env} (B : Below A base l h) {e : Addr} (he : h.objs.size ≤ e) : base.get? e = none := by
  cases q : base.get? e with
  | none => rfl
  | some o => exact absurd (Heap.lt_size (B.stays _ _ q)) (Nat.not_lt.mpr he)
theorem frames_not {A : Around} {base h : Heap} {l : List Env} (B : Below A base l h) {e : Addr} (he : h.objs.size ≤ e) : e ∉ l.filterMap (·.frame) := fun hm => by
  obtain ⟨_, o, ho, _⟩ := B.frames.mem hm
  exact absurd (Heap.lt_size ho) (Nat.not_lt.mpr he)

set_option maxHeartbeats 4000000 in
theorem fault_spec {prog : Program} {w : World} {base : Heap} {l : List Env} {A : Around} {s : Shared} {p : Program} {loose : List Str} {mean : ExcName → Option Value} {mg mb : Str → Option Value}
    {y : Str} {t : Tok} {Q E : Value → Shared → Prop}
    (X : (hd.heap_39 w.params).In base) (T : Top p loose mean mg mb base) (B : Below A base l s.heap)
    (hdp : A.depth ≤ 690) (hprog : (prog.main.file : Str) = "/claim/cut.py") (hsup : (prog.main.scope.names.lookup ("super" : Str)).isSome = false)
    (hq : ∀ h' e tp de tk', (∀ b o, s.heap.get? b = some o → h'.get? b = some o) → s.heap.get? e = none → h'.get? e = some (faultObj tp de) → Q (.ref e) { s with heap := h', toks := tk' }) :
    wpAny (model prog w) A (call (.ref 67) [.str y t]) Q E s := by
  obtain ⟨h, g, d, tk, os⟩ := s
  refine wpAny_call (fault_core (X.keeps B.stays) (by rw [sizeLine_eq]; exact Nat.le_of_ble_eq_true rfl) ?_)
  have k : ∀ b o, h.get? b = some o → ((h.push (tupObj [.str y t])).push (rawExc h.objs.size)).get? b = some o := fun b o e => Heap.get?_push_of_some _ (Heap.get?_push_of_some _ e)
  have hx : ((h.push (tupObj [.str y t])).push (rawExc h.objs.size)).get? (h.objs.size + 1) = some (rawExc h.objs.size) := by heap_get
  refine fault_init (tp := h.objs.size) X T (belowGrow (A' := A.under _) B rfl k) ?_ hprog hsup (fun p hp => ?_) fun h' tp' de tk' kk he => ?_
  · simp only [depth_under_make]; omega
  · cases hp with
    | head => exact ⟨hx, base_none B (Nat.le_succ _), frames_not B (Nat.le_succ _)⟩
    | tail _ h => cases h
  · refine ⟨rfl, hq h' (h.objs.size + 1) tp' de tk' (fun b o hb => kk b o (k b o hb) ?_) (Heap.get?_none_of_le (Nat.le_succ _)) he⟩
    intro hm
    have := List.mem_singleton.mp hm
    exact absurd (Heap.lt_size hb) (by rw [this]; exact Nat.not_lt.mpr (Nat.le_succ _))
end
section
theorem fill5 : PySem.Challenge.rw_no0003_01 = PySem.Challenge.rw_no0003_01 ∧ hd.heap_39 = hd.heap_39 := by k_fill; exact ⟨rfl, rfl⟩
section
variable {M : Model} {A : Around} {E : Value → Shared → Prop} {env : Env}
set_option maxHeartbeats 1000000 in
theorem raiseStmt_fault {P : Params} {s : Shared} {x : Sem Value} {Q : Flow → Shared → Prop} (hh : A.handled = none)
    (h : wpAny M A x (fun v s₁ => ∃ e tp de, v = .ref e ∧ (hd.heap_39 P).In s₁.heap ∧ s₁.heap.get? e = some (faultObj tp de) ∧ E (.ref e) s₁) E s) :
    wpAny M A (raiseStmt env (some x) none) Q E s := by
  unfold raiseStmt
  refine wpAny_bind (wpAny_mono h (fun v s₁ h₁ => ?_) fun _ _ x => x)
  obtain ⟨e, tp, de, rfl, X, he, hE⟩ := h₁
  obtain ⟨hp, g, d, tk, os⟩ := s₁
  have hC := X 67 _ (by k_is)
  have hs := (fault_cls (M := M) X).sB
  have t1 : Looks M hp (typeOf (.ref e)) (.ref 67) := (Looks.ld he).andThen .now
  repeat (first | lk | dsimp only | simp only [Bool.false_eq_true, if_false, Bool.not_true])
  refine wpAny_handled ?_
  rw [hh]
  exact wpAny_throw hE
theorem exec_raise {s : Shared} {x : Expr} {pos : Pos} {Q : Flow → Shared → Prop} (h : wpAny M A (raiseStmt env (some (eval x env >>= fun v => standAt pos >>= fun _ => pure v)) none) Q E s) : wpAny M A (exec (.Raise (some x) none pos) env) Q E s := by
  rw [arm_exec_Raise]
  refine wpAny_bind (wpAny_standAt ?_)
  exact h
end
end
section
/-- what a call leaves that has raised, or has caught what was raised: all stands, the frames up to their slots -/
noncomputable def Flown (l : List Env) (h₀ h' : Heap) : Prop :=
  (∀ b o, h₀.get? b = some o → b ∉ l.filterMap (·.frame) → h'.get? b = some o) ∧ h₀.UpToSlots h'
noncomputable def RaisedX (base : Heap) (l : List Env) (h₀ : Heap) (e : Addr) (h' : Heap) : Prop :=
  ∃ B a0, base.StaysIn B ∧ (∀ b o, h₀.get? b = some o → b ∉ l.filterMap (·.frame) → B.get? b = some o) ∧ Heap.FlyingW B l e (.ref 67) a0 h' ∧ h₀.UpToSlots h'
theorem RaisedX.flown {base h₀ h' : Heap} {l : List Env} {e : Addr} (R : RaisedX base l h₀ e h') : Flown l h₀ h' := by
  obtain ⟨B, a0, hB, hB0, hfl, hsm⟩ := R
  exact ⟨fun b o e n => hfl.1 b o (hB0 b o e n), hsm⟩
theorem mem_frames {env : Env} {l : List Env} {L b : Addr} (hf : env.frame = some L) (hm : b ∈ (env :: l).filterMap (·.frame)) : b = L ∨ b ∈ l.filterMap (·.frame) := by
  obtain ⟨env', he, hf'⟩ := List.mem_filterMap.mp hm
  rcases List.mem_cons.mp he with rfl | he
  · exact .inl (Option.some.inj (hf.symm.trans hf')).symm
  · exact .inr (List.mem_filterMap.mpr ⟨env', he, hf'⟩)
section
variable {M : Model} {A : Around} {E : Value → Shared → Prop} {s' : Shared} {base g h s0 : Heap} {l : List Env} {L e tp de : Addr} {m : Str → Option Value} {env : Env} {Q : Unit → Shared → Prop}
theorem leave1 (K : Below A base l g) (hf : env.frame = some L) (hke : env.scope.kind = .function) (F : Fr g L h m) (hk : ∀ b o, s0.get? b = some o → h.get? b = some o) (hL : s0.get? L = none)
    (hnew : ∀ b o, h.get? b = some o → s'.heap.get? b = some o) (hen : h.get? e = none) (he : s'.heap.get? e = some (faultObj tp de))
    (hQ : ∀ h', RaisedX base l s0 e h' → Q () { s' with heap := h' }) : wpAny M (A.deeper env) (leaving env (.ref e)) Q E s' := by
  have K' := pushX K F hf hke
  have hin : ∀ env' ∈ (env :: l), ∀ b, env'.frame = some b → b ∈ (env :: l).filterMap (·.frame) := fun env' he b hb => List.mem_filterMap.mpr ⟨env', he, hb⟩
  have st : base.StaysIn (hideAll h ((env :: l).filterMap (·.frame))) := fun b o q => hideAll_get _ (K'.stays b o q) fun hm => by
    rw [(K'.frames.mem hm).1] at q; cases q
  have hen' : (hideAll h ((env :: l).filterMap (·.frame))).get? e = none := by
    cases q : (hideAll h ((env :: l).filterMap (·.frame))).get? e with
    | none => rfl
    | some o => have := of_hideAll _ q; rw [hen] at this; cases this
  refine wpAny_leaving_firstW (a0 := .ref tp) K'.stack ((funFrames_hide K'.frames hin).of_keeps fun b o hb _ => ⟨o, hnew b o hb, rfl⟩) hf he (fun b o hb => hnew b o (of_hideAll _ hb)) hen' rfl rfl rfl fun h' hL' => ?_
  obtain ⟨k1, ⟨_, _, k2⟩, k3, k4⟩ := hL'
  refine hQ h' ⟨_, .ref tp, st, fun b o hb nm => hideAll_get _ (hk b o hb) fun hm => ?_, ⟨k1, hen', k2, k3⟩, ((Heap.UpToSlots.of_keeps hk).trans (Heap.UpToSlots.of_keeps hnew)).trans k4⟩
  rcases mem_frames hf hm with z | z
  · rw [z, hL] at hb; cases hb
  · exact nm z
theorem leave2 (K : Below A base l g) (hf : env.frame = some L) (hke : env.scope.kind = .function) (F : Fr g L h m) (hk : ∀ b o, s0.get? b = some o → h.get? b = some o) (hL : s0.get? L = none)
    (R : RaisedX base (env :: l) h e s'.heap) (hQ : ∀ h', RaisedX base l s0 e h' → Q () { s' with heap := h' }) : wpAny M (A.deeper env) (leaving env (.ref e)) Q E s' := by
  obtain ⟨B, a0, hB, hB0, hfl, hsm⟩ := R
  refine wpAny_leaves_onW (Around.frames_deeper K.stack) hf hfl fun h' x1 x2 => hQ h' ⟨B, a0, hB, fun b o hb nm => hB0 b o (hk b o hb) fun hm => ?_, x1, ((Heap.UpToSlots.of_keeps hk).trans hsm).trans x2⟩
  rcases mem_frames hf hm with z | z
  · rw [z, hL] at hb; cases hb
  · exact nm z

/-- the ground anew, behind a call that has flown -/
theorem ground_flown {h₅ : Heap} (K : Below A base l g) (hf : env.frame = some L) (F : Fr g L h m) (hfl : Flown (env :: l) h h₅) :
    ∃ g', KtsTurn (l.filterMap (·.frame)) g g' ∧ Fr g' L h₅ m ∧ Below A base l g' := by
  obtain ⟨hB, hsm⟩ := hfl
  obtain ⟨T, S⟩ := kts_turn_at (h := h₅) (fs := l.filterMap (·.frame)) (g := g)
    (fun b hb => by
      obtain ⟨_, o, ho, _⟩ := K.frames.mem hb
      exact ⟨o, ho⟩)
    (fun b o e nm => hB b o (F.keep b o e) (fun hm => by
      rcases mem_frames hf hm with z | z
      · rw [z, kts_self F] at e
        cases e
      · exact nm z))
    (fun b o e hm => by
      obtain ⟨_, o', ho', hd⟩ := K.frames.mem hm
      rw [e] at ho'
      cases ho'
      exact hsm b o (F.keep b o e) hd)
  refine ⟨_, T, ⟨hsm.ns F.ns, S, by rw [T.size]; exact F.above⟩, ⟨K.stack, fun b o e => T.other b o (K.stays b o e) (fun hm => by
    rw [(K.frames.mem hm).1] at e
    cases e), K.frames.of_keeps fun b o e _ => ?_⟩⟩
  obtain ⟨sl, hs⟩ := T.up e
  exact ⟨_, hs, rfl⟩
theorem news_flown {h₅ g' : Heap} {news : List (Addr × Obj)} (K : Below A base l g) (hf : env.frame = some L) (N : News g L h news) (T : KtsTurn (l.filterMap (·.frame)) g g') (hfl : Flown (env :: l) h h₅) : News g' L h₅ news := fun p hp => by
  refine ⟨hfl.1 _ _ (N p hp).1 fun hm => ?_, (N p hp).2.1, T.none_ _ (N p hp).2.2⟩
  rcases mem_frames hf hm with z | z
  · exact (N p hp).2.1 z
  · obtain ⟨_, o, ho, _⟩ := K.frames.mem z
    rw [(N p hp).2.2] at ho; cases ho
end
section
variable {prog : Program} {w : World} {A₀ : Around} {E : Value → Shared → Prop} {s' : Shared} {g h base : Heap} {outer : List Env} {L a e : Addr} {m : Str → Option Value} {name : Str} {scope : Scope} {cd : Value}
  {b₀ : Stmt} {suite : List Stmt} {pos np : Pos} {rest : List ExceptHandler} {Q : Flow → Shared → Prop} {P : Params}
  {p : Program} {loose : List Str} {mean : ExcName → Option Value} {mg mb : Str → Option Value}
theorem fill6 : PySem.Challenge.rw_no0003_01 = PySem.Challenge.rw_no0003_01 ∧ hd.heap_39 = hd.heap_39 := by k_fill; exact ⟨rfl, rfl⟩
theorem caughtX (R : RaisedX base (envOf name scope L a cd :: outer) h e s'.heap) (F : Fr g L h m) (K : Below A₀ base outer g) (XB : (hd.heap_39 P).In base) (TB : Top p loose mean mg mb base)
    (k : ∀ h', Flown (envOf name scope L a cd :: outer) h h' →
      wpAny (model prog w) ((A₀.deeper (envOf name scope L a cd)).mark (some (.ref e))) (execs (b₀ :: suite) (envOf name scope L a cd)) Q E { s' with heap := h' })
    (hk : scope.kind = .function) (hx : (envOf name scope L a cd).kindOf "CommandFault" = some .globalImplicit)
    (hE : PassesOwnAt (model prog w) ((A₀.deeper (envOf name scope L a cd)).mark (some (.ref e))) (A₀.deeper (envOf name scope L a cd)) (envOf name scope L a cd) E) :
    wpAny (model prog w) (A₀.deeper (envOf name scope L a cd)) (noteFrame (.ref e) (envOf name scope L a cd))
      (fun _ s₂ => wpAny (model prog w) (A₀.deeper (envOf name scope L a cd)) (setFlight (.ref e) none) (fun _ s₃ =>
        wpAny (model prog w) (A₀.deeper (envOf name scope L a cd)) (handleBy (.ref e) (envOf name scope L a cd) (.ExceptHandler (some (.Name "CommandFault" np)) none (b₀ :: suite) pos :: rest)) Q E s₃) E s₂) E s' := by
  obtain ⟨B, a0, hB, hBG, hfl, hsm⟩ := R
  refine wpAny_looks_onW (Around.frames_deeper K.stack) rfl hfl fun h₄ hheld₄ hsm₄ => ?_
  refine wpAny_landsW hheld₄ fun h₅ hheld hsm₅' => ?_
  have hsm₅ := hsm₄.trans hsm₅'
  obtain ⟨g₅, T₅, F₅, K₅⟩ := kts_ground K F hBG hheld.1 (hsm.trans hsm₅)
  have X₅ : (hd.heap_39 P).In g₅ := XB.keeps K₅.stays
  have P₅ : TopRead p loose mg mb g₅ := topRead_of (TB.keeps K₅.stays)
  obtain ⟨ob, hob, hobc⟩ := hheld.there
  obtain ⟨nm, q', N, bs, bm, hdct, sn, sub, ab, col, dd, k0, k1, k2, k3, k5, newId, hC, hbase, hbT⟩ := kts_cls (C := 67) (T := "BaseException") X₅ (by kernel_rfl)
  have hC₅ := F₅.keep _ _ hC
  refine wpAny_handleBy_cons (codeAny_handlers_test (name_K F₅ X₅ P₅ (v := .ref 67) (by k_is) ?_ hk hx (by decide))) (by intro q; cases q)
  refine wpAny_excMatches_sub_self hC₅ hob hobc hbase (codeAny_handlers_suite ?_)
  refine lands_againW hheld fun h₆ hfl₆ hsm₆ => ?_
  exact wpAny_passesOwnAt hE (k h₆ ⟨fun b o e n => hfl₆.1 b o (hBG b o e n), (hsm.trans hsm₅).trans hsm₆⟩)
end
end
section
inductive FaultV (P : Params) (E : Value → Shared → Prop) (v : Value) (s : Shared) : Prop
  | mk (e tp de : Addr) (hv : v = .ref e) (X : (hd.heap_39 P).In s.heap) (he : s.heap.get? e = some (faultObj tp de)) (hE : E (.ref e) s)
theorem exec_raise2 {prog : Program} {w : World} {A : Around} {E : Value → Shared → Prop} {env : Env} {s : Shared} {x : Expr} {pos : Pos} {Q : Flow → Shared → Prop} (hh : A.handled = none)
    (h : wpAny (model prog w) A (eval x env) (FaultV w.params E) E s) : wpAny (model prog w) A (exec (.Raise (some x) none pos) env) Q E s :=
  exec_raise (raiseStmt_fault (P := w.params) hh (wpAny_bind (wpAny_mono h (fun v s₁ h₁ => wpAny_bind (wpAny_standAt (wpAny_pure (by
    obtain ⟨e, tp, de, hv, X, he, hE⟩ := h₁
    exact ⟨e, tp, de, hv, X, he, hE⟩)))) fun _ _ x => x)))
theorem allKept {base g h s0 : Heap} {l : List Env} {L : Addr} {m : Str → Option Value} {news : List (Addr × Obj)} (N : Led base l s0 news) (kG : Kept s0 g (news.map (·.1))) (F : Fr g L h m) (N' : News g L h news) :
    ∀ b o, s0.get? b = some o → h.get? b = some o := fun b o e => by
  by_cases hb : b ∈ news.map (·.1)
  · obtain ⟨p, hp, rfl⟩ := List.mem_map.mp hb
    have h1 := (N p hp).1
    rw [e] at h1
    cases h1
    exact (N' p hp).1
  · exact F.keep b o (kG b o e hb)
theorem len_led {prog : Program} {w : World} {A : Around} {E : Value → Shared → Prop} {s : Shared} {h₀ : Heap} {L l : Addr} {news : List (Addr × Obj)} {its : Array Value} {n : Nat} {Q : Value → Shared → Prop} (N : News h₀ L s.heap news) (hm : (l, listOf its n) ∈ news)
    (hfit : (its.size : Int) < 2 ^ 63) (h : Q (.int its.size (s.toks + 1)) { s with toks := s.toks + 1 + 1 }) : wpAny (model prog w) A (call (.builtin "len") [.ref l]) Q E s :=
  call_len_list ⟨_, (N _ hm).1, rfl, n, rfl⟩ hfit h
end
section
theorem lits : Str.empty.length = 0 ∧ (Str.ofString "the name ").length ≤ 100 ∧ (Str.ofString " stands already").length ≤ 100 ∧ (Str.ofString "the switch of ").length ≤ 100 ∧ (Str.ofString " is that of another name").length ≤ 100 ∧ (Str.ofString "no assertion is named ").length ≤ 100 := by decide +kernel
end
section
/-- the addresses are no frame's, and not the ground's -/
noncomputable def Off (base : Heap) (l : List Env) (adr : List Addr) : Prop := ∀ b ∈ adr, base.get? b = none ∧ b ∉ l.filterMap (·.frame)
theorem led_of {base h : Heap} {l : List Env} {news : List (Addr × Obj)} (o : Off base l (news.map (·.1))) (k : ∀ p ∈ news, h.get? p.1 = some p.2) : Led base l h news := fun p hp => ⟨k p hp, o _ (List.mem_map_of_mem hp)⟩
theorem strsAre_length {vs : List Value} {xs : List Str} (h : StrsAre vs xs) : vs.length = xs.length := by induction h with | nil => rfl | cons _ _ _ ih => simp [ih]
theorem strsAre_append {vs us : List Value} {xs ys : List Str} (h : StrsAre vs xs) (g : StrsAre us ys) : StrsAre (vs ++ us) (xs ++ ys) := by induction h with | nil => exact g | cons y t _ ih => exact .cons y t ih
theorem intsAre_append {vs us : List Value} {xs ys : List Int} (h : IntsAre vs xs) (g : IntsAre us ys) : IntsAre (vs ++ us) (xs ++ ys) := by induction h with | nil => exact g | cons y t _ ih => exact .cons y t ih
theorem strsAre_push {vs : Array Value} {xs : List Str} (h : StrsAre vs.toList xs) (y : Str) (t : Tok) : StrsAre (vs.push (.str y t)).toList (xs ++ [y]) := by
  rw [Array.toList_push]; exact strsAre_append h (.cons y t .nil)
theorem intsAre_push {vs : Array Value} {xs : List Int} (h : IntsAre vs.toList xs) (y : Int) (t : Tok) : IntsAre (vs.push (.int y t)).toList (xs ++ [y]) := by
  rw [Array.toList_push]; exact intsAre_append h (.cons y t .nil)
end
section
theorem strsAre_snoc {vs : List Value} {xs : List Str} {x : Str} (h : StrsAre vs (xs ++ [x])) : ∃ us t, vs = us ++ [.str x t] ∧ StrsAre us xs := by
  induction xs generalizing vs with
  | nil => cases h with | cons y t h' => cases h'; exact ⟨[], t, rfl, .nil⟩
  | cons y xs ih =>
    simp only [List.cons_append] at h
    cases h with
    | cons _ t h' =>
      obtain ⟨us, t', rfl, h2⟩ := ih h'
      exact ⟨.str y t :: us, t', rfl, .cons y t h2⟩
theorem intsAre_snoc {vs : List Value} {xs : List Int} {x : Int} (h : IntsAre vs (xs ++ [x])) : ∃ us t, vs = us ++ [.int x t] ∧ IntsAre us xs := by
  induction xs generalizing vs with
  | nil => cases h with | cons y t h' => cases h'; exact ⟨[], t, rfl, .nil⟩
  | cons y xs ih =>
    simp only [List.cons_append] at h
    cases h with
    | cons _ t h' =>
      obtain ⟨us, t', rfl, h2⟩ := ih h'
      exact ⟨.int y t :: us, t', rfl, .cons y t h2⟩
theorem arr_of {v : Array Value} {l : List Value} (h : v.toList = l) : v = l.toArray := by rw [← h]
end
open PySem PySem.W PySem.Calls PyProof.Rows PyProof.Rows.LCg PyProof.Rows.LCt PyProof.Rows.LCp
section
section
variable {prog : Program} {w : World} {A : Around} {s : Shared} {h₀ : Heap} {L : Addr} {m : Str → Option Value} {env : Env} {elt ct : Expr} {x x₂ : Str} {scope : Scope} {cl : List (Str × Addr)} {S : List (Addr × Obj) → Prop} {P : Nat → Value → Prop}
  {Fin : List Value → List (Addr × Obj) → Prop} {n : Nat}
theorem restU (J : Nat → List Value → List (Addr × Obj) → Prop)
    (turn : ∀ i ys news v I oI C oC D m₂ h tk (E' : Value → Shared → Prop), i < n → J i ys news → P i v → NsObj oC m₂ → m₂ x = some v → Fr h₀ L h m → News h₀ L h ((I, oI) :: (C, oC) :: (D, lst ys) :: news) → Off3 I C D news → ((@Ne Nat I C) ∧ (@Ne Nat I D) ∧ (@Ne Nat C D)) →
      wpAny (model prog w) A (eval elt (compEnvC scope cl C env)) (CompEnd h₀ L m { s with heap := h, toks := tk } I oI C oC D (lst ys) S (fun y news' => J (i + 1) (ys ++ [y]) news')) E' { s with heap := h, toks := tk })
    (fin : ∀ ys news, J n ys news → Fin ys news) : ∀ k i ys news, i + k = n → J i ys news → CompRest prog w A h₀ L m env elt x scope cl s S P Fin k i ys news
  | 0, i, ys, news, e, hJ => by
    have : i = n := e
    subst this
    exact fin _ _ hJ
  | k + 1, i, ys, news, e, hJ => .succ fun v I oI C oC D m₂ h tk E' hP hC hx F N off ne =>
    wpAny_mono (turn i ys news v I oI C oC D m₂ h tk E' (upA e) hJ hP hC hx F N off ne)
      (fun y s' ⟨h', tk', news', e', F', N', off', hS, r⟩ => ⟨h', tk', news', e', F', N', off', hS, restU J turn fin k (i + 1) _ _ (upB e) r⟩) fun _ _ e => e
theorem restT (J : Nat → List Value → List (Addr × Obj) → Prop)
    (turn : ∀ i ys news v I oI C oC D m₂ h tk (E' : Value → Shared → Prop), i < n → J i ys news → P i v → NsObj oC m₂ → m₂ x = some v → Fr h₀ L h m → News h₀ L h ((I, oI) :: (C, oC) :: (D, lst ys) :: news) → Off3 I C D news → ((@Ne Nat I C) ∧ (@Ne Nat I D) ∧ (@Ne Nat C D)) →
      wpAny (model prog w) A (isTrue ct (compEnvC scope cl C env) (eval ct (compEnvC scope cl C env))) (fun ok s' => if ok = true then
        wpAny (model prog w) A (eval elt (compEnvC scope cl C env)) (CompEnd h₀ L m { s with heap := h, toks := tk } I oI C oC D (lst ys) S (fun y news' => J (i + 1) (ys ++ [y]) news')) E' s'
        else CompEnd h₀ L m { s with heap := h, toks := tk } I oI C oC D (lst ys) S (fun _ news' => J (i + 1) ys news') Value.none s') E' { s with heap := h, toks := tk })
    (fin : ∀ ys news, J n ys news → Fin ys news) : ∀ k i ys news, i + k = n → J i ys news → CompRestT prog w A h₀ L m env ct elt x scope cl s S P Fin k i ys news
  | 0, i, ys, news, e, hJ => by
    have : i = n := e
    subst this
    exact fin _ _ hJ
  | k + 1, i, ys, news, e, hJ => .succ fun v I oI C oC D m₂ h tk E' hP hC hx F N off ne =>
    wpAny_mono (turn i ys news v I oI C oC D m₂ h tk E' (upA e) hJ hP hC hx F N off ne)
      (fun ok s' q => by
        cases ok with
        | true =>
          simp only [if_true] at q ⊢
          exact wpAny_mono q (fun y s' ⟨h', tk', news', e', F', N', off', hS, r⟩ => ⟨h', tk', news', e', F', N', off', hS, restT J turn fin k (i + 1) _ _ (upB e) r⟩) fun _ _ e => e
        | false =>
          simp only [Bool.false_eq_true, if_false] at q ⊢
          obtain ⟨h', tk', news', e', F', N', off', hS, r⟩ := q
          exact ⟨h', tk', news', e', F', N', off', hS, restT J turn fin k (i + 1) _ _ (upB e) r⟩) fun _ _ e => e
end
end
open PySem PySem.W PySem.Calls PyProof.Rows PyProof.Rows.LCg
section
section
variable {prog : Program} {w : World} {A : Around} {E : Value → Shared → Prop} {s : Shared}
/-- the turns of a block whose target is a tuple, with tests -/
theorem loopPT {elt iter : Expr} {elts : List Expr} {x1} {tp : Pos} {ifs : List Expr} {scope : Scope} {pos : Pos} {it acc : Value} {env : Env} {R : Result → Shared → Prop} (I : Nat → Shared → Prop)
    (turn : ∀ n s, I n s → wpAny (model prog w) A (pyNext it) (fun r s₁ => match r with
      | none => R (.ok .next) s₁
      | some v => wpAny (model prog w) A (letOwnedTupleGo (.Tuple elts x1 tp) it v) (fun _ s₁' => wpAny (model prog w) A (assign (.Tuple elts x1 tp) env v) (fun _ s₂ =>
          wpAny (model prog w) A (forIn ifs true fun c r => if r = true then do let ok ← isTrue c env (eval c env); pure (ForInStep.yield ok) else pure (ForInStep.yield r)) (fun ok s₃ =>
            if ok = true then wpAny (model prog w) A (eval elt env) (fun x s₄ =>
              wpAny (model prog w) A (call (.builtin "list.append") [acc, x]) (fun _ s₅ => ∃ m, m < n ∧ I m s₅) (notedBy (model prog w) A env fun e s' => R (.error e) s') s₄) (notedBy (model prog w) A env fun e s' => R (.error e) s') s₃
            else ∃ m, m < n ∧ I m s₃) (notedBy (model prog w) A env fun e s' => R (.error e) s') s₂)
          (notedBy (model prog w) A env fun e s' => R (.error e) s') s₁') (notedBy (model prog w) A env fun e s' => R (.error e) s') s₁) (notedBy (model prog w) A env fun e s' => R (.error e) s') s)
    (n : Nat) (h : I n s) : codeAny (model prog w) A (.compLoop (.ListComp elt [⟨.Tuple elts x1 tp, iter, ifs, 0⟩] scope pos) 0 it acc env) R s := by
  refine codeAny_loop rfl I (fun n s hI => ?_) n h
  show wpAny _ A ((compTurn (.ListComp elt [⟨.Tuple elts x1 tp, iter, ifs, 0⟩] scope pos) 0 it acc env).onRaise (fun x => do noteFrame x env; theTreesLotGoes x)) _ _ s
  refine wpAny_noted ?_
  rw [compTurn_list]
  refine wpAny_bind (wpAny_standAt (wpAny_bind (wpAny_mono (turn n s hI) (fun r s₁ h₁ => ?_) fun _ _ h' => h')))
  cases r with
  | none => exact wpAny_pure h₁
  | some v =>
    refine wpAny_bind (wpAny_mono h₁ (fun _ s₁' h₁' => ?_) fun _ _ h' => h')
    refine wpAny_bind (wpAny_mono h₁' (fun _ s₂ h₂ => wpAny_bind (wpAny_mono h₂ (fun ok s₃ h₃ => ?_) fun _ _ h' => h')) fun _ _ h' => h')
    cases ok with
    | false => exact wpAny_pure ⟨rfl, h₃⟩
    | true => exact wpAny_bind (wpAny_bind (wpAny_mono h₃ (fun x s₄ h₄ => wpAny_bind (wpAny_mono h₄ (fun _ s₅ h₅ => wpAny_pure (wpAny_pure ⟨rfl, h₅⟩)) fun _ _ h' => h')) fun _ _ h' => h'))
end
section
variable {prog : Program} {w : World} {A : Around} {E : Value → Shared → Prop} {s : Shared} {h₀ : Heap} {L : Addr} {m : Str → Option Value} {env : Env}
noncomputable def TurnQ (prog : Program) (w : World) (A : Around) (h₀ : Heap) (L : Addr) (m : Str → Option Value) (env : Env) (ifs : List Expr) (elt : Expr) (x x₂ : Str) (scope : Scope) (cl : List (Str × Addr)) (s : Shared) (n : Nat) (G : Nat → Value → Value → Prop)
    (J : Nat → List Value → List (Addr × Obj) → Prop) : Prop :=
  ∀ i ys news v₁ v₂ I oI C oC D m₂ h tk (E' : Value → Shared → Prop), i < n → J i ys news → G i v₁ v₂ → NsObj oC m₂ → m₂ x = some v₁ → m₂ x₂ = some v₂ → Fr h₀ L h m → News h₀ L h ((I, oI) :: (C, oC) :: (D, lst ys) :: news) → Off3 I C D news →
      ((@Ne Nat I C) ∧ (@Ne Nat I D) ∧ (@Ne Nat C D)) →
      wpAny (model prog w) A (forIn ifs true fun c r => if r = true then do let ok ← isTrue c (compEnvC scope cl C env) (eval c (compEnvC scope cl C env)); pure (ForInStep.yield ok) else pure (ForInStep.yield r)) (fun ok s' => if ok = true then
        wpAny (model prog w) A (eval elt (compEnvC scope cl C env)) (CompEnd h₀ L m { s with heap := h, toks := tk } I oI C oC D (lst ys) (fun _ => True) (fun y news' => J (i + 1) (ys ++ [y]) news')) E' s'
        else CompEnd h₀ L m { s with heap := h, toks := tk } I oI C oC D (lst ys) (fun _ => True) (fun _ news' => J (i + 1) ys news') Value.none s') E' { s with heap := h, toks := tk }
end
noncomputable def block_QT (prog : Program) (w : World) (A : Around) (E : Value → Shared → Prop) (h₀ : Heap) (L : Addr) (m : Str → Option Value) (env : Env) (elt : Expr) (iter : Expr) (x : Str) (x₂ : Str) (px : Pos) (px₂ : Pos) (tp : Pos) (tk : Nat) (ifs : List Expr) (scope : Scope) (cl : List (Str × Addr)) (pos : Pos) (s₂ : Shared) (I : Addr) (ax : Addr) (its : Array Value) (news : List (Addr × Obj)) (G : Nat → Value → Value → Prop) (J : Nat → List Value → List (Addr × Obj) → Prop) (RR : Value → Addr → Result → Shared → Prop) : Prop :=
  ∀ (hh : A.handled = none),
  ∀ (hsz : its.size ≤ sizeLine),
  ∀ (hit : s₂.heap.IsListIter I ax 0),
  ∀ (hl : h₀.IsList ax its),
  ∀ (hG : ∀ i v, its[i]? = some v → ∃ t v₁ v₂, v = .ref t ∧ IsTup h₀ t #[v₁, v₂] ∧ G i v₁ v₂),
  ∀ (hcell : ∀ y ∈ scope.names, y.2 ≠ .cell),
  ∀ (hkind : scope.kind = .function),
  ∀ (hx : scope.names.lookup x = some .local),
  ∀ (hx₂ : scope.names.lookup x₂ = some .local),
  ∀ (hxx : x ≠ x₂),
  ∀ (F : Fr h₀ L s₂.heap m),
  ∀ (N : News h₀ L s₂.heap news),
  ∀ (hIL : L ≠ I),
  ∀ (hI₀ : h₀.get? I = none),
  ∀ (off : ∀ p ∈ news, p.1 ≠ I),
  ∀ (T : TurnQ prog w A h₀ L m env ifs elt x x₂ scope cl s₂ its.size G J),
  ∀ (hJ : J 0 [] news),
  ∀ (hRR : ∀ D C h tk m' ys news', Fr h₀ L h m → News h₀ L h ((D, lst ys) :: news') → Off1 D news' → h.Ns C m' → h₀.get? C = none → h₀.get? D = none → C ≠ L → D ≠ L → C ≠ D → (∀ p ∈ news', p.1 ≠ C) → J its.size ys news' → RR (.ref D) C (.ok .next) { s₂ with heap := h, toks := tk }),
  wpAny (model prog w) A (newList []) (fun acc s₃ => wpAny (model prog w) A (newFunctionEnv scope env.globals cl [] env.qual none .none (some env)) (fun cenv s₄ => codeAny (model prog w) A (.compStart (.ListComp elt [⟨.Tuple [.Name x px, .Name x₂ px₂] tk tp, iter, ifs, 0⟩] scope pos) 0 (.ref I) acc { cenv with scope := relabel scope env }) (RR acc cenv.locals) s₄) E s₃) E s₂
namespace block_QTC
noncomputable abbrev V := Program × World × Around × (Value → Shared → Prop) × Heap × Addr × (Str → Option Value) × Env × Expr × Expr × Str × Str × Pos × Pos × Pos × Nat × (List Expr) × Scope × (List (Str × Addr)) × Pos × Shared × Addr × Addr × (Array Value) × (List (Addr × Obj)) × (Nat → Value → Value → Prop) × (Nat → List Value → List (Addr × Obj) → Prop) × (Value → Addr → Result → Shared → Prop)
theorem ne : Nonempty V := by
  have := neW
  have := neS
  have := neA
  have := neD
  have := neK
  have := neR
  repeat (refine @instNonemptyProd _ _ ?_ ?_; · first | assumption | infer_instance)
  first | assumption | infer_instance
noncomputable def v : V := @Classical.epsilon V ne fun v => ¬ block_QT v.1 v.2.1 v.2.2.1 v.2.2.2.1 v.2.2.2.2.1 v.2.2.2.2.2.1 v.2.2.2.2.2.2.1 v.2.2.2.2.2.2.2.1 v.2.2.2.2.2.2.2.2.1 v.2.2.2.2.2.2.2.2.2.1 v.2.2.2.2.2.2.2.2.2.2.1 v.2.2.2.2.2.2.2.2.2.2.2.1 v.2.2.2.2.2.2.2.2.2.2.2.2.1 v.2.2.2.2.2.2.2.2.2.2.2.2.2.1 v.2.2.2.2.2.2.2.2.2.2.2.2.2.2.1 v.2.2.2.2.2.2.2.2.2.2.2.2.2.2.2.1 v.2.2.2.2.2.2.2.2.2.2.2.2.2.2.2.2.1 v.2.2.2.2.2.2.2.2.2.2.2.2.2.2.2.2.2.1 v.2.2.2.2.2.2.2.2.2.2.2.2.2.2.2.2.2.2.1 v.2.2.2.2.2.2.2.2.2.2.2.2.2.2.2.2.2.2.2.1 v.2.2.2.2.2.2.2.2.2.2.2.2.2.2.2.2.2.2.2.2.1 v.2.2.2.2.2.2.2.2.2.2.2.2.2.2.2.2.2.2.2.2.2.1 v.2.2.2.2.2.2.2.2.2.2.2.2.2.2.2.2.2.2.2.2.2.2.1 v.2.2.2.2.2.2.2.2.2.2.2.2.2.2.2.2.2.2.2.2.2.2.2.1 v.2.2.2.2.2.2.2.2.2.2.2.2.2.2.2.2.2.2.2.2.2.2.2.2.1 v.2.2.2.2.2.2.2.2.2.2.2.2.2.2.2.2.2.2.2.2.2.2.2.2.2.1 v.2.2.2.2.2.2.2.2.2.2.2.2.2.2.2.2.2.2.2.2.2.2.2.2.2.2.1 v.2.2.2.2.2.2.2.2.2.2.2.2.2.2.2.2.2.2.2.2.2.2.2.2.2.2.2
@[irreducible] noncomputable def prog : Program := v.1
@[irreducible] noncomputable def w : World := v.2.1
@[irreducible] noncomputable def A : Around := v.2.2.1
@[irreducible] noncomputable def E : Value → Shared → Prop := v.2.2.2.1
@[irreducible] noncomputable def h₀ : Heap := v.2.2.2.2.1
@[irreducible] noncomputable def L : Addr := v.2.2.2.2.2.1
@[irreducible] noncomputable def m : Str → Option Value := v.2.2.2.2.2.2.1
@[irreducible] noncomputable def env : Env := v.2.2.2.2.2.2.2.1
@[irreducible] noncomputable def elt : Expr := v.2.2.2.2.2.2.2.2.1
@[irreducible] noncomputable def iter : Expr := v.2.2.2.2.2.2.2.2.2.1
@[irreducible] noncomputable def x : Str := v.2.2.2.2.2.2.2.2.2.2.1
@[irreducible] noncomputable def x₂ : Str := v.2.2.2.2.2.2.2.2.2.2.2.1
@[irreducible] noncomputable def px : Pos := v.2.2.2.2.2.2.2.2.2.2.2.2.1
@[irreducible] noncomputable def px₂ : Pos := v.2.2.2.2.2.2.2.2.2.2.2.2.2.1
@[irreducible] noncomputable def tp : Pos := v.2.2.2.2.2.2.2.2.2.2.2.2.2.2.1
@[irreducible] noncomputable def tk : Nat := v.2.2.2.2.2.2.2.2.2.2.2.2.2.2.2.1
@[irreducible] noncomputable def ifs : List Expr := v.2.2.2.2.2.2.2.2.2.2.2.2.2.2.2.2.1
@[irreducible] noncomputable def scope : Scope := v.2.2.2.2.2.2.2.2.2.2.2.2.2.2.2.2.2.1
@[irreducible] noncomputable def cl : List (Str × Addr) := v.2.2.2.2.2.2.2.2.2.2.2.2.2.2.2.2.2.2.1
@[irreducible] noncomputable def pos : Pos := v.2.2.2.2.2.2.2.2.2.2.2.2.2.2.2.2.2.2.2.1
@[irreducible] noncomputable def s₂ : Shared := v.2.2.2.2.2.2.2.2.2.2.2.2.2.2.2.2.2.2.2.2.1
@[irreducible] noncomputable def I : Addr := v.2.2.2.2.2.2.2.2.2.2.2.2.2.2.2.2.2.2.2.2.2.1
@[irreducible] noncomputable def ax : Addr := v.2.2.2.2.2.2.2.2.2.2.2.2.2.2.2.2.2.2.2.2.2.2.1
@[irreducible] noncomputable def its : Array Value := v.2.2.2.2.2.2.2.2.2.2.2.2.2.2.2.2.2.2.2.2.2.2.2.1
@[irreducible] noncomputable def news : List (Addr × Obj) := v.2.2.2.2.2.2.2.2.2.2.2.2.2.2.2.2.2.2.2.2.2.2.2.2.1
@[irreducible] noncomputable def G : Nat → Value → Value → Prop := v.2.2.2.2.2.2.2.2.2.2.2.2.2.2.2.2.2.2.2.2.2.2.2.2.2.1
@[irreducible] noncomputable def J : Nat → List Value → List (Addr × Obj) → Prop := v.2.2.2.2.2.2.2.2.2.2.2.2.2.2.2.2.2.2.2.2.2.2.2.2.2.2.1
@[irreducible] noncomputable def RR : Value → Addr → Result → Shared → Prop := v.2.2.2.2.2.2.2.2.2.2.2.2.2.2.2.2.2.2.2.2.2.2.2.2.2.2.2
theorem holds : block_QT prog w A E h₀ L m env elt iter x x₂ px px₂ tp tk ifs scope cl pos s₂ I ax its news G J RR := by
  intro hh hsz hit hl hG hcell hkind hx hx₂ hxx F N hIL hI₀ off T hJ hRR
  obtain ⟨olI, holI, hlIc, hlId⟩ := hit
  have hIlt : I < s₂.heap.objs.size := Heap.lt_size holI
  refine wpAny_newObj_type (wpAny_newFunctionEnv hcell (by intro y hy; simp at hy) (fun h₁ hns₁ hsb₁ => ?_) hkind)
  dsimp only at hns₁ hsb₁ ⊢
  generalize hH2 : s₂.heap.push { cls := .type "list", dict := none, data := .seq ([] : List Value).toArray } = H2 at hns₁ hsb₁ ⊢
  have hC : H2.objs.size = s₂.heap.objs.size + 1 := by rw [← hH2, Heap.size_push]
  have hDC : s₂.heap.objs.size ≠ H2.objs.size := by rw [hC]; exact Nat.ne_of_lt (Nat.lt_succ_self _)
  have below : ∀ b, b < s₂.heap.objs.size → b ≠ H2.objs.size ∧ b ≠ s₂.heap.objs.size := fun b hb => ⟨by rw [hC]; exact Nat.ne_of_lt (Nat.lt_succ_of_lt hb), Nat.ne_of_lt hb⟩
  have old : ∀ b o, s₂.heap.get? b = some o → h₁.get? b = some o := fun b o e => hsb₁.extBut b o (below b (Heap.lt_size e)).1 (Heap.get?_push_of_some _ (hH2 ▸ Heap.get?_push_of_some _ e))
  have hacc : h₁.get? s₂.heap.objs.size = some (lst []) := hsb₁.extBut _ _ hDC (Heap.get?_push_of_some _ (hH2 ▸ Heap.get?_push_size _ rfl))
  have hst₁ : h₁.IsListIter I ax 0 := ⟨olI, old _ _ holI, hlIc, hlId⟩
  have fresh : ∀ a, s₂.heap.objs.size ≤ a → s₂.heap.get? a = none := fun a ha => by
    cases e : s₂.heap.get? a with
    | none => rfl
    | some o' => exact absurd (Heap.lt_size e) (Nat.not_lt.mpr ha)
  have fresh₀ : ∀ a, s₂.heap.objs.size ≤ a → h₀.get? a = none := fun a ha => by
    cases e : h₀.get? a with
    | none => rfl
    | some o' => have := F.keep a o' e; rw [fresh a ha] at this; cases this
  have hD₀ : h₀.get? s₂.heap.objs.size = none := fresh₀ _ (Nat.le_refl _)
  have hC₀ : h₀.get? H2.objs.size = none := fresh₀ _ (by rw [hC]; exact Nat.le_succ _)
  have hLlt : L < s₂.heap.objs.size := F.ns.lt
  have hDL : s₂.heap.objs.size ≠ L := Ne.symm (below L hLlt).2
  have hCL : H2.objs.size ≠ L := Ne.symm (below L hLlt).1
  have hCI : I ≠ H2.objs.size := (below I hIlt).1
  have hDI : I ≠ s₂.heap.objs.size := (below I hIlt).2
  have off₀ : Off3 I H2.objs.size s₂.heap.objs.size news := Off3.of fun p hp => ⟨off p hp, (below _ (Heap.lt_size (N p hp).1)).1, (below _ (Heap.lt_size (N p hp).1)).2⟩
  have loop : ∀ s₃ : Shared, s₃ = { s₂ with heap := h₁, toks := s₂.toks + ([] : List (Str × Value)).length } →
      codeAny (model prog w) A (.compLoop (.ListComp elt [⟨.Tuple [.Name x px, .Name x₂ px₂] tk tp, iter, ifs, 0⟩] scope pos) 0 (.ref I) (.ref s₂.heap.objs.size) (compEnvC scope cl H2.objs.size env))
        (RR (.ref s₂.heap.objs.size) H2.objs.size) s₃ := by
    rintro s₃ rfl
    refine loopPT
      (fun k s' => ∃ h' tk i ys m' news', s' = { s₂ with heap := h', toks := tk } ∧ i ≤ its.size ∧ k = its.size + 1 - i ∧ ys.length ≤ i ∧ h'.IsListIter I ax i ∧ Fr h₀ L h' m ∧ h'.Ns H2.objs.size m' ∧ News h₀ L h' ((s₂.heap.objs.size, lst ys) :: news') ∧
        Off3 I H2.objs.size s₂.heap.objs.size news' ∧ J i ys news') ?_ (its.size + 1)
      ⟨h₁, _, 0, [], _, news, rfl, Nat.zero_le _, rfl, Nat.le_refl _, hst₁, F.keeps old, hns₁, fun p hp => ?_, off₀, hJ⟩
    · rintro k s' ⟨h', tk, i, ys, m', news', rfl, hi, rfl, hyl, hst', F', hn', N', off', hJ'⟩
      have off3 := off'.mem
      have hl' : h'.IsList ax its := hl.at fun o e => F'.keep _ o e
      cases hv : its[i]? with
      | none =>
        have hle : its.size ≤ i := by simpa using hv
        obtain rfl : i = its.size := Nat.le_antisymm hi hle
        refine wpAny_pyNext_list_end hh hst' hl' hv fun h₂ he₂ => ?_
        have hk₂ : ∀ b o, b ∉ [I] → h'.get? b = some o → h₂.get? b = some o := fun b o hb e => he₂ b o (by simpa using hb) e
        exact hRR _ _ h₂ tk _ ys news' (fr_but F' hk₂ hIL hI₀) (news_but N' hk₂ fun p hp => by
          rcases List.mem_cons.mp hp with rfl | hp
          · exact Ne.symm hDI
          · exact (off3 p hp).1) off'.one (hn'.at' fun o e => hk₂ _ o (by simpa using Ne.symm hCI) e) hC₀ hD₀ hCL hDL (Ne.symm hDC) (fun p hp => (off3 p hp).2.1) hJ'
      | some v =>
        have hlt : i < its.size := (Array.getElem?_eq_some_iff.mp hv).1
        refine wpAny_pyNext_list_item hst' hl' hv fun h₂ hit₂ hs₂ => ?_
        have hk₂ : ∀ b o, b ∉ [I] → h'.get? b = some o → h₂.get? b = some o := fun b o hb e => hs₂.extBut b o (by simpa using hb) e
        obtain ⟨t, v₁, v₂, rfl, ht₀, hGi⟩ := hG i v hv
        have F₂ : Fr h₀ L h₂ m := fr_but F' hk₂ hIL hI₀
        have N₂ : News h₀ L h₂ ((s₂.heap.objs.size, lst ys) :: news') := news_but N' hk₂ fun p hp => by
          rcases List.mem_cons.mp hp with rfl | hp
          · exact Ne.symm hDI
          · exact (off3 p hp).1
        have ht : IsTup h₂ t #[v₁, v₂] := let ⟨o, ho, r⟩ := ht₀; ⟨o, F₂.keep _ _ ho, r⟩
        refine wpAny_letOwnedTupleGo_listiter hit₂ ?_
        refine assign_Tuple_tuple hh ht rfl rfl fun h₅ he => ?_
        have he' : ∀ b o, h₂.get? b = some o → h₅.get? b = some o := fun b o e => he b o (Nat.ne_of_lt (Heap.lt_size e)) e
        refine assignInOrder_cons (wpAny_assign_Name (wpAny_storeName_local (lookup_relabel_local hx) ((hn'.at' fun o e => hk₂ _ o (by simpa using Ne.symm hCI) e).at' fun o e => he' _ o e) (fun h₆ hn₆ hs₆ => ?_) (by simp [compEnvC, relabel, hkind])))
        refine assignInOrder_cons (wpAny_assign_Name (wpAny_storeName_local (lookup_relabel_local hx₂) hn₆ (fun h₃ hn₃ hs₃ => ?_) (by simp [compEnvC, relabel, hkind])))
        refine assignInOrder_nil ?_
        have old3 : ∀ b o, b ≠ H2.objs.size → h₂.get? b = some o → h₃.get? b = some o := fun b o hb e => hs₃.extBut b o hb (hs₆.extBut b o hb (he' b o e))
        obtain ⟨oI, hoI, hoIc, hoId⟩ := hit₂
        have heI := old3 _ _ hCI hoI
        obtain ⟨oC, heC, hoC⟩ := ns_obj hn₃
        have F₃ : Fr h₀ L h₃ m := ((F₂.keeps he').change hs₆ hCL hC₀).change hs₃ hCL hC₀
        have N₃ : News h₀ L h₃ ((I, oI) :: (H2.objs.size, oC) :: (s₂.heap.objs.size, lst ys) :: news') := fun p hp => by
          rcases List.mem_cons.mp hp with rfl | hp
          · exact ⟨heI, Ne.symm hIL, hI₀⟩
          · rcases List.mem_cons.mp hp with rfl | hp
            · exact ⟨heC, hCL, hC₀⟩
            · have z := N₂ p hp
              refine ⟨old3 _ _ ?_ z.1, z.2⟩
              rcases List.mem_cons.mp hp with rfl | hp
              · exact hDC
              · exact (off3 p hp).2.1
        refine wpAny_mono (T i ys news' v₁ v₂ I oI H2.objs.size oC s₂.heap.objs.size _ h₃ _ _ hlt hJ' hGi hoC (by simp [hxx]) (by simp) F₃ N₃ off' ⟨hCI, hDI, Ne.symm hDC⟩) (fun ok s₄ h₄ => ?_) fun _ _ e => e
        cases ok with
        | true =>
          simp only [if_true] at h₄ ⊢
          refine wpAny_mono h₄ (fun y s₅ h₅ => ?_) fun _ _ e => e
          obtain ⟨h₄, tk₄, news₄, rfl, F₄, N₄, off₄, hS₄, R₄⟩ := h₅
          have zI := (N₄ (I, oI) List.mem_cons_self).1
          have zC := (N₄ (H2.objs.size, oC) (List.mem_cons_of_mem _ List.mem_cons_self)).1
          have zD := (N₄ (s₂.heap.objs.size, lst ys) (List.mem_cons_of_mem _ (List.mem_cons_of_mem _ List.mem_cons_self))).1
          have N₄' : News h₀ L h₄ news₄ := fun p hp => N₄ p (List.mem_cons_of_mem _ (List.mem_cons_of_mem _ (List.mem_cons_of_mem _ hp)))
          refine append_at (hsz := by show ys.toArray.size ≤ sizeLine; rw [List.size_toArray]; exact Nat.le_trans (Nat.le_trans hyl hi) hsz) zD fun h₅ hs₅ hD₅ => ?_
          have off4 := off₄.mem
          refine ⟨its.size + 1 - (i + 1), sl3 (Nat.lt_succ_of_lt hlt), h₅, tk₄, i + 1, ys ++ [y], _, news₄, rfl, hlt, rfl, by rw [List.length_append, List.length_singleton]; exact Nat.succ_le_succ hyl, ⟨oI, hs₅.extBut _ _ hDI zI, hoIc, hoId⟩, F₄.change hs₅ hDL hD₀,
            (hoC.ns zC).sameBut hs₅ (Ne.symm hDC), fun p hp => ?_, off₄, R₄⟩
          rcases List.mem_cons.mp hp with rfl | hp
          · exact ⟨hD₅.trans (congrArg some (lst_snoc ys y)), hDL, hD₀⟩
          · exact ⟨hs₅.extBut _ _ (off4 p hp).2.2 (N₄' p hp).1, (N₄' p hp).2⟩
        | false =>
          simp only [Bool.false_eq_true, if_false] at h₄ ⊢
          obtain ⟨h₅, tk₄, news₄, rfl, F₄, N₄, off₄, hS₄, R₄⟩ := h₄
          have zI := (N₄ (I, oI) List.mem_cons_self).1
          have zC := (N₄ (H2.objs.size, oC) (List.mem_cons_of_mem _ List.mem_cons_self)).1
          have N₄' : News h₀ L h₅ news₄ := fun p hp => N₄ p (List.mem_cons_of_mem _ (List.mem_cons_of_mem _ (List.mem_cons_of_mem _ hp)))
          refine ⟨its.size + 1 - (i + 1), sl3 (Nat.lt_succ_of_lt hlt), h₅, tk₄, i + 1, ys, _, news₄, rfl, hlt, rfl, Nat.le_succ_of_le hyl, ⟨oI, zI, hoIc, hoId⟩, F₄, hoC.ns zC, fun p hp => ?_, off₄, R₄⟩
          rcases List.mem_cons.mp hp with rfl | hp
          · exact N₄ _ (List.mem_cons_of_mem _ (List.mem_cons_of_mem _ List.mem_cons_self))
          · exact N₄' p hp
    · rcases List.mem_cons.mp hp with rfl | hp
      · exact ⟨hacc, hDL, hD₀⟩
      · exact ⟨old _ _ (N p hp).1, (N p hp).2⟩
  exact codeAny_compStart_list (loop _ rfl) (wpAny_pyIter_listiter hst₁ (loop _ rfl))
end block_QTC
theorem block_QT.all (prog : Program) (w : World) (A : Around) (E : Value → Shared → Prop) (h₀ : Heap) (L : Addr) (m : Str → Option Value) (env : Env) (elt : Expr) (iter : Expr) (x : Str) (x₂ : Str) (px : Pos) (px₂ : Pos) (tp : Pos) (tk : Nat) (ifs : List Expr) (scope : Scope) (cl : List (Str × Addr)) (pos : Pos) (s₂ : Shared) (I : Addr) (ax : Addr) (its : Array Value) (news : List (Addr × Obj)) (G : Nat → Value → Value → Prop) (J : Nat → List Value → List (Addr × Obj) → Prop) (RR : Value → Addr → Result → Shared → Prop) : block_QT prog w A E h₀ L m env elt iter x x₂ px px₂ tp tk ifs scope cl pos s₂ I ax its news G J RR :=
  @hkAll block_QTC.V block_QTC.ne (fun v => block_QT v.1 v.2.1 v.2.2.1 v.2.2.2.1 v.2.2.2.2.1 v.2.2.2.2.2.1 v.2.2.2.2.2.2.1 v.2.2.2.2.2.2.2.1 v.2.2.2.2.2.2.2.2.1 v.2.2.2.2.2.2.2.2.2.1 v.2.2.2.2.2.2.2.2.2.2.1 v.2.2.2.2.2.2.2.2.2.2.2.1 v.2.2.2.2.2.2.2.2.2.2.2.2.1 v.2.2.2.2.2.2.2.2.2.2.2.2.2.1 v.2.2.2.2.2.2.2.2.2.2.2.2.2.2.1 v.2.2.2.2.2.2.2.2.2.2.2.2.2.2.2.1 v.2.2.2.2.2.2.2.2.2.2.2.2.2.2.2.2.1 v.2.2.2.2.2.2.2.2.2.2.2.2.2.2.2.2.2.1 v.2.2.2.2.2.2.2.2.2.2.2.2.2.2.2.2.2.2.1 v.2.2.2.2.2.2.2.2.2.2.2.2.2.2.2.2.2.2.2.1 v.2.2.2.2.2.2.2.2.2.2.2.2.2.2.2.2.2.2.2.2.1 v.2.2.2.2.2.2.2.2.2.2.2.2.2.2.2.2.2.2.2.2.2.1 v.2.2.2.2.2.2.2.2.2.2.2.2.2.2.2.2.2.2.2.2.2.2.1 v.2.2.2.2.2.2.2.2.2.2.2.2.2.2.2.2.2.2.2.2.2.2.2.1 v.2.2.2.2.2.2.2.2.2.2.2.2.2.2.2.2.2.2.2.2.2.2.2.2.1 v.2.2.2.2.2.2.2.2.2.2.2.2.2.2.2.2.2.2.2.2.2.2.2.2.2.1 v.2.2.2.2.2.2.2.2.2.2.2.2.2.2.2.2.2.2.2.2.2.2.2.2.2.2.1 v.2.2.2.2.2.2.2.2.2.2.2.2.2.2.2.2.2.2.2.2.2.2.2.2.2.2.2) (by with_unfolding_all exact block_QTC.holds) (prog, w, A, E, h₀, L, m, env, elt, iter, x, x₂, px, px₂, tp, tk, ifs, scope, cl, pos, s₂, I, ax, its, news, G, J, RR)
theorem block_Q {prog : Program} {w : World} {A : Around} {E : Value → Shared → Prop} {h₀ : Heap} {L : Addr} {m : Str → Option Value} {env : Env} {elt iter : Expr} {x x₂ : Str} {px px₂ tp : Pos} {tk : Nat} {ifs : List Expr} {scope : Scope} {cl : List (Str × Addr)} {pos : Pos} {s₂ : Shared} {I ax : Addr} {its : Array Value} {news : List (Addr × Obj)} {G : Nat → Value → Value → Prop}
    {J : Nat → List Value → List (Addr × Obj) → Prop} {RR : Value → Addr → Result → Shared → Prop}
    (hh : A.handled = none) (hsz : its.size ≤ sizeLine) (hit : s₂.heap.IsListIter I ax 0) (hl : h₀.IsList ax its) (hG : ∀ i v, its[i]? = some v → ∃ t v₁ v₂, v = .ref t ∧ IsTup h₀ t #[v₁, v₂] ∧ G i v₁ v₂)
    (hcell : ∀ y ∈ scope.names, y.2 ≠ .cell) (hkind : scope.kind = .function) (hx : scope.names.lookup x = some .local) (hx₂ : scope.names.lookup x₂ = some .local) (hxx : x ≠ x₂)
    (F : Fr h₀ L s₂.heap m) (N : News h₀ L s₂.heap news) (hIL : L ≠ I) (hI₀ : h₀.get? I = none) (off : ∀ p ∈ news, p.1 ≠ I)
    (T : TurnQ prog w A h₀ L m env ifs elt x x₂ scope cl s₂ its.size G J) (hJ : J 0 [] news)
    (hRR : ∀ D C h tk m' ys news', Fr h₀ L h m → News h₀ L h ((D, lst ys) :: news') → Off1 D news' → h.Ns C m' → h₀.get? C = none → h₀.get? D = none → C ≠ L → D ≠ L → C ≠ D → (∀ p ∈ news', p.1 ≠ C) → J its.size ys news' → RR (.ref D) C (.ok .next) { s₂ with heap := h, toks := tk }) :
    wpAny (model prog w) A (newList []) (fun acc s₃ => wpAny (model prog w) A (newFunctionEnv scope env.globals cl [] env.qual none .none (some env)) (fun cenv s₄ =>
      codeAny (model prog w) A (.compStart (.ListComp elt [⟨.Tuple [.Name x px, .Name x₂ px₂] tk tp, iter, ifs, 0⟩] scope pos) 0 (.ref I) acc { cenv with scope := relabel scope env }) (RR acc cenv.locals) s₄) E s₃) E s₂ := by
  exact block_QT.all _ _ _ _ _ _ _ _ _ _ _ _ _ _ _ _ _ _ _ _ _ _ _ _ _ _ _ _ hh hsz hit hl hG hcell hkind hx hx₂ hxx F N hIL hI₀ off T hJ hRR
section
variable {prog : Program} {w : World} {A : Around} {E : Value → Shared → Prop} {s : Shared} {h₀ : Heap} {L : Addr} {m : Str → Option Value} {env : Env}
noncomputable def SrcQ (prog : Program) (w : World) (A : Around) (h₀ : Heap) (L : Addr) (m : Str → Option Value) (env : Env) (ifs : List Expr) (elt : Expr) (x x₂ : Str) (scope : Scope) (cl : List (Str × Addr)) (Fin : Shared → List Value → List (Addr × Obj) → Prop) (xv : Value) (s₁ : Shared) : Prop :=
  ∃ ax its news G J, xv = .ref ax ∧ Fr h₀ L s₁.heap m ∧ News h₀ L s₁.heap news ∧ h₀.IsList ax its ∧ its.size ≤ sizeLine ∧ (∀ i v, its[i]? = some v → ∃ t v₁ v₂, v = .ref t ∧ IsTup h₀ t #[v₁, v₂] ∧ G i v₁ v₂) ∧
    (∀ g, TurnQ prog w A h₀ L m env ifs elt x x₂ scope cl { s₁ with heap := g } its.size G J) ∧ J 0 [] news ∧ ∀ g ys news', J its.size ys news' → Fin { s₁ with heap := g } ys news'
theorem SrcQ.intro {ifs : List Expr} {elt : Expr} {x x₂ : Str} {scope : Scope} {cl : List (Str × Addr)} {Fin : Shared → List Value → List (Addr × Obj) → Prop} {ax : Addr} {its : Array Value} {news : List (Addr × Obj)} {s₁ : Shared} {G : Nat → Value → Value → Prop} (J : Nat → List Value → List (Addr × Obj) → Prop)
    (F : Fr h₀ L s₁.heap m) (N : News h₀ L s₁.heap news) (hl : h₀.IsList ax its) (hsz : its.size ≤ sizeLine) (hG : ∀ i v, its[i]? = some v → ∃ t v₁ v₂, v = .ref t ∧ IsTup h₀ t #[v₁, v₂] ∧ G i v₁ v₂)
    (T : ∀ g, TurnQ prog w A h₀ L m env ifs elt x x₂ scope cl { s₁ with heap := g } its.size G J) (hJ : J 0 [] news) (fin : ∀ g ys news', J its.size ys news' → Fin { s₁ with heap := g } ys news') :
    SrcQ prog w A h₀ L m env ifs elt x x₂ scope cl Fin (.ref ax) s₁ := ⟨ax, its, news, G, J, rfl, F, N, hl, hsz, hG, T, hJ, fin⟩
theorem ListComp_Q {elt iter : Expr} {x x₂ : Str} {px px₂ tp : Pos} {tk} {ifs : List Expr} {scope : Scope} {cl : List (Str × Addr)} {pos : Pos} {Q : Value → Shared → Prop} (hh : A.handled = none) (F₀ : Fr h₀ L s.heap m)
    (hclos : closureFor scope env = pure cl) (hcell : ∀ y ∈ scope.names, y.2 ≠ .cell) (hkind : scope.kind = .function)
    (hnames : ∀ y ∈ scope.names, y.2 = .local → scope.names.lookup y.1 = some .local) (hx : scope.names.lookup x = some .local) (hx₂ : scope.names.lookup x₂ = some .local) (hxx : x ≠ x₂)
    (h : wpAny (model prog w) A (eval iter env) (SrcQ prog w A h₀ L m env ifs elt x x₂ scope cl (fun s₂ => FinE h₀ L m s₂ Q)) E s)
    (hs : ∀ x, foldedSetIterable iter env x = pure x := by intro _; rfl) :
    wpAny (model prog w) A (eval (.ListComp elt [⟨.Tuple [.Name x px, .Name x₂ px₂] tk tp, iter, ifs, 0⟩] scope pos) env) Q E s := by
  rw [eval_ListComp]
  refine wpAny_comprehension_free (use := none) rfl hs hclos hkind hnames (wpAny_mono h (fun xv s₁ h₁ => ?_) fun _ _ e => e)
  obtain ⟨ax, its, news, G, J, rfl, F, N, hl, hsz, hG, T, hJ, hfin⟩ := h₁
  have hl₁ : s₁.heap.IsList ax its := hl.at fun o e => F.keep _ o e
  refine wpAny_pyIter_list hl₁ ?_
  have up : ∀ b o, s₁.heap.get? b = some o → (s₁.heap.push { cls := .type "list_iterator", data := .fields #[.ref ax, .int 0 0] }).get? b = some o := fun b o e => Heap.get?_push_of_some _ e
  refine block_Q hh hsz ⟨_, Heap.get?_push_size _ rfl, rfl, rfl⟩ hl hG hcell hkind hx hx₂ hxx (F.keeps up) (N.grown up) (Nat.ne_of_lt F.ns.lt) (next_is_new F) (fun p hp => Nat.ne_of_lt (Heap.lt_size (N p hp).1)) (T _) hJ ?_
  intro D C h' tk m' ys news' F' N' o1 hn hC₀ hD₀ hCL hDL hCD offC j
  refine ⟨m', hn, fun h'' hs'' => hfin (s₁.heap.push { cls := .type "list_iterator", data := .fields #[.ref ax, .int 0 0] }) _ _ j D h'' tk (F'.change hs'' hCL hC₀) (fun p hp => ?_) o1⟩
  refine ⟨hs''.extBut _ _ ?_ (N' p hp).1, (N' p hp).2⟩
  rcases List.mem_cons.mp hp with rfl | hp
  · exact Ne.symm hCD
  · exact offC p hp
end
end
section
section
variable {prog : Program} {w : World} {A : Around} {E : Value → Shared → Prop} {s : Shared} {env : Env} {h₀ : Heap} {x : Str} {body : List Stmt} {Q : Flow → Shared → Prop}

/-- where a turn of a loop ends -/
noncomputable def TEnd (h₀ : Heap) (L : Addr) (J : (Str → Option Value) → List (Addr × Obj) → Prop) (own : List (Addr × Obj)) (adr : List Addr) (s₁ s₂ : Shared) : Prop :=
  ∃ h' tk m' news' nx, s₂ = { s₁ with heap := h', toks := tk } ∧ Fr h₀ L h' m' ∧ News h₀ L h' news' ∧ (∀ p ∈ nx, p ∈ news') ∧ (∀ p ∈ own, p ∈ news') ∧ nx.map (·.1) = adr ∧ J m' nx
noncomputable def TPost (h₀ : Heap) (L : Addr) (J : (Str → Option Value) → List (Addr × Obj) → Prop) (own : List (Addr × Obj)) (adr : List Addr) (s₁ : Shared) (Q : Flow → Shared → Prop) (f : Flow) (s₂ : Shared) : Prop :=
  match f with
  | .ret v => Q (.ret v) s₂
  | .brk => Q .next s₂
  | _ => TEnd h₀ L J own adr s₁ s₂
theorem TEnd.intro {L : Addr} {J : (Str → Option Value) → List (Addr × Obj) → Prop} {m' : Str → Option Value} {own news' nx : List (Addr × Obj)} {adr : List Addr} {s₁ : Shared} {h' : Heap} {tk : Nat} (F : Fr h₀ L h' m') (N : News h₀ L h' news')
    (hn : ∀ p ∈ nx, p ∈ news') (ho : ∀ p ∈ own, p ∈ news') (ha : nx.map (·.1) = adr) (hj : J m' nx) : TEnd h₀ L J own adr s₁ { s₁ with heap := h', toks := tk } := ⟨h', tk, m', news', nx, rfl, F, N, hn, ho, ha, hj⟩

theorem iterAny {I : Addr} {fp : List Addr} {n : Nat} {P : Nat → Value → Prop} {St : Nat → Heap → Prop} {m₀ : Str → Option Value} {news : List (Addr × Obj)} (J : Nat → (Str → Option Value) → List (Addr × Obj) → Prop)
    (W : Walks prog w A I fp [I] n P St) (hfp : ∀ b ∈ fp, b = I ∨ h₀.get? b = none → b = I ∨ ∃ o, (b, o) ∈ news) (hI₀ : h₀.get? I = none) (hLf : env.locals ∉ fp) (hIn : ∀ p ∈ news, @LT.lt Nat _ p.1 I)
    (hfx : ∀ i m₁ news₁, J i m₁ news₁ → ∀ b ∈ fp, b ≠ I → ∀ o, (b, o) ∈ news → (b, o) ∈ news₁)
    (hIo : ∀ i h, St i h → ∃ o, h.get? I = some o)
    (hst : St 0 s.heap) (F : Fr h₀ env.locals s.heap m₀) (N : News h₀ env.locals s.heap news) (hj : J 0 m₀ news)
    (turn : ∀ i v m₁ news₁ h tk oI, i < n → P i v → news₁.map (·.1) = news.map (·.1) → J i m₁ news₁ → Fr h₀ env.locals h (fun y => if y = x then some v else m₁ y) → News h₀ env.locals h ((I, oI) :: news₁) →
      wpAny (model prog w) A (execs body env) (TPost h₀ env.locals (J (i + 1)) [(I, oI)] (news.map (·.1)) { s with heap := h, toks := tk } Q) E { s with heap := h, toks := tk })
    (done : ∀ m₁ news₁ h tk, J n m₁ news₁ → Fr h₀ env.locals h m₁ → News h₀ env.locals h news₁ → Q .next { s with heap := h, toks := tk }) :
    LoopAtV prog w A h₀ env x body Q E (.ref I) s := by
  let J' : Nat → (Str → Option Value) → List (Addr × Obj) → Prop := fun i m₁ news₁ => news₁.map (·.1) = news.map (·.1) ∧ J i m₁ news₁
  refine ⟨I, fp, [I], n, P, St, m₀, news, J', rfl, W, hLf, fun b hb => by rw [List.mem_singleton.mp hb]; exact hI₀, fun p hp hq => ?_, hst, F, N, ⟨rfl, hj⟩, ?_, ?_⟩
  · have := hIn p hp
    rw [List.mem_singleton.mp hq] at this
    exact Nat.lt_irrefl _ this
  · rintro i v m₁ news₁ s₁ own ⟨hh', tk', rfl⟩ hin hP ⟨hadr, hJ⟩ hoff hown hget hall hst₁ F₁ N₁
    obtain ⟨oI, hoI⟩ := hIo _ _ hst₁
    have mI : (I, oI) ∈ own := hall I (W.sub I (List.mem_singleton.mpr rfl)) hI₀ oI hoI
    have Nn : News h₀ env.locals hh' news₁ := fun p hp => N₁ p (List.mem_append_right _ hp)
    have N₂ : News h₀ env.locals hh' ((I, oI) :: news₁) := fun p hp => by
      rcases List.mem_cons.mp hp with rfl | hp
      · exact N₁ _ (List.mem_append_left _ mI)
      · exact Nn p hp
    have ownIs : ∀ p ∈ own, p = (I, oI) ∨ p ∈ news₁ := fun p hp => by
      have h2 := (N₁ p (List.mem_append_left _ hp)).2.2
      rcases hfp p.1 (hown p hp) (.inr h2) with e | ⟨o, ho⟩
      · refine .inl ?_
        have h1 := hget p hp
        rw [e] at h1
        have h1' : hh'.get? I = some p.2 := h1
        rw [hoI] at h1'
        have : p.2 = oI := (Option.some.inj h1').symm
        exact Prod.ext e this
      · have hne : p.1 ≠ I := fun e => Nat.lt_irrefl _ (by have := hIn _ ho; rw [show p.1 = I from e] at this; exact this)
        have := hfx _ _ _ hJ p.1 (hown p hp) hne o ho
        have h4 := (Nn _ this).1
        have h1 := hget p hp
        have h1' : hh'.get? p.1 = some p.2 := h1
        have h4' : hh'.get? p.1 = some o := h4
        rw [h1'] at h4'
        have : p.2 = o := Option.some.inj h4'
        exact .inr (by rw [show p = (p.1, o) from Prod.ext rfl this]; assumption)
    refine wpAny_mono (turn i v m₁ news₁ hh' tk' oI hin hP hadr hJ F₁ N₂) (fun f s₂ p => ?_) fun _ _ e => e
    have fin : TEnd h₀ env.locals (J (i + 1)) [(I, oI)] (news.map (·.1)) { s with heap := hh', toks := tk' } s₂ → LoopStepU h₀ env.locals [I] own (J' (i + 1)) { s with heap := hh', toks := tk' } .next s₂ := by
      rintro ⟨h', tk, m', news', nx, e, F', N', hn, ho, ha, hm⟩
      refine ⟨rfl, h', tk, m', nx, e, F', fun p hp => ?_, fun p hp hq => ?_, ha, hm⟩
      · rcases List.mem_append.mp hp with hp | hp
        · rcases ownIs p hp with rfl | hp'
          · exact N' _ (ho _ (List.mem_singleton.mpr rfl))
          · by_cases e : p.1 = I
            · exfalso
              have h1 : p.1 ∈ news₁.map (·.1) := List.mem_map_of_mem hp'
              rw [hadr] at h1
              obtain ⟨q, hq1, hq2⟩ := List.mem_map.mp h1
              have := hIn q hq1
              rw [hq2, e] at this
              exact Nat.lt_irrefl _ this
            · have h1 : p.1 ∈ news₁.map (·.1) := List.mem_map_of_mem hp'
              rw [hadr] at h1
              obtain ⟨q, hq1, hq2⟩ := List.mem_map.mp h1
              have hm' := hfx _ _ _ hm p.1 (hown p hp) e q.2 (by rw [← hq2]; exact hq1)
              have hm₁ := hfx _ _ _ hJ p.1 (hown p hp) e q.2 (by rw [← hq2]; exact hq1)
              have g1 : hh'.get? p.1 = some q.2 := (Nn _ hm₁).1
              have g2 : hh'.get? p.1 = some p.2 := hget p hp
              rw [g1] at g2
              have : p = (p.1, q.2) := Prod.ext rfl (Option.some.inj g2).symm
              rw [this]
              exact N' _ (hn _ hm')
        · exact N' p (hn p hp)
      · have h1 : p.1 ∈ nx.map (·.1) := List.mem_map.mpr ⟨p, hp, rfl⟩
        rw [ha] at h1
        obtain ⟨q, hq1, hq2⟩ := List.mem_map.mp h1
        have := hIn q hq1
        rw [hq2, List.mem_singleton.mp hq] at this
        exact Nat.lt_irrefl _ this
    cases f with
    | ret v => exact .ret p
    | brk => exact .brk p
    | next => exact .next (fin p)
    | cont => exact .cont (fin p)
  · rintro h' tk m' news' F' N' _ ⟨_, hJ⟩
    exact done m' news' h' tk hJ F' N'

/-- over a list of the ground or of the ledger -/
theorem iterList {l : Addr} {its : Array Value} {c : Nat} {m₀ : Str → Option Value} {news : List (Addr × Obj)} (J : Nat → (Str → Option Value) → List (Addr × Obj) → Prop)
    (hh : A.handled = none) (hl : h₀.IsList l its ∨ (l, listOf its c) ∈ news ∧ ∀ i m₁ news₁, J i m₁ news₁ → ∀ o, (l, o) ∈ news → (l, o) ∈ news₁) (F : Fr h₀ env.locals s.heap m₀) (N : News h₀ env.locals s.heap news) (hj : J 0 m₀ news)
    (turn : ∀ I i v m₁ news₁ h tk oI, (∀ p ∈ news, @LT.lt Nat _ p.1 I) → @LT.lt Nat _ env.locals I → its[i]? = some v → i < its.size → news₁.map (·.1) = news.map (·.1) → J i m₁ news₁ → Fr h₀ env.locals h (fun y => if y = x then some v else m₁ y) → News h₀ env.locals h ((I, oI) :: news₁) →
      wpAny (model prog w) A (execs body env) (TPost h₀ env.locals (J (i + 1)) [(I, oI)] (news.map (·.1)) { s with heap := h, toks := tk } Q) E { s with heap := h, toks := tk })
    (done : ∀ m₁ news₁ h tk, J its.size m₁ news₁ → Fr h₀ env.locals h m₁ → News h₀ env.locals h news₁ → Q .next { s with heap := h, toks := tk }) :
    wpAny (model prog w) A (pyIter (.ref l)) (fun it s₂ => LoopAtV prog w A h₀ env x body Q E it s₂) E s := by
  have hls : s.heap.IsList l its := by
    rcases hl with hl | ⟨hm, _⟩
    · exact hl.at fun o e => F.keep l o e
    · exact ⟨_, (N _ hm).1, rfl, c, rfl⟩
  obtain ⟨ol, hol, _⟩ := id hls
  have hlt : l < s.heap.objs.size := Heap.lt_size hol
  have hne : l ≠ s.heap.objs.size := Nat.ne_of_lt hlt
  have up : ∀ b o, s.heap.get? b = some o → (s.heap.push { cls := .type "list_iterator", data := .fields #[.ref l, .int 0 0] }).get? b = some o := fun b o e => Heap.get?_push_of_some _ e
  refine wpAny_pyIter_list hls ?_
  refine iterAny (I := s.heap.objs.size) (n := its.size) (P := fun i v => its[i]? = some v) (m₀ := m₀) (news := news) J (Walks.list (prog := prog) (w := w) hh s.heap.objs.size l hne its) ?_ (next_is_new F) ?_ (fun p hp => Heap.lt_size (N p hp).1) ?_ (fun i h st => by obtain ⟨o, e, _⟩ := st.1; exact ⟨o, e⟩)
    ⟨⟨_, Heap.get?_push_size _ rfl, rfl, rfl⟩, hls.at fun o e => up _ _ e⟩ (F.keeps up) (fun p hp => ⟨up _ _ (N p hp).1, (N p hp).2⟩) hj ?_ ?_
  · intro b hb hn
    rcases List.mem_cons.mp hb with e | hb
    · exact .inl e
    · have hb := List.mem_singleton.mp hb
      subst hb
      rcases hn with e | hn
      · exact .inl e
      · rcases hl with ⟨o, ho, _⟩ | ⟨hm, _⟩
        · rw [hn] at ho; cases ho
        · exact .inr ⟨_, hm⟩
  · intro hm
    rcases List.mem_cons.mp hm with e | hm
    · exact absurd F.ns.lt (e ▸ Nat.lt_irrefl _)
    · have hm := List.mem_singleton.mp hm
      rcases hl with ⟨o, ho, _⟩ | ⟨hm', _⟩
      · exact absurd (Nat.lt_of_lt_of_le (Heap.lt_size ho) F.above) (hm ▸ Nat.lt_irrefl _)
      · exact (N _ hm').2.1 hm.symm
  · intro i m₁ news₁ hJ b hb hbI o ho
    rcases List.mem_cons.mp hb with e | hb
    · exact absurd e hbI
    · have hb := List.mem_singleton.mp hb
      subst hb
      rcases hl with ⟨o', ho', _⟩ | ⟨_, hk⟩
      · have := (N _ ho).2.2
        rw [ho'] at this; cases this
      · exact hk i m₁ news₁ hJ o ho
  · intro i v m₁ news₁ h tk oI hlt' hP hadr hJ F₁ N₁
    exact turn s.heap.objs.size i v m₁ news₁ h tk oI (fun p hp => Heap.lt_size (N p hp).1) F.ns.lt hP hlt' hadr hJ F₁ N₁
  · intro m₁ news₁ h tk hJ F₁ N₁
    exact done m₁ news₁ h tk hJ F₁ N₁

/-- over a range -/
theorem iterRange {r : Addr} {a b : Int} {t u v : Tok} {n : Nat} {m₀ : Str → Option Value} {news : List (Addr × Obj)} (J : Nat → (Str → Option Value) → List (Addr × Obj) → Prop)
    (hh : A.handled = none) (hr : IsRange s.heap r a b 1 t u v) (hsm : Builtin.Range.small a b 1 = true) (hn : Builtin.Range.rangeSize a b 1 = ((n : Nat) : Int)) (F : Fr h₀ env.locals s.heap m₀) (N : News h₀ env.locals s.heap news) (hj : J 0 m₀ news)
    (turn : ∀ I i t m₁ news₁ h tk oI, (∀ p ∈ news, @LT.lt Nat _ p.1 I) → @LT.lt Nat _ env.locals I → i < n → news₁.map (·.1) = news.map (·.1) → J i m₁ news₁ → Fr h₀ env.locals h (fun y => if y = x then some (.int (a + (i : Int)) t) else m₁ y) → News h₀ env.locals h ((I, oI) :: news₁) →
      wpAny (model prog w) A (execs body env) (TPost h₀ env.locals (J (i + 1)) [(I, oI)] (news.map (·.1)) { s with heap := h, toks := tk } Q) E { s with heap := h, toks := tk })
    (done : ∀ m₁ news₁ h tk, J n m₁ news₁ → Fr h₀ env.locals h m₁ → News h₀ env.locals h news₁ → Q .next { s with heap := h, toks := tk }) :
    wpAny (model prog w) A (pyIter (.ref r)) (fun it s₂ => LoopAtV prog w A h₀ env x body Q E it s₂) E s := by
  refine wpAny_pyIter_range hr hsm ?_
  refine iterAny (I := s.heap.objs.size) (n := n) (P := fun i v => ∃ t, v = .int (a + (i : Int)) t) (m₀ := m₀) (news := news) J (LCg.range_walks hh a n) ?_ (next_is_new F) ?_ (fun p hp => Heap.lt_size (N p hp).1) ?_ (fun i h st => ⟨_, st⟩)
    (by show IsRangeIter _ _ _ _ _; rw [hn]; simpa using Heap.get?_push_size _ rfl) (F.keeps fun _ _ e => Heap.get?_push_of_some _ e) (N.grown fun _ _ e => Heap.get?_push_of_some _ e) hj ?_ ?_
  · intro b hb _
    exact .inl (List.mem_singleton.mp hb)
  · intro hm
    exact absurd F.ns.lt ((List.mem_singleton.mp hm) ▸ Nat.lt_irrefl _)
  · intro i m₁ news₁ hJ b hb hbI o ho
    exact absurd (List.mem_singleton.mp hb) hbI
  · rintro i v m₁ news₁ h tk oI hlt' ⟨t, rfl⟩ hadr hJ F₁ N₁
    exact turn s.heap.objs.size i t m₁ news₁ h tk oI (fun p hp => Heap.lt_size (N p hp).1) F.ns.lt hlt' hadr hJ F₁ N₁
  · intro m₁ news₁ h tk hJ F₁ N₁
    exact done m₁ news₁ h tk hJ F₁ N₁
end
end
section
theorem upd_eq {x : Str} {v : Value} {m₁ m₀ : Str → Option Value} (h : ∀ z, z ≠ x → m₁ z = m₀ z) : (fun y => if y = x then some v else m₁ y) = fun y => if y = x then some v else m₀ y := by
  funext z
  by_cases h1 : z = x
  · simp [h1]
  · simp only [if_neg h1]; exact h z h1
theorem ints_at {vs : List Value} {fl : List Int} (h : IntsAre vs fl) {i : Nat} {v : Value} (hv : vs.toArray[i]? = some v) : ∃ x t, v = .int x t ∧ fl[i]? = some x := by
  have hv' : vs[i]? = some v := by simpa using hv
  have hi : i < fl.length := by rw [← h.length]; exact (List.getElem?_eq_some_iff.mp hv').1
  obtain ⟨t, hx⟩ := h.get i fl[i] (by simp [hi])
  rw [hx] at hv'
  exact ⟨fl[i], t, (Option.some.inj hv').symm, by simp [hi]⟩
theorem strs_at {vs : List Value} {fl : List Str} (h : StrsAre vs fl) {i : Nat} {v : Value} (hv : vs.toArray[i]? = some v) : ∃ x t, v = .str x t ∧ fl[i]? = some x := by
  have hv' : vs[i]? = some v := by simpa using hv
  clear hv
  induction h generalizing i with
  | nil => simp at hv'
  | cons y t _ ih =>
    cases i with
    | zero => simp at hv'; exact ⟨y, t, hv'.symm, by simp⟩
    | succ j => simp at hv'; simpa using ih hv'
theorem take_snoc {α : Type} {l : List α} {i : Nat} {x : α} (h : l[i]? = some x) : l.take (i + 1) = l.take i ++ [x] := by rw [List.take_add_one, h]; rfl
end
section
section
variable {prog : Program} {w : World} {A : Around} {E : Value → Shared → Prop} {s : Shared} {env : Env} {h₀ : Heap} {x : Str} {body : List Stmt} {Q : Flow → Shared → Prop}
/-- a loop over a list, its body storing no name -/
theorem forList {l L : Addr} {its : Array Value} {c : Nat} {m₀ : Str → Option Value} {news : List (Addr × Obj)} (J : Nat → List (Addr × Obj) → Prop)
    (hh : A.handled = none) (hl : h₀.IsList l its ∨ (l, listOf its c) ∈ news ∧ ∀ i news₁, J i news₁ → ∀ o, (l, o) ∈ news → (l, o) ∈ news₁) (F : Fr h₀ L s.heap m₀) (N : News h₀ L s.heap news) (hj : J 0 news)
    (turn : ∀ I i v news₁ h tk oI, (∀ p ∈ news, @LT.lt Nat _ p.1 I) → @LT.lt Nat _ L I → its[i]? = some v → i < its.size → J i news₁ → Fr h₀ L h (fun y => if y = x then some v else m₀ y) → News h₀ L h ((I, oI) :: news₁) →
      wpAny (model prog w) A (execs body env) (TPost h₀ L (fun m' nx => J (i + 1) nx ∧ ∀ z, z ≠ x → m' z = m₀ z) [(I, oI)] (news.map (·.1)) { s with heap := h, toks := tk } Q) E { s with heap := h, toks := tk })
    (done : ∀ (u : Str → Option Value) news₁ h tk, J its.size news₁ → Fr h₀ L h (fun y => if y = x then u y else m₀ y) → News h₀ L h news₁ → Q .next { s with heap := h, toks := tk }) (hL : env.locals = L := by rfl) :
    wpAny (model prog w) A (pyIter (.ref l)) (fun it s₂ => LoopAtV prog w A h₀ env x body Q E it s₂) E s := by
  subst hL
  refine iterList (c := c) (fun i m nx => J i nx ∧ ∀ z, z ≠ x → m z = m₀ z) hh (hl.imp id fun h => ⟨h.1, fun i m n q => h.2 i n q.1⟩) F N ⟨hj, fun _ _ => rfl⟩ ?_ ?_
  · intro I i v m₁ news₁ h tk oI lI lL hv hi _ hJ F₁ N₁
    rw [upd_eq hJ.2] at F₁
    exact turn I i v news₁ h tk oI lI lL hv hi hJ.1 F₁ N₁
  · intro m₁ news₁ h tk hJ F₁ N₁
    refine done m₁ news₁ h tk hJ.1 ?_ N₁
    have e : (fun z => if z = x then m₁ z else m₀ z) = m₁ := by
      funext z
      by_cases h1 : z = x
      · simp [h1]
      · simp only [if_neg h1]; exact (hJ.2 z h1).symm
    rw [e]; exact F₁
/-- a loop over a range, its body storing one name at most -/
theorem forRange {r L : Addr} {a b : Int} {t u v : Tok} {n : Nat} {m₀ : Str → Option Value} {news : List (Addr × Obj)} (y : Str) (J : Nat → List (Addr × Obj) → Prop)
    (hh : A.handled = none) (hr : IsRange s.heap r a b 1 t u v) (hsm : Builtin.Range.small a b 1 = true) (hn : Builtin.Range.rangeSize a b 1 = ((n : Nat) : Int)) (F : Fr h₀ L s.heap m₀) (N : News h₀ L s.heap news) (hj : J 0 news) (hyx : y ≠ x)
    (turn : ∀ I i t (u : Str → Option Value) news₁ h tk oI, (∀ p ∈ news, @LT.lt Nat _ p.1 I) → @LT.lt Nat _ L I → i < n → J i news₁ → Fr h₀ L h (fun z => if z = x then some (.int (a + (i : Int)) t) else if z = y then u z else m₀ z) → News h₀ L h ((I, oI) :: news₁) →
      wpAny (model prog w) A (execs body env) (TPost h₀ L (fun m' nx => J (i + 1) nx ∧ ∀ z, z ≠ x → z ≠ y → m' z = m₀ z) [(I, oI)] (news.map (·.1)) { s with heap := h, toks := tk } Q) E { s with heap := h, toks := tk })
    (done : ∀ (u : Str → Option Value) news₁ h tk, J n news₁ → Fr h₀ L h (fun z => if z = x then u z else if z = y then u z else m₀ z) → News h₀ L h news₁ → Q .next { s with heap := h, toks := tk }) (hL : env.locals = L := by rfl) :
    wpAny (model prog w) A (pyIter (.ref r)) (fun it s₂ => LoopAtV prog w A h₀ env x body Q E it s₂) E s := by
  subst hL
  have key : ∀ m₁ : Str → Option Value, (∀ z, z ≠ x → z ≠ y → m₁ z = m₀ z) → ∀ z, z ≠ x → m₁ z = (fun z => if z = y then m₁ z else m₀ z) z := by
    intro m₁ h z h1
    by_cases h2 : z = y
    · simp [h2]
    · simp only [if_neg h2]; exact h z h1 h2
  refine iterRange (fun i m nx => J i nx ∧ ∀ z, z ≠ x → z ≠ y → m z = m₀ z) hh hr hsm hn F N ⟨hj, fun _ _ _ => rfl⟩ ?_ ?_
  · intro I i t m₁ news₁ h tk oI lI lL hi _ hJ F₁ N₁
    rw [upd_eq (key m₁ hJ.2)] at F₁
    exact turn I i t m₁ news₁ h tk oI lI lL hi hJ.1 F₁ N₁
  · intro m₁ news₁ h tk hJ F₁ N₁
    refine done m₁ news₁ h tk hJ.1 ?_ N₁
    have e : (fun z => if z = x then m₁ z else if z = y then m₁ z else m₀ z) = m₁ := by
      funext z
      by_cases h1 : z = x
      · simp [h1]
      · simp only [if_neg h1]; exact (key m₁ hJ.2 z h1).symm
    rw [e]; exact F₁
end
end
section
theorem TEnd.tail {h₀ : Heap} {L : Addr} {J : (Str → Option Value) → List (Addr × Obj) → Prop} {m' : Str → Option Value} {p : Addr × Obj} {nx : List (Addr × Obj)} {adr : List Addr} {s₁ : Shared} {h' : Heap} {tk : Nat} (F : Fr h₀ L h' m') (N : News h₀ L h' (p :: nx))
    (ha : nx.map (·.1) = adr) (hj : J m' nx) : TEnd h₀ L J [p] adr s₁ { s₁ with heap := h', toks := tk } :=
  .intro F N (fun _ hp => List.mem_cons_of_mem _ hp) (fun _ hq => List.mem_singleton.mp hq ▸ List.mem_cons_self) ha hj
end
section
theorem any_mem {l : List Int} {x : Int} (h : (l.any fun y => y == x) = true) : x ∈ l := by
  obtain ⟨y, hy, e⟩ := List.any_eq_true.mp h
  exact (beq_iff_eq.mp e) ▸ hy
theorem any_not {l : List Int} {x : Int} (h : (l.any fun y => y == x) = false) : x ∉ l := fun hx => by
  have := List.any_eq_false.mp h x hx
  simp at this
theorem new_of {h g : Heap} {adr : List Addr} {D : Addr} (k : Kept h g adr) (hn : g.get? D = none) (hd : D ∉ adr) : h.get? D = none := by
  cases e : h.get? D with
  | none => rfl
  | some o => have := k D o e hd; rw [hn] at this; cases this
/-- above all of a list -/
theorem off_lt {D : Addr} {news : List (Addr × Obj)} (h : ∀ p ∈ news, @LT.lt Nat _ p.1 D) : D ∉ news.map (·.1) := fun hm => by
  obtain ⟨p, hp, e⟩ := List.mem_map.mp hm
  have := h p hp
  rw [e] at this
  exact Nat.lt_irrefl _ this
theorem kLt {a : KA} {D : Nat} (h : @LT.lt Nat _ a.ik D ∧ @LT.lt Nat _ a.dk D ∧ @LT.lt Nat _ a.ll D ∧ @LT.lt Nat _ a.ls D ∧ @LT.lt Nat _ a.lf D ∧ @LT.lt Nat _ a.pn D ∧ @LT.lt Nat _ a.ps D) : D ∉ kAdr a := fun hm => by
  obtain ⟨h1, h2, h3, h4, h5, h6, h7⟩ := h
  simp only [kAdr, List.mem_cons, List.not_mem_nil, or_false] at hm
  rcases hm with rfl | rfl | rfl | rfl | rfl | rfl | rfl <;> exact Nat.lt_irrefl _ (by assumption)
end
section
/-- an end by a name: what is behind stands once, in «Gets», and not in each goal -/
noncomputable def At {α : Type} (Q : α → Shared → Prop) : α → Shared → Prop := Q
noncomputable def Gets {α : Type} (Q' Q : α → Shared → Prop) : Prop := ∀ v s, Q v s → Q' v s
theorem cutX {α : Type} {M : Model} {A : Around} {X : Sem α} {Q : α → Shared → Prop} {E : Value → Shared → Prop} {s : Shared}
    (h : ∀ Q', Gets Q' Q → wpAny M A X (At Q') E s) : wpAny M A X Q E s := h Q fun _ _ x => x
theorem at_of {α : Type} {Q' Q : α → Shared → Prop} {v : α} {s : Shared} (g : Gets Q' Q) (h : Q v s) : At Q' v s := g v s h
theorem cutE {α : Type} {M : Model} {A : Around} {X : Sem α} {Q : α → Shared → Prop} {E : Value → Shared → Prop} {s : Shared}
    (h : ∀ E', wpAny M A X Q E' s) : wpAny M A X Q E s := h E
noncomputable abbrev stopsAt : List Nat := [90, 97, 104, 111, 118, 125, 130, 137, 165, 170, 175]
section
variable {M : Model} {A : Around} {s : Shared} {E : Value → Shared → Prop}
theorem s_exec {a : Stmt} {e : Env} {Q : Flow → Shared → Prop} (h : wpAny M A (exec a e) Q E s) : wpAny M A (exec a e) Q E s := h
theorem s_if {a b c d} {e : Env} {Q : Flow → Shared → Prop} (h : wpAny M A (exec (.If a b c d) e) Q E s) : wpAny M A (exec (.If a b c d) e) Q E s := h
theorem s_while {a b c d} {e : Env} {Q : Flow → Shared → Prop} (h : wpAny M A (exec (.While a b c d) e) Q E s) : wpAny M A (exec (.While a b c d) e) Q E s := h
theorem s_comp {a b c d} {e : Env} {Q : Value → Shared → Prop} (h : wpAny M A (eval (.ListComp a b c d) e) Q E s) : wpAny M A (eval (.ListComp a b c d) e) Q E s := h
theorem s_ifexp {a b c d} {e : Env} {Q : Value → Shared → Prop} (h : wpAny M A (eval (.IfExp a b c d) e) Q E s) : wpAny M A (eval (.IfExp a b c d) e) Q E s := h
theorem s_call {n : Nat} {a b} {Q : Value → Shared → Prop} (_ : n ∈ stopsAt) (h : wpAny M A (call (.ref n) a b) Q E s) : wpAny M A (call (.ref n) a b) Q E s := h
theorem s_done {R : Result → Shared → Prop} {v : Value} (h : Done R v s) : Done R v s := h
theorem s_at {α : Type} {Q : α → Shared → Prop} {X : Sem α} (h : wpAny M A X (At Q) E s) : wpAny M A X (At Q) E s := h
end
section
variable {prog : Program} {w : World} {A : Around} {s : Shared} {E : Value → Shared → Prop}
theorem s_tpost {h₀ L J own adr s₁ Q f} (h : TPost h₀ L J own adr s₁ Q f s) : TPost h₀ L J own adr s₁ Q f s := h
theorem s_iter {b a c d e f g i j k} (h : wpAny (model prog w) A (pyIter (.ref a)) (fun it s₂ => LoopAtV b c d e f g i j k it s₂) E s) : wpAny (model prog w) A (pyIter (.ref a)) (fun it s₂ => LoopAtV b c d e f g i j k it s₂) E s := h
theorem s_cend {a b c d e f g i j k l m n} (h : LCg.CompEnd a b c d e f g i j k l m n s) : LCg.CompEnd a b c d e f g i j k l m n s := h
theorem s_srcT {a b c d e f g i j k l m n o p} (h : LCt.CompSrcT a b c d e f g i j k l m n o p) : LCt.CompSrcT a b c d e f g i j k l m n o p := h
theorem s_src {a b c d e f g i j k l m n o} (h : LCg.CompSrc a b c d e f g i j k l m n o) : LCg.CompSrc a b c d e f g i j k l m n o := h
end
end
section
/-- the switches of some names -/
noncomputable def swOf (names : List Str) (sws : List Int) (x : Str) : Int := sws.getD (names.idxOf x) 0
theorem swOf_at {names : List Str} {sws : List Int} {x : Str} (hx : x ∈ names) (h : names.length = sws.length) : sws[names.idxOf x]? = some (swOf names sws x) := by
  have h1 := List.idxOf_lt_length_of_mem hx
  unfold swOf
  rw [List.getD_eq_getElem?_getD]
  have : names.idxOf x < sws.length := by omega
  simp [this]
theorem ints_item {its : Array Value} {ns : List Int} (h : IntsAre its.toList ns) {i : Nat} {x : Int} (hx : ns[i]? = some x) : ∃ t, its[i]? = some (.int x t) := by
  obtain ⟨t, e⟩ := h.get i x hx
  exact ⟨t, by simpa using e⟩
theorem strs_itemL {its : List Value} {ns : List Str} (h : StrsAre its ns) : ∀ {i : Nat} {x : Str}, ns[i]? = some x → ∃ t, its[i]? = some (.str x t) := by
  induction h with
  | nil => intro i x hx; simp at hx
  | cons y t _ ih =>
    intro i x hx
    cases i with
    | zero => simp at hx; exact ⟨t, by simp [hx]⟩
    | succ j => simp at hx; simpa using ih hx
theorem strs_item {its : Array Value} {ns : List Str} (h : StrsAre its.toList ns) {i : Nat} {x : Str} (hx : ns[i]? = some x) : ∃ t, its[i]? = some (.str x t) := by
  obtain ⟨t, e⟩ := strs_itemL h hx
  exact ⟨t, by simpa using e⟩
theorem idx_at {α : Type} [DecidableEq α] {names : List α} {x : α} (hx : x ∈ names) : names[names.idxOf x]? = some x := by
  have h1 := List.idxOf_lt_length_of_mem hx
  simp [h1]
section
variable {prog : Program} {w : World} {K : Type} [DecidableEq K] {knd : KeyKind prog w K} {A : Around} {E : Value → Shared → Prop} {s : Shared} {h₀ : Heap} {L d l : Addr} {m : Str → Option Value} {news : List (Addr × Obj)}
  {o : Obj} {kvs : List (K × Value)} {ks : List K} {k : K} {key : Value} {its : Array Value} {n : Nat}
theorem item_places {value slice : Expr} {Q : Value → Shared → Prop} (hkey : knd.is k key = true) (N : News h₀ L s.heap news) (hm : (d, o) ∈ news) (hd : o.IsDictOf knd kvs) (hp : Places kvs ks 0) (hnd : ks.Nodup) (hk : k ∈ ks)
    (h : ∀ t, Q (.int ((ks.idxOf k : Nat) : Int) t) { s with toks := s.toks + 1 })
    (hs : subscripted slice false (.ref d) key = operate [.ref d, key] (getItem (.ref d) key) := by with_unfolding_all rfl) :
    wpAny (model prog w) A (subscriptTail value slice (.ref d) key) Q E s := by
  obtain ⟨t, ht⟩ := hp.at hnd (idx_at hk)
  rw [Nat.zero_add] at ht
  exact item_led hkey N hm hd ht (h t) hs
theorem item_ints {value slice : Expr} {Q : Value → Shared → Prop} {ns : List Int} {i : Nat} {x : Int} {u : Tok} (N : News h₀ L s.heap news) (hm : (l, listOf its n) ∈ news) (hi : IntsAre its.toList ns) (hx : ns[i]? = some x) (hz : ns.length ≤ 16777216) (h : ∀ t, Q (.int x t) s)
    (hs : subscripted slice false (.ref l) (.int i u) = operate [.ref l, .int i u] (getItem (.ref l) (.int i u)) := by with_unfolding_all rfl) :
    wpAny (model prog w) A (subscriptTail value slice (.ref l) (.int i u)) Q E s := by
  obtain ⟨t, ht⟩ := ints_item hi hx
  have hL : s.heap.IsList l its := ⟨_, (N _ hm).1, rfl, n, rfl⟩
  have hlt : i < ns.length := (List.getElem?_eq_some_iff.mp hx).1
  exact tail_any hL.typeIs slot_list_getitem.lookup (wpAny_getItem_list hL (by omega) (by omega) (by simpa using ht) (h t)) hs
theorem item_strs {value slice : Expr} {Q : Value → Shared → Prop} {ns : List Str} {i : Nat} {x : Str} {u : Tok} (N : News h₀ L s.heap news) (hm : (l, listOf its n) ∈ news) (hi : StrsAre its.toList ns) (hx : ns[i]? = some x) (hz : ns.length ≤ 16777216) (h : ∀ t, Q (.str x t) s)
    (hs : subscripted slice false (.ref l) (.int i u) = operate [.ref l, .int i u] (getItem (.ref l) (.int i u)) := by with_unfolding_all rfl) :
    wpAny (model prog w) A (subscriptTail value slice (.ref l) (.int i u)) Q E s := by
  obtain ⟨t, ht⟩ := strs_item hi hx
  have hL : s.heap.IsList l its := ⟨_, (N _ hm).1, rfl, n, rfl⟩
  have hlt : i < ns.length := (List.getElem?_eq_some_iff.mp hx).1
  exact tail_any hL.typeIs slot_list_getitem.lookup (wpAny_getItem_list hL (by omega) (by omega) (by simpa using ht) (h t)) hs
end
end
section
section
variable {prog : Program} {w : World} {A : Around} {base : Heap} {l : List Env} {s : Shared} {news : List (Addr × Obj)} {K : Frag} {R : Result → Shared → Prop} {name qual : Str} {params : Arguments} {body : List Stmt} {scope : Scope}
  {dV kV doc pm cdv ct oc : Value} {an od : Option Addr} {osl : Array (Option Value)} {f : Addr} {args : Args} {binds : List (Str × Value)} {p : Program} {loose : List Str} {mean : ExcName → Option Value} {mg mb : Str → Option Value}
/-- as «enter», of a def with cells -/
theorem enterC (B : Below A base l s.heap) (X : K.In base) (N : Led base l s.heap news) (T : Top p loose mean mg mb base)
    (ho : K.lookup f = some ⟨oc, od, .func (fnOf name qual params body scope dV kV doc pm an cdv ct), osl⟩) (hcd : codeIn K cdv qual = true) (hroom : A.depth < recursionLimit)
    (hbind : BindsTo s (fnOf name qual params body scope dV kV doc pm an cdv ct) args binds) (hkind : (binds.all fun y => scope.names.lookup y.1 == some .local || scope.names.lookup y.1 == some .cell) = true)
    (hnd : ((cellsFrom 0 scope.names []).map (·.1)).Nodup)
    (h : ∀ g L' h₁ tk cells, Fr g L' h₁ (bindL (envOfC qual scope L' f cdv).kindOf binds fun _ => none) → News g L' h₁ (cells ++ news) →
      CellsAre (bindC (envOfC qual scope L' f cdv).kindOf binds fun _ => none) (cellsFrom (L' + 1) scope.names []) cells → Below A base l g → K.In g → Top p loose mean mg mb g → Kept s.heap g (news.map (·.1)) → g.StaysIn s.heap → (∀ p ∈ news, p.1 < L') → (∀ b, @LE.le Nat _ L' b → s.heap.get? b = none) →
      wpAny (model prog w) (A.deeper (envOfC qual scope L' f cdv)) (execs body (envOfC qual scope L' f cdv))
        (fun fl s' => Done R (match fl with | .ret v => v | _ => .none) s')
        (fun e s' => wpAny (model prog w) (A.deeper (envOfC qual scope L' f cdv)) (leaving (envOfC qual scope L' f cdv) e) (fun _ s'' => R (.error e) s'') (fun e' s'' => R (.error e') s'') s')
        { s with heap := h₁, toks := tk })
    (hco : scope.isCoroutine = false) (hgen : scope.isGenerator = false) (hk : scope.kind = .function) : codeAny (model prog w) A (.call (.ref f) args) R s := by
  obtain ⟨BG, st⟩ := ground B N
  have X' := X.keeps B.stays
  have ho' := X' _ _ ho
  refine codeAny_call_function (fd := fnOf name qual params body scope dV kV doc pm an cdv ct) hroom ho' rfl hco hgen rfl (codeRec_of X' hcd) (hbind _ _ _ _ ?_)
  refine wpAny_newFunctionEnv_cells hk (kindsX hkind _) fun env' he s' x => ?_
  subst he
  refine ⟨(T.nolimit.keeps B.stays).keeps x.toInCall.keep, codeAny_func ?_⟩
  obtain ⟨h₁, tk, rfl, _⟩ := x.done
  have hk₁ := x.toInCall.keep
  obtain ⟨cells, NC, Y⟩ := Cl.news (h₀ := s.heap) (Nat.le_refl _) fun n c hm => ⟨x.cell n c (lookup_of_mem_nodup (cellsFrom_names scope.names 0 (s.heap.objs.size + 1) [] [] rfl ▸ hnd) hm), x.above n c hm⟩
  refine wpAny_mono (h _ s.heap.objs.size h₁ tk cells ⟨x.toInCall.ns, fun b o e => hk₁ b o (of_hideAll _ e), Nat.le_of_eq (hideAll_size _ _)⟩ (fun p hp => ?_) Y BG (X.keeps st) (T.keeps st) (fun b o e n => hideAll_get _ e n) (fun b o e => of_hideAll _ e) (fun p hp => Heap.lt_size (N p hp).1) (fun b hb => Heap.get?_none_of_le hb)) (fun fl s' hl => hl.1) fun _ _ y => y
  rcases List.mem_append.mp hp with hp | hp
  · refine ⟨(NC p hp).1, (NC p hp).2.1, ?_⟩
    cases q : (hideAll s.heap (news.map (·.1))).get? p.1 with
    | none => rfl
    | some o => have := of_hideAll _ q; rw [(NC p hp).2.2] at this; cases this
  · exact ⟨hk₁ _ _ (N p hp).1, Nat.ne_of_lt (Heap.lt_size (N p hp).1), hideAll_none _ (List.mem_map_of_mem hp)⟩
end
end
section
/-- the places of those that are switches -/
noncomputable def plc (sws fl : List Int) : List Int := (fl.filter fun x => decide (x ∈ sws)).map fun x => ((sws.idxOf x : Nat) : Int)
theorem plc_in {sws fl : List Int} {x : Int} (h : x ∈ sws) : plc sws (fl ++ [x]) = plc sws fl ++ [((sws.idxOf x : Nat) : Int)] := by simp [plc, h]
theorem plc_out {sws fl : List Int} {x : Int} (h : x ∉ sws) : plc sws (fl ++ [x]) = plc sws fl := by simp [plc, h]
theorem plc_len (sws fl : List Int) : (plc sws fl).length ≤ fl.length := by rw [plc, List.length_map]; exact List.length_filter_le _ _
theorem plc_bound {sws fl : List Int} {p : Int} (h : p ∈ plc sws fl) : ∃ j : Nat, p = (j : Int) ∧ j < sws.length := by
  obtain ⟨x, hx, rfl⟩ := List.mem_map.mp h
  refine ⟨_, rfl, List.idxOf_lt_length_of_mem ?_⟩
  simpa using (List.mem_filter.mp hx).2
theorem plc_mem {sws fl : List Int} (hn : sws.Nodup) {j : Nat} (hj : j < sws.length) : ((j : Int) ∈ plc sws fl) ↔ sws.getD j 0 ∈ fl := by
  have e : sws.getD j 0 = sws[j] := by simp [hj]
  rw [e]
  constructor
  · intro h
    obtain ⟨x, hx, he⟩ := List.mem_map.mp h
    have hx' := List.mem_filter.mp hx
    have hm : x ∈ sws := by simpa using hx'.2
    have he' : sws.idxOf x = j := by omega
    have := idx_at hm
    rw [he'] at this
    have h2 : sws[j]? = some sws[j] := by simp [hj]
    rw [h2] at this
    rw [Option.some.inj this]
    exact hx'.1
  · intro h
    refine List.mem_map.mpr ⟨sws[j], List.mem_filter.mpr ⟨h, by simp⟩, ?_⟩
    have : sws.idxOf sws[j] = j := by exact hn.idxOf_getElem j hj
    rw [this]
/-- the places of a list, in order -/
noncomputable def posOf (n : Nat) (l : List Int) : List Nat := (List.range n).filter fun j => decide ((j : Int) ∈ l)
theorem inc_eq : ∀ {a b : List Nat}, a.Pairwise (· < ·) → b.Pairwise (· < ·) → (∀ x, x ∈ a ↔ x ∈ b) → a = b
  | [], [], _, _, _ => rfl
  | [], y :: b, _, _, h => absurd ((h y).mpr List.mem_cons_self) (by simp)
  | x :: a, [], _, _, h => absurd ((h x).mp List.mem_cons_self) (by simp)
  | x :: a, y :: b, ha, hb, h => by
    have ha' := List.pairwise_cons.mp ha
    have hb' := List.pairwise_cons.mp hb
    have e : x = y := by
      rcases List.mem_cons.mp ((h x).mp List.mem_cons_self) with e | e
      · exact e
      · rcases List.mem_cons.mp ((h y).mpr List.mem_cons_self) with e' | e'
        · exact e'.symm
        · have h1 := hb'.1 x e
          have h2 := ha'.1 y e'
          omega
    subst e
    rw [inc_eq ha'.2 hb'.2 fun z => ?_]
    constructor
    · intro hz
      rcases List.mem_cons.mp ((h z).mp (List.mem_cons_of_mem _ hz)) with e | e
      · have := ha'.1 z hz; omega
      · exact e
    · intro hz
      rcases List.mem_cons.mp ((h z).mpr (List.mem_cons_of_mem _ hz)) with e | e
      · have := hb'.1 z hz; omega
      · exact e
theorem posOf_inc (n : Nat) (l : List Int) : (posOf n l).Pairwise (· < ·) := List.Pairwise.filter _ List.pairwise_lt_range
theorem posOf_mem {n : Nat} {l : List Int} {j : Nat} : j ∈ posOf n l ↔ j < n ∧ (j : Int) ∈ l := by simp [posOf]
theorem posOf_in {n : Nat} {l : List Int} {p : Nat} (h : (p : Int) ∈ l) : posOf n (l ++ [(p : Int)]) = posOf n l := by
  unfold posOf
  refine List.filter_congr fun j _ => ?_
  simp only [List.mem_append, List.mem_singleton]
  congr 1
  refine propext ⟨fun h' => ?_, .inl⟩
  rcases h' with h' | h'
  · exact h'
  · rw [h']; exact h
theorem posOf_out {n : Nat} {l : List Int} {p : Nat} (hp : p < n) (h : (p : Int) ∉ l) (hl : ∀ x ∈ l, x ≤ (p : Int)) : posOf n (l ++ [(p : Int)]) = posOf n l ++ [p] := by
  refine inc_eq (posOf_inc _ _) ?_ fun j => ?_
  · rw [List.pairwise_append]
    refine ⟨posOf_inc _ _, List.pairwise_singleton _ _, fun a ha b hb => ?_⟩
    rw [List.mem_singleton.mp hb]
    have h1 := (posOf_mem.mp ha).2
    have h2 := hl _ h1
    have h3 : (a : Int) ≠ p := fun e => h (e ▸ h1)
    omega
  · simp only [posOf_mem, List.mem_append, List.mem_singleton]
    constructor
    · rintro ⟨h1, h2 | h2⟩
      · exact .inl ⟨h1, h2⟩
      · exact .inr (by omega)
    · rintro (⟨h1, h2⟩ | h2)
      · exact ⟨h1, .inl h2⟩
      · exact ⟨by omega, .inr (by omega)⟩
theorem posOf_congr {n : Nat} {a b : List Int} (h : ∀ j : Nat, j < n → ((j : Int) ∈ a ↔ (j : Int) ∈ b)) : posOf n a = posOf n b := inc_eq (posOf_inc _ _) (posOf_inc _ _) fun j => by
  rw [posOf_mem, posOf_mem]
  exact ⟨fun ⟨x, y⟩ => ⟨x, (h j x).mp y⟩, fun ⟨x, y⟩ => ⟨x, (h j x).mpr y⟩⟩
noncomputable def nmsAt (names : List Str) (l : List Nat) : List Str := l.map fun j => names.getD j Str.empty
theorem zip_range {names : List Str} {sws : List Int} (h : names.length = sws.length) : names.zip sws = (List.range names.length).map fun j => (names.getD j Str.empty, sws.getD j 0) := by
  refine List.ext_getElem (by simp [h]) fun i h1 h2 => ?_
  have h3 : i < names.length := by simp at h1; omega
  have h4 : i < sws.length := h ▸ h3
  simp [h3, h4]
theorem names_of_eq {names : List Str} {sws fl ns : List Int} (hl : names.length = sws.length) (hn : sws.Nodup) (hp : ns.Perm (plc sws fl)) : nmsAt names (posOf names.length ns) = ((names.zip sws).filter fun p => decide (p.2 ∈ fl)).map (·.1) := by
  rw [zip_range hl, List.filter_map, List.map_map, posOf_congr (b := plc sws fl) (fun j _ => hp.mem_iff)]
  unfold nmsAt posOf
  have e : ((List.range names.length).filter fun (j : Nat) => decide ((j : Int) ∈ plc sws fl)) = (List.range names.length).filter ((fun p : Str × Int => decide (p.2 ∈ fl)) ∘ fun j => (names.getD j Str.empty, sws.getD j 0)) := by
    refine List.filter_congr fun j hj => ?_
    have : j < sws.length := by have := List.mem_range.mp hj; omega
    simp only [Function.comp]
    congr 1
    exact propext (plc_mem hn this)
  rw [e]
  rfl
end
open PySem PySem.W PySem.Calls PyProof.Rows PySem.Spec PySem.SeqAt
section
theorem rA_strs {h : Heap} : ∀ {vs : List Value} {ns : List Str}, StrsAre vs ns → ReadsAll h vs (ns.map PyData.str) []
  | _, _, .nil => .nil
  | _, _, .cons k t r => by
    have := ReadsAll.cons (Reads.str (h := h) k t) (rA_strs (h := h) r)
    simpa using this
theorem r_strs {h : Heap} {a : Addr} {vs : List Value} {ns : List Str} (hl : h.IsList a vs.toArray) (hi : StrsAre vs ns) : Reads h (.ref a) (.list (ns.map PyData.str)) [a] := by
  obtain ⟨o, ho, hc, n, hd⟩ := hl
  exact Reads.list ho hc hd (by simpa using rA_strs hi)
theorem lay_strs : ∀ ns : List Str, (∀ n ∈ ns, PyData.strOk n = true) → PyData.canLayAll0 (ns.map PyData.str) = true
  | [], _ => by simp [PyData.canLayAll0]
  | n :: r, h => by simp [PyData.canLayAll0, PyData.canLay0, lay_strs r fun x hx => h x (List.mem_cons_of_mem _ hx), h n List.mem_cons_self]
theorem dep_strs : ∀ ns : List Str, PyData.depthAll (ns.map PyData.str) ≤ 1
  | [] => by simp [PyData.depthAll]
  | n :: r => by
    have := dep_strs r
    simp only [List.map_cons, PyData.depthAll, PyData.depth]
    omega
theorem shaped_strs (ns : List Str) (h : ∀ n ∈ ns, PyData.strOk n = true) : shaped (.list (ns.map PyData.str)) = true := by
  have h1 := dep_strs ns
  have h2 : PyData.depth (.list (ns.map PyData.str)) ≤ 64 := by simp only [PyData.depth]; omega
  show (PyData.canLay0 (.list (ns.map PyData.str)) && decide (PyData.depth (.list (ns.map PyData.str)) ≤ 64)) = true
  rw [Bool.and_eq_true]
  exact ⟨by simp only [PyData.canLay0]; exact lay_strs ns h, decide_eq_true h2⟩
theorem noMix_strs : ∀ ns ms : List Str, noMixAll (ns.map PyData.str) (ms.map PyData.str) = true
  | [], [] => by simp [noMixAll]
  | [], _ :: _ => by simp [noMixAll]
  | _ :: _, [] => by simp [noMixAll]
  | _ :: r, _ :: q => by simp [noMixAll, noMix, noMix_strs r q]
theorem same_strs : ∀ ns ms : List Str, PySem.Spec.sameAll (ns.map PyData.str) (ms.map PyData.str) = decide (ns = ms)
  | [], [] => by simp [PySem.Spec.sameAll]
  | [], _ :: _ => by simp [PySem.Spec.sameAll]
  | _ :: _, [] => by simp [PySem.Spec.sameAll]
  | n :: r, k :: q => by
    simp only [List.map_cons, PySem.Spec.sameAll, PySem.Spec.same, same_strs r q]
    by_cases h : n = k <;> simp [h]
theorem tA (a : Array Value) : a = a.toList.toArray := by simp
section
variable {prog : Program} {w : World} {A : Around} {E : Value → Shared → Prop} {s : Shared} {a b : Addr} {xs ys : Array Value} {Q : Value → Shared → Prop}
theorem eq_strs {ns ms : List Str} (hl : s.heap.IsList a xs) (hl' : s.heap.IsList b ys) (hi : StrsAre xs.toList ns) (hi' : StrsAre ys.toList ms) (hu : A.units + 64 < cLine) (k : ∀ n ∈ ns, PyData.strOk n = true) (k' : ∀ n ∈ ms, PyData.strOk n = true)
    (h : Q (.bool (decide (ns = ms))) s) : wpAny (model prog w) A (compareOp .Eq (.ref a) (.ref b)) Q E s :=
  eq_dataH_same (r_strs (tA xs ▸ hl) hi) (r_strs (tA ys ▸ hl') hi') (shaped_strs ns k) (shaped_strs ms k') hu (by simp only [noMix]; exact noMix_strs ns ms) (by simp only [PySem.Spec.same]; rw [same_strs]; exact h)
theorem ne_strs {ns ms : List Str} (hl : s.heap.IsList a xs) (hl' : s.heap.IsList b ys) (hi : StrsAre xs.toList ns) (hi' : StrsAre ys.toList ms) (hu : A.units + 64 < cLine) (k : ∀ n ∈ ns, PyData.strOk n = true) (k' : ∀ n ∈ ms, PyData.strOk n = true)
    (h : Q (.bool (!decide (ns = ms))) s) : wpAny (model prog w) A (compareOp .NotEq (.ref a) (.ref b)) Q E s :=
  ne_dataH_same (r_strs (tA xs ▸ hl) hi) (r_strs (tA ys ▸ hl') hi') (shaped_strs ns k) (shaped_strs ms k') hu (by simp only [noMix]; exact noMix_strs ns ms) (by simp only [PySem.Spec.same]; rw [same_strs]; exact h)
theorem eq_ints {ns ms : List Int} (hl : s.heap.IsList a xs) (hl' : s.heap.IsList b ys) (hi : IntsAre xs.toList ns) (hi' : IntsAre ys.toList ms) (hu : A.units + 64 < cLine)
    (h : Q (.bool (decide (ns = ms))) s) : wpAny (model prog w) A (compareOp .Eq (.ref a) (.ref b)) Q E s := eq_intsK (tA xs ▸ hl) hi (tA ys ▸ hl') hi' hu h
theorem ne_ints {ns ms : List Int} (hl : s.heap.IsList a xs) (hl' : s.heap.IsList b ys) (hi : IntsAre xs.toList ns) (hi' : IntsAre ys.toList ms) (hu : A.units + 64 < cLine)
    (h : Q (.bool (!decide (ns = ms))) s) : wpAny (model prog w) A (compareOp .NotEq (.ref a) (.ref b)) Q E s := ne_intsK (tA xs ▸ hl) hi (tA ys ▸ hl') hi' hu h
theorem eq_nil (hl : s.heap.IsList a xs) (hl' : s.heap.IsList b #[]) (hu : A.units < cLine) (h : Q (.bool (decide (xs.size = 0))) s) : wpAny (model prog w) A (compareOp .Eq (.ref a) (.ref b)) Q E s := by
  by_cases hz : xs.size = 0
  · have : xs = #[] := Array.eq_empty_of_size_eq_zero hz
    subst this
    exact eq_listAt (e := fun _ => true) hl hl' rfl hu (fun j h1 _ => absurd h1 (Nat.not_lt_zero _)) h
  · rw [decide_eq_false hz] at h
    exact eq_list_lengthsAt hl hl' (by simpa using hz) hu h
theorem isL {h₀ : Heap} {L l : Addr} {news : List (Addr × Obj)} {its : Array Value} {n : Nat} (N : News h₀ L s.heap news) (hm : (l, listOf its n) ∈ news) : s.heap.IsList l its := ⟨_, (N _ hm).1, rfl, n, rfl⟩
end
section
variable {h₀ : Heap} {L I C D : Addr} {m : Str → Option Value} {s₁ : Shared} {oI oC oD : Obj} {S : List (Addr × Obj) → Prop} {rest : Value → List (Addr × Obj) → Prop} {y : Value} {h' : Heap} {tk : Nat} {news news' : List (Addr × Obj)}
theorem off_congr : ∀ {a b : List (Addr × Obj)}, LCg.Off3 I C D a → a.map (·.1) = b.map (·.1) → LCg.Off3 I C D b
  | [], [], _, _ => trivial
  | [], _ :: _, _, e => nomatch e
  | _ :: _, [], _, e => nomatch e
  | p :: a, q :: b, h, e => by
    simp only [List.map_cons, List.cons.injEq] at e
    exact ⟨e.1 ▸ h.1, off_congr h.2 e.2⟩
/-- the end of a block's turn, the ledger's addresses being those of its start -/
theorem cEnd (F : Fr h₀ L h' m) (N : News h₀ L h' ((I, oI) :: (C, oC) :: (D, oD) :: news')) (off : LCg.Off3 I C D news) (e : news.map (·.1) = news'.map (·.1)) (hS : S news') (r : rest y news') :
    LCg.CompEnd h₀ L m s₁ I oI C oC D oD S rest y { s₁ with heap := h', toks := tk } := ⟨h', tk, news', rfl, F, N, off_congr off e, hS, r⟩
end
end
section
theorem last_of_max : ∀ {a : List Nat} {j : Nat}, a.Pairwise (· < ·) → j ∈ a → (∀ x ∈ a, x ≤ j) → a.getLast? = some j
  | [], j, _, h, _ => by simp at h
  | [x], j, _, h, _ => by
    rw [List.mem_singleton.mp h]; rfl
  | x :: y :: r, j, hp, h, hm => by
    have hp' := List.pairwise_cons.mp hp
    rw [List.getLast?_cons_cons]
    refine last_of_max hp'.2 ?_ fun z hz => hm z (List.mem_cons_of_mem _ hz)
    rcases List.mem_cons.mp h with e | h
    · have h1 := hp'.1 y List.mem_cons_self
      have h2 := hm y (List.mem_cons_of_mem _ List.mem_cons_self)
      omega
    · exact h
theorem getD_inj {names : List Str} (hn : names.Nodup) {q j : Nat} (hq : q < names.length) (hj : j < names.length) (e : names.getD q Str.empty = names.getD j Str.empty) : q = j := by
  have e1 : names.getD q Str.empty = names[q] := by simp [hq]
  have e2 : names.getD j Str.empty = names[j] := by simp [hj]
  rw [e1, e2] at e
  have := hn.idxOf_getElem q hq
  rw [e, hn.idxOf_getElem j hj] at this
  exact this.symm
theorem nms_last {names : List Str} {l : List Nat} {q : Nat} (h : l.getLast? = some q) : (nmsAt names l).getLastD Str.empty = names.getD q Str.empty := by
  unfold nmsAt
  rw [List.getLastD_eq_getLast?, List.getLast?_map, h]
  rfl
theorem le_of_sorted : ∀ {ns : List Int}, ns.Pairwise (· ≤ ·) → ∀ {i : Nat} {x : Int}, ns[i]? = some x → ∀ y ∈ ns.take i, y ≤ x
  | [], _, i, x, h, y, hy => by simp at h
  | a :: r, hp, i, x, h, y, hy => by
    have hp' := List.pairwise_cons.mp hp
    cases i with
    | zero => simp at hy
    | succ k =>
      simp only [List.getElem?_cons_succ] at h
      simp only [List.take_succ_cons, List.mem_cons] at hy
      rcases hy with rfl | hy
      · exact hp'.1 x (List.mem_of_getElem? h)
      · exact le_of_sorted hp'.2 h y hy
theorem step_new {names : List Str} {l : List Int} {j : Nat} (hj : j < names.length) (hl : ∀ x ∈ l, x ≤ (j : Int)) (h : (nmsAt names (posOf names.length l)).length = 0 ∨ (nmsAt names (posOf names.length l)).getLastD Str.empty ≠ names.getD j Str.empty) :
    nmsAt names (posOf names.length (l ++ [(j : Int)])) = nmsAt names (posOf names.length l) ++ [names.getD j Str.empty] := by
  have hm : (j : Int) ∉ l := fun hm => by
    have hj' : j ∈ posOf names.length l := posOf_mem.mpr ⟨hj, hm⟩
    rcases h with h | h
    · unfold nmsAt at h
      rw [List.length_map] at h
      rw [List.eq_nil_of_length_eq_zero h] at hj'
      simp at hj'
    · refine h (nms_last (last_of_max (posOf_inc _ _) hj' fun x hx => ?_))
      have := hl _ (posOf_mem.mp hx).2
      omega
  rw [posOf_out hj hm hl]
  simp [nmsAt]
theorem step_old {names : List Str} {l : List Int} {j : Nat} (hn : names.Nodup) (hj : j < names.length) (hz : ¬ (nmsAt names (posOf names.length l)).length = 0) (h : (nmsAt names (posOf names.length l)).getLastD Str.empty = names.getD j Str.empty) :
    nmsAt names (posOf names.length (l ++ [(j : Int)])) = nmsAt names (posOf names.length l) := by
  have hne : posOf names.length l ≠ [] := fun e => hz (by rw [e]; rfl)
  obtain ⟨q, hq⟩ : ∃ q, (posOf names.length l).getLast? = some q := ⟨_, List.getLast?_eq_some_getLast hne⟩
  have hqm := posOf_mem.mp (List.mem_of_getLast? hq)
  rw [nms_last hq] at h
  have := getD_inj hn hqm.1 hj h
  subst this
  rw [posOf_in hqm.2]
section
variable {prog : Program} {w : World} {A : Around} {E : Value → Shared → Prop} {s : Shared} {h₀ : Heap} {L l : Addr} {news : List (Addr × Obj)} {its : Array Value} {n : Nat}
theorem item_last {value slice : Expr} {Q : Value → Shared → Prop} {ns : List Str} {u : Tok} (N : News h₀ L s.heap news) (hm : (l, listOf its n) ∈ news) (hi : StrsAre its.toList ns) (hz : ¬ its.size = 0) (h : ∀ t, Q (.str (ns.getLastD Str.empty) t) s)
    (hs : subscripted slice false (.ref l) (.int (-1) u) = operate [.ref l, .int (-1) u] (getItem (.ref l) (.int (-1) u)) := by with_unfolding_all rfl) :
    wpAny (model prog w) A (subscriptTail value slice (.ref l) (.int (-1) u)) Q E s := by
  have hL : s.heap.IsList l its := ⟨_, (N _ hm).1, rfl, n, rfl⟩
  have hlen : its.size = ns.length := by rw [← strsAre_length hi]; simp
  have hx : ns[ns.length - 1]? = some (ns.getLastD Str.empty) := by
    rw [List.getLastD_eq_getLast?, List.getLast?_eq_getElem?]
    have : ns.length - 1 < ns.length := Nat.sub_lt (Nat.pos_of_ne_zero (hlen ▸ hz)) Nat.one_pos
    simp [this]
  obtain ⟨t, ht⟩ := strs_item hi hx
  refine tail_any hL.typeIs slot_list_getitem.lookup (wpAny_getItem_list_neg hL (by decide) (Int.neg_le_neg (Int.ofNat_le.mpr (Nat.pos_of_ne_zero hz))) (by decide) ?_ (h t)) hs
  have e : ((-1 : Int) + (its.size : Int)).toNat = ns.length - 1 := hlen ▸ last1 its.size
  rw [e]
  exact ht
end
end
section
section
variable {prog : Program} {w : World} {base g h h' : Heap} {l : List Env} {env : Env} {L : Addr} {m : Str → Option Value} {news pre : List (Addr × Obj)} {adr : List Addr} {a : KA} {d : KD} {k : KS} {names : List Str} {sws floors : List Int}
theorem off_push (o : Off base l adr) (N : News g L h news) (hsub : ∀ b ∈ adr, ∃ ob, (b, ob) ∈ news) (hf : env.frame = some L) : Off base (env :: l) adr := fun b hb => by
  obtain ⟨ob, hob⟩ := hsub b hb
  refine ⟨(o b hb).1, fun hm => ?_⟩
  rcases mem_frames hf hm with e | e
  · exact (N _ hob).2.1 e
  · exact (o b hb).2 e
theorem sub_k {news : List (Addr × Obj)} (hs : ∀ p ∈ kLed a d k, p ∈ news) : ∀ b ∈ kAdr a, ∃ ob, (b, ob) ∈ news := fun b hb => by
  have : b ∈ (kLed a d k).map (·.1) := hb
  obtain ⟨p, hp, rfl⟩ := List.mem_map.mp this
  exact ⟨p.2, hs p hp⟩
theorem kat_of (N : News g L h news) (hs : ∀ p ∈ kLed a d k, p ∈ news) (R : KRep prog w k names sws floors) : KAt prog w a d names sws floors h := ⟨k, fun p hp => (N p (hs p hp)).1, R⟩
theorem after_k (F : Fr g L h m) (N : News g L h (pre ++ kLed a d k)) (hp : ∀ p ∈ pre, p.1 ∉ kAdr a) (kp : Kept h h' (kAdr a)) (K : KAt prog w a d names sws floors h') :
    ∃ k', Fr g L h' m ∧ News g L h' (pre ++ kLed a d k') ∧ KRep prog w k' names sws floors := by
  obtain ⟨k', hk', R⟩ := K
  have hn : ∀ b ∈ kAdr a, g.get? b = none ∧ b ≠ L := fun b hb => by
    have : b ∈ (kLed a d k).map (·.1) := hb
    obtain ⟨p, hp, rfl⟩ := List.mem_map.mp this
    exact ⟨(N p (List.mem_append_right _ hp)).2.2, (N p (List.mem_append_right _ hp)).2.1⟩
  refine ⟨k', frKept F kp hn, fun p hp' => ?_, R⟩
  rcases List.mem_append.mp hp' with q | q
  · exact ⟨kp _ _ (N p (List.mem_append_left _ q)).1 (hp p q), (N p (List.mem_append_left _ q)).2⟩
  · have : p.1 ∈ kAdr a := List.mem_map_of_mem (f := (·.1)) (show p ∈ kLed a d k' from q)
    exact ⟨hk' p q, (hn _ this).2, (hn _ this).1⟩
end
/-- how much stands behind some levels taken back -/
noncomputable def lev (floors : List Int) (n i : Nat) : Nat := if i = 0 then n else (floors.getD (floors.length - i) 0).toNat
structure FOk (floors : List Int) (n : Nat) : Prop where
  inc : floors.Pairwise (· ≤ ·)
  lo : ∀ f ∈ floors, 0 ≤ f
  hi : ∀ f ∈ floors, f ≤ (n : Int)
theorem lev_le {floors : List Int} {n i : Nat} (h : FOk floors n) (hi : i ≤ floors.length) : lev floors n i ≤ n := by
  unfold lev
  split
  · exact Nat.le_refl _
  · next h0 =>
    have hlt : floors.length - i < floors.length := sl2 h0 hi
    have e : floors.getD (floors.length - i) 0 = floors[floors.length - i] := by simp [hlt]
    rw [e]
    exact Int.toNat_le.mpr (h.hi _ (List.getElem_mem hlt))
theorem lev_step {floors : List Int} {n i : Nat} (h : FOk floors n) (hi : i < floors.length) : lev floors n (i + 1) ≤ lev floors n i := by
  by_cases h0 : i = 0
  · subst h0
    have e : lev floors n 0 = n := rfl
    rw [e]
    exact lev_le h hi
  · unfold lev
    rw [if_neg (Nat.succ_ne_zero i), if_neg h0]
    have hlt : floors.length - i < floors.length := sl2 h0 (Nat.le_of_lt hi)
    have hlt' : floors.length - (i + 1) < floors.length := sl1 hi
    have e : floors.getD (floors.length - i) 0 = floors[floors.length - i] := by simp [hlt]
    have e' : floors.getD (floors.length - (i + 1)) 0 = floors[floors.length - (i + 1)] := by simp [hlt']
    rw [e, e']
    exact Int.toNat_le_toNat (List.pairwise_iff_getElem.mp h.inc _ _ hlt' hlt (sl3 hi))
theorem take_last {α : Type} (l : List α) {i : Nat} (hi : i < l.length) : l.take (i + 1) = l.take i ++ [l[i]] := by rw [List.take_add_one]; simp [hi]
theorem floors_split {floors : List Int} {i : Nat} {n : Nat} (h : FOk floors n) (hi : i < floors.length) : floors.take (floors.length - i) = floors.take (floors.length - (i + 1)) ++ [((lev floors n (i + 1) : Nat) : Int)] := by
  have hlt : floors.length - (i + 1) < floors.length := sl1 hi
  have e : floors.length - i = floors.length - (i + 1) + 1 := sl4 hi
  rw [e, take_last _ hlt]
  congr 2
  unfold lev
  rw [if_neg (Nat.succ_ne_zero i)]
  have e' : floors.getD (floors.length - (i + 1)) 0 = floors[floors.length - (i + 1)] := by simp [hlt]
  rw [e']
  exact (Int.toNat_of_nonneg (h.lo _ (List.getElem_mem hlt))).symm
theorem small3 {m : Nat} (h : m ≤ 3) : Builtin.Range.small 0 (m : Int) 1 = true ∧ Builtin.Range.rangeSize 0 (m : Int) 1 = ((m : Nat) : Int) :=
  ⟨PySem.small_one (by decide) (by decide) (by omega) (by omega), by rw [PyProof.Rows.rangeSize_nat, Int.sub_zero, Int.toNat_natCast]⟩
end
section
example : True := by w_top off; trivial


set_option maxHeartbeats 4000000 in
theorem draw_spec {prog : Program} {w : World} {base : Heap} {l : List Env} {dp un : Nat} {gd : Option (List Code)} {s : Shared} {p : Program} {loose : List Str} {mean : ExcName → Option Value} {mg mb : Str → Option Value}
    {df lc : Addr} {fo : Obj} {tk : Tok} {k : Int} {cv : List Value} {ns : List Int} {top : Int} {tt : Tok} {Q E : Value → Shared → Prop}
    (X : (hd.heap_39 w.params).In base) (T : Top p loose mean mg mb base) (B : Below (mkA dp un gd l) base l s.heap)
    (hdp : dp ≤ 600) (hun : un ≤ 1000)
    (N : Led base l s.heap [(df, fo)]) (hf : fo.IsDictOf (strKind prog w) [("cells", .ref lc), ("at", .int k tk)])
    (hl : s.heap.IsList lc cv.toArray) (hi : IntsAre cv ns) (hlen : ns.length ≤ 63) (hne : 0 < ns.length) (hk0 : 0 ≤ k) (hk : k ≤ 1000) (htop : 0 < top) (hlc : lc ≠ df)
    (ret : ∀ h' fo' tk' tk2 r t, Kept s.heap h' [df] → h'.get? df = some fo' → fo'.IsDictOf (strKind prog w) [("cells", .ref lc), ("at", .int (k + 1) tk2)] → 0 ≤ r → r < top → Q (.int r t) { s with heap := h', toks := tk' }) :
    wpAny (model prog w) (mkA dp un gd l) (call (.ref 151) [.ref df, .int top tt]) Q E s := by
  have hcl := hi.length
  refine wpAny_call ?_
  k_dflt (refine' enter (binds := [("feed", .ref df), ("top", .int top tt)]) ?k1 ?k2 ?k3 ?k4 ?k6 ?k7 ?k8 ?k9 ?kB ?_ ?c2 ?c3 ?c4 ?c5; (case k1 => assumption); (case k2 => assumption); (case k3 => assumption); (case k4 => assumption); (case k6 => k_is); (case k7 => k_is); (case k8 => k_room); (case k9 => exact BindsTo.of_eq rfl); (case c5 => decide); (case kB => exact locs rfl); (case c2 => exact rfl); (case c3 => exact rfl); (case c4 => exact rfl))
  intro g' L' h' F' N' B' X' T' kG' gS' l1 nL
  have hl' := kG'.list hl (by simpa using hlc)
  (try dsimp only); (try k_fold)
  (repeat' (first | (k_here; (with_reducible show wpAny _ _ (subscriptTail _ _ (Value.ref _) (Value.str _ _)) _ _ _); k_dflt (refine item_led (knd := strKind _ _) (by exact Value.isStrOf_self _ _) (by k_asm) (by k_mem) (by assumption) (by rfl) ?_; k_whole)) | ((with_reducible show wpAny _ _ (setItem (Value.ref _) (Value.str _ _) _) _ _ _); (k_here; k_dflt (refine set_led (knd := strKind _ _) (by exact Value.isStrOf_self _ _) (by k_asm) (by k_asm) (by k_updF) (by assumption) ?_ (by size_fits); k_whole); intro _ _ _ _ _; (try k_sweep))) | (k_here; (with_reducible show wpAny _ _ (call (Value.builtin "len") [Value.ref _]) _ _ _); k_dflt (refine len_base (by k_asm) (by assumption) (by first | size_fits | (simp only [List.size_toArray]; omega)) ?_; k_whole)) | ((with_reducible show wpAny _ _ (binaryOp .Mod (Value.int _ _) (Value.int _ _)) _ _ _); (k_here; k_dflt (refine PyProof.Rows.mod_int' (by (first | omega | ((try simp only [List.size_toArray] at *); omega))) ?_; k_whole))) | ((with_reducible show wpAny _ _ (binaryOp .FloorDiv (Value.int _ _) (Value.int _ _)) _ _ _); (k_here; k_dflt (refine PyProof.Rows.floordiv_int (by (first | omega | ((try simp only [List.size_toArray] at *); omega))) ?_ (by exact Or.inl (PyProof.noPylong_small (by (first | omega | ((try simp only [List.size_toArray] at *); omega))))); k_whole))) | ((fail_if_success (with_reducible first | refine s_done ?_ | refine s_iter ?_ | refine s_tpost ?_ | refine s_while ?_ | refine s_call (by decide) ?_ | refine s_ifexp ?_ | refine s_cend ?_ | refine s_comp ?_ | refine s_srcT ?_ | refine s_src ?_)); (first | (k_unfold; (try dsimp only)) | (k_end; wrow_close) | walk1 | (dsimp only; walk1) | (leave1; walk_say "STEP leave1"; try dsimp only)))))
  dsimp only
  rename News _ _ _ _ => NN
  rename Fr _ _ _ _ => FF
  exact .mk <| ret _ _ _ _ _ _ (keptOf kG' FF) (NN.get (a := df) (by k_mem)) (by assumption) (Int.fmod_nonneg_of_pos _ htop) (Int.fmod_lt_of_pos _ htop)
end
section
noncomputable abbrev feedIs (prog : Program) (w : World) (lc : Addr) (k : Int) (tk : Tok) (fo : Obj) : Prop := fo.IsDictOf (strKind prog w) [("cells", .ref lc), ("at", .int k tk)]
section
variable {h₀ h h' : Heap} {L d : Addr} {m : Str → Option Value} {news : List (Addr × Obj)} {o o' : Obj} {g : Obj → List (Addr × Obj)}
theorem after_upd (F : Fr h₀ L h m) (N : News h₀ L h news) (U : UpdF d o news g) (kp : Kept h h' [d]) (e : h'.get? d = some o') : Fr h₀ L h' m ∧ News h₀ L h' (g o') := by
  obtain ⟨pre, post, rfl, hg, a, b⟩ := U.split
  have hm := N (d, o) (List.mem_append_right _ (.head _))
  refine ⟨frKept F kp (fun x hx => by rw [List.mem_singleton.mp hx]; exact ⟨hm.2.2, hm.2.1⟩), fun p hp => ?_⟩
  rw [hg] at hp
  rcases List.mem_append.mp hp with hp | hp
  · have n := N p (List.mem_append_left _ hp)
    exact ⟨kp _ _ n.1 (fun q => a p hp (List.mem_singleton.mp q)), n.2⟩
  · rcases List.mem_cons.mp hp with rfl | hp
    · exact ⟨e, hm.2⟩
    · have n := N p (List.mem_append_right _ (.tail _ hp))
      exact ⟨kp _ _ n.1 (fun q => b p hp (List.mem_singleton.mp q)), n.2⟩
end
section
variable {prog : Program} {w : World} {base h₀ : Heap} {l : List Env} {dp un : Nat} {gd : Option (List Code)} {s : Shared} {p : Program} {loose : List Str} {mean : ExcName → Option Value} {mg mb : Str → Option Value}
    {df lc L : Addr} {fo : Obj} {tk : Tok} {k : Int} {cv : List Value} {ns : List Int} {top : Int} {tt : Tok} {Q E : Value → Shared → Prop} {m : Str → Option Value} {news : List (Addr × Obj)} {g : Obj → List (Addr × Obj)} {env : Env}
theorem draw_use (X : (hd.heap_39 w.params).In base) (T : Top p loose mean mg mb base) (B : Below (mkA dp un gd l) base l h₀) (F : Fr h₀ L s.heap m) (N : News h₀ L s.heap news) (U : UpdF df fo news g)
    (odf : Off base l [df]) (hf : feedIs prog w lc k tk fo) (hl : h₀.IsList lc cv.toArray) (hi : IntsAre cv ns) (hlen : ns.length ≤ 63) (hne : 0 < ns.length) (hlc : lc ≠ df) (hdp : dp ≤ 599) (hun : un ≤ 900) (hk0 : 0 ≤ k) (hk : k ≤ 1000) (htop : 0 < top)
    (ret : ∀ h' fo' tk' tk2 r t, Fr h₀ L h' m → News h₀ L h' (g fo') → feedIs prog w lc (k + 1) tk2 fo' → 0 ≤ r → r < top → Q (.int r t) { s with heap := h', toks := tk' })
    (hfr : env.frame = some L := by rfl) (hke : env.scope.kind = .function := by rfl) :
    wpAny (model prog w) ((mkA dp un gd l).deeper env) (call (.ref 151) [.ref df, .int top tt]) Q E s := by
  obtain ⟨pre, post, e, _, _, _⟩ := U.split
  have hm : (df, fo) ∈ news := e ▸ List.mem_append_right _ (.head _)
  have o9 : Off base (env :: l) [df] := off_push odf N (fun b hb => ⟨fo, List.mem_singleton.mp hb ▸ hm⟩) hfr
  refine draw_spec (dp := dp + 1) (un := un + 3) (gd := gd) (l := env :: l) (base := base) X T (pushX B F hfr hke) (by omega) (by omega) (led_of o9 fun q hq => by rw [List.mem_singleton.mp hq]; exact (N _ hm).1) hf (hl.at fun o e => F.keep _ o e) hi hlen hne hk0 hk htop hlc
    fun h' fo' tk' tk2 r t kp e' hd r0 r1 => ?_
  obtain ⟨F', N'⟩ := after_upd F N U kp e'
  exact ret h' fo' tk' tk2 r t F' N' hd r0 r1
end
end
section
local macro_rules | `(tactic| walk_at "x_ne") => `(tactic| ((with_reducible first | rename ((_ ≠ _) ∧ _) => oNe | rename (((_ ≠ _) ∧ _) ∧ _) => oNe | rename ((@LT.lt Nat _ _ _) ∧ _) => oNe); first | (simp only [oNe, ne_eq, not_false_eq_true]; done) | (refine Ne.symm ?_; simp only [oNe, ne_eq, not_false_eq_true]; done) | (refine Nat.ne_of_lt ?_; simp only [oNe]; done) | (refine Nat.ne_of_gt ?_; simp only [oNe]; done) | (clear oNe; walk_at "x_ne")))
local macro_rules | `(tactic| k_ne) => `(tactic| (refine neN ?_; (try dsimp only); first | (with_reducible assumption) | (with_reducible refine Df.ne ?_; with_reducible assumption) | (with_reducible refine Df.en ?_; with_reducible assumption) | (refine Ne.symm ?_; with_reducible assumption) | walk_at "x_ne" | (walk_say "NE OMEGA"; omega)))
section
example : True := by w_top off; trivial
noncomputable def literal_specT (prog : Program) (w : World) (base : Heap) (l : List Env) (dp : Nat) (un : Nat) (gd : Option (List Code)) (s : Shared) (p : Program) (loose : List Str) (mean : ExcName → Option Value) (mg : Str → Option Value) (mb : Str → Option Value) (df : Addr) (lc : Addr) (fo : Obj) (tk : Tok) (k : Int) (cv : List Value) (ns : List Int) (top : Int) (tt : Tok) (Q : Value → Shared → Prop) (E : Value → Shared → Prop) : Prop :=
  ∀ (X : (hd.heap_39 w.params).In base),
  ∀ (T : Top p loose mean mg mb base),
  ∀ (B : Below (mkA dp un gd l) base l s.heap),
  ∀ (hdp : dp ≤ 590),
  ∀ (hun : un ≤ 900),
  ∀ (N : Led base l s.heap [(df, fo)]),
  ∀ (hf : fo.IsDictOf (strKind prog w) [("cells", .ref lc), ("at", .int k tk)]),
  ∀ (hl : s.heap.IsList lc cv.toArray),
  ∀ (hi : IntsAre cv ns),
  ∀ (hlen : ns.length ≤ 63),
  ∀ (hne : 0 < ns.length),
  ∀ (hk0 : 0 ≤ k),
  ∀ (hk : k ≤ 999),
  ∀ (htop : 0 < top),
  ∀ (hlc : lc ≠ df),
  ∀ (ret : ∀ h' fo' tk' tk2 r t, Kept s.heap h' [df] → h'.get? df = some fo' → fo'.IsDictOf (strKind prog w) [("cells", .ref lc), ("at", .int (k + 2) tk2)] → (3 ≤ r ∧ r < 3 + top ∨ -(3 + top) < r ∧ r ≤ -3) → Q (.int r t) { s with heap := h', toks := tk' }),
  wpAny (model prog w) (mkA dp un gd l) (call (.ref 158) [.ref df, .int top tt]) Q E s
namespace literal_specTC
noncomputable abbrev V := Program × World × Heap × (List Env) × Nat × Nat × (Option (List Code)) × Shared × Program × (List Str) × (ExcName → Option Value) × (Str → Option Value) × (Str → Option Value) × Addr × Addr × Obj × Tok × Int × (List Value) × (List Int) × Int × Tok × (Value → Shared → Prop) × (Value → Shared → Prop)
theorem ne : Nonempty V := by
  have := neW
  have := neS
  have := neA
  have := neD
  have := neK
  have := neR
  repeat (refine @instNonemptyProd _ _ ?_ ?_; · first | assumption | infer_instance)
  first | assumption | infer_instance
noncomputable def v : V := @Classical.epsilon V ne fun v => ¬ literal_specT v.1 v.2.1 v.2.2.1 v.2.2.2.1 v.2.2.2.2.1 v.2.2.2.2.2.1 v.2.2.2.2.2.2.1 v.2.2.2.2.2.2.2.1 v.2.2.2.2.2.2.2.2.1 v.2.2.2.2.2.2.2.2.2.1 v.2.2.2.2.2.2.2.2.2.2.1 v.2.2.2.2.2.2.2.2.2.2.2.1 v.2.2.2.2.2.2.2.2.2.2.2.2.1 v.2.2.2.2.2.2.2.2.2.2.2.2.2.1 v.2.2.2.2.2.2.2.2.2.2.2.2.2.2.1 v.2.2.2.2.2.2.2.2.2.2.2.2.2.2.2.1 v.2.2.2.2.2.2.2.2.2.2.2.2.2.2.2.2.1 v.2.2.2.2.2.2.2.2.2.2.2.2.2.2.2.2.2.1 v.2.2.2.2.2.2.2.2.2.2.2.2.2.2.2.2.2.2.1 v.2.2.2.2.2.2.2.2.2.2.2.2.2.2.2.2.2.2.2.1 v.2.2.2.2.2.2.2.2.2.2.2.2.2.2.2.2.2.2.2.2.1 v.2.2.2.2.2.2.2.2.2.2.2.2.2.2.2.2.2.2.2.2.2.1 v.2.2.2.2.2.2.2.2.2.2.2.2.2.2.2.2.2.2.2.2.2.2.1 v.2.2.2.2.2.2.2.2.2.2.2.2.2.2.2.2.2.2.2.2.2.2.2
@[irreducible] noncomputable def prog : Program := v.1
@[irreducible] noncomputable def w : World := v.2.1
@[irreducible] noncomputable def base : Heap := v.2.2.1
@[irreducible] noncomputable def l : List Env := v.2.2.2.1
@[irreducible] noncomputable def dp : Nat := v.2.2.2.2.1
@[irreducible] noncomputable def un : Nat := v.2.2.2.2.2.1
@[irreducible] noncomputable def gd : Option (List Code) := v.2.2.2.2.2.2.1
@[irreducible] noncomputable def s : Shared := v.2.2.2.2.2.2.2.1
@[irreducible] noncomputable def p : Program := v.2.2.2.2.2.2.2.2.1
@[irreducible] noncomputable def loose : List Str := v.2.2.2.2.2.2.2.2.2.1
@[irreducible] noncomputable def mean : ExcName → Option Value := v.2.2.2.2.2.2.2.2.2.2.1
@[irreducible] noncomputable def mg : Str → Option Value := v.2.2.2.2.2.2.2.2.2.2.2.1
@[irreducible] noncomputable def mb : Str → Option Value := v.2.2.2.2.2.2.2.2.2.2.2.2.1
@[irreducible] noncomputable def df : Addr := v.2.2.2.2.2.2.2.2.2.2.2.2.2.1
@[irreducible] noncomputable def lc : Addr := v.2.2.2.2.2.2.2.2.2.2.2.2.2.2.1
@[irreducible] noncomputable def fo : Obj := v.2.2.2.2.2.2.2.2.2.2.2.2.2.2.2.1
@[irreducible] noncomputable def tk : Tok := v.2.2.2.2.2.2.2.2.2.2.2.2.2.2.2.2.1
@[irreducible] noncomputable def k : Int := v.2.2.2.2.2.2.2.2.2.2.2.2.2.2.2.2.2.1
@[irreducible] noncomputable def cv : List Value := v.2.2.2.2.2.2.2.2.2.2.2.2.2.2.2.2.2.2.1
@[irreducible] noncomputable def ns : List Int := v.2.2.2.2.2.2.2.2.2.2.2.2.2.2.2.2.2.2.2.1
@[irreducible] noncomputable def top : Int := v.2.2.2.2.2.2.2.2.2.2.2.2.2.2.2.2.2.2.2.2.1
@[irreducible] noncomputable def tt : Tok := v.2.2.2.2.2.2.2.2.2.2.2.2.2.2.2.2.2.2.2.2.2.1
@[irreducible] noncomputable def Q : Value → Shared → Prop := v.2.2.2.2.2.2.2.2.2.2.2.2.2.2.2.2.2.2.2.2.2.2.1
@[irreducible] noncomputable def E : Value → Shared → Prop := v.2.2.2.2.2.2.2.2.2.2.2.2.2.2.2.2.2.2.2.2.2.2.2
set_option maxHeartbeats 4000000 in
theorem holds : literal_specT prog w base l dp un gd s p loose mean mg mb df lc fo tk k cv ns top tt Q E := by
  intro X T B hdp hun N hf hl hi hlen hne hk0 hk htop hlc ret
  have odf : Off base l [df] := fun b hb => by rw [List.mem_singleton.mp hb]; exact (N (df, fo) (.head _)).2
  refine wpAny_call ?_
  k_dflt (refine' enter (binds := [("feed", .ref df), ("top", .int top tt)]) ?k1 ?k2 ?k3 ?k4 ?k6 ?k7 ?k8 ?k9 ?kB ?_ ?c2 ?c3 ?c4 ?c5; ((case k1 => assumption); (case k2 => assumption); (case k3 => assumption); (case k4 => assumption); (case k6 => k_is); (case k7 => k_is); (case k8 => k_room); (case k9 => exact BindsTo.of_eq rfl); (case c5 => decide); (case kB => exact locs rfl); (case c2 => exact rfl); (case c3 => exact rfl); (case c4 => exact rfl)))
  intro g' L' h' F' N' B' X' T' kG' gS' l1 nL
  (try k_lt l1)
  have hl' := kG'.list hl (by simpa using hlc)
  (try dsimp only); (try k_fold)
  (repeat' (first | (first | ((with_reducible first | (rename Gets _ _ => gQ'; refine at_of gQ' ?_; clear gQ'; try (rename (_ → Shared → Prop) => qQ'; clear qQ')) | refine at_of (by assumption) ?_); (try dsimp only)) | (with_reducible (first | refine s_exec ?_ | refine s_comp ?_); (with_reducible ((fail_if_success (refine s_at ?_)); refine cutX ?_; intro _ _)))) | (k_here; (with_reducible show wpAny _ _ (call (Value.ref 151) [Value.ref _, Value.int _ _]) _ _ _); k_dflt (refine draw_use X T (by assumption) (by k_asm) (by k_asm) (by k_updF) (by assumption) (by assumption) (by assumption) (by assumption) (by assumption) (by assumption) (by assumption) (by omega) (by omega) (by omega) (by omega) (by omega) ?_); intro _ _ _ _ _ _ _ _ _ _ _; (try k_sweep)) | ((fail_if_success (with_reducible first | refine s_done ?_ | refine s_iter ?_ | refine s_tpost ?_ | refine s_while ?_ | refine s_call (by decide) ?_ | refine s_ifexp ?_ | refine s_cend ?_ | refine s_comp ?_ | refine s_srcT ?_ | refine s_src ?_)); (first | (k_unfold; (try dsimp only)) | (k_end; wrow_close) | walk1 | (dsimp only; walk1) | (leave1; walk_say "STEP leave1"; try dsimp only)))))
  have key : ∀ r : Int, 0 ≤ r → r < 2 → ([1, -1] : List Int).getD r.toNat 0 = 1 ∨ ([1, -1] : List Int).getD r.toNat 0 = -1 := by
    intro r h0 h1
    have : r = 0 ∨ r = 1 := of2 h0 h1
    rcases this with rfl | rfl
    · exact .inl rfl
    · exact .inr rfl
  rename (_ < (2 : Int)) => hr2
  have h9 := key _ (by assumption) hr2
  generalize ([1, -1] : List Int).getD _ 0 = sg at h9 ⊢
  rcases h9 with rfl | rfl
  all_goals (repeat' (first | (first | ((with_reducible first | (rename Gets _ _ => gQ'; refine at_of gQ' ?_; clear gQ'; try (rename (_ → Shared → Prop) => qQ'; clear qQ')) | refine at_of (by assumption) ?_); (try dsimp only)) | (with_reducible (first | refine s_exec ?_ | refine s_comp ?_); (with_reducible ((fail_if_success (refine s_at ?_)); refine cutX ?_; intro _ _)))) | (k_here; (with_reducible show wpAny _ _ (call (Value.ref 151) [Value.ref _, Value.int _ _]) _ _ _); k_dflt (refine draw_use X T (by assumption) (by k_asm) (by k_asm) (by k_updF) (by assumption) (by assumption) (by assumption) (by assumption) (by assumption) (by assumption) (by assumption) (by omega) (by omega) (by omega) (by omega) (by omega) ?_); intro _ _ _ _ _ _ _ _ _ _ _; (try k_sweep)) | ((fail_if_success (with_reducible first | refine s_done ?_ | refine s_iter ?_ | refine s_tpost ?_ | refine s_while ?_ | refine s_call (by decide) ?_ | refine s_ifexp ?_ | refine s_cend ?_ | refine s_comp ?_ | refine s_srcT ?_ | refine s_src ?_)); (first | (k_unfold; (try dsimp only)) | (k_end; wrow_close) | walk1 | (dsimp only; walk1) | (leave1; walk_say "STEP leave1"; try dsimp only)))))
  all_goals (rename News _ _ _ _ => NN; rename Fr _ _ _ _ => FF; rename feedIs _ _ _ _ _ _ => hd9; rw [show k + 1 + 1 = k + 2 from Int.add_assoc k 1 1] at hd9; (try dsimp only); refine .mk (ret _ _ _ _ _ _ (keptOf kG' FF) (NN.get (a := df) (by k_mem)) hd9 (by first | exact litA (by assumption) (by assumption) | exact litB (by assumption) (by assumption) | omega)))
end literal_specTC
theorem literal_specT.all (prog : Program) (w : World) (base : Heap) (l : List Env) (dp : Nat) (un : Nat) (gd : Option (List Code)) (s : Shared) (p : Program) (loose : List Str) (mean : ExcName → Option Value) (mg : Str → Option Value) (mb : Str → Option Value) (df : Addr) (lc : Addr) (fo : Obj) (tk : Tok) (k : Int) (cv : List Value) (ns : List Int) (top : Int) (tt : Tok) (Q : Value → Shared → Prop) (E : Value → Shared → Prop) : literal_specT prog w base l dp un gd s p loose mean mg mb df lc fo tk k cv ns top tt Q E :=
  @hkAll literal_specTC.V literal_specTC.ne (fun v => literal_specT v.1 v.2.1 v.2.2.1 v.2.2.2.1 v.2.2.2.2.1 v.2.2.2.2.2.1 v.2.2.2.2.2.2.1 v.2.2.2.2.2.2.2.1 v.2.2.2.2.2.2.2.2.1 v.2.2.2.2.2.2.2.2.2.1 v.2.2.2.2.2.2.2.2.2.2.1 v.2.2.2.2.2.2.2.2.2.2.2.1 v.2.2.2.2.2.2.2.2.2.2.2.2.1 v.2.2.2.2.2.2.2.2.2.2.2.2.2.1 v.2.2.2.2.2.2.2.2.2.2.2.2.2.2.1 v.2.2.2.2.2.2.2.2.2.2.2.2.2.2.2.1 v.2.2.2.2.2.2.2.2.2.2.2.2.2.2.2.2.1 v.2.2.2.2.2.2.2.2.2.2.2.2.2.2.2.2.2.1 v.2.2.2.2.2.2.2.2.2.2.2.2.2.2.2.2.2.2.1 v.2.2.2.2.2.2.2.2.2.2.2.2.2.2.2.2.2.2.2.1 v.2.2.2.2.2.2.2.2.2.2.2.2.2.2.2.2.2.2.2.2.1 v.2.2.2.2.2.2.2.2.2.2.2.2.2.2.2.2.2.2.2.2.2.1 v.2.2.2.2.2.2.2.2.2.2.2.2.2.2.2.2.2.2.2.2.2.2.1 v.2.2.2.2.2.2.2.2.2.2.2.2.2.2.2.2.2.2.2.2.2.2.2) (by with_unfolding_all exact literal_specTC.holds) (prog, w, base, l, dp, un, gd, s, p, loose, mean, mg, mb, df, lc, fo, tk, k, cv, ns, top, tt, Q, E)
theorem literal_spec {prog : Program} {w : World} {base : Heap} {l : List Env} {dp un : Nat} {gd : Option (List Code)} {s : Shared} {p : Program} {loose : List Str} {mean : ExcName → Option Value} {mg mb : Str → Option Value}
    {df lc : Addr} {fo : Obj} {tk : Tok} {k : Int} {cv : List Value} {ns : List Int} {top : Int} {tt : Tok} {Q E : Value → Shared → Prop}
    (X : (hd.heap_39 w.params).In base) (T : Top p loose mean mg mb base) (B : Below (mkA dp un gd l) base l s.heap)
    (hdp : dp ≤ 590) (hun : un ≤ 900)
    (N : Led base l s.heap [(df, fo)]) (hf : fo.IsDictOf (strKind prog w) [("cells", .ref lc), ("at", .int k tk)])
    (hl : s.heap.IsList lc cv.toArray) (hi : IntsAre cv ns) (hlen : ns.length ≤ 63) (hne : 0 < ns.length) (hk0 : 0 ≤ k) (hk : k ≤ 999) (htop : 0 < top) (hlc : lc ≠ df)
    (ret : ∀ h' fo' tk' tk2 r t, Kept s.heap h' [df] → h'.get? df = some fo' → fo'.IsDictOf (strKind prog w) [("cells", .ref lc), ("at", .int (k + 2) tk2)] → (3 ≤ r ∧ r < 3 + top ∨ -(3 + top) < r ∧ r ≤ -3) → Q (.int r t) { s with heap := h', toks := tk' }) :
    wpAny (model prog w) (mkA dp un gd l) (call (.ref 158) [.ref df, .int top tt]) Q E s := by
  exact literal_specT.all _ _ _ _ _ _ _ _ _ _ _ _ _ _ _ _ _ _ _ _ _ _ _ _ X T B hdp hun N hf hl hi hlen hne hk0 hk htop hlc ret
end
section
/-- what a call leaves: all stands but some addresses, the frames up to their slots -/
noncomputable def FlownA (adr : List Addr) (l : List Env) (h h' : Heap) : Prop :=
  (∀ b o, h.get? b = some o → b ∉ adr → b ∉ l.filterMap (·.frame) → h'.get? b = some o) ∧
  ∀ b o, h.get? b = some o → b ∈ l.filterMap (·.frame) → (∀ vs, o.data ≠ .fields vs) → ∃ sl, h'.get? b = some { o with slots := sl }
theorem FlownA.refl (adr : List Addr) (l : List Env) (h : Heap) : FlownA adr l h h := ⟨fun _ _ e _ _ => e, fun _ o e _ _ => ⟨o.slots, e⟩⟩
theorem FlownA.trans {adr : List Addr} {l : List Env} {h₁ h₂ h₃ : Heap} (x : FlownA adr l h₁ h₂) (y : FlownA adr l h₂ h₃) : FlownA adr l h₁ h₃ :=
  ⟨fun b o e n m => y.1 b o (x.1 b o e n m) n m, fun b o e m d => let ⟨_, e₁⟩ := x.2 b o e m d; let ⟨sl, e₂⟩ := y.2 b _ e₁ m d; ⟨sl, e₂⟩⟩
theorem FlownA.mono {adr adr' : List Addr} {l : List Env} {h h' : Heap} (x : FlownA adr l h h') (k : ∀ c ∈ adr, c ∈ adr') : FlownA adr' l h h' := ⟨fun b o e n m => x.1 b o e (fun q => n (k b q)) m, x.2⟩
theorem FlownA.ofKept {adr : List Addr} {l : List Env} {h h' : Heap} (x : Kept h h' adr) (d : ∀ b ∈ adr, b ∉ l.filterMap (·.frame)) : FlownA adr l h h' := ⟨fun b o e n _ => x b o e n, fun b o e m _ => ⟨o.slots, x b o e fun q => d b q m⟩⟩
theorem FlownA.ofFlown {l : List Env} {h h' : Heap} (adr : List Addr) (x : Flown l h h') : FlownA adr l h h' := ⟨fun b o e _ m => x.1 b o e m, fun b o e _ d => x.2 b o e d⟩
section
variable {A : Around} {base g h h₅ s0 : Heap} {l : List Env} {L : Addr} {m : Str → Option Value} {env : Env} {adr : List Addr} {news : List (Addr × Obj)}
theorem FlownA.out (x : FlownA adr (env :: l) h h₅) (hf : env.frame = some L) (hk : ∀ b o, s0.get? b = some o → b ∉ adr → h.get? b = some o) (hL : s0.get? L = none) (hd : ∀ b ∈ adr, b ∉ l.filterMap (·.frame)) : FlownA adr l s0 h₅ := by
  refine ⟨fun b o e n nm => x.1 b o (hk b o e n) n fun hm => ?_, fun b o e hm d => x.2 b o (hk b o e fun q => hd b q hm) ?_ d⟩
  · rcases mem_frames hf hm with z | z
    · rw [z, hL] at e; cases e
    · exact nm z
  · rw [List.filterMap_cons, hf]; exact List.mem_cons_of_mem _ hm
/-- the ground anew behind a call -/
theorem groundA (K : Below A base l g) (hf : env.frame = some L) (F : Fr g L h m) (hadr : ∀ b ∈ adr, g.get? b = none ∧ b ≠ L) (hfl : FlownA adr (env :: l) h h₅) :
    ∃ g', KtsTurn (l.filterMap (·.frame)) g g' ∧ Fr g' L h₅ m ∧ Below A base l g' := by
  have hsub : ∀ b, b ∈ l.filterMap (·.frame) → b ∈ (env :: l).filterMap (·.frame) := fun b hb => by rw [List.filterMap_cons, hf]; exact List.mem_cons_of_mem _ hb
  obtain ⟨T, S⟩ := kts_turn_at (h := h₅) (fs := l.filterMap (·.frame)) (g := g)
    (fun b hb => by
      obtain ⟨_, o, ho, _⟩ := K.frames.mem hb
      exact ⟨o, ho⟩)
    (fun b o e nm => hfl.1 b o (F.keep b o e) (fun q => by rw [(hadr b q).1] at e; cases e) (fun hm => by
      rcases mem_frames hf hm with z | z
      · rw [z, kts_self F] at e
        cases e
      · exact nm z))
    (fun b o e hm => by
      obtain ⟨_, o', ho', hd⟩ := K.frames.mem hm
      rw [e] at ho'
      cases ho'
      exact hfl.2 b o (F.keep b o e) (hsub b hm) hd)
  refine ⟨_, T, ⟨?_, S, by rw [T.size]; exact F.above⟩, ⟨K.stack, fun b o e => T.other b o (K.stays b o e) (fun hm => by
    rw [(K.frames.mem hm).1] at e
    cases e), K.frames.of_keeps fun b o e _ => ?_⟩⟩
  · obtain ⟨o, es, ep, ho, hd, r⟩ := F.ns
    obtain ⟨sl, hs⟩ := hfl.2 L o ho (by rw [List.filterMap_cons, hf]; exact List.mem_cons_self) fun vs q => by rw [hd] at q; cases q
    exact ⟨_, es, ep, hs, hd, r⟩
  · obtain ⟨sl, hs⟩ := T.up e
    exact ⟨_, hs, rfl⟩
theorem newsA {g' : Heap} (K : Below A base l g) (hf : env.frame = some L) (N : News g L h news) (hna : ∀ p ∈ news, p.1 ∉ adr) (T : KtsTurn (l.filterMap (·.frame)) g g') (hfl : FlownA adr (env :: l) h h₅) : News g' L h₅ news := fun p hp => by
  refine ⟨hfl.1 _ _ (N p hp).1 (hna p hp) fun hm => ?_, (N p hp).2.1, T.none_ _ (N p hp).2.2⟩
  rcases mem_frames hf hm with z | z
  · exact (N p hp).2.1 z
  · obtain ⟨_, o, ho, _⟩ := K.frames.mem z
    rw [(N p hp).2.2] at ho; cases ho
theorem keptG {g' : Heap} (K : Below A base l g) (T : KtsTurn (l.filterMap (·.frame)) g g') : ∀ b o, g.get? b = some o → b ∉ l.filterMap (·.frame) → g'.get? b = some o := fun b o e n => T.other b o e n
end

/-- a code table whose codes are those of one name -/
structure TabOk (qual : Str) (h : Heap) (ps : Array Value) : Prop where
  tri : TriplesOk ps.toList
  code : ∀ pos v, codeAmong pos ps.toList = some v → ∃ c' oc vs t, v = .ref c' ∧ h.get? c' = some oc ∧ oc.data = .fields vs ∧ vs[1]? = some (.str qual t)
theorem TabOk.nil (qual : Str) (h : Heap) : TabOk qual h #[] := ⟨by trivial, fun pos v e => by simp [codeAmong] at e⟩
theorem TabOk.move {qual : Str} {h h' : Heap} {ps : Array Value} (x : TabOk qual h ps) (k : ∀ b o vs t, h.get? b = some o → o.data = .fields vs → vs[1]? = some (.str qual t) → h'.get? b = some o) : TabOk qual h' ps :=
  ⟨x.tri, fun pos v e => let ⟨c', oc, vs, t, e1, e2, e3, e4⟩ := x.code pos v e; ⟨c', oc, vs, t, e1, k c' oc vs t e2 e3 e4, e3, e4⟩⟩
end
section
theorem among_app {pos : Pos} {a b : Int} {c v : Value} (l : List Value) (h : TriplesOk l) (e : codeAmong pos (l ++ [rawInt a, rawInt b, c]) = some v) : codeAmong pos l = some v ∨ v = c := by
  fun_induction TriplesOk l with
  | case1 =>
    simp only [List.nil_append, codeAmong, rawInt] at e
    split at e
    · exact .inr (Option.some.inj e).symm
    · cases e
  | case2 a' t b' u x rest ih =>
    simp only [List.cons_append, codeAmong] at e ⊢
    split at e
    · rename_i hc; rw [if_pos hc]; exact .inl e
    · rename_i hc; rw [if_neg hc]; exact ih h e
  | case3 l h1 h2 => exact h.elim
section
variable {M : Model} {A : Around} {E : Value → Shared → Prop} {s : Shared} {h₀ : Heap} {L a c P : Addr} {m mg mb : Str → Option Value} {cn : Str} {cs : Scope} {ccd : Value} {cl : List (Str × Addr)} {news : List (Addr × Obj)} {g : Obj → List (Addr × Obj)}
  {p : Program} {loose : List Str} {mean : ExcName → Option Value} {name qual : Str} {params : Arguments} {body : Expr} {scope : Scope} {ps : Array Value} {pos : Pos} {clos : List (Str × Addr)}
theorem lam_any {Q : Value → Shared → Prop} (F : Fr h₀ L s.heap m) (N : News h₀ L s.heap news) (T : Top p loose mean mg mb h₀) (C : CodeHd h₀ c P) (hcd : ccd = .ref c) (U : UpdF P (tabObj ps) news g) (ok : TabOk qual h₀ ps)
    (hcl : closureFor scope (envX cn cs L a ccd cl) = pure clos)
    (h : ∀ f c' ctv ps' h' tk, Fr h₀ L h' m → News h₀ L h' ((f, kla_obj "<lambda>" qual params body scope clos ((mg "__name__").getD .none) c' ctv) :: g (tabObj ps')) →
      TabOk qual h' ps' → h'.CodeRec (.ref c') qual → (∀ q ∈ news, @LT.lt Nat _ q.1 f) → Q (.ref f) { s with heap := h', toks := tk })
    (hq : (envX cn cs L a ccd cl).qual ++ "<lambda>" = qual) (hdef : defaultsOf params (envX cn cs L a ccd cl) = ([], [])) :
    wpAny M A (eval (.Lambda params body scope pos) (envX cn cs L a ccd cl)) Q E s := by
  obtain ⟨own, rest, e, hg, h1, h2⟩ := U.split
  have hmem : (P, tabObj ps) ∈ news := e ▸ List.mem_append_right _ (.head _)
  have hgi : g (tabObj ps) = news := by rw [hg, e]
  refine kla_eval hdef ?_
  rw [hq]
  cases hf : codeAmong pos ps.toList with
  | none =>
    refine kla_nest (news := news) (g := g) (clos := clos) F N T C hcd U ok.tri hf hcl ?_
    intro f c' oc vs t ctv h' tk F' N' d1 d2 l1 l2
    have hc' := (N' (c', oc) (List.mem_cons_of_mem _ (List.mem_cons_self)))
    refine h f c' ctv (ps ++ #[rawInt pos.line, rawInt pos.col, .ref c']) h' tk F' (fun q hq => ?_) ⟨?_, fun pos' v ev => ?_⟩ ⟨c', oc, vs, t, rfl, hc'.1, d1, d2⟩ (fun q hq => Nat.lt_trans (l1 q hq) l2)
    · rcases List.mem_cons.mp hq with rfl | hq
      · exact N' _ List.mem_cons_self
      · exact N' _ (List.mem_cons_of_mem _ (List.mem_cons_of_mem _ hq))
    · rw [Array.toList_append]; exact TriplesOk_snoc _ _ _ _ ok.tri
    · rw [Array.toList_append] at ev
      rcases among_app _ ok.tri ev with ev | rfl
      · obtain ⟨c₂, o₂, v₂, t₂, e1, e2, e3, e4⟩ := ok.code pos' v ev
        exact ⟨c₂, o₂, v₂, t₂, e1, F'.keep _ _ e2, e3, e4⟩
      · exact ⟨c', oc, vs, t, rfl, hc'.1, d1, d2⟩
  | some v =>
    obtain ⟨c', oc, vs, t, rfl, e2, e3, e4⟩ := ok.code pos v hf
    refine kla_hit (news := news) (clos := clos) F N T C hcd hmem ok.tri hf hcl ?_
    intro f ctv h' tk F' N' l1
    exact h f c' ctv ps h' tk F' (hgi.symm ▸ N') (ok.move fun b o _ _ e _ _ => F'.keep b o e) ⟨c', oc, vs, t, rfl, F'.keep _ _ e2, e3, e4⟩ l1
end
end
section
section
variable {prog : Program} {w : World} {A : Around} {base : Heap} {l : List Env} {s : Shared} {news : List (Addr × Obj)} {K : Frag} {R : Result → Shared → Prop} {name qual : Str} {params : Arguments} {body : Expr} {scope : Scope} {cl : List (Str × Addr)}
  {pm ctv : Value} {c' f : Addr} {args : Args} {binds : List (Str × Value)} {p : Program} {loose : List Str} {mean : ExcName → Option Value} {mg mb : Str → Option Value}
/-- as «enter», of a lambda -/
theorem enterL (B : Below A base l s.heap) (X : K.In base) (N : Led base l s.heap news) (T : Top p loose mean mg mb base)
    (ho : s.heap.get? f = some (kla_obj name qual params body scope cl pm c' ctv)) (hcd : s.heap.CodeRec (.ref c') qual) (hroom : A.depth < recursionLimit)
    (hbind : bindArgs (kla_fn name qual params body scope cl pm (.ref c') ctv) args = pure binds) (hloc : ∀ y ∈ binds, scope.names.lookup y.1 = some .local)
    (h : ∀ g L' h₁, Fr g L' h₁ (fun y => binds.reverse.lookup y) → News g L' h₁ news → Below A base l g → K.In g → Top p loose mean mg mb g → Kept s.heap g (news.map (·.1)) → g.StaysIn s.heap → (∀ p ∈ news, p.1 < L') → s.heap.get? L' = none →
      wpAny (model prog w) (A.deeper (envX qual scope L' f (.ref c') cl)) (eval body (envX qual scope L' f (.ref c') cl))
        (fun v s' => Done R v s')
        (fun e s' => wpAny (model prog w) (A.deeper (envX qual scope L' f (.ref c') cl)) (leaving (envX qual scope L' f (.ref c') cl) e) (fun _ s'' => R (.error e) s'') (fun e' s'' => R (.error e') s'') s')
        { s with heap := h₁, toks := s.toks + binds.length })
    (hco : scope.isCoroutine = false) (hgen : scope.isGenerator = false) (hk : scope.kind = .function)
    (hcell : ∀ x ∈ scope.names, x.2 ≠ .cell) : codeAny (model prog w) A (.call (.ref f) args) R s := by
  obtain ⟨BG, st⟩ := ground B N
  refine kla_callFunE hroom ho rfl hco hgen rfl hcd ?_
  rw [hbind]
  refine wpAny_pure (wpAny_newFunctionEnv hcell hloc (fun h₁ hns hsb => ⟨(T.nolimit.keeps B.stays).fresh _ hsb, ?_⟩) hk)
  show codeAny _ _ (.expr body (envX qual scope s.heap.objs.size f (.ref c') cl)) _ _
  have hk₁ : ∀ b o, s.heap.get? b = some o → h₁.get? b = some o := fun b o e => hsb.extBut b o (Nat.ne_of_lt (Heap.lt_size e)) (Heap.get?_push_of_some _ e)
  exact kla_codeExpr (wpAny_mono (h _ s.heap.objs.size h₁ ⟨hns, fun b o e => hk₁ b o (of_hideAll _ e), Nat.le_of_eq (hideAll_size _ _)⟩
    (fun p hp => ⟨hk₁ _ _ (N p hp).1, Nat.ne_of_lt (Heap.lt_size (N p hp).1), hideAll_none _ (List.mem_map_of_mem hp)⟩) BG (X.keeps st) (T.keeps st) (fun b o e n => hideAll_get _ e n) (fun b o e => of_hideAll _ e) (fun p hp => Heap.lt_size (N p hp).1) (Heap.get?_none_of_le (Nat.le_refl _))) (fun v s' hl => hl.1) fun _ _ y => y)
end
end
section
section
variable {prog : Program} {w : World} {base h₀ : Heap} {l : List Env} {dp un : Nat} {gd : Option (List Code)} {s : Shared} {p : Program} {loose : List Str} {mean : ExcName → Option Value} {mg mb : Str → Option Value}
    {df lc L : Addr} {fo : Obj} {tk : Tok} {k : Int} {cv : List Value} {ns : List Int} {top : Int} {tt : Tok} {Q E : Value → Shared → Prop} {m : Str → Option Value} {news : List (Addr × Obj)} {g : Obj → List (Addr × Obj)} {env : Env}
theorem literal_use (X : (hd.heap_39 w.params).In base) (T : Top p loose mean mg mb base) (B : Below (mkA dp un gd l) base l h₀) (F : Fr h₀ L s.heap m) (N : News h₀ L s.heap news) (U : UpdF df fo news g)
    (odf : Off base l [df]) (hf : feedIs prog w lc k tk fo) (hl : h₀.IsList lc cv.toArray) (hi : IntsAre cv ns) (hlen : ns.length ≤ 63) (hne : 0 < ns.length) (hlc : lc ≠ df) (hdp : dp ≤ 589) (hun : un ≤ 890) (hk0 : 0 ≤ k) (hk : k ≤ 999) (htop : 0 < top)
    (ret : ∀ h' fo' tk' tk2 r t, Fr h₀ L h' m → News h₀ L h' (g fo') → feedIs prog w lc (k + 2) tk2 fo' → (3 ≤ r ∧ r < 3 + top ∨ -(3 + top) < r ∧ r ≤ -3) → Q (.int r t) { s with heap := h', toks := tk' })
    (hfr : env.frame = some L := by rfl) (hke : env.scope.kind = .function := by rfl) :
    wpAny (model prog w) ((mkA dp un gd l).deeper env) (call (.ref 158) [.ref df, .int top tt]) Q E s := by
  obtain ⟨pre, post, e, _, _, _⟩ := U.split
  have hm : (df, fo) ∈ news := e ▸ List.mem_append_right _ (.head _)
  have o9 : Off base (env :: l) [df] := off_push odf N (fun b hb => ⟨fo, List.mem_singleton.mp hb ▸ hm⟩) hfr
  refine literal_spec (dp := dp + 1) (un := un + 3) (gd := gd) (l := env :: l) (base := base) X T (pushX B F hfr hke) (by omega) (by omega) (led_of o9 fun q hq => by rw [List.mem_singleton.mp hq]; exact (N _ hm).1) hf (hl.at fun o e => F.keep _ o e) hi hlen hne hk0 hk htop hlc
    fun h' fo' tk' tk2 r t kp e' hd r0 => ?_
  obtain ⟨F', N'⟩ := after_upd F N U kp e'
  exact ret h' fo' tk' tk2 r t F' N' hd r0
end
/-- the pairs of the law's own list -/
structure PrsAt (h : Heap) (its : List Value) (names : List Str) (sws : List Int) : Prop where
  len : its.length = names.length
  len2 : names.length = sws.length
  at_ : ∀ (i : Nat) (v : Value), its[i]? = some v → ∃ t n s tn ts, v = Value.ref t ∧ IsTup h t #[.str n tn, .int s ts] ∧ names[i]? = some n ∧ sws[i]? = some s
structure Inv (names : List Str) (sws floors : List Int) : Prop where
  nd : names.Nodup
  ab : (sws.map Int.natAbs).Nodup
  nm : ∀ n ∈ names, n.length ≤ 1000 ∧ PyData.strOk n = true
  rg : ∀ s ∈ sws, 3 ≤ s.natAbs
  fo : FOk floors names.length
  len : names.length = sws.length
theorem nodup_of_map {α β : Type} {f : α → β} : ∀ {l : List α}, (l.map f).Nodup → l.Nodup
  | [], _ => List.nodup_nil
  | x :: r, h => by
    rw [List.map_cons, List.nodup_cons] at h
    exact List.nodup_cons.mpr ⟨fun hm => h.1 (List.mem_map_of_mem hm), nodup_of_map h.2⟩
theorem Inv.sd {names : List Str} {sws floors : List Int} (I : Inv names sws floors) : sws.Nodup := nodup_of_map I.ab
theorem IsTup.keep {h h' : Heap} {t : Addr} {vs : Array Value} (x : IsTup h t vs) (k : ∀ o, h.get? t = some o → h'.get? t = some o) : IsTup h' t vs := let ⟨o, ho, r⟩ := x; ⟨o, k o ho, r⟩
end
section
section
variable {prog : Program} {w : World} {A : Around} {E : Value → Shared → Prop} {s : Shared} {h₀ : Heap} {L l : Addr} {m : Str → Option Value} {news : List (Addr × Obj)} {value slice : PySem.Expr} {vs : List Value} {y : Int} {u : Tok} {Q : Value → Shared → Prop}
theorem slice_upto (F : Fr h₀ L s.heap m) (N : News h₀ L s.heap news) (hl : s.heap.IsList l vs.toArray) (hy : 0 ≤ y)
    (h : ∀ D h', Fr h₀ L h' m → News h₀ L h' ((D, listOf (vs.take y.toNat).toArray 0) :: news) → (∀ p ∈ news, p.1 < D) → Q (.ref D) { s with heap := h' })
    (hs : subscripted slice false (.ref l) (.ref s.heap.objs.size) = operate [.ref s.heap.objs.size, .ref l] (getItem (.ref l) (.ref s.heap.objs.size))) (ht : ∀ r, letTemporaryGo value (.ref l) r = pure ()) (hz : vs.toArray.size ≤ sizeLine) :
    wpAny (model prog w) A (subscriptTail value slice (.ref l) (.ref s.heap.objs.size)) Q E { s with heap := s.heap.push { cls := .type "slice", data := .fields #[.none, .int y u, .none] } } := by
  refine kmk_slice_lit (zs := vs.take y.toNat) F N hl .none (.int y u) ?_ h hs ht hz
  have e : sliceBounds none (some y) none vs.toArray.size = (((0 : Nat) : Int), ((min y.toNat vs.toArray.size : Nat) : Int), 1) := by
    simp only [sliceBounds, Option.getD_none, show (1 : Int) > 0 by decide, if_true, if_neg (show ¬ (y < 0) by omega)]
    congr 1
    congr 1
    exact maxMin hy
  rw [kmk_pick_nat _ e]
  show (vs.drop 0).take (min y.toNat vs.toArray.size - 0) = _
  rw [List.drop_zero, Nat.sub_zero, List.size_toArray, kmk_take_min]
end
end
section
theorem notin_cons {α : Type} {a b : α} {l : List α} (h : a ≠ b) (k : a ∉ l) : a ∉ b :: l := fun hm => (List.mem_cons.mp hm).elim h k
theorem FlownA.list {adr : List Addr} {l : List Env} {h h' : Heap} (x : FlownA adr l h h') {b : Addr} {its : Array Value} (hb : b ∉ adr) (e : h.IsList b its) : h'.IsList b its := by
  obtain ⟨o, ho, hc, n, hd⟩ := e
  by_cases hm : b ∈ l.filterMap (·.frame)
  · obtain ⟨sl, hs⟩ := x.2 b o ho hm fun vs q => by rw [hd] at q; cases q
    exact ⟨_, hs, hc, n, hd⟩
  · exact ⟨o, x.1 b o ho hb hm, hc, n, hd⟩
theorem FlownA.tup {adr : List Addr} {l : List Env} {h h' : Heap} (x : FlownA adr l h h') {b : Addr} {its : Array Value} (hb : b ∉ adr) (e : IsTup h b its) : IsTup h' b its := by
  obtain ⟨o, ho, hc, n, hd⟩ := e
  by_cases hm : b ∈ l.filterMap (·.frame)
  · obtain ⟨sl, hs⟩ := x.2 b o ho hm fun vs q => by rw [hd] at q; cases q
    exact ⟨_, hs, hc, n, hd⟩
  · exact ⟨o, x.1 b o ho hb hm, hc, n, hd⟩
theorem FlownA.drop {c : Addr} {adr : List Addr} {l : List Env} {h h' : Heap} (x : FlownA (c :: adr) l h h') (hc : h.get? c = none) : FlownA adr l h h' :=
  ⟨fun b o e n m => x.1 b o e (fun q => (List.mem_cons.mp q).elim (fun z => by rw [z, hc] at e; cases e) n) m, x.2⟩
/-- what is of no field-data stays out of the way of code objects -/
theorem TabOk.flown {qual : Str} {adr : List Addr} {l : List Env} {A : Around} {base h h' : Heap} {ps : Array Value} (x : TabOk qual h ps) (f : FlownA adr l h h') (B : Below A base l h) (nf : ∀ b ∈ adr, ∀ o, h.get? b = some o → ∀ vs, o.data ≠ .fields vs) : TabOk qual h' ps :=
  x.move fun b o vs _ e hd _ => f.1 b o e (fun hb => nf b hb o e vs hd) fun hm => by
    obtain ⟨_, o', ho', hd'⟩ := B.frames.mem hm
    rw [e] at ho'
    cases ho'
    exact hd' vs hd
theorem nf_dict {prog : Program} {w : World} {K : Type} [DecidableEq K] {knd : KeyKind prog w K} {o : Obj} {kvs : List (K × Value)} (h : o.IsDictOf knd kvs) : ∀ vs, o.data ≠ .fields vs := by
  intro vs q
  obtain ⟨_, es, n, hd, _⟩ := h
  rw [hd] at q; cases q
theorem nf_k {prog : Program} {w : World} {a : KA} {d : KD} {k : KS} {names : List Str} {sws floors : List Int} (R : KRep prog w k names sws floors) : ∀ p ∈ kLed a d k, ∀ vs, p.2.data ≠ .fields vs := by
  obtain ⟨⟨kn, hpn, _⟩, ⟨ks, hps, _⟩, _⟩ := R
  intro p hp
  simp only [kLed, List.mem_cons, List.not_mem_nil, or_false] at hp
  rcases hp with rfl | rfl | rfl | rfl | rfl | rfl | rfl
  · exact fun vs q => by cases q
  · exact fun vs q => by cases q
  · exact fun vs q => by cases q
  · exact fun vs q => by cases q
  · exact fun vs q => by cases q
  · exact nf_dict hpn
  · exact nf_dict hps
theorem nf_kat {prog : Program} {w : World} {a : KA} {d : KD} {names : List Str} {sws floors : List Int} {h : Heap} (K : KAt prog w a d names sws floors h) : ∀ b ∈ kAdr a, ∀ o, h.get? b = some o → ∀ vs, o.data ≠ .fields vs := by
  obtain ⟨k, hk, R⟩ := K
  intro b hb o e vs
  have : b ∈ (kLed a d k).map (·.1) := hb
  obtain ⟨p, hp, rfl⟩ := List.mem_map.mp this
  have h1 := hk p hp
  rw [e] at h1
  cases h1
  exact nf_k R p hp vs
/-- any part of a ledger is one for a call -/
theorem led_push {A : Around} {base g h : Heap} {l : List Env} {L : Addr} {env : Env} {news sub : List (Addr × Obj)} (B : Below A base l g) (N : News g L h news) (hs : ∀ p ∈ sub, p ∈ news) (hf : env.frame = some L) : Led base (env :: l) h sub := fun p hp => by
  have n := N p (hs p hp)
  refine ⟨n.1, ?_, fun hm => ?_⟩
  · cases q : base.get? p.1 with
    | none => rfl
    | some o => have := B.stays _ _ q; rw [n.2.2] at this; cases this
  · rcases mem_frames hf hm with z | z
    · exact n.2.1 z
    · obtain ⟨_, o, ho, _⟩ := B.frames.mem z
      rw [n.2.2] at ho; cases ho
theorem led_deep {base h h' : Heap} {l : List Env} {L : Addr} {env : Env} {news : List (Addr × Obj)} (N : Led base l h news) (hk : ∀ b o, h.get? b = some o → h'.get? b = some o) (hf : env.frame = some L) (hn : h.get? L = none) : Led base (env :: l) h' news := fun p hp => by
  have n := N p hp
  refine ⟨hk _ _ n.1, n.2.1, fun hm => ?_⟩
  rcases mem_frames hf hm with z | z
  · rw [z, hn] at n; cases n.1
  · exact n.2.2 z
theorem off_of_led {base h : Heap} {l : List Env} {news : List (Addr × Obj)} (N : Led base l h news) : Off base l (news.map (·.1)) := fun b hb => by
  obtain ⟨p, hp, rfl⟩ := List.mem_map.mp hb
  exact ⟨(N p hp).2.1, (N p hp).2.2⟩
theorem codeRec_keep {h h' : Heap} {v : Value} {q : Str} (x : h.CodeRec v q) (k : ∀ b o, h.get? b = some o → h'.get? b = some o) : h'.CodeRec v q := by
  obtain ⟨c, oc, vs, t, e, h1, h2, h3⟩ := x
  exact ⟨c, oc, vs, t, e, k _ _ h1, h2, h3⟩
theorem kat_flown {prog : Program} {w : World} {a : KA} {d : KD} {names : List Str} {sws floors : List Int} {adr : List Addr} {base : Heap} {l : List Env} {h h' : Heap} (K : KAt prog w a d names sws floors h) (f : FlownA adr l h h') (o : Off base l (kAdr a)) (hd : ∀ b ∈ kAdr a, b ∉ adr) : KAt prog w a d names sws floors h' := by
  obtain ⟨k, hk, R⟩ := K
  refine ⟨k, fun p hp => f.1 _ _ (hk p hp) (hd _ ?_) (o _ ?_).2, R⟩
  all_goals exact List.mem_map_of_mem (f := (·.1)) (show p ∈ kLed a d k from hp)
noncomputable abbrev adrL (a : KA) (df lo : Addr) : List Addr := 167 :: df :: lo :: kAdr a
theorem triples_no_str {l : List Value} (h : TriplesOk l) (x : Str) (t : Tok) (e : l[1]? = some (.str x t)) : False := by
  match l, h, e with
  | [], _, e => nomatch e
  | [_], _, e => nomatch e
  | v :: _ :: _, h, e => cases e; cases v <;> exact h
theorem fin_flown {g h h₂ s0 : Heap} {l : List Env} {env : Env} {L : Addr} {m : Str → Option Value} {adr cs : List Addr} (kG : Kept s0 g adr) (F : Fr g L h m) (fl : FlownA cs (env :: l) h h₂) (hf : env.frame = some L) (nL : s0.get? L = none)
    (hcs : ∀ b ∈ cs, b ∈ adr ∨ s0.get? b = none) (hd : ∀ b ∈ adr, b ∉ l.filterMap (·.frame)) : FlownA adr l s0 h₂ := by
  refine ⟨fun b o e n nm => fl.1 b o (F.keep _ _ (kG b o e n)) (fun hc => ?_) (fun hm => ?_), fun b o e hm d => fl.2 b o (F.keep b o (kG b o e fun q => hd b q hm)) (by rw [List.filterMap_cons, hf]; exact List.mem_cons_of_mem _ hm) d⟩
  · rcases hcs b hc with z | z
    · exact n z
    · rw [z] at e; cases e
  · rcases mem_frames hf hm with z | z
    · rw [z, nL] at e; cases e
    · exact nm z
/-- a list that is just a list -/
noncomputable def PlainL (h : Heap) (a : Addr) (items : Array Value) : Prop := ∃ o, h.get? a = some o ∧ o.cls = .type "list" ∧ o.dict = none ∧ ∃ n, o.data = .seq items n
theorem PlainL.list {h : Heap} {a : Addr} {items : Array Value} (x : PlainL h a items) : h.IsList a items := let ⟨o, h1, h2, _, h4⟩ := x; ⟨o, h1, h2, h4⟩
theorem PlainL.at {h h' : Heap} {a : Addr} {items : Array Value} (x : PlainL h a items) (k : ∀ o, h.get? a = some o → h'.get? a = some o) : PlainL h' a items := let ⟨o, h1, r⟩ := x; ⟨o, k o h1, r⟩
theorem PlainL.kept {h g : Heap} {adr : List Addr} {l : Addr} {items : Array Value} (x : PlainL h l items) (k : Kept h g adr) (n : l ∉ adr) : PlainL g l items := x.at fun o e => k l o e n
theorem PlainL.ofNews {g h : Heap} {L l : Addr} {news : List (Addr × Obj)} {items : Array Value} {n : Nat} (N : News g L h news) (hm : (l, listOf items n) ∈ news) : PlainL h l items := ⟨_, (N _ hm).1, rfl, rfl, n, rfl⟩
theorem FlownA.plain {adr : List Addr} {l : List Env} {h h' : Heap} (x : FlownA adr l h h') {b : Addr} {its : Array Value} (hb : b ∉ adr) (e : PlainL h b its) : PlainL h' b its := by
  obtain ⟨o, ho, hc, hn, n, hd⟩ := e
  by_cases hm : b ∈ l.filterMap (·.frame)
  · obtain ⟨sl, hs⟩ := x.2 b o ho hm fun vs q => by rw [hd] at q; cases q
    exact ⟨_, hs, hc, hn, n, hd⟩
  · exact ⟨o, x.1 b o ho hb hm, hc, hn, n, hd⟩
/-- the law's own list -/
inductive OwnAt (h : Heap) (adr : List Addr) (lo : Addr) (names : List Str) (sws floors : List Int) : Prop
  | mk (no : Nat) (lp lq : Addr) (its fvs : List Value) (e1 : h.get? lo = some (listOf #[.ref lp, .ref lq] no)) (e2 : PlainL h lp (List.toArray its)) (e3 : PrsAt h its names sws) (e4 : h.IsList lq (List.toArray fvs)) (e5 : IntsAre fvs floors) (e6 : lp ∉ adr) (e7 : lq ∉ adr) (e8 : ∀ t, Value.ref t ∈ its → t ∉ adr)
theorem PrsAt.flown {h h' : Heap} {its : List Value} {names : List Str} {sws : List Int} {adr : List Addr} {l : List Env} (P : PrsAt h its names sws) (f : FlownA adr l h h') (hd : ∀ t, Value.ref t ∈ its → t ∉ adr) : PrsAt h' its names sws :=
  ⟨P.len, P.len2, fun i v e => by
    obtain ⟨t, n, s, tn, ts, rfl, ht, h1, h2⟩ := P.at_ i v e
    exact ⟨t, n, s, tn, ts, rfl, f.tup (hd t (List.mem_of_getElem? e)) ht, h1, h2⟩⟩
end
section
section
variable {A : Around} {base g h h₂ s0 : Heap} {l : List Env} {L : Addr} {m : Str → Option Value} {env : Env} {adr cs : List Addr} {news : List (Addr × Obj)}
theorem keep1 (B : Below A base l g) (N : News g L h news) (hf : env.frame = some L) (fl : FlownA cs (env :: l) h h₂) {b : Addr} {ob : Obj} (hp : (b, ob) ∈ news) (hn : b ∉ cs) : h₂.get? b = some ob :=
  fl.1 _ _ (N _ hp).1 hn (led_push (sub := [(b, ob)]) B N (fun q hq => by rw [List.mem_singleton.mp hq]; exact hp) hf _ (.head _)).2.2
theorem tab_flown {qual : Str} {ps : Array Value} (x : TabOk qual h ps) (B : Below A base l g) (F : Fr g L h m) (hf : env.frame = some L) (fl : FlownA cs (env :: l) h h₂)
    (nf : ∀ b ∈ cs, ∀ o, h.get? b = some o → ∀ vs t, o.data = .fields vs → vs[1]? ≠ some (.str qual t)) : TabOk qual h₂ ps :=
  x.move fun b o vs t e hd he => fl.1 b o e (fun hb => nf b hb o e vs t hd he) fun hm => by
    rcases mem_frames hf hm with z | z
    · obtain ⟨o', es, ep, ho', hd', _⟩ := F.ns
      rw [z, ho'] at e; cases e; rw [hd'] at hd; cases hd
    · obtain ⟨_, o', ho', hd'⟩ := B.frames.mem z
      have := F.keep _ _ ho'
      rw [e] at this; cases this
      exact hd' vs hd
theorem Kept.flownA {h' : Heap} (k : Kept h h' cs) (B : Below A base l g) (N : News g L h news) (hf : env.frame = some L) (hs : ∀ b ∈ cs, ∃ ob, (b, ob) ∈ news) : FlownA cs (env :: l) h h' := .ofKept k fun b hb => by
  obtain ⟨ob, hp⟩ := hs b hb
  exact (led_push (sub := [(b, ob)]) B N (fun q hq => by rw [List.mem_singleton.mp hq]; exact hp) hf _ (.head _)).2.2
end
theorem lc_nm {r : Int} (h0 : 0 ≤ r) (h1 : r < 4) : (Txt.item (Str.ofString "abcd") r).length ≤ 1000 ∧ PyData.strOk (Txt.item (Str.ofString "abcd") r) = true := by
  have : r = 0 ∨ r = 1 ∨ r = 2 ∨ r = 3 := of4 h0 h1
  rcases this with rfl | rfl | rfl | rfl <;> decide +kernel
theorem Inv.push {names : List Str} {sws floors : List Int} (I : Inv names sws floors) : Inv names sws (floors ++ [(names.length : Int)]) :=
  ⟨I.nd, I.ab, I.nm, I.rg, ⟨by
    rw [List.pairwise_append]
    exact ⟨I.fo.inc, List.pairwise_singleton _ _, fun a ha b hb => by rw [List.mem_singleton.mp hb]; exact I.fo.hi a ha⟩,
    fun f hf => by
      rcases List.mem_append.mp hf with hf | hf
      · exact I.fo.lo f hf
      · rw [List.mem_singleton.mp hf]; omega,
    fun f hf => by
      rcases List.mem_append.mp hf with hf | hf
      · exact I.fo.hi f hf
      · rw [List.mem_singleton.mp hf]; omega⟩, I.len⟩
theorem Inv.add {names : List Str} {sws floors : List Int} {x : Str} {i : Int} (I : Inv names sws floors) (hx : x ∉ names) (hi : i.natAbs ∉ sws.map Int.natAbs) (nm : x.length ≤ 1000 ∧ PyData.strOk x = true) (rg : 3 ≤ i.natAbs) : Inv (names ++ [x]) (sws ++ [i]) floors :=
  ⟨List.nodup_append.mpr ⟨I.nd, by simp, fun a ha b hb => by rw [List.mem_singleton.mp hb]; exact fun e => hx (e ▸ ha)⟩,
   by rw [List.map_append]; exact List.nodup_append.mpr ⟨I.ab, by simp, fun a ha b hb => by rw [List.map_cons, List.map_nil] at hb; rw [List.mem_singleton.mp hb]; exact fun e => hi (e ▸ ha)⟩,
   fun n hn => (List.mem_append.mp hn).elim (I.nm n) fun h => by rw [List.mem_singleton.mp h]; exact nm,
   fun n hn => (List.mem_append.mp hn).elim (I.rg n) fun h => by rw [List.mem_singleton.mp h]; exact rg,
   ⟨I.fo.inc, I.fo.lo, fun f hf => by have := I.fo.hi f hf; simp only [List.length_append, List.length_singleton]; omega⟩, by simp [I.len]⟩
theorem Inv.take {names : List Str} {sws floors : List Int} (I : Inv names sws floors) {i : Nat} (hi : i ≤ floors.length) : Inv (names.take (lev floors names.length i)) (sws.take (lev floors names.length i)) (floors.take (floors.length - i)) := by
  refine ⟨(List.take_sublist _ _).nodup I.nd, ?_, fun n hn => I.nm n (List.mem_of_mem_take hn), fun n hn => I.rg n (List.mem_of_mem_take hn), ⟨I.fo.inc.sublist (List.take_sublist _ _), fun f hf => I.fo.lo f (List.mem_of_mem_take hf), fun f hf => ?_⟩, by rw [List.length_take, List.length_take, I.len]⟩
  · rw [List.map_take]; exact (List.take_sublist _ _).nodup I.ab
  · have hle := lev_le I.fo hi
    rw [List.length_take, Nat.min_eq_left hle]
    by_cases h0 : i = 0
    · subst h0; exact I.fo.hi f (List.mem_of_mem_take hf)
    · obtain ⟨j, hj, e⟩ := List.mem_iff_getElem.mp hf
      rw [List.length_take] at hj
      have hjl : j < floors.length := Nat.lt_of_lt_of_le hj (Nat.min_le_right _ _)
      have hil : floors.length - i < floors.length := sl2 h0 hi
      rw [List.getElem_take] at e
      have h1 := List.pairwise_iff_getElem.mp I.fo.inc j (floors.length - i) hjl hil (Nat.lt_of_lt_of_le hj (Nat.min_le_left _ _))
      unfold lev
      rw [if_neg h0]
      have e' : floors.getD (floors.length - i) 0 = floors[floors.length - i] := by simp [hil]
      rw [e', ← e]
      exact Int.le_trans h1 (Int.self_le_toNat _)
end
section
noncomputable abbrev eF (L : Addr) : Env := envOf "" (Scope.mk ScopeKind.function [] false false []) L 0 .none
end
section
theorem old_ne {g h : Heap} {L : Addr} {news : List (Addr × Obj)} {lp b : Addr} {ob o : Obj} (N : News g L h news) (hm : (b, ob) ∈ news) (e : g.get? lp = some o) : lp ≠ b := fun z => by
  have := (N _ hm).2.2
  rw [← z, e] at this
  cases this
theorem ledFin {A : Around} {base g h h₂ s0 : Heap} {l : List Env} {L : Addr} {m : Str → Option Value} {news : List (Addr × Obj)} {adr0l cs : List Addr} {a : KA} {df lo lp lq : Addr} {fo : Obj} {ps : Array Value} {qual : Str} {no : Nat}
    {its fvs : List Value} {names : List Str} {sws floors : List Int}
    (B' : Below A base l g) (F : Fr g L h m) (N : News g L h news) (kG : Kept s0 g adr0l) (adr0 : ∀ b, b ∈ adr0l ↔ b ∈ adrL a df lo) (nL : s0.get? L = none) (o : Off base l (adrL a df lo))
    (fl : FlownA cs (eF L :: l) h h₂) (hcs : ∀ b ∈ cs, b ∈ kAdr a ∨ s0.get? b = none) (nfc : ∀ b ∈ cs, ∀ o, h.get? b = some o → ∀ vs, o.data ≠ .fields vs)
    (hdf : (df, fo) ∈ news) (ndf : df ∉ cs) (h167 : ((167 : Addr), tabObj ps) ∈ news) (n167 : (167 : Addr) ∉ cs) (ok : TabOk qual h ps) (hlo : (lo, listOf #[.ref lp, .ref lq] no) ∈ news) (nlo : lo ∉ cs)
    (hlp : PlainL h lp its.toArray) (nlp : lp ∉ cs) (PA : PrsAt h its names sws) (nt : ∀ t, Value.ref t ∈ its → t ∉ cs) (hlq : h.IsList lq fvs.toArray) (nlq : lq ∉ cs) (hfv : IntsAre fvs floors)
    (sp : lp ∉ 172 :: adrL a df lo) (sq : lq ∉ 172 :: adrL a df lo) (st : ∀ t, Value.ref t ∈ its → t ∉ 172 :: adrL a df lo) :
    FlownA (adrL a df lo) l s0 h₂ ∧ h₂.get? df = some fo ∧ h₂.get? 167 = some (tabObj ps) ∧ TabOk qual h₂ ps ∧ OwnAt h₂ (172 :: adrL a df lo) lo names sws floors := by
  refine ⟨?_, keep1 B' N rfl fl hdf ndf, keep1 B' N rfl fl h167 n167, tab_flown ok B' F rfl fl (fun b hb ob e vs t hd => absurd hd (nfc b hb ob e vs)),
    ⟨no, lp, lq, its, fvs, keep1 B' N rfl fl hlo nlo, fl.plain nlp hlp, PA.flown fl nt, fl.list nlq hlq, hfv, sp, sq, st⟩⟩
  have := fin_flown kG F fl rfl nL (fun b hb => (hcs b hb).imp (fun h => (adr0 b).mpr (List.mem_cons_of_mem _ (List.mem_cons_of_mem _ (List.mem_cons_of_mem _ h)))) id) (fun b hb => (o b ((adr0 b).mp hb)).2)
  exact this.mono fun c hc => (adr0 c).mp hc
end
section
theorem PrsAt.keep {h h' : Heap} {its : List Value} {names : List Str} {sws : List Int} (P : PrsAt h its names sws) (k : ∀ b o, h.get? b = some o → h'.get? b = some o) : PrsAt h' its names sws :=
  ⟨P.len, P.len2, fun i v e => by
    obtain ⟨t, n, s, tn, ts, rfl, ht, h1, h2⟩ := P.at_ i v e
    exact ⟨t, n, s, tn, ts, rfl, IsTup.keep ht (k t), h1, h2⟩⟩
theorem PrsAt.ne {g h : Heap} {L : Addr} {news : List (Addr × Obj)} {its : List Value} {names : List Str} {sws : List Int} {b : Addr} {ob : Obj} (P : PrsAt g its names sws) (N : News g L h news) (hm : (b, ob) ∈ news) : ∀ t, Value.ref t ∈ its → t ≠ b := fun t ht => by
  obtain ⟨i, hi⟩ := List.mem_iff_getElem?.mp ht
  obtain ⟨t', n, s, tn, ts, e, hT, h1, h2⟩ := P.at_ i _ hi
  cases e
  obtain ⟨ot, hot, _⟩ := hT
  exact old_ne N hm hot
theorem out4 {a : KA} {df lo x : Addr} (h : x ∉ 172 :: adrL a df lo) : x ∉ kAdr a := fun q => h (List.mem_cons_of_mem _ (List.mem_cons_of_mem _ (List.mem_cons_of_mem _ (List.mem_cons_of_mem _ q))))
theorem list_ne {g h : Heap} {L : Addr} {news : List (Addr × Obj)} {lp b : Addr} {ob : Obj} {its : Array Value} (N : News g L h news) (hm : (b, ob) ∈ news) (e : g.IsList lp its) : lp ≠ b := let ⟨_, ho, _⟩ := e; old_ne N hm ho
end
section
example : True := by w_top off; trivial
local macro_rules | `(tactic| walk_at "x_pad0") => `(tactic| skip)
noncomputable def drop_specT (prog : Program) (w : World) (base : Heap) (l : List Env) (dp : Nat) (un : Nat) (gd : Option (List Code)) (s : Shared) (p : Program) (loose : List Str) (mean : ExcName → Option Value) (mg : Str → Option Value) (mb : Str → Option Value) (a : KA) (d : KD) (names : List Str) (sws : List Int) (floors : List Int) (x : Str) (i : Int) (Q : Value → Shared → Prop) (E : Value → Shared → Prop) : Prop :=
  ∀ (X : (hd.heap_39 w.params).In base),
  ∀ (T : Top p loose mean mg mb base),
  ∀ (B : Below (mkA dp un gd l) base l s.heap),
  ∀ (hdp : dp ≤ 600),
  ∀ (O : a.Ord),
  ∀ (o : Off base l (kAdr a)),
  ∀ (K : KAt prog w a d (names ++ [x]) (sws ++ [i]) floors s.heap),
  ∀ (hlen : names.length ≤ 100),
  ∀ (hx : x ∉ names),
  ∀ (hi : i ∉ sws),
  ∀ (ret : ∀ h' tk', Kept s.heap h' (kAdr a) → KAt prog w a d names sws floors h' → Q .none { s with heap := h', toks := tk' }),
  wpAny (model prog w) (mkA dp un gd l) (call (.ref 111) [.ref a.ik]) Q E s
namespace drop_specTC
noncomputable abbrev V := Program × World × Heap × (List Env) × Nat × Nat × (Option (List Code)) × Shared × Program × (List Str) × (ExcName → Option Value) × (Str → Option Value) × (Str → Option Value) × KA × KD × (List Str) × (List Int) × (List Int) × Str × Int × (Value → Shared → Prop) × (Value → Shared → Prop)
theorem ne : Nonempty V := by
  have := neW
  have := neS
  have := neA
  have := neD
  have := neK
  have := neR
  repeat (refine @instNonemptyProd _ _ ?_ ?_; · first | assumption | infer_instance)
  first | assumption | infer_instance
noncomputable def v : V := @Classical.epsilon V ne fun v => ¬ drop_specT v.1 v.2.1 v.2.2.1 v.2.2.2.1 v.2.2.2.2.1 v.2.2.2.2.2.1 v.2.2.2.2.2.2.1 v.2.2.2.2.2.2.2.1 v.2.2.2.2.2.2.2.2.1 v.2.2.2.2.2.2.2.2.2.1 v.2.2.2.2.2.2.2.2.2.2.1 v.2.2.2.2.2.2.2.2.2.2.2.1 v.2.2.2.2.2.2.2.2.2.2.2.2.1 v.2.2.2.2.2.2.2.2.2.2.2.2.2.1 v.2.2.2.2.2.2.2.2.2.2.2.2.2.2.1 v.2.2.2.2.2.2.2.2.2.2.2.2.2.2.2.1 v.2.2.2.2.2.2.2.2.2.2.2.2.2.2.2.2.1 v.2.2.2.2.2.2.2.2.2.2.2.2.2.2.2.2.2.1 v.2.2.2.2.2.2.2.2.2.2.2.2.2.2.2.2.2.2.1 v.2.2.2.2.2.2.2.2.2.2.2.2.2.2.2.2.2.2.2.1 v.2.2.2.2.2.2.2.2.2.2.2.2.2.2.2.2.2.2.2.2.1 v.2.2.2.2.2.2.2.2.2.2.2.2.2.2.2.2.2.2.2.2.2
@[irreducible] noncomputable def prog : Program := v.1
@[irreducible] noncomputable def w : World := v.2.1
@[irreducible] noncomputable def base : Heap := v.2.2.1
@[irreducible] noncomputable def l : List Env := v.2.2.2.1
@[irreducible] noncomputable def dp : Nat := v.2.2.2.2.1
@[irreducible] noncomputable def un : Nat := v.2.2.2.2.2.1
@[irreducible] noncomputable def gd : Option (List Code) := v.2.2.2.2.2.2.1
@[irreducible] noncomputable def s : Shared := v.2.2.2.2.2.2.2.1
@[irreducible] noncomputable def p : Program := v.2.2.2.2.2.2.2.2.1
@[irreducible] noncomputable def loose : List Str := v.2.2.2.2.2.2.2.2.2.1
@[irreducible] noncomputable def mean : ExcName → Option Value := v.2.2.2.2.2.2.2.2.2.2.1
@[irreducible] noncomputable def mg : Str → Option Value := v.2.2.2.2.2.2.2.2.2.2.2.1
@[irreducible] noncomputable def mb : Str → Option Value := v.2.2.2.2.2.2.2.2.2.2.2.2.1
@[irreducible] noncomputable def a : KA := v.2.2.2.2.2.2.2.2.2.2.2.2.2.1
@[irreducible] noncomputable def d : KD := v.2.2.2.2.2.2.2.2.2.2.2.2.2.2.1
@[irreducible] noncomputable def names : List Str := v.2.2.2.2.2.2.2.2.2.2.2.2.2.2.2.1
@[irreducible] noncomputable def sws : List Int := v.2.2.2.2.2.2.2.2.2.2.2.2.2.2.2.2.1
@[irreducible] noncomputable def floors : List Int := v.2.2.2.2.2.2.2.2.2.2.2.2.2.2.2.2.2.1
@[irreducible] noncomputable def x : Str := v.2.2.2.2.2.2.2.2.2.2.2.2.2.2.2.2.2.2.1
@[irreducible] noncomputable def i : Int := v.2.2.2.2.2.2.2.2.2.2.2.2.2.2.2.2.2.2.2.1
@[irreducible] noncomputable def Q : Value → Shared → Prop := v.2.2.2.2.2.2.2.2.2.2.2.2.2.2.2.2.2.2.2.2.1
@[irreducible] noncomputable def E : Value → Shared → Prop := v.2.2.2.2.2.2.2.2.2.2.2.2.2.2.2.2.2.2.2.2.2
set_option maxHeartbeats 4000000 in
theorem holds : drop_specT prog w base l dp un gd s p loose mean mg mb a d names sws floors x i Q E := by
  intro X T B hdp O o K hlen hx hi ret
  have hbase := kPairs O
  obtain ⟨o1, o2, o3, o4, o5, o6, n1, n2⟩ := O
  obtain ⟨k, hK, ⟨kn, hpn, hkn⟩, ⟨ks, hps, hks⟩, hlv, hsv, hfv, hns⟩ := K
  obtain ⟨us, tu, hus, hus'⟩ := strsAre_snoc hlv
  obtain ⟨us2, tu2, hus2, hus2'⟩ := intsAre_snoc hsv
  obtain ⟨lv, nl, sv, ns, fv, nf, opn, ops⟩ := k
  dsimp only at hus hus2 hpn hps hfv hlv hsv
  have e1 := arr_of hus
  have e2 := arr_of hus2
  subst e1 e2
  have N : Led base l s.heap (kLed a d _) := led_of o hK
  have hns' : names.length = sws.length := by simp at hns; exact hns
  have hu1 := strsAre_length hus'
  have hu2 := hus2'.length
  have hl1 : kn.length = names.length + 1 := by rw [hkn.length]; simp
  have hl2 : ks.length = names.length + 1 := by rw [hks.length]; simp at hns ⊢; omega
  have hvn : (valueAt kn x).isSome = true := by rw [hkn.isSome]; simp
  have hvs : (valueAt ks i).isSome = true := by rw [hks.isSome]; simp
  (try dsimp only at hK N)
  refine wpAny_call ?_
  k_dflt (refine' enter (binds := [("self", .ref a.ik)]) ?k1 ?k2 ?k3 ?k4 ?k6 ?k7 ?k8 ?k9 ?kB ?_ ?c2 ?c3 ?c4 ?c5; ((case k1 => assumption); (case k2 => assumption); (case k3 => assumption); (case k4 => assumption); (case k6 => k_is); (case k7 => k_is); (case k8 => k_room); (case k9 => exact BindsTo.of_eq rfl); (case c5 => decide); (case kB => exact locs rfl); (case c2 => exact rfl); (case c3 => exact rfl); (case c4 => exact rfl)))
  intro g' L' h' F' N' B' X' T' kG' gS' l1 nL
  (try k_lt l1)
  (try dsimp only); (try k_fold)
  (repeat' (first | (first | ((with_reducible first | (rename Gets _ _ => gQ'; refine at_of gQ' ?_; clear gQ'; try (rename (_ → Shared → Prop) => qQ'; clear qQ')) | refine at_of (by assumption) ?_); (try dsimp only)) | (with_reducible (first | refine s_exec ?_ | refine s_comp ?_); (with_reducible ((fail_if_success (refine s_at ?_)); refine cutX ?_; intro _ _)))) | ((with_reducible show wpAny _ _ (delItem (Value.ref _) (Value.int _ _)) _ _ _); (k_here; k_dflt (refine del_led (knd := PySem.intKind _ _) (by exact int_is _ _ _ _) (by k_asm) (by k_asm) (by k_updF) (by assumption) (by assumption) ?_ (by (simp only [sizeLine_eq]; omega)); k_whole); intro _ _ _ _ _; (try k_sweep))) | ((with_reducible show wpAny _ _ (delItem (Value.ref _) (Value.str _ _)) _ _ _); (k_here; k_dflt (refine del_led (knd := PySem.strKind _ _) (by exact strKind_is _ _ _ _) (by k_asm) (by k_asm) (by k_updF) (by assumption) (by assumption) ?_ (by (simp only [sizeLine_eq]; omega)); k_whole); intro _ _ _ _ _; (try k_sweep))) | (k_here; (with_reducible show wpAny _ _ (call (Value.builtin "list.pop") _) _ _ _); k_dflt (refine kl_pop (by k_asm) (by k_asm) (kpa_last _ _) (by k_upd) (by ((simp only [List.length_append, sizeLine_eq, List.length_cons, List.length_nil]); omega)) ?_); intro _ _ _; (try k_sweep)) | ((fail_if_success (with_reducible first | refine s_done ?_ | refine s_iter ?_ | refine s_tpost ?_ | refine s_while ?_ | refine s_call (by decide) ?_ | refine s_ifexp ?_ | refine s_cend ?_ | refine s_comp ?_ | refine s_srcT ?_ | refine s_src ?_)); (first | (k_unfold; (try dsimp only)) | (k_end; wrow_close) | walk1 | (dsimp only; walk1) | (leave1; walk_say "STEP leave1"; try dsimp only)))))
  (try dsimp only)
  rename News _ _ _ _ => NN
  rename Fr _ _ _ _ => FF
  exact .mk (ret _ _ (keptOf kG' FF) ⟨⟨_, _, _, _, _, _, _, _⟩, fun p hp => (NN p hp).1, ⟨_, by assumption, hkn.without hx⟩, ⟨_, by assumption, hks.without hi⟩, hus', hus2', hfv, hns'⟩)
end drop_specTC
theorem drop_specT.all (prog : Program) (w : World) (base : Heap) (l : List Env) (dp : Nat) (un : Nat) (gd : Option (List Code)) (s : Shared) (p : Program) (loose : List Str) (mean : ExcName → Option Value) (mg : Str → Option Value) (mb : Str → Option Value) (a : KA) (d : KD) (names : List Str) (sws : List Int) (floors : List Int) (x : Str) (i : Int) (Q : Value → Shared → Prop) (E : Value → Shared → Prop) : drop_specT prog w base l dp un gd s p loose mean mg mb a d names sws floors x i Q E :=
  @hkAll drop_specTC.V drop_specTC.ne (fun v => drop_specT v.1 v.2.1 v.2.2.1 v.2.2.2.1 v.2.2.2.2.1 v.2.2.2.2.2.1 v.2.2.2.2.2.2.1 v.2.2.2.2.2.2.2.1 v.2.2.2.2.2.2.2.2.1 v.2.2.2.2.2.2.2.2.2.1 v.2.2.2.2.2.2.2.2.2.2.1 v.2.2.2.2.2.2.2.2.2.2.2.1 v.2.2.2.2.2.2.2.2.2.2.2.2.1 v.2.2.2.2.2.2.2.2.2.2.2.2.2.1 v.2.2.2.2.2.2.2.2.2.2.2.2.2.2.1 v.2.2.2.2.2.2.2.2.2.2.2.2.2.2.2.1 v.2.2.2.2.2.2.2.2.2.2.2.2.2.2.2.2.1 v.2.2.2.2.2.2.2.2.2.2.2.2.2.2.2.2.2.1 v.2.2.2.2.2.2.2.2.2.2.2.2.2.2.2.2.2.2.1 v.2.2.2.2.2.2.2.2.2.2.2.2.2.2.2.2.2.2.2.1 v.2.2.2.2.2.2.2.2.2.2.2.2.2.2.2.2.2.2.2.2.1 v.2.2.2.2.2.2.2.2.2.2.2.2.2.2.2.2.2.2.2.2.2) (by with_unfolding_all exact drop_specTC.holds) (prog, w, base, l, dp, un, gd, s, p, loose, mean, mg, mb, a, d, names, sws, floors, x, i, Q, E)
theorem drop_spec {prog : Program} {w : World} {base : Heap} {l : List Env} {dp un : Nat} {gd : Option (List Code)} {s : Shared} {p : Program} {loose : List Str} {mean : ExcName → Option Value} {mg mb : Str → Option Value}
    {a : KA} {d : KD} {names : List Str} {sws floors : List Int} {x : Str} {i : Int} {Q E : Value → Shared → Prop}
    (X : (hd.heap_39 w.params).In base) (T : Top p loose mean mg mb base) (B : Below (mkA dp un gd l) base l s.heap)
    (hdp : dp ≤ 600) (O : a.Ord) (o : Off base l (kAdr a)) (K : KAt prog w a d (names ++ [x]) (sws ++ [i]) floors s.heap) (hlen : names.length ≤ 100) (hx : x ∉ names) (hi : i ∉ sws)
    (ret : ∀ h' tk', Kept s.heap h' (kAdr a) → KAt prog w a d names sws floors h' → Q .none { s with heap := h', toks := tk' }) :
    wpAny (model prog w) (mkA dp un gd l) (call (.ref 111) [.ref a.ik]) Q E s := by
  exact drop_specT.all _ _ _ _ _ _ _ _ _ _ _ _ _ _ _ _ _ _ _ _ _ _ X T B hdp O o K hlen hx hi ret
end
section
example : True := by w_top off; trivial
noncomputable def pop_specT (prog : Program) (w : World) (base : Heap) (l : List Env) (dp : Nat) (un : Nat) (gd : Option (List Code)) (s : Shared) (p : Program) (loose : List Str) (mean : ExcName → Option Value) (mg : Str → Option Value) (mb : Str → Option Value) (a : KA) (d : KD) (names : List Str) (sws : List Int) (floors : List Int) (many : Nat) (tm : Tok) (Q : Value → Shared → Prop) (E : Value → Shared → Prop) : Prop :=
  ∀ (hprog : (prog.main.file : Str) = "/claim/cut.py"),
  ∀ (hsup : (prog.main.scope.names.lookup ("super" : Str)).isSome = false),
  ∀ (X : (hd.heap_39 w.params).In base),
  ∀ (T : Top p loose mean mg mb base),
  ∀ (B : Below (mkA dp un gd l) base l s.heap),
  ∀ (hdp : dp ≤ 590),
  ∀ (O : a.Ord),
  ∀ (o : Off base l (kAdr a)),
  ∀ (K : KAt prog w a d names sws floors s.heap),
  ∀ (hlen : names.length ≤ 100),
  ∀ (hnd : names.Nodup),
  ∀ (hsd : sws.Nodup),
  ∀ (hfo : FOk floors names.length),
  ∀ (hfl : floors.length ≤ 100),
  ∀ (hm : many ≤ 3),
  ∀ (ret : many ≤ floors.length → ∀ h' tk', Kept s.heap h' (kAdr a) → KAt prog w a d (names.take (lev floors names.length many)) (sws.take (lev floors names.length many)) (floors.take (floors.length - many)) h' → Q .none { s with heap := h', toks := tk' }),
  ∀ (exc : ¬ many ≤ floors.length → ∀ h' e tk', RaisedX base l s.heap e h' → E (.ref e) { s with heap := h', toks := tk' }),
  wpAny (model prog w) (mkA dp un gd l) (call (.ref 104) [.ref a.ik, .int many tm]) Q E s
namespace pop_specTC
noncomputable abbrev V := Program × World × Heap × (List Env) × Nat × Nat × (Option (List Code)) × Shared × Program × (List Str) × (ExcName → Option Value) × (Str → Option Value) × (Str → Option Value) × KA × KD × (List Str) × (List Int) × (List Int) × Nat × Tok × (Value → Shared → Prop) × (Value → Shared → Prop)
theorem ne : Nonempty V := by
  have := neW
  have := neS
  have := neA
  have := neD
  have := neK
  have := neR
  repeat (refine @instNonemptyProd _ _ ?_ ?_; · first | assumption | infer_instance)
  first | assumption | infer_instance
noncomputable def v : V := @Classical.epsilon V ne fun v => ¬ pop_specT v.1 v.2.1 v.2.2.1 v.2.2.2.1 v.2.2.2.2.1 v.2.2.2.2.2.1 v.2.2.2.2.2.2.1 v.2.2.2.2.2.2.2.1 v.2.2.2.2.2.2.2.2.1 v.2.2.2.2.2.2.2.2.2.1 v.2.2.2.2.2.2.2.2.2.2.1 v.2.2.2.2.2.2.2.2.2.2.2.1 v.2.2.2.2.2.2.2.2.2.2.2.2.1 v.2.2.2.2.2.2.2.2.2.2.2.2.2.1 v.2.2.2.2.2.2.2.2.2.2.2.2.2.2.1 v.2.2.2.2.2.2.2.2.2.2.2.2.2.2.2.1 v.2.2.2.2.2.2.2.2.2.2.2.2.2.2.2.2.1 v.2.2.2.2.2.2.2.2.2.2.2.2.2.2.2.2.2.1 v.2.2.2.2.2.2.2.2.2.2.2.2.2.2.2.2.2.2.1 v.2.2.2.2.2.2.2.2.2.2.2.2.2.2.2.2.2.2.2.1 v.2.2.2.2.2.2.2.2.2.2.2.2.2.2.2.2.2.2.2.2.1 v.2.2.2.2.2.2.2.2.2.2.2.2.2.2.2.2.2.2.2.2.2
@[irreducible] noncomputable def prog : Program := v.1
@[irreducible] noncomputable def w : World := v.2.1
@[irreducible] noncomputable def base : Heap := v.2.2.1
@[irreducible] noncomputable def l : List Env := v.2.2.2.1
@[irreducible] noncomputable def dp : Nat := v.2.2.2.2.1
@[irreducible] noncomputable def un : Nat := v.2.2.2.2.2.1
@[irreducible] noncomputable def gd : Option (List Code) := v.2.2.2.2.2.2.1
@[irreducible] noncomputable def s : Shared := v.2.2.2.2.2.2.2.1
@[irreducible] noncomputable def p : Program := v.2.2.2.2.2.2.2.2.1
@[irreducible] noncomputable def loose : List Str := v.2.2.2.2.2.2.2.2.2.1
@[irreducible] noncomputable def mean : ExcName → Option Value := v.2.2.2.2.2.2.2.2.2.2.1
@[irreducible] noncomputable def mg : Str → Option Value := v.2.2.2.2.2.2.2.2.2.2.2.1
@[irreducible] noncomputable def mb : Str → Option Value := v.2.2.2.2.2.2.2.2.2.2.2.2.1
@[irreducible] noncomputable def a : KA := v.2.2.2.2.2.2.2.2.2.2.2.2.2.1
@[irreducible] noncomputable def d : KD := v.2.2.2.2.2.2.2.2.2.2.2.2.2.2.1
@[irreducible] noncomputable def names : List Str := v.2.2.2.2.2.2.2.2.2.2.2.2.2.2.2.1
@[irreducible] noncomputable def sws : List Int := v.2.2.2.2.2.2.2.2.2.2.2.2.2.2.2.2.1
@[irreducible] noncomputable def floors : List Int := v.2.2.2.2.2.2.2.2.2.2.2.2.2.2.2.2.2.1
@[irreducible] noncomputable def many : Nat := v.2.2.2.2.2.2.2.2.2.2.2.2.2.2.2.2.2.2.1
@[irreducible] noncomputable def tm : Tok := v.2.2.2.2.2.2.2.2.2.2.2.2.2.2.2.2.2.2.2.1
@[irreducible] noncomputable def Q : Value → Shared → Prop := v.2.2.2.2.2.2.2.2.2.2.2.2.2.2.2.2.2.2.2.2.1
@[irreducible] noncomputable def E : Value → Shared → Prop := v.2.2.2.2.2.2.2.2.2.2.2.2.2.2.2.2.2.2.2.2.2
set_option maxHeartbeats 4000000 in
theorem holds : pop_specT prog w base l dp un gd s p loose mean mg mb a d names sws floors many tm Q E := by
  intro hprog hsup X T B hdp O o K hlen hnd hsd hfo hfl hm ret exc
  have OO := O
  obtain ⟨fb0, fb1, fb2, fb3, fb4, fb5, fb6, fb7, fb8, fb9, fb10, fb11, fb12, fb13, fb14, fb15, fb16, fb17, fb18, fb19, fb20⟩ := kPairsD O
  obtain ⟨o1, o2, o3, o4, o5, o6, n1, n2⟩ := O
  obtain ⟨k, hK, R0⟩ := K
  have R00 := R0
  obtain ⟨⟨kn, hpn, hkn⟩, ⟨ks, hps, hks⟩, hlv, hsv, hfv, hns⟩ := R0
  have N : Led base l s.heap (kLed a d k) := led_of o hK
  have hl4 : k.fv.size = floors.length := by rw [← hfv.length]; simp
  refine wpAny_call ?_
  k_dflt (refine' enter (binds := [("self", .ref a.ik), ("many", .int many tm)]) ?k1 ?k2 ?k3 ?k4 ?k6 ?k7 ?k8 ?k9 ?kB ?_ ?c2 ?c3 ?c4 ?c5; ((case k1 => assumption); (case k2 => assumption); (case k3 => assumption); (case k4 => assumption); (case k6 => k_is); (case k7 => k_is); (case k8 => k_room); (case k9 => exact BindsTo.of_eq rfl); (case c5 => decide); (case kB => exact locs rfl); (case c2 => exact rfl); (case c3 => exact rfl); (case c4 => exact rfl)))
  intro g' L' h' F' N' B' X' T' kG' gS' l1 nL
  (try k_lt l1)
  (try dsimp only); (try k_fold)
  (repeat' (first | (first | ((with_reducible first | (rename Gets _ _ => gQ'; refine at_of gQ' ?_; clear gQ'; try (rename (_ → Shared → Prop) => qQ'; clear qQ')) | refine at_of (by assumption) ?_); (try dsimp only)) | (with_reducible (first | refine s_exec ?_ | refine s_comp ?_); (with_reducible ((fail_if_success (refine s_at ?_)); refine cutX ?_; intro _ _)))) | ((with_reducible show wpAny _ _ (exec (Stmt.Raise (some _) none _) _) _ _ _); (k_here; k_dflt (refine exec_raise2 (by rfl) ?_))) | (k_here; (with_reducible show wpAny _ _ (call (Value.builtin "list.pop") _) _ _ _); k_dflt (refine kl_pop (by k_asm) (by k_asm) (kpa_last _ _) (by k_upd) (by ((simp only [List.length_append, sizeLine_eq, List.length_cons, List.length_nil]); omega)) ?_); intro _ _ _; (try k_sweep)) | (k_here; (with_reducible show wpAny _ _ (call (Value.ref 67) [Value.str _ _]) _ _ _); k_dflt (refine fault_spec X T (by exact pushX (by assumption) (by k_asm) rfl rfl) (by (simp only [depth_deeper]; omega)) (by assumption) (by assumption) ?_); intro _ _ _ _ _ _ _ _) | ((fail_if_success (with_reducible first | refine s_done ?_ | refine s_iter ?_ | refine s_tpost ?_ | refine s_while ?_ | refine s_call (by decide) ?_ | refine s_ifexp ?_ | refine s_cend ?_ | refine s_comp ?_ | refine s_srcT ?_ | refine s_src ?_)); (first | (k_unfold; (try dsimp only)) | (k_end; wrow_close) | walk1 | (dsimp only; walk1) | (leave1; walk_say "STEP leave1"; try dsimp only)))))
  · refine FaultV.mk _ _ _ rfl ((X'.keeps (Fr.keep (by k_asm))).keeps (by assumption)) (by assumption) ?_; refine leave1 B' rfl rfl (by k_asm) (allKept N kG' (by k_asm) (by k_asm)) nL (by assumption) (by assumption) (by assumption) (fun h9 R9 => ?_); refine exc (by omega) _ _ _ R9
  rename Fr _ _ _ _ => FF
  rename IsRange _ _ _ _ _ _ _ _ => RR
  have hmf : many ≤ floors.length := by omega
  rename News _ _ _ _ => NN
  refine forRange "floor" (fun i nx => ∃ k, nx = kLed a d k ∧ KRep prog w k (names.take (lev floors names.length i)) (sws.take (lev floors names.length i)) (floors.take (floors.length - i))) rfl RR (small3 hm).1 (small3 hm).2 FF NN ⟨k, rfl, ?_⟩ (by decide) ?_ ?_
  · rw [show lev floors names.length 0 = names.length from rfl, List.take_length, hns, List.take_length, Nat.sub_zero, List.take_length]; exact R00
  · rintro I i t u _ h₂ tk₂ oI lI lL hi ⟨k₁, rfl, R₁⟩ F₁ N₁
    clear FF NN RR
    have lI0 := lI
    (try k_lt lI)
    obtain ⟨r1, r2, hlv1, hsv1, hfv1, hns1⟩ := R₁
    have hif : i < floors.length := Nat.lt_of_lt_of_le hi hmf
    rw [floors_split hfo hif] at hfv1
    obtain ⟨us, tu, hus, hus'⟩ := intsAre_snoc hfv1
    have hul := hus'.length
    obtain ⟨lv, nl, sv, ns, fv, nf, opn, ops⟩ := k₁
    dsimp only at hus r1 r2 hlv1 hsv1
    have e1 := arr_of hus
    subst e1
    have hul2 : us.length ≤ 100 := by rw [hul, List.length_take]; exact Nat.le_trans (Nat.min_le_right _ _) hfl
    (try dsimp only at F₁ N₁); (try k_fold)
    (repeat' (first | (first | ((with_reducible first | (rename Gets _ _ => gQ'; refine at_of gQ' ?_; clear gQ'; try (rename (_ → Shared → Prop) => qQ'; clear qQ')) | refine at_of (by assumption) ?_); (try dsimp only)) | (with_reducible (first | refine s_exec ?_ | refine s_comp ?_); (with_reducible ((fail_if_success (refine s_at ?_)); refine cutX ?_; intro _ _)))) | ((with_reducible show wpAny _ _ (exec (Stmt.Raise (some _) none _) _) _ _ _); (k_here; k_dflt (refine exec_raise2 (by rfl) ?_))) | (k_here; (with_reducible show wpAny _ _ (call (Value.builtin "list.pop") _) _ _ _); k_dflt (refine kl_pop (by k_asm) (by k_asm) (kpa_last _ _) (by k_upd) (by ((simp only [List.length_append, sizeLine_eq, List.length_cons, List.length_nil]); omega)) ?_); intro _ _ _; (try k_sweep)) | (k_here; (with_reducible show wpAny _ _ (call (Value.ref 67) [Value.str _ _]) _ _ _); k_dflt (refine fault_spec X T (by exact pushX (by assumption) (by k_asm) rfl rfl) (by (simp only [depth_deeper]; omega)) (by assumption) (by assumption) ?_); intro _ _ _ _ _ _ _ _) | ((fail_if_success (with_reducible first | refine s_done ?_ | refine s_iter ?_ | refine s_tpost ?_ | refine s_while ?_ | refine s_call (by decide) ?_ | refine s_ifexp ?_ | refine s_cend ?_ | refine s_comp ?_ | refine s_srcT ?_ | refine s_src ?_)); (first | (k_unfold; (try dsimp only)) | (k_end; wrow_close) | walk1 | (dsimp only; walk1) | (leave1; walk_say "STEP leave1"; try dsimp only)))))
    rename Fr _ _ _ _ => FF
    rename News _ _ _ _ => NN
    refine While_inv ((fun m₀ n m₁ nx => ∃ j k₂, m₁ = m₀ ∧ lev floors names.length (i + 1) ≤ j ∧ j ≤ lev floors names.length i ∧ n = j - lev floors names.length (i + 1) ∧ nx = (I, oI) :: kLed a d k₂ ∧ KRep prog w k₂ (names.take j) (sws.take j) (floors.take (floors.length - (i + 1)))) _) FF NN
      ⟨lev floors names.length i, ⟨lv, nl, sv, ns, us.toArray, _, opn, ops⟩, rfl, lev_step hfo hif, Nat.le_refl _, rfl, rfl, ⟨r1, r2, hlv1, hsv1, hus', hns1⟩⟩ ?_
    rintro n9 m₁ _ h₃ tk₃ F₃ N₃ ⟨j, k₂, rfl, hj1, hj2, rfl, rfl, R₂⟩
    clear FF NN
    have hjn : j ≤ names.length := Nat.le_trans hj2 (lev_le hfo (Nat.le_of_lt hif))
    have hjs : j ≤ sws.length := by first | (rw [← hns]; exact hjn) | (rw [hns]; exact hjn) | omega
    have R22 := R₂
    obtain ⟨⟨kn2, hpn2, hkn2⟩, ⟨ks2, hps2, hks2⟩, hlv2, hsv2, hfv2, hns2⟩ := R₂
    have hl9 : k₂.lv.size = j := (show k₂.lv.toList.length = j from (strsAre_length hlv2).trans (by rw [List.length_take]; exact Nat.min_eq_left hjn))
    (try dsimp only at F₃ N₃); (try k_fold)
    (repeat' (first | (first | ((with_reducible first | (rename Gets _ _ => gQ'; refine at_of gQ' ?_; clear gQ'; try (rename (_ → Shared → Prop) => qQ'; clear qQ')) | refine at_of (by assumption) ?_); (try dsimp only)) | (with_reducible (first | refine s_exec ?_ | refine s_comp ?_); (with_reducible ((fail_if_success (refine s_at ?_)); refine cutX ?_; intro _ _)))) | ((with_reducible show wpAny _ _ (exec (Stmt.Raise (some _) none _) _) _ _ _); (k_here; k_dflt (refine exec_raise2 (by rfl) ?_))) | (k_here; (with_reducible show wpAny _ _ (call (Value.builtin "list.pop") _) _ _ _); k_dflt (refine kl_pop (by k_asm) (by k_asm) (kpa_last _ _) (by k_upd) (by ((simp only [List.length_append, sizeLine_eq, List.length_cons, List.length_nil]); omega)) ?_); intro _ _ _; (try k_sweep)) | (k_here; (with_reducible show wpAny _ _ (call (Value.ref 67) [Value.str _ _]) _ _ _); k_dflt (refine fault_spec X T (by exact pushX (by assumption) (by k_asm) rfl rfl) (by (simp only [depth_deeper]; omega)) (by assumption) (by assumption) ?_); intro _ _ _ _ _ _ _ _) | ((fail_if_success (with_reducible first | refine s_done ?_ | refine s_iter ?_ | refine s_tpost ?_ | refine s_while ?_ | refine s_call (by decide) ?_ | refine s_ifexp ?_ | refine s_cend ?_ | refine s_comp ?_ | refine s_srcT ?_ | refine s_src ?_)); (first | (k_unfold; (try dsimp only)) | (k_end; wrow_close) | walk1 | (dsimp only; walk1) | (leave1; walk_say "STEP leave1"; try dsimp only)))))
    · have hj0 : lev floors names.length (i + 1) < j := by omega
      have hj8 : j - 1 < names.length := pj2 hj0 hjn
      have hj7 : j - 1 < sws.length := pj2 hj0 hjs
      have t1 := take_last names hj8
      have t2 := take_last sws hj7
      rw [Nat.sub_add_cancel (Nat.lt_of_le_of_lt (Nat.zero_le _) hj0)] at t1 t2
      have u1 : names[j - 1] ∉ names.take (j - 1) := by
        have := (List.take_sublist j names).nodup hnd
        rw [t1, List.nodup_append] at this
        exact fun hm => this.2.2 _ hm _ (List.mem_singleton.mpr rfl) rfl
      have u2 : sws[j - 1] ∉ sws.take (j - 1) := by
        have := (List.take_sublist j sws).nodup hsd
        rw [t2, List.nodup_append] at this
        exact fun hm => this.2.2 _ hm _ (List.mem_singleton.mpr rfl) rfl
      rw [t1, t2] at R22
      show wpAny _ _ (call (.ref 111) [.ref a.ik]) _ _ _
      refine drop_spec X T ?B (by show dp + 1 ≤ 600; omega) OO (off_push o N₃ (sub_k (d := d) (k := k₂) fun p hp => List.mem_cons_of_mem _ hp) rfl) (kat_of N₃ (fun p hp => List.mem_cons_of_mem _ hp) R22) (by rw [List.length_take]; exact Nat.le_trans (Nat.min_le_right _ _) hlen) u1 u2 ?_
      case B => exact pushX B' F₃ rfl rfl
      intro h₄ tk₄ kp4 K4
      obtain ⟨k₄, F₄, N₄, R₄⟩ := after_k (pre := [(I, oI)]) F₃ N₃ (fun p hp => by rw [List.mem_singleton.mp hp]; exact fun hm => (List.mem_map.mp (show I ∈ (kLed a d k).map (·.1) from hm)).elim fun q hq => absurd hq.2 (Nat.ne_of_lt (lI0 q hq.1))) kp4 K4
      (repeat' (first | (first | ((with_reducible first | (rename Gets _ _ => gQ'; refine at_of gQ' ?_; clear gQ'; try (rename (_ → Shared → Prop) => qQ'; clear qQ')) | refine at_of (by assumption) ?_); (try dsimp only)) | (with_reducible (first | refine s_exec ?_ | refine s_comp ?_); (with_reducible ((fail_if_success (refine s_at ?_)); refine cutX ?_; intro _ _)))) | ((with_reducible show wpAny _ _ (exec (Stmt.Raise (some _) none _) _) _ _ _); (k_here; k_dflt (refine exec_raise2 (by rfl) ?_))) | (k_here; (with_reducible show wpAny _ _ (call (Value.builtin "list.pop") _) _ _ _); k_dflt (refine kl_pop (by k_asm) (by k_asm) (kpa_last _ _) (by k_upd) (by ((simp only [List.length_append, sizeLine_eq, List.length_cons, List.length_nil]); omega)) ?_); intro _ _ _; (try k_sweep)) | (k_here; (with_reducible show wpAny _ _ (call (Value.ref 67) [Value.str _ _]) _ _ _); k_dflt (refine fault_spec X T (by exact pushX (by assumption) (by k_asm) rfl rfl) (by (simp only [depth_deeper]; omega)) (by assumption) (by assumption) ?_); intro _ _ _ _ _ _ _ _) | ((fail_if_success (with_reducible first | refine s_done ?_ | refine s_iter ?_ | refine s_tpost ?_ | refine s_while ?_ | refine s_call (by decide) ?_ | refine s_ifexp ?_ | refine s_cend ?_ | refine s_comp ?_ | refine s_srcT ?_ | refine s_src ?_)); (first | (k_unfold; (try dsimp only)) | (k_end; wrow_close) | walk1 | (dsimp only; walk1) | (leave1; walk_say "STEP leave1"; try dsimp only)))))
      exact WhileStep.intro F₄ N₄ (pj1 hj0) ⟨j - 1, k₄, rfl, Nat.le_sub_one_of_lt hj0, Nat.le_trans (Nat.sub_le _ _) hj2, rfl, rfl, R₄⟩
    · have hj0 : j = lev floors names.length (i + 1) := by omega
      subst hj0
      exact TEnd.tail F₃ N₃ rfl ⟨⟨_, rfl, R22⟩, fun z h1 h2 => (if_neg h2).trans ((if_neg h1).trans (if_neg h2))⟩
  · rintro u _ h₂ tk₂ ⟨k₁, rfl, R₁⟩ F₁ N₁
    clear FF NN RR
    (try dsimp only at F₁); (try dsimp only)
    (repeat' (first | (first | ((with_reducible first | (rename Gets _ _ => gQ'; refine at_of gQ' ?_; clear gQ'; try (rename (_ → Shared → Prop) => qQ'; clear qQ')) | refine at_of (by assumption) ?_); (try dsimp only)) | (with_reducible (first | refine s_exec ?_ | refine s_comp ?_); (with_reducible ((fail_if_success (refine s_at ?_)); refine cutX ?_; intro _ _)))) | ((with_reducible show wpAny _ _ (exec (Stmt.Raise (some _) none _) _) _ _ _); (k_here; k_dflt (refine exec_raise2 (by rfl) ?_))) | (k_here; (with_reducible show wpAny _ _ (call (Value.builtin "list.pop") _) _ _ _); k_dflt (refine kl_pop (by k_asm) (by k_asm) (kpa_last _ _) (by k_upd) (by ((simp only [List.length_append, sizeLine_eq, List.length_cons, List.length_nil]); omega)) ?_); intro _ _ _; (try k_sweep)) | (k_here; (with_reducible show wpAny _ _ (call (Value.ref 67) [Value.str _ _]) _ _ _); k_dflt (refine fault_spec X T (by exact pushX (by assumption) (by k_asm) rfl rfl) (by (simp only [depth_deeper]; omega)) (by assumption) (by assumption) ?_); intro _ _ _ _ _ _ _ _) | ((fail_if_success (with_reducible first | refine s_done ?_ | refine s_iter ?_ | refine s_tpost ?_ | refine s_while ?_ | refine s_call (by decide) ?_ | refine s_ifexp ?_ | refine s_cend ?_ | refine s_comp ?_ | refine s_srcT ?_ | refine s_src ?_)); (first | (k_unfold; (try dsimp only)) | (k_end; wrow_close) | walk1 | (dsimp only; walk1) | (leave1; walk_say "STEP leave1"; try dsimp only)))))
    exact .mk (ret hmf _ _ (keptOf kG' F₁) (kat_of N₁ (fun p hp => hp) R₁))
end pop_specTC
theorem pop_specT.all (prog : Program) (w : World) (base : Heap) (l : List Env) (dp : Nat) (un : Nat) (gd : Option (List Code)) (s : Shared) (p : Program) (loose : List Str) (mean : ExcName → Option Value) (mg : Str → Option Value) (mb : Str → Option Value) (a : KA) (d : KD) (names : List Str) (sws : List Int) (floors : List Int) (many : Nat) (tm : Tok) (Q : Value → Shared → Prop) (E : Value → Shared → Prop) : pop_specT prog w base l dp un gd s p loose mean mg mb a d names sws floors many tm Q E :=
  @hkAll pop_specTC.V pop_specTC.ne (fun v => pop_specT v.1 v.2.1 v.2.2.1 v.2.2.2.1 v.2.2.2.2.1 v.2.2.2.2.2.1 v.2.2.2.2.2.2.1 v.2.2.2.2.2.2.2.1 v.2.2.2.2.2.2.2.2.1 v.2.2.2.2.2.2.2.2.2.1 v.2.2.2.2.2.2.2.2.2.2.1 v.2.2.2.2.2.2.2.2.2.2.2.1 v.2.2.2.2.2.2.2.2.2.2.2.2.1 v.2.2.2.2.2.2.2.2.2.2.2.2.2.1 v.2.2.2.2.2.2.2.2.2.2.2.2.2.2.1 v.2.2.2.2.2.2.2.2.2.2.2.2.2.2.2.1 v.2.2.2.2.2.2.2.2.2.2.2.2.2.2.2.2.1 v.2.2.2.2.2.2.2.2.2.2.2.2.2.2.2.2.2.1 v.2.2.2.2.2.2.2.2.2.2.2.2.2.2.2.2.2.2.1 v.2.2.2.2.2.2.2.2.2.2.2.2.2.2.2.2.2.2.2.1 v.2.2.2.2.2.2.2.2.2.2.2.2.2.2.2.2.2.2.2.2.1 v.2.2.2.2.2.2.2.2.2.2.2.2.2.2.2.2.2.2.2.2.2) (by with_unfolding_all exact pop_specTC.holds) (prog, w, base, l, dp, un, gd, s, p, loose, mean, mg, mb, a, d, names, sws, floors, many, tm, Q, E)
theorem pop_spec {prog : Program} {w : World} {base : Heap} {l : List Env} {dp un : Nat} {gd : Option (List Code)} {s : Shared} {p : Program} {loose : List Str} {mean : ExcName → Option Value} {mg mb : Str → Option Value}
    {a : KA} {d : KD} {names : List Str} {sws floors : List Int} {many : Nat} {tm : Tok} {Q E : Value → Shared → Prop}
    (hprog : (prog.main.file : Str) = "/claim/cut.py") (hsup : (prog.main.scope.names.lookup ("super" : Str)).isSome = false)
    (X : (hd.heap_39 w.params).In base) (T : Top p loose mean mg mb base) (B : Below (mkA dp un gd l) base l s.heap)
    (hdp : dp ≤ 590) (O : a.Ord) (o : Off base l (kAdr a)) (K : KAt prog w a d names sws floors s.heap) (hlen : names.length ≤ 100) (hnd : names.Nodup) (hsd : sws.Nodup) (hfo : FOk floors names.length) (hfl : floors.length ≤ 100)
    (hm : many ≤ 3)
    (ret : many ≤ floors.length → ∀ h' tk', Kept s.heap h' (kAdr a) → KAt prog w a d (names.take (lev floors names.length many)) (sws.take (lev floors names.length many)) (floors.take (floors.length - many)) h' → Q .none { s with heap := h', toks := tk' })
    (exc : ¬ many ≤ floors.length → ∀ h' e tk', RaisedX base l s.heap e h' → E (.ref e) { s with heap := h', toks := tk' }) :
    wpAny (model prog w) (mkA dp un gd l) (call (.ref 104) [.ref a.ik, .int many tm]) Q E s := by
  exact pop_specT.all _ _ _ _ _ _ _ _ _ _ _ _ _ _ _ _ _ _ _ _ _ _ hprog hsup X T B hdp O o K hlen hnd hsd hfo hfl hm ret exc
end
section
theorem pop_specI {prog : Program} {w : World} {base : Heap} {l : List Env} {dp un : Nat} {gd : Option (List Code)} {s : Shared} {p : Program} {loose : List Str} {mean : ExcName → Option Value} {mg mb : Str → Option Value}
    {a : KA} {d : KD} {names : List Str} {sws floors : List Int} {i : Int} {tm : Tok} {Q E : Value → Shared → Prop}
    (hprog : (prog.main.file : Str) = "/claim/cut.py") (hsup : (prog.main.scope.names.lookup ("super" : Str)).isSome = false)
    (X : (hd.heap_39 w.params).In base) (T : Top p loose mean mg mb base) (B : Below (mkA dp un gd l) base l s.heap)
    (hdp : dp ≤ 590) (O : a.Ord) (o : Off base l (kAdr a)) (K : KAt prog w a d names sws floors s.heap) (hlen : names.length ≤ 100) (I : Inv names sws floors) (hfl : floors.length ≤ 100) (h0 : 0 ≤ i) (h3 : i ≤ 3)
    (ret : i.toNat ≤ floors.length → ∀ h' tk', Kept s.heap h' (kAdr a) → KAt prog w a d (names.take (lev floors names.length i.toNat)) (sws.take (lev floors names.length i.toNat)) (floors.take (floors.length - i.toNat)) h' → Q .none { s with heap := h', toks := tk' })
    (exc : ¬ i.toNat ≤ floors.length → ∀ h' e tk', RaisedX base l s.heap e h' → E (.ref e) { s with heap := h', toks := tk' }) :
    wpAny (model prog w) (mkA dp un gd l) (call (.ref 104) [.ref a.ik, .int i tm]) Q E s := by
  obtain ⟨n, rfl⟩ := Int.eq_ofNat_of_zero_le h0
  exact pop_spec hprog hsup X T B hdp O o K hlen I.nd I.sd I.fo hfl (by omega) ret exc
theorem lev_item {floors : List Int} {n : Nat} {i : Int} (h0 : 0 < i) (h : i.toNat ≤ floors.length) : (floors.getD ((floors.length : Int) - i).toNat 0).toNat = lev floors n i.toNat := by
  unfold lev
  rw [if_neg (fun q => absurd (Int.toNat_eq_zero.mp q) (Int.not_le.mpr h0)), subT (Int.le_of_lt h0)]
theorem PrsAt.take {h : Heap} {its : List Value} {names : List Str} {sws : List Int} (P : PrsAt h its names sws) (j : Nat) : PrsAt h (its.take j) (names.take j) (sws.take j) := by
  refine ⟨by simp [P.len], by simp [P.len2], fun i v e => ?_⟩
  have hij : i < j := by
    rcases Nat.lt_or_ge i j with h | h
    · exact h
    · rw [List.getElem?_eq_none (by rw [List.length_take]; exact Nat.le_trans (Nat.min_le_left _ _) h)] at e; cases e
  rw [List.getElem?_take_of_lt hij] at e
  obtain ⟨t, n, s, tn, ts, rfl, ht, h1, h2⟩ := P.at_ i v e
  exact ⟨t, n, s, tn, ts, rfl, ht, by rw [List.getElem?_take_of_lt hij]; exact h1, by rw [List.getElem?_take_of_lt hij]; exact h2⟩
end
section
theorem fr_kept {g h h' : Heap} {L : Addr} {m : Str → Option Value} {news sub : List (Addr × Obj)} (F : Fr g L h m) (N : News g L h news) (hs : ∀ p ∈ sub, p ∈ news) (kp : Kept h h' (sub.map (·.1))) : Fr g L h' m :=
  frKept F kp fun b hb => by
    obtain ⟨q, hq, rfl⟩ := List.mem_map.mp hb
    exact ⟨(N q (hs q hq)).2.2, (N q (hs q hq)).2.1⟩
end
section
noncomputable def FreeTo (names : List Str) (sws : List Int) (x : Str) (sw : Int) (i : Nat) : Prop := ∀ (j : Nat) n s, j < i → names[j]? = some n → sws[j]? = some s → n ≠ x ∧ s.natAbs ≠ sw.natAbs
theorem abs_same {s t : Int} : ((if s < 0 then -s else s) = if t < 0 then -t else t) ↔ s.natAbs = t.natAbs := by
  have e (x : Int) : (if x < 0 then -x else x) = (x.natAbs : Int) := by
    split
    · next h => exact (Int.ofNat_natAbs_of_nonpos (Int.le_of_lt h)).symm
    · next h => exact (Int.natAbs_of_nonneg (Int.not_lt.mp h)).symm
  rw [e, e, Int.natCast_inj]
theorem freeTo_bad {names : List Str} {sws : List Int} {x n : Str} {sw s : Int} {i : Nat} (hn : names[i]? = some n) (hs : sws[i]? = some s) (h : n = x ∨ s.natAbs = sw.natAbs) : ¬ FreeTo names sws x sw (i + 1) := fun f => by
  have := f i n s (Nat.lt_succ_self i) hn hs
  rcases h with h | h
  · exact this.1 h
  · exact this.2 h
theorem freeTo_good {names : List Str} {sws : List Int} {x n : Str} {sw s : Int} {i : Nat} (hn : names[i]? = some n) (hs : sws[i]? = some s) (h1 : n ≠ x) (h2 : s.natAbs ≠ sw.natAbs) : FreeTo names sws x sw (i + 1) ↔ FreeTo names sws x sw i := by
  constructor
  · exact fun f j n s hj => f j n s (Nat.lt_succ_of_lt hj)
  · intro f j n' s' hj hn' hs'
    rcases Nat.lt_or_ge j i with h | h
    · exact f j n' s' h hn' hs'
    · have : j = i := Nat.le_antisymm (Nat.le_of_lt_succ hj) h
      subst this
      rw [hn] at hn'
      rw [hs] at hs'
      cases hn'
      cases hs'
      exact ⟨h1, h2⟩
theorem freeTo_all {names : List Str} {sws : List Int} {x : Str} {sw : Int} (hl : names.length = sws.length) : FreeTo names sws x sw names.length ↔ x ∉ names ∧ sw.natAbs ∉ sws.map Int.natAbs := by
  constructor
  · intro f
    refine ⟨fun hx => ?_, fun hs => ?_⟩
    · obtain ⟨j, hj⟩ := List.mem_iff_getElem?.mp hx
      have hjl := (List.getElem?_eq_some_iff.mp hj).1
      exact (f j x sws[j] hjl hj (by simp [hl ▸ hjl])).1 rfl
    · obtain ⟨s, hs, e⟩ := List.mem_map.mp hs
      obtain ⟨j, hj⟩ := List.mem_iff_getElem?.mp hs
      have hjl := (List.getElem?_eq_some_iff.mp hj).1
      have hjn : j < names.length := by rw [hl]; exact hjl
      exact (f j names[j] s hjn (by simp [hjn]) hj).2 e
  · rintro ⟨h1, h2⟩ j n s hj hn hs
    exact ⟨fun e => h1 (e ▸ List.mem_of_getElem? hn), fun e => h2 (List.mem_map.mpr ⟨s, List.mem_of_getElem? hs, e⟩)⟩
theorem abs_out {sws : List Int} {i : Int} (h : i.natAbs ∉ sws.map Int.natAbs) : i ∉ sws ∧ -i ∉ sws := ⟨fun q => h (List.mem_map.mpr ⟨i, q, rfl⟩), fun q => h (List.mem_map.mpr ⟨-i, q, by simp⟩)⟩
theorem abs_in {sws : List Int} {i : Int} (h : i ∉ sws) (h' : -i ∉ sws) : i.natAbs ∉ sws.map Int.natAbs := fun q => by
  obtain ⟨s, hs, e⟩ := List.mem_map.mp q
  have : s = i ∨ s = -i := Int.natAbs_eq_natAbs_iff.mp e
  rcases this with rfl | rfl
  · exact h hs
  · exact h' hs
end
section
section
variable {prog : Program} {w : World} {A : Around} {E : Value → Shared → Prop} {s : Shared} {h₀ : Heap} {L l b : Addr} {m : Str → Option Value} {news : List (Addr × Obj)} {vs ws : List Value} {Q : Value → Shared → Prop}
theorem add_gen (F : Fr h₀ L s.heap m) (N : News h₀ L s.heap news) (hl : s.heap.IsList l vs.toArray) (hb : s.heap.IsList b ws.toArray)
    (h : ∀ D h', Fr h₀ L h' m → News h₀ L h' ((D, listOf (vs ++ ws).toArray 0) :: news) → (∀ p ∈ news, p.1 < D) → Q (.ref D) { s with heap := h' })
    (hsz : vs.length + ws.length ≤ sizeLine) : wpAny (model prog w) A (binaryOp .Add (.ref l) (.ref b)) Q E s :=
  add_lists (hsz := hsz) F N hl hb fun h' F' N' => h _ h' F' N' fun p hp => Heap.lt_size (N p hp).1
end
theorem PrsAt.snoc {h : Heap} {its : List Value} {names : List Str} {sws : List Int} (P : PrsAt h its names sws) {t : Addr} {x : Str} {i : Int} {tx ti : Tok} (ht : IsTup h t #[.str x tx, .int i ti]) : PrsAt h (its ++ [.ref t]) (names ++ [x]) (sws ++ [i]) := by
  refine ⟨by simp [P.len], by simp [P.len2], fun j v e => ?_⟩
  rcases Nat.lt_or_ge j its.length with hj | hj
  · rw [List.getElem?_append_left hj] at e
    obtain ⟨t', n, s, tn, ts, rfl, ht', h1, h2⟩ := P.at_ j v e
    exact ⟨t', n, s, tn, ts, rfl, ht', by rw [List.getElem?_append_left (P.len ▸ hj)]; exact h1, by rw [List.getElem?_append_left (P.len2 ▸ P.len ▸ hj)]; exact h2⟩
  · rw [List.getElem?_append_right hj] at e
    have hl := P.len
    have hl2 := P.len2
    have hj0 : j - its.length = 0 := by
      rcases Nat.eq_zero_or_pos (j - its.length) with h | h
      · exact h
      · rw [List.getElem?_eq_none (show [Value.ref t].length ≤ j - its.length from h)] at e; cases e
    rw [hj0] at e
    cases e
    refine ⟨t, x, i, tx, ti, rfl, ht, ?_, ?_⟩
    · rw [List.getElem?_append_right (hl ▸ hj), ← hl, hj0]; rfl
    · rw [List.getElem?_append_right (hl2 ▸ hl ▸ hj), ← hl2, ← hl, hj0]; rfl
end
section
theorem name_obj {P : Obj → Prop} {o : Obj} {v : Data} (d : o.data = v) (h : ∀ o', o'.data = v → P o') : P o := h o d
end
section
theorem name2 {g h : Heap} {L b1 b2 : Addr} {news : List (Addr × Obj)} {o1 o2 : Obj} {v1 v2 : Data} (_N : News g L h news) (d1 : o1.data = v1) (d2 : o2.data = v2) (m1 : (b1, o1) ∈ news) (m2 : (b2, o2) ∈ news) :
    ∃ o1 o2 : Obj, o1.data = v1 ∧ o2.data = v2 ∧ (b1, o1) ∈ news ∧ (b2, o2) ∈ news := ⟨o1, o2, d1, d2, m1, m2⟩
end
section
example : True := by w_top off; trivial
local macro_rules | `(tactic| walk_at "x_pad0") => `(tactic| skip)
noncomputable def add_specT (prog : Program) (w : World) (base : Heap) (l : List Env) (dp : Nat) (un : Nat) (gd : Option (List Code)) (s : Shared) (p : Program) (loose : List Str) (mean : ExcName → Option Value) (mg : Str → Option Value) (mb : Str → Option Value) (a : KA) (d : KD) (names : List Str) (sws : List Int) (floors : List Int) (x : Str) (i : Int) (tx : Tok) (ti : Tok) (Q : Value → Shared → Prop) (E : Value → Shared → Prop) : Prop :=
  ∀ (hprog : (prog.main.file : Str) = "/claim/cut.py"),
  ∀ (hsup : (prog.main.scope.names.lookup ("super" : Str)).isSome = false),
  ∀ (X : (hd.heap_39 w.params).In base),
  ∀ (T : Top p loose mean mg mb base),
  ∀ (B : Below (mkA dp un gd l) base l s.heap),
  ∀ (hdp : dp ≤ 600),
  ∀ (O : a.Ord),
  ∀ (o : Off base l (kAdr a)),
  ∀ (K : KAt prog w a d names sws floors s.heap),
  ∀ (hlen : names.length ≤ 100),
  ∀ (hxl : x.length ≤ 1000),
  ∀ (ret : x ∉ names → i ∉ sws → -i ∉ sws → ∀ h' tk', Kept s.heap h' (kAdr a) → KAt prog w a d (names ++ [x]) (sws ++ [i]) floors h' → Q .none { s with heap := h', toks := tk' }),
  ∀ (exc : (x ∈ names ∨ i ∈ sws ∨ -i ∈ sws) → ∀ h' e tk', RaisedX base l s.heap e h' → E (.ref e) { s with heap := h', toks := tk' }),
  wpAny (model prog w) (mkA dp un gd l) (call (.ref 90) [.ref a.ik, .str x tx, .int i ti]) Q E s
namespace add_specTC
noncomputable abbrev V := Program × World × Heap × (List Env) × Nat × Nat × (Option (List Code)) × Shared × Program × (List Str) × (ExcName → Option Value) × (Str → Option Value) × (Str → Option Value) × KA × KD × (List Str) × (List Int) × (List Int) × Str × Int × Tok × Tok × (Value → Shared → Prop) × (Value → Shared → Prop)
theorem ne : Nonempty V := by
  have := neW
  have := neS
  have := neA
  have := neD
  have := neK
  have := neR
  repeat (refine @instNonemptyProd _ _ ?_ ?_; · first | assumption | infer_instance)
  first | assumption | infer_instance
noncomputable def v : V := @Classical.epsilon V ne fun v => ¬ add_specT v.1 v.2.1 v.2.2.1 v.2.2.2.1 v.2.2.2.2.1 v.2.2.2.2.2.1 v.2.2.2.2.2.2.1 v.2.2.2.2.2.2.2.1 v.2.2.2.2.2.2.2.2.1 v.2.2.2.2.2.2.2.2.2.1 v.2.2.2.2.2.2.2.2.2.2.1 v.2.2.2.2.2.2.2.2.2.2.2.1 v.2.2.2.2.2.2.2.2.2.2.2.2.1 v.2.2.2.2.2.2.2.2.2.2.2.2.2.1 v.2.2.2.2.2.2.2.2.2.2.2.2.2.2.1 v.2.2.2.2.2.2.2.2.2.2.2.2.2.2.2.1 v.2.2.2.2.2.2.2.2.2.2.2.2.2.2.2.2.1 v.2.2.2.2.2.2.2.2.2.2.2.2.2.2.2.2.2.1 v.2.2.2.2.2.2.2.2.2.2.2.2.2.2.2.2.2.2.1 v.2.2.2.2.2.2.2.2.2.2.2.2.2.2.2.2.2.2.2.1 v.2.2.2.2.2.2.2.2.2.2.2.2.2.2.2.2.2.2.2.2.1 v.2.2.2.2.2.2.2.2.2.2.2.2.2.2.2.2.2.2.2.2.2.1 v.2.2.2.2.2.2.2.2.2.2.2.2.2.2.2.2.2.2.2.2.2.2.1 v.2.2.2.2.2.2.2.2.2.2.2.2.2.2.2.2.2.2.2.2.2.2.2
@[irreducible] noncomputable def prog : Program := v.1
@[irreducible] noncomputable def w : World := v.2.1
@[irreducible] noncomputable def base : Heap := v.2.2.1
@[irreducible] noncomputable def l : List Env := v.2.2.2.1
@[irreducible] noncomputable def dp : Nat := v.2.2.2.2.1
@[irreducible] noncomputable def un : Nat := v.2.2.2.2.2.1
@[irreducible] noncomputable def gd : Option (List Code) := v.2.2.2.2.2.2.1
@[irreducible] noncomputable def s : Shared := v.2.2.2.2.2.2.2.1
@[irreducible] noncomputable def p : Program := v.2.2.2.2.2.2.2.2.1
@[irreducible] noncomputable def loose : List Str := v.2.2.2.2.2.2.2.2.2.1
@[irreducible] noncomputable def mean : ExcName → Option Value := v.2.2.2.2.2.2.2.2.2.2.1
@[irreducible] noncomputable def mg : Str → Option Value := v.2.2.2.2.2.2.2.2.2.2.2.1
@[irreducible] noncomputable def mb : Str → Option Value := v.2.2.2.2.2.2.2.2.2.2.2.2.1
@[irreducible] noncomputable def a : KA := v.2.2.2.2.2.2.2.2.2.2.2.2.2.1
@[irreducible] noncomputable def d : KD := v.2.2.2.2.2.2.2.2.2.2.2.2.2.2.1
@[irreducible] noncomputable def names : List Str := v.2.2.2.2.2.2.2.2.2.2.2.2.2.2.2.1
@[irreducible] noncomputable def sws : List Int := v.2.2.2.2.2.2.2.2.2.2.2.2.2.2.2.2.1
@[irreducible] noncomputable def floors : List Int := v.2.2.2.2.2.2.2.2.2.2.2.2.2.2.2.2.2.1
@[irreducible] noncomputable def x : Str := v.2.2.2.2.2.2.2.2.2.2.2.2.2.2.2.2.2.2.1
@[irreducible] noncomputable def i : Int := v.2.2.2.2.2.2.2.2.2.2.2.2.2.2.2.2.2.2.2.1
@[irreducible] noncomputable def tx : Tok := v.2.2.2.2.2.2.2.2.2.2.2.2.2.2.2.2.2.2.2.2.1
@[irreducible] noncomputable def ti : Tok := v.2.2.2.2.2.2.2.2.2.2.2.2.2.2.2.2.2.2.2.2.2.1
@[irreducible] noncomputable def Q : Value → Shared → Prop := v.2.2.2.2.2.2.2.2.2.2.2.2.2.2.2.2.2.2.2.2.2.2.1
@[irreducible] noncomputable def E : Value → Shared → Prop := v.2.2.2.2.2.2.2.2.2.2.2.2.2.2.2.2.2.2.2.2.2.2.2
set_option maxHeartbeats 4000000 in
theorem holds : add_specT prog w base l dp un gd s p loose mean mg mb a d names sws floors x i tx ti Q E := by
  intro hprog hsup X T B hdp O o K hlen hxl ret exc
  obtain ⟨fb0, fb1, fb2, fb3, fb4, fb5, fb6, fb7, fb8, fb9, fb10, fb11, fb12, fb13, fb14, fb15, fb16, fb17, fb18, fb19, fb20⟩ := kPairsD O
  obtain ⟨o1, o2, o3, o4, o5, o6, n1, n2⟩ := O
  obtain ⟨k, hK, ⟨kn, hpn, hkn⟩, ⟨ks, hps, hks⟩, hlv, hsv, hfv, hns⟩ := K
  have N : Led base l s.heap (kLed a d k) := led_of o hK
  have hl1 := hkn.length
  have hl2 := hks.length
  have hl3 : k.lv.size = names.length := by rw [← strsAre_length hlv]; simp
  have hl4 : k.sv.size = sws.length := by rw [← hsv.length]; simp
  refine wpAny_call ?_
  k_dflt (refine' enter (binds := [("self", .ref a.ik), ("name", .str x tx), ("switch", .int i ti)]) ?k1 ?k2 ?k3 ?k4 ?k6 ?k7 ?k8 ?k9 ?kB ?_ ?c2 ?c3 ?c4 ?c5; ((case k1 => assumption); (case k2 => assumption); (case k3 => assumption); (case k4 => assumption); (case k6 => k_is); (case k7 => k_is); (case k8 => k_room); (case k9 => exact BindsTo.of_eq rfl); (case c5 => decide); (case kB => exact locs rfl); (case c2 => exact rfl); (case c3 => exact rfl); (case c4 => exact rfl)))
  intro g' L' h' F' N' B' X' T' kG' gS' l1 nL
  (try k_lt l1)
  (try dsimp only); (try k_fold)
  (repeat' (first | (first | ((with_reducible first | (rename Gets _ _ => gQ'; refine at_of gQ' ?_; clear gQ'; try (rename (_ → Shared → Prop) => qQ'; clear qQ')) | refine at_of (by assumption) ?_); (try dsimp only)) | (with_reducible (first | refine s_exec ?_ | refine s_comp ?_); (with_reducible ((fail_if_success (refine s_at ?_)); refine cutX ?_; intro _ _)))) | ((with_reducible show wpAny _ _ (exec (Stmt.Raise (some _) none _) _) _ _ _); (k_here; k_dflt (refine exec_raise2 (by rfl) ?_))) | ((with_reducible show wpAny _ _ (compareOp CmpOp.In (Value.int _ _) (Value.ref _)) _ _ _); (k_here; k_dflt (refine in_places (knd := PySem.intKind _ _) (by exact int_is _ _ _ _) (by k_asm) (by k_mem) (by assumption) (by assumption) (by assumption) ?_; k_whole))) | ((with_reducible show wpAny _ _ (compareOp CmpOp.In (Value.str _ _) (Value.ref _)) _ _ _); (k_here; k_dflt (refine in_places (knd := PySem.strKind _ _) (by exact strKind_is _ _ _ _) (by k_asm) (by k_mem) (by assumption) (by assumption) (by assumption) ?_; k_whole))) | ((with_reducible show wpAny _ _ (setItem (Value.ref _) (Value.int _ _) _) _ _ _); (k_here; k_dflt (refine set_led (knd := PySem.intKind _ _) (by exact int_is _ _ _ _) (by k_asm) (by k_asm) (by k_updF) (by assumption) ?_ (by (simp only [sizeLine_eq]; omega)); k_whole); intro _ _ _ _ _; (try k_sweep))) | ((with_reducible show wpAny _ _ (setItem (Value.ref _) (Value.str _ _) _) _ _ _); (k_here; k_dflt (refine set_led (knd := PySem.strKind _ _) (by exact strKind_is _ _ _ _) (by k_asm) (by k_asm) (by k_updF) (by assumption) ?_ (by (simp only [sizeLine_eq]; omega)); k_whole); intro _ _ _ _ _; (try k_sweep))) | (k_here; (with_reducible show wpAny _ _ (call (Value.ref 67) [Value.str _ _]) _ _ _); k_dflt (refine fault_spec X T (by exact pushX (by assumption) (by k_asm) rfl rfl) (by (simp only [depth_deeper]; omega)) (by assumption) (by assumption) ?_); intro _ _ _ _ _ _ _ _) | ((with_reducible show wpAny _ _ (formatField _ _) _ _ _); (k_here; k_dflt (refine PyProof.Rows.formatField_str ?_ (by (simp only [sizeLine_eq]; omega))); intro _ _)) | (k_here; (first | (with_reducible show wpAny _ _ (joinParts _ []) _ _ _) | (with_reducible show wpAny _ _ (joinParts _ (evalEach [] _)) _ _ _)); k_dflt (refine joinParts_nil ?_ (by (have h9 := lits; (simp only [Str.length_append, sizeLine_eq]); omega)))) | ((with_reducible show PySem.Str.length _ ≤ sizeLine ∧ _); refine ⟨by (have h9 := lits; (simp only [Str.length_append, sizeLine_eq]); omega), ?_⟩) | ((fail_if_success (with_reducible first | refine s_done ?_ | refine s_iter ?_ | refine s_tpost ?_ | refine s_while ?_ | refine s_call (by decide) ?_ | refine s_ifexp ?_ | refine s_cend ?_ | refine s_comp ?_ | refine s_srcT ?_ | refine s_src ?_)); (first | (k_unfold; (try dsimp only)) | (k_end; wrow_close) | walk1 | (dsimp only; walk1) | (leave1; walk_say "STEP leave1"; try dsimp only)))))
  any_goals (refine FaultV.mk _ _ _ rfl ((X'.keeps (Fr.keep (by k_asm))).keeps (by assumption)) (by assumption) ?_; refine leave1 B' rfl rfl (by k_asm) (allKept N kG' (by k_asm) (by k_asm)) nL (by assumption) (by assumption) (by assumption) (fun h9 R9 => ?_); refine exc ?_ _ _ _ R9)
  · exact .inl (by assumption)
  · exact .inr (.inl (by assumption))
  · exact .inr (.inr (by assumption))
  · dsimp only
    rename News _ _ _ _ => NN
    rename Fr _ _ _ _ => FF
    refine .mk (ret (by assumption) (by assumption) (by assumption) _ _ (keptOf kG' FF) ⟨⟨_, _, _, _, _, _, _, _⟩, fun p hp => (NN p hp).1, ⟨_, by assumption, hkn.stored (by assumption) (by simp [hl3]) _⟩, ⟨_, by assumption, hks.stored (by assumption) (by simp [hl3, hns]) _⟩, strsAre_push hlv _ _, intsAre_push hsv _ _, hfv, by simp [hns]⟩)
end add_specTC
theorem add_specT.all (prog : Program) (w : World) (base : Heap) (l : List Env) (dp : Nat) (un : Nat) (gd : Option (List Code)) (s : Shared) (p : Program) (loose : List Str) (mean : ExcName → Option Value) (mg : Str → Option Value) (mb : Str → Option Value) (a : KA) (d : KD) (names : List Str) (sws : List Int) (floors : List Int) (x : Str) (i : Int) (tx : Tok) (ti : Tok) (Q : Value → Shared → Prop) (E : Value → Shared → Prop) : add_specT prog w base l dp un gd s p loose mean mg mb a d names sws floors x i tx ti Q E :=
  @hkAll add_specTC.V add_specTC.ne (fun v => add_specT v.1 v.2.1 v.2.2.1 v.2.2.2.1 v.2.2.2.2.1 v.2.2.2.2.2.1 v.2.2.2.2.2.2.1 v.2.2.2.2.2.2.2.1 v.2.2.2.2.2.2.2.2.1 v.2.2.2.2.2.2.2.2.2.1 v.2.2.2.2.2.2.2.2.2.2.1 v.2.2.2.2.2.2.2.2.2.2.2.1 v.2.2.2.2.2.2.2.2.2.2.2.2.1 v.2.2.2.2.2.2.2.2.2.2.2.2.2.1 v.2.2.2.2.2.2.2.2.2.2.2.2.2.2.1 v.2.2.2.2.2.2.2.2.2.2.2.2.2.2.2.1 v.2.2.2.2.2.2.2.2.2.2.2.2.2.2.2.2.1 v.2.2.2.2.2.2.2.2.2.2.2.2.2.2.2.2.2.1 v.2.2.2.2.2.2.2.2.2.2.2.2.2.2.2.2.2.2.1 v.2.2.2.2.2.2.2.2.2.2.2.2.2.2.2.2.2.2.2.1 v.2.2.2.2.2.2.2.2.2.2.2.2.2.2.2.2.2.2.2.2.1 v.2.2.2.2.2.2.2.2.2.2.2.2.2.2.2.2.2.2.2.2.2.1 v.2.2.2.2.2.2.2.2.2.2.2.2.2.2.2.2.2.2.2.2.2.2.1 v.2.2.2.2.2.2.2.2.2.2.2.2.2.2.2.2.2.2.2.2.2.2.2) (by with_unfolding_all exact add_specTC.holds) (prog, w, base, l, dp, un, gd, s, p, loose, mean, mg, mb, a, d, names, sws, floors, x, i, tx, ti, Q, E)
theorem add_spec {prog : Program} {w : World} {base : Heap} {l : List Env} {dp un : Nat} {gd : Option (List Code)} {s : Shared} {p : Program} {loose : List Str} {mean : ExcName → Option Value} {mg mb : Str → Option Value}
    {a : KA} {d : KD} {names : List Str} {sws floors : List Int} {x : Str} {i : Int} {tx ti : Tok} {Q E : Value → Shared → Prop}
    (hprog : (prog.main.file : Str) = "/claim/cut.py") (hsup : (prog.main.scope.names.lookup ("super" : Str)).isSome = false)
    (X : (hd.heap_39 w.params).In base) (T : Top p loose mean mg mb base) (B : Below (mkA dp un gd l) base l s.heap)
    (hdp : dp ≤ 600) (O : a.Ord) (o : Off base l (kAdr a)) (K : KAt prog w a d names sws floors s.heap) (hlen : names.length ≤ 100) (hxl : x.length ≤ 1000)
    (ret : x ∉ names → i ∉ sws → -i ∉ sws → ∀ h' tk', Kept s.heap h' (kAdr a) → KAt prog w a d (names ++ [x]) (sws ++ [i]) floors h' → Q .none { s with heap := h', toks := tk' })
    (exc : (x ∈ names ∨ i ∈ sws ∨ -i ∈ sws) → ∀ h' e tk', RaisedX base l s.heap e h' → E (.ref e) { s with heap := h', toks := tk' }) :
    wpAny (model prog w) (mkA dp un gd l) (call (.ref 90) [.ref a.ik, .str x tx, .int i ti]) Q E s := by
  exact add_specT.all _ _ _ _ _ _ _ _ _ _ _ _ _ _ _ _ _ _ _ _ _ _ _ _ hprog hsup X T B hdp O o K hlen hxl ret exc
end
section
example : True := by w_top off; trivial
set_option maxHeartbeats 4000000 in
theorem push_spec {prog : Program} {w : World} {base : Heap} {l : List Env} {dp un : Nat} {gd : Option (List Code)} {s : Shared} {p : Program} {loose : List Str} {mean : ExcName → Option Value} {mg mb : Str → Option Value}
    {a : KA} {d : KD} {names : List Str} {sws floors : List Int} {Q E : Value → Shared → Prop}
    (X : (hd.heap_39 w.params).In base) (T : Top p loose mean mg mb base) (B : Below (mkA dp un gd l) base l s.heap)
    (hdp : dp ≤ 600) (O : a.Ord) (o : Off base l (kAdr a)) (K : KAt prog w a d names sws floors s.heap) (hlen : names.length ≤ 100) (hfl : floors.length ≤ 100)
    (ret : ∀ h' tk', Kept s.heap h' (kAdr a) → KAt prog w a d names sws (floors ++ [(names.length : Int)]) h' → Q .none { s with heap := h', toks := tk' }) :
    wpAny (model prog w) (mkA dp un gd l) (call (.ref 97) [.ref a.ik]) Q E s := by
  have hbase := kPairs O
  obtain ⟨o1, o2, o3, o4, o5, o6, n1, n2⟩ := O
  obtain ⟨k, hK, ⟨kn, hpn, hkn⟩, ⟨ks, hps, hks⟩, hlv, hsv, hfv, hns⟩ := K
  have N : Led base l s.heap (kLed a d k) := led_of o hK
  have hl3 : k.lv.size = names.length := by rw [← strsAre_length hlv]; simp
  have hl4 : k.fv.size = floors.length := by rw [← hfv.length]; simp
  refine wpAny_call ?_
  k_dflt (refine' enter (binds := [("self", .ref a.ik)]) ?k1 ?k2 ?k3 ?k4 ?k6 ?k7 ?k8 ?k9 ?kB ?_ ?c2 ?c3 ?c4 ?c5; ((case k1 => assumption); (case k2 => assumption); (case k3 => assumption); (case k4 => assumption); (case k6 => k_is); (case k7 => k_is); (case k8 => k_room); (case k9 => exact BindsTo.of_eq rfl); (case c5 => decide); (case kB => exact locs rfl); (case c2 => exact rfl); (case c3 => exact rfl); (case c4 => exact rfl)))
  intro g' L' h' F' N' B' X' T' kG' gS' l1 nL
  (try k_lt l1)
  (try dsimp only); (try k_fold)
  (repeat' (first | (first | ((with_reducible first | (rename Gets _ _ => gQ'; refine at_of gQ' ?_; clear gQ'; try (rename (_ → Shared → Prop) => qQ'; clear qQ')) | refine at_of (by assumption) ?_); (try dsimp only)) | (with_reducible (first | refine s_exec ?_ | refine s_comp ?_); (with_reducible ((fail_if_success (refine s_at ?_)); refine cutX ?_; intro _ _)))) | ((fail_if_success (with_reducible first | refine s_done ?_ | refine s_iter ?_ | refine s_tpost ?_ | refine s_while ?_ | refine s_call (by decide) ?_ | refine s_ifexp ?_ | refine s_cend ?_ | refine s_comp ?_ | refine s_srcT ?_ | refine s_src ?_)); (first | (k_unfold; (try dsimp only)) | (k_end; wrow_close) | walk1 | (dsimp only; walk1) | (leave1; walk_say "STEP leave1"; try dsimp only)))))
  try dsimp only
  rename News _ _ _ _ => NN
  rename Fr _ _ _ _ => FF
  exact .mk (ret _ _ (keptOf kG' FF) ⟨⟨k.lv, k.nl, k.sv, k.ns, k.fv.push (.int names.length _), k.nf + 1, k.opn, k.ops⟩, fun p hp => (NN p hp).1, ⟨_, hpn, hkn⟩, ⟨_, hps, hks⟩, hlv, hsv, intsAre_push hfv _ _, hns⟩)
end
section
example : True := by w_top off; trivial
local macro_rules | `(tactic| walk_at "x_pad0") => `(tactic| skip)
set_option maxHeartbeats 4000000 in
theorem refused_spec {prog : Program} {w : World} {base : Heap} {l : List Env} {dp un : Nat} {gd : Option (List Code)} {s : Shared} {p : Program} {loose : List Str} {mean : ExcName → Option Value} {mg mb : Str → Option Value}
    {fa : Addr} {fo : Obj} {news : List (Addr × Obj)} {PR : Heap → Prop} {PE : Prop} {Q E : Value → Shared → Prop}
    (X : (hd.heap_39 w.params).In base) (T : Top p loose mean mg mb base) (B : Below (mkA dp un gd l) base l s.heap)
    (hdp : dp ≤ 500) (hun : un ≤ 5000) (N : Led base l s.heap news) (hfo : s.heap.get? fa = some fo) (hfc : ∀ h, h.get? fa = some fo → FnAt fa h)
    (deed : ∀ (env : Env) (L' : Addr) (s' : Shared) (Q' E' : Value → Shared → Prop), Below (mkA (dp + 1) (un + 3) gd (env :: l)) base (env :: l) s'.heap → env.frame = some L' → (∀ b o, s.heap.get? b = some o → s'.heap.get? b = some o) → s.heap.get? L' = none →
      (∀ v h₂ tk₂, Kept s'.heap h₂ (news.map (·.1)) → PR h₂ → Q' v { s' with heap := h₂, toks := tk₂ }) → (PE → ∀ e h₂ tk₂, RaisedX base (env :: l) s'.heap e h₂ → E' (.ref e) { s' with heap := h₂, toks := tk₂ }) →
      wpAny (model prog w) (mkA (dp + 1) (un + 3) gd (env :: l)) (call (.ref fa) []) Q' E' s')
    (ret0 : ∀ h₂ tk₂, Kept s.heap h₂ (news.map (·.1)) → PR h₂ → Q (.bool false) { s with heap := h₂, toks := tk₂ })
    (ret1 : PE → ∀ h₂ tk₂, Flown l s.heap h₂ → Q (.bool true) { s with heap := h₂, toks := tk₂ }) :
    wpAny (model prog w) (mkA dp un gd l) (call (.ref 165) [.ref fa]) Q E s := by
  refine wpAny_call ?_
  k_dflt (refine' enter (news := news) (binds := [("deed", .ref fa)]) ?k1 ?k2 ?k3 ?k4 ?k6 ?k7 ?k8 ?k9 ?kB ?_ ?c2 ?c3 ?c4 ?c5; ((case k1 => assumption); (case k2 => assumption); (case k3 => assumption); (case k4 => assumption); (case k6 => k_is); (case k7 => k_is); (case k8 => k_room); (case k9 => exact BindsTo.of_eq rfl); (case c5 => decide); (case kB => exact locs rfl); (case c2 => exact rfl); (case c3 => exact rfl); (case c4 => exact rfl)))
  intro g' L' h' F' N' B' X' T' kG' gS' l1 nL
  (try dsimp only); (try k_fold)
  have hall := allKept N kG' F' N'
  (repeat' (first | (first | ((with_reducible first | (rename Gets _ _ => gQ'; refine at_of gQ' ?_; clear gQ'; try (rename (_ → Shared → Prop) => qQ'; clear qQ')) | refine at_of (by assumption) ?_); (try dsimp only)) | (with_reducible (first | refine s_exec ?_ | refine s_comp ?_); (with_reducible ((fail_if_success (refine s_at ?_)); refine cutX ?_; intro _ _)))) | ((fail_if_success (with_reducible first | refine s_done ?_ | refine s_iter ?_ | refine s_tpost ?_ | refine s_while ?_ | refine s_call (by decide) ?_ | refine s_ifexp ?_ | refine s_cend ?_ | refine s_comp ?_ | refine s_srcT ?_ | refine s_src ?_)); (first | (k_unfold; (try dsimp only)) | (k_end; wrow_close) | walk1 | (dsimp only; walk1) | (leave1; walk_say "STEP leave1"; try dsimp only)))))
  refine callWith_F0 (hfc _ (hall _ _ hfo)) ?_
  dsimp only [List.nil_append, List.cons_append]
  refine deed _ _ _ _ _ (pushX B' F' rfl rfl) rfl hall nL (fun v h₂ tk₂ kp pr => ?_) (fun pe e h₂ tk₂ R => ?_)
  · have F₂ := frKept F' kp (fun b hb => by obtain ⟨q, hq, rfl⟩ := List.mem_map.mp hb; exact ⟨(N' q hq).2.2, (N' q hq).2.1⟩)
    have k2 : Kept s.heap h₂ (news.map (·.1)) := fun b o e n => kp b o (hall b o e) n
    clear F'
    (repeat' (first | (first | ((with_reducible first | (rename Gets _ _ => gQ'; refine at_of gQ' ?_; clear gQ'; try (rename (_ → Shared → Prop) => qQ'; clear qQ')) | refine at_of (by assumption) ?_); (try dsimp only)) | (with_reducible (first | refine s_exec ?_ | refine s_comp ?_); (with_reducible ((fail_if_success (refine s_at ?_)); refine cutX ?_; intro _ _)))) | ((fail_if_success (with_reducible first | refine s_done ?_ | refine s_iter ?_ | refine s_tpost ?_ | refine s_while ?_ | refine s_call (by decide) ?_ | refine s_ifexp ?_ | refine s_cend ?_ | refine s_comp ?_ | refine s_srcT ?_ | refine s_src ?_)); (first | (k_unfold; (try dsimp only)) | (k_end; wrow_close) | walk1 | (dsimp only; walk1) | (leave1; walk_say "STEP leave1"; try dsimp only)))))
    try dsimp only
    exact .mk (ret0 _ _ k2 pr)
  · refine caughtX R F' B' X T (fun h₃ fl₃ => ?_) rfl rfl (by first | passes_own | skip)
    try dsimp only
    (repeat' (first | (first | ((with_reducible first | (rename Gets _ _ => gQ'; refine at_of gQ' ?_; clear gQ'; try (rename (_ → Shared → Prop) => qQ'; clear qQ')) | refine at_of (by assumption) ?_); (try dsimp only)) | (with_reducible (first | refine s_exec ?_ | refine s_comp ?_); (with_reducible ((fail_if_success (refine s_at ?_)); refine cutX ?_; intro _ _)))) | ((fail_if_success (with_reducible first | refine s_done ?_ | refine s_iter ?_ | refine s_tpost ?_ | refine s_while ?_ | refine s_call (by decide) ?_ | refine s_ifexp ?_ | refine s_cend ?_ | refine s_comp ?_ | refine s_srcT ?_ | refine s_src ?_)); (first | (k_unfold; (try dsimp only)) | (k_end; wrow_close) | walk1 | (dsimp only; walk1) | (leave1; walk_say "STEP leave1"; try dsimp only)))))
    try dsimp only
    refine .mk (ret1 pe _ _ ⟨fun b ob eb nm => fl₃.1 b ob (hall b ob eb) fun hm => ?_, (Heap.UpToSlots.of_keeps hall).trans fl₃.2⟩)
    rcases mem_frames rfl hm with z | z
    · rw [z, nL] at eb; cases eb
    · exact nm z
end
section
example : True := by w_top off; trivial
set_option maxHeartbeats 4000000 in
theorem literals_spec {prog : Program} {w : World} {base : Heap} {l : List Env} {dp un : Nat} {gd : Option (List Code)} {s : Shared} {p : Program} {loose : List Str} {mean : ExcName → Option Value} {mg mb : Str → Option Value}
    {a : KA} {d : KD} {names : List Str} {sws floors : List Int} {Q E : Value → Shared → Prop}
    (X : (hd.heap_39 w.params).In base) (T : Top p loose mean mg mb base) (B : Below (mkA dp un gd l) base l s.heap)
    (hdp : dp ≤ 600) (O : a.Ord) (o : Off base l (kAdr a)) (K : KAt prog w a d names sws floors s.heap) (hlen : names.length ≤ 100)
    (ret : ∀ h' tk' D ys n, (∀ b o, s.heap.get? b = some o → h'.get? b = some o) → s.heap.get? D = none → h'.get? D = some (listOf ys n) → IntsAre ys.toList sws → Q (.ref D) { s with heap := h', toks := tk' }) :
    wpAny (model prog w) (mkA dp un gd l) (call (.ref 118) [.ref a.ik]) Q E s := by
  obtain ⟨fb0, fb1, fb2, fb3, fb4, fb5, fb6, fb7, fb8, fb9, fb10, fb11, fb12, fb13, fb14, fb15, fb16, fb17, fb18, fb19, fb20⟩ := kPairsD O
  obtain ⟨o1, o2, o3, o4, o5, o6, n1, n2⟩ := O
  obtain ⟨k, hK, ⟨kn, hpn, hkn⟩, ⟨ks, hps, hks⟩, hlv, hsv, hfv, hns⟩ := K
  have N : Led base l s.heap (kLed a d k) := led_of o hK
  have hl4 : k.sv.size = sws.length := by rw [← hsv.length]; simp
  have hl5 : k.sv.size ≤ 100 := by first | (rw [hl4, ← hns]; exact hlen) | (rw [hl4, hns]; exact hlen) | omega
  refine wpAny_call ?_
  k_dflt (refine' enter (binds := [("self", .ref a.ik)]) ?k1 ?k2 ?k3 ?k4 ?k6 ?k7 ?k8 ?k9 ?kB ?_ ?c2 ?c3 ?c4 ?c5; ((case k1 => assumption); (case k2 => assumption); (case k3 => assumption); (case k4 => assumption); (case k6 => k_is); (case k7 => k_is); (case k8 => k_room); (case k9 => exact BindsTo.of_eq rfl); (case c5 => decide); (case kB => exact locs rfl); (case c2 => exact rfl); (case c3 => exact rfl); (case c4 => exact rfl)))
  intro g' L' h' F' N' B' X' T' kG' gS' l1 nL
  (try k_lt l1)
  (try dsimp only); (try k_fold)
  (repeat' (first | (first | ((with_reducible first | (rename Gets _ _ => gQ'; refine at_of gQ' ?_; clear gQ'; try (rename (_ → Shared → Prop) => qQ'; clear qQ')) | refine at_of (by assumption) ?_); (try dsimp only)) | (with_reducible (first | refine s_exec ?_ | refine s_comp ?_); (with_reducible ((fail_if_success (refine s_at ?_)); refine cutX ?_; intro _ _)))) | ((with_reducible show wpAny _ _ (exec (Stmt.For (Expr.Name _ _) (Expr.Name _ _) (_ :: _) [] _) _) _ _ _); (k_here; (rename Fr _ _ _ _ => lFzz); (with_unfolding_all refine For_invVF lFzz (by exact rfl) (by exact rfl) ?_; k_whole))) | ((with_reducible show wpAny _ _ (exec (Stmt.Raise (some _) none _) _) _ _ _); (k_here; k_dflt (refine exec_raise2 (by rfl) ?_))) | ((with_reducible show wpAny _ _ (compareOp CmpOp.NotIn (Value.int _ _) (Value.ref _)) _ _ _); (k_here; k_dflt (refine notin_places (knd := PySem.intKind _ _) (by exact int_is _ _ _ _) (by k_asm) (by k_mem) (by assumption) (by assumption) (by assumption) ?_; k_whole))) | ((with_reducible show wpAny _ _ (compareOp CmpOp.NotIn (Value.str _ _) (Value.ref _)) _ _ _); (k_here; k_dflt (refine notin_places (knd := PySem.strKind _ _) (by exact strKind_is _ _ _ _) (by k_asm) (by k_mem) (by assumption) (by assumption) (by assumption) ?_; k_whole))) | (k_here; (with_reducible show wpAny _ _ (call (Value.ref 67) [Value.str _ _]) _ _ _); k_dflt (refine fault_spec X T (by exact pushX (by assumption) (by k_asm) rfl rfl) (by (simp only [depth_deeper]; omega)) (by assumption) (by assumption) ?_); intro _ _ _ _ _ _ _ _) | ((with_reducible show wpAny _ _ (formatField _ _) _ _ _); (k_here; k_dflt (refine PyProof.Rows.formatField_str ?_ (by (simp only [sizeLine_eq]; omega))); intro _ _)) | (k_here; (with_reducible show wpAny _ _ (subscriptTail _ _ (Value.ref _) (Value.int (Nat.cast _) _)) _ _ _); k_dflt (refine item_ints (by k_asm) (by k_mem) (by assumption) (by exact swOf_at (by assumption) (by assumption)) (by omega) ?_; k_whole); intro _) | (k_here; (with_reducible show wpAny _ _ (subscriptTail _ _ (Value.ref _) (Value.int (Int.ofNat _) _)) _ _ _); k_dflt (refine item_ints (by k_asm) (by k_mem) (by assumption) (by exact swOf_at (by assumption) (by assumption)) (by omega) ?_; k_whole); intro _) | (k_here; (with_reducible show wpAny _ _ (subscriptTail _ _ (Value.ref _) (Value.str _ _)) _ _ _); k_dflt (refine item_places (knd := strKind _ _) (by exact strKind_is _ _ _ _) (by k_asm) (by k_mem) (by assumption) (by assumption) (by assumption) (by assumption) ?_; k_whole); intro _) | (k_here; (first | (with_reducible show wpAny _ _ (joinParts _ []) _ _ _) | (with_reducible show wpAny _ _ (joinParts _ (evalEach [] _)) _ _ _)); k_dflt (refine joinParts_nil ?_ (by (have h9 := lits; (simp only [Str.length_append, sizeLine_eq]); omega)))) | ((with_reducible show PySem.Str.length _ ≤ sizeLine ∧ _); refine ⟨by (have h9 := lits; (simp only [Str.length_append, sizeLine_eq]); omega), ?_⟩) | ((fail_if_success (with_reducible first | refine s_done ?_ | refine s_iter ?_ | refine s_tpost ?_ | refine s_while ?_ | refine s_call (by decide) ?_ | refine s_ifexp ?_ | refine s_cend ?_ | refine s_comp ?_ | refine s_srcT ?_ | refine s_src ?_)); (first | (k_unfold; (try dsimp only)) | (k_end; wrow_close) | walk1 | (dsimp only; walk1) | (leave1; walk_say "STEP leave1"; try dsimp only)))))
  rename News _ _ _ _ => NN
  rename Fr _ _ _ _ => FF
  exact .mk (ret _ _ _ _ _ (allKept N kG' FF (fun p hp => NN p (List.mem_cons_of_mem _ hp))) (new_of kG' (NN _ List.mem_cons_self).2.2 (kLt (by assumption))) (NN _ List.mem_cons_self).1 hsv)

noncomputable def literals_of_specT (prog : Program) (w : World) (base : Heap) (l : List Env) (dp : Nat) (un : Nat) (gd : Option (List Code)) (s : Shared) (p : Program) (loose : List Str) (mean : ExcName → Option Value) (mg : Str → Option Value) (mb : Str → Option Value) (a : KA) (d : KD) (names : List Str) (fl : List Str) (sws : List Int) (floors : List Int) (af : Addr) (vs : List Value) (Q : Value → Shared → Prop) (E : Value → Shared → Prop) : Prop :=
  ∀ (hprog : (prog.main.file : Str) = "/claim/cut.py"),
  ∀ (hsup : (prog.main.scope.names.lookup ("super" : Str)).isSome = false),
  ∀ (X : (hd.heap_39 w.params).In base),
  ∀ (T : Top p loose mean mg mb base),
  ∀ (B : Below (mkA dp un gd l) base l s.heap),
  ∀ (hdp : dp ≤ 600),
  ∀ (O : a.Ord),
  ∀ (o : Off base l (kAdr a)),
  ∀ (K : KAt prog w a d names sws floors s.heap),
  ∀ (hlen : names.length ≤ 100),
  ∀ (hnd : names.Nodup),
  ∀ (hfl : s.heap.IsList af vs.toArray),
  ∀ (hfi : StrsAre vs fl),
  ∀ (hfn : af ∉ kAdr a),
  ∀ (hfz : fl.length ≤ 100),
  ∀ (hfs : ∀ x ∈ fl, x.length ≤ 1000),
  ∀ (ret : (∀ x ∈ fl, x ∈ names) → ∀ h' tk' D ys n, (∀ b o, s.heap.get? b = some o → h'.get? b = some o) → s.heap.get? D = none → h'.get? D = some (listOf ys n) → IntsAre ys.toList (fl.map (swOf names sws)) → Q (.ref D) { s with heap := h', toks := tk' }),
  ∀ (exc : (∃ x ∈ fl, x ∉ names) → ∀ h' e tk', RaisedX base l s.heap e h' → E (.ref e) { s with heap := h', toks := tk' }),
  wpAny (model prog w) (mkA dp un gd l) (call (.ref 125) [.ref a.ik, .ref af]) Q E s
namespace literals_of_specTC
noncomputable abbrev V := Program × World × Heap × (List Env) × Nat × Nat × (Option (List Code)) × Shared × Program × (List Str) × (ExcName → Option Value) × (Str → Option Value) × (Str → Option Value) × KA × KD × (List Str) × (List Str) × (List Int) × (List Int) × Addr × (List Value) × (Value → Shared → Prop) × (Value → Shared → Prop)
theorem ne : Nonempty V := by
  have := neW
  have := neS
  have := neA
  have := neD
  have := neK
  have := neR
  repeat (refine @instNonemptyProd _ _ ?_ ?_; · first | assumption | infer_instance)
  first | assumption | infer_instance
noncomputable def v : V := @Classical.epsilon V ne fun v => ¬ literals_of_specT v.1 v.2.1 v.2.2.1 v.2.2.2.1 v.2.2.2.2.1 v.2.2.2.2.2.1 v.2.2.2.2.2.2.1 v.2.2.2.2.2.2.2.1 v.2.2.2.2.2.2.2.2.1 v.2.2.2.2.2.2.2.2.2.1 v.2.2.2.2.2.2.2.2.2.2.1 v.2.2.2.2.2.2.2.2.2.2.2.1 v.2.2.2.2.2.2.2.2.2.2.2.2.1 v.2.2.2.2.2.2.2.2.2.2.2.2.2.1 v.2.2.2.2.2.2.2.2.2.2.2.2.2.2.1 v.2.2.2.2.2.2.2.2.2.2.2.2.2.2.2.1 v.2.2.2.2.2.2.2.2.2.2.2.2.2.2.2.2.1 v.2.2.2.2.2.2.2.2.2.2.2.2.2.2.2.2.2.1 v.2.2.2.2.2.2.2.2.2.2.2.2.2.2.2.2.2.2.1 v.2.2.2.2.2.2.2.2.2.2.2.2.2.2.2.2.2.2.2.1 v.2.2.2.2.2.2.2.2.2.2.2.2.2.2.2.2.2.2.2.2.1 v.2.2.2.2.2.2.2.2.2.2.2.2.2.2.2.2.2.2.2.2.2.1 v.2.2.2.2.2.2.2.2.2.2.2.2.2.2.2.2.2.2.2.2.2.2
@[irreducible] noncomputable def prog : Program := v.1
@[irreducible] noncomputable def w : World := v.2.1
@[irreducible] noncomputable def base : Heap := v.2.2.1
@[irreducible] noncomputable def l : List Env := v.2.2.2.1
@[irreducible] noncomputable def dp : Nat := v.2.2.2.2.1
@[irreducible] noncomputable def un : Nat := v.2.2.2.2.2.1
@[irreducible] noncomputable def gd : Option (List Code) := v.2.2.2.2.2.2.1
@[irreducible] noncomputable def s : Shared := v.2.2.2.2.2.2.2.1
@[irreducible] noncomputable def p : Program := v.2.2.2.2.2.2.2.2.1
@[irreducible] noncomputable def loose : List Str := v.2.2.2.2.2.2.2.2.2.1
@[irreducible] noncomputable def mean : ExcName → Option Value := v.2.2.2.2.2.2.2.2.2.2.1
@[irreducible] noncomputable def mg : Str → Option Value := v.2.2.2.2.2.2.2.2.2.2.2.1
@[irreducible] noncomputable def mb : Str → Option Value := v.2.2.2.2.2.2.2.2.2.2.2.2.1
@[irreducible] noncomputable def a : KA := v.2.2.2.2.2.2.2.2.2.2.2.2.2.1
@[irreducible] noncomputable def d : KD := v.2.2.2.2.2.2.2.2.2.2.2.2.2.2.1
@[irreducible] noncomputable def names : List Str := v.2.2.2.2.2.2.2.2.2.2.2.2.2.2.2.1
@[irreducible] noncomputable def fl : List Str := v.2.2.2.2.2.2.2.2.2.2.2.2.2.2.2.2.1
@[irreducible] noncomputable def sws : List Int := v.2.2.2.2.2.2.2.2.2.2.2.2.2.2.2.2.2.1
@[irreducible] noncomputable def floors : List Int := v.2.2.2.2.2.2.2.2.2.2.2.2.2.2.2.2.2.2.1
@[irreducible] noncomputable def af : Addr := v.2.2.2.2.2.2.2.2.2.2.2.2.2.2.2.2.2.2.2.1
@[irreducible] noncomputable def vs : List Value := v.2.2.2.2.2.2.2.2.2.2.2.2.2.2.2.2.2.2.2.2.1
@[irreducible] noncomputable def Q : Value → Shared → Prop := v.2.2.2.2.2.2.2.2.2.2.2.2.2.2.2.2.2.2.2.2.2.1
@[irreducible] noncomputable def E : Value → Shared → Prop := v.2.2.2.2.2.2.2.2.2.2.2.2.2.2.2.2.2.2.2.2.2.2
set_option maxHeartbeats 4000000 in
theorem holds : literals_of_specT prog w base l dp un gd s p loose mean mg mb a d names fl sws floors af vs Q E := by
  intro hprog hsup X T B hdp O o K hlen hnd hfl hfi hfn hfz hfs ret exc
  obtain ⟨fb0, fb1, fb2, fb3, fb4, fb5, fb6, fb7, fb8, fb9, fb10, fb11, fb12, fb13, fb14, fb15, fb16, fb17, fb18, fb19, fb20⟩ := kPairsD O
  obtain ⟨o1, o2, o3, o4, o5, o6, n1, n2⟩ := O
  obtain ⟨k, hK, ⟨kn, hpn, hkn⟩, ⟨ks, hps, hks⟩, hlv, hsv, hfv, hns⟩ := K
  have N : Led base l s.heap (kLed a d k) := led_of o hK
  have hl1 := hkn.length
  have hl2 := hks.length
  have hl3 : k.lv.size = names.length := by rw [← strsAre_length hlv]; simp
  have hl4 : k.sv.size = sws.length := by rw [← hsv.length]; simp
  refine wpAny_call ?_
  k_dflt (refine' enter (binds := [("self", .ref a.ik), ("names", .ref af)]) ?k1 ?k2 ?k3 ?k4 ?k6 ?k7 ?k8 ?k9 ?kB ?_ ?c2 ?c3 ?c4 ?c5; ((case k1 => assumption); (case k2 => assumption); (case k3 => assumption); (case k4 => assumption); (case k6 => k_is); (case k7 => k_is); (case k8 => k_room); (case k9 => exact BindsTo.of_eq rfl); (case c5 => decide); (case kB => exact locs rfl); (case c2 => exact rfl); (case c3 => exact rfl); (case c4 => exact rfl)))
  intro g' L' h' F' N' B' X' T' kG' gS' l1 nL
  (try k_lt l1)
  (try dsimp only); (try k_fold)
  have hl : g'.IsList af vs.toArray := kG'.list hfl hfn
  (repeat' (first | (first | ((with_reducible first | (rename Gets _ _ => gQ'; refine at_of gQ' ?_; clear gQ'; try (rename (_ → Shared → Prop) => qQ'; clear qQ')) | refine at_of (by assumption) ?_); (try dsimp only)) | (with_reducible (first | refine s_exec ?_ | refine s_comp ?_); (with_reducible ((fail_if_success (refine s_at ?_)); refine cutX ?_; intro _ _)))) | ((with_reducible show wpAny _ _ (exec (Stmt.For (Expr.Name _ _) (Expr.Name _ _) (_ :: _) [] _) _) _ _ _); (k_here; (rename Fr _ _ _ _ => lFzz); (with_unfolding_all refine For_invVF lFzz (by exact rfl) (by exact rfl) ?_; k_whole))) | ((with_reducible show wpAny _ _ (exec (Stmt.Raise (some _) none _) _) _ _ _); (k_here; k_dflt (refine exec_raise2 (by rfl) ?_))) | ((with_reducible show wpAny _ _ (compareOp CmpOp.NotIn (Value.int _ _) (Value.ref _)) _ _ _); (k_here; k_dflt (refine notin_places (knd := PySem.intKind _ _) (by exact int_is _ _ _ _) (by k_asm) (by k_mem) (by assumption) (by assumption) (by assumption) ?_; k_whole))) | ((with_reducible show wpAny _ _ (compareOp CmpOp.NotIn (Value.str _ _) (Value.ref _)) _ _ _); (k_here; k_dflt (refine notin_places (knd := PySem.strKind _ _) (by exact strKind_is _ _ _ _) (by k_asm) (by k_mem) (by assumption) (by assumption) (by assumption) ?_; k_whole))) | (k_here; (with_reducible show wpAny _ _ (call (Value.ref 67) [Value.str _ _]) _ _ _); k_dflt (refine fault_spec X T (by exact pushX (by assumption) (by k_asm) rfl rfl) (by (simp only [depth_deeper]; omega)) (by assumption) (by assumption) ?_); intro _ _ _ _ _ _ _ _) | ((with_reducible show wpAny _ _ (formatField _ _) _ _ _); (k_here; k_dflt (refine PyProof.Rows.formatField_str ?_ (by (simp only [sizeLine_eq]; omega))); intro _ _)) | (k_here; (with_reducible show wpAny _ _ (subscriptTail _ _ (Value.ref _) (Value.int (Nat.cast _) _)) _ _ _); k_dflt (refine item_ints (by k_asm) (by k_mem) (by assumption) (by exact swOf_at (by assumption) (by assumption)) (by omega) ?_; k_whole); intro _) | (k_here; (with_reducible show wpAny _ _ (subscriptTail _ _ (Value.ref _) (Value.int (Int.ofNat _) _)) _ _ _); k_dflt (refine item_ints (by k_asm) (by k_mem) (by assumption) (by exact swOf_at (by assumption) (by assumption)) (by omega) ?_; k_whole); intro _) | (k_here; (with_reducible show wpAny _ _ (subscriptTail _ _ (Value.ref _) (Value.str _ _)) _ _ _); k_dflt (refine item_places (knd := strKind _ _) (by exact strKind_is _ _ _ _) (by k_asm) (by k_mem) (by assumption) (by assumption) (by assumption) (by assumption) ?_; k_whole); intro _) | (k_here; (first | (with_reducible show wpAny _ _ (joinParts _ []) _ _ _) | (with_reducible show wpAny _ _ (joinParts _ (evalEach [] _)) _ _ _)); k_dflt (refine joinParts_nil ?_ (by (have h9 := lits; (simp only [Str.length_append, sizeLine_eq]); omega)))) | ((with_reducible show PySem.Str.length _ ≤ sizeLine ∧ _); refine ⟨by (have h9 := lits; (simp only [Str.length_append, sizeLine_eq]); omega), ?_⟩) | ((fail_if_success (with_reducible first | refine s_done ?_ | refine s_iter ?_ | refine s_tpost ?_ | refine s_while ?_ | refine s_call (by decide) ?_ | refine s_ifexp ?_ | refine s_cend ?_ | refine s_comp ?_ | refine s_srcT ?_ | refine s_src ?_)); (first | (k_unfold; (try dsimp only)) | (k_end; wrow_close) | walk1 | (dsimp only; walk1) | (leave1; walk_say "STEP leave1"; try dsimp only)))))
  rename Fr _ _ _ _ => FF
  rename News _ _ _ _ => NN
  refine forList (c := 0) ((fun D i nx => ∃ ys n, nx = (D, listOf ys n) :: kLed a d k ∧ IntsAre ys.toList ((fl.take i).map (swOf names sws)) ∧ ∀ x ∈ fl.take i, x ∈ names) _) rfl (.inl hl) FF NN ⟨#[], 0, rfl, .nil, by simp⟩ ?_ ?_
  · rintro I i v _ h₂ tk₂ oI lI lL hv hi ⟨ys, n, rfl, hys, hall⟩ F₁ N₁
    clear FF NN
    obtain ⟨x, t, rfl, hx⟩ := strs_at hfi hv
    have hyl : ys.size ≤ 100 := (show ys.toList.length ≤ 100 by rw [hys.length, List.length_map, List.length_take]; refine Nat.le_trans (Nat.min_le_right _ _) ?_; first | assumption | omega)
    have hxl := hfs x (List.mem_of_getElem? hx)
    (try k_lt lI)
    (try dsimp only at F₁); (try k_fold)
    (repeat' (first | (first | ((with_reducible first | (rename Gets _ _ => gQ'; refine at_of gQ' ?_; clear gQ'; try (rename (_ → Shared → Prop) => qQ'; clear qQ')) | refine at_of (by assumption) ?_); (try dsimp only)) | (with_reducible (first | refine s_exec ?_ | refine s_comp ?_); (with_reducible ((fail_if_success (refine s_at ?_)); refine cutX ?_; intro _ _)))) | ((with_reducible show wpAny _ _ (exec (Stmt.For (Expr.Name _ _) (Expr.Name _ _) (_ :: _) [] _) _) _ _ _); (k_here; (rename Fr _ _ _ _ => lFzz); (with_unfolding_all refine For_invVF lFzz (by exact rfl) (by exact rfl) ?_; k_whole))) | ((with_reducible show wpAny _ _ (exec (Stmt.Raise (some _) none _) _) _ _ _); (k_here; k_dflt (refine exec_raise2 (by rfl) ?_))) | ((with_reducible show wpAny _ _ (compareOp CmpOp.NotIn (Value.int _ _) (Value.ref _)) _ _ _); (k_here; k_dflt (refine notin_places (knd := PySem.intKind _ _) (by exact int_is _ _ _ _) (by k_asm) (by k_mem) (by assumption) (by assumption) (by assumption) ?_; k_whole))) | ((with_reducible show wpAny _ _ (compareOp CmpOp.NotIn (Value.str _ _) (Value.ref _)) _ _ _); (k_here; k_dflt (refine notin_places (knd := PySem.strKind _ _) (by exact strKind_is _ _ _ _) (by k_asm) (by k_mem) (by assumption) (by assumption) (by assumption) ?_; k_whole))) | (k_here; (with_reducible show wpAny _ _ (call (Value.ref 67) [Value.str _ _]) _ _ _); k_dflt (refine fault_spec X T (by exact pushX (by assumption) (by k_asm) rfl rfl) (by (simp only [depth_deeper]; omega)) (by assumption) (by assumption) ?_); intro _ _ _ _ _ _ _ _) | ((with_reducible show wpAny _ _ (formatField _ _) _ _ _); (k_here; k_dflt (refine PyProof.Rows.formatField_str ?_ (by (simp only [sizeLine_eq]; omega))); intro _ _)) | (k_here; (with_reducible show wpAny _ _ (subscriptTail _ _ (Value.ref _) (Value.int (Nat.cast _) _)) _ _ _); k_dflt (refine item_ints (by k_asm) (by k_mem) (by assumption) (by exact swOf_at (by assumption) (by assumption)) (by omega) ?_; k_whole); intro _) | (k_here; (with_reducible show wpAny _ _ (subscriptTail _ _ (Value.ref _) (Value.int (Int.ofNat _) _)) _ _ _); k_dflt (refine item_ints (by k_asm) (by k_mem) (by assumption) (by exact swOf_at (by assumption) (by assumption)) (by omega) ?_; k_whole); intro _) | (k_here; (with_reducible show wpAny _ _ (subscriptTail _ _ (Value.ref _) (Value.str _ _)) _ _ _); k_dflt (refine item_places (knd := strKind _ _) (by exact strKind_is _ _ _ _) (by k_asm) (by k_mem) (by assumption) (by assumption) (by assumption) (by assumption) ?_; k_whole); intro _) | (k_here; (first | (with_reducible show wpAny _ _ (joinParts _ []) _ _ _) | (with_reducible show wpAny _ _ (joinParts _ (evalEach [] _)) _ _ _)); k_dflt (refine joinParts_nil ?_ (by (have h9 := lits; (simp only [Str.length_append, sizeLine_eq]); omega)))) | ((with_reducible show PySem.Str.length _ ≤ sizeLine ∧ _); refine ⟨by (have h9 := lits; (simp only [Str.length_append, sizeLine_eq]); omega), ?_⟩) | ((fail_if_success (with_reducible first | refine s_done ?_ | refine s_iter ?_ | refine s_tpost ?_ | refine s_while ?_ | refine s_call (by decide) ?_ | refine s_ifexp ?_ | refine s_cend ?_ | refine s_comp ?_ | refine s_srcT ?_ | refine s_src ?_)); (first | (k_unfold; (try dsimp only)) | (k_end; wrow_close) | walk1 | (dsimp only; walk1) | (leave1; walk_say "STEP leave1"; try dsimp only)))))
    · rename Fr _ _ _ _ => FF
      rename News _ _ _ _ => NN
      refine TEnd.tail FF NN rfl ⟨⟨_, _, rfl, ?_, ?_⟩, fun z hz => if_neg hz⟩
      · rw [take_snoc hx, List.map_append]; exact intsAre_push hys _ _
      · rw [take_snoc hx]; intro z hz
        rcases List.mem_append.mp hz with hz | hz
        · exact hall z hz
        · rw [List.mem_singleton.mp hz]; assumption
    · refine FaultV.mk _ _ _ rfl ((X'.keeps (Fr.keep (by k_asm))).keeps (by assumption)) (by assumption) ?_; refine leave1 B' rfl rfl (by k_asm) (allKept N kG' (by k_asm) (fun p hp => (by assumption : News g' L' h₂ _) p (List.mem_cons_of_mem _ (List.mem_cons_of_mem _ hp)))) nL (by assumption) (by assumption) (by assumption) (fun h9 R9 => ?_); refine exc ⟨x, List.mem_of_getElem? hx, by assumption⟩ _ _ _ R9
  · rintro u _ h₂ tk₂ ⟨ys, n, rfl, hys, hall⟩ F₁ N₁
    clear FF NN
    (try dsimp only at F₁); (try dsimp only)
    (repeat' (first | (first | ((with_reducible first | (rename Gets _ _ => gQ'; refine at_of gQ' ?_; clear gQ'; try (rename (_ → Shared → Prop) => qQ'; clear qQ')) | refine at_of (by assumption) ?_); (try dsimp only)) | (with_reducible (first | refine s_exec ?_ | refine s_comp ?_); (with_reducible ((fail_if_success (refine s_at ?_)); refine cutX ?_; intro _ _)))) | ((with_reducible show wpAny _ _ (exec (Stmt.For (Expr.Name _ _) (Expr.Name _ _) (_ :: _) [] _) _) _ _ _); (k_here; (rename Fr _ _ _ _ => lFzz); (with_unfolding_all refine For_invVF lFzz (by exact rfl) (by exact rfl) ?_; k_whole))) | ((with_reducible show wpAny _ _ (exec (Stmt.Raise (some _) none _) _) _ _ _); (k_here; k_dflt (refine exec_raise2 (by rfl) ?_))) | ((with_reducible show wpAny _ _ (compareOp CmpOp.NotIn (Value.int _ _) (Value.ref _)) _ _ _); (k_here; k_dflt (refine notin_places (knd := PySem.intKind _ _) (by exact int_is _ _ _ _) (by k_asm) (by k_mem) (by assumption) (by assumption) (by assumption) ?_; k_whole))) | ((with_reducible show wpAny _ _ (compareOp CmpOp.NotIn (Value.str _ _) (Value.ref _)) _ _ _); (k_here; k_dflt (refine notin_places (knd := PySem.strKind _ _) (by exact strKind_is _ _ _ _) (by k_asm) (by k_mem) (by assumption) (by assumption) (by assumption) ?_; k_whole))) | (k_here; (with_reducible show wpAny _ _ (call (Value.ref 67) [Value.str _ _]) _ _ _); k_dflt (refine fault_spec X T (by exact pushX (by assumption) (by k_asm) rfl rfl) (by (simp only [depth_deeper]; omega)) (by assumption) (by assumption) ?_); intro _ _ _ _ _ _ _ _) | ((with_reducible show wpAny _ _ (formatField _ _) _ _ _); (k_here; k_dflt (refine PyProof.Rows.formatField_str ?_ (by (simp only [sizeLine_eq]; omega))); intro _ _)) | (k_here; (with_reducible show wpAny _ _ (subscriptTail _ _ (Value.ref _) (Value.int (Nat.cast _) _)) _ _ _); k_dflt (refine item_ints (by k_asm) (by k_mem) (by assumption) (by exact swOf_at (by assumption) (by assumption)) (by omega) ?_; k_whole); intro _) | (k_here; (with_reducible show wpAny _ _ (subscriptTail _ _ (Value.ref _) (Value.int (Int.ofNat _) _)) _ _ _); k_dflt (refine item_ints (by k_asm) (by k_mem) (by assumption) (by exact swOf_at (by assumption) (by assumption)) (by omega) ?_; k_whole); intro _) | (k_here; (with_reducible show wpAny _ _ (subscriptTail _ _ (Value.ref _) (Value.str _ _)) _ _ _); k_dflt (refine item_places (knd := strKind _ _) (by exact strKind_is _ _ _ _) (by k_asm) (by k_mem) (by assumption) (by assumption) (by assumption) (by assumption) ?_; k_whole); intro _) | (k_here; (first | (with_reducible show wpAny _ _ (joinParts _ []) _ _ _) | (with_reducible show wpAny _ _ (joinParts _ (evalEach [] _)) _ _ _)); k_dflt (refine joinParts_nil ?_ (by (have h9 := lits; (simp only [Str.length_append, sizeLine_eq]); omega)))) | ((with_reducible show PySem.Str.length _ ≤ sizeLine ∧ _); refine ⟨by (have h9 := lits; (simp only [Str.length_append, sizeLine_eq]); omega), ?_⟩) | ((fail_if_success (with_reducible first | refine s_done ?_ | refine s_iter ?_ | refine s_tpost ?_ | refine s_while ?_ | refine s_call (by decide) ?_ | refine s_ifexp ?_ | refine s_cend ?_ | refine s_comp ?_ | refine s_srcT ?_ | refine s_src ?_)); (first | (k_unfold; (try dsimp only)) | (k_end; wrow_close) | walk1 | (dsimp only; walk1) | (leave1; walk_say "STEP leave1"; try dsimp only)))))
    try dsimp only
    rename News _ _ _ _ => NN
    rename Fr _ _ _ _ => FF
    have hft : fl.take vs.toArray.size = fl := List.take_of_length_le (by simp [strsAre_length hfi])
    rw [hft] at hys hall
    exact .mk (ret hall _ _ _ ys n (allKept N kG' FF (fun p hp => NN p (List.mem_cons_of_mem _ hp))) (new_of kG' (NN _ List.mem_cons_self).2.2 (kLt (by assumption))) (NN _ List.mem_cons_self).1 hys)
end literals_of_specTC
theorem literals_of_specT.all (prog : Program) (w : World) (base : Heap) (l : List Env) (dp : Nat) (un : Nat) (gd : Option (List Code)) (s : Shared) (p : Program) (loose : List Str) (mean : ExcName → Option Value) (mg : Str → Option Value) (mb : Str → Option Value) (a : KA) (d : KD) (names : List Str) (fl : List Str) (sws : List Int) (floors : List Int) (af : Addr) (vs : List Value) (Q : Value → Shared → Prop) (E : Value → Shared → Prop) : literals_of_specT prog w base l dp un gd s p loose mean mg mb a d names fl sws floors af vs Q E :=
  @hkAll literals_of_specTC.V literals_of_specTC.ne (fun v => literals_of_specT v.1 v.2.1 v.2.2.1 v.2.2.2.1 v.2.2.2.2.1 v.2.2.2.2.2.1 v.2.2.2.2.2.2.1 v.2.2.2.2.2.2.2.1 v.2.2.2.2.2.2.2.2.1 v.2.2.2.2.2.2.2.2.2.1 v.2.2.2.2.2.2.2.2.2.2.1 v.2.2.2.2.2.2.2.2.2.2.2.1 v.2.2.2.2.2.2.2.2.2.2.2.2.1 v.2.2.2.2.2.2.2.2.2.2.2.2.2.1 v.2.2.2.2.2.2.2.2.2.2.2.2.2.2.1 v.2.2.2.2.2.2.2.2.2.2.2.2.2.2.2.1 v.2.2.2.2.2.2.2.2.2.2.2.2.2.2.2.2.1 v.2.2.2.2.2.2.2.2.2.2.2.2.2.2.2.2.2.1 v.2.2.2.2.2.2.2.2.2.2.2.2.2.2.2.2.2.2.1 v.2.2.2.2.2.2.2.2.2.2.2.2.2.2.2.2.2.2.2.1 v.2.2.2.2.2.2.2.2.2.2.2.2.2.2.2.2.2.2.2.2.1 v.2.2.2.2.2.2.2.2.2.2.2.2.2.2.2.2.2.2.2.2.2.1 v.2.2.2.2.2.2.2.2.2.2.2.2.2.2.2.2.2.2.2.2.2.2) (by with_unfolding_all exact literals_of_specTC.holds) (prog, w, base, l, dp, un, gd, s, p, loose, mean, mg, mb, a, d, names, fl, sws, floors, af, vs, Q, E)
theorem literals_of_spec {prog : Program} {w : World} {base : Heap} {l : List Env} {dp un : Nat} {gd : Option (List Code)} {s : Shared} {p : Program} {loose : List Str} {mean : ExcName → Option Value} {mg mb : Str → Option Value}
    {a : KA} {d : KD} {names fl : List Str} {sws floors : List Int} {af : Addr} {vs : List Value} {Q E : Value → Shared → Prop}
    (hprog : (prog.main.file : Str) = "/claim/cut.py") (hsup : (prog.main.scope.names.lookup ("super" : Str)).isSome = false)
    (X : (hd.heap_39 w.params).In base) (T : Top p loose mean mg mb base) (B : Below (mkA dp un gd l) base l s.heap)
    (hdp : dp ≤ 600) (O : a.Ord) (o : Off base l (kAdr a)) (K : KAt prog w a d names sws floors s.heap) (hlen : names.length ≤ 100) (hnd : names.Nodup)
    (hfl : s.heap.IsList af vs.toArray) (hfi : StrsAre vs fl) (hfn : af ∉ kAdr a) (hfz : fl.length ≤ 100) (hfs : ∀ x ∈ fl, x.length ≤ 1000)
    (ret : (∀ x ∈ fl, x ∈ names) → ∀ h' tk' D ys n, (∀ b o, s.heap.get? b = some o → h'.get? b = some o) → s.heap.get? D = none → h'.get? D = some (listOf ys n) → IntsAre ys.toList (fl.map (swOf names sws)) → Q (.ref D) { s with heap := h', toks := tk' })
    (exc : (∃ x ∈ fl, x ∉ names) → ∀ h' e tk', RaisedX base l s.heap e h' → E (.ref e) { s with heap := h', toks := tk' }) :
    wpAny (model prog w) (mkA dp un gd l) (call (.ref 125) [.ref a.ik, .ref af]) Q E s := by
  exact literals_of_specT.all _ _ _ _ _ _ _ _ _ _ _ _ _ _ _ _ _ _ _ _ _ _ _ hprog hsup X T B hdp O o K hlen hnd hfl hfi hfn hfz hfs ret exc
end
section
example : True := by w_top off; trivial
local macro_rules | `(tactic| walk_at "x_pad0") => `(tactic| skip)
theorem TEnd.tail2 {h₀ : Heap} {L : Addr} {J : (Str → Option Value) → List (Addr × Obj) → Prop} {m' : Str → Option Value} {p q : Addr × Obj} {nx : List (Addr × Obj)} {adr : List Addr} {s₁ : Shared} {h' : Heap} {tk : Nat} (F : Fr h₀ L h' m') (N : News h₀ L h' (q :: p :: nx))
    (ha : nx.map (·.1) = adr) (hj : J m' nx) : TEnd h₀ L J [p] adr s₁ { s₁ with heap := h', toks := tk } :=
  .intro F N (fun _ hp => List.mem_cons_of_mem _ (List.mem_cons_of_mem _ hp)) (fun _ hq => List.mem_singleton.mp hq ▸ List.mem_cons_of_mem _ List.mem_cons_self) ha hj
theorem keep3 {l b : Addr} {o o₁ o₂ : Obj} {p₁ p₂ : Addr × Obj} {rest : List (Addr × Obj)} (hn : l ≠ b) (h : (l, o) ∈ p₁ :: p₂ :: (b, o₁) :: rest) : (l, o) ∈ p₁ :: p₂ :: (b, o₂) :: rest := by
  simp only [List.mem_cons] at h ⊢
  rcases h with h | h | h | h
  · exact .inl h
  · exact .inr (.inl h)
  · exact absurd (congrArg Prod.fst h) hn
  · exact .inr (.inr (.inr h))
noncomputable def names_of_specT (prog : Program) (w : World) (base : Heap) (l : List Env) (dp : Nat) (un : Nat) (gd : Option (List Code)) (s : Shared) (p : Program) (loose : List Str) (mean : ExcName → Option Value) (mg : Str → Option Value) (mb : Str → Option Value) (a : KA) (d : KD) (names : List Str) (sws : List Int) (floors : List Int) (fl : List Int) (af : Addr) (vs : List Value) (Q : Value → Shared → Prop) (E : Value → Shared → Prop) : Prop :=
  ∀ (X : (hd.heap_39 w.params).In base),
  ∀ (T : Top p loose mean mg mb base),
  ∀ (B : Below (mkA dp un gd l) base l s.heap),
  ∀ (hdp : dp ≤ 600),
  ∀ (hun : un ≤ 5000),
  ∀ (O : a.Ord),
  ∀ (o : Off base l (kAdr a)),
  ∀ (K : KAt prog w a d names sws floors s.heap),
  ∀ (hlen : names.length ≤ 100),
  ∀ (hnd : names.Nodup),
  ∀ (hsd : sws.Nodup),
  ∀ (hfl : s.heap.IsList af vs.toArray),
  ∀ (hfi : IntsAre vs fl),
  ∀ (hfn : af ∉ kAdr a),
  ∀ (hfz : fl.length ≤ 50),
  ∀ (ret : ∀ h' tk' D ys n, (∀ b o, s.heap.get? b = some o → h'.get? b = some o) → s.heap.get? D = none → h'.get? D = some (listOf ys n) → StrsAre ys.toList (((names.zip sws).filter fun p => decide (p.2 ∈ fl)).map (·.1)) → Q (.ref D) { s with heap := h', toks := tk' }),
  wpAny (model prog w) (mkA dp un gd l) (call (.ref 130) [.ref a.ik, .ref af]) Q E s
namespace names_of_specTC
noncomputable abbrev V := Program × World × Heap × (List Env) × Nat × Nat × (Option (List Code)) × Shared × Program × (List Str) × (ExcName → Option Value) × (Str → Option Value) × (Str → Option Value) × KA × KD × (List Str) × (List Int) × (List Int) × (List Int) × Addr × (List Value) × (Value → Shared → Prop) × (Value → Shared → Prop)
theorem ne : Nonempty V := by
  have := neW
  have := neS
  have := neA
  have := neD
  have := neK
  have := neR
  repeat (refine @instNonemptyProd _ _ ?_ ?_; · first | assumption | infer_instance)
  first | assumption | infer_instance
noncomputable def v : V := @Classical.epsilon V ne fun v => ¬ names_of_specT v.1 v.2.1 v.2.2.1 v.2.2.2.1 v.2.2.2.2.1 v.2.2.2.2.2.1 v.2.2.2.2.2.2.1 v.2.2.2.2.2.2.2.1 v.2.2.2.2.2.2.2.2.1 v.2.2.2.2.2.2.2.2.2.1 v.2.2.2.2.2.2.2.2.2.2.1 v.2.2.2.2.2.2.2.2.2.2.2.1 v.2.2.2.2.2.2.2.2.2.2.2.2.1 v.2.2.2.2.2.2.2.2.2.2.2.2.2.1 v.2.2.2.2.2.2.2.2.2.2.2.2.2.2.1 v.2.2.2.2.2.2.2.2.2.2.2.2.2.2.2.1 v.2.2.2.2.2.2.2.2.2.2.2.2.2.2.2.2.1 v.2.2.2.2.2.2.2.2.2.2.2.2.2.2.2.2.2.1 v.2.2.2.2.2.2.2.2.2.2.2.2.2.2.2.2.2.2.1 v.2.2.2.2.2.2.2.2.2.2.2.2.2.2.2.2.2.2.2.1 v.2.2.2.2.2.2.2.2.2.2.2.2.2.2.2.2.2.2.2.2.1 v.2.2.2.2.2.2.2.2.2.2.2.2.2.2.2.2.2.2.2.2.2.1 v.2.2.2.2.2.2.2.2.2.2.2.2.2.2.2.2.2.2.2.2.2.2
@[irreducible] noncomputable def prog : Program := v.1
@[irreducible] noncomputable def w : World := v.2.1
@[irreducible] noncomputable def base : Heap := v.2.2.1
@[irreducible] noncomputable def l : List Env := v.2.2.2.1
@[irreducible] noncomputable def dp : Nat := v.2.2.2.2.1
@[irreducible] noncomputable def un : Nat := v.2.2.2.2.2.1
@[irreducible] noncomputable def gd : Option (List Code) := v.2.2.2.2.2.2.1
@[irreducible] noncomputable def s : Shared := v.2.2.2.2.2.2.2.1
@[irreducible] noncomputable def p : Program := v.2.2.2.2.2.2.2.2.1
@[irreducible] noncomputable def loose : List Str := v.2.2.2.2.2.2.2.2.2.1
@[irreducible] noncomputable def mean : ExcName → Option Value := v.2.2.2.2.2.2.2.2.2.2.1
@[irreducible] noncomputable def mg : Str → Option Value := v.2.2.2.2.2.2.2.2.2.2.2.1
@[irreducible] noncomputable def mb : Str → Option Value := v.2.2.2.2.2.2.2.2.2.2.2.2.1
@[irreducible] noncomputable def a : KA := v.2.2.2.2.2.2.2.2.2.2.2.2.2.1
@[irreducible] noncomputable def d : KD := v.2.2.2.2.2.2.2.2.2.2.2.2.2.2.1
@[irreducible] noncomputable def names : List Str := v.2.2.2.2.2.2.2.2.2.2.2.2.2.2.2.1
@[irreducible] noncomputable def sws : List Int := v.2.2.2.2.2.2.2.2.2.2.2.2.2.2.2.2.1
@[irreducible] noncomputable def floors : List Int := v.2.2.2.2.2.2.2.2.2.2.2.2.2.2.2.2.2.1
@[irreducible] noncomputable def fl : List Int := v.2.2.2.2.2.2.2.2.2.2.2.2.2.2.2.2.2.2.1
@[irreducible] noncomputable def af : Addr := v.2.2.2.2.2.2.2.2.2.2.2.2.2.2.2.2.2.2.2.1
@[irreducible] noncomputable def vs : List Value := v.2.2.2.2.2.2.2.2.2.2.2.2.2.2.2.2.2.2.2.2.1
@[irreducible] noncomputable def Q : Value → Shared → Prop := v.2.2.2.2.2.2.2.2.2.2.2.2.2.2.2.2.2.2.2.2.2.1
@[irreducible] noncomputable def E : Value → Shared → Prop := v.2.2.2.2.2.2.2.2.2.2.2.2.2.2.2.2.2.2.2.2.2.2
set_option maxHeartbeats 4000000 in
theorem holds : names_of_specT prog w base l dp un gd s p loose mean mg mb a d names sws floors fl af vs Q E := by
  intro X T B hdp hun O o K hlen hnd hsd hfl hfi hfn hfz ret
  obtain ⟨fb0, fb1, fb2, fb3, fb4, fb5, fb6, fb7, fb8, fb9, fb10, fb11, fb12, fb13, fb14, fb15, fb16, fb17, fb18, fb19, fb20⟩ := kPairsD O
  obtain ⟨o1, o2, o3, o4, o5, o6, n1, n2⟩ := O
  obtain ⟨k, hK, ⟨kn, hpn, hkn⟩, ⟨ks, hps, hks⟩, hlv, hsv, hfv, hns⟩ := K
  have N : Led base l s.heap (kLed a d k) := led_of o hK
  have hl1 := hkn.length
  have hl2 := hks.length
  have hl3 : k.lv.size = names.length := by rw [← strsAre_length hlv]; simp
  have hl4 : k.sv.size = sws.length := by rw [← hsv.length]; simp
  refine wpAny_call ?_
  k_dflt (refine' enterC (binds := [("self", .ref a.ik), ("failed", .ref af)]) ?k1 ?k2 ?k3 ?k4 ?k6 ?k7 ?k8 ?k9 ?kB ?kD ?_ ?c2 ?c3 ?c4; ((case k1 => assumption); (case k2 => assumption); (case k3 => assumption); (case k4 => assumption); (case k6 => k_is); (case k7 => k_is); (case k8 => k_room); (case k9 => exact BindsTo.of_eq rfl); (case kB => exact rfl); (case kD => decide +kernel); (case c2 => exact rfl); (case c3 => exact rfl); (case c4 => exact rfl)))
  intro g' L' h' tk' cells' F' N' Y' B' X' T' kG' gS' l1 nL
  (try k_lt l1); k_cells Y'; (try simp only [List.cons_append, List.nil_append] at N')
  (try dsimp only); (try k_fold)
  have hl : g'.IsList af vs.toArray := kG'.list hfl hfn
  (repeat' (first | (first | ((with_reducible first | (rename Gets _ _ => gQ'; refine at_of gQ' ?_; clear gQ'; try (rename (_ → Shared → Prop) => qQ'; clear qQ')) | refine at_of (by assumption) ?_); (try dsimp only)) | (with_reducible (first | refine s_exec ?_ | refine s_comp ?_); (with_reducible ((fail_if_success (refine s_at ?_)); refine cutX ?_; intro _ _)))) | (k_here; (with_reducible show wpAny _ _ (subscriptTail (Expr.Name _ _) (Expr.UnaryOp _ _ _) (Value.ref _) (Value.int _ _)) _ _ _); k_dflt (refine item_last (by k_asm) (by k_mem) (by assumption) (by assumption) ?_; k_whole); intro _) | (k_here; (with_reducible show wpAny _ _ (compareOp CmpOp.Eq (Value.ref _) (Value.ref _)) _ _ _); k_dflt (refine eq_nil (isL (by k_asm) (by k_mem)) (isL (by k_asm) (by k_mem)) (by (simp only [Around.deeper_units, mkA, cLine]; omega)) ?_)) | ((with_reducible show wpAny _ _ (compareOp CmpOp.In (Value.int _ _) (Value.ref _)) _ _ _); (k_here; k_dflt (refine in_places (knd := PySem.intKind _ _) (by exact int_is _ _ _ _) (by k_asm) (by k_mem) (by assumption) (by assumption) (by assumption) ?_; k_whole))) | ((with_reducible show wpAny _ _ (compareOp CmpOp.In (Value.str _ _) (Value.ref _)) _ _ _); (k_here; k_dflt (refine in_places (knd := PySem.strKind _ _) (by exact strKind_is _ _ _ _) (by k_asm) (by k_mem) (by assumption) (by assumption) (by assumption) ?_; k_whole))) | (k_here; (with_reducible show wpAny _ _ (call (Value.builtin "sorted") [Value.ref _]) _ _ _); k_dflt (refine kso_sorted (by k_asm) (by k_asm) (kso_isList (by k_asm) (by k_mem) (by rfl)) (by assumption) (by have h9 := IntsAre.length (by assumption); omega) ?_); intro _ _ _ _ _ _ _ l1zz _ _ _ _ _; (try k_lt l1zz)) | (k_here; (with_reducible show wpAny _ _ (subscriptTail _ _ (Value.ref _) (Value.int (Nat.cast _) _)) _ _ _); k_dflt (refine item_strs (by k_asm) (by k_mem) (by assumption) (by assumption) (by omega) ?_; k_whole); intro _) | (k_here; (with_reducible show wpAny _ _ (subscriptTail _ _ (Value.ref _) (Value.int _ _)) _ _ _); k_dflt (refine item_places (knd := intKind _ _) (by exact int_is _ _ _ _) (by k_asm) (by k_mem) (by assumption) (by assumption) (by assumption) (by assumption) ?_; k_whole); intro _) | ((fail_if_success (with_reducible first | refine s_done ?_ | refine s_iter ?_ | refine s_tpost ?_ | refine s_while ?_ | refine s_call (by decide) ?_ | refine s_ifexp ?_ | refine s_cend ?_ | refine s_comp ?_ | refine s_srcT ?_ | refine s_src ?_)); (first | (k_unfold; (try dsimp only)) | (k_end; wrow_close) | walk1 | (dsimp only; walk1) | (leave1; walk_say "STEP leave1"; try dsimp only)))))
  refine PyProof.Rows.LCt.ListComp_T (F₀ := by k_asm) (by with_unfolding_all rfl) (by decide) (by rfl) (by decide) (by rfl) ?_
  (repeat' (first | (first | ((with_reducible first | (rename Gets _ _ => gQ'; refine at_of gQ' ?_; clear gQ'; try (rename (_ → Shared → Prop) => qQ'; clear qQ')) | refine at_of (by assumption) ?_); (try dsimp only)) | (with_reducible (first | refine s_exec ?_ | refine s_comp ?_); (with_reducible ((fail_if_success (refine s_at ?_)); refine cutX ?_; intro _ _)))) | (k_here; (with_reducible show wpAny _ _ (subscriptTail (Expr.Name _ _) (Expr.UnaryOp _ _ _) (Value.ref _) (Value.int _ _)) _ _ _); k_dflt (refine item_last (by k_asm) (by k_mem) (by assumption) (by assumption) ?_; k_whole); intro _) | (k_here; (with_reducible show wpAny _ _ (compareOp CmpOp.Eq (Value.ref _) (Value.ref _)) _ _ _); k_dflt (refine eq_nil (isL (by k_asm) (by k_mem)) (isL (by k_asm) (by k_mem)) (by (simp only [Around.deeper_units, mkA, cLine]; omega)) ?_)) | ((with_reducible show wpAny _ _ (compareOp CmpOp.In (Value.int _ _) (Value.ref _)) _ _ _); (k_here; k_dflt (refine in_places (knd := PySem.intKind _ _) (by exact int_is _ _ _ _) (by k_asm) (by k_mem) (by assumption) (by assumption) (by assumption) ?_; k_whole))) | ((with_reducible show wpAny _ _ (compareOp CmpOp.In (Value.str _ _) (Value.ref _)) _ _ _); (k_here; k_dflt (refine in_places (knd := PySem.strKind _ _) (by exact strKind_is _ _ _ _) (by k_asm) (by k_mem) (by assumption) (by assumption) (by assumption) ?_; k_whole))) | (k_here; (with_reducible show wpAny _ _ (call (Value.builtin "sorted") [Value.ref _]) _ _ _); k_dflt (refine kso_sorted (by k_asm) (by k_asm) (kso_isList (by k_asm) (by k_mem) (by rfl)) (by assumption) (by have h9 := IntsAre.length (by assumption); omega) ?_); intro _ _ _ _ _ _ _ l1zz _ _ _ _ _; (try k_lt l1zz)) | (k_here; (with_reducible show wpAny _ _ (subscriptTail _ _ (Value.ref _) (Value.int (Nat.cast _) _)) _ _ _); k_dflt (refine item_strs (by k_asm) (by k_mem) (by assumption) (by assumption) (by omega) ?_; k_whole); intro _) | (k_here; (with_reducible show wpAny _ _ (subscriptTail _ _ (Value.ref _) (Value.int _ _)) _ _ _); k_dflt (refine item_places (knd := intKind _ _) (by exact int_is _ _ _ _) (by k_asm) (by k_mem) (by assumption) (by assumption) (by assumption) (by assumption) ?_; k_whole); intro _) | ((fail_if_success (with_reducible first | refine s_done ?_ | refine s_iter ?_ | refine s_tpost ?_ | refine s_while ?_ | refine s_call (by decide) ?_ | refine s_ifexp ?_ | refine s_cend ?_ | refine s_comp ?_ | refine s_srcT ?_ | refine s_src ?_)); (first | (k_unfold; (try dsimp only)) | (k_end; wrow_close) | walk1 | (dsimp only; walk1) | (leave1; walk_say "STEP leave1"; try dsimp only)))))
  refine PyProof.Rows.LCt.CompSrcT.base (by rfl) (by k_asm) (by k_asm) hl (by simp only [List.size_toArray, hfi.length, sizeLine_eq]; omega) ?_
  intro g9
  refine restT ((fun N₀ i ys nw => nw = N₀ ∧ IntsAre ys (plc sws (fl.take i))) _) ?_ ?_ _ _ _ _ (Nat.zero_add _) ⟨rfl, .nil⟩
  · rintro i ys _ v I oI C oC D m₂ h₉ tk₉ E' hi ⟨rfl, hys⟩ hP hC hx F₉ N₉ off9 ne9
    obtain ⟨x, t, rfl, hxi⟩ := ints_at hfi hP
    have off0 := off9
    (try simp only [PyProof.Rows.LCg.Off3, and_true] at off9)
    have hyl : ys.length ≤ 100 := by
     rw [hys.length]
     exact Nat.le_trans (plc_len sws (fl.take i)) (Nat.le_trans (by rw [List.length_take]; exact Nat.min_le_right _ _) (Nat.le_trans hfz (by decide)))
    (repeat' (first | (first | ((with_reducible first | (rename Gets _ _ => gQ'; refine at_of gQ' ?_; clear gQ'; try (rename (_ → Shared → Prop) => qQ'; clear qQ')) | refine at_of (by assumption) ?_); (try dsimp only)) | (with_reducible (first | refine s_exec ?_ | refine s_comp ?_); (with_reducible ((fail_if_success (refine s_at ?_)); refine cutX ?_; intro _ _)))) | (k_here; (with_reducible show wpAny _ _ (subscriptTail (Expr.Name _ _) (Expr.UnaryOp _ _ _) (Value.ref _) (Value.int _ _)) _ _ _); k_dflt (refine item_last (by k_asm) (by k_mem) (by assumption) (by assumption) ?_; k_whole); intro _) | (k_here; (with_reducible show wpAny _ _ (compareOp CmpOp.Eq (Value.ref _) (Value.ref _)) _ _ _); k_dflt (refine eq_nil (isL (by k_asm) (by k_mem)) (isL (by k_asm) (by k_mem)) (by (simp only [Around.deeper_units, mkA, cLine]; omega)) ?_)) | ((with_reducible show wpAny _ _ (compareOp CmpOp.In (Value.int _ _) (Value.ref _)) _ _ _); (k_here; k_dflt (refine in_places (knd := PySem.intKind _ _) (by exact int_is _ _ _ _) (by k_asm) (by k_mem) (by assumption) (by assumption) (by assumption) ?_; k_whole))) | ((with_reducible show wpAny _ _ (compareOp CmpOp.In (Value.str _ _) (Value.ref _)) _ _ _); (k_here; k_dflt (refine in_places (knd := PySem.strKind _ _) (by exact strKind_is _ _ _ _) (by k_asm) (by k_mem) (by assumption) (by assumption) (by assumption) ?_; k_whole))) | (k_here; (with_reducible show wpAny _ _ (call (Value.builtin "sorted") [Value.ref _]) _ _ _); k_dflt (refine kso_sorted (by k_asm) (by k_asm) (kso_isList (by k_asm) (by k_mem) (by rfl)) (by assumption) (by have h9 := IntsAre.length (by assumption); omega) ?_); intro _ _ _ _ _ _ _ l1zz _ _ _ _ _; (try k_lt l1zz)) | (k_here; (with_reducible show wpAny _ _ (subscriptTail _ _ (Value.ref _) (Value.int (Nat.cast _) _)) _ _ _); k_dflt (refine item_strs (by k_asm) (by k_mem) (by assumption) (by assumption) (by omega) ?_; k_whole); intro _) | (k_here; (with_reducible show wpAny _ _ (subscriptTail _ _ (Value.ref _) (Value.int _ _)) _ _ _); k_dflt (refine item_places (knd := intKind _ _) (by exact int_is _ _ _ _) (by k_asm) (by k_mem) (by assumption) (by assumption) (by assumption) (by assumption) ?_; k_whole); intro _) | ((fail_if_success (with_reducible first | refine s_done ?_ | refine s_iter ?_ | refine s_tpost ?_ | refine s_while ?_ | refine s_call (by decide) ?_ | refine s_ifexp ?_ | refine s_cend ?_ | refine s_comp ?_ | refine s_srcT ?_ | refine s_src ?_)); (first | (k_unfold; (try dsimp only)) | (k_end; wrow_close) | walk1 | (dsimp only; walk1) | (leave1; walk_say "STEP leave1"; try dsimp only)))))
    all_goals (rename Fr _ _ _ _ => FF; rename News _ _ _ _ => NN; refine cEnd FF NN off0 rfl (.inl hl) ⟨rfl, ?_⟩)
    · rw [take_snoc hxi, plc_in (by assumption)]; exact intsAre_append hys (.cons _ _ .nil)
    · rw [take_snoc hxi, plc_out (by assumption)]; exact hys
  · rintro ys _ ⟨rfl, hys⟩
    rw [List.take_of_length_le (by simp [hfi.length])] at hys
    have hyl : ys.length < 64 := by rw [hys.length]; exact Nat.lt_of_le_of_lt (Nat.le_trans (plc_len sws fl) hfz) (by decide)
    (repeat' (first | (first | ((with_reducible first | (rename Gets _ _ => gQ'; refine at_of gQ' ?_; clear gQ'; try (rename (_ → Shared → Prop) => qQ'; clear qQ')) | refine at_of (by assumption) ?_); (try dsimp only)) | (with_reducible (first | refine s_exec ?_ | refine s_comp ?_); (with_reducible ((fail_if_success (refine s_at ?_)); refine cutX ?_; intro _ _)))) | (k_here; (with_reducible show wpAny _ _ (subscriptTail (Expr.Name _ _) (Expr.UnaryOp _ _ _) (Value.ref _) (Value.int _ _)) _ _ _); k_dflt (refine item_last (by k_asm) (by k_mem) (by assumption) (by assumption) ?_; k_whole); intro _) | (k_here; (with_reducible show wpAny _ _ (compareOp CmpOp.Eq (Value.ref _) (Value.ref _)) _ _ _); k_dflt (refine eq_nil (isL (by k_asm) (by k_mem)) (isL (by k_asm) (by k_mem)) (by (simp only [Around.deeper_units, mkA, cLine]; omega)) ?_)) | ((with_reducible show wpAny _ _ (compareOp CmpOp.In (Value.int _ _) (Value.ref _)) _ _ _); (k_here; k_dflt (refine in_places (knd := PySem.intKind _ _) (by exact int_is _ _ _ _) (by k_asm) (by k_mem) (by assumption) (by assumption) (by assumption) ?_; k_whole))) | ((with_reducible show wpAny _ _ (compareOp CmpOp.In (Value.str _ _) (Value.ref _)) _ _ _); (k_here; k_dflt (refine in_places (knd := PySem.strKind _ _) (by exact strKind_is _ _ _ _) (by k_asm) (by k_mem) (by assumption) (by assumption) (by assumption) ?_; k_whole))) | (k_here; (with_reducible show wpAny _ _ (call (Value.builtin "sorted") [Value.ref _]) _ _ _); k_dflt (refine kso_sorted (by k_asm) (by k_asm) (kso_isList (by k_asm) (by k_mem) (by rfl)) (by assumption) (by have h9 := IntsAre.length (by assumption); omega) ?_); intro _ _ _ _ _ _ _ l1zz _ _ _ _ _; (try k_lt l1zz)) | (k_here; (with_reducible show wpAny _ _ (subscriptTail _ _ (Value.ref _) (Value.int (Nat.cast _) _)) _ _ _); k_dflt (refine item_strs (by k_asm) (by k_mem) (by assumption) (by assumption) (by omega) ?_; k_whole); intro _) | (k_here; (with_reducible show wpAny _ _ (subscriptTail _ _ (Value.ref _) (Value.int _ _)) _ _ _); k_dflt (refine item_places (knd := intKind _ _) (by exact int_is _ _ _ _) (by k_asm) (by k_mem) (by assumption) (by assumption) (by assumption) (by assumption) ?_; k_whole); intro _) | ((fail_if_success (with_reducible first | refine s_done ?_ | refine s_iter ?_ | refine s_tpost ?_ | refine s_while ?_ | refine s_call (by decide) ?_ | refine s_ifexp ?_ | refine s_cend ?_ | refine s_comp ?_ | refine s_srcT ?_ | refine s_src ?_)); (first | (k_unfold; (try dsimp only)) | (k_end; wrow_close) | walk1 | (dsimp only; walk1) | (leave1; walk_say "STEP leave1"; try dsimp only)))))
    rename Fr _ _ _ _ => FF
    rename News _ _ _ _ => NN
    rename List.Perm _ _ => hperm
    rename List.Pairwise _ _ => hpair
    rename IntsAre _ _ => hsi
    rename List Int => ns'
    refine forList ((fun p₁ p₂ D p₃ i nx => ∃ zs n, nx = p₁ :: p₂ :: (D, listOf zs n) :: p₃ :: kLed a d k ∧ StrsAre zs.toList (nmsAt names (posOf names.length (List.take i ns')))) _ _ _ _) rfl (.inr ⟨by k_mem, ?_⟩) FF NN ⟨#[], 0, rfl, by rw [show nmsAt names (posOf names.length (List.take 0 ns')) = [] by simp [posOf, nmsAt]]; exact .nil⟩ ?_ ?_
    · rintro i _ ⟨zs, n, rfl, _⟩ o9 hm9
      exact keep3 (by k_ne) hm9
    · rintro I i v _ h₂ tk₂ oI lI lL hv hi ⟨zs, n, rfl, hzs⟩ F₁ N₁
      clear FF NN
      obtain ⟨x, t, rfl, hx⟩ := ints_at hsi hv
      obtain ⟨j, rfl, hj⟩ := plc_bound (hperm.mem_iff.mp (List.mem_of_getElem? hx))
      have hj' : j < names.length := by first | (rw [hns]; exact hj) | (rw [← hns]; exact hj)
      have hnj : names[j]? = some (names.getD j Str.empty) := by simp [hj']
      have hzl : zs.size ≤ 100 := by
        have h1 := strsAre_length hzs
        have h2 : (posOf names.length (List.take i ns')).length ≤ names.length := by unfold posOf; have := List.length_filter_le (fun (j : Nat) => decide ((j : Int) ∈ List.take i ns')) (List.range names.length); simpa using this
        show zs.toList.length ≤ 100
        rw [h1]
        unfold nmsAt
        rw [List.length_map]
        exact Nat.le_trans h2 hlen
      (try k_lt lI)
      (try dsimp only at F₁); (try k_fold)
      have hle9 := le_of_sorted hpair hx
      have hsz9 : zs.size = (nmsAt names (posOf names.length (List.take i ns'))).length := by rw [← strsAre_length hzs]; simp
      (repeat' (first | (first | ((with_reducible first | (rename Gets _ _ => gQ'; refine at_of gQ' ?_; clear gQ'; try (rename (_ → Shared → Prop) => qQ'; clear qQ')) | refine at_of (by assumption) ?_); (try dsimp only)) | (with_reducible (first | refine s_exec ?_ | refine s_comp ?_); (with_reducible ((fail_if_success (refine s_at ?_)); refine cutX ?_; intro _ _)))) | (k_here; (with_reducible show wpAny _ _ (subscriptTail (Expr.Name _ _) (Expr.UnaryOp _ _ _) (Value.ref _) (Value.int _ _)) _ _ _); k_dflt (refine item_last (by k_asm) (by k_mem) (by assumption) (by assumption) ?_; k_whole); intro _) | (k_here; (with_reducible show wpAny _ _ (compareOp CmpOp.Eq (Value.ref _) (Value.ref _)) _ _ _); k_dflt (refine eq_nil (isL (by k_asm) (by k_mem)) (isL (by k_asm) (by k_mem)) (by (simp only [Around.deeper_units, mkA, cLine]; omega)) ?_)) | ((with_reducible show wpAny _ _ (compareOp CmpOp.In (Value.int _ _) (Value.ref _)) _ _ _); (k_here; k_dflt (refine in_places (knd := PySem.intKind _ _) (by exact int_is _ _ _ _) (by k_asm) (by k_mem) (by assumption) (by assumption) (by assumption) ?_; k_whole))) | ((with_reducible show wpAny _ _ (compareOp CmpOp.In (Value.str _ _) (Value.ref _)) _ _ _); (k_here; k_dflt (refine in_places (knd := PySem.strKind _ _) (by exact strKind_is _ _ _ _) (by k_asm) (by k_mem) (by assumption) (by assumption) (by assumption) ?_; k_whole))) | (k_here; (with_reducible show wpAny _ _ (call (Value.builtin "sorted") [Value.ref _]) _ _ _); k_dflt (refine kso_sorted (by k_asm) (by k_asm) (kso_isList (by k_asm) (by k_mem) (by rfl)) (by assumption) (by have h9 := IntsAre.length (by assumption); omega) ?_); intro _ _ _ _ _ _ _ l1zz _ _ _ _ _; (try k_lt l1zz)) | (k_here; (with_reducible show wpAny _ _ (subscriptTail _ _ (Value.ref _) (Value.int (Nat.cast _) _)) _ _ _); k_dflt (refine item_strs (by k_asm) (by k_mem) (by assumption) (by assumption) (by omega) ?_; k_whole); intro _) | (k_here; (with_reducible show wpAny _ _ (subscriptTail _ _ (Value.ref _) (Value.int _ _)) _ _ _); k_dflt (refine item_places (knd := intKind _ _) (by exact int_is _ _ _ _) (by k_asm) (by k_mem) (by assumption) (by assumption) (by assumption) (by assumption) ?_; k_whole); intro _) | ((fail_if_success (with_reducible first | refine s_done ?_ | refine s_iter ?_ | refine s_tpost ?_ | refine s_while ?_ | refine s_call (by decide) ?_ | refine s_ifexp ?_ | refine s_cend ?_ | refine s_comp ?_ | refine s_srcT ?_ | refine s_src ?_)); (first | (k_unfold; (try dsimp only)) | (k_end; wrow_close) | walk1 | (dsimp only; walk1) | (leave1; walk_say "STEP leave1"; try dsimp only)))))
      all_goals (rename Fr _ _ _ _ => FF; rename News _ _ _ _ => NN; refine TEnd.tail2 FF NN rfl ⟨⟨_, _, rfl, ?_⟩, fun z hz => if_neg hz⟩; rw [take_snoc hx])
      · rw [step_new hj' hle9 (.inl (hsz9 ▸ (by assumption)))]; exact strsAre_push hzs _ _
      · rw [step_new hj' hle9 (.inr (bne_iff_ne.mp (by assumption)))]; exact strsAre_push hzs _ _
      · rw [step_old hnd hj' (fun e => (by assumption : ¬ zs.size = 0) (hsz9.trans e)) (Decidable.byContradiction fun q => Bool.false_ne_true ((by assumption : (_ != _) = false).symm.trans (bne_iff_ne.mpr q)))]; exact hzs
    · rintro u _ h₂ tk₂ ⟨zs, n, rfl, hzs⟩ F₁ N₁
      clear FF NN
      (try dsimp only at F₁); (try dsimp only)
      (repeat' (first | (first | ((with_reducible first | (rename Gets _ _ => gQ'; refine at_of gQ' ?_; clear gQ'; try (rename (_ → Shared → Prop) => qQ'; clear qQ')) | refine at_of (by assumption) ?_); (try dsimp only)) | (with_reducible (first | refine s_exec ?_ | refine s_comp ?_); (with_reducible ((fail_if_success (refine s_at ?_)); refine cutX ?_; intro _ _)))) | (k_here; (with_reducible show wpAny _ _ (subscriptTail (Expr.Name _ _) (Expr.UnaryOp _ _ _) (Value.ref _) (Value.int _ _)) _ _ _); k_dflt (refine item_last (by k_asm) (by k_mem) (by assumption) (by assumption) ?_; k_whole); intro _) | (k_here; (with_reducible show wpAny _ _ (compareOp CmpOp.Eq (Value.ref _) (Value.ref _)) _ _ _); k_dflt (refine eq_nil (isL (by k_asm) (by k_mem)) (isL (by k_asm) (by k_mem)) (by (simp only [Around.deeper_units, mkA, cLine]; omega)) ?_)) | ((with_reducible show wpAny _ _ (compareOp CmpOp.In (Value.int _ _) (Value.ref _)) _ _ _); (k_here; k_dflt (refine in_places (knd := PySem.intKind _ _) (by exact int_is _ _ _ _) (by k_asm) (by k_mem) (by assumption) (by assumption) (by assumption) ?_; k_whole))) | ((with_reducible show wpAny _ _ (compareOp CmpOp.In (Value.str _ _) (Value.ref _)) _ _ _); (k_here; k_dflt (refine in_places (knd := PySem.strKind _ _) (by exact strKind_is _ _ _ _) (by k_asm) (by k_mem) (by assumption) (by assumption) (by assumption) ?_; k_whole))) | (k_here; (with_reducible show wpAny _ _ (call (Value.builtin "sorted") [Value.ref _]) _ _ _); k_dflt (refine kso_sorted (by k_asm) (by k_asm) (kso_isList (by k_asm) (by k_mem) (by rfl)) (by assumption) (by have h9 := IntsAre.length (by assumption); omega) ?_); intro _ _ _ _ _ _ _ l1zz _ _ _ _ _; (try k_lt l1zz)) | (k_here; (with_reducible show wpAny _ _ (subscriptTail _ _ (Value.ref _) (Value.int (Nat.cast _) _)) _ _ _); k_dflt (refine item_strs (by k_asm) (by k_mem) (by assumption) (by assumption) (by omega) ?_; k_whole); intro _) | (k_here; (with_reducible show wpAny _ _ (subscriptTail _ _ (Value.ref _) (Value.int _ _)) _ _ _); k_dflt (refine item_places (knd := intKind _ _) (by exact int_is _ _ _ _) (by k_asm) (by k_mem) (by assumption) (by assumption) (by assumption) (by assumption) ?_; k_whole); intro _) | ((fail_if_success (with_reducible first | refine s_done ?_ | refine s_iter ?_ | refine s_tpost ?_ | refine s_while ?_ | refine s_call (by decide) ?_ | refine s_ifexp ?_ | refine s_cend ?_ | refine s_comp ?_ | refine s_srcT ?_ | refine s_src ?_)); (first | (k_unfold; (try dsimp only)) | (k_end; wrow_close) | walk1 | (dsimp only; walk1) | (leave1; walk_say "STEP leave1"; try dsimp only)))))
      try dsimp only
      rename News _ _ _ _ => NN
      rename Fr _ _ _ _ => FF
      rw [List.take_of_length_le (by simp [hsi.length]), names_of_eq hns hsd hperm] at hzs
      refine .mk (ret _ _ _ zs n (allKept N kG' FF (fun p hp => NN p (List.mem_cons_of_mem _ (List.mem_cons_of_mem _ (List.mem_cons_of_mem _ (List.mem_cons_of_mem _ hp)))))) (new_of kG' (NN _ (List.mem_cons_of_mem _ (List.mem_cons_of_mem _ List.mem_cons_self))).2.2 (kLt (And.right (by assumption)))) (NN _ (List.mem_cons_of_mem _ (List.mem_cons_of_mem _ List.mem_cons_self))).1 hzs)
end names_of_specTC
theorem names_of_specT.all (prog : Program) (w : World) (base : Heap) (l : List Env) (dp : Nat) (un : Nat) (gd : Option (List Code)) (s : Shared) (p : Program) (loose : List Str) (mean : ExcName → Option Value) (mg : Str → Option Value) (mb : Str → Option Value) (a : KA) (d : KD) (names : List Str) (sws : List Int) (floors : List Int) (fl : List Int) (af : Addr) (vs : List Value) (Q : Value → Shared → Prop) (E : Value → Shared → Prop) : names_of_specT prog w base l dp un gd s p loose mean mg mb a d names sws floors fl af vs Q E :=
  @hkAll names_of_specTC.V names_of_specTC.ne (fun v => names_of_specT v.1 v.2.1 v.2.2.1 v.2.2.2.1 v.2.2.2.2.1 v.2.2.2.2.2.1 v.2.2.2.2.2.2.1 v.2.2.2.2.2.2.2.1 v.2.2.2.2.2.2.2.2.1 v.2.2.2.2.2.2.2.2.2.1 v.2.2.2.2.2.2.2.2.2.2.1 v.2.2.2.2.2.2.2.2.2.2.2.1 v.2.2.2.2.2.2.2.2.2.2.2.2.1 v.2.2.2.2.2.2.2.2.2.2.2.2.2.1 v.2.2.2.2.2.2.2.2.2.2.2.2.2.2.1 v.2.2.2.2.2.2.2.2.2.2.2.2.2.2.2.1 v.2.2.2.2.2.2.2.2.2.2.2.2.2.2.2.2.1 v.2.2.2.2.2.2.2.2.2.2.2.2.2.2.2.2.2.1 v.2.2.2.2.2.2.2.2.2.2.2.2.2.2.2.2.2.2.1 v.2.2.2.2.2.2.2.2.2.2.2.2.2.2.2.2.2.2.2.1 v.2.2.2.2.2.2.2.2.2.2.2.2.2.2.2.2.2.2.2.2.1 v.2.2.2.2.2.2.2.2.2.2.2.2.2.2.2.2.2.2.2.2.2.1 v.2.2.2.2.2.2.2.2.2.2.2.2.2.2.2.2.2.2.2.2.2.2) (by with_unfolding_all exact names_of_specTC.holds) (prog, w, base, l, dp, un, gd, s, p, loose, mean, mg, mb, a, d, names, sws, floors, fl, af, vs, Q, E)
theorem names_of_spec {prog : Program} {w : World} {base : Heap} {l : List Env} {dp un : Nat} {gd : Option (List Code)} {s : Shared} {p : Program} {loose : List Str} {mean : ExcName → Option Value} {mg mb : Str → Option Value}
    {a : KA} {d : KD} {names : List Str} {sws floors fl : List Int} {af : Addr} {vs : List Value} {Q E : Value → Shared → Prop}
    (X : (hd.heap_39 w.params).In base) (T : Top p loose mean mg mb base) (B : Below (mkA dp un gd l) base l s.heap)
    (hdp : dp ≤ 600) (hun : un ≤ 5000) (O : a.Ord) (o : Off base l (kAdr a)) (K : KAt prog w a d names sws floors s.heap) (hlen : names.length ≤ 100) (hnd : names.Nodup) (hsd : sws.Nodup)
    (hfl : s.heap.IsList af vs.toArray) (hfi : IntsAre vs fl) (hfn : af ∉ kAdr a) (hfz : fl.length ≤ 50)
    (ret : ∀ h' tk' D ys n, (∀ b o, s.heap.get? b = some o → h'.get? b = some o) → s.heap.get? D = none → h'.get? D = some (listOf ys n) → StrsAre ys.toList (((names.zip sws).filter fun p => decide (p.2 ∈ fl)).map (·.1)) → Q (.ref D) { s with heap := h', toks := tk' }) :
    wpAny (model prog w) (mkA dp un gd l) (call (.ref 130) [.ref a.ik, .ref af]) Q E s := by
  exact names_of_specT.all _ _ _ _ _ _ _ _ _ _ _ _ _ _ _ _ _ _ _ _ _ _ _ X T B hdp hun O o K hlen hnd hsd hfl hfi hfn hfz ret
end
section
example : True := by w_top off; trivial
/-- the others: those that are no switch's, each once -/
noncomputable def oth (sws : List Int) (fl : List Int) : List Int := fl.foldl (fun acc x => if x ∉ sws ∧ x ∉ acc then acc ++ [x] else acc) []
theorem oth_snoc (sws fl : List Int) (x : Int) : oth sws (fl ++ [x]) = if x ∉ sws ∧ x ∉ oth sws fl then oth sws fl ++ [x] else oth sws fl := by
  unfold oth; rw [List.foldl_append]; rfl
theorem oth_len (sws : List Int) : ∀ (n : Nat) (fl : List Int), fl.length = n → (oth sws fl).length ≤ n
  | 0, fl, h => by
    have : fl = [] := List.eq_nil_of_length_eq_zero h
    subst this
    exact Nat.le_refl _
  | n + 1, fl, h => by
    have hne : fl ≠ [] := fun e => by rw [e] at h; cases h
    have e := List.dropLast_concat_getLast hne
    have ih := oth_len sws n fl.dropLast (by rw [List.length_dropLast, h]; rfl)
    rw [← e, oth_snoc]
    split
    · rw [List.length_append, List.length_singleton]; exact Nat.succ_le_succ ih
    · exact Nat.le_succ_of_le ih
noncomputable def others_specT (prog : Program) (w : World) (base : Heap) (l : List Env) (dp : Nat) (un : Nat) (gd : Option (List Code)) (s : Shared) (p : Program) (loose : List Str) (mean : ExcName → Option Value) (mg : Str → Option Value) (mb : Str → Option Value) (a : KA) (d : KD) (names : List Str) (sws : List Int) (floors : List Int) (fl : List Int) (af : Addr) (vs : List Value) (Q : Value → Shared → Prop) (E : Value → Shared → Prop) : Prop :=
  ∀ (X : (hd.heap_39 w.params).In base),
  ∀ (T : Top p loose mean mg mb base),
  ∀ (B : Below (mkA dp un gd l) base l s.heap),
  ∀ (hdp : dp ≤ 600),
  ∀ (O : a.Ord),
  ∀ (o : Off base l (kAdr a)),
  ∀ (K : KAt prog w a d names sws floors s.heap),
  ∀ (hlen : names.length ≤ 100),
  ∀ (hfl : s.heap.IsList af vs.toArray),
  ∀ (hfi : IntsAre vs fl),
  ∀ (hfn : af ∉ kAdr a),
  ∀ (hfz : fl.length ≤ 100),
  ∀ (ret : ∀ h' tk' D ys n, (∀ b o, s.heap.get? b = some o → h'.get? b = some o) → s.heap.get? D = none → h'.get? D = some (listOf ys n) → IntsAre ys.toList (oth sws fl) → Q (.ref D) { s with heap := h', toks := tk' }),
  wpAny (model prog w) (mkA dp un gd l) (call (.ref 137) [.ref a.ik, .ref af]) Q E s
namespace others_specTC
noncomputable abbrev V := Program × World × Heap × (List Env) × Nat × Nat × (Option (List Code)) × Shared × Program × (List Str) × (ExcName → Option Value) × (Str → Option Value) × (Str → Option Value) × KA × KD × (List Str) × (List Int) × (List Int) × (List Int) × Addr × (List Value) × (Value → Shared → Prop) × (Value → Shared → Prop)
theorem ne : Nonempty V := by
  have := neW
  have := neS
  have := neA
  have := neD
  have := neK
  have := neR
  repeat (refine @instNonemptyProd _ _ ?_ ?_; · first | assumption | infer_instance)
  first | assumption | infer_instance
noncomputable def v : V := @Classical.epsilon V ne fun v => ¬ others_specT v.1 v.2.1 v.2.2.1 v.2.2.2.1 v.2.2.2.2.1 v.2.2.2.2.2.1 v.2.2.2.2.2.2.1 v.2.2.2.2.2.2.2.1 v.2.2.2.2.2.2.2.2.1 v.2.2.2.2.2.2.2.2.2.1 v.2.2.2.2.2.2.2.2.2.2.1 v.2.2.2.2.2.2.2.2.2.2.2.1 v.2.2.2.2.2.2.2.2.2.2.2.2.1 v.2.2.2.2.2.2.2.2.2.2.2.2.2.1 v.2.2.2.2.2.2.2.2.2.2.2.2.2.2.1 v.2.2.2.2.2.2.2.2.2.2.2.2.2.2.2.1 v.2.2.2.2.2.2.2.2.2.2.2.2.2.2.2.2.1 v.2.2.2.2.2.2.2.2.2.2.2.2.2.2.2.2.2.1 v.2.2.2.2.2.2.2.2.2.2.2.2.2.2.2.2.2.2.1 v.2.2.2.2.2.2.2.2.2.2.2.2.2.2.2.2.2.2.2.1 v.2.2.2.2.2.2.2.2.2.2.2.2.2.2.2.2.2.2.2.2.1 v.2.2.2.2.2.2.2.2.2.2.2.2.2.2.2.2.2.2.2.2.2.1 v.2.2.2.2.2.2.2.2.2.2.2.2.2.2.2.2.2.2.2.2.2.2
@[irreducible] noncomputable def prog : Program := v.1
@[irreducible] noncomputable def w : World := v.2.1
@[irreducible] noncomputable def base : Heap := v.2.2.1
@[irreducible] noncomputable def l : List Env := v.2.2.2.1
@[irreducible] noncomputable def dp : Nat := v.2.2.2.2.1
@[irreducible] noncomputable def un : Nat := v.2.2.2.2.2.1
@[irreducible] noncomputable def gd : Option (List Code) := v.2.2.2.2.2.2.1
@[irreducible] noncomputable def s : Shared := v.2.2.2.2.2.2.2.1
@[irreducible] noncomputable def p : Program := v.2.2.2.2.2.2.2.2.1
@[irreducible] noncomputable def loose : List Str := v.2.2.2.2.2.2.2.2.2.1
@[irreducible] noncomputable def mean : ExcName → Option Value := v.2.2.2.2.2.2.2.2.2.2.1
@[irreducible] noncomputable def mg : Str → Option Value := v.2.2.2.2.2.2.2.2.2.2.2.1
@[irreducible] noncomputable def mb : Str → Option Value := v.2.2.2.2.2.2.2.2.2.2.2.2.1
@[irreducible] noncomputable def a : KA := v.2.2.2.2.2.2.2.2.2.2.2.2.2.1
@[irreducible] noncomputable def d : KD := v.2.2.2.2.2.2.2.2.2.2.2.2.2.2.1
@[irreducible] noncomputable def names : List Str := v.2.2.2.2.2.2.2.2.2.2.2.2.2.2.2.1
@[irreducible] noncomputable def sws : List Int := v.2.2.2.2.2.2.2.2.2.2.2.2.2.2.2.2.1
@[irreducible] noncomputable def floors : List Int := v.2.2.2.2.2.2.2.2.2.2.2.2.2.2.2.2.2.1
@[irreducible] noncomputable def fl : List Int := v.2.2.2.2.2.2.2.2.2.2.2.2.2.2.2.2.2.2.1
@[irreducible] noncomputable def af : Addr := v.2.2.2.2.2.2.2.2.2.2.2.2.2.2.2.2.2.2.2.1
@[irreducible] noncomputable def vs : List Value := v.2.2.2.2.2.2.2.2.2.2.2.2.2.2.2.2.2.2.2.2.1
@[irreducible] noncomputable def Q : Value → Shared → Prop := v.2.2.2.2.2.2.2.2.2.2.2.2.2.2.2.2.2.2.2.2.2.1
@[irreducible] noncomputable def E : Value → Shared → Prop := v.2.2.2.2.2.2.2.2.2.2.2.2.2.2.2.2.2.2.2.2.2.2
set_option maxHeartbeats 4000000 in
theorem holds : others_specT prog w base l dp un gd s p loose mean mg mb a d names sws floors fl af vs Q E := by
  intro X T B hdp O o K hlen hfl hfi hfn hfz ret
  have hbase := kPairs O
  obtain ⟨o1, o2, o3, o4, o5, o6, n1, n2⟩ := O
  obtain ⟨k, hK, ⟨kn, hpn, hkn⟩, ⟨ks, hps, hks⟩, hlv, hsv, hfv, hns⟩ := K
  have N : Led base l s.heap (kLed a d k) := led_of o hK
  have hl1 := hkn.length
  have hl2 := hks.length
  have hl3 : k.lv.size = names.length := by rw [← strsAre_length hlv]; simp
  have hl4 : k.sv.size = sws.length := by rw [← hsv.length]; simp
  refine wpAny_call ?_
  k_dflt (refine' enter (binds := [("self", .ref a.ik), ("failed", .ref af)]) ?k1 ?k2 ?k3 ?k4 ?k6 ?k7 ?k8 ?k9 ?kB ?_ ?c2 ?c3 ?c4 ?c5; ((case k1 => assumption); (case k2 => assumption); (case k3 => assumption); (case k4 => assumption); (case k6 => k_is); (case k7 => k_is); (case k8 => k_room); (case k9 => exact BindsTo.of_eq rfl); (case c5 => decide); (case kB => exact locs rfl); (case c2 => exact rfl); (case c3 => exact rfl); (case c4 => exact rfl)))
  intro g' L' h' F' N' B' X' T' kG' gS' l1 nL
  (try k_lt l1)
  (try dsimp only); (try k_fold)
  have hl : g'.IsList af vs.toArray := kG'.list hfl hfn
  (repeat' (first | (first | ((with_reducible first | (rename Gets _ _ => gQ'; refine at_of gQ' ?_; clear gQ'; try (rename (_ → Shared → Prop) => qQ'; clear qQ')) | refine at_of (by assumption) ?_); (try dsimp only)) | (with_reducible (first | refine s_exec ?_ | refine s_comp ?_); (with_reducible ((fail_if_success (refine s_at ?_)); refine cutX ?_; intro _ _)))) | ((with_reducible show wpAny _ _ (exec (Stmt.For (Expr.Name _ _) (Expr.Name _ _) (_ :: _) [] _) _) _ _ _); (k_here; (rename Fr _ _ _ _ => lFzz); (with_unfolding_all refine For_invVF lFzz (by exact rfl) (by exact rfl) ?_; k_whole))) | ((with_reducible show wpAny _ _ (compareOp CmpOp.NotIn (Value.int _ _) (Value.ref _)) _ _ _); (k_here; k_dflt (refine notin_places (knd := PySem.intKind _ _) (by exact int_is _ _ _ _) (by k_asm) (by k_mem) (by assumption) (by assumption) (by assumption) ?_; k_whole))) | ((with_reducible show wpAny _ _ (compareOp CmpOp.NotIn (Value.str _ _) (Value.ref _)) _ _ _); (k_here; k_dflt (refine notin_places (knd := PySem.strKind _ _) (by exact strKind_is _ _ _ _) (by k_asm) (by k_mem) (by assumption) (by assumption) (by assumption) ?_; k_whole))) | ((fail_if_success (with_reducible first | refine s_done ?_ | refine s_iter ?_ | refine s_tpost ?_ | refine s_while ?_ | refine s_call (by decide) ?_ | refine s_ifexp ?_ | refine s_cend ?_ | refine s_comp ?_ | refine s_srcT ?_ | refine s_src ?_)); (first | (k_unfold; (try dsimp only)) | (k_end; wrow_close) | walk1 | (dsimp only; walk1) | (leave1; walk_say "STEP leave1"; try dsimp only)))))
  rename Fr _ _ _ _ => FF
  rename News _ _ _ _ => NN
  refine forList (c := 0) ((fun D i nx => ∃ ys n, nx = (D, listOf ys n) :: kLed a d k ∧ IntsAre ys.toList (oth sws (fl.take i))) _) rfl (.inl hl) FF NN ⟨#[], 0, rfl, .nil⟩ ?_ ?_
  · rintro I i v _ h₂ tk₂ oI lI lL hv hi ⟨ys, n, rfl, hys⟩ F₁ N₁
    clear FF NN
    obtain ⟨x, t, rfl, hx⟩ := ints_at hfi hv
    have hyl : ys.size ≤ 100 := (show ys.toList.length ≤ 100 from hys.length ▸ Nat.le_trans (oth_len sws _ (fl.take i) rfl) (Nat.le_trans (by rw [List.length_take]; exact Nat.min_le_right _ _) hfz))
    (try k_lt lI)
    (try dsimp only at F₁); (try k_fold)
    (repeat' (first | (first | ((with_reducible first | (rename Gets _ _ => gQ'; refine at_of gQ' ?_; clear gQ'; try (rename (_ → Shared → Prop) => qQ'; clear qQ')) | refine at_of (by assumption) ?_); (try dsimp only)) | (with_reducible (first | refine s_exec ?_ | refine s_comp ?_); (with_reducible ((fail_if_success (refine s_at ?_)); refine cutX ?_; intro _ _)))) | ((with_reducible show wpAny _ _ (exec (Stmt.For (Expr.Name _ _) (Expr.Name _ _) (_ :: _) [] _) _) _ _ _); (k_here; (rename Fr _ _ _ _ => lFzz); (with_unfolding_all refine For_invVF lFzz (by exact rfl) (by exact rfl) ?_; k_whole))) | ((with_reducible show wpAny _ _ (compareOp CmpOp.NotIn (Value.int _ _) (Value.ref _)) _ _ _); (k_here; k_dflt (refine notin_places (knd := PySem.intKind _ _) (by exact int_is _ _ _ _) (by k_asm) (by k_mem) (by assumption) (by assumption) (by assumption) ?_; k_whole))) | ((with_reducible show wpAny _ _ (compareOp CmpOp.NotIn (Value.str _ _) (Value.ref _)) _ _ _); (k_here; k_dflt (refine notin_places (knd := PySem.strKind _ _) (by exact strKind_is _ _ _ _) (by k_asm) (by k_mem) (by assumption) (by assumption) (by assumption) ?_; k_whole))) | ((fail_if_success (with_reducible first | refine s_done ?_ | refine s_iter ?_ | refine s_tpost ?_ | refine s_while ?_ | refine s_call (by decide) ?_ | refine s_ifexp ?_ | refine s_cend ?_ | refine s_comp ?_ | refine s_srcT ?_ | refine s_src ?_)); (first | (k_unfold; (try dsimp only)) | (k_end; wrow_close) | walk1 | (dsimp only; walk1) | (leave1; walk_say "STEP leave1"; try dsimp only)))))
    all_goals (rename Fr _ _ _ _ => FF; rename News _ _ _ _ => NN; refine TEnd.tail FF NN rfl ⟨⟨_, _, rfl, ?_⟩, fun z hz => if_neg hz⟩; rw [take_snoc hx, oth_snoc])
    · rw [if_neg (by intro q; exact q.1 (by assumption))]; exact hys
    · rw [if_neg (by intro q; exact q.2 (any_mem (by assumption)))]; exact hys
    · rw [if_pos ⟨by assumption, any_not (by assumption)⟩]; exact intsAre_push hys _ _
  · rintro u _ h₂ tk₂ ⟨ys, n, rfl, hys⟩ F₁ N₁
    clear FF NN
    (try dsimp only at F₁); (try dsimp only)
    (repeat' (first | (first | ((with_reducible first | (rename Gets _ _ => gQ'; refine at_of gQ' ?_; clear gQ'; try (rename (_ → Shared → Prop) => qQ'; clear qQ')) | refine at_of (by assumption) ?_); (try dsimp only)) | (with_reducible (first | refine s_exec ?_ | refine s_comp ?_); (with_reducible ((fail_if_success (refine s_at ?_)); refine cutX ?_; intro _ _)))) | ((with_reducible show wpAny _ _ (exec (Stmt.For (Expr.Name _ _) (Expr.Name _ _) (_ :: _) [] _) _) _ _ _); (k_here; (rename Fr _ _ _ _ => lFzz); (with_unfolding_all refine For_invVF lFzz (by exact rfl) (by exact rfl) ?_; k_whole))) | ((with_reducible show wpAny _ _ (compareOp CmpOp.NotIn (Value.int _ _) (Value.ref _)) _ _ _); (k_here; k_dflt (refine notin_places (knd := PySem.intKind _ _) (by exact int_is _ _ _ _) (by k_asm) (by k_mem) (by assumption) (by assumption) (by assumption) ?_; k_whole))) | ((with_reducible show wpAny _ _ (compareOp CmpOp.NotIn (Value.str _ _) (Value.ref _)) _ _ _); (k_here; k_dflt (refine notin_places (knd := PySem.strKind _ _) (by exact strKind_is _ _ _ _) (by k_asm) (by k_mem) (by assumption) (by assumption) (by assumption) ?_; k_whole))) | ((fail_if_success (with_reducible first | refine s_done ?_ | refine s_iter ?_ | refine s_tpost ?_ | refine s_while ?_ | refine s_call (by decide) ?_ | refine s_ifexp ?_ | refine s_cend ?_ | refine s_comp ?_ | refine s_srcT ?_ | refine s_src ?_)); (first | (k_unfold; (try dsimp only)) | (k_end; wrow_close) | walk1 | (dsimp only; walk1) | (leave1; walk_say "STEP leave1"; try dsimp only)))))
    try dsimp only
    rename News _ _ _ _ => NN
    rename Fr _ _ _ _ => FF
    rw [List.take_of_length_le (by simp [hfi.length])] at hys
    refine .mk (ret _ _ _ ys n (allKept N kG' FF (fun p hp => NN p (List.mem_cons_of_mem _ hp))) (new_of kG' (NN _ List.mem_cons_self).2.2 (kLt (by assumption))) (NN _ List.mem_cons_self).1 hys)
end others_specTC
theorem others_specT.all (prog : Program) (w : World) (base : Heap) (l : List Env) (dp : Nat) (un : Nat) (gd : Option (List Code)) (s : Shared) (p : Program) (loose : List Str) (mean : ExcName → Option Value) (mg : Str → Option Value) (mb : Str → Option Value) (a : KA) (d : KD) (names : List Str) (sws : List Int) (floors : List Int) (fl : List Int) (af : Addr) (vs : List Value) (Q : Value → Shared → Prop) (E : Value → Shared → Prop) : others_specT prog w base l dp un gd s p loose mean mg mb a d names sws floors fl af vs Q E :=
  @hkAll others_specTC.V others_specTC.ne (fun v => others_specT v.1 v.2.1 v.2.2.1 v.2.2.2.1 v.2.2.2.2.1 v.2.2.2.2.2.1 v.2.2.2.2.2.2.1 v.2.2.2.2.2.2.2.1 v.2.2.2.2.2.2.2.2.1 v.2.2.2.2.2.2.2.2.2.1 v.2.2.2.2.2.2.2.2.2.2.1 v.2.2.2.2.2.2.2.2.2.2.2.1 v.2.2.2.2.2.2.2.2.2.2.2.2.1 v.2.2.2.2.2.2.2.2.2.2.2.2.2.1 v.2.2.2.2.2.2.2.2.2.2.2.2.2.2.1 v.2.2.2.2.2.2.2.2.2.2.2.2.2.2.2.1 v.2.2.2.2.2.2.2.2.2.2.2.2.2.2.2.2.1 v.2.2.2.2.2.2.2.2.2.2.2.2.2.2.2.2.2.1 v.2.2.2.2.2.2.2.2.2.2.2.2.2.2.2.2.2.2.1 v.2.2.2.2.2.2.2.2.2.2.2.2.2.2.2.2.2.2.2.1 v.2.2.2.2.2.2.2.2.2.2.2.2.2.2.2.2.2.2.2.2.1 v.2.2.2.2.2.2.2.2.2.2.2.2.2.2.2.2.2.2.2.2.2.1 v.2.2.2.2.2.2.2.2.2.2.2.2.2.2.2.2.2.2.2.2.2.2) (by with_unfolding_all exact others_specTC.holds) (prog, w, base, l, dp, un, gd, s, p, loose, mean, mg, mb, a, d, names, sws, floors, fl, af, vs, Q, E)
theorem others_spec {prog : Program} {w : World} {base : Heap} {l : List Env} {dp un : Nat} {gd : Option (List Code)} {s : Shared} {p : Program} {loose : List Str} {mean : ExcName → Option Value} {mg mb : Str → Option Value}
    {a : KA} {d : KD} {names : List Str} {sws floors fl : List Int} {af : Addr} {vs : List Value} {Q E : Value → Shared → Prop}
    (X : (hd.heap_39 w.params).In base) (T : Top p loose mean mg mb base) (B : Below (mkA dp un gd l) base l s.heap)
    (hdp : dp ≤ 600) (O : a.Ord) (o : Off base l (kAdr a)) (K : KAt prog w a d names sws floors s.heap) (hlen : names.length ≤ 100)
    (hfl : s.heap.IsList af vs.toArray) (hfi : IntsAre vs fl) (hfn : af ∉ kAdr a) (hfz : fl.length ≤ 100)
    (ret : ∀ h' tk' D ys n, (∀ b o, s.heap.get? b = some o → h'.get? b = some o) → s.heap.get? D = none → h'.get? D = some (listOf ys n) → IntsAre ys.toList (oth sws fl) → Q (.ref D) { s with heap := h', toks := tk' }) :
    wpAny (model prog w) (mkA dp un gd l) (call (.ref 137) [.ref a.ik, .ref af]) Q E s := by
  exact others_specT.all _ _ _ _ _ _ _ _ _ _ _ _ _ _ _ _ _ _ _ _ _ _ _ X T B hdp O o K hlen hfl hfi hfn hfz ret
end
section
theorem keys_miss : typeLookup (.type "list") "keys" = pure none := by rw [typeLookup_type, builtinLookup_eq_fast]; kernel_rfl
theorem upd_entry : entryFor table "dict.update.loop" = some Builtin.«dict.update.loop» := entryFor_of_tree (by kernel_rfl)
theorem upd_plain : plainId "dict.update.loop" = true := by decide +kernel
set_option maxHeartbeats 2000000 in
theorem noKeys {prog : Program} {w : World} {A : Around} {E : Value → Shared → Prop} {s : Shared} {a : Addr} {its : Array Value} {Q : Option Value → Shared → Prop} {o : Obj} (hx : s.heap.get? a = some o) (hc : o.cls = .type "list") (hd : o.dict = none) {k : Nat} (hdat : o.data = .seq its k) (hA : A.handled = none)
    (h : ∀ h' tk, (∀ b o, s.heap.get? b = some o → h'.get? b = some o) → Q none { s with heap := h', toks := tk }) : wpAny (model prog w) A (getAttr? (.ref a) "keys") Q E s := by
  obtain ⟨c, dct, dat, sl⟩ := o
  simp only at hc hdat hd
  subst hc hdat hd
  obtain ⟨hp, g, d, tk, os⟩ := s
  have hT : ∀ tk', (⟨hp, g, d, tk', os⟩ : Shared).TypeIs (.ref a) "list" := fun _ => ⟨_, hx, rfl⟩
  have f1 := sub_AttributeError
  have f3 := F.slot_list_getattribute.lookup
  have f4 := F.slot_list_getattribute.bind (.ref a)
  have f5 := am_list_getattr_none
  unfold getAttr? getAttrBy? getAttrBy
  repeat (any_goals (first | assumption | exact hT _ | ((with_reducible show wpAny _ _ (call (Value.builtin "list.__getattribute__") _ _) _ _ _); refine call_meets F.slot_list_getattribute (hT _) am_entry_list_getattribute (F.args_list_getattribute_2 _ _) (meets_getattribute_miss_list a its k sl "keys" _ keys_miss (by decide +kernel)) ⟨hx, hA, fun h' tk' e hx' => ?_⟩) | wp_step))
  obtain ⟨t', u', he⟩ := hx'.there
  show wpAny _ _ (getattributeRaised _ _ _ _ _ _ _) _ _ _
  unfold getattributeRaised
  repeat (any_goals (first | assumption | wp_step))
  exact h _ _ fun b o e => hx'.of.keeps b o e
section
variable {prog : Program} {w : World} {A : Around} {E : Value → Shared → Prop} {s : Shared}
theorem upd_loop {R : Result → Shared → Prop} {hB : Heap} {l I d : Addr} {its : Array Value} {kvs : List (Str × Value)} {r : Value} (hh : A.handled = none) (hl : hB.IsList l its)
    (hk : kvs.length = its.size) (hv : ∀ (i : Nat) (v : Value), its[i]? = some v → ∃ t n tn x, v = Value.ref t ∧ IsTup hB t #[.str n tn, x] ∧ kvs[i]? = some (n, x))
    (hz : kvs.length ≤ 100) (hld : l ≠ d) (hlI : l ≠ I) (hId : I ≠ d) (htd : ∀ t vs, IsTup hB t vs → t ≠ d ∧ t ≠ I) :
    ∀ (k i : Nat) (tI : Tok) (s : Shared), its.size - i = k → i ≤ its.size → s.heap.IsListIter I l i → s.heap.DictOf (strKind prog w) d (merged [] (kvs.take i)) → (∀ b o, b ≠ I → b ≠ d → hB.get? b = some o → s.heap.get? b = some o) →
      (∀ h' tk, h'.DictOf (strKind prog w) d (merged [] kvs) → (∀ b o, b ≠ I → b ≠ d → hB.get? b = some o → h'.get? b = some o) → R (.ok (.ret r)) { s with heap := h', toks := tk }) →
      codeAny (model prog w) A (.builtin "dict.update.loop" ⟨[.ref d, .ref I, .int (i : Int) tI, r], []⟩) R s := by
  intro k
  induction k with
  | zero =>
    intro i tI s hki hi hit hd hkeep hR
    have hin : i = its.size := Nat.le_antisymm hi (Nat.le_of_sub_eq_zero hki)
    subst hin
    refine codeAny_builtin upd_entry ?_
    rw [Around.under_plainId upd_plain _]
    have hls : s.heap.IsList l its := let ⟨o, ho, r⟩ := hl; ⟨o, hkeep _ _ hlI hld ho, r⟩
    show wpAny _ A.in1 (pyNext (.ref I) >>= _) _ _ s
    refine wpAny_bind (wpAny_pyNext_list_end (by simpa using hh) hit hls (by simp) fun h' he => ?_)
    show wpAny _ A.in1 (Builtin.Dict.addKeywords d [] >>= _) _ _ _
    refine wpAny_bind (wpAny_pure ?_)
    refine wpAny_pure (hR h' s.toks ?_ fun b o h1 h2 e => he b o h1 (hkeep b o h1 h2 e))
    rw [← hk, List.take_length] at hd
    exact hd.extBut he (Ne.symm hId)
  | succ k ih =>
    intro i tI s hki hi hit hd hkeep hR
    have hlt : i < its.size := Nat.lt_of_sub_eq_succ hki
    refine codeAny_builtin upd_entry ?_
    rw [Around.under_plainId upd_plain _]
    have hls : s.heap.IsList l its := let ⟨o, ho, r⟩ := hl; ⟨o, hkeep _ _ hlI hld ho, r⟩
    obtain ⟨t, n, tn, x, hvi, ht, hki'⟩ := hv i its[i] (by simp [hlt])
    show wpAny _ A.in1 (pyNext (.ref I) >>= _) _ _ s
    refine wpAny_bind (wpAny_pyNext_list_item hit hls (x := its[i]) (by simp [hlt]) fun h' hit' hs => ?_)
    rw [hvi]
    have htd' := htd t _ ht
    have ht' : IsTup h' t #[.str n tn, x] := let ⟨o, ho, r⟩ := ht; ⟨o, hs.extBut _ _ htd'.2 (hkeep _ _ htd'.2 htd'.1 ho), r⟩
    obtain ⟨ot, hot, hct, nt, hdt⟩ := ht'
    show wpAny _ A.in1 (holding [Value.ref t] _ >>= _) _ _ _
    refine wpAny_bind (wpAny_holding ?_)
    refine wpAny_bind (wpAny_tryCatch ?_)
    unfold Builtin.Dict.pairItems
    refine wpAny_bind (wpAny_typeOf (s := { s with heap := h' }) ⟨_, hot, hct⟩ ?_)
    rw [if_pos (by decide)]
    show wpAny _ A.in1 (seqItems? (.ref t) >>= _) _ _ _
    refine wpAny_bind (wpAny_seqItems hot hdt (wpAny_pure ?_))
    show wpAny _ _ (holding [Value.str n tn, x] (dictSet d (.str n tn) x)) _ _ _
    refine wpAny_holding ?_
    have hd' : Heap.DictOf (PySem.strKind prog w) h' d (merged [] (kvs.take i)) := hd.sameBut hs (Ne.symm hId)
    refine wpAny_dictSet_pairs (knd := PySem.strKind prog w) (k := n) (strKind_is _ _ _ _) hd' (fun h2 hd2 hs2 => ?_) (by have h1 := merged_length_le ([] : List (Str × Value)) (kvs.take i); have h2 : (kvs.take i).length ≤ kvs.length := (by rw [List.length_take]; exact Nat.min_le_right _ _); rw [sizeLine_eq]; exact Nat.le_trans h1 (Nat.le_trans (Nat.add_le_add (Nat.le_refl _) h2) (by rw [List.length_nil, Nat.zero_add]; exact Nat.le_trans hz (by decide))))
    refine wpAny_pure ⟨plainId_quiet upd_plain _, ?_⟩
    rw [← merged_take_succ _ _ _ _ hki'] at hd2
    have := ih (i + 1) 0 { s with heap := h2, toks := s.toks + 1 } (show its.size - i - 1 = k by rw [hki]; rfl) hlt (let ⟨oi, hoi, r⟩ := hit'; ⟨oi, hs2.extBut _ _ hId hoi, r⟩) hd2 (fun b o h1 h3 e => hs2.extBut _ _ h3 (hs.extBut _ _ h1 (hkeep b o h1 h3 e))) (fun h9 tk9 d9 k9 => hR h9 tk9 d9 k9)
    exact this
theorem dict_pairs {L l : Addr} {g : Heap} {m : Str → Option Value} {news : List (Addr × Obj)} {its : Array Value} {kvs : List (Str × Value)} {Q : Value → Shared → Prop} (FF : Fr g L s.heap m) (N : News g L s.heap news) (hbig : g.NoLimit) (hh : A.handled = none)
    {ol : Obj} (ho : g.get? l = some ol) (hc : ol.cls = .type "list") (hn : ol.dict = none) {nl : Nat} (hdat : ol.data = .seq its nl)
    (hk : kvs.length = its.size) (hv : ∀ (i : Nat) (v : Value), its[i]? = some v → ∃ t n tn x, v = Value.ref t ∧ IsTup g t #[.str n tn, x] ∧ kvs[i]? = some (n, x)) (hnd : (kvs.map (·.1)).Nodup)
    (hz : kvs.length ≤ 100)
    (k : ∀ D h' tk o, Fr g L h' m → News g L h' ((D, o) :: news) → (∀ p ∈ news, @LT.lt Nat _ p.1 D) → (D == sysModules) = false → o.IsDictOf (PySem.strKind prog w) kvs → Q (.ref D) { s with heap := h', toks := tk }) :
    wpAny (model prog w) A (call (.type "dict") [.ref l]) Q E s := by
  refine callType_codes (Q₁ := fun obj s₁ => obj = .ref s.heap.objs.size ∧ s₁ = { s with heap := s.heap.push { cls := .type "dict", data := .dict #[] } }) F.kt_called_dict (F.kt_typeCall_dict_1 _) F.entry_dict_init (kt_code_dict_new _ ⟨rfl, rfl⟩) ?_
  rintro obj s₁ ⟨rfl, rfl⟩
  have hnew : (s.heap.push { cls := .type "dict", data := .dict #[] }).DictOf (PySem.strKind prog w) s.heap.objs.size [] := Heap.DictOf.new s.heap
  refine ⟨hnew.typeIs, F.args_dict_init_2 _ _, ?_⟩
  unfold Builtin.«dict.__init__»
  refine wpAny_bind ?_
  unfold Builtin.Dict.selfAndRest
  refine wpAny_bind (wpAny_notOrdered_dict hnew.typeIs ?_)
  show wpAny _ _ (pure (s.heap.objs.size, [Value.ref l])) _ _ _
  refine wpAny_pure ?_
  show wpAny _ _ (Builtin.Dict.updateFrom "dict.__init__" s.heap.objs.size (.ref l) [] .none) _ _ _
  unfold Builtin.Dict.updateFrom
  have hol : (s.heap.push { cls := .type "dict", data := .dict #[] }).get? l = some ol := Heap.get?_push_of_some _ (FF.keep _ _ ho)
  refine wpAny_bind (wpAny_typeOf (T := "list") ⟨_, hol, hc⟩ ?_)
  rw [if_pos (by decide)]
  refine wpAny_bind (noKeys hol hc hn hdat (by simpa using hh) fun h1 tk1 k1 => ?_)
  rw [if_pos (by decide)]
  refine wpAny_bind (wpAny_rule ?_)
  have hk1 : h1.IsList l its := ⟨_, k1 _ _ hol, hc, nl, hdat⟩
  have hd1 : Heap.DictOf (PySem.strKind prog w) h1 s.heap.objs.size [] := let ⟨o, es, ep, q, r⟩ := hnew; ⟨o, es, ep, k1 _ _ q, r⟩
  refine wpAny_bind (wpAny_pyIter_list (s := { s with heap := h1, toks := tk1 }) hk1 ?_)
  have hdlt : s.heap.objs.size < h1.objs.size := by
    obtain ⟨o, _, _, q, _⟩ := hd1
    exact Heap.lt_size q
  have hllt : l < s.heap.objs.size := Heap.lt_size (FF.keep _ _ ho)
  have hk2 : ∀ b o, h1.get? b = some o → (h1.push { cls := .type "list_iterator", data := .fields #[.ref l, .int 0 0] }).get? b = some o := fun b o e => Heap.get?_push_of_some _ e
  have up : ∀ b o, s.heap.get? b = some o → h1.get? b = some o := fun b o e => k1 _ _ (Heap.get?_push_of_some _ e)
  refine wpAny_pure ⟨plainId_quiet upd_plain _, upd_loop (hB := h1) (l := l) (I := h1.objs.size) (d := s.heap.objs.size) (its := its) (kvs := kvs) (r := .none) (by simpa using hh) hk1 hk (fun i v e => ?_) hz (Nat.ne_of_lt hllt) (Nat.ne_of_lt (Nat.lt_trans hllt hdlt)) (Nat.ne_of_gt hdlt) (fun t vs ht => ?_) its.size 0 0 _ rfl (Nat.zero_le _) ⟨_, Heap.get?_push_size _ rfl, rfl, rfl⟩ (hd1.push _) (fun b o h2 h3 e => hk2 b o e) (fun h9 tk9 d9 k9 => ?_)⟩
  · obtain ⟨t, n, tn, x, e1, ht, e2⟩ := hv i v e
    exact ⟨t, n, tn, x, e1, let ⟨o, q, r⟩ := ht; ⟨o, up _ _ (FF.keep _ _ q), r⟩, e2⟩
  · obtain ⟨o, q, hc9, _⟩ := ht
    refine ⟨fun z => ?_, Nat.ne_of_lt (Heap.lt_size q)⟩
    obtain ⟨o2, _, _, q2, hc2, _⟩ := hd1
    rw [z, q2] at q
    cases q
    have := hc2.1
    rw [hc9] at this
    exact absurd (Value.type.inj this) (by decide)
  · refine ⟨rfl, ?_⟩
    rw [merged_nil_of_nodup kvs hnd] at d9
    obtain ⟨o9, ho9, hd9⟩ := Heap.dictOf_iff.mp d9
    have kk : ∀ b o, s.heap.get? b = some o → h9.get? b = some o := fun b o e => k9 b o (Nat.ne_of_lt (Nat.lt_trans (Heap.lt_size e) hdlt)) (Nat.ne_of_lt (Heap.lt_size e)) (up b o e)
    refine k _ h9 tk9 o9 (FF.keeps kk) (fun p hp => ?_) (fun p hp => Heap.lt_size (N p hp).1) ?_ hd9
    · rcases List.mem_cons.mp hp with rfl | hp
      · exact ⟨ho9, Nat.ne_of_gt FF.ns.lt, next_is_new FF⟩
      · exact ⟨kk _ _ (N p hp).1, (N p hp).2⟩
    · exact FF.notModules (modules_low hbig)
end
end
section
/-- a table of the names and their switches -/
inductive Tabled : List (Str × Value) → List Str → List Int → Prop
  | nil : Tabled [] [] []
  | cons (n : Str) (s : Int) (t : Tok) {kvs ns ss} : Tabled kvs ns ss → Tabled ((n, .int s t) :: kvs) (n :: ns) (s :: ss)
theorem Tabled.keys {kvs : List (Str × Value)} {ns : List Str} {ss : List Int} (h : Tabled kvs ns ss) : kvs.map (·.1) = ns := by
  induction h with
  | nil => rfl
  | cons n s t _ ih => simp [ih]
theorem Tabled.isSome {kvs : List (Str × Value)} {ns : List Str} {ss : List Int} (h : Tabled kvs ns ss) (k : Str) : (valueAt kvs k).isSome = decide (k ∈ ns) := by
  induction h with
  | nil => simp [valueAt]
  | cons k' n t _ ih =>
    by_cases e : k' = k
    · subst e; simp [valueAt]
    · have : ¬ k = k' := fun q => e q.symm
      simp only [valueAt, List.find?_cons, e, decide_false] at ih ⊢
      rw [ih]
      simp [this]
theorem Tabled.at {kvs : List (Str × Value)} {ns : List Str} {ss : List Int} (h : Tabled kvs ns ss) {k : Str} (hk : k ∈ ns) : ∃ t, valueAt kvs k = some (.int (swOf ns ss k) t) := by
  induction h with
  | nil => simp at hk
  | @cons n s t kvs ns ss _ ih =>
    by_cases e : n = k
    · subst e; exact ⟨t, by simp [valueAt, swOf, List.idxOf_cons]⟩
    · obtain ⟨t', h'⟩ := ih ((List.mem_cons.mp hk).resolve_left fun q => e q.symm)
      refine ⟨t', ?_⟩
      have e1 : swOf (n :: ns) (s :: ss) k = swOf ns ss k := by
        unfold swOf
        rw [List.idxOf_cons, show (n == k) = false by simpa using e]
        simp
      rw [e1]
      simp only [valueAt, List.find?_cons, e, decide_false] at h' ⊢
      exact h'
theorem PrsAt.tabled {g : Heap} : ∀ {its : List Value} {ns : List Str} {ss : List Int}, PrsAt g its ns ss → ∃ kvs : List (Str × Value), kvs.length = its.length ∧ Tabled kvs ns ss ∧
    ∀ (i : Nat) (v : Value), its[i]? = some v → ∃ t n tn x, v = Value.ref t ∧ IsTup g t #[.str n tn, x] ∧ kvs[i]? = some (n, x)
  | [], [], [], _ => ⟨[], rfl, .nil, fun i v e => by simp at e⟩
  | v :: its, n :: ns, s :: ss, P => by
    obtain ⟨t, n', s', tn, ts, e1, ht, e2, e3⟩ := P.at_ 0 v rfl
    cases e2
    cases e3
    obtain ⟨kvs, h1, h2, h3⟩ := PrsAt.tabled (g := g) (its := its) (ns := ns) (ss := ss) ⟨by have := P.len; simp at this; omega, by have := P.len2; simp at this; omega, fun i v e => by
      obtain ⟨t, n, s, tn, ts, e1, ht, e2, e3⟩ := P.at_ (i + 1) v (by simpa using e)
      exact ⟨t, n, s, tn, ts, e1, ht, by simpa using e2, by simpa using e3⟩⟩
    refine ⟨(n, .int s ts) :: kvs, by simp [h1], .cons n s ts h2, fun i v' e => ?_⟩
    cases i with
    | zero => cases e; exact ⟨t, n, tn, _, e1, ht, rfl⟩
    | succ j => simpa using h3 j v' (by simpa using e)
  | [], [], _ :: _, P => by have := P.len2; simp at this
  | [], _ :: _, _, P => by have := P.len; simp at this
  | _ :: _, [], _, P => by have := P.len; simp at this
  | _ :: _, _ :: _, [], P => by have := P.len2; simp at this
section
variable {prog : Program} {w : World} {A : Around} {E : Value → Shared → Prop} {s : Shared} {L l : Addr} {g : Heap} {m : Str → Option Value} {news : List (Addr × Obj)} {its : List Value} {ns : List Str} {ss : List Int} {Q : Value → Shared → Prop}
theorem dict_pairs2 (FF : Fr g L s.heap m) (N : News g L s.heap news) (hbig : g.NoLimit) (hh : A.handled = none) (hl : PlainL g l its.toArray) (P : PrsAt g its ns ss) (hnd : ns.Nodup) (hz : its.length ≤ 100)
    (k : ∀ D h' tk o kvs, Fr g L h' m → News g L h' ((D, o) :: news) → (∀ p ∈ news, @LT.lt Nat _ p.1 D) → (D == sysModules) = false → o.IsDictOf (PySem.strKind prog w) kvs → Tabled kvs ns ss → Q (.ref D) { s with heap := h', toks := tk }) :
    wpAny (model prog w) A (call (.type "dict") [.ref l]) Q E s := by
  obtain ⟨kvs, h1, h2, h3⟩ := P.tabled
  obtain ⟨o, ho, hc, hn, n, hd⟩ := hl
  exact dict_pairs FF N hbig hh ho hc hn hd (by simpa using h1) (fun i v e => h3 i v (by simpa using e)) (h2.keys ▸ hnd) (by omega) fun D h' tk o' F' N' l' lo hd' => k D h' tk o' kvs F' N' l' lo hd' h2
variable {d : Addr} {o : Obj} {kvs : List (Str × Value)} {x : Str} {t : Tok}
theorem notin_tabled (N : News g L s.heap news) (hm : (d, o) ∈ news) (hd : o.IsDictOf (PySem.strKind prog w) kvs) (hp : Tabled kvs ns ss) (lo : (d == sysModules) = false) (h : Q (.bool (!decide (x ∈ ns))) { s with toks := s.toks + 1 }) :
    wpAny (model prog w) A (compareOp .NotIn (.str x t) (.ref d)) Q E s := notin_led (knd := PySem.strKind prog w) (k := x) (strKind_is _ _ _ _) N hm hd lo (by rw [hp.isSome]; exact h)
theorem item_tabled {value slice : PySem.Expr} (N : News g L s.heap news) (hm : (d, o) ∈ news) (hd : o.IsDictOf (PySem.strKind prog w) kvs) (hp : Tabled kvs ns ss) (hx : x ∈ ns) (h : ∀ t, Q (.int (swOf ns ss x) t) { s with toks := s.toks + 1 })
    (hs : subscripted slice false (.ref d) (.str x t) = operate [.ref d, .str x t] (getItem (.ref d) (.str x t)) := by with_unfolding_all rfl) :
    wpAny (model prog w) A (subscriptTail value slice (.ref d) (.str x t)) Q E s := by
  obtain ⟨t', ht⟩ := hp.at hx
  exact item_led (knd := PySem.strKind prog w) (k := x) (strKind_is _ _ _ _) N hm hd ht (h t') hs
end
end
section
noncomputable abbrev adrT (a : KA) (df lo : Addr) : List Addr := 172 :: df :: lo :: kAdr a
theorem off1_of {D : Addr} : ∀ {l : List (Addr × Obj)}, (∀ p ∈ l, p.1 ≠ D) → LCg.Off1 D l
  | [], _ => trivial
  | _ :: _, h => ⟨h _ List.mem_cons_self, off1_of fun p hp => h p (List.mem_cons_of_mem _ hp)⟩
/-- behind a call that changes nothing and makes one list -/
theorem call_new {g h h' : Heap} {L D : Addr} {m : Str → Option Value} {news : List (Addr × Obj)} {od : Obj} (F : Fr g L h m) (N : News g L h news) (k : ∀ b o, h.get? b = some o → h'.get? b = some o) (hD : h.get? D = none) (hd : h'.get? D = some od) :
    Fr g L h' m ∧ News g L h' ((D, od) :: news) ∧ LCg.Off1 D news := by
  refine ⟨F.keeps k, fun p hp => ?_, off1_of fun p hp e => ?_⟩
  · rcases List.mem_cons.mp hp with rfl | hp
    · refine ⟨hd, fun e => ?_, ?_⟩
      · obtain ⟨o, _, _, ho, _⟩ := F.ns
        rw [← show D = L from e, hD] at ho; cases ho
      · show g.get? D = none
        cases q : g.get? D with
        | none => rfl
        | some o => have := F.keep _ _ q; rw [hD] at this; cases this
    · exact ⟨k _ _ (N p hp).1, (N p hp).2⟩
  · have := (N p hp).1
    rw [e, hD] at this; cases this
theorem lc_nm5 {r : Int} (h0 : 0 ≤ r) (h1 : r < 5) : (Txt.item (Str.ofString "abcde") r).length ≤ 1000 ∧ PyData.strOk (Txt.item (Str.ofString "abcde") r) = true := by
  have : r = 0 ∨ r = 1 ∨ r = 2 ∨ r = 3 ∨ r = 4 := of5 h0 h1
  rcases this with rfl | rfl | rfl | rfl | rfl <;> decide +kernel
section
variable {prog : Program} {w : World} {A : Around} {E : Value → Shared → Prop} {s : Shared} {a b : Addr} {xs ys : Array Value} {Q : Value → Shared → Prop}
theorem ne_intsS {ns : List Int} (hl : s.heap.IsList a xs) (hl' : s.heap.IsList b ys) (hi : IntsAre xs.toList ns) (hi' : IntsAre ys.toList ns) (hu : A.units + 64 < cLine) (h : Q (.bool false) s) : wpAny (model prog w) A (compareOp .NotEq (.ref a) (.ref b)) Q E s :=
  ne_ints hl hl' hi hi' hu (by simpa using h)
theorem ne_strsS {ns : List Str} (hl : s.heap.IsList a xs) (hl' : s.heap.IsList b ys) (hi : StrsAre xs.toList ns) (hi' : StrsAre ys.toList ns) (hu : A.units + 64 < cLine) (k : ∀ n ∈ ns, PyData.strOk n = true) (h : Q (.bool false) s) : wpAny (model prog w) A (compareOp .NotEq (.ref a) (.ref b)) Q E s :=
  ne_strs hl hl' hi hi' hu k k (by simpa using h)
theorem ne_strs0 {ns : List Str} (hl : s.heap.IsList a xs) (hl' : s.heap.IsList b #[]) (hi : StrsAre xs.toList ns) (hu : A.units + 64 < cLine) (k : ∀ n ∈ ns, PyData.strOk n = true) (h : Q (.bool (!decide (ns = []))) s) : wpAny (model prog w) A (compareOp .NotEq (.ref a) (.ref b)) Q E s :=
  ne_strs hl hl' hi .nil hu k (fun _ h => nomatch h) h
theorem eq_intsS {ns : List Int} (hl : s.heap.IsList a xs) (hl' : s.heap.IsList b ys) (hi : IntsAre xs.toList ns) (hi' : IntsAre ys.toList ns) (hu : A.units + 64 < cLine) (h : Q (.bool true) s) : wpAny (model prog w) A (compareOp .Eq (.ref a) (.ref b)) Q E s :=
  eq_ints hl hl' hi hi' hu (by simpa using h)
end
theorem small12 {m : Nat} (h : m ≤ 12) : Builtin.Range.small 0 (m : Int) 1 = true ∧ Builtin.Range.rangeSize 0 (m : Int) 1 = ((m : Nat) : Int) :=
  ⟨PySem.small_one (by decide) (by decide) (by omega) (by omega), by rw [PyProof.Rows.rangeSize_nat, Int.sub_zero, Int.toNat_natCast]⟩
theorem News.less2 {g h : Heap} {L : Addr} {p q : Addr × Obj} {r : List (Addr × Obj)} (N : News g L h (p :: q :: r)) : News g L h r := fun x hx => N x (List.mem_cons_of_mem _ (List.mem_cons_of_mem _ hx))
theorem News.less1 {g h : Heap} {L : Addr} {p : Addr × Obj} {r : List (Addr × Obj)} (N : News g L h (p :: r)) : News g L h r := fun x hx => N x (List.mem_cons_of_mem _ hx)
/-- a mark: the entry that stands in for a lambda's code -/
noncomputable def Dum (_b0 : Addr) (_o0 : Obj) (_av : List Addr) : Prop := True
theorem cutAt {α : Type} {M : Model} {A : Around} {X : Sem α} {Q : α → Shared → Prop} {E : Value → Shared → Prop} {s : Shared} (P : α → Shared → Prop) (h1 : wpAny M A X P E s) (h2 : ∀ f s', P f s' → Q f s') : wpAny M A X Q E s := wpAny_mono h1 h2 fun _ _ e => e
theorem flownT {adr : List Addr} {l : List Env} {s0 g g' : Heap} (x : FlownA adr l s0 g) (T : KtsTurn (l.filterMap (·.frame)) g g') : FlownA adr l s0 g' :=
  ⟨fun b o e n nm => T.other b o (x.1 b o e n nm) nm, fun b o e hm d => by
    obtain ⟨sl, h1⟩ := x.2 b o e hm d
    obtain ⟨sl', h2⟩ := T.up h1
    exact ⟨sl', h2⟩⟩
section
variable {M : Model} {A : Around} {E : Value → Shared → Prop} {s : Shared} {h₀ : Heap} {L a c P : Addr} {m mg mb : Str → Option Value} {cn : Str} {cs : Scope} {ccd : Value} {cl : List (Str × Addr)} {news : List (Addr × Obj)} {g : Obj → List (Addr × Obj)}
  {p : Program} {loose : List Str} {mean : ExcName → Option Value} {name qual : Str} {params : Arguments} {body : Expr} {scope : Scope} {ps : Array Value} {pos : Pos} {clos : List (Str × Addr)} {b0 : Addr} {o0 : Obj} {av : List Addr}
/-- a lambda is made; its code stays in the ledger -/
theorem lam_keep {Q : Value → Shared → Prop} (F : Fr h₀ L s.heap m) (N : News h₀ L s.heap news) (T : Top p loose mean mg mb h₀) (C : CodeHd h₀ c P) (hcd : ccd = .ref c) (U : UpdF P (tabObj ps) news g) (ok : TabOk qual h₀ ps)
    (hcl : closureFor scope (envX cn cs L a ccd cl) = pure clos) (_D : Dum b0 o0 av) (hd0 : (b0, o0) ∈ news) (hav : ∀ b ∈ av, b ≠ b0 ∧ ∃ o, (b, o) ∈ news)
    (h : ∀ f c' ctv ps' h' tk cc oc, Fr h₀ L h' m → News h₀ L h' ((f, kla_obj "<lambda>" qual params body scope clos ((mg "__name__").getD .none) c' ctv) :: (cc, oc) :: g (tabObj ps')) →
      (∀ hx : Heap, (∀ b o vs, h₀.get? b = some o → o.data = .fields vs → hx.get? b = some o) → hx.get? cc = some oc → TabOk qual hx ps') → h'.CodeRec (.ref c') qual → (∀ q ∈ news, @LT.lt Nat _ q.1 f) → (@LT.lt Nat _ cc f) → (∀ b ∈ av, @Ne Nat cc b) → Q (.ref f) { s with heap := h', toks := tk })
    (hq : (envX cn cs L a ccd cl).qual ++ "<lambda>" = qual) (hdef : defaultsOf params (envX cn cs L a ccd cl) = ([], [])) :
    wpAny M A (eval (.Lambda params body scope pos) (envX cn cs L a ccd cl)) Q E s := by
  obtain ⟨own, rest, e, hg, h1, h2⟩ := U.split
  have hmem : (P, tabObj ps) ∈ news := e ▸ List.mem_append_right _ (.head _)
  have hgi : g (tabObj ps) = news := by rw [hg, e]
  refine kla_eval hdef ?_
  rw [hq]
  cases hf : codeAmong pos ps.toList with
  | none =>
    refine kla_nest (news := news) (g := g) (clos := clos) F N T C hcd U ok.tri hf hcl ?_
    intro f c' oc vs t ctv h' tk F' N' d1 d2 l1 l2
    have hc' := (N' (c', oc) (List.mem_cons_of_mem _ (List.mem_cons_self)))
    refine h f c' ctv (ps ++ #[rawInt pos.line, rawInt pos.col, .ref c']) h' tk c' oc F' N' (fun hx k1 k2 => ⟨?_, fun pos' v ev => ?_⟩) ⟨c', oc, vs, t, rfl, hc'.1, d1, d2⟩ (fun q hq => Nat.lt_trans (l1 q hq) l2) l2 (fun b hb => ?_)
    · rw [Array.toList_append]; exact TriplesOk_snoc _ _ _ _ ok.tri
    · rw [Array.toList_append] at ev
      rcases among_app _ ok.tri ev with ev | rfl
      · obtain ⟨c₂, o₂, v₂, t₂, e1, e2, e3, e4⟩ := ok.code pos' v ev
        exact ⟨c₂, o₂, v₂, t₂, e1, k1 _ _ _ e2 e3, e3, e4⟩
      · exact ⟨c', oc, vs, t, rfl, k2, d1, d2⟩
    · obtain ⟨_, o, hm⟩ := hav b hb
      exact Nat.ne_of_gt (l1 _ hm)
  | some v =>
    obtain ⟨c', oc, vs, t, rfl, e2, e3, e4⟩ := ok.code pos v hf
    refine kla_hit (news := news) (clos := clos) F N T C hcd hmem ok.tri hf hcl ?_
    intro f ctv h' tk F' N' l1
    refine h f c' ctv ps h' tk b0 o0 F' (fun q hq => ?_) (fun hx k1 _ => ok.move fun b o vs _ e hd _ => k1 b o vs e hd) ⟨c', oc, vs, t, rfl, F'.keep _ _ e2, e3, e4⟩ l1 (l1 _ hd0) (fun b hb e => (hav b hb).1 e.symm)
    rw [hgi] at hq
    rcases List.mem_cons.mp hq with rfl | hq
    · exact N' _ List.mem_cons_self
    · rcases List.mem_cons.mp hq with rfl | hq
      · exact N' _ (List.mem_cons_of_mem _ hd0)
      · exact N' _ (List.mem_cons_of_mem _ hq)
end
noncomputable abbrev MidP (A0 : Around) (base : Heap) (l : List Env) (L : Addr) (m : Str → Option Value) (adr : List Addr) (qual : Str) (s0 : Shared) (nw : Array Value → List (Addr × Obj)) (av : List Addr) (f : Flow) (s' : Shared) : Prop :=
  Done (fun _ s'' => f = .next ∧ ∃ g5 h5 tk5 ps5 cc occ, s'' = { s0 with heap := h5, toks := tk5 } ∧ Fr g5 L h5 m ∧ News g5 L h5 ((cc, occ) :: nw ps5) ∧ Below A0 base l g5 ∧ FlownA adr l s0.heap g5 ∧
    (∀ hx : Heap, (∀ b o vs, g5.get? b = some o → o.data = .fields vs → hx.get? b = some o) → hx.get? cc = some occ → TabOk qual hx ps5) ∧ ∀ b ∈ av, @Ne Nat cc b) .none s'
theorem cutMid {M : Model} {A A0 : Around} {X : Sem Flow} {Q : Flow → Shared → Prop} {E : Value → Shared → Prop} {s : Shared} {g base : Heap} {L : Addr} {m : Str → Option Value} {l : List Env} {adr av : List Addr} {qual : Str} {nw : Array Value → List (Addr × Obj)} (_F : Fr g L s.heap m) (s0 : Shared)
    (h1 : wpAny M A X (MidP A0 base l L m adr qual s0 nw av) E s)
    (h2 : ∀ g5 h5 tk5 ps5 cc occ, Fr g5 L h5 m → News g5 L h5 ((cc, occ) :: nw ps5) → Below A0 base l g5 → FlownA adr l s0.heap g5 → (∀ hx : Heap, (∀ b o vs, g5.get? b = some o → o.data = .fields vs → hx.get? b = some o) → hx.get? cc = some occ → TabOk qual hx ps5) → (∀ b ∈ av, @Ne Nat cc b) →
      Q .next { s0 with heap := h5, toks := tk5 }) : wpAny M A X Q E s := by
  refine cutAt _ h1 fun f s' h => ?_
  cases h with
  | mk h =>
    obtain ⟨rfl, g5, h5, tk5, ps5, cc, occ, rfl, F5, N5, B5, fl5, ok5, av5⟩ := h
    exact h2 g5 h5 tk5 ps5 cc occ F5 N5 B5 fl5 ok5 av5
theorem News.sub {g h : Heap} {L : Addr} {news sub : List (Addr × Obj)} (N : News g L h news) (hs : ∀ p ∈ sub, p ∈ news) : News g L h sub := fun p hp => N p (hs p hp)
theorem filt_all {nms names : List Str} (h : nms.filter (fun x => decide (x ∉ names)) = []) : ∀ x ∈ nms, x ∈ names := fun x hx => Decidable.byContradiction fun q => by
  have : x ∈ nms.filter (fun x => decide (x ∉ names)) := List.mem_filter.mpr ⟨hx, decide_eq_true q⟩
  rw [h] at this
  cases this
theorem filt_nil {nms names : List Str} (h : ∀ x ∈ nms, x ∈ names) : nms.filter (fun x => decide (x ∉ names)) = [] := List.filter_eq_nil_iff.mpr fun x hx => by simp [h x hx]
theorem filt_in {nms names : List Str} {x : Str} (h : x ∈ names) : (nms ++ [x]).filter (fun x => decide (x ∉ names)) = nms.filter (fun x => decide (x ∉ names)) := by simp [List.filter_append, h]
theorem filt_out {nms names : List Str} {x : Str} (h : x ∉ names) : (nms ++ [x]).filter (fun x => decide (x ∉ names)) = nms.filter (fun x => decide (x ∉ names)) ++ [x] := by simp [List.filter_append, h]
end
section
section
section
variable {K : Frag} {f : Addr} {oc od : Option Addr} {oc' : Value} {name qual : Str} {params : Arguments} {body : List Stmt} {scope : Scope} {dV kV doc pm cdv ct : Value} {an : Option Addr} {osl : Array (Option Value)}
noncomputable def bodyOf (_ : K.lookup f = some ⟨oc', od, .func (fnOf name qual params body scope dV kV doc pm an cdv ct), osl⟩) : List Stmt := body
noncomputable def envAt (_ : K.lookup f = some ⟨oc', od, .func (fnOf name qual params body scope dV kV doc pm an cdv ct), osl⟩) (L : Addr) : Env := envOfC qual scope L f cdv
end
noncomputable def b170 (P : Params) : List Stmt := bodyOf (K := hd.heap_39 P) (f := 170) (by k_is)
noncomputable def e170 (P : Params) : Addr → Env := envAt (K := hd.heap_39 P) (f := 170) (by k_is)
noncomputable def b175 (P : Params) : List Stmt := bodyOf (K := hd.heap_39 P) (f := 175) (by k_is)
noncomputable def e175 (P : Params) : Addr → Env := envAt (K := hd.heap_39 P) (f := 175) (by k_is)
end
section
example : True := by w_top off; trivial
local macro_rules | `(tactic| walk_at "x_pad0") => `(tactic| skip)
theorem na3 {sw : Int} (h : 3 ≤ sw ∧ sw < 3 + 6 ∨ -(3 + 6) < sw ∧ sw ≤ -3) : 3 ≤ sw.natAbs := by
  rcases h with ⟨a, _⟩ | ⟨_, b⟩
  · exact Int.ofNat_le.mp (Int.le_trans a Int.le_natAbs)
  · exact Int.ofNat_le.mp (Int.le_trans (Int.le_neg_of_le_neg b) (Int.natAbs_neg sw ▸ Int.le_natAbs))
theorem less_at {a b : Nat} {x rr : Int} (h : x = a) (e : a = b) (h0 : 0 ≤ rr) (h1 : rr ≤ x) : (x - rr).toNat = b - rr.toNat := by
  subst h e
  exact subT h0
noncomputable def LedT (prog : Program) (w : World) (base : Heap) (l : List Env) (dp : Nat) (un : Nat) (gd : Option (List Code)) (s : Shared) (p : Program) (loose : List Str) (mean : ExcName → Option Value) (mg : Str → Option Value) (mb : Str → Option Value) (a : KA) (d : KD) (k : KS) (names : List Str) (sws : List Int) (floors : List Int) (df : Addr) (lc : Addr) (lo : Addr) (lp : Addr) (lq : Addr) (no : Nat) (its : List Value) (fvs : List Value) (fo : Obj) (tk : Tok) (ki : Int) (cv : List Value) (ns : List Int) (ps : Array Value) (R9 : Result → Shared → Prop) (E9 : Value → Shared → Prop) (g' : Heap) (L' : Addr) (h' : Heap) (tk' : Nat) (oc1 : Obj) (oc2 : Obj) (oc3 : Obj) (oc4 : Obj) : Prop :=
  ∀ (hprog : (prog.main.file : Str) = "/claim/cut.py"),
  ∀ (hsup : (prog.main.scope.names.lookup ("super" : Str)).isSome = false),
  ∀ (X : (hd.heap_39 w.params).In base),
  ∀ (T : Top p loose mean mg mb base),
  ∀ (hdp : dp ≤ 400),
  ∀ (hun : un ≤ 800),
  ∀ (h172 : @LT.lt Nat _ 172 df),
  ∀ (h1 : @LT.lt Nat _ df a.dk),
  ∀ (h2 : @LT.lt Nat _ a.ps lo),
  ∀ (o : Off base l (adrL a df lo)),
  ∀ (hf : feedIs prog w lc ki tk fo),
  ∀ (hi : IntsAre cv ns),
  ∀ (hlen : ns.length ≤ 63),
  ∀ (hne : 0 < ns.length),
  ∀ (hk0 : 0 ≤ ki),
  ∀ (hk : ki ≤ 900),
  ∀ (I : Inv names sws floors),
  ∀ (hn50 : names.length ≤ 50),
  ∀ (hf50 : floors.length ≤ 50),
  ∀ (ret : ∀ h' fo' ps' k' tk' tk2 names' sws' floors', FlownA (adrL a df lo) l s.heap h' → h'.get? df = some fo' → feedIs prog w lc k' tk2 fo' → ki ≤ k' → k' ≤ ki + 10 → h'.get? 167 = some (tabObj ps') → TabOk "_law_is_led.<locals>.<lambda>" h' ps' →
      KAt prog w a d names' sws' floors' h' → OwnAt h' (172 :: adrL a df lo) lo names' sws' floors' → Inv names' sws' floors' → names'.length ≤ names.length + 1 → floors'.length ≤ floors.length + 1 → R9 (.ok (.ret (.bool true))) { s with heap := h', toks := tk' }),
  ∀ (OO : a.Ord),
  ∀ (odf : Off base l [df]),
  ∀ (h0 : @LT.lt Nat _ 167 df),
  ∀ (PA : PrsAt s.heap its names sws),
  ∀ (hfv : IntsAre fvs floors),
  ∀ (sp : lp ∉ 172 :: adrL a df lo),
  ∀ (sq : lq ∉ 172 :: adrL a df lo),
  ∀ (st : ∀ t, Value.ref t ∈ its → t ∉ 172 :: adrL a df lo),
  ∀ (R : KRep prog w k names sws floors),
  ∀ (adr0 : ∀ b, b ∈ ([(167, tabObj ps), (df, fo)] ++ kLed a d k ++ [(lo, listOf #[.ref lp, .ref lq] no)]).map (·.1) ↔ b ∈ adrL a df lo),
  ∀ (F' : Fr g' L' h' (bindL (e170 w.params L').kindOf [("feed", .ref df), ("kept", .ref a.ik), ("own", .ref lo)] fun _ => none)),
  ∀ (N' : News g' L' h' ((L' + 1 + 1 + 1 + 1, oc4) :: (L' + 1 + 1 + 1, oc3) :: (L' + 1 + 1, oc2) :: (L' + 1, oc1) :: (167, tabObj ps) :: (df, fo) :: (a.ik, instObj 140 a.dk) :: (a.dk, kDict a d) :: (a.ll, listOf k.lv k.nl) :: (a.ls, listOf k.sv k.ns) :: (a.lf, listOf k.fv k.nf) :: (a.pn, k.opn) :: (a.ps, k.ops) :: [(lo, listOf #[.ref lp, .ref lq] no)])),
  ∀ (B' : Below (mkA dp un gd l) base l g'),
  ∀ (X' : (hd.heap_39 w.params).In g'),
  ∀ (T' : Top p loose mean mg mb g'),
  ∀ (kG' : Kept s.heap g' (([(167, tabObj ps), (df, fo)] ++ kLed a d k ++ [(lo, listOf #[.ref lp, .ref lq] no)]).map (·.1))),
  ∀ (nL : ∀ b, @LE.le Nat _ L' b → s.heap.get? b = none),
  ∀ (hlc' : lc ≠ df),
  ∀ (hl' : g'.IsList lc cv.toArray),
  ∀ (hlp' : g'.IsList lp its.toArray),
  ∀ (hlpP' : PlainL g' lp its.toArray),
  ∀ (hlq' : g'.IsList lq fvs.toArray),
  ∀ (PA' : PrsAt g' its names sws),
  ∀ (C' : CodeHd g' 169 167),
  ∀ (ok' : TabOk "_law_is_led.<locals>.<lambda>" g' ps),
  ∀ (l1 : @LT.lt Nat _ 167 L' ∧ @LT.lt Nat _ df L' ∧ @LT.lt Nat _ a.ik L' ∧ @LT.lt Nat _ a.dk L' ∧ @LT.lt Nat _ a.ll L' ∧ @LT.lt Nat _ a.ls L' ∧ @LT.lt Nat _ a.lf L' ∧ @LT.lt Nat _ a.pn L' ∧ @LT.lt Nat _ a.ps L' ∧ @LT.lt Nat _ lo L'),
  ∀ (dc4 : oc4.data = Data.cell (bindC (e170 w.params L').kindOf [("feed", .ref df), ("kept", .ref a.ik), ("own", .ref lo)] (fun _ => none) (Str.ofString "switch"))),
  ∀ (dc3 : oc3.data = Data.cell (bindC (e170 w.params L').kindOf [("feed", .ref df), ("kept", .ref a.ik), ("own", .ref lo)] (fun _ => none) (Str.ofString "name"))),
  ∀ (dc2 : oc2.data = Data.cell (bindC (e170 w.params L').kindOf [("feed", .ref df), ("kept", .ref a.ik), ("own", .ref lo)] (fun _ => none) (Str.ofString "many"))),
  ∀ (dc1 : oc1.data = Data.cell (bindC (e170 w.params L').kindOf [("feed", .ref df), ("kept", .ref a.ik), ("own", .ref lo)] (fun _ => none) (Str.ofString "kept"))),
  wpAny (model prog w) ((mkA dp un gd l).deeper (e170 w.params L')) (execs (b170 w.params) (e170 w.params L')) (fun fl s' => Done R9 (match fl with | .ret v => v | _ => .none) s') E9 { s with heap := h', toks := tk' }
namespace LedTC
noncomputable abbrev V := Program × World × Heap × (List Env) × Nat × Nat × (Option (List Code)) × Shared × Program × (List Str) × (ExcName → Option Value) × (Str → Option Value) × (Str → Option Value) × KA × KD × KS × (List Str) × (List Int) × (List Int) × Addr × Addr × Addr × Addr × Addr × Nat × (List Value) × (List Value) × Obj × Tok × Int × (List Value) × (List Int) × (Array Value) × (Result → Shared → Prop) × (Value → Shared → Prop) × Heap × Addr × Heap × Nat × Obj × Obj × Obj × Obj
theorem ne : Nonempty V := by
  have := neW
  have := neS
  have := neA
  have := neD
  have := neK
  have := neR
  repeat (refine @instNonemptyProd _ _ ?_ ?_; · first | assumption | infer_instance)
  first | assumption | infer_instance
noncomputable def v : V := @Classical.epsilon V ne fun v => ¬ LedT v.1 v.2.1 v.2.2.1 v.2.2.2.1 v.2.2.2.2.1 v.2.2.2.2.2.1 v.2.2.2.2.2.2.1 v.2.2.2.2.2.2.2.1 v.2.2.2.2.2.2.2.2.1 v.2.2.2.2.2.2.2.2.2.1 v.2.2.2.2.2.2.2.2.2.2.1 v.2.2.2.2.2.2.2.2.2.2.2.1 v.2.2.2.2.2.2.2.2.2.2.2.2.1 v.2.2.2.2.2.2.2.2.2.2.2.2.2.1 v.2.2.2.2.2.2.2.2.2.2.2.2.2.2.1 v.2.2.2.2.2.2.2.2.2.2.2.2.2.2.2.1 v.2.2.2.2.2.2.2.2.2.2.2.2.2.2.2.2.1 v.2.2.2.2.2.2.2.2.2.2.2.2.2.2.2.2.2.1 v.2.2.2.2.2.2.2.2.2.2.2.2.2.2.2.2.2.2.1 v.2.2.2.2.2.2.2.2.2.2.2.2.2.2.2.2.2.2.2.1 v.2.2.2.2.2.2.2.2.2.2.2.2.2.2.2.2.2.2.2.2.1 v.2.2.2.2.2.2.2.2.2.2.2.2.2.2.2.2.2.2.2.2.2.1 v.2.2.2.2.2.2.2.2.2.2.2.2.2.2.2.2.2.2.2.2.2.2.1 v.2.2.2.2.2.2.2.2.2.2.2.2.2.2.2.2.2.2.2.2.2.2.2.1 v.2.2.2.2.2.2.2.2.2.2.2.2.2.2.2.2.2.2.2.2.2.2.2.2.1 v.2.2.2.2.2.2.2.2.2.2.2.2.2.2.2.2.2.2.2.2.2.2.2.2.2.1 v.2.2.2.2.2.2.2.2.2.2.2.2.2.2.2.2.2.2.2.2.2.2.2.2.2.2.1 v.2.2.2.2.2.2.2.2.2.2.2.2.2.2.2.2.2.2.2.2.2.2.2.2.2.2.2.1 v.2.2.2.2.2.2.2.2.2.2.2.2.2.2.2.2.2.2.2.2.2.2.2.2.2.2.2.2.1 v.2.2.2.2.2.2.2.2.2.2.2.2.2.2.2.2.2.2.2.2.2.2.2.2.2.2.2.2.2.1 v.2.2.2.2.2.2.2.2.2.2.2.2.2.2.2.2.2.2.2.2.2.2.2.2.2.2.2.2.2.2.1 v.2.2.2.2.2.2.2.2.2.2.2.2.2.2.2.2.2.2.2.2.2.2.2.2.2.2.2.2.2.2.2.1 v.2.2.2.2.2.2.2.2.2.2.2.2.2.2.2.2.2.2.2.2.2.2.2.2.2.2.2.2.2.2.2.2.1 v.2.2.2.2.2.2.2.2.2.2.2.2.2.2.2.2.2.2.2.2.2.2.2.2.2.2.2.2.2.2.2.2.2.1 v.2.2.2.2.2.2.2.2.2.2.2.2.2.2.2.2.2.2.2.2.2.2.2.2.2.2.2.2.2.2.2.2.2.2.1 v.2.2.2.2.2.2.2.2.2.2.2.2.2.2.2.2.2.2.2.2.2.2.2.2.2.2.2.2.2.2.2.2.2.2.2.1 v.2.2.2.2.2.2.2.2.2.2.2.2.2.2.2.2.2.2.2.2.2.2.2.2.2.2.2.2.2.2.2.2.2.2.2.2.1 v.2.2.2.2.2.2.2.2.2.2.2.2.2.2.2.2.2.2.2.2.2.2.2.2.2.2.2.2.2.2.2.2.2.2.2.2.2.1 v.2.2.2.2.2.2.2.2.2.2.2.2.2.2.2.2.2.2.2.2.2.2.2.2.2.2.2.2.2.2.2.2.2.2.2.2.2.2.1 v.2.2.2.2.2.2.2.2.2.2.2.2.2.2.2.2.2.2.2.2.2.2.2.2.2.2.2.2.2.2.2.2.2.2.2.2.2.2.2.1 v.2.2.2.2.2.2.2.2.2.2.2.2.2.2.2.2.2.2.2.2.2.2.2.2.2.2.2.2.2.2.2.2.2.2.2.2.2.2.2.2.1 v.2.2.2.2.2.2.2.2.2.2.2.2.2.2.2.2.2.2.2.2.2.2.2.2.2.2.2.2.2.2.2.2.2.2.2.2.2.2.2.2.2.1 v.2.2.2.2.2.2.2.2.2.2.2.2.2.2.2.2.2.2.2.2.2.2.2.2.2.2.2.2.2.2.2.2.2.2.2.2.2.2.2.2.2.2
@[irreducible] noncomputable def prog : Program := v.1
@[irreducible] noncomputable def w : World := v.2.1
@[irreducible] noncomputable def base : Heap := v.2.2.1
@[irreducible] noncomputable def l : List Env := v.2.2.2.1
@[irreducible] noncomputable def dp : Nat := v.2.2.2.2.1
@[irreducible] noncomputable def un : Nat := v.2.2.2.2.2.1
@[irreducible] noncomputable def gd : Option (List Code) := v.2.2.2.2.2.2.1
@[irreducible] noncomputable def s : Shared := v.2.2.2.2.2.2.2.1
@[irreducible] noncomputable def p : Program := v.2.2.2.2.2.2.2.2.1
@[irreducible] noncomputable def loose : List Str := v.2.2.2.2.2.2.2.2.2.1
@[irreducible] noncomputable def mean : ExcName → Option Value := v.2.2.2.2.2.2.2.2.2.2.1
@[irreducible] noncomputable def mg : Str → Option Value := v.2.2.2.2.2.2.2.2.2.2.2.1
@[irreducible] noncomputable def mb : Str → Option Value := v.2.2.2.2.2.2.2.2.2.2.2.2.1
@[irreducible] noncomputable def a : KA := v.2.2.2.2.2.2.2.2.2.2.2.2.2.1
@[irreducible] noncomputable def d : KD := v.2.2.2.2.2.2.2.2.2.2.2.2.2.2.1
@[irreducible] noncomputable def k : KS := v.2.2.2.2.2.2.2.2.2.2.2.2.2.2.2.1
@[irreducible] noncomputable def names : List Str := v.2.2.2.2.2.2.2.2.2.2.2.2.2.2.2.2.1
@[irreducible] noncomputable def sws : List Int := v.2.2.2.2.2.2.2.2.2.2.2.2.2.2.2.2.2.1
@[irreducible] noncomputable def floors : List Int := v.2.2.2.2.2.2.2.2.2.2.2.2.2.2.2.2.2.2.1
@[irreducible] noncomputable def df : Addr := v.2.2.2.2.2.2.2.2.2.2.2.2.2.2.2.2.2.2.2.1
@[irreducible] noncomputable def lc : Addr := v.2.2.2.2.2.2.2.2.2.2.2.2.2.2.2.2.2.2.2.2.1
@[irreducible] noncomputable def lo : Addr := v.2.2.2.2.2.2.2.2.2.2.2.2.2.2.2.2.2.2.2.2.2.1
@[irreducible] noncomputable def lp : Addr := v.2.2.2.2.2.2.2.2.2.2.2.2.2.2.2.2.2.2.2.2.2.2.1
@[irreducible] noncomputable def lq : Addr := v.2.2.2.2.2.2.2.2.2.2.2.2.2.2.2.2.2.2.2.2.2.2.2.1
@[irreducible] noncomputable def no : Nat := v.2.2.2.2.2.2.2.2.2.2.2.2.2.2.2.2.2.2.2.2.2.2.2.2.1
@[irreducible] noncomputable def its : List Value := v.2.2.2.2.2.2.2.2.2.2.2.2.2.2.2.2.2.2.2.2.2.2.2.2.2.1
@[irreducible] noncomputable def fvs : List Value := v.2.2.2.2.2.2.2.2.2.2.2.2.2.2.2.2.2.2.2.2.2.2.2.2.2.2.1
@[irreducible] noncomputable def fo : Obj := v.2.2.2.2.2.2.2.2.2.2.2.2.2.2.2.2.2.2.2.2.2.2.2.2.2.2.2.1
@[irreducible] noncomputable def tk : Tok := v.2.2.2.2.2.2.2.2.2.2.2.2.2.2.2.2.2.2.2.2.2.2.2.2.2.2.2.2.1
@[irreducible] noncomputable def ki : Int := v.2.2.2.2.2.2.2.2.2.2.2.2.2.2.2.2.2.2.2.2.2.2.2.2.2.2.2.2.2.1
@[irreducible] noncomputable def cv : List Value := v.2.2.2.2.2.2.2.2.2.2.2.2.2.2.2.2.2.2.2.2.2.2.2.2.2.2.2.2.2.2.1
@[irreducible] noncomputable def ns : List Int := v.2.2.2.2.2.2.2.2.2.2.2.2.2.2.2.2.2.2.2.2.2.2.2.2.2.2.2.2.2.2.2.1
@[irreducible] noncomputable def ps : Array Value := v.2.2.2.2.2.2.2.2.2.2.2.2.2.2.2.2.2.2.2.2.2.2.2.2.2.2.2.2.2.2.2.2.1
@[irreducible] noncomputable def R9 : Result → Shared → Prop := v.2.2.2.2.2.2.2.2.2.2.2.2.2.2.2.2.2.2.2.2.2.2.2.2.2.2.2.2.2.2.2.2.2.1
@[irreducible] noncomputable def E9 : Value → Shared → Prop := v.2.2.2.2.2.2.2.2.2.2.2.2.2.2.2.2.2.2.2.2.2.2.2.2.2.2.2.2.2.2.2.2.2.2.1
@[irreducible] noncomputable def g' : Heap := v.2.2.2.2.2.2.2.2.2.2.2.2.2.2.2.2.2.2.2.2.2.2.2.2.2.2.2.2.2.2.2.2.2.2.2.1
@[irreducible] noncomputable def L' : Addr := v.2.2.2.2.2.2.2.2.2.2.2.2.2.2.2.2.2.2.2.2.2.2.2.2.2.2.2.2.2.2.2.2.2.2.2.2.1
@[irreducible] noncomputable def h' : Heap := v.2.2.2.2.2.2.2.2.2.2.2.2.2.2.2.2.2.2.2.2.2.2.2.2.2.2.2.2.2.2.2.2.2.2.2.2.2.1
@[irreducible] noncomputable def tk' : Nat := v.2.2.2.2.2.2.2.2.2.2.2.2.2.2.2.2.2.2.2.2.2.2.2.2.2.2.2.2.2.2.2.2.2.2.2.2.2.2.1
@[irreducible] noncomputable def oc1 : Obj := v.2.2.2.2.2.2.2.2.2.2.2.2.2.2.2.2.2.2.2.2.2.2.2.2.2.2.2.2.2.2.2.2.2.2.2.2.2.2.2.1
@[irreducible] noncomputable def oc2 : Obj := v.2.2.2.2.2.2.2.2.2.2.2.2.2.2.2.2.2.2.2.2.2.2.2.2.2.2.2.2.2.2.2.2.2.2.2.2.2.2.2.2.1
@[irreducible] noncomputable def oc3 : Obj := v.2.2.2.2.2.2.2.2.2.2.2.2.2.2.2.2.2.2.2.2.2.2.2.2.2.2.2.2.2.2.2.2.2.2.2.2.2.2.2.2.2.1
@[irreducible] noncomputable def oc4 : Obj := v.2.2.2.2.2.2.2.2.2.2.2.2.2.2.2.2.2.2.2.2.2.2.2.2.2.2.2.2.2.2.2.2.2.2.2.2.2.2.2.2.2.2
set_option maxHeartbeats 8000000 in
theorem holds : LedT prog w base l dp un gd s p loose mean mg mb a d k names sws floors df lc lo lp lq no its fvs fo tk ki cv ns ps R9 E9 g' L' h' tk' oc1 oc2 oc3 oc4 := by
  intro hprog hsup X T hdp hun h172 h1 h2 o hf hi hlen hne hk0 hk I hn50 hf50 ret OO odf h0 PA hfv sp sq st R adr0 F' N' B' X' T' kG' nL hlc' hl' hlp' hlpP' hlq' PA' C' ok' l1 dc4 dc3 dc2 dc1
  obtain ⟨fb0, fb1, fb2, fb3, fb4, fb5, fb6, fb7, fb8, fb9, fb10, fb11, fb12, fb13, fb14, fb15, fb16, fb17, fb18, fb19, fb20, fb21, fb22, fb23, fb24, fb25, fb26, fb27, fb28, fb29, fb30, fb31, fb32, fb33, fb34, fb35, fb36, fb37, fb38, fb39, fb40, fb41, fb42, fb43, fb44, fb45, fb46, fb47, fb48, fb49, fb50, fb51, fb52, fb53, fb54⟩ := tPairs OO h172 h1 h2
  obtain ⟨o1, o2, o3, o4, o5, o6, n1, n2⟩ := OO
  have OO : a.Ord := ⟨o1, o2, o3, o4, o5, o6, n1, n2⟩
  obtain ⟨fc0, fc1, fc2, fc3, fc4, fc5, fc6, fc7, fc8, fc9, fc10, fc11, fc12, fc13, fc14, fc15, fc16, fc17, fc18, fc19, fc20, fc21, fc22, fc23, fc24, fc25, fc26, fc27, fc28, fc29, fc30, fc31, fc32, fc33, fc34, fc35, fc36, fc37, fc38, fc39, fc40, fc41, fc42, fc43, fc44, fc45⟩ := cells4 l1
  delta e170 b170 bodyOf envAt at F' dc1 dc2 dc3 dc4 ⊢
  try dsimp only at F' dc1 dc2 dc3 dc4 ⊢
  --HEAD--
  have hz1 : its.length ≤ 50 := by rw [PA.len]; exact hn50
  have hz2 : fvs.length ≤ 50 := by rw [hfv.length]; exact hf50
  have hs1 : its.toArray.size = its.length := by simp
  have hs2 : fvs.toArray.size = fvs.length := by simp
  have hs3 := hfv.length
  have hs4 := PA.len
  have hfl0 : ∀ j : Nat, (0 : Int) ≤ floors.getD j 0 := fun j => by
    by_cases hj : j < floors.length
    · have e : floors.getD j 0 = floors[j] := by simp [hj]
      rw [e]; exact I.fo.lo _ (List.getElem_mem hj)
    · have e : floors.getD j 0 = 0 := by simp [List.getD, List.getElem?_eq_none (Nat.not_lt.mp hj)]
      rw [e]; exact Int.le_refl _
  (repeat' (first | (first | ((with_reducible first | (rename Gets _ _ => gQ'; refine at_of gQ' ?_; clear gQ'; try (rename (_ → Shared → Prop) => qQ'; clear qQ')) | refine at_of (by assumption) ?_); (try dsimp only)) | (with_reducible (first | refine s_exec ?_ | refine s_comp ?_); (with_reducible ((fail_if_success (refine s_at ?_)); refine cutX ?_; intro _ _)))) | (k_here; (with_reducible show wpAny _ _ (subscriptTail _ (PySem.Expr.Slice none _ none _) (Value.ref _) (Value.ref _)) _ _ _); k_dflt (refine slice_upto (by k_asm) (by k_asm) (by kmk_list) (by first | omega | exact (by assumption : ∀ j : Nat, (0 : Int) ≤ List.getD _ j 0) _) ?_ (by with_unfolding_all rfl) (by kmk_pure) (by (simp only [List.size_toArray, sizeLine_eq]; omega))); intro _ _ _ _ l1zz; (try k_lt l1zz); (try k_sweep)) | (k_here; (with_reducible show wpAny _ _ (compareOp CmpOp.Eq (Value.ref _) (Value.ref _)) _ _ _); k_dflt (refine eq_nil (isL (by k_asm) (by k_mem)) (isL (by k_asm) (by k_mem)) (by (simp only [Around.deeper_units, mkA, cLine]; omega)) ?_)) | (k_here; (rename Mine.FreeTo _ _ _ _ _ => hMzz); (with_reducible show wpAny _ _ (binaryOp _ (Value.ref _) (Value.ref _)) _ _ _); k_dflt (refine add_gen (by k_asm) (by k_asm) (by kmk_list) (by kmk_list) ?_ (by (simp only [sizeLine_eq, List.length_cons, List.length_nil]; omega))); intro _ _ _ _ l1zz; (try k_lt l1zz); (try k_sweep)) | ((with_reducible show wpAny _ _ (eval (Expr.Lambda _ _ _ _) _) _ _ _); (k_here; k_dflt (refine lam_any (by k_asm) (by k_asm) (by k_asm) (by assumption) (by exact rfl) (by k_updF) (by assumption) (by with_unfolding_all exact rfl) ?_ (by with_unfolding_all exact rfl) (by exact rfl); k_whole); intro _ _ _ _ _ _ _ Nzz _ _ l1zz; (try dsimp only at Nzz); (try k_lt l1zz))) | (k_here; (with_reducible show wpAny _ _ (call (Value.ref 158) [Value.ref _, Value.int _ _]) _ _ _); k_dflt (refine literal_use X T (by assumption) (by k_asm) (by k_asm) (by k_updF) (by assumption) (by assumption) (by assumption) (by assumption) (by assumption) (by assumption) (by assumption) (by omega) (by omega) (by omega) (by omega) (by omega) ?_); intro _ _ _ _ _ _ _ _ _ _; (try k_sweep)) | (k_here; (with_reducible show wpAny _ _ (call (Value.ref 151) [Value.ref _, Value.int _ _]) _ _ _); k_dflt (refine draw_use X T (by assumption) (by k_asm) (by k_asm) (by k_updF) (by assumption) (by assumption) (by assumption) (by assumption) (by assumption) (by assumption) (by assumption) (by omega) (by omega) (by omega) (by omega) (by omega) ?_); intro _ _ _ _ _ _ _ _ _ _ _; (try k_sweep)) | (k_here; (with_reducible show wpAny _ _ (call (Value.builtin "len") [Value.ref _]) _ _ _); k_dflt (refine len_base (by k_asm) (by assumption) (by first | size_fits | (simp only [List.size_toArray]; omega)) ?_; k_whole)) | ((fail_if_success (with_reducible refine s_if ?_)); ((fail_if_success (with_reducible first | refine s_done ?_ | refine s_iter ?_ | refine s_tpost ?_ | refine s_while ?_ | refine s_call (by decide) ?_ | refine s_ifexp ?_ | refine s_cend ?_ | refine s_comp ?_ | refine s_srcT ?_ | refine s_src ?_)); (first | (k_unfold; (try dsimp only)) | (k_end; wrow_close) | walk1 | (dsimp only; walk1) | (leave1; walk_say "STEP leave1"; try dsimp only))))))
  walk1
  (repeat' (first | (first | ((with_reducible first | (rename Gets _ _ => gQ'; refine at_of gQ' ?_; clear gQ'; try (rename (_ → Shared → Prop) => qQ'; clear qQ')) | refine at_of (by assumption) ?_); (try dsimp only)) | (with_reducible (first | refine s_exec ?_ | refine s_comp ?_); (with_reducible ((fail_if_success (refine s_at ?_)); refine cutX ?_; intro _ _)))) | (k_here; (with_reducible show wpAny _ _ (subscriptTail _ (PySem.Expr.Slice none _ none _) (Value.ref _) (Value.ref _)) _ _ _); k_dflt (refine slice_upto (by k_asm) (by k_asm) (by kmk_list) (by first | omega | exact (by assumption : ∀ j : Nat, (0 : Int) ≤ List.getD _ j 0) _) ?_ (by with_unfolding_all rfl) (by kmk_pure) (by (simp only [List.size_toArray, sizeLine_eq]; omega))); intro _ _ _ _ l1zz; (try k_lt l1zz); (try k_sweep)) | (k_here; (with_reducible show wpAny _ _ (compareOp CmpOp.Eq (Value.ref _) (Value.ref _)) _ _ _); k_dflt (refine eq_nil (isL (by k_asm) (by k_mem)) (isL (by k_asm) (by k_mem)) (by (simp only [Around.deeper_units, mkA, cLine]; omega)) ?_)) | (k_here; (rename Mine.FreeTo _ _ _ _ _ => hMzz); (with_reducible show wpAny _ _ (binaryOp _ (Value.ref _) (Value.ref _)) _ _ _); k_dflt (refine add_gen (by k_asm) (by k_asm) (by kmk_list) (by kmk_list) ?_ (by (simp only [sizeLine_eq, List.length_cons, List.length_nil]; omega))); intro _ _ _ _ l1zz; (try k_lt l1zz); (try k_sweep)) | ((with_reducible show wpAny _ _ (eval (Expr.Lambda _ _ _ _) _) _ _ _); (k_here; k_dflt (refine lam_any (by k_asm) (by k_asm) (by k_asm) (by assumption) (by exact rfl) (by k_updF) (by assumption) (by with_unfolding_all exact rfl) ?_ (by with_unfolding_all exact rfl) (by exact rfl); k_whole); intro _ _ _ _ _ _ _ Nzz _ _ l1zz; (try dsimp only at Nzz); (try k_lt l1zz))) | (k_here; (with_reducible show wpAny _ _ (call (Value.ref 158) [Value.ref _, Value.int _ _]) _ _ _); k_dflt (refine literal_use X T (by assumption) (by k_asm) (by k_asm) (by k_updF) (by assumption) (by assumption) (by assumption) (by assumption) (by assumption) (by assumption) (by assumption) (by omega) (by omega) (by omega) (by omega) (by omega) ?_); intro _ _ _ _ _ _ _ _ _ _; (try k_sweep)) | (k_here; (with_reducible show wpAny _ _ (call (Value.ref 151) [Value.ref _, Value.int _ _]) _ _ _); k_dflt (refine draw_use X T (by assumption) (by k_asm) (by k_asm) (by k_updF) (by assumption) (by assumption) (by assumption) (by assumption) (by assumption) (by assumption) (by assumption) (by omega) (by omega) (by omega) (by omega) (by omega) ?_); intro _ _ _ _ _ _ _ _ _ _ _; (try k_sweep)) | (k_here; (with_reducible show wpAny _ _ (call (Value.builtin "len") [Value.ref _]) _ _ _); k_dflt (refine len_base (by k_asm) (by assumption) (by first | size_fits | (simp only [List.size_toArray]; omega)) ?_; k_whole)) | ((fail_if_success (with_reducible refine s_if ?_)); ((fail_if_success (with_reducible first | refine s_done ?_ | refine s_iter ?_ | refine s_tpost ?_ | refine s_while ?_ | refine s_call (by decide) ?_ | refine s_ifexp ?_ | refine s_cend ?_ | refine s_comp ?_ | refine s_srcT ?_ | refine s_src ?_)); (first | (k_unfold; (try dsimp only)) | (k_end; wrow_close) | walk1 | (dsimp only; walk1) | (leave1; walk_say "STEP leave1"; try dsimp only))))))
  · rename (_ < (4 : Int)) => hr4
    have hnm := lc_nm (by assumption) hr4
    generalize Txt.item (Str.ofString "abcd") _ = x at *
    rename Int => sw
    refine PyProof.Rows.LCt.ListComp_T (F₀ := by k_asm) (by with_unfolding_all rfl) (by decide) (by rfl) (by decide) (by rfl) ?_
    (repeat' (first | (first | ((with_reducible first | (rename Gets _ _ => gQ'; refine at_of gQ' ?_; clear gQ'; try (rename (_ → Shared → Prop) => qQ'; clear qQ')) | refine at_of (by assumption) ?_); (try dsimp only)) | (with_reducible (first | refine s_exec ?_ | refine s_comp ?_); (with_reducible ((fail_if_success (refine s_at ?_)); refine cutX ?_; intro _ _)))) | (k_here; (with_reducible show wpAny _ _ (subscriptTail _ (PySem.Expr.Slice none _ none _) (Value.ref _) (Value.ref _)) _ _ _); k_dflt (refine slice_upto (by k_asm) (by k_asm) (by kmk_list) (by first | omega | exact (by assumption : ∀ j : Nat, (0 : Int) ≤ List.getD _ j 0) _) ?_ (by with_unfolding_all rfl) (by kmk_pure) (by (simp only [List.size_toArray, sizeLine_eq]; omega))); intro _ _ _ _ l1zz; (try k_lt l1zz); (try k_sweep)) | (k_here; (with_reducible show wpAny _ _ (compareOp CmpOp.Eq (Value.ref _) (Value.ref _)) _ _ _); k_dflt (refine eq_nil (isL (by k_asm) (by k_mem)) (isL (by k_asm) (by k_mem)) (by (simp only [Around.deeper_units, mkA, cLine]; omega)) ?_)) | (k_here; (rename Mine.FreeTo _ _ _ _ _ => hMzz); (with_reducible show wpAny _ _ (binaryOp _ (Value.ref _) (Value.ref _)) _ _ _); k_dflt (refine add_gen (by k_asm) (by k_asm) (by kmk_list) (by kmk_list) ?_ (by (simp only [sizeLine_eq, List.length_cons, List.length_nil]; omega))); intro _ _ _ _ l1zz; (try k_lt l1zz); (try k_sweep)) | ((with_reducible show wpAny _ _ (eval (Expr.Lambda _ _ _ _) _) _ _ _); (k_here; k_dflt (refine lam_any (by k_asm) (by k_asm) (by k_asm) (by assumption) (by exact rfl) (by k_updF) (by assumption) (by with_unfolding_all exact rfl) ?_ (by with_unfolding_all exact rfl) (by exact rfl); k_whole); intro _ _ _ _ _ _ _ Nzz _ _ l1zz; (try dsimp only at Nzz); (try k_lt l1zz))) | (k_here; (with_reducible show wpAny _ _ (call (Value.ref 158) [Value.ref _, Value.int _ _]) _ _ _); k_dflt (refine literal_use X T (by assumption) (by k_asm) (by k_asm) (by k_updF) (by assumption) (by assumption) (by assumption) (by assumption) (by assumption) (by assumption) (by assumption) (by omega) (by omega) (by omega) (by omega) (by omega) ?_); intro _ _ _ _ _ _ _ _ _ _; (try k_sweep)) | (k_here; (with_reducible show wpAny _ _ (call (Value.ref 151) [Value.ref _, Value.int _ _]) _ _ _); k_dflt (refine draw_use X T (by assumption) (by k_asm) (by k_asm) (by k_updF) (by assumption) (by assumption) (by assumption) (by assumption) (by assumption) (by assumption) (by assumption) (by omega) (by omega) (by omega) (by omega) (by omega) ?_); intro _ _ _ _ _ _ _ _ _ _ _; (try k_sweep)) | (k_here; (with_reducible show wpAny _ _ (call (Value.builtin "len") [Value.ref _]) _ _ _); k_dflt (refine len_base (by k_asm) (by assumption) (by first | size_fits | (simp only [List.size_toArray]; omega)) ?_; k_whole)) | ((fail_if_success (with_reducible first | refine s_done ?_ | refine s_iter ?_ | refine s_tpost ?_ | refine s_while ?_ | refine s_call (by decide) ?_ | refine s_ifexp ?_ | refine s_cend ?_ | refine s_comp ?_ | refine s_srcT ?_ | refine s_src ?_)); (first | (k_unfold; (try dsimp only)) | (k_end; wrow_close) | walk1 | (dsimp only; walk1) | (leave1; walk_say "STEP leave1"; try dsimp only)))))
    refine PyProof.Rows.LCt.CompSrcT.base (by rfl) (by k_asm) (by k_asm) hlp' (by simp only [List.size_toArray, sizeLine_eq]; omega) ?_
    intro g9
    refine restT ((fun N₀ i ys nw => nw = N₀ ∧ ys.length ≤ i ∧ (ys.length = 0 ↔ FreeTo names sws x sw i)) _) ?_ ?_ _ _ _ _ (Nat.zero_add _) ⟨rfl, Nat.le_refl _, by simp [FreeTo]⟩
    · rintro i ys _ v I9 oI C9 oC D9 m₂ h₉ tk₉ E' hi9 ⟨rfl, hyl, hys⟩ hP hC hx F₉ N₉ off9 ne9
      obtain ⟨t, n9, s9, tn, ts, rfl, ht9, hn9, hs9⟩ := PA'.at_ i v (by simpa using hP)
      have off0 := off9
      (try simp only [PyProof.Rows.LCg.Off3, and_true] at off9)
      have hyl2 : ys.length ≤ 100 := by omega
      (repeat' (first | (first | ((with_reducible first | (rename Gets _ _ => gQ'; refine at_of gQ' ?_; clear gQ'; try (rename (_ → Shared → Prop) => qQ'; clear qQ')) | refine at_of (by assumption) ?_); (try dsimp only)) | (with_reducible (first | refine s_exec ?_ | refine s_comp ?_); (with_reducible ((fail_if_success (refine s_at ?_)); refine cutX ?_; intro _ _)))) | (k_here; (with_reducible show wpAny _ _ (subscriptTail _ (PySem.Expr.Slice none _ none _) (Value.ref _) (Value.ref _)) _ _ _); k_dflt (refine slice_upto (by k_asm) (by k_asm) (by kmk_list) (by first | omega | exact (by assumption : ∀ j : Nat, (0 : Int) ≤ List.getD _ j 0) _) ?_ (by with_unfolding_all rfl) (by kmk_pure) (by (simp only [List.size_toArray, sizeLine_eq]; omega))); intro _ _ _ _ l1zz; (try k_lt l1zz); (try k_sweep)) | (k_here; (with_reducible show wpAny _ _ (compareOp CmpOp.Eq (Value.ref _) (Value.ref _)) _ _ _); k_dflt (refine eq_nil (isL (by k_asm) (by k_mem)) (isL (by k_asm) (by k_mem)) (by (simp only [Around.deeper_units, mkA, cLine]; omega)) ?_)) | (k_here; (rename Mine.FreeTo _ _ _ _ _ => hMzz); (with_reducible show wpAny _ _ (binaryOp _ (Value.ref _) (Value.ref _)) _ _ _); k_dflt (refine add_gen (by k_asm) (by k_asm) (by kmk_list) (by kmk_list) ?_ (by (simp only [sizeLine_eq, List.length_cons, List.length_nil]; omega))); intro _ _ _ _ l1zz; (try k_lt l1zz); (try k_sweep)) | ((with_reducible show wpAny _ _ (eval (Expr.Lambda _ _ _ _) _) _ _ _); (k_here; k_dflt (refine lam_any (by k_asm) (by k_asm) (by k_asm) (by assumption) (by exact rfl) (by k_updF) (by assumption) (by with_unfolding_all exact rfl) ?_ (by with_unfolding_all exact rfl) (by exact rfl); k_whole); intro _ _ _ _ _ _ _ Nzz _ _ l1zz; (try dsimp only at Nzz); (try k_lt l1zz))) | (k_here; (with_reducible show wpAny _ _ (call (Value.ref 158) [Value.ref _, Value.int _ _]) _ _ _); k_dflt (refine literal_use X T (by assumption) (by k_asm) (by k_asm) (by k_updF) (by assumption) (by assumption) (by assumption) (by assumption) (by assumption) (by assumption) (by assumption) (by omega) (by omega) (by omega) (by omega) (by omega) ?_); intro _ _ _ _ _ _ _ _ _ _; (try k_sweep)) | (k_here; (with_reducible show wpAny _ _ (call (Value.ref 151) [Value.ref _, Value.int _ _]) _ _ _); k_dflt (refine draw_use X T (by assumption) (by k_asm) (by k_asm) (by k_updF) (by assumption) (by assumption) (by assumption) (by assumption) (by assumption) (by assumption) (by assumption) (by omega) (by omega) (by omega) (by omega) (by omega) ?_); intro _ _ _ _ _ _ _ _ _ _ _; (try k_sweep)) | (k_here; (with_reducible show wpAny _ _ (call (Value.builtin "len") [Value.ref _]) _ _ _); k_dflt (refine len_base (by k_asm) (by assumption) (by first | size_fits | (simp only [List.size_toArray]; omega)) ?_; k_whole)) | ((fail_if_success (with_reducible first | refine s_done ?_ | refine s_iter ?_ | refine s_tpost ?_ | refine s_while ?_ | refine s_call (by decide) ?_ | refine s_ifexp ?_ | refine s_cend ?_ | refine s_comp ?_ | refine s_srcT ?_ | refine s_src ?_)); (first | (k_unfold; (try dsimp only)) | (k_end; wrow_close) | walk1 | (dsimp only; walk1) | (leave1; walk_say "STEP leave1"; try dsimp only)))))
      all_goals (rename Fr _ _ _ _ => FF; rename News _ _ _ _ => NN; refine cEnd FF NN off0 rfl (.inl hlp') ⟨rfl, ?_, ?_⟩)
      · rw [List.length_append, List.length_singleton]; omega
      · exact ⟨fun q => by simp at q, fun q => absurd q (freeTo_bad hn9 hs9 (.inl (beq_iff_eq.mp (by assumption))))⟩
      · rw [List.length_append, List.length_singleton]; omega
      · exact ⟨fun q => by simp at q, fun q => absurd q (freeTo_bad hn9 hs9 (.inr (abs_same.mp (by assumption))))⟩
      · omega
      · exact hys.trans (freeTo_good hn9 hs9 (fun e => Bool.noConfusion ((beq_iff_eq.mpr e).symm.trans (by assumption : (_ == _) = false))) (fun e => (by assumption : (if _ then _ else _) ≠ _) (abs_same.mpr e))).symm
    · rintro ys _ ⟨rfl, hyl, hys⟩
      rw [hs1, hs4, freeTo_all I.len] at hys
      have hyl2 : ys.length ≤ 50 := by omega
      have mark : FreeTo names sws x sw 0 := fun j n s hj => absurd hj (Nat.not_lt_zero _)
      (repeat' (first | (first | ((with_reducible first | (rename Gets _ _ => gQ'; refine at_of gQ' ?_; clear gQ'; try (rename (_ → Shared → Prop) => qQ'; clear qQ')) | refine at_of (by assumption) ?_); (try dsimp only)) | (with_reducible (first | refine s_exec ?_ | refine s_comp ?_); (with_reducible ((fail_if_success (refine s_at ?_)); refine cutX ?_; intro _ _)))) | (k_here; (with_reducible show wpAny _ _ (subscriptTail _ (PySem.Expr.Slice none _ none _) (Value.ref _) (Value.ref _)) _ _ _); k_dflt (refine slice_upto (by k_asm) (by k_asm) (by kmk_list) (by first | omega | exact (by assumption : ∀ j : Nat, (0 : Int) ≤ List.getD _ j 0) _) ?_ (by with_unfolding_all rfl) (by kmk_pure) (by (simp only [List.size_toArray, sizeLine_eq]; omega))); intro _ _ _ _ l1zz; (try k_lt l1zz); (try k_sweep)) | (k_here; (with_reducible show wpAny _ _ (compareOp CmpOp.Eq (Value.ref _) (Value.ref _)) _ _ _); k_dflt (refine eq_nil (isL (by k_asm) (by k_mem)) (isL (by k_asm) (by k_mem)) (by (simp only [Around.deeper_units, mkA, cLine]; omega)) ?_)) | (k_here; (rename Mine.FreeTo _ _ _ _ _ => hMzz); (with_reducible show wpAny _ _ (binaryOp _ (Value.ref _) (Value.ref _)) _ _ _); k_dflt (refine add_gen (by k_asm) (by k_asm) (by kmk_list) (by kmk_list) ?_ (by (simp only [sizeLine_eq, List.length_cons, List.length_nil]; omega))); intro _ _ _ _ l1zz; (try k_lt l1zz); (try k_sweep)) | ((with_reducible show wpAny _ _ (eval (Expr.Lambda _ _ _ _) _) _ _ _); (k_here; k_dflt (refine lam_any (by k_asm) (by k_asm) (by k_asm) (by assumption) (by exact rfl) (by k_updF) (by assumption) (by with_unfolding_all exact rfl) ?_ (by with_unfolding_all exact rfl) (by exact rfl); k_whole); intro _ _ _ _ _ _ _ Nzz _ _ l1zz; (try dsimp only at Nzz); (try k_lt l1zz))) | (k_here; (with_reducible show wpAny _ _ (call (Value.ref 158) [Value.ref _, Value.int _ _]) _ _ _); k_dflt (refine literal_use X T (by assumption) (by k_asm) (by k_asm) (by k_updF) (by assumption) (by assumption) (by assumption) (by assumption) (by assumption) (by assumption) (by assumption) (by omega) (by omega) (by omega) (by omega) (by omega) ?_); intro _ _ _ _ _ _ _ _ _ _; (try k_sweep)) | (k_here; (with_reducible show wpAny _ _ (call (Value.ref 151) [Value.ref _, Value.int _ _]) _ _ _); k_dflt (refine draw_use X T (by assumption) (by k_asm) (by k_asm) (by k_updF) (by assumption) (by assumption) (by assumption) (by assumption) (by assumption) (by assumption) (by assumption) (by omega) (by omega) (by omega) (by omega) (by omega) ?_); intro _ _ _ _ _ _ _ _ _ _ _; (try k_sweep)) | (k_here; (with_reducible show wpAny _ _ (call (Value.builtin "len") [Value.ref _]) _ _ _); k_dflt (refine len_base (by k_asm) (by assumption) (by first | size_fits | (simp only [List.size_toArray]; omega)) ?_; k_whole)) | ((fail_if_success (with_reducible refine s_if ?_)); ((fail_if_success (with_reducible first | refine s_done ?_ | refine s_iter ?_ | refine s_tpost ?_ | refine s_while ?_ | refine s_call (by decide) ?_ | refine s_ifexp ?_ | refine s_cend ?_ | refine s_comp ?_ | refine s_srcT ?_ | refine s_src ?_)); (first | (k_unfold; (try dsimp only)) | (k_end; wrow_close) | walk1 | (dsimp only; walk1) | (leave1; walk_say "STEP leave1"; try dsimp only))))))
      walk1
      all_goals (repeat' (first | (first | ((with_reducible first | (rename Gets _ _ => gQ'; refine at_of gQ' ?_; clear gQ'; try (rename (_ → Shared → Prop) => qQ'; clear qQ')) | refine at_of (by assumption) ?_); (try dsimp only)) | (with_reducible (first | refine s_exec ?_ | refine s_comp ?_); (with_reducible ((fail_if_success (refine s_at ?_)); refine cutX ?_; intro _ _)))) | (k_here; (with_reducible show wpAny _ _ (subscriptTail _ (PySem.Expr.Slice none _ none _) (Value.ref _) (Value.ref _)) _ _ _); k_dflt (refine slice_upto (by k_asm) (by k_asm) (by kmk_list) (by first | omega | exact (by assumption : ∀ j : Nat, (0 : Int) ≤ List.getD _ j 0) _) ?_ (by with_unfolding_all rfl) (by kmk_pure) (by (simp only [List.size_toArray, sizeLine_eq]; omega))); intro _ _ _ _ l1zz; (try k_lt l1zz); (try k_sweep)) | (k_here; (with_reducible show wpAny _ _ (compareOp CmpOp.Eq (Value.ref _) (Value.ref _)) _ _ _); k_dflt (refine eq_nil (isL (by k_asm) (by k_mem)) (isL (by k_asm) (by k_mem)) (by (simp only [Around.deeper_units, mkA, cLine]; omega)) ?_)) | (k_here; (rename Mine.FreeTo _ _ _ _ _ => hMzz); (with_reducible show wpAny _ _ (binaryOp _ (Value.ref _) (Value.ref _)) _ _ _); k_dflt (refine add_gen (by k_asm) (by k_asm) (by kmk_list) (by kmk_list) ?_ (by (simp only [sizeLine_eq, List.length_cons, List.length_nil]; omega))); intro _ _ _ _ l1zz; (try k_lt l1zz); (try k_sweep)) | ((with_reducible show wpAny _ _ (eval (Expr.Lambda _ _ _ _) _) _ _ _); (k_here; k_dflt (refine lam_any (by k_asm) (by k_asm) (by k_asm) (by assumption) (by exact rfl) (by k_updF) (by assumption) (by with_unfolding_all exact rfl) ?_ (by with_unfolding_all exact rfl) (by exact rfl); k_whole); intro _ _ _ _ _ _ _ Nzz _ _ l1zz; (try dsimp only at Nzz); (try k_lt l1zz))) | (k_here; (with_reducible show wpAny _ _ (call (Value.ref 158) [Value.ref _, Value.int _ _]) _ _ _); k_dflt (refine literal_use X T (by assumption) (by k_asm) (by k_asm) (by k_updF) (by assumption) (by assumption) (by assumption) (by assumption) (by assumption) (by assumption) (by assumption) (by omega) (by omega) (by omega) (by omega) (by omega) ?_); intro _ _ _ _ _ _ _ _ _ _; (try k_sweep)) | (k_here; (with_reducible show wpAny _ _ (call (Value.ref 151) [Value.ref _, Value.int _ _]) _ _ _); k_dflt (refine draw_use X T (by assumption) (by k_asm) (by k_asm) (by k_updF) (by assumption) (by assumption) (by assumption) (by assumption) (by assumption) (by assumption) (by assumption) (by omega) (by omega) (by omega) (by omega) (by omega) ?_); intro _ _ _ _ _ _ _ _ _ _ _; (try k_sweep)) | (k_here; (with_reducible show wpAny _ _ (call (Value.builtin "len") [Value.ref _]) _ _ _); k_dflt (refine len_base (by k_asm) (by assumption) (by first | size_fits | (simp only [List.size_toArray]; omega)) ?_; k_whole)) | ((fail_if_success (with_reducible refine s_if ?_)); ((fail_if_success (with_reducible first | refine s_done ?_ | refine s_iter ?_ | refine s_tpost ?_ | refine s_while ?_ | refine s_call (by decide) ?_ | refine s_ifexp ?_ | refine s_cend ?_ | refine s_comp ?_ | refine s_srcT ?_ | refine s_src ?_)); (first | (k_unfold; (try dsimp only)) | (k_end; wrow_close) | walk1 | (dsimp only; walk1) | (leave1; walk_say "STEP leave1"; try dsimp only))))))
      · rename Fr _ _ _ _ => FF
        rename News _ _ _ _ => NN
        rename Heap.CodeRec _ _ _ => hcr
        rename TabOk _ _ _ => okh
        rename feedIs _ _ _ _ _ _ => hfd
        rename (_ = Data.cell (some (Value.int _ _))) => dsw
        rename (_ = Data.cell (some (Value.str _ _))) => dnm
        obtain ⟨osw, onm, dsw9, dnm9, msw, mnm⟩ := name2 (b1 := L' + 1 + 1 + 1 + 1) (b2 := L' + 1 + 1 + 1) NN dsw dnm (by k_mem) (by k_mem)
        have hNN := fun (env : Env) (hfr : env.frame = some L') => led_push (sub := (L' + 1, oc1) :: (L' + 1 + 1 + 1, onm) :: (L' + 1 + 1 + 1 + 1, osw) :: kLed a d k) (env := env) B' NN (List.forall_mem_cons.mpr ⟨by k_mem, List.forall_mem_cons.mpr ⟨mnm, List.forall_mem_cons.mpr ⟨msw, by lcg_sub⟩⟩⟩) hfr
        refine refused_spec (news := (L' + 1, oc1) :: (L' + 1 + 1 + 1, onm) :: (L' + 1 + 1 + 1 + 1, osw) :: kLed a d k) (PR := fun h => (x ∉ names ∧ sw ∉ sws ∧ -sw ∉ sws) ∧ KAt prog w a d (names ++ [x]) (sws ++ [sw]) floors h) (PE := x ∈ names ∨ sw ∈ sws ∨ -sw ∈ sws) X T ?B (by show dp + 1 ≤ 500; omega) (by show un + 3 ≤ 5000; omega) (hNN _ rfl) (NN _ List.mem_cons_self).1 (fun h e => ⟨_, _, _, _, e⟩) ?deed ?r0 ?r1
        case B => exact pushX B' FF rfl rfl
        case deed =>
          intro env9 L9 s9 Q9 E9 B9 hf9 hk9 hn9 ret9 exc9
          have hfo9 := hk9 _ _ (NN _ List.mem_cons_self).1
          have hcr9 := codeRec_keep hcr hk9
          clear NN FF
          refine wpAny_call ?_
          k_dflt (refine' enterL (news := (L' + 1, oc1) :: (L' + 1 + 1 + 1, onm) :: (L' + 1 + 1 + 1 + 1, osw) :: kLed a d k) (binds := []) ?k1 ?k2 ?k3 ?k4 ?k6 ?k7 ?k8 ?k9 ?kB ?_ ?c2 ?c3 ?c4 ?c5; (case k1 => exact B9); (case k2 => exact X); (case k3 => exact led_deep (hNN _ rfl) hk9 hf9 hn9); (case k4 => exact T); (case k6 => exact hfo9); (case k7 => exact hcr9); (case k8 => k_room); (case k9 => exact rfl); (case c5 => decide); (case kB => exact locs rfl); (case c2 => exact rfl); (case c3 => exact rfl); (case c4 => exact rfl))
          intro g2 L2 h2 F2 N2 B2 X2 T2 kG2 gS2 l2 nL2
          (try k_lt l2)
          (try dsimp only); (try k_fold)
          (repeat' (first | (first | ((with_reducible first | (rename Gets _ _ => gQ'; refine at_of gQ' ?_; clear gQ'; try (rename (_ → Shared → Prop) => qQ'; clear qQ')) | refine at_of (by assumption) ?_); (try dsimp only)) | (with_reducible (first | refine s_exec ?_ | refine s_comp ?_); (with_reducible ((fail_if_success (refine s_at ?_)); refine cutX ?_; intro _ _)))) | (k_here; (with_reducible show wpAny _ _ (subscriptTail _ (PySem.Expr.Slice none _ none _) (Value.ref _) (Value.ref _)) _ _ _); k_dflt (refine slice_upto (by k_asm) (by k_asm) (by kmk_list) (by first | omega | exact (by assumption : ∀ j : Nat, (0 : Int) ≤ List.getD _ j 0) _) ?_ (by with_unfolding_all rfl) (by kmk_pure) (by (simp only [List.size_toArray, sizeLine_eq]; omega))); intro _ _ _ _ l1zz; (try k_lt l1zz); (try k_sweep)) | (k_here; (with_reducible show wpAny _ _ (compareOp CmpOp.Eq (Value.ref _) (Value.ref _)) _ _ _); k_dflt (refine eq_nil (isL (by k_asm) (by k_mem)) (isL (by k_asm) (by k_mem)) (by (simp only [Around.deeper_units, mkA, cLine]; omega)) ?_)) | (k_here; (rename Mine.FreeTo _ _ _ _ _ => hMzz); (with_reducible show wpAny _ _ (binaryOp _ (Value.ref _) (Value.ref _)) _ _ _); k_dflt (refine add_gen (by k_asm) (by k_asm) (by kmk_list) (by kmk_list) ?_ (by (simp only [sizeLine_eq, List.length_cons, List.length_nil]; omega))); intro _ _ _ _ l1zz; (try k_lt l1zz); (try k_sweep)) | ((with_reducible show wpAny _ _ (eval (Expr.Lambda _ _ _ _) _) _ _ _); (k_here; k_dflt (refine lam_any (by k_asm) (by k_asm) (by k_asm) (by assumption) (by exact rfl) (by k_updF) (by assumption) (by with_unfolding_all exact rfl) ?_ (by with_unfolding_all exact rfl) (by exact rfl); k_whole); intro _ _ _ _ _ _ _ Nzz _ _ l1zz; (try dsimp only at Nzz); (try k_lt l1zz))) | (k_here; (with_reducible show wpAny _ _ (call (Value.ref 158) [Value.ref _, Value.int _ _]) _ _ _); k_dflt (refine literal_use X T (by assumption) (by k_asm) (by k_asm) (by k_updF) (by assumption) (by assumption) (by assumption) (by assumption) (by assumption) (by assumption) (by assumption) (by omega) (by omega) (by omega) (by omega) (by omega) ?_); intro _ _ _ _ _ _ _ _ _ _; (try k_sweep)) | (k_here; (with_reducible show wpAny _ _ (call (Value.ref 151) [Value.ref _, Value.int _ _]) _ _ _); k_dflt (refine draw_use X T (by assumption) (by k_asm) (by k_asm) (by k_updF) (by assumption) (by assumption) (by assumption) (by assumption) (by assumption) (by assumption) (by assumption) (by omega) (by omega) (by omega) (by omega) (by omega) ?_); intro _ _ _ _ _ _ _ _ _ _ _; (try k_sweep)) | (k_here; (with_reducible show wpAny _ _ (call (Value.builtin "len") [Value.ref _]) _ _ _); k_dflt (refine len_base (by k_asm) (by assumption) (by first | size_fits | (simp only [List.size_toArray]; omega)) ?_; k_whole)) | ((fail_if_success (with_reducible first | refine s_done ?_ | refine s_iter ?_ | refine s_tpost ?_ | refine s_while ?_ | refine s_call (by decide) ?_ | refine s_ifexp ?_ | refine s_cend ?_ | refine s_comp ?_ | refine s_srcT ?_ | refine s_src ?_)); (first | (k_unfold; (try dsimp only)) | (k_end; wrow_close) | walk1 | (dsimp only; walk1) | (leave1; walk_say "STEP leave1"; try dsimp only)))))
          show wpAny _ _ (call (.ref 90) [.ref a.ik, .str x _, .int sw _]) _ _ _
          refine add_spec hprog hsup X T ?B9 (by show dp + 1 + 1 + 1 ≤ 600; omega) OO (off_of_led (led_push (sub := kLed a d k) B2 N2 (fun q hq => List.mem_cons_of_mem _ (List.mem_cons_of_mem _ (List.mem_cons_of_mem _ hq))) rfl)) (kat_of N2 (fun q hq => List.mem_cons_of_mem _ (List.mem_cons_of_mem _ (List.mem_cons_of_mem _ hq))) R) (by omega) hnm.1 ?_ ?_
          case B9 => exact pushX B2 F2 rfl rfl
          · intro q1 q2 q3 h3 tk3 kp3 K3
            exact .mk (ret9 _ _ _ (Kept.mono (fun b ob e n => kp3 b ob (allKept (led_deep (hNN (eF L') rfl) hk9 hf9 hn9) kG2 F2 N2 b ob e) n) (fun b hb => List.mem_cons_of_mem _ (List.mem_cons_of_mem _ (List.mem_cons_of_mem _ hb)))) ⟨⟨q1, q2, q3⟩, K3⟩)
          · intro hq h3 e3 tk3 R3
            refine leave2 B2 rfl rfl F2 (allKept (led_deep (hNN (eF L') rfl) hk9 hf9 hn9) kG2 F2 N2) nL2 R3 fun h4 R4 => ?_
            exact exc9 hq _ _ _ R4
        case r1 =>
          intro hle3
          have hz9 := hys.mp (by have h9 : ys.toArray.size = 0 := by assumption
                                 simpa using h9)
          have ho9 := abs_out hz9.2
          rcases hle3 with q | q | q
          · exact absurd q hz9.1
          · exact absurd q ho9.1
          · exact absurd q ho9.2
        case r0 =>
          intro h3 tk3 kp3 K3
          have hD : ∀ b ∈ (L' + 1 : Addr) :: (L' + 1 + 1 + 1 : Addr) :: (L' + 1 + 1 + 1 + 1 : Addr) :: kAdr a, b ∈ kAdr a ∨ s.heap.get? b = none := List.forall_mem_cons.mpr ⟨.inr (nL _ (by omega)), List.forall_mem_cons.mpr ⟨.inr (nL _ (by omega)), List.forall_mem_cons.mpr ⟨.inr (nL _ (by omega)), fun b hb => .inl hb⟩⟩⟩
          have fl3 : FlownA ((L' + 1) :: (L' + 1 + 1 + 1) :: (L' + 1 + 1 + 1 + 1) :: kAdr a) (eF L' :: l) _ h3 := FlownA.ofKept kp3 fun b hb => (off_of_led (hNN (eF L') rfl) b hb).2
          have F3 := fr_kept (sub := (L' + 1, oc1) :: (L' + 1 + 1 + 1, onm) :: (L' + 1 + 1 + 1 + 1, osw) :: kLed a d k) FF NN (List.forall_mem_cons.mpr ⟨by k_mem, List.forall_mem_cons.mpr ⟨mnm, List.forall_mem_cons.mpr ⟨msw, by lcg_sub⟩⟩⟩) kp3
          have hv : decide (ys.toArray.size = 0) = true := decide_eq_true (by assumption)
          have hrg : 3 ≤ sw.natAbs := na3 (by assumption)
          (repeat' (first | (first | ((with_reducible first | (rename Gets _ _ => gQ'; refine at_of gQ' ?_; clear gQ'; try (rename (_ → Shared → Prop) => qQ'; clear qQ')) | refine at_of (by assumption) ?_); (try dsimp only)) | (with_reducible (first | refine s_exec ?_ | refine s_comp ?_); (with_reducible ((fail_if_success (refine s_at ?_)); refine cutX ?_; intro _ _)))) | (k_here; (with_reducible show wpAny _ _ (subscriptTail _ (PySem.Expr.Slice none _ none _) (Value.ref _) (Value.ref _)) _ _ _); k_dflt (refine slice_upto (by k_asm) (by k_asm) (by kmk_list) (by first | omega | exact (by assumption : ∀ j : Nat, (0 : Int) ≤ List.getD _ j 0) _) ?_ (by with_unfolding_all rfl) (by kmk_pure) (by (simp only [List.size_toArray, sizeLine_eq]; omega))); intro _ _ _ _ l1zz; (try k_lt l1zz); (try k_sweep)) | (k_here; (with_reducible show wpAny _ _ (compareOp CmpOp.Eq (Value.ref _) (Value.ref _)) _ _ _); k_dflt (refine eq_nil (isL (by k_asm) (by k_mem)) (isL (by k_asm) (by k_mem)) (by (simp only [Around.deeper_units, mkA, cLine]; omega)) ?_)) | (k_here; (rename Mine.FreeTo _ _ _ _ _ => hMzz); (with_reducible show wpAny _ _ (binaryOp _ (Value.ref _) (Value.ref _)) _ _ _); k_dflt (refine add_gen (by k_asm) (by k_asm) (by kmk_list) (by kmk_list) ?_ (by (simp only [sizeLine_eq, List.length_cons, List.length_nil]; omega))); intro _ _ _ _ l1zz; (try k_lt l1zz); (try k_sweep)) | ((with_reducible show wpAny _ _ (eval (Expr.Lambda _ _ _ _) _) _ _ _); (k_here; k_dflt (refine lam_any (by k_asm) (by k_asm) (by k_asm) (by assumption) (by exact rfl) (by k_updF) (by assumption) (by with_unfolding_all exact rfl) ?_ (by with_unfolding_all exact rfl) (by exact rfl); k_whole); intro _ _ _ _ _ _ _ Nzz _ _ l1zz; (try dsimp only at Nzz); (try k_lt l1zz))) | (k_here; (with_reducible show wpAny _ _ (call (Value.ref 158) [Value.ref _, Value.int _ _]) _ _ _); k_dflt (refine literal_use X T (by assumption) (by k_asm) (by k_asm) (by k_updF) (by assumption) (by assumption) (by assumption) (by assumption) (by assumption) (by assumption) (by assumption) (by omega) (by omega) (by omega) (by omega) (by omega) ?_); intro _ _ _ _ _ _ _ _ _ _; (try k_sweep)) | (k_here; (with_reducible show wpAny _ _ (call (Value.ref 151) [Value.ref _, Value.int _ _]) _ _ _); k_dflt (refine draw_use X T (by assumption) (by k_asm) (by k_asm) (by k_updF) (by assumption) (by assumption) (by assumption) (by assumption) (by assumption) (by assumption) (by assumption) (by omega) (by omega) (by omega) (by omega) (by omega) ?_); intro _ _ _ _ _ _ _ _ _ _ _; (try k_sweep)) | (k_here; (with_reducible show wpAny _ _ (call (Value.builtin "len") [Value.ref _]) _ _ _); k_dflt (refine len_base (by k_asm) (by assumption) (by first | size_fits | (simp only [List.size_toArray]; omega)) ?_; k_whole)) | ((fail_if_success (with_reducible first | refine s_done ?_ | refine s_iter ?_ | refine s_tpost ?_ | refine s_while ?_ | refine s_call (by decide) ?_ | refine s_ifexp ?_ | refine s_cend ?_ | refine s_comp ?_ | refine s_srcT ?_ | refine s_src ?_)); (first | (k_unfold; (try dsimp only)) | (k_end; wrow_close) | walk1 | (dsimp only; walk1) | (leave1; walk_say "STEP leave1"; try dsimp only)))))
          refine (fun fin => ?main_6) (ledFin (names := names ++ [x]) (sws := sws ++ [sw]) (floors := floors) (fvs := fvs) (fo := ?fo_6) (no := ?no_6) (lq := lq) (lp := ?lp_6) (its := ?its_6) B' FF NN kG' adr0 (nL _ (Nat.le_refl _)) o fl3 hD ?nfc_6 ?hdf_6 ?ndf_6 ?h167_6 ?n167_6 okh ?hlo_6 ?nlo_6 ?hlp_6 ?nlp_6 ?PA_6 ?nt_6 (hlq'.at fun o e => FF.keep _ o e) ?nlq_6 hfv ?sp_6 sq ?st_6)
          case hdf_6 => k_mem
          case h167_6 => k_mem
          case hlo_6 => k_mem
          case hlp_6 => exact PlainL.ofNews NN (by k_mem)
          case PA_6 => exact (PA'.keep fun o e => FF.keep _ e).snoc (News.isTup NN (by k_mem))
          case ndf_6 => (repeat' (first | exact List.not_mem_nil | (refine notin_cons (by k_ne) ?_)))
          case n167_6 => (repeat' (first | exact List.not_mem_nil | (refine notin_cons (by k_ne) ?_)))
          case nlo_6 => (repeat' (first | exact List.not_mem_nil | (refine notin_cons (by k_ne) ?_)))
          case nlp_6 => (repeat' (first | exact List.not_mem_nil | (refine notin_cons (by k_ne) ?_)))
          case sp_6 => (repeat' (first | exact List.not_mem_nil | (refine notin_cons (by k_ne) ?_)))
          case nlq_6 => exact notin_cons (list_ne NN (b := L' + 1) (ob := oc1) (by k_mem) hlq') (notin_cons (list_ne NN mnm hlq') (notin_cons (list_ne NN msw hlq') (out4 sq)))
          case nfc_6 => exact List.forall_mem_cons.mpr ⟨fun ob e vs q => (by rw [(NN (L' + 1, oc1) (by k_mem)).1] at e; cases e; rw [dc1] at q; cases q), List.forall_mem_cons.mpr ⟨fun ob e vs q => (by rw [(NN _ mnm).1] at e; cases e; rw [dnm9] at q; cases q), List.forall_mem_cons.mpr ⟨fun ob e vs q => (by rw [(NN _ msw).1] at e; cases e; rw [dsw9] at q; cases q), nf_kat (kat_of (prog := prog) (w := w) NN (by lcg_sub) R)⟩⟩⟩
          case nt_6 =>
            intro t ht
            rcases List.mem_append.mp ht with ht | ht
            · exact notin_cons (PA'.ne NN (b := L' + 1) (ob := oc1) (by k_mem) t ht) (notin_cons (PA'.ne NN mnm t ht) (notin_cons (PA'.ne NN msw t ht) (out4 (st t ht))))
            · cases List.mem_singleton.mp ht
              (repeat' (first | exact List.not_mem_nil | (refine notin_cons (by k_ne) ?_)))
          case st_6 =>
            intro t ht
            rcases List.mem_append.mp ht with ht | ht
            · exact st t ht
            · cases List.mem_singleton.mp ht
              (repeat' (first | exact List.not_mem_nil | (refine notin_cons (by k_ne) ?_)))
          case main_6 =>
            obtain ⟨f1, f2, f3, f4, f5⟩ := fin
            try rw [hv]
            try dsimp only
            exact .mk (ret _ _ _ _ _ _ _ _ _ f1 f2 hfd (by omega) (by omega) f3 f4 K3.2 f5 (I.add K3.1.1 (abs_in K3.1.2.1 K3.1.2.2) hnm hrg) (by simp) (by omega))
      · rename Fr _ _ _ _ => FF
        rename News _ _ _ _ => NN
        rename Heap.CodeRec _ _ _ => hcr
        rename TabOk _ _ _ => okh
        rename feedIs _ _ _ _ _ _ => hfd
        rename (_ = Data.cell (some (Value.int _ _))) => dsw
        rename (_ = Data.cell (some (Value.str _ _))) => dnm
        obtain ⟨osw, onm, dsw9, dnm9, msw, mnm⟩ := name2 (b1 := L' + 1 + 1 + 1 + 1) (b2 := L' + 1 + 1 + 1) NN dsw dnm (by k_mem) (by k_mem)
        have hNN := fun (env : Env) (hfr : env.frame = some L') => led_push (sub := (L' + 1, oc1) :: (L' + 1 + 1 + 1, onm) :: (L' + 1 + 1 + 1 + 1, osw) :: kLed a d k) (env := env) B' NN (List.forall_mem_cons.mpr ⟨by k_mem, List.forall_mem_cons.mpr ⟨mnm, List.forall_mem_cons.mpr ⟨msw, by lcg_sub⟩⟩⟩) hfr
        refine refused_spec (news := (L' + 1, oc1) :: (L' + 1 + 1 + 1, onm) :: (L' + 1 + 1 + 1 + 1, osw) :: kLed a d k) (PR := fun h => (x ∉ names ∧ sw ∉ sws ∧ -sw ∉ sws) ∧ KAt prog w a d (names ++ [x]) (sws ++ [sw]) floors h) (PE := x ∈ names ∨ sw ∈ sws ∨ -sw ∈ sws) X T ?B (by show dp + 1 ≤ 500; omega) (by show un + 3 ≤ 5000; omega) (hNN _ rfl) (NN _ List.mem_cons_self).1 (fun h e => ⟨_, _, _, _, e⟩) ?deed ?r0 ?r1
        case B => exact pushX B' FF rfl rfl
        case deed =>
          intro env9 L9 s9 Q9 E9 B9 hf9 hk9 hn9 ret9 exc9
          have hfo9 := hk9 _ _ (NN _ List.mem_cons_self).1
          have hcr9 := codeRec_keep hcr hk9
          clear NN FF
          refine wpAny_call ?_
          k_dflt (refine' enterL (news := (L' + 1, oc1) :: (L' + 1 + 1 + 1, onm) :: (L' + 1 + 1 + 1 + 1, osw) :: kLed a d k) (binds := []) ?k1 ?k2 ?k3 ?k4 ?k6 ?k7 ?k8 ?k9 ?kB ?_ ?c2 ?c3 ?c4 ?c5; (case k1 => exact B9); (case k2 => exact X); (case k3 => exact led_deep (hNN _ rfl) hk9 hf9 hn9); (case k4 => exact T); (case k6 => exact hfo9); (case k7 => exact hcr9); (case k8 => k_room); (case k9 => exact rfl); (case c5 => decide); (case kB => exact locs rfl); (case c2 => exact rfl); (case c3 => exact rfl); (case c4 => exact rfl))
          intro g2 L2 h2 F2 N2 B2 X2 T2 kG2 gS2 l2 nL2
          (try k_lt l2)
          (try dsimp only); (try k_fold)
          (repeat' (first | (first | ((with_reducible first | (rename Gets _ _ => gQ'; refine at_of gQ' ?_; clear gQ'; try (rename (_ → Shared → Prop) => qQ'; clear qQ')) | refine at_of (by assumption) ?_); (try dsimp only)) | (with_reducible (first | refine s_exec ?_ | refine s_comp ?_); (with_reducible ((fail_if_success (refine s_at ?_)); refine cutX ?_; intro _ _)))) | (k_here; (with_reducible show wpAny _ _ (subscriptTail _ (PySem.Expr.Slice none _ none _) (Value.ref _) (Value.ref _)) _ _ _); k_dflt (refine slice_upto (by k_asm) (by k_asm) (by kmk_list) (by first | omega | exact (by assumption : ∀ j : Nat, (0 : Int) ≤ List.getD _ j 0) _) ?_ (by with_unfolding_all rfl) (by kmk_pure) (by (simp only [List.size_toArray, sizeLine_eq]; omega))); intro _ _ _ _ l1zz; (try k_lt l1zz); (try k_sweep)) | (k_here; (with_reducible show wpAny _ _ (compareOp CmpOp.Eq (Value.ref _) (Value.ref _)) _ _ _); k_dflt (refine eq_nil (isL (by k_asm) (by k_mem)) (isL (by k_asm) (by k_mem)) (by (simp only [Around.deeper_units, mkA, cLine]; omega)) ?_)) | (k_here; (rename Mine.FreeTo _ _ _ _ _ => hMzz); (with_reducible show wpAny _ _ (binaryOp _ (Value.ref _) (Value.ref _)) _ _ _); k_dflt (refine add_gen (by k_asm) (by k_asm) (by kmk_list) (by kmk_list) ?_ (by (simp only [sizeLine_eq, List.length_cons, List.length_nil]; omega))); intro _ _ _ _ l1zz; (try k_lt l1zz); (try k_sweep)) | ((with_reducible show wpAny _ _ (eval (Expr.Lambda _ _ _ _) _) _ _ _); (k_here; k_dflt (refine lam_any (by k_asm) (by k_asm) (by k_asm) (by assumption) (by exact rfl) (by k_updF) (by assumption) (by with_unfolding_all exact rfl) ?_ (by with_unfolding_all exact rfl) (by exact rfl); k_whole); intro _ _ _ _ _ _ _ Nzz _ _ l1zz; (try dsimp only at Nzz); (try k_lt l1zz))) | (k_here; (with_reducible show wpAny _ _ (call (Value.ref 158) [Value.ref _, Value.int _ _]) _ _ _); k_dflt (refine literal_use X T (by assumption) (by k_asm) (by k_asm) (by k_updF) (by assumption) (by assumption) (by assumption) (by assumption) (by assumption) (by assumption) (by assumption) (by omega) (by omega) (by omega) (by omega) (by omega) ?_); intro _ _ _ _ _ _ _ _ _ _; (try k_sweep)) | (k_here; (with_reducible show wpAny _ _ (call (Value.ref 151) [Value.ref _, Value.int _ _]) _ _ _); k_dflt (refine draw_use X T (by assumption) (by k_asm) (by k_asm) (by k_updF) (by assumption) (by assumption) (by assumption) (by assumption) (by assumption) (by assumption) (by assumption) (by omega) (by omega) (by omega) (by omega) (by omega) ?_); intro _ _ _ _ _ _ _ _ _ _ _; (try k_sweep)) | (k_here; (with_reducible show wpAny _ _ (call (Value.builtin "len") [Value.ref _]) _ _ _); k_dflt (refine len_base (by k_asm) (by assumption) (by first | size_fits | (simp only [List.size_toArray]; omega)) ?_; k_whole)) | ((fail_if_success (with_reducible first | refine s_done ?_ | refine s_iter ?_ | refine s_tpost ?_ | refine s_while ?_ | refine s_call (by decide) ?_ | refine s_ifexp ?_ | refine s_cend ?_ | refine s_comp ?_ | refine s_srcT ?_ | refine s_src ?_)); (first | (k_unfold; (try dsimp only)) | (k_end; wrow_close) | walk1 | (dsimp only; walk1) | (leave1; walk_say "STEP leave1"; try dsimp only)))))
          show wpAny _ _ (call (.ref 90) [.ref a.ik, .str x _, .int sw _]) _ _ _
          refine add_spec hprog hsup X T ?B9 (by show dp + 1 + 1 + 1 ≤ 600; omega) OO (off_of_led (led_push (sub := kLed a d k) B2 N2 (fun q hq => List.mem_cons_of_mem _ (List.mem_cons_of_mem _ (List.mem_cons_of_mem _ hq))) rfl)) (kat_of N2 (fun q hq => List.mem_cons_of_mem _ (List.mem_cons_of_mem _ (List.mem_cons_of_mem _ hq))) R) (by omega) hnm.1 ?_ ?_
          case B9 => exact pushX B2 F2 rfl rfl
          · intro q1 q2 q3 h3 tk3 kp3 K3
            exact .mk (ret9 _ _ _ (Kept.mono (fun b ob e n => kp3 b ob (allKept (led_deep (hNN (eF L') rfl) hk9 hf9 hn9) kG2 F2 N2 b ob e) n) (fun b hb => List.mem_cons_of_mem _ (List.mem_cons_of_mem _ (List.mem_cons_of_mem _ hb)))) ⟨⟨q1, q2, q3⟩, K3⟩)
          · intro hq h3 e3 tk3 R3
            refine leave2 B2 rfl rfl F2 (allKept (led_deep (hNN (eF L') rfl) hk9 hf9 hn9) kG2 F2 N2) nL2 R3 fun h4 R4 => ?_
            exact exc9 hq _ _ _ R4
        case r0 =>
          intro h3 tk3 kp3 K3
          exact absurd (hys.mpr ⟨K3.1.1, abs_in K3.1.2.1 K3.1.2.2⟩) (by have h9 : ¬ ys.toArray.size = 0 := by assumption
                                                                        simpa using h9)
        case r1 =>
          intro hle3 h3 tk3 fw3
          have hD : ∀ b ∈ ([] : List Addr), b ∈ kAdr a ∨ s.heap.get? b = none := fun b hb => nomatch hb
          have fl3 : FlownA [] (eF L' :: l) _ h3 := FlownA.ofFlown [] fw3
          obtain ⟨g3, T3, F3, B3⟩ := groundA (env := eF L') (adr := []) B' rfl FF (fun b hb => nomatch hb) fl3
          have K3 := kat_flown (kat_of (prog := prog) (w := w) NN (by lcg_sub) R) fl3 (off_of_led (led_push (sub := kLed a d k) B' NN (by lcg_sub) rfl)) (fun b hb => List.not_mem_nil)
          have hv : decide (ys.toArray.size = 0) = false := decide_eq_false (by assumption)
          (repeat' (first | (first | ((with_reducible first | (rename Gets _ _ => gQ'; refine at_of gQ' ?_; clear gQ'; try (rename (_ → Shared → Prop) => qQ'; clear qQ')) | refine at_of (by assumption) ?_); (try dsimp only)) | (with_reducible (first | refine s_exec ?_ | refine s_comp ?_); (with_reducible ((fail_if_success (refine s_at ?_)); refine cutX ?_; intro _ _)))) | (k_here; (with_reducible show wpAny _ _ (subscriptTail _ (PySem.Expr.Slice none _ none _) (Value.ref _) (Value.ref _)) _ _ _); k_dflt (refine slice_upto (by k_asm) (by k_asm) (by kmk_list) (by first | omega | exact (by assumption : ∀ j : Nat, (0 : Int) ≤ List.getD _ j 0) _) ?_ (by with_unfolding_all rfl) (by kmk_pure) (by (simp only [List.size_toArray, sizeLine_eq]; omega))); intro _ _ _ _ l1zz; (try k_lt l1zz); (try k_sweep)) | (k_here; (with_reducible show wpAny _ _ (compareOp CmpOp.Eq (Value.ref _) (Value.ref _)) _ _ _); k_dflt (refine eq_nil (isL (by k_asm) (by k_mem)) (isL (by k_asm) (by k_mem)) (by (simp only [Around.deeper_units, mkA, cLine]; omega)) ?_)) | (k_here; (rename Mine.FreeTo _ _ _ _ _ => hMzz); (with_reducible show wpAny _ _ (binaryOp _ (Value.ref _) (Value.ref _)) _ _ _); k_dflt (refine add_gen (by k_asm) (by k_asm) (by kmk_list) (by kmk_list) ?_ (by (simp only [sizeLine_eq, List.length_cons, List.length_nil]; omega))); intro _ _ _ _ l1zz; (try k_lt l1zz); (try k_sweep)) | ((with_reducible show wpAny _ _ (eval (Expr.Lambda _ _ _ _) _) _ _ _); (k_here; k_dflt (refine lam_any (by k_asm) (by k_asm) (by k_asm) (by assumption) (by exact rfl) (by k_updF) (by assumption) (by with_unfolding_all exact rfl) ?_ (by with_unfolding_all exact rfl) (by exact rfl); k_whole); intro _ _ _ _ _ _ _ Nzz _ _ l1zz; (try dsimp only at Nzz); (try k_lt l1zz))) | (k_here; (with_reducible show wpAny _ _ (call (Value.ref 158) [Value.ref _, Value.int _ _]) _ _ _); k_dflt (refine literal_use X T (by assumption) (by k_asm) (by k_asm) (by k_updF) (by assumption) (by assumption) (by assumption) (by assumption) (by assumption) (by assumption) (by assumption) (by omega) (by omega) (by omega) (by omega) (by omega) ?_); intro _ _ _ _ _ _ _ _ _ _; (try k_sweep)) | (k_here; (with_reducible show wpAny _ _ (call (Value.ref 151) [Value.ref _, Value.int _ _]) _ _ _); k_dflt (refine draw_use X T (by assumption) (by k_asm) (by k_asm) (by k_updF) (by assumption) (by assumption) (by assumption) (by assumption) (by assumption) (by assumption) (by assumption) (by omega) (by omega) (by omega) (by omega) (by omega) ?_); intro _ _ _ _ _ _ _ _ _ _ _; (try k_sweep)) | (k_here; (with_reducible show wpAny _ _ (call (Value.builtin "len") [Value.ref _]) _ _ _); k_dflt (refine len_base (by k_asm) (by assumption) (by first | size_fits | (simp only [List.size_toArray]; omega)) ?_; k_whole)) | ((fail_if_success (with_reducible first | refine s_done ?_ | refine s_iter ?_ | refine s_tpost ?_ | refine s_while ?_ | refine s_call (by decide) ?_ | refine s_ifexp ?_ | refine s_cend ?_ | refine s_comp ?_ | refine s_srcT ?_ | refine s_src ?_)); (first | (k_unfold; (try dsimp only)) | (k_end; wrow_close) | walk1 | (dsimp only; walk1) | (leave1; walk_say "STEP leave1"; try dsimp only)))))
          refine (fun fin => ?main_5) (ledFin (names := names) (sws := sws) (floors := floors) (fvs := fvs) (fo := ?fo_5) (no := ?no_5) (lq := lq) (lp := lp) (its := its) B' FF NN kG' adr0 (nL _ (Nat.le_refl _)) o fl3 hD (fun b hb => nomatch hb) ?hdf_5 List.not_mem_nil ?h167_5 List.not_mem_nil okh ?hlo_5 List.not_mem_nil (hlpP'.at fun o e => FF.keep _ o e) List.not_mem_nil (PA'.keep fun o e => FF.keep _ e) (fun _ _ => List.not_mem_nil) (hlq'.at fun o e => FF.keep _ o e) List.not_mem_nil hfv sp sq st)
          case hdf_5 => k_mem
          case h167_5 => k_mem
          case hlo_5 => k_mem
          case main_5 =>
            obtain ⟨f1, f2, f3, f4, f5⟩ := fin
            try rw [hv]
            try dsimp only
            exact .mk (ret _ _ _ _ _ _ _ _ _ f1 f2 hfd (by omega) (by omega) f3 f4 K3 f5 I (by omega) (by omega))
  walk1
  (repeat' (first | (first | ((with_reducible first | (rename Gets _ _ => gQ'; refine at_of gQ' ?_; clear gQ'; try (rename (_ → Shared → Prop) => qQ'; clear qQ')) | refine at_of (by assumption) ?_); (try dsimp only)) | (with_reducible (first | refine s_exec ?_ | refine s_comp ?_); (with_reducible ((fail_if_success (refine s_at ?_)); refine cutX ?_; intro _ _)))) | (k_here; (with_reducible show wpAny _ _ (subscriptTail _ (PySem.Expr.Slice none _ none _) (Value.ref _) (Value.ref _)) _ _ _); k_dflt (refine slice_upto (by k_asm) (by k_asm) (by kmk_list) (by first | omega | exact (by assumption : ∀ j : Nat, (0 : Int) ≤ List.getD _ j 0) _) ?_ (by with_unfolding_all rfl) (by kmk_pure) (by (simp only [List.size_toArray, sizeLine_eq]; omega))); intro _ _ _ _ l1zz; (try k_lt l1zz); (try k_sweep)) | (k_here; (with_reducible show wpAny _ _ (compareOp CmpOp.Eq (Value.ref _) (Value.ref _)) _ _ _); k_dflt (refine eq_nil (isL (by k_asm) (by k_mem)) (isL (by k_asm) (by k_mem)) (by (simp only [Around.deeper_units, mkA, cLine]; omega)) ?_)) | (k_here; (rename Mine.FreeTo _ _ _ _ _ => hMzz); (with_reducible show wpAny _ _ (binaryOp _ (Value.ref _) (Value.ref _)) _ _ _); k_dflt (refine add_gen (by k_asm) (by k_asm) (by kmk_list) (by kmk_list) ?_ (by (simp only [sizeLine_eq, List.length_cons, List.length_nil]; omega))); intro _ _ _ _ l1zz; (try k_lt l1zz); (try k_sweep)) | ((with_reducible show wpAny _ _ (eval (Expr.Lambda _ _ _ _) _) _ _ _); (k_here; k_dflt (refine lam_any (by k_asm) (by k_asm) (by k_asm) (by assumption) (by exact rfl) (by k_updF) (by assumption) (by with_unfolding_all exact rfl) ?_ (by with_unfolding_all exact rfl) (by exact rfl); k_whole); intro _ _ _ _ _ _ _ Nzz _ _ l1zz; (try dsimp only at Nzz); (try k_lt l1zz))) | (k_here; (with_reducible show wpAny _ _ (call (Value.ref 158) [Value.ref _, Value.int _ _]) _ _ _); k_dflt (refine literal_use X T (by assumption) (by k_asm) (by k_asm) (by k_updF) (by assumption) (by assumption) (by assumption) (by assumption) (by assumption) (by assumption) (by assumption) (by omega) (by omega) (by omega) (by omega) (by omega) ?_); intro _ _ _ _ _ _ _ _ _ _; (try k_sweep)) | (k_here; (with_reducible show wpAny _ _ (call (Value.ref 151) [Value.ref _, Value.int _ _]) _ _ _); k_dflt (refine draw_use X T (by assumption) (by k_asm) (by k_asm) (by k_updF) (by assumption) (by assumption) (by assumption) (by assumption) (by assumption) (by assumption) (by assumption) (by omega) (by omega) (by omega) (by omega) (by omega) ?_); intro _ _ _ _ _ _ _ _ _ _ _; (try k_sweep)) | (k_here; (with_reducible show wpAny _ _ (call (Value.builtin "len") [Value.ref _]) _ _ _); k_dflt (refine len_base (by k_asm) (by assumption) (by first | size_fits | (simp only [List.size_toArray]; omega)) ?_; k_whole)) | ((fail_if_success (with_reducible refine s_if ?_)); ((fail_if_success (with_reducible first | refine s_done ?_ | refine s_iter ?_ | refine s_tpost ?_ | refine s_while ?_ | refine s_call (by decide) ?_ | refine s_ifexp ?_ | refine s_cend ?_ | refine s_comp ?_ | refine s_srcT ?_ | refine s_src ?_)); (first | (k_unfold; (try dsimp only)) | (k_end; wrow_close) | walk1 | (dsimp only; walk1) | (leave1; walk_say "STEP leave1"; try dsimp only))))))
  · rename Fr _ _ _ _ => FF
    rename News _ _ _ _ => NN
    rename Heap.CodeRec _ _ _ => hcr
    rename TabOk _ _ _ => okh
    rename feedIs _ _ _ _ _ _ => hfd
    rename IntsAre _ _ => hI9
    have hNN := fun (env : Env) (hfr : env.frame = some L') => led_push (sub := (L' + 1, oc1) :: kLed a d k) (env := env) B' NN (by lcg_sub) hfr
    refine refused_spec (news := (L' + 1, oc1) :: kLed a d k) (PR := fun h => KAt prog w a d names sws (floors ++ [(names.length : Int)]) h) (PE := False) X T ?B (by show dp + 1 ≤ 500; omega) (by show un + 3 ≤ 5000; omega) (hNN _ rfl) (NN _ List.mem_cons_self).1 (fun h e => ⟨_, _, _, _, e⟩) ?deed ?r0 (fun h => h.elim)
    case B => exact pushX B' FF rfl rfl
    case deed =>
      intro env9 L9 s9 Q9 E9 B9 hf9 hk9 hn9 ret9 exc9
      have hfo9 := hk9 _ _ (NN _ List.mem_cons_self).1
      have hcr9 := codeRec_keep hcr hk9
      clear NN FF
      refine wpAny_call ?_
      k_dflt (refine' enterL (news := (L' + 1, oc1) :: kLed a d k) (binds := []) ?k1 ?k2 ?k3 ?k4 ?k6 ?k7 ?k8 ?k9 ?kB ?_ ?c2 ?c3 ?c4 ?c5; (case k1 => exact B9); (case k2 => exact X); (case k3 => exact led_deep (hNN _ rfl) hk9 hf9 hn9); (case k4 => exact T); (case k6 => exact hfo9); (case k7 => exact hcr9); (case k8 => k_room); (case k9 => exact rfl); (case c5 => decide); (case kB => exact locs rfl); (case c2 => exact rfl); (case c3 => exact rfl); (case c4 => exact rfl))
      intro g2 L2 h2 F2 N2 B2 X2 T2 kG2 gS2 l2 nL2
      (try k_lt l2)
      (try dsimp only); (try k_fold)
      (repeat' (first | (first | ((with_reducible first | (rename Gets _ _ => gQ'; refine at_of gQ' ?_; clear gQ'; try (rename (_ → Shared → Prop) => qQ'; clear qQ')) | refine at_of (by assumption) ?_); (try dsimp only)) | (with_reducible (first | refine s_exec ?_ | refine s_comp ?_); (with_reducible ((fail_if_success (refine s_at ?_)); refine cutX ?_; intro _ _)))) | (k_here; (with_reducible show wpAny _ _ (subscriptTail _ (PySem.Expr.Slice none _ none _) (Value.ref _) (Value.ref _)) _ _ _); k_dflt (refine slice_upto (by k_asm) (by k_asm) (by kmk_list) (by first | omega | exact (by assumption : ∀ j : Nat, (0 : Int) ≤ List.getD _ j 0) _) ?_ (by with_unfolding_all rfl) (by kmk_pure) (by (simp only [List.size_toArray, sizeLine_eq]; omega))); intro _ _ _ _ l1zz; (try k_lt l1zz); (try k_sweep)) | (k_here; (with_reducible show wpAny _ _ (compareOp CmpOp.Eq (Value.ref _) (Value.ref _)) _ _ _); k_dflt (refine eq_nil (isL (by k_asm) (by k_mem)) (isL (by k_asm) (by k_mem)) (by (simp only [Around.deeper_units, mkA, cLine]; omega)) ?_)) | (k_here; (rename Mine.FreeTo _ _ _ _ _ => hMzz); (with_reducible show wpAny _ _ (binaryOp _ (Value.ref _) (Value.ref _)) _ _ _); k_dflt (refine add_gen (by k_asm) (by k_asm) (by kmk_list) (by kmk_list) ?_ (by (simp only [sizeLine_eq, List.length_cons, List.length_nil]; omega))); intro _ _ _ _ l1zz; (try k_lt l1zz); (try k_sweep)) | ((with_reducible show wpAny _ _ (eval (Expr.Lambda _ _ _ _) _) _ _ _); (k_here; k_dflt (refine lam_any (by k_asm) (by k_asm) (by k_asm) (by assumption) (by exact rfl) (by k_updF) (by assumption) (by with_unfolding_all exact rfl) ?_ (by with_unfolding_all exact rfl) (by exact rfl); k_whole); intro _ _ _ _ _ _ _ Nzz _ _ l1zz; (try dsimp only at Nzz); (try k_lt l1zz))) | (k_here; (with_reducible show wpAny _ _ (call (Value.ref 158) [Value.ref _, Value.int _ _]) _ _ _); k_dflt (refine literal_use X T (by assumption) (by k_asm) (by k_asm) (by k_updF) (by assumption) (by assumption) (by assumption) (by assumption) (by assumption) (by assumption) (by assumption) (by omega) (by omega) (by omega) (by omega) (by omega) ?_); intro _ _ _ _ _ _ _ _ _ _; (try k_sweep)) | (k_here; (with_reducible show wpAny _ _ (call (Value.ref 151) [Value.ref _, Value.int _ _]) _ _ _); k_dflt (refine draw_use X T (by assumption) (by k_asm) (by k_asm) (by k_updF) (by assumption) (by assumption) (by assumption) (by assumption) (by assumption) (by assumption) (by assumption) (by omega) (by omega) (by omega) (by omega) (by omega) ?_); intro _ _ _ _ _ _ _ _ _ _ _; (try k_sweep)) | (k_here; (with_reducible show wpAny _ _ (call (Value.builtin "len") [Value.ref _]) _ _ _); k_dflt (refine len_base (by k_asm) (by assumption) (by first | size_fits | (simp only [List.size_toArray]; omega)) ?_; k_whole)) | ((fail_if_success (with_reducible first | refine s_done ?_ | refine s_iter ?_ | refine s_tpost ?_ | refine s_while ?_ | refine s_call (by decide) ?_ | refine s_ifexp ?_ | refine s_cend ?_ | refine s_comp ?_ | refine s_srcT ?_ | refine s_src ?_)); (first | (k_unfold; (try dsimp only)) | (k_end; wrow_close) | walk1 | (dsimp only; walk1) | (leave1; walk_say "STEP leave1"; try dsimp only)))))
      show wpAny _ _ (call (.ref 97) [.ref a.ik]) _ _ _
      refine push_spec X T ?B9 (by show dp + 1 + 1 + 1 ≤ 600; omega) OO (off_of_led (led_push (sub := kLed a d k) B2 N2 (fun q hq => List.mem_cons_of_mem _ hq) rfl)) (kat_of N2 (fun q hq => List.mem_cons_of_mem _ hq) R) (by omega) (by omega) ?_
      case B9 => exact pushX B2 F2 rfl rfl
      intro h3 tk3 kp3 K3
      refine .mk (ret9 _ _ _ (Kept.mono (fun b ob e n => kp3 b ob (allKept (led_deep (hNN (eF L') rfl) hk9 hf9 hn9) kG2 F2 N2 b ob e) n) (fun b hb => List.mem_cons_of_mem _ hb)) K3)
    case r0 =>
      intro h3 tk3 kp3 K3
      have hD : ∀ b ∈ (L' + 1 : Addr) :: kAdr a, b ∈ kAdr a ∨ s.heap.get? b = none := List.forall_mem_cons.mpr ⟨.inr (nL _ (by omega)), fun b hb => .inl hb⟩
      have fl3 : FlownA ((L' + 1) :: kAdr a) (eF L' :: l) _ h3 := FlownA.ofKept kp3 fun b hb => (off_of_led (hNN (eF L') rfl) b hb).2
      (repeat' (first | (first | ((with_reducible first | (rename Gets _ _ => gQ'; refine at_of gQ' ?_; clear gQ'; try (rename (_ → Shared → Prop) => qQ'; clear qQ')) | refine at_of (by assumption) ?_); (try dsimp only)) | (with_reducible (first | refine s_exec ?_ | refine s_comp ?_); (with_reducible ((fail_if_success (refine s_at ?_)); refine cutX ?_; intro _ _)))) | (k_here; (with_reducible show wpAny _ _ (subscriptTail _ (PySem.Expr.Slice none _ none _) (Value.ref _) (Value.ref _)) _ _ _); k_dflt (refine slice_upto (by k_asm) (by k_asm) (by kmk_list) (by first | omega | exact (by assumption : ∀ j : Nat, (0 : Int) ≤ List.getD _ j 0) _) ?_ (by with_unfolding_all rfl) (by kmk_pure) (by (simp only [List.size_toArray, sizeLine_eq]; omega))); intro _ _ _ _ l1zz; (try k_lt l1zz); (try k_sweep)) | (k_here; (with_reducible show wpAny _ _ (compareOp CmpOp.Eq (Value.ref _) (Value.ref _)) _ _ _); k_dflt (refine eq_nil (isL (by k_asm) (by k_mem)) (isL (by k_asm) (by k_mem)) (by (simp only [Around.deeper_units, mkA, cLine]; omega)) ?_)) | (k_here; (rename Mine.FreeTo _ _ _ _ _ => hMzz); (with_reducible show wpAny _ _ (binaryOp _ (Value.ref _) (Value.ref _)) _ _ _); k_dflt (refine add_gen (by k_asm) (by k_asm) (by kmk_list) (by kmk_list) ?_ (by (simp only [sizeLine_eq, List.length_cons, List.length_nil]; omega))); intro _ _ _ _ l1zz; (try k_lt l1zz); (try k_sweep)) | ((with_reducible show wpAny _ _ (eval (Expr.Lambda _ _ _ _) _) _ _ _); (k_here; k_dflt (refine lam_any (by k_asm) (by k_asm) (by k_asm) (by assumption) (by exact rfl) (by k_updF) (by assumption) (by with_unfolding_all exact rfl) ?_ (by with_unfolding_all exact rfl) (by exact rfl); k_whole); intro _ _ _ _ _ _ _ Nzz _ _ l1zz; (try dsimp only at Nzz); (try k_lt l1zz))) | (k_here; (with_reducible show wpAny _ _ (call (Value.ref 158) [Value.ref _, Value.int _ _]) _ _ _); k_dflt (refine literal_use X T (by assumption) (by k_asm) (by k_asm) (by k_updF) (by assumption) (by assumption) (by assumption) (by assumption) (by assumption) (by assumption) (by assumption) (by omega) (by omega) (by omega) (by omega) (by omega) ?_); intro _ _ _ _ _ _ _ _ _ _; (try k_sweep)) | (k_here; (with_reducible show wpAny _ _ (call (Value.ref 151) [Value.ref _, Value.int _ _]) _ _ _); k_dflt (refine draw_use X T (by assumption) (by k_asm) (by k_asm) (by k_updF) (by assumption) (by assumption) (by assumption) (by assumption) (by assumption) (by assumption) (by assumption) (by omega) (by omega) (by omega) (by omega) (by omega) ?_); intro _ _ _ _ _ _ _ _ _ _ _; (try k_sweep)) | (k_here; (with_reducible show wpAny _ _ (call (Value.builtin "len") [Value.ref _]) _ _ _); k_dflt (refine len_base (by k_asm) (by assumption) (by first | size_fits | (simp only [List.size_toArray]; omega)) ?_; k_whole)) | ((fail_if_success (with_reducible first | refine s_done ?_ | refine s_iter ?_ | refine s_tpost ?_ | refine s_while ?_ | refine s_call (by decide) ?_ | refine s_ifexp ?_ | refine s_cend ?_ | refine s_comp ?_ | refine s_srcT ?_ | refine s_src ?_)); (first | (k_unfold; (try dsimp only)) | (k_end; wrow_close) | walk1 | (dsimp only; walk1) | (leave1; walk_say "STEP leave1"; try dsimp only)))))
      have nl3 : ∀ b : Addr, b ∈ (L' + 1 : Addr) :: kAdr a → ∃ ob, (b, ob) ∈ (L' + 1, oc1) :: kLed a d k := fun b hb => let ⟨q, hq, e⟩ := List.mem_map.mp (show b ∈ ((L' + 1, oc1) :: kLed a d k).map (·.1) from hb); ⟨q.2, e ▸ hq⟩
      have hsz9 : its.toArray.size = names.length := by omega
      rw [hsz9] at hI9
      refine (fun fin => ?main) (ledFin (fo := ?fo) (no := ?no) (lq := ?lq) (lp := lp) (its := its) (names := names) (sws := sws) B' FF NN kG' adr0 (nL _ (Nat.le_refl _)) o fl3 hD ?nfc ?hdf ?ndf ?h167 ?n167 okh ?hlo ?nlo (hlpP'.at fun o e => FF.keep _ o e) ?nlp ?PA ?nt ?hlq ?nlq hI9 sp ?sq st)
      case hdf => k_mem
      case h167 => k_mem
      case hlo => k_mem
      case hlq => exact News.isList NN (by k_mem)
      case nfc => exact List.forall_mem_cons.mpr ⟨fun ob e vs q => (by rw [(NN (L' + 1, oc1) (by k_mem)).1] at e; cases e; rw [dc1] at q; cases q), nf_kat (kat_of (prog := prog) (w := w) NN (by lcg_sub) R)⟩
      case ndf => (repeat' (first | exact List.not_mem_nil | (refine notin_cons (by k_ne) ?_)))
      case n167 => (repeat' (first | exact List.not_mem_nil | (refine notin_cons (by k_ne) ?_)))
      case nlo => (repeat' (first | exact List.not_mem_nil | (refine notin_cons (by k_ne) ?_)))
      case nlq => (repeat' (first | exact List.not_mem_nil | (refine notin_cons (by k_ne) ?_)))
      case sq => (repeat' (first | exact List.not_mem_nil | (refine notin_cons (by k_ne) ?_)))
      case nlp => exact notin_cons (list_ne NN (b := L' + 1) (ob := oc1) (by k_mem) hlp') (out4 sp)
      case PA => exact PA'.keep fun o e => FF.keep _ e
      case nt => exact fun t ht => notin_cons (PA'.ne NN (b := L' + 1) (ob := oc1) (by k_mem) t ht) (out4 (st t ht))
      case main =>
        obtain ⟨f1, f2, f3, f4, f5⟩ := fin
        exact .mk (ret _ _ _ _ _ _ _ _ _ f1 f2 hfd (by omega) (by omega) f3 f4 K3 f5 I.push (by omega) (by simp))
  walk1
  (repeat' (first | (first | ((with_reducible first | (rename Gets _ _ => gQ'; refine at_of gQ' ?_; clear gQ'; try (rename (_ → Shared → Prop) => qQ'; clear qQ')) | refine at_of (by assumption) ?_); (try dsimp only)) | (with_reducible (first | refine s_exec ?_ | refine s_comp ?_); (with_reducible ((fail_if_success (refine s_at ?_)); refine cutX ?_; intro _ _)))) | (k_here; (with_reducible show wpAny _ _ (subscriptTail _ (PySem.Expr.Slice none _ none _) (Value.ref _) (Value.ref _)) _ _ _); k_dflt (refine slice_upto (by k_asm) (by k_asm) (by kmk_list) (by first | omega | exact (by assumption : ∀ j : Nat, (0 : Int) ≤ List.getD _ j 0) _) ?_ (by with_unfolding_all rfl) (by kmk_pure) (by (simp only [List.size_toArray, sizeLine_eq]; omega))); intro _ _ _ _ l1zz; (try k_lt l1zz); (try k_sweep)) | (k_here; (with_reducible show wpAny _ _ (compareOp CmpOp.Eq (Value.ref _) (Value.ref _)) _ _ _); k_dflt (refine eq_nil (isL (by k_asm) (by k_mem)) (isL (by k_asm) (by k_mem)) (by (simp only [Around.deeper_units, mkA, cLine]; omega)) ?_)) | (k_here; (rename Mine.FreeTo _ _ _ _ _ => hMzz); (with_reducible show wpAny _ _ (binaryOp _ (Value.ref _) (Value.ref _)) _ _ _); k_dflt (refine add_gen (by k_asm) (by k_asm) (by kmk_list) (by kmk_list) ?_ (by (simp only [sizeLine_eq, List.length_cons, List.length_nil]; omega))); intro _ _ _ _ l1zz; (try k_lt l1zz); (try k_sweep)) | ((with_reducible show wpAny _ _ (eval (Expr.Lambda _ _ _ _) _) _ _ _); (k_here; k_dflt (refine lam_any (by k_asm) (by k_asm) (by k_asm) (by assumption) (by exact rfl) (by k_updF) (by assumption) (by with_unfolding_all exact rfl) ?_ (by with_unfolding_all exact rfl) (by exact rfl); k_whole); intro _ _ _ _ _ _ _ Nzz _ _ l1zz; (try dsimp only at Nzz); (try k_lt l1zz))) | (k_here; (with_reducible show wpAny _ _ (call (Value.ref 158) [Value.ref _, Value.int _ _]) _ _ _); k_dflt (refine literal_use X T (by assumption) (by k_asm) (by k_asm) (by k_updF) (by assumption) (by assumption) (by assumption) (by assumption) (by assumption) (by assumption) (by assumption) (by omega) (by omega) (by omega) (by omega) (by omega) ?_); intro _ _ _ _ _ _ _ _ _ _; (try k_sweep)) | (k_here; (with_reducible show wpAny _ _ (call (Value.ref 151) [Value.ref _, Value.int _ _]) _ _ _); k_dflt (refine draw_use X T (by assumption) (by k_asm) (by k_asm) (by k_updF) (by assumption) (by assumption) (by assumption) (by assumption) (by assumption) (by assumption) (by assumption) (by omega) (by omega) (by omega) (by omega) (by omega) ?_); intro _ _ _ _ _ _ _ _ _ _ _; (try k_sweep)) | (k_here; (with_reducible show wpAny _ _ (call (Value.builtin "len") [Value.ref _]) _ _ _); k_dflt (refine len_base (by k_asm) (by assumption) (by first | size_fits | (simp only [List.size_toArray]; omega)) ?_; k_whole)) | ((fail_if_success (with_reducible refine s_if ?_)); ((fail_if_success (with_reducible first | refine s_done ?_ | refine s_iter ?_ | refine s_tpost ?_ | refine s_while ?_ | refine s_call (by decide) ?_ | refine s_ifexp ?_ | refine s_cend ?_ | refine s_comp ?_ | refine s_srcT ?_ | refine s_src ?_)); (first | (k_unfold; (try dsimp only)) | (k_end; wrow_close) | walk1 | (dsimp only; walk1) | (leave1; walk_say "STEP leave1"; try dsimp only))))))
  · walk1
    all_goals (repeat' (first | (first | ((with_reducible first | (rename Gets _ _ => gQ'; refine at_of gQ' ?_; clear gQ'; try (rename (_ → Shared → Prop) => qQ'; clear qQ')) | refine at_of (by assumption) ?_); (try dsimp only)) | (with_reducible (first | refine s_exec ?_ | refine s_comp ?_); (with_reducible ((fail_if_success (refine s_at ?_)); refine cutX ?_; intro _ _)))) | (k_here; (with_reducible show wpAny _ _ (subscriptTail _ (PySem.Expr.Slice none _ none _) (Value.ref _) (Value.ref _)) _ _ _); k_dflt (refine slice_upto (by k_asm) (by k_asm) (by kmk_list) (by first | omega | exact (by assumption : ∀ j : Nat, (0 : Int) ≤ List.getD _ j 0) _) ?_ (by with_unfolding_all rfl) (by kmk_pure) (by (simp only [List.size_toArray, sizeLine_eq]; omega))); intro _ _ _ _ l1zz; (try k_lt l1zz); (try k_sweep)) | (k_here; (with_reducible show wpAny _ _ (compareOp CmpOp.Eq (Value.ref _) (Value.ref _)) _ _ _); k_dflt (refine eq_nil (isL (by k_asm) (by k_mem)) (isL (by k_asm) (by k_mem)) (by (simp only [Around.deeper_units, mkA, cLine]; omega)) ?_)) | (k_here; (rename Mine.FreeTo _ _ _ _ _ => hMzz); (with_reducible show wpAny _ _ (binaryOp _ (Value.ref _) (Value.ref _)) _ _ _); k_dflt (refine add_gen (by k_asm) (by k_asm) (by kmk_list) (by kmk_list) ?_ (by (simp only [sizeLine_eq, List.length_cons, List.length_nil]; omega))); intro _ _ _ _ l1zz; (try k_lt l1zz); (try k_sweep)) | ((with_reducible show wpAny _ _ (eval (Expr.Lambda _ _ _ _) _) _ _ _); (k_here; k_dflt (refine lam_any (by k_asm) (by k_asm) (by k_asm) (by assumption) (by exact rfl) (by k_updF) (by assumption) (by with_unfolding_all exact rfl) ?_ (by with_unfolding_all exact rfl) (by exact rfl); k_whole); intro _ _ _ _ _ _ _ Nzz _ _ l1zz; (try dsimp only at Nzz); (try k_lt l1zz))) | (k_here; (with_reducible show wpAny _ _ (call (Value.ref 158) [Value.ref _, Value.int _ _]) _ _ _); k_dflt (refine literal_use X T (by assumption) (by k_asm) (by k_asm) (by k_updF) (by assumption) (by assumption) (by assumption) (by assumption) (by assumption) (by assumption) (by assumption) (by omega) (by omega) (by omega) (by omega) (by omega) ?_); intro _ _ _ _ _ _ _ _ _ _; (try k_sweep)) | (k_here; (with_reducible show wpAny _ _ (call (Value.ref 151) [Value.ref _, Value.int _ _]) _ _ _); k_dflt (refine draw_use X T (by assumption) (by k_asm) (by k_asm) (by k_updF) (by assumption) (by assumption) (by assumption) (by assumption) (by assumption) (by assumption) (by assumption) (by omega) (by omega) (by omega) (by omega) (by omega) ?_); intro _ _ _ _ _ _ _ _ _ _ _; (try k_sweep)) | (k_here; (with_reducible show wpAny _ _ (call (Value.builtin "len") [Value.ref _]) _ _ _); k_dflt (refine len_base (by k_asm) (by assumption) (by first | size_fits | (simp only [List.size_toArray]; omega)) ?_; k_whole)) | ((fail_if_success (with_reducible refine s_if ?_)); ((fail_if_success (with_reducible first | refine s_done ?_ | refine s_iter ?_ | refine s_tpost ?_ | refine s_while ?_ | refine s_call (by decide) ?_ | refine s_ifexp ?_ | refine s_cend ?_ | refine s_comp ?_ | refine s_srcT ?_ | refine s_src ?_)); (first | (k_unfold; (try dsimp only)) | (k_end; wrow_close) | walk1 | (dsimp only; walk1) | (leave1; walk_say "STEP leave1"; try dsimp only))))))
    · rename Fr _ _ _ _ => FF
      rename News _ _ _ _ => NN
      rename Heap.CodeRec _ _ _ => hcr
      rename TabOk _ _ _ => okh
      rename feedIs _ _ _ _ _ _ => hfd
      rename (_ = Data.cell (some (Value.int _ _))) => dmany
      rename (_ < (3 : Int)) => hr3
      rename Obj => om
      rename Int => rr
      have hr0 : 0 ≤ rr := by assumption
      have hNN := fun (env : Env) (hfr : env.frame = some L') => led_push (sub := (L' + 1, oc1) :: (L' + 1 + 1, om) :: kLed a d k) (env := env) B' NN (by lcg_sub) hfr
      refine refused_spec (news := (L' + 1, oc1) :: (L' + 1 + 1, om) :: kLed a d k) (PR := fun h => rr.toNat ≤ floors.length ∧ KAt prog w a d (names.take (lev floors names.length rr.toNat)) (sws.take (lev floors names.length rr.toNat)) (floors.take (floors.length - rr.toNat)) h) (PE := ¬ rr.toNat ≤ floors.length) X T ?B (by show dp + 1 ≤ 500; omega) (by show un + 3 ≤ 5000; omega) (hNN _ rfl) (NN _ List.mem_cons_self).1 (fun h e => ⟨_, _, _, _, e⟩) ?deed ?r0 ?r1
      case B => exact pushX B' FF rfl rfl
      case deed =>
        intro env9 L9 s9 Q9 E9 B9 hf9 hk9 hn9 ret9 exc9
        have hfo9 := hk9 _ _ (NN _ List.mem_cons_self).1
        have hcr9 := codeRec_keep hcr hk9
        clear NN FF
        refine wpAny_call ?_
        k_dflt (refine' enterL (news := (L' + 1, oc1) :: (L' + 1 + 1, om) :: kLed a d k) (binds := []) ?k1 ?k2 ?k3 ?k4 ?k6 ?k7 ?k8 ?k9 ?kB ?_ ?c2 ?c3 ?c4 ?c5; (case k1 => exact B9); (case k2 => exact X); (case k3 => exact led_deep (hNN _ rfl) hk9 hf9 hn9); (case k4 => exact T); (case k6 => exact hfo9); (case k7 => exact hcr9); (case k8 => k_room); (case k9 => exact rfl); (case c5 => decide); (case kB => exact locs rfl); (case c2 => exact rfl); (case c3 => exact rfl); (case c4 => exact rfl))
        intro g2 L2 h2 F2 N2 B2 X2 T2 kG2 gS2 l2 nL2
        (try k_lt l2)
        (try dsimp only); (try k_fold)
        (repeat' (first | (first | ((with_reducible first | (rename Gets _ _ => gQ'; refine at_of gQ' ?_; clear gQ'; try (rename (_ → Shared → Prop) => qQ'; clear qQ')) | refine at_of (by assumption) ?_); (try dsimp only)) | (with_reducible (first | refine s_exec ?_ | refine s_comp ?_); (with_reducible ((fail_if_success (refine s_at ?_)); refine cutX ?_; intro _ _)))) | (k_here; (with_reducible show wpAny _ _ (subscriptTail _ (PySem.Expr.Slice none _ none _) (Value.ref _) (Value.ref _)) _ _ _); k_dflt (refine slice_upto (by k_asm) (by k_asm) (by kmk_list) (by first | omega | exact (by assumption : ∀ j : Nat, (0 : Int) ≤ List.getD _ j 0) _) ?_ (by with_unfolding_all rfl) (by kmk_pure) (by (simp only [List.size_toArray, sizeLine_eq]; omega))); intro _ _ _ _ l1zz; (try k_lt l1zz); (try k_sweep)) | (k_here; (with_reducible show wpAny _ _ (compareOp CmpOp.Eq (Value.ref _) (Value.ref _)) _ _ _); k_dflt (refine eq_nil (isL (by k_asm) (by k_mem)) (isL (by k_asm) (by k_mem)) (by (simp only [Around.deeper_units, mkA, cLine]; omega)) ?_)) | (k_here; (rename Mine.FreeTo _ _ _ _ _ => hMzz); (with_reducible show wpAny _ _ (binaryOp _ (Value.ref _) (Value.ref _)) _ _ _); k_dflt (refine add_gen (by k_asm) (by k_asm) (by kmk_list) (by kmk_list) ?_ (by (simp only [sizeLine_eq, List.length_cons, List.length_nil]; omega))); intro _ _ _ _ l1zz; (try k_lt l1zz); (try k_sweep)) | ((with_reducible show wpAny _ _ (eval (Expr.Lambda _ _ _ _) _) _ _ _); (k_here; k_dflt (refine lam_any (by k_asm) (by k_asm) (by k_asm) (by assumption) (by exact rfl) (by k_updF) (by assumption) (by with_unfolding_all exact rfl) ?_ (by with_unfolding_all exact rfl) (by exact rfl); k_whole); intro _ _ _ _ _ _ _ Nzz _ _ l1zz; (try dsimp only at Nzz); (try k_lt l1zz))) | (k_here; (with_reducible show wpAny _ _ (call (Value.ref 158) [Value.ref _, Value.int _ _]) _ _ _); k_dflt (refine literal_use X T (by assumption) (by k_asm) (by k_asm) (by k_updF) (by assumption) (by assumption) (by assumption) (by assumption) (by assumption) (by assumption) (by assumption) (by omega) (by omega) (by omega) (by omega) (by omega) ?_); intro _ _ _ _ _ _ _ _ _ _; (try k_sweep)) | (k_here; (with_reducible show wpAny _ _ (call (Value.ref 151) [Value.ref _, Value.int _ _]) _ _ _); k_dflt (refine draw_use X T (by assumption) (by k_asm) (by k_asm) (by k_updF) (by assumption) (by assumption) (by assumption) (by assumption) (by assumption) (by assumption) (by assumption) (by omega) (by omega) (by omega) (by omega) (by omega) ?_); intro _ _ _ _ _ _ _ _ _ _ _; (try k_sweep)) | (k_here; (with_reducible show wpAny _ _ (call (Value.builtin "len") [Value.ref _]) _ _ _); k_dflt (refine len_base (by k_asm) (by assumption) (by first | size_fits | (simp only [List.size_toArray]; omega)) ?_; k_whole)) | ((fail_if_success (with_reducible first | refine s_done ?_ | refine s_iter ?_ | refine s_tpost ?_ | refine s_while ?_ | refine s_call (by decide) ?_ | refine s_ifexp ?_ | refine s_cend ?_ | refine s_comp ?_ | refine s_srcT ?_ | refine s_src ?_)); (first | (k_unfold; (try dsimp only)) | (k_end; wrow_close) | walk1 | (dsimp only; walk1) | (leave1; walk_say "STEP leave1"; try dsimp only)))))
        show wpAny _ _ (call (.ref 104) [.ref a.ik, .int rr _]) _ _ _
        refine pop_specI hprog hsup X T ?B9 (by show dp + 1 + 1 + 1 ≤ 590; omega) OO (off_of_led (led_push (sub := kLed a d k) B2 N2 (fun q hq => List.mem_cons_of_mem _ (List.mem_cons_of_mem _ hq)) rfl)) (kat_of N2 (fun q hq => List.mem_cons_of_mem _ (List.mem_cons_of_mem _ hq)) R) (by omega) I (by omega) hr0 (by omega) ?_ ?_
        case B9 => exact pushX B2 F2 rfl rfl
        · intro hle3 h3 tk3 kp3 K3
          exact .mk (ret9 _ _ _ (Kept.mono (fun b ob e n => kp3 b ob (allKept (led_deep (hNN (eF L') rfl) hk9 hf9 hn9) kG2 F2 N2 b ob e) n) (fun b hb => List.mem_cons_of_mem _ (List.mem_cons_of_mem _ hb))) ⟨hle3, K3⟩)
        · intro hle3 h3 e3 tk3 R3
          refine leave2 B2 rfl rfl F2 (allKept (led_deep (hNN (eF L') rfl) hk9 hf9 hn9) kG2 F2 N2) nL2 R3 fun h4 R4 => ?_
          exact exc9 hle3 _ _ _ R4
      case r0 =>
        intro h3 tk3 kp3 K3
        obtain ⟨hle3, K3⟩ := K3
        have hD : ∀ b ∈ (L' + 1 : Addr) :: (L' + 1 + 1 : Addr) :: kAdr a, b ∈ kAdr a ∨ s.heap.get? b = none := List.forall_mem_cons.mpr ⟨.inr (nL _ (by omega)), List.forall_mem_cons.mpr ⟨.inr (nL _ (by omega)), fun b hb => .inl hb⟩⟩
        have fl3 : FlownA ((L' + 1) :: (L' + 1 + 1) :: kAdr a) (eF L' :: l) _ h3 := FlownA.ofKept kp3 fun b hb => (off_of_led (hNN (eF L') rfl) b hb).2
        have F3 := fr_kept (sub := (L' + 1, oc1) :: (L' + 1 + 1, om) :: kLed a d k) FF NN (by lcg_sub) kp3
        (repeat' (first | (first | ((with_reducible first | (rename Gets _ _ => gQ'; refine at_of gQ' ?_; clear gQ'; try (rename (_ → Shared → Prop) => qQ'; clear qQ')) | refine at_of (by assumption) ?_); (try dsimp only)) | (with_reducible (first | refine s_exec ?_ | refine s_comp ?_); (with_reducible ((fail_if_success (refine s_at ?_)); refine cutX ?_; intro _ _)))) | (k_here; (with_reducible show wpAny _ _ (subscriptTail _ (PySem.Expr.Slice none _ none _) (Value.ref _) (Value.ref _)) _ _ _); k_dflt (refine slice_upto (by k_asm) (by k_asm) (by kmk_list) (by first | omega | exact (by assumption : ∀ j : Nat, (0 : Int) ≤ List.getD _ j 0) _) ?_ (by with_unfolding_all rfl) (by kmk_pure) (by (simp only [List.size_toArray, sizeLine_eq]; omega))); intro _ _ _ _ l1zz; (try k_lt l1zz); (try k_sweep)) | (k_here; (with_reducible show wpAny _ _ (compareOp CmpOp.Eq (Value.ref _) (Value.ref _)) _ _ _); k_dflt (refine eq_nil (isL (by k_asm) (by k_mem)) (isL (by k_asm) (by k_mem)) (by (simp only [Around.deeper_units, mkA, cLine]; omega)) ?_)) | (k_here; (rename Mine.FreeTo _ _ _ _ _ => hMzz); (with_reducible show wpAny _ _ (binaryOp _ (Value.ref _) (Value.ref _)) _ _ _); k_dflt (refine add_gen (by k_asm) (by k_asm) (by kmk_list) (by kmk_list) ?_ (by (simp only [sizeLine_eq, List.length_cons, List.length_nil]; omega))); intro _ _ _ _ l1zz; (try k_lt l1zz); (try k_sweep)) | ((with_reducible show wpAny _ _ (eval (Expr.Lambda _ _ _ _) _) _ _ _); (k_here; k_dflt (refine lam_any (by k_asm) (by k_asm) (by k_asm) (by assumption) (by exact rfl) (by k_updF) (by assumption) (by with_unfolding_all exact rfl) ?_ (by with_unfolding_all exact rfl) (by exact rfl); k_whole); intro _ _ _ _ _ _ _ Nzz _ _ l1zz; (try dsimp only at Nzz); (try k_lt l1zz))) | (k_here; (with_reducible show wpAny _ _ (call (Value.ref 158) [Value.ref _, Value.int _ _]) _ _ _); k_dflt (refine literal_use X T (by assumption) (by k_asm) (by k_asm) (by k_updF) (by assumption) (by assumption) (by assumption) (by assumption) (by assumption) (by assumption) (by assumption) (by omega) (by omega) (by omega) (by omega) (by omega) ?_); intro _ _ _ _ _ _ _ _ _ _; (try k_sweep)) | (k_here; (with_reducible show wpAny _ _ (call (Value.ref 151) [Value.ref _, Value.int _ _]) _ _ _); k_dflt (refine draw_use X T (by assumption) (by k_asm) (by k_asm) (by k_updF) (by assumption) (by assumption) (by assumption) (by assumption) (by assumption) (by assumption) (by assumption) (by omega) (by omega) (by omega) (by omega) (by omega) ?_); intro _ _ _ _ _ _ _ _ _ _ _; (try k_sweep)) | (k_here; (with_reducible show wpAny _ _ (call (Value.builtin "len") [Value.ref _]) _ _ _); k_dflt (refine len_base (by k_asm) (by assumption) (by first | size_fits | (simp only [List.size_toArray]; omega)) ?_; k_whole)) | ((fail_if_success (with_reducible first | refine s_done ?_ | refine s_iter ?_ | refine s_tpost ?_ | refine s_while ?_ | refine s_call (by decide) ?_ | refine s_ifexp ?_ | refine s_cend ?_ | refine s_comp ?_ | refine s_srcT ?_ | refine s_src ?_)); (first | (k_unfold; (try dsimp only)) | (k_end; wrow_close) | walk1 | (dsimp only; walk1) | (leave1; walk_say "STEP leave1"; try dsimp only)))))
        refine (fun fin => ?main_1) (ledFin (names := names.take (lev floors names.length rr.toNat)) (sws := sws.take (lev floors names.length rr.toNat)) (floors := floors.take (floors.length - rr.toNat)) (fvs := ?fvs_1) (fo := ?fo_1) (no := ?no_1) (lq := ?lq_1) (lp := ?lp_1) (its := ?its_1) B' FF NN kG' adr0 (nL _ (Nat.le_refl _)) o fl3 hD ?nfc_1 ?hdf_1 ?ndf_1 ?h167_1 ?n167_1 okh ?hlo_1 ?nlo_1 ?hlp_1 ?nlp_1 ?PA_1 ?nt_1 ?hlq_1 ?nlq_1 ?hI_1 ?sp_1 ?sq_1 ?st_1)
        case hdf_1 => k_mem
        case h167_1 => k_mem
        case hlo_1 => k_mem
        case ndf_1 => (repeat' (first | exact List.not_mem_nil | (refine notin_cons (by k_ne) ?_)))
        case n167_1 => (repeat' (first | exact List.not_mem_nil | (refine notin_cons (by k_ne) ?_)))
        case nlo_1 => (repeat' (first | exact List.not_mem_nil | (refine notin_cons (by k_ne) ?_)))
        case nfc_1 => exact List.forall_mem_cons.mpr ⟨fun ob e vs q => (by rw [(NN (L' + 1, oc1) (by k_mem)).1] at e; cases e; rw [dc1] at q; cases q), List.forall_mem_cons.mpr ⟨fun ob e vs q => (by rw [(NN (L' + 1 + 1, om) (by k_mem)).1] at e; cases e; rw [dmany] at q; cases q), nf_kat (kat_of (prog := prog) (w := w) NN (by lcg_sub) R)⟩⟩
        case hlp_1 => exact PlainL.ofNews NN (by k_mem)
        case hlq_1 => exact News.isList NN (by k_mem)
        case nlp_1 => (repeat' (first | exact List.not_mem_nil | (refine notin_cons (by k_ne) ?_)))
        case nlq_1 => (repeat' (first | exact List.not_mem_nil | (refine notin_cons (by k_ne) ?_)))
        case sp_1 => (repeat' (first | exact List.not_mem_nil | (refine notin_cons (by k_ne) ?_)))
        case sq_1 => (repeat' (first | exact List.not_mem_nil | (refine notin_cons (by k_ne) ?_)))
        case PA_1 =>
          rw [hs2, hs3, lev_item (by assumption) hle3]
          exact (PA'.keep fun o e => FF.keep _ e).take _
        case nt_1 => exact fun t ht => notin_cons (PA'.ne NN (b := L' + 1) (ob := oc1) (by k_mem) t (List.mem_of_mem_take ht)) (notin_cons (PA'.ne NN (b := L' + 1 + 1) (ob := om) (by k_mem) t (List.mem_of_mem_take ht)) (out4 (st t (List.mem_of_mem_take ht))))
        case st_1 => exact fun t ht => st t (List.mem_of_mem_take ht)
        case hI_1 =>
          rw [less_at (a := fvs.toArray.size) (b := floors.length) rfl (by rw [List.size_toArray]; exact hfv.length) (by assumption) (by assumption)]
          exact hfv.take _
        case main_1 =>
          obtain ⟨f1, f2, f3, f4, f5⟩ := fin
          have hv : decide (rr ≤ (fvs.toArray.size : Int)) = true := decide_eq_true (by omega)
          try rw [hv]
          try dsimp only
          exact .mk (ret _ _ _ _ _ _ _ _ _ f1 f2 hfd (by omega) (by omega) f3 f4 K3 f5 (I.take hle3) (by simp; omega) (by simp; omega))
      case r1 =>
        intro hle3
        exact absurd hle3 (by omega)
    · rename Fr _ _ _ _ => FF
      rename News _ _ _ _ => NN
      rename Heap.CodeRec _ _ _ => hcr
      rename TabOk _ _ _ => okh
      rename feedIs _ _ _ _ _ _ => hfd
      rename (_ = Data.cell (some (Value.int _ _))) => dmany
      rename (_ < (3 : Int)) => hr3
      rename Obj => om
      rename Int => rr
      have hr0 : 0 ≤ rr := by assumption
      have hNN := fun (env : Env) (hfr : env.frame = some L') => led_push (sub := (L' + 1, oc1) :: (L' + 1 + 1, om) :: kLed a d k) (env := env) B' NN (by lcg_sub) hfr
      refine refused_spec (news := (L' + 1, oc1) :: (L' + 1 + 1, om) :: kLed a d k) (PR := fun h => rr.toNat ≤ floors.length ∧ KAt prog w a d (names.take (lev floors names.length rr.toNat)) (sws.take (lev floors names.length rr.toNat)) (floors.take (floors.length - rr.toNat)) h) (PE := ¬ rr.toNat ≤ floors.length) X T ?B (by show dp + 1 ≤ 500; omega) (by show un + 3 ≤ 5000; omega) (hNN _ rfl) (NN _ List.mem_cons_self).1 (fun h e => ⟨_, _, _, _, e⟩) ?deed ?r0 ?r1
      case B => exact pushX B' FF rfl rfl
      case deed =>
        intro env9 L9 s9 Q9 E9 B9 hf9 hk9 hn9 ret9 exc9
        have hfo9 := hk9 _ _ (NN _ List.mem_cons_self).1
        have hcr9 := codeRec_keep hcr hk9
        clear NN FF
        refine wpAny_call ?_
        k_dflt (refine' enterL (news := (L' + 1, oc1) :: (L' + 1 + 1, om) :: kLed a d k) (binds := []) ?k1 ?k2 ?k3 ?k4 ?k6 ?k7 ?k8 ?k9 ?kB ?_ ?c2 ?c3 ?c4 ?c5; (case k1 => exact B9); (case k2 => exact X); (case k3 => exact led_deep (hNN _ rfl) hk9 hf9 hn9); (case k4 => exact T); (case k6 => exact hfo9); (case k7 => exact hcr9); (case k8 => k_room); (case k9 => exact rfl); (case c5 => decide); (case kB => exact locs rfl); (case c2 => exact rfl); (case c3 => exact rfl); (case c4 => exact rfl))
        intro g2 L2 h2 F2 N2 B2 X2 T2 kG2 gS2 l2 nL2
        (try k_lt l2)
        (try dsimp only); (try k_fold)
        (repeat' (first | (first | ((with_reducible first | (rename Gets _ _ => gQ'; refine at_of gQ' ?_; clear gQ'; try (rename (_ → Shared → Prop) => qQ'; clear qQ')) | refine at_of (by assumption) ?_); (try dsimp only)) | (with_reducible (first | refine s_exec ?_ | refine s_comp ?_); (with_reducible ((fail_if_success (refine s_at ?_)); refine cutX ?_; intro _ _)))) | (k_here; (with_reducible show wpAny _ _ (subscriptTail _ (PySem.Expr.Slice none _ none _) (Value.ref _) (Value.ref _)) _ _ _); k_dflt (refine slice_upto (by k_asm) (by k_asm) (by kmk_list) (by first | omega | exact (by assumption : ∀ j : Nat, (0 : Int) ≤ List.getD _ j 0) _) ?_ (by with_unfolding_all rfl) (by kmk_pure) (by (simp only [List.size_toArray, sizeLine_eq]; omega))); intro _ _ _ _ l1zz; (try k_lt l1zz); (try k_sweep)) | (k_here; (with_reducible show wpAny _ _ (compareOp CmpOp.Eq (Value.ref _) (Value.ref _)) _ _ _); k_dflt (refine eq_nil (isL (by k_asm) (by k_mem)) (isL (by k_asm) (by k_mem)) (by (simp only [Around.deeper_units, mkA, cLine]; omega)) ?_)) | (k_here; (rename Mine.FreeTo _ _ _ _ _ => hMzz); (with_reducible show wpAny _ _ (binaryOp _ (Value.ref _) (Value.ref _)) _ _ _); k_dflt (refine add_gen (by k_asm) (by k_asm) (by kmk_list) (by kmk_list) ?_ (by (simp only [sizeLine_eq, List.length_cons, List.length_nil]; omega))); intro _ _ _ _ l1zz; (try k_lt l1zz); (try k_sweep)) | ((with_reducible show wpAny _ _ (eval (Expr.Lambda _ _ _ _) _) _ _ _); (k_here; k_dflt (refine lam_any (by k_asm) (by k_asm) (by k_asm) (by assumption) (by exact rfl) (by k_updF) (by assumption) (by with_unfolding_all exact rfl) ?_ (by with_unfolding_all exact rfl) (by exact rfl); k_whole); intro _ _ _ _ _ _ _ Nzz _ _ l1zz; (try dsimp only at Nzz); (try k_lt l1zz))) | (k_here; (with_reducible show wpAny _ _ (call (Value.ref 158) [Value.ref _, Value.int _ _]) _ _ _); k_dflt (refine literal_use X T (by assumption) (by k_asm) (by k_asm) (by k_updF) (by assumption) (by assumption) (by assumption) (by assumption) (by assumption) (by assumption) (by assumption) (by omega) (by omega) (by omega) (by omega) (by omega) ?_); intro _ _ _ _ _ _ _ _ _ _; (try k_sweep)) | (k_here; (with_reducible show wpAny _ _ (call (Value.ref 151) [Value.ref _, Value.int _ _]) _ _ _); k_dflt (refine draw_use X T (by assumption) (by k_asm) (by k_asm) (by k_updF) (by assumption) (by assumption) (by assumption) (by assumption) (by assumption) (by assumption) (by assumption) (by omega) (by omega) (by omega) (by omega) (by omega) ?_); intro _ _ _ _ _ _ _ _ _ _ _; (try k_sweep)) | (k_here; (with_reducible show wpAny _ _ (call (Value.builtin "len") [Value.ref _]) _ _ _); k_dflt (refine len_base (by k_asm) (by assumption) (by first | size_fits | (simp only [List.size_toArray]; omega)) ?_; k_whole)) | ((fail_if_success (with_reducible first | refine s_done ?_ | refine s_iter ?_ | refine s_tpost ?_ | refine s_while ?_ | refine s_call (by decide) ?_ | refine s_ifexp ?_ | refine s_cend ?_ | refine s_comp ?_ | refine s_srcT ?_ | refine s_src ?_)); (first | (k_unfold; (try dsimp only)) | (k_end; wrow_close) | walk1 | (dsimp only; walk1) | (leave1; walk_say "STEP leave1"; try dsimp only)))))
        show wpAny _ _ (call (.ref 104) [.ref a.ik, .int rr _]) _ _ _
        refine pop_specI hprog hsup X T ?B9 (by show dp + 1 + 1 + 1 ≤ 590; omega) OO (off_of_led (led_push (sub := kLed a d k) B2 N2 (fun q hq => List.mem_cons_of_mem _ (List.mem_cons_of_mem _ hq)) rfl)) (kat_of N2 (fun q hq => List.mem_cons_of_mem _ (List.mem_cons_of_mem _ hq)) R) (by omega) I (by omega) hr0 (by omega) ?_ ?_
        case B9 => exact pushX B2 F2 rfl rfl
        · intro hle3 h3 tk3 kp3 K3
          exact .mk (ret9 _ _ _ (Kept.mono (fun b ob e n => kp3 b ob (allKept (led_deep (hNN (eF L') rfl) hk9 hf9 hn9) kG2 F2 N2 b ob e) n) (fun b hb => List.mem_cons_of_mem _ (List.mem_cons_of_mem _ hb))) ⟨hle3, K3⟩)
        · intro hle3 h3 e3 tk3 R3
          refine leave2 B2 rfl rfl F2 (allKept (led_deep (hNN (eF L') rfl) hk9 hf9 hn9) kG2 F2 N2) nL2 R3 fun h4 R4 => ?_
          exact exc9 hle3 _ _ _ R4
      case r0 =>
        intro h3 tk3 kp3 K3
        obtain ⟨hle3, K3⟩ := K3
        have hD : ∀ b ∈ (L' + 1 : Addr) :: (L' + 1 + 1 : Addr) :: kAdr a, b ∈ kAdr a ∨ s.heap.get? b = none := List.forall_mem_cons.mpr ⟨.inr (nL _ (by omega)), List.forall_mem_cons.mpr ⟨.inr (nL _ (by omega)), fun b hb => .inl hb⟩⟩
        have fl3 : FlownA ((L' + 1) :: (L' + 1 + 1) :: kAdr a) (eF L' :: l) _ h3 := FlownA.ofKept kp3 fun b hb => (off_of_led (hNN (eF L') rfl) b hb).2
        have F3 := fr_kept (sub := (L' + 1, oc1) :: (L' + 1 + 1, om) :: kLed a d k) FF NN (by lcg_sub) kp3
        have hrz : rr.toNat = 0 := by omega
        rw [hrz, show lev floors names.length 0 = names.length from rfl, List.take_length, I.len, List.take_length, Nat.sub_zero, List.take_length] at K3
        (repeat' (first | (first | ((with_reducible first | (rename Gets _ _ => gQ'; refine at_of gQ' ?_; clear gQ'; try (rename (_ → Shared → Prop) => qQ'; clear qQ')) | refine at_of (by assumption) ?_); (try dsimp only)) | (with_reducible (first | refine s_exec ?_ | refine s_comp ?_); (with_reducible ((fail_if_success (refine s_at ?_)); refine cutX ?_; intro _ _)))) | (k_here; (with_reducible show wpAny _ _ (subscriptTail _ (PySem.Expr.Slice none _ none _) (Value.ref _) (Value.ref _)) _ _ _); k_dflt (refine slice_upto (by k_asm) (by k_asm) (by kmk_list) (by first | omega | exact (by assumption : ∀ j : Nat, (0 : Int) ≤ List.getD _ j 0) _) ?_ (by with_unfolding_all rfl) (by kmk_pure) (by (simp only [List.size_toArray, sizeLine_eq]; omega))); intro _ _ _ _ l1zz; (try k_lt l1zz); (try k_sweep)) | (k_here; (with_reducible show wpAny _ _ (compareOp CmpOp.Eq (Value.ref _) (Value.ref _)) _ _ _); k_dflt (refine eq_nil (isL (by k_asm) (by k_mem)) (isL (by k_asm) (by k_mem)) (by (simp only [Around.deeper_units, mkA, cLine]; omega)) ?_)) | (k_here; (rename Mine.FreeTo _ _ _ _ _ => hMzz); (with_reducible show wpAny _ _ (binaryOp _ (Value.ref _) (Value.ref _)) _ _ _); k_dflt (refine add_gen (by k_asm) (by k_asm) (by kmk_list) (by kmk_list) ?_ (by (simp only [sizeLine_eq, List.length_cons, List.length_nil]; omega))); intro _ _ _ _ l1zz; (try k_lt l1zz); (try k_sweep)) | ((with_reducible show wpAny _ _ (eval (Expr.Lambda _ _ _ _) _) _ _ _); (k_here; k_dflt (refine lam_any (by k_asm) (by k_asm) (by k_asm) (by assumption) (by exact rfl) (by k_updF) (by assumption) (by with_unfolding_all exact rfl) ?_ (by with_unfolding_all exact rfl) (by exact rfl); k_whole); intro _ _ _ _ _ _ _ Nzz _ _ l1zz; (try dsimp only at Nzz); (try k_lt l1zz))) | (k_here; (with_reducible show wpAny _ _ (call (Value.ref 158) [Value.ref _, Value.int _ _]) _ _ _); k_dflt (refine literal_use X T (by assumption) (by k_asm) (by k_asm) (by k_updF) (by assumption) (by assumption) (by assumption) (by assumption) (by assumption) (by assumption) (by assumption) (by omega) (by omega) (by omega) (by omega) (by omega) ?_); intro _ _ _ _ _ _ _ _ _ _; (try k_sweep)) | (k_here; (with_reducible show wpAny _ _ (call (Value.ref 151) [Value.ref _, Value.int _ _]) _ _ _); k_dflt (refine draw_use X T (by assumption) (by k_asm) (by k_asm) (by k_updF) (by assumption) (by assumption) (by assumption) (by assumption) (by assumption) (by assumption) (by assumption) (by omega) (by omega) (by omega) (by omega) (by omega) ?_); intro _ _ _ _ _ _ _ _ _ _ _; (try k_sweep)) | (k_here; (with_reducible show wpAny _ _ (call (Value.builtin "len") [Value.ref _]) _ _ _); k_dflt (refine len_base (by k_asm) (by assumption) (by first | size_fits | (simp only [List.size_toArray]; omega)) ?_; k_whole)) | ((fail_if_success (with_reducible first | refine s_done ?_ | refine s_iter ?_ | refine s_tpost ?_ | refine s_while ?_ | refine s_call (by decide) ?_ | refine s_ifexp ?_ | refine s_cend ?_ | refine s_comp ?_ | refine s_srcT ?_ | refine s_src ?_)); (first | (k_unfold; (try dsimp only)) | (k_end; wrow_close) | walk1 | (dsimp only; walk1) | (leave1; walk_say "STEP leave1"; try dsimp only)))))
        refine (fun fin => ?main_2) (ledFin (names := names) (sws := sws) (floors := floors) (fvs := fvs) (fo := ?fo_2) (no := ?no_2) (lq := lq) (lp := lp) (its := its) B' FF NN kG' adr0 (nL _ (Nat.le_refl _)) o fl3 hD ?nfc_2 ?hdf_2 ?ndf_2 ?h167_2 ?n167_2 okh ?hlo_2 ?nlo_2 ?hlp_2 ?nlp_2 ?PA_2 ?nt_2 ?hlq_2 ?nlq_2 ?hI_2 ?sp_2 ?sq_2 ?st_2)
        case hdf_2 => k_mem
        case h167_2 => k_mem
        case hlo_2 => k_mem
        case ndf_2 => (repeat' (first | exact List.not_mem_nil | (refine notin_cons (by k_ne) ?_)))
        case n167_2 => (repeat' (first | exact List.not_mem_nil | (refine notin_cons (by k_ne) ?_)))
        case nlo_2 => (repeat' (first | exact List.not_mem_nil | (refine notin_cons (by k_ne) ?_)))
        case nfc_2 => exact List.forall_mem_cons.mpr ⟨fun ob e vs q => (by rw [(NN (L' + 1, oc1) (by k_mem)).1] at e; cases e; rw [dc1] at q; cases q), List.forall_mem_cons.mpr ⟨fun ob e vs q => (by rw [(NN (L' + 1 + 1, om) (by k_mem)).1] at e; cases e; rw [dmany] at q; cases q), nf_kat (kat_of (prog := prog) (w := w) NN (by lcg_sub) R)⟩⟩
        case hlp_2 => exact hlpP'.at fun o e => FF.keep _ o e
        case hlq_2 => exact hlq'.at fun o e => FF.keep _ o e
        case PA_2 => exact PA'.keep fun o e => FF.keep _ e
        case hI_2 => exact hfv
        case sp_2 => exact sp
        case sq_2 => exact sq
        case st_2 => exact st
        case nlp_2 => exact notin_cons (list_ne NN (b := L' + 1) (ob := oc1) (by k_mem) hlp') (notin_cons (list_ne NN (b := L' + 1 + 1) (ob := om) (by k_mem) hlp') (out4 sp))
        case nlq_2 => exact notin_cons (list_ne NN (b := L' + 1) (ob := oc1) (by k_mem) hlq') (notin_cons (list_ne NN (b := L' + 1 + 1) (ob := om) (by k_mem) hlq') (out4 sq))
        case nt_2 => exact fun t ht => notin_cons (PA'.ne NN (b := L' + 1) (ob := oc1) (by k_mem) t ht) (notin_cons (PA'.ne NN (b := L' + 1 + 1) (ob := om) (by k_mem) t ht) (out4 (st t ht)))
        case main_2 =>
          obtain ⟨f1, f2, f3, f4, f5⟩ := fin
          have hv : decide (rr ≤ (fvs.toArray.size : Int)) = true := decide_eq_true (by omega)
          try rw [hv]
          try dsimp only
          exact .mk (ret _ _ _ _ _ _ _ _ _ f1 f2 hfd (by omega) (by omega) f3 f4 K3 f5 I (by omega) (by omega))
      case r1 =>
        intro hle3
        exact absurd hle3 (by omega)
    · rename Fr _ _ _ _ => FF
      rename News _ _ _ _ => NN
      rename Heap.CodeRec _ _ _ => hcr
      rename TabOk _ _ _ => okh
      rename feedIs _ _ _ _ _ _ => hfd
      rename (_ = Data.cell (some (Value.int _ _))) => dmany
      rename (_ < (3 : Int)) => hr3
      rename Obj => om
      rename Int => rr
      have hr0 : 0 ≤ rr := by assumption
      have hNN := fun (env : Env) (hfr : env.frame = some L') => led_push (sub := (L' + 1, oc1) :: (L' + 1 + 1, om) :: kLed a d k) (env := env) B' NN (by lcg_sub) hfr
      refine refused_spec (news := (L' + 1, oc1) :: (L' + 1 + 1, om) :: kLed a d k) (PR := fun h => rr.toNat ≤ floors.length ∧ KAt prog w a d (names.take (lev floors names.length rr.toNat)) (sws.take (lev floors names.length rr.toNat)) (floors.take (floors.length - rr.toNat)) h) (PE := ¬ rr.toNat ≤ floors.length) X T ?B (by show dp + 1 ≤ 500; omega) (by show un + 3 ≤ 5000; omega) (hNN _ rfl) (NN _ List.mem_cons_self).1 (fun h e => ⟨_, _, _, _, e⟩) ?deed ?r0 ?r1
      case B => exact pushX B' FF rfl rfl
      case deed =>
        intro env9 L9 s9 Q9 E9 B9 hf9 hk9 hn9 ret9 exc9
        have hfo9 := hk9 _ _ (NN _ List.mem_cons_self).1
        have hcr9 := codeRec_keep hcr hk9
        clear NN FF
        refine wpAny_call ?_
        k_dflt (refine' enterL (news := (L' + 1, oc1) :: (L' + 1 + 1, om) :: kLed a d k) (binds := []) ?k1 ?k2 ?k3 ?k4 ?k6 ?k7 ?k8 ?k9 ?kB ?_ ?c2 ?c3 ?c4 ?c5; (case k1 => exact B9); (case k2 => exact X); (case k3 => exact led_deep (hNN _ rfl) hk9 hf9 hn9); (case k4 => exact T); (case k6 => exact hfo9); (case k7 => exact hcr9); (case k8 => k_room); (case k9 => exact rfl); (case c5 => decide); (case kB => exact locs rfl); (case c2 => exact rfl); (case c3 => exact rfl); (case c4 => exact rfl))
        intro g2 L2 h2 F2 N2 B2 X2 T2 kG2 gS2 l2 nL2
        (try k_lt l2)
        (try dsimp only); (try k_fold)
        (repeat' (first | (first | ((with_reducible first | (rename Gets _ _ => gQ'; refine at_of gQ' ?_; clear gQ'; try (rename (_ → Shared → Prop) => qQ'; clear qQ')) | refine at_of (by assumption) ?_); (try dsimp only)) | (with_reducible (first | refine s_exec ?_ | refine s_comp ?_); (with_reducible ((fail_if_success (refine s_at ?_)); refine cutX ?_; intro _ _)))) | (k_here; (with_reducible show wpAny _ _ (subscriptTail _ (PySem.Expr.Slice none _ none _) (Value.ref _) (Value.ref _)) _ _ _); k_dflt (refine slice_upto (by k_asm) (by k_asm) (by kmk_list) (by first | omega | exact (by assumption : ∀ j : Nat, (0 : Int) ≤ List.getD _ j 0) _) ?_ (by with_unfolding_all rfl) (by kmk_pure) (by (simp only [List.size_toArray, sizeLine_eq]; omega))); intro _ _ _ _ l1zz; (try k_lt l1zz); (try k_sweep)) | (k_here; (with_reducible show wpAny _ _ (compareOp CmpOp.Eq (Value.ref _) (Value.ref _)) _ _ _); k_dflt (refine eq_nil (isL (by k_asm) (by k_mem)) (isL (by k_asm) (by k_mem)) (by (simp only [Around.deeper_units, mkA, cLine]; omega)) ?_)) | (k_here; (rename Mine.FreeTo _ _ _ _ _ => hMzz); (with_reducible show wpAny _ _ (binaryOp _ (Value.ref _) (Value.ref _)) _ _ _); k_dflt (refine add_gen (by k_asm) (by k_asm) (by kmk_list) (by kmk_list) ?_ (by (simp only [sizeLine_eq, List.length_cons, List.length_nil]; omega))); intro _ _ _ _ l1zz; (try k_lt l1zz); (try k_sweep)) | ((with_reducible show wpAny _ _ (eval (Expr.Lambda _ _ _ _) _) _ _ _); (k_here; k_dflt (refine lam_any (by k_asm) (by k_asm) (by k_asm) (by assumption) (by exact rfl) (by k_updF) (by assumption) (by with_unfolding_all exact rfl) ?_ (by with_unfolding_all exact rfl) (by exact rfl); k_whole); intro _ _ _ _ _ _ _ Nzz _ _ l1zz; (try dsimp only at Nzz); (try k_lt l1zz))) | (k_here; (with_reducible show wpAny _ _ (call (Value.ref 158) [Value.ref _, Value.int _ _]) _ _ _); k_dflt (refine literal_use X T (by assumption) (by k_asm) (by k_asm) (by k_updF) (by assumption) (by assumption) (by assumption) (by assumption) (by assumption) (by assumption) (by assumption) (by omega) (by omega) (by omega) (by omega) (by omega) ?_); intro _ _ _ _ _ _ _ _ _ _; (try k_sweep)) | (k_here; (with_reducible show wpAny _ _ (call (Value.ref 151) [Value.ref _, Value.int _ _]) _ _ _); k_dflt (refine draw_use X T (by assumption) (by k_asm) (by k_asm) (by k_updF) (by assumption) (by assumption) (by assumption) (by assumption) (by assumption) (by assumption) (by assumption) (by omega) (by omega) (by omega) (by omega) (by omega) ?_); intro _ _ _ _ _ _ _ _ _ _ _; (try k_sweep)) | (k_here; (with_reducible show wpAny _ _ (call (Value.builtin "len") [Value.ref _]) _ _ _); k_dflt (refine len_base (by k_asm) (by assumption) (by first | size_fits | (simp only [List.size_toArray]; omega)) ?_; k_whole)) | ((fail_if_success (with_reducible first | refine s_done ?_ | refine s_iter ?_ | refine s_tpost ?_ | refine s_while ?_ | refine s_call (by decide) ?_ | refine s_ifexp ?_ | refine s_cend ?_ | refine s_comp ?_ | refine s_srcT ?_ | refine s_src ?_)); (first | (k_unfold; (try dsimp only)) | (k_end; wrow_close) | walk1 | (dsimp only; walk1) | (leave1; walk_say "STEP leave1"; try dsimp only)))))
        show wpAny _ _ (call (.ref 104) [.ref a.ik, .int rr _]) _ _ _
        refine pop_specI hprog hsup X T ?B9 (by show dp + 1 + 1 + 1 ≤ 590; omega) OO (off_of_led (led_push (sub := kLed a d k) B2 N2 (fun q hq => List.mem_cons_of_mem _ (List.mem_cons_of_mem _ hq)) rfl)) (kat_of N2 (fun q hq => List.mem_cons_of_mem _ (List.mem_cons_of_mem _ hq)) R) (by omega) I (by omega) hr0 (by omega) ?_ ?_
        case B9 => exact pushX B2 F2 rfl rfl
        · intro hle3 h3 tk3 kp3 K3
          exact .mk (ret9 _ _ _ (Kept.mono (fun b ob e n => kp3 b ob (allKept (led_deep (hNN (eF L') rfl) hk9 hf9 hn9) kG2 F2 N2 b ob e) n) (fun b hb => List.mem_cons_of_mem _ (List.mem_cons_of_mem _ hb))) ⟨hle3, K3⟩)
        · intro hle3 h3 e3 tk3 R3
          refine leave2 B2 rfl rfl F2 (allKept (led_deep (hNN (eF L') rfl) hk9 hf9 hn9) kG2 F2 N2) nL2 R3 fun h4 R4 => ?_
          exact exc9 hle3 _ _ _ R4
      case r0 =>
        intro h3 tk3 kp3 K3
        exact absurd K3.1 (by omega)
      case r1 =>
        intro hle3 h3 tk3 fw3
        have hD : ∀ b ∈ ([] : List Addr), b ∈ kAdr a ∨ s.heap.get? b = none := fun b hb => nomatch hb
        have fl3 : FlownA [] (eF L' :: l) _ h3 := FlownA.ofFlown [] fw3
        obtain ⟨g3, T3, F3, B3⟩ := groundA (env := eF L') (adr := []) B' rfl FF (fun b hb => nomatch hb) fl3
        have K3 := kat_flown (kat_of (prog := prog) (w := w) NN (by lcg_sub) R) fl3 (off_of_led (led_push (sub := kLed a d k) B' NN (by lcg_sub) rfl)) (fun b hb => List.not_mem_nil)
        (repeat' (first | (first | ((with_reducible first | (rename Gets _ _ => gQ'; refine at_of gQ' ?_; clear gQ'; try (rename (_ → Shared → Prop) => qQ'; clear qQ')) | refine at_of (by assumption) ?_); (try dsimp only)) | (with_reducible (first | refine s_exec ?_ | refine s_comp ?_); (with_reducible ((fail_if_success (refine s_at ?_)); refine cutX ?_; intro _ _)))) | (k_here; (with_reducible show wpAny _ _ (subscriptTail _ (PySem.Expr.Slice none _ none _) (Value.ref _) (Value.ref _)) _ _ _); k_dflt (refine slice_upto (by k_asm) (by k_asm) (by kmk_list) (by first | omega | exact (by assumption : ∀ j : Nat, (0 : Int) ≤ List.getD _ j 0) _) ?_ (by with_unfolding_all rfl) (by kmk_pure) (by (simp only [List.size_toArray, sizeLine_eq]; omega))); intro _ _ _ _ l1zz; (try k_lt l1zz); (try k_sweep)) | (k_here; (with_reducible show wpAny _ _ (compareOp CmpOp.Eq (Value.ref _) (Value.ref _)) _ _ _); k_dflt (refine eq_nil (isL (by k_asm) (by k_mem)) (isL (by k_asm) (by k_mem)) (by (simp only [Around.deeper_units, mkA, cLine]; omega)) ?_)) | (k_here; (rename Mine.FreeTo _ _ _ _ _ => hMzz); (with_reducible show wpAny _ _ (binaryOp _ (Value.ref _) (Value.ref _)) _ _ _); k_dflt (refine add_gen (by k_asm) (by k_asm) (by kmk_list) (by kmk_list) ?_ (by (simp only [sizeLine_eq, List.length_cons, List.length_nil]; omega))); intro _ _ _ _ l1zz; (try k_lt l1zz); (try k_sweep)) | ((with_reducible show wpAny _ _ (eval (Expr.Lambda _ _ _ _) _) _ _ _); (k_here; k_dflt (refine lam_any (by k_asm) (by k_asm) (by k_asm) (by assumption) (by exact rfl) (by k_updF) (by assumption) (by with_unfolding_all exact rfl) ?_ (by with_unfolding_all exact rfl) (by exact rfl); k_whole); intro _ _ _ _ _ _ _ Nzz _ _ l1zz; (try dsimp only at Nzz); (try k_lt l1zz))) | (k_here; (with_reducible show wpAny _ _ (call (Value.ref 158) [Value.ref _, Value.int _ _]) _ _ _); k_dflt (refine literal_use X T (by assumption) (by k_asm) (by k_asm) (by k_updF) (by assumption) (by assumption) (by assumption) (by assumption) (by assumption) (by assumption) (by assumption) (by omega) (by omega) (by omega) (by omega) (by omega) ?_); intro _ _ _ _ _ _ _ _ _ _; (try k_sweep)) | (k_here; (with_reducible show wpAny _ _ (call (Value.ref 151) [Value.ref _, Value.int _ _]) _ _ _); k_dflt (refine draw_use X T (by assumption) (by k_asm) (by k_asm) (by k_updF) (by assumption) (by assumption) (by assumption) (by assumption) (by assumption) (by assumption) (by assumption) (by omega) (by omega) (by omega) (by omega) (by omega) ?_); intro _ _ _ _ _ _ _ _ _ _ _; (try k_sweep)) | (k_here; (with_reducible show wpAny _ _ (call (Value.builtin "len") [Value.ref _]) _ _ _); k_dflt (refine len_base (by k_asm) (by assumption) (by first | size_fits | (simp only [List.size_toArray]; omega)) ?_; k_whole)) | ((fail_if_success (with_reducible first | refine s_done ?_ | refine s_iter ?_ | refine s_tpost ?_ | refine s_while ?_ | refine s_call (by decide) ?_ | refine s_ifexp ?_ | refine s_cend ?_ | refine s_comp ?_ | refine s_srcT ?_ | refine s_src ?_)); (first | (k_unfold; (try dsimp only)) | (k_end; wrow_close) | walk1 | (dsimp only; walk1) | (leave1; walk_say "STEP leave1"; try dsimp only)))))
        refine (fun fin => ?main_3) (ledFin (names := names) (sws := sws) (floors := floors) (fvs := fvs) (fo := ?fo_3) (no := ?no_3) (lq := lq) (lp := lp) (its := its) B' FF NN kG' adr0 (nL _ (Nat.le_refl _)) o fl3 hD ?nfc_3 ?hdf_3 ?ndf_3 ?h167_3 ?n167_3 okh ?hlo_3 ?nlo_3 ?hlp_3 ?nlp_3 ?PA_3 ?nt_3 ?hlq_3 ?nlq_3 ?hI_3 ?sp_3 ?sq_3 ?st_3)
        case hdf_3 => k_mem
        case h167_3 => k_mem
        case hlo_3 => k_mem
        case ndf_3 => (repeat' (first | exact List.not_mem_nil | (refine notin_cons (by k_ne) ?_)))
        case n167_3 => (repeat' (first | exact List.not_mem_nil | (refine notin_cons (by k_ne) ?_)))
        case nlo_3 => (repeat' (first | exact List.not_mem_nil | (refine notin_cons (by k_ne) ?_)))
        case nfc_3 => exact fun b hb => nomatch hb
        case hlp_3 => exact hlpP'.at fun o e => FF.keep _ o e
        case hlq_3 => exact hlq'.at fun o e => FF.keep _ o e
        case PA_3 => exact PA'.keep fun o e => FF.keep _ e
        case hI_3 => exact hfv
        case sp_3 => exact sp
        case sq_3 => exact sq
        case st_3 => exact st
        case nlp_3 => exact List.not_mem_nil
        case nlq_3 => exact List.not_mem_nil
        case nt_3 => exact fun t ht => List.not_mem_nil
        case main_3 =>
          obtain ⟨f1, f2, f3, f4, f5⟩ := fin
          have hv : decide (rr ≤ (fvs.toArray.size : Int)) = false := decide_eq_false (by omega)
          try rw [hv]
          try dsimp only
          exact .mk (ret _ _ _ _ _ _ _ _ _ f1 f2 hfd (by omega) (by omega) f3 f4 K3 f5 I (by omega) (by omega))
  · try dsimp only
    rename Fr _ _ _ _ => FF
    rename News _ _ _ _ => NN
    rename feedIs _ _ _ _ _ _ => hfd
    have okh := ok'.move fun b o _ _ e _ _ => FF.keep b o e
    have K3 := kat_of (prog := prog) (w := w) NN (by lcg_sub) R
    refine (fun fin => ?main_4) (ledFin (names := names) (sws := sws) (floors := floors) (fvs := fvs) (fo := ?fo_4) (no := ?no_4) (lq := lq) (lp := lp) (its := its) B' FF NN kG' adr0 (nL _ (Nat.le_refl _)) o (FlownA.refl [] (eF L' :: l) _) (fun b hb => nomatch hb) (fun b hb => nomatch hb) ?hdf_4 List.not_mem_nil ?h167_4 List.not_mem_nil okh ?hlo_4 List.not_mem_nil (hlpP'.at fun o e => FF.keep _ o e) List.not_mem_nil (PA'.keep fun o e => FF.keep _ e) (fun _ _ => List.not_mem_nil) (hlq'.at fun o e => FF.keep _ o e) List.not_mem_nil hfv sp sq st)
    case hdf_4 => k_mem
    case h167_4 => k_mem
    case hlo_4 => k_mem
    case main_4 =>
      obtain ⟨f1, f2, f3, f4, f5⟩ := fin
      exact .mk (ret _ _ _ _ _ _ _ _ _ f1 f2 hfd (by omega) (by omega) f3 f4 K3 f5 I (by omega) (by omega))
end LedTC
theorem LedT.all (prog : Program) (w : World) (base : Heap) (l : List Env) (dp : Nat) (un : Nat) (gd : Option (List Code)) (s : Shared) (p : Program) (loose : List Str) (mean : ExcName → Option Value) (mg : Str → Option Value) (mb : Str → Option Value) (a : KA) (d : KD) (k : KS) (names : List Str) (sws : List Int) (floors : List Int) (df : Addr) (lc : Addr) (lo : Addr) (lp : Addr) (lq : Addr) (no : Nat) (its : List Value) (fvs : List Value) (fo : Obj) (tk : Tok) (ki : Int) (cv : List Value) (ns : List Int) (ps : Array Value) (R9 : Result → Shared → Prop) (E9 : Value → Shared → Prop) (g' : Heap) (L' : Addr) (h' : Heap) (tk' : Nat) (oc1 : Obj) (oc2 : Obj) (oc3 : Obj) (oc4 : Obj) : LedT prog w base l dp un gd s p loose mean mg mb a d k names sws floors df lc lo lp lq no its fvs fo tk ki cv ns ps R9 E9 g' L' h' tk' oc1 oc2 oc3 oc4 :=
  @hkAll LedTC.V LedTC.ne (fun v => LedT v.1 v.2.1 v.2.2.1 v.2.2.2.1 v.2.2.2.2.1 v.2.2.2.2.2.1 v.2.2.2.2.2.2.1 v.2.2.2.2.2.2.2.1 v.2.2.2.2.2.2.2.2.1 v.2.2.2.2.2.2.2.2.2.1 v.2.2.2.2.2.2.2.2.2.2.1 v.2.2.2.2.2.2.2.2.2.2.2.1 v.2.2.2.2.2.2.2.2.2.2.2.2.1 v.2.2.2.2.2.2.2.2.2.2.2.2.2.1 v.2.2.2.2.2.2.2.2.2.2.2.2.2.2.1 v.2.2.2.2.2.2.2.2.2.2.2.2.2.2.2.1 v.2.2.2.2.2.2.2.2.2.2.2.2.2.2.2.2.1 v.2.2.2.2.2.2.2.2.2.2.2.2.2.2.2.2.2.1 v.2.2.2.2.2.2.2.2.2.2.2.2.2.2.2.2.2.2.1 v.2.2.2.2.2.2.2.2.2.2.2.2.2.2.2.2.2.2.2.1 v.2.2.2.2.2.2.2.2.2.2.2.2.2.2.2.2.2.2.2.2.1 v.2.2.2.2.2.2.2.2.2.2.2.2.2.2.2.2.2.2.2.2.2.1 v.2.2.2.2.2.2.2.2.2.2.2.2.2.2.2.2.2.2.2.2.2.2.1 v.2.2.2.2.2.2.2.2.2.2.2.2.2.2.2.2.2.2.2.2.2.2.2.1 v.2.2.2.2.2.2.2.2.2.2.2.2.2.2.2.2.2.2.2.2.2.2.2.2.1 v.2.2.2.2.2.2.2.2.2.2.2.2.2.2.2.2.2.2.2.2.2.2.2.2.2.1 v.2.2.2.2.2.2.2.2.2.2.2.2.2.2.2.2.2.2.2.2.2.2.2.2.2.2.1 v.2.2.2.2.2.2.2.2.2.2.2.2.2.2.2.2.2.2.2.2.2.2.2.2.2.2.2.1 v.2.2.2.2.2.2.2.2.2.2.2.2.2.2.2.2.2.2.2.2.2.2.2.2.2.2.2.2.1 v.2.2.2.2.2.2.2.2.2.2.2.2.2.2.2.2.2.2.2.2.2.2.2.2.2.2.2.2.2.1 v.2.2.2.2.2.2.2.2.2.2.2.2.2.2.2.2.2.2.2.2.2.2.2.2.2.2.2.2.2.2.1 v.2.2.2.2.2.2.2.2.2.2.2.2.2.2.2.2.2.2.2.2.2.2.2.2.2.2.2.2.2.2.2.1 v.2.2.2.2.2.2.2.2.2.2.2.2.2.2.2.2.2.2.2.2.2.2.2.2.2.2.2.2.2.2.2.2.1 v.2.2.2.2.2.2.2.2.2.2.2.2.2.2.2.2.2.2.2.2.2.2.2.2.2.2.2.2.2.2.2.2.2.1 v.2.2.2.2.2.2.2.2.2.2.2.2.2.2.2.2.2.2.2.2.2.2.2.2.2.2.2.2.2.2.2.2.2.2.1 v.2.2.2.2.2.2.2.2.2.2.2.2.2.2.2.2.2.2.2.2.2.2.2.2.2.2.2.2.2.2.2.2.2.2.2.1 v.2.2.2.2.2.2.2.2.2.2.2.2.2.2.2.2.2.2.2.2.2.2.2.2.2.2.2.2.2.2.2.2.2.2.2.2.1 v.2.2.2.2.2.2.2.2.2.2.2.2.2.2.2.2.2.2.2.2.2.2.2.2.2.2.2.2.2.2.2.2.2.2.2.2.2.1 v.2.2.2.2.2.2.2.2.2.2.2.2.2.2.2.2.2.2.2.2.2.2.2.2.2.2.2.2.2.2.2.2.2.2.2.2.2.2.1 v.2.2.2.2.2.2.2.2.2.2.2.2.2.2.2.2.2.2.2.2.2.2.2.2.2.2.2.2.2.2.2.2.2.2.2.2.2.2.2.1 v.2.2.2.2.2.2.2.2.2.2.2.2.2.2.2.2.2.2.2.2.2.2.2.2.2.2.2.2.2.2.2.2.2.2.2.2.2.2.2.2.1 v.2.2.2.2.2.2.2.2.2.2.2.2.2.2.2.2.2.2.2.2.2.2.2.2.2.2.2.2.2.2.2.2.2.2.2.2.2.2.2.2.2.1 v.2.2.2.2.2.2.2.2.2.2.2.2.2.2.2.2.2.2.2.2.2.2.2.2.2.2.2.2.2.2.2.2.2.2.2.2.2.2.2.2.2.2) (by with_unfolding_all exact LedTC.holds) (prog, w, base, l, dp, un, gd, s, p, loose, mean, mg, mb, a, d, k, names, sws, floors, df, lc, lo, lp, lq, no, its, fvs, fo, tk, ki, cv, ns, ps, R9, E9, g', L', h', tk', oc1, oc2, oc3, oc4)
set_option maxHeartbeats 4000000 in
theorem led_spec {prog : Program} {w : World} {base : Heap} {l : List Env} {dp un : Nat} {gd : Option (List Code)} {s : Shared} {p : Program} {loose : List Str} {mean : ExcName → Option Value} {mg mb : Str → Option Value}
    {a : KA} {d : KD} {names : List Str} {sws floors : List Int} {df lc lo : Addr} {fo : Obj} {tk : Tok} {ki : Int} {cv : List Value} {ns : List Int} {ps : Array Value} {Q E : Value → Shared → Prop}
    (hprog : (prog.main.file : Str) = "/claim/cut.py") (hsup : (prog.main.scope.names.lookup ("super" : Str)).isSome = false)
    (X : (hd.heap_39 w.params).In base) (T : Top p loose mean mg mb base) (B : Below (mkA dp un gd l) base l s.heap) (C : CodeHd base 169 167)
    (hdp : dp ≤ 400) (hun : un ≤ 800) (O : a.Ord) (h172 : @LT.lt Nat _ 172 df) (h1 : @LT.lt Nat _ df a.dk) (h2 : @LT.lt Nat _ a.ps lo)
    (o : Off base l (adrL a df lo)) (K : KAt prog w a d names sws floors s.heap) (OW : OwnAt s.heap (172 :: adrL a df lo) lo names sws floors) (h167 : s.heap.get? 167 = some (tabObj ps)) (ok : TabOk "_law_is_led.<locals>.<lambda>" s.heap ps)
    (hfo : s.heap.get? df = some fo) (hf : feedIs prog w lc ki tk fo) (hl : s.heap.IsList lc cv.toArray) (hlc : lc ∉ adrL a df lo) (hi : IntsAre cv ns) (hlen : ns.length ≤ 63) (hne : 0 < ns.length) (hk0 : 0 ≤ ki) (hk : ki ≤ 900)
    (I : Inv names sws floors) (hn50 : names.length ≤ 50) (hf50 : floors.length ≤ 50)
    (ret : ∀ h' fo' ps' k' tk' tk2 names' sws' floors', FlownA (adrL a df lo) l s.heap h' → h'.get? df = some fo' → feedIs prog w lc k' tk2 fo' → ki ≤ k' → k' ≤ ki + 10 → h'.get? 167 = some (tabObj ps') → TabOk "_law_is_led.<locals>.<lambda>" h' ps' →
      KAt prog w a d names' sws' floors' h' → OwnAt h' (172 :: adrL a df lo) lo names' sws' floors' → Inv names' sws' floors' → names'.length ≤ names.length + 1 → floors'.length ≤ floors.length + 1 → Q (.bool true) { s with heap := h', toks := tk' }) :
    wpAny (model prog w) (mkA dp un gd l) (call (.ref 170) [.ref df, .ref a.ik, .ref lo]) Q E s := by
  have OO := O
  have h0 : @LT.lt Nat _ 167 df := Nat.lt_trans (by decide) h172
  obtain ⟨o1, o2, o3, o4, o5, o6, n1, n2⟩ := O
  obtain ⟨no, lp, lq, its, fvs, hlo, hlpP, PA, hlq, hfv, sp, sq, st⟩ := OW
  have hlp := hlpP.list
  have nfK := nf_kat K
  obtain ⟨k, hK, R⟩ := K
  have adr0 : ∀ b, b ∈ ([(167, tabObj ps), (df, fo)] ++ kLed a d k ++ [(lo, listOf #[.ref lp, .ref lq] no)]).map (·.1) ↔ b ∈ adrL a df lo := fun b => perm3 (x := 167) (y := df) (z := lo) (ks := kAdr a)
  have N : Led base l s.heap ([(167, tabObj ps), (df, fo)] ++ kLed a d k ++ [(lo, listOf #[.ref lp, .ref lq] no)]) := led_of (fun b hb => o b ((adr0 b).mp hb)) fun q hq => by
    rcases List.mem_append.mp hq with hq | hq
    · rcases List.mem_append.mp hq with hq | hq
      · rcases List.mem_cons.mp hq with rfl | hq
        · exact h167
        · rw [List.mem_singleton.mp hq]; exact hfo
      · exact hK q hq
    · rw [List.mem_singleton.mp hq]; exact hlo
  have odf : Off base l [df] := fun b hb => by rw [List.mem_singleton.mp hb]; exact o df (by simp)
  refine wpAny_call ?_
  k_dflt (refine' enterC (news := [(167, tabObj ps), (df, fo)] ++ kLed a d k ++ [(lo, listOf #[.ref lp, .ref lq] no)]) (binds := [("feed", .ref df), ("kept", .ref a.ik), ("own", .ref lo)]) ?k1 ?k2 ?k3 ?k4 ?k6 ?k7 ?k8 ?k9 ?kB ?kD ?_ ?c2 ?c3 ?c4; ((case k1 => assumption); (case k2 => assumption); (case k3 => assumption); (case k4 => assumption); (case k6 => k_is); (case k7 => k_is); (case k8 => k_room); (case k9 => exact BindsTo.of_eq rfl); (case kB => exact rfl); (case kD => decide +kernel); (case c2 => exact rfl); (case c3 => exact rfl); (case c4 => exact rfl)))
  intro g' L' h' tk' cells' F' N' Y' B' X' T' kG' gS' l1 nL
  have hlc' : lc ≠ df := fun e => hlc (by rw [e]; simp)
  have hl' : g'.IsList lc cv.toArray := kG'.list hl (fun q => hlc ((adr0 _).mp q))
  have hlp' : g'.IsList lp its.toArray := kG'.list hlp (fun q => sp (List.mem_cons_of_mem _ ((adr0 _).mp q)))
  have hlpP' : PlainL g' lp its.toArray := hlpP.kept kG' (fun q => sp (List.mem_cons_of_mem _ ((adr0 _).mp q)))
  have hlq' : g'.IsList lq fvs.toArray := kG'.list hlq (fun q => sq (List.mem_cons_of_mem _ ((adr0 _).mp q)))
  have PA' : PrsAt g' its names sws := ⟨PA.len, PA.len2, fun i v e => by
    obtain ⟨t, n, sw, tn, ts, rfl, ht, q1, q2⟩ := PA.at_ i v e
    exact ⟨t, n, sw, tn, ts, rfl, kG'.tup ht (fun q => st t (List.mem_of_getElem? e) (List.mem_cons_of_mem _ ((adr0 _).mp q))), q1, q2⟩⟩
  have C' : CodeHd g' 169 167 := C.keeps B'.stays
  have ok' : TabOk "_law_is_led.<locals>.<lambda>" g' ps := ok.move fun b ob vs t9 e hd9 he9 => kG' b ob e fun q => by
    have q' := (adr0 b).mp q
    rcases List.mem_cons.mp q' with z | q'
    · rw [z, h167] at e; cases e; cases hd9; exact triples_no_str ok.tri _ _ (by simpa using he9)
    · rcases List.mem_cons.mp q' with z | q'
      · rw [z, hfo] at e; cases e; exact nf_dict hf vs hd9
      · rcases List.mem_cons.mp q' with z | q'
        · rw [z, hlo] at e; cases e; cases hd9
        · exact nfK b q' ob e vs hd9
  (try simp only [List.cons_append, List.nil_append] at l1 N'); (try k_lt l1)
  have hY := PyProof.Rows.CellsAre.four Y'
  obtain ⟨oc4, oc3, oc2, oc1, hE', dc4, dc3, dc2, dc1⟩ := hY
  subst hE'
  clear Y'
  (try simp only [List.cons_append, List.nil_append] at N')
  (try dsimp only); (try k_fold)
  exact LedT.all _ _ _ _ _ _ _ _ _ _ _ _ _ _ _ _ _ _ _ _ _ _ _ _ _ _ _ _ _ _ _ _ _ _ _ _ _ _ _ _ _ _ _ hprog hsup X T hdp hun h172 h1 h2 o hf hi hlen hne hk0 hk I hn50 hf50 ret OO odf h0 PA hfv sp sq st R adr0 F' N' B' X' T' kG' nL hlc' hl' hlp' hlpP' hlq' PA' C' ok' l1 dc4 dc3 dc2 dc1
end
section
example : True := by w_top off; trivial
noncomputable def ToldT (prog : Program) (w : World) (base : Heap) (l : List Env) (dp : Nat) (un : Nat) (gd : Option (List Code)) (s : Shared) (p : Program) (loose : List Str) (mean : ExcName → Option Value) (mg : Str → Option Value) (mb : Str → Option Value) (a : KA) (d : KD) (k : KS) (names : List Str) (sws : List Int) (floors : List Int) (df : Addr) (lc : Addr) (lo : Addr) (lp : Addr) (lq : Addr) (no : Nat) (its : List Value) (fvs : List Value) (fo : Obj) (tk : Tok) (ki : Int) (cv : List Value) (ns : List Int) (ps : Array Value) (R9 : Result → Shared → Prop) (g' : Heap) (L' : Addr) (h' : Heap) (tk' : Nat) (oc1 : Obj) (oc2 : Obj) (oc3 : Obj) (oc4 : Obj) (oc5 : Obj) : Prop :=
  ∀ (hprog : (prog.main.file : Str) = "/claim/cut.py"),
  ∀ (hsup : (prog.main.scope.names.lookup ("super" : Str)).isSome = false),
  ∀ (X : (hd.heap_39 w.params).In base),
  ∀ (T : Top p loose mean mg mb base),
  ∀ (C : CodeHd base 174 172),
  ∀ (hdp : dp ≤ 400),
  ∀ (hun : un ≤ 800),
  ∀ (h172 : @LT.lt Nat _ 172 df),
  ∀ (h1 : @LT.lt Nat _ df a.dk),
  ∀ (h2 : @LT.lt Nat _ a.ps lo),
  ∀ (o : Off base l (adrT a df lo)),
  ∀ (hf : feedIs prog w lc ki tk fo),
  ∀ (hl : s.heap.IsList lc cv.toArray),
  ∀ (hlc : lc ∉ adrT a df lo),
  ∀ (hi : IntsAre cv ns),
  ∀ (hlen : ns.length ≤ 63),
  ∀ (hne : 0 < ns.length),
  ∀ (hk0 : 0 ≤ ki),
  ∀ (hk : ki ≤ 900),
  ∀ (I : Inv names sws floors),
  ∀ (hn50 : names.length ≤ 50),
  ∀ (hf50 : floors.length ≤ 50),
  ∀ (ret : ∀ h' fo' ps' k' tk' tk2, FlownA (adrT a df lo) l s.heap h' → h'.get? df = some fo' → feedIs prog w lc k' tk2 fo' → ki ≤ k' → k' ≤ ki + 20 → h'.get? 172 = some (tabObj ps') → TabOk "_law_are_told.<locals>.<lambda>" h' ps' →
      KAt prog w a d names sws floors h' → OwnAt h' (172 :: adrL a df lo) lo names sws floors → R9 (.ok (.ret (.bool true))) { s with heap := h', toks := tk' }),
  ∀ (OO : a.Ord),
  ∀ (odf : Off base l [df]),
  ∀ (hlpP : PlainL s.heap lp its.toArray),
  ∀ (PA : PrsAt s.heap its names sws),
  ∀ (hlq : s.heap.IsList lq fvs.toArray),
  ∀ (hfv : IntsAre fvs floors),
  ∀ (sp : lp ∉ 172 :: adrL a df lo),
  ∀ (sq : lq ∉ 172 :: adrL a df lo),
  ∀ (st : ∀ t, Value.ref t ∈ its → t ∉ 172 :: adrL a df lo),
  ∀ (R : KRep prog w k names sws floors),
  ∀ (adr0 : ∀ b, b ∈ ([(172, tabObj ps), (df, fo)] ++ kLed a d k ++ [(lo, listOf #[.ref lp, .ref lq] no)]).map (·.1) ↔ b ∈ adrT a df lo),
  ∀ (subT : ∀ b, b ∈ adrT a df lo → b ∈ 172 :: adrL a df lo),
  ∀ (F' : Fr g' L' h' (bindL (e175 w.params L').kindOf [("feed", .ref df), ("kept", .ref a.ik), ("own", .ref lo)] fun _ => none)),
  ∀ (N' : News g' L' h' ((L' + 1 + 1 + 1 + 1 + 1, oc1) :: (L' + 1 + 1 + 1 + 1, oc2) :: (L' + 1 + 1 + 1, oc3) :: (L' + 1 + 1, oc4) :: (L' + 1, oc5) :: (172, tabObj ps) :: (df, fo) :: (a.ik, instObj 140 a.dk) :: (a.dk, kDict a d) :: (a.ll, listOf k.lv k.nl) :: (a.ls, listOf k.sv k.ns) :: (a.lf, listOf k.fv k.nf) :: (a.pn, k.opn) :: (a.ps, k.ops) :: [(lo, listOf #[.ref lp, .ref lq] no)])),
  ∀ (B' : Below (mkA dp un gd l) base l g'),
  ∀ (X' : (hd.heap_39 w.params).In g'),
  ∀ (T' : Top p loose mean mg mb g'),
  ∀ (kG' : Kept s.heap g' (([(172, tabObj ps), (df, fo)] ++ kLed a d k ++ [(lo, listOf #[.ref lp, .ref lq] no)]).map (·.1))),
  ∀ (nL : ∀ b, @LE.le Nat _ L' b → s.heap.get? b = none),
  ∀ (hlc' : lc ≠ df),
  ∀ (hl' : g'.IsList lc cv.toArray),
  ∀ (hlp' : g'.IsList lp its.toArray),
  ∀ (hlpP' : PlainL g' lp its.toArray),
  ∀ (hlq' : g'.IsList lq fvs.toArray),
  ∀ (PA' : PrsAt g' its names sws),
  ∀ (C' : CodeHd g' 174 172),
  ∀ (ok' : TabOk "_law_are_told.<locals>.<lambda>" g' ps),
  ∀ (l1 : @LT.lt Nat _ 172 L' ∧ @LT.lt Nat _ df L' ∧ @LT.lt Nat _ a.ik L' ∧ @LT.lt Nat _ a.dk L' ∧ @LT.lt Nat _ a.ll L' ∧ @LT.lt Nat _ a.ls L' ∧ @LT.lt Nat _ a.lf L' ∧ @LT.lt Nat _ a.pn L' ∧ @LT.lt Nat _ a.ps L' ∧ @LT.lt Nat _ lo L'),
  ∀ (dc1 : oc1.data = Data.cell (bindC (e175 w.params L').kindOf [("feed", .ref df), ("kept", .ref a.ik), ("own", .ref lo)] (fun _ => none) (Str.ofString "names"))),
  ∀ (dc2 : oc2.data = Data.cell (bindC (e175 w.params L').kindOf [("feed", .ref df), ("kept", .ref a.ik), ("own", .ref lo)] (fun _ => none) (Str.ofString "failed"))),
  ∀ (dc3 : oc3.data = Data.cell (bindC (e175 w.params L').kindOf [("feed", .ref df), ("kept", .ref a.ik), ("own", .ref lo)] (fun _ => none) (Str.ofString "table"))),
  ∀ (dc4 : oc4.data = Data.cell (bindC (e175 w.params L').kindOf [("feed", .ref df), ("kept", .ref a.ik), ("own", .ref lo)] (fun _ => none) (Str.ofString "kept"))),
  ∀ (dc5 : oc5.data = Data.cell (bindC (e175 w.params L').kindOf [("feed", .ref df), ("kept", .ref a.ik), ("own", .ref lo)] (fun _ => none) (Str.ofString "feed"))),
  wpAny (model prog w) ((mkA dp un gd l).deeper (e175 w.params L')) (execs (b175 w.params) (e175 w.params L')) (fun fl s' => Done R9 (match fl with | .ret v => v | _ => .none) s') (fun e s' => wpAny (model prog w) ((mkA dp un gd l).deeper (e175 w.params L')) (leaving (e175 w.params L') e) (fun _ s'' => R9 (.error e) s'') (fun e' s'' => R9 (.error e') s'') s') { s with heap := h', toks := tk' }
namespace ToldTC
noncomputable abbrev V := Program × World × Heap × (List Env) × Nat × Nat × (Option (List Code)) × Shared × Program × (List Str) × (ExcName → Option Value) × (Str → Option Value) × (Str → Option Value) × KA × KD × KS × (List Str) × (List Int) × (List Int) × Addr × Addr × Addr × Addr × Addr × Nat × (List Value) × (List Value) × Obj × Tok × Int × (List Value) × (List Int) × (Array Value) × (Result → Shared → Prop) × Heap × Addr × Heap × Nat × Obj × Obj × Obj × Obj × Obj
theorem ne : Nonempty V := by
  have := neW
  have := neS
  have := neA
  have := neD
  have := neK
  have := neR
  repeat (refine @instNonemptyProd _ _ ?_ ?_; · first | assumption | infer_instance)
  first | assumption | infer_instance
noncomputable def v : V := @Classical.epsilon V ne fun v => ¬ ToldT v.1 v.2.1 v.2.2.1 v.2.2.2.1 v.2.2.2.2.1 v.2.2.2.2.2.1 v.2.2.2.2.2.2.1 v.2.2.2.2.2.2.2.1 v.2.2.2.2.2.2.2.2.1 v.2.2.2.2.2.2.2.2.2.1 v.2.2.2.2.2.2.2.2.2.2.1 v.2.2.2.2.2.2.2.2.2.2.2.1 v.2.2.2.2.2.2.2.2.2.2.2.2.1 v.2.2.2.2.2.2.2.2.2.2.2.2.2.1 v.2.2.2.2.2.2.2.2.2.2.2.2.2.2.1 v.2.2.2.2.2.2.2.2.2.2.2.2.2.2.2.1 v.2.2.2.2.2.2.2.2.2.2.2.2.2.2.2.2.1 v.2.2.2.2.2.2.2.2.2.2.2.2.2.2.2.2.2.1 v.2.2.2.2.2.2.2.2.2.2.2.2.2.2.2.2.2.2.1 v.2.2.2.2.2.2.2.2.2.2.2.2.2.2.2.2.2.2.2.1 v.2.2.2.2.2.2.2.2.2.2.2.2.2.2.2.2.2.2.2.2.1 v.2.2.2.2.2.2.2.2.2.2.2.2.2.2.2.2.2.2.2.2.2.1 v.2.2.2.2.2.2.2.2.2.2.2.2.2.2.2.2.2.2.2.2.2.2.1 v.2.2.2.2.2.2.2.2.2.2.2.2.2.2.2.2.2.2.2.2.2.2.2.1 v.2.2.2.2.2.2.2.2.2.2.2.2.2.2.2.2.2.2.2.2.2.2.2.2.1 v.2.2.2.2.2.2.2.2.2.2.2.2.2.2.2.2.2.2.2.2.2.2.2.2.2.1 v.2.2.2.2.2.2.2.2.2.2.2.2.2.2.2.2.2.2.2.2.2.2.2.2.2.2.1 v.2.2.2.2.2.2.2.2.2.2.2.2.2.2.2.2.2.2.2.2.2.2.2.2.2.2.2.1 v.2.2.2.2.2.2.2.2.2.2.2.2.2.2.2.2.2.2.2.2.2.2.2.2.2.2.2.2.1 v.2.2.2.2.2.2.2.2.2.2.2.2.2.2.2.2.2.2.2.2.2.2.2.2.2.2.2.2.2.1 v.2.2.2.2.2.2.2.2.2.2.2.2.2.2.2.2.2.2.2.2.2.2.2.2.2.2.2.2.2.2.1 v.2.2.2.2.2.2.2.2.2.2.2.2.2.2.2.2.2.2.2.2.2.2.2.2.2.2.2.2.2.2.2.1 v.2.2.2.2.2.2.2.2.2.2.2.2.2.2.2.2.2.2.2.2.2.2.2.2.2.2.2.2.2.2.2.2.1 v.2.2.2.2.2.2.2.2.2.2.2.2.2.2.2.2.2.2.2.2.2.2.2.2.2.2.2.2.2.2.2.2.2.1 v.2.2.2.2.2.2.2.2.2.2.2.2.2.2.2.2.2.2.2.2.2.2.2.2.2.2.2.2.2.2.2.2.2.2.1 v.2.2.2.2.2.2.2.2.2.2.2.2.2.2.2.2.2.2.2.2.2.2.2.2.2.2.2.2.2.2.2.2.2.2.2.1 v.2.2.2.2.2.2.2.2.2.2.2.2.2.2.2.2.2.2.2.2.2.2.2.2.2.2.2.2.2.2.2.2.2.2.2.2.1 v.2.2.2.2.2.2.2.2.2.2.2.2.2.2.2.2.2.2.2.2.2.2.2.2.2.2.2.2.2.2.2.2.2.2.2.2.2.1 v.2.2.2.2.2.2.2.2.2.2.2.2.2.2.2.2.2.2.2.2.2.2.2.2.2.2.2.2.2.2.2.2.2.2.2.2.2.2.1 v.2.2.2.2.2.2.2.2.2.2.2.2.2.2.2.2.2.2.2.2.2.2.2.2.2.2.2.2.2.2.2.2.2.2.2.2.2.2.2.1 v.2.2.2.2.2.2.2.2.2.2.2.2.2.2.2.2.2.2.2.2.2.2.2.2.2.2.2.2.2.2.2.2.2.2.2.2.2.2.2.2.1 v.2.2.2.2.2.2.2.2.2.2.2.2.2.2.2.2.2.2.2.2.2.2.2.2.2.2.2.2.2.2.2.2.2.2.2.2.2.2.2.2.2.1 v.2.2.2.2.2.2.2.2.2.2.2.2.2.2.2.2.2.2.2.2.2.2.2.2.2.2.2.2.2.2.2.2.2.2.2.2.2.2.2.2.2.2
@[irreducible] noncomputable def prog : Program := v.1
@[irreducible] noncomputable def w : World := v.2.1
@[irreducible] noncomputable def base : Heap := v.2.2.1
@[irreducible] noncomputable def l : List Env := v.2.2.2.1
@[irreducible] noncomputable def dp : Nat := v.2.2.2.2.1
@[irreducible] noncomputable def un : Nat := v.2.2.2.2.2.1
@[irreducible] noncomputable def gd : Option (List Code) := v.2.2.2.2.2.2.1
@[irreducible] noncomputable def s : Shared := v.2.2.2.2.2.2.2.1
@[irreducible] noncomputable def p : Program := v.2.2.2.2.2.2.2.2.1
@[irreducible] noncomputable def loose : List Str := v.2.2.2.2.2.2.2.2.2.1
@[irreducible] noncomputable def mean : ExcName → Option Value := v.2.2.2.2.2.2.2.2.2.2.1
@[irreducible] noncomputable def mg : Str → Option Value := v.2.2.2.2.2.2.2.2.2.2.2.1
@[irreducible] noncomputable def mb : Str → Option Value := v.2.2.2.2.2.2.2.2.2.2.2.2.1
@[irreducible] noncomputable def a : KA := v.2.2.2.2.2.2.2.2.2.2.2.2.2.1
@[irreducible] noncomputable def d : KD := v.2.2.2.2.2.2.2.2.2.2.2.2.2.2.1
@[irreducible] noncomputable def k : KS := v.2.2.2.2.2.2.2.2.2.2.2.2.2.2.2.1
@[irreducible] noncomputable def names : List Str := v.2.2.2.2.2.2.2.2.2.2.2.2.2.2.2.2.1
@[irreducible] noncomputable def sws : List Int := v.2.2.2.2.2.2.2.2.2.2.2.2.2.2.2.2.2.1
@[irreducible] noncomputable def floors : List Int := v.2.2.2.2.2.2.2.2.2.2.2.2.2.2.2.2.2.2.1
@[irreducible] noncomputable def df : Addr := v.2.2.2.2.2.2.2.2.2.2.2.2.2.2.2.2.2.2.2.1
@[irreducible] noncomputable def lc : Addr := v.2.2.2.2.2.2.2.2.2.2.2.2.2.2.2.2.2.2.2.2.1
@[irreducible] noncomputable def lo : Addr := v.2.2.2.2.2.2.2.2.2.2.2.2.2.2.2.2.2.2.2.2.2.1
@[irreducible] noncomputable def lp : Addr := v.2.2.2.2.2.2.2.2.2.2.2.2.2.2.2.2.2.2.2.2.2.2.1
@[irreducible] noncomputable def lq : Addr := v.2.2.2.2.2.2.2.2.2.2.2.2.2.2.2.2.2.2.2.2.2.2.2.1
@[irreducible] noncomputable def no : Nat := v.2.2.2.2.2.2.2.2.2.2.2.2.2.2.2.2.2.2.2.2.2.2.2.2.1
@[irreducible] noncomputable def its : List Value := v.2.2.2.2.2.2.2.2.2.2.2.2.2.2.2.2.2.2.2.2.2.2.2.2.2.1
@[irreducible] noncomputable def fvs : List Value := v.2.2.2.2.2.2.2.2.2.2.2.2.2.2.2.2.2.2.2.2.2.2.2.2.2.2.1
@[irreducible] noncomputable def fo : Obj := v.2.2.2.2.2.2.2.2.2.2.2.2.2.2.2.2.2.2.2.2.2.2.2.2.2.2.2.1
@[irreducible] noncomputable def tk : Tok := v.2.2.2.2.2.2.2.2.2.2.2.2.2.2.2.2.2.2.2.2.2.2.2.2.2.2.2.2.1
@[irreducible] noncomputable def ki : Int := v.2.2.2.2.2.2.2.2.2.2.2.2.2.2.2.2.2.2.2.2.2.2.2.2.2.2.2.2.2.1
@[irreducible] noncomputable def cv : List Value := v.2.2.2.2.2.2.2.2.2.2.2.2.2.2.2.2.2.2.2.2.2.2.2.2.2.2.2.2.2.2.1
@[irreducible] noncomputable def ns : List Int := v.2.2.2.2.2.2.2.2.2.2.2.2.2.2.2.2.2.2.2.2.2.2.2.2.2.2.2.2.2.2.2.1
@[irreducible] noncomputable def ps : Array Value := v.2.2.2.2.2.2.2.2.2.2.2.2.2.2.2.2.2.2.2.2.2.2.2.2.2.2.2.2.2.2.2.2.1
@[irreducible] noncomputable def R9 : Result → Shared → Prop := v.2.2.2.2.2.2.2.2.2.2.2.2.2.2.2.2.2.2.2.2.2.2.2.2.2.2.2.2.2.2.2.2.2.1
@[irreducible] noncomputable def g' : Heap := v.2.2.2.2.2.2.2.2.2.2.2.2.2.2.2.2.2.2.2.2.2.2.2.2.2.2.2.2.2.2.2.2.2.2.1
@[irreducible] noncomputable def L' : Addr := v.2.2.2.2.2.2.2.2.2.2.2.2.2.2.2.2.2.2.2.2.2.2.2.2.2.2.2.2.2.2.2.2.2.2.2.1
@[irreducible] noncomputable def h' : Heap := v.2.2.2.2.2.2.2.2.2.2.2.2.2.2.2.2.2.2.2.2.2.2.2.2.2.2.2.2.2.2.2.2.2.2.2.2.1
@[irreducible] noncomputable def tk' : Nat := v.2.2.2.2.2.2.2.2.2.2.2.2.2.2.2.2.2.2.2.2.2.2.2.2.2.2.2.2.2.2.2.2.2.2.2.2.2.1
@[irreducible] noncomputable def oc1 : Obj := v.2.2.2.2.2.2.2.2.2.2.2.2.2.2.2.2.2.2.2.2.2.2.2.2.2.2.2.2.2.2.2.2.2.2.2.2.2.2.1
@[irreducible] noncomputable def oc2 : Obj := v.2.2.2.2.2.2.2.2.2.2.2.2.2.2.2.2.2.2.2.2.2.2.2.2.2.2.2.2.2.2.2.2.2.2.2.2.2.2.2.1
@[irreducible] noncomputable def oc3 : Obj := v.2.2.2.2.2.2.2.2.2.2.2.2.2.2.2.2.2.2.2.2.2.2.2.2.2.2.2.2.2.2.2.2.2.2.2.2.2.2.2.2.1
@[irreducible] noncomputable def oc4 : Obj := v.2.2.2.2.2.2.2.2.2.2.2.2.2.2.2.2.2.2.2.2.2.2.2.2.2.2.2.2.2.2.2.2.2.2.2.2.2.2.2.2.2.1
@[irreducible] noncomputable def oc5 : Obj := v.2.2.2.2.2.2.2.2.2.2.2.2.2.2.2.2.2.2.2.2.2.2.2.2.2.2.2.2.2.2.2.2.2.2.2.2.2.2.2.2.2.2
set_option maxHeartbeats 8000000 in
theorem holds : ToldT prog w base l dp un gd s p loose mean mg mb a d k names sws floors df lc lo lp lq no its fvs fo tk ki cv ns ps R9 g' L' h' tk' oc1 oc2 oc3 oc4 oc5 := by
  intro hprog hsup X T C hdp hun h172 h1 h2 o hf hl hlc hi hlen hne hk0 hk I hn50 hf50 ret OO odf hlpP PA hlq hfv sp sq st R adr0 subT F' N' B' X' T' kG' nL hlc' hl' hlp' hlpP' hlq' PA' C' ok' l1 dc1 dc2 dc3 dc4 dc5
  obtain ⟨fb0, fb1, fb2, fb3, fb4, fb5, fb6, fb7, fb8, fb9, fb10, fb11, fb12, fb13, fb14, fb15, fb16, fb17, fb18, fb19, fb20, fb21, fb22, fb23, fb24, fb25, fb26, fb27, fb28, fb29, fb30, fb31, fb32, fb33, fb34, fb35, fb36, fb37, fb38, fb39, fb40, fb41, fb42, fb43, fb44, fb45, fb46, fb47, fb48, fb49, fb50, fb51, fb52, fb53, fb54⟩ := tPairs OO h172 h1 h2
  obtain ⟨o1, o2, o3, o4, o5, o6, n1, n2⟩ := OO
  have OO : a.Ord := ⟨o1, o2, o3, o4, o5, o6, n1, n2⟩
  obtain ⟨fc0, fc1, fc2, fc3, fc4, fc5, fc6, fc7, fc8, fc9, fc10, fc11, fc12, fc13, fc14, fc15, fc16, fc17, fc18, fc19, fc20, fc21, fc22, fc23, fc24, fc25, fc26, fc27, fc28, fc29, fc30, fc31, fc32, fc33, fc34, fc35, fc36, fc37, fc38, fc39, fc40, fc41, fc42, fc43, fc44, fc45, fc46, fc47, fc48, fc49, fc50, fc51, fc52, fc53, fc54, fc55, fc56, fc57, fc58, fc59⟩ := cells5 l1
  delta e175 b175 bodyOf envAt at F' dc1 dc2 dc3 dc4 dc5 ⊢
  try dsimp only at F' dc1 dc2 dc3 dc4 dc5 ⊢
  --HEAD--
  have hz1 : its.length ≤ 50 := by rw [PA.len]; exact hn50
  have hs1 : its.toArray.size = its.length := by simp
  have hs4 := PA.len
  have hnd9 := I.nd
  have flG : FlownA (adrT a df lo) l s.heap g' := (FlownA.ofKept kG' fun b hb => (o b ((adr0 b).mp hb)).2).mono fun c hc => (adr0 c).mp hc
  (repeat' (first | (first | ((with_reducible first | (rename Gets _ _ => gQ'; refine at_of gQ' ?_; clear gQ'; try (rename (_ → Shared → Prop) => qQ'; clear qQ')) | refine at_of (by assumption) ?_); (try dsimp only)) | (with_reducible (first | refine s_exec ?_ | refine s_comp ?_); (with_reducible ((fail_if_success (refine s_at ?_)); refine cutX ?_; intro _ _)))) | ((with_reducible show wpAny _ _ (exec (Stmt.For (Expr.Name _ _) (Expr.Name _ _) (_ :: _) [] _) _) _ _ _); (k_here; (rename Fr _ _ _ _ => lFzz); (with_unfolding_all refine For_invVF lFzz (by exact rfl) (by exact rfl) ?_; k_whole))) | (k_here; (with_reducible show wpAny _ _ (compareOp CmpOp.Eq (Value.ref _) (Value.ref _)) _ _ _); k_dflt (refine eq_intsS (isL (by k_asm) (by k_mem)) (isL (by k_asm) (by k_mem)) (by assumption) (by assumption) (by (simp only [Around.deeper_units, mkA, cLine]; omega)) ?_)) | ((with_reducible show wpAny _ _ (compareOp CmpOp.NotIn (Value.str _ _) (Value.ref _)) _ _ _); (k_here; k_dflt (refine notin_tabled (by k_asm) (by k_mem) (by assumption) (by assumption) (by assumption) ?_))) | (k_here; (with_reducible show wpAny _ _ (compareOp CmpOp.NotEq (Value.ref _) (Value.ref _)) _ _ _); k_dflt (refine ne_intsS (isL (by k_asm) (by k_mem)) (isL (by k_asm) (by k_mem)) (by assumption) (by assumption) (by (simp only [Around.deeper_units, mkA, cLine]; omega)) ?_)) | (k_here; (with_reducible show wpAny _ _ (compareOp CmpOp.NotEq (Value.ref _) (Value.ref _)) _ _ _); k_dflt (refine ne_strsS (isL (by k_asm) (by k_mem)) (isL (by k_asm) (by k_mem)) (by assumption) (by assumption) (by (simp only [Around.deeper_units, mkA, cLine]; omega)) (by assumption) ?_)) | (k_here; (with_reducible show wpAny _ _ (compareOp CmpOp.NotEq (Value.ref _) (Value.ref _)) _ _ _); k_dflt (refine ne_strs0 (isL (by k_asm) (by k_mem)) (isL (by k_asm) (by k_mem)) (by assumption) (by (simp only [Around.deeper_units, mkA, cLine]; omega)) (by assumption) ?_)) | ((with_reducible show wpAny _ _ (eval (Expr.Lambda _ _ _ _) _) _ _ _); (k_here; (rename Mine.Dum _ _ _ => hMzz); k_dflt (refine lam_keep (by k_asm) (by k_asm) (by k_asm) (by assumption) (by exact rfl) (by k_updF) (by assumption) (by with_unfolding_all exact rfl) hMzz (by k_mem) (by exact List.forall_mem_cons.mpr ⟨⟨by k_ne, _, by k_mem⟩, List.forall_mem_cons.mpr ⟨⟨by k_ne, _, by k_mem⟩, fun _ h => nomatch h⟩⟩) ?_ (by with_unfolding_all exact rfl) (by exact rfl); k_whole); intro _ _ _ _ _ _ _ _ _ Nzz _ _ l1zz _ _; (try dsimp only at Nzz); (try k_lt l1zz))) | (k_here; (with_reducible show wpAny _ _ (call (Value.type _) [Value.ref _]) _ _ _); k_dflt (refine kup_listOf (by k_asm) (by k_asm) (by k_mem) (by exact rfl) ?_ (by (simp only [sizeLine_eq]; omega))); intro _ _ _ _ _ l1zz; (try k_lt l1zz); (try k_sweep)) | (k_here; (with_reducible show wpAny _ _ (call (Value.type "dict") [Value.ref _]) _ _ _); k_dflt (refine dict_pairs2 (by k_asm) (by k_asm) (Top.nolimit (by k_asm)) (by rfl) (by assumption) (by assumption) (by assumption) (by omega) ?_); intro _ _ _ _ _ _ _ l1zz _ _ _; (try k_lt l1zz); (try k_sweep)) | (k_here; (with_reducible show wpAny _ _ (call (Value.ref 158) [Value.ref _, Value.int _ _]) _ _ _); k_dflt (refine literal_use X T (by assumption) (by k_asm) (by k_asm) (by k_updF) (by assumption) (by assumption) (by assumption) (by assumption) (by assumption) (by assumption) (by assumption) (by omega) (by omega) (by omega) (by omega) (by omega) ?_); intro _ _ _ _ _ _ _ _ _ _; (try k_sweep)) | (k_here; (with_reducible show wpAny _ _ (call (Value.ref 151) [Value.ref _, Value.int _ _]) _ _ _); k_dflt (refine draw_use X T (by assumption) (by k_asm) (by k_asm) (by k_updF) (by assumption) (by assumption) (by assumption) (by assumption) (by assumption) (by assumption) (by assumption) (by omega) (by omega) (by omega) (by omega) (by omega) ?_); intro _ _ _ _ _ _ _ _ _ _ _; (try k_sweep)) | (k_here; (with_reducible show wpAny _ _ (subscriptTail _ _ (Value.ref _) (Value.str _ _)) _ _ _); k_dflt (refine item_tabled (by k_asm) (by k_mem) (by assumption) (by assumption) (by assumption) ?_); intro _) | ((fail_if_success (with_reducible first | refine s_done ?_ | refine s_iter ?_ | refine s_tpost ?_ | refine s_while ?_ | refine s_call (by decide) ?_ | refine s_ifexp ?_ | refine s_cend ?_ | refine s_comp ?_ | refine s_srcT ?_ | refine s_src ?_)); (first | (k_unfold; (try dsimp only)) | (k_end; wrow_close) | walk1 | (dsimp only; walk1) | (leave1; walk_say "STEP leave1"; try dsimp only)))))
  rename News _ _ _ _ => NN
  rename Fr _ _ _ _ => FF
  have hNk := fun (env : Env) (hfr : env.frame = some L') => led_push (sub := kLed a d k) (env := env) B' NN (by lcg_sub) hfr
  refine literals_spec X T ?B1 (by show dp + 1 ≤ 600; omega) OO (off_of_led (hNk _ rfl)) (kat_of NN (by lcg_sub) R) (by omega) ?_
  case B1 => exact pushX B' FF rfl rfl
  intro h3 tk3 D3 ys3 n3 k3 hD3 hd3 hys3
  obtain ⟨F3, N3, o3⟩ := call_new FF NN k3 hD3 hd3
  simp only [LCg.Off1, and_true] at o3
  clear FF NN k3 hD3 hd3
  (repeat' (first | (first | ((with_reducible first | (rename Gets _ _ => gQ'; refine at_of gQ' ?_; clear gQ'; try (rename (_ → Shared → Prop) => qQ'; clear qQ')) | refine at_of (by assumption) ?_); (try dsimp only)) | (with_reducible (first | refine s_exec ?_ | refine s_comp ?_); (with_reducible ((fail_if_success (refine s_at ?_)); refine cutX ?_; intro _ _)))) | ((with_reducible show wpAny _ _ (exec (Stmt.For (Expr.Name _ _) (Expr.Name _ _) (_ :: _) [] _) _) _ _ _); (k_here; (rename Fr _ _ _ _ => lFzz); (with_unfolding_all refine For_invVF lFzz (by exact rfl) (by exact rfl) ?_; k_whole))) | (k_here; (with_reducible show wpAny _ _ (compareOp CmpOp.Eq (Value.ref _) (Value.ref _)) _ _ _); k_dflt (refine eq_intsS (isL (by k_asm) (by k_mem)) (isL (by k_asm) (by k_mem)) (by assumption) (by assumption) (by (simp only [Around.deeper_units, mkA, cLine]; omega)) ?_)) | ((with_reducible show wpAny _ _ (compareOp CmpOp.NotIn (Value.str _ _) (Value.ref _)) _ _ _); (k_here; k_dflt (refine notin_tabled (by k_asm) (by k_mem) (by assumption) (by assumption) (by assumption) ?_))) | (k_here; (with_reducible show wpAny _ _ (compareOp CmpOp.NotEq (Value.ref _) (Value.ref _)) _ _ _); k_dflt (refine ne_intsS (isL (by k_asm) (by k_mem)) (isL (by k_asm) (by k_mem)) (by assumption) (by assumption) (by (simp only [Around.deeper_units, mkA, cLine]; omega)) ?_)) | (k_here; (with_reducible show wpAny _ _ (compareOp CmpOp.NotEq (Value.ref _) (Value.ref _)) _ _ _); k_dflt (refine ne_strsS (isL (by k_asm) (by k_mem)) (isL (by k_asm) (by k_mem)) (by assumption) (by assumption) (by (simp only [Around.deeper_units, mkA, cLine]; omega)) (by assumption) ?_)) | (k_here; (with_reducible show wpAny _ _ (compareOp CmpOp.NotEq (Value.ref _) (Value.ref _)) _ _ _); k_dflt (refine ne_strs0 (isL (by k_asm) (by k_mem)) (isL (by k_asm) (by k_mem)) (by assumption) (by (simp only [Around.deeper_units, mkA, cLine]; omega)) (by assumption) ?_)) | ((with_reducible show wpAny _ _ (eval (Expr.Lambda _ _ _ _) _) _ _ _); (k_here; (rename Mine.Dum _ _ _ => hMzz); k_dflt (refine lam_keep (by k_asm) (by k_asm) (by k_asm) (by assumption) (by exact rfl) (by k_updF) (by assumption) (by with_unfolding_all exact rfl) hMzz (by k_mem) (by exact List.forall_mem_cons.mpr ⟨⟨by k_ne, _, by k_mem⟩, List.forall_mem_cons.mpr ⟨⟨by k_ne, _, by k_mem⟩, fun _ h => nomatch h⟩⟩) ?_ (by with_unfolding_all exact rfl) (by exact rfl); k_whole); intro _ _ _ _ _ _ _ _ _ Nzz _ _ l1zz _ _; (try dsimp only at Nzz); (try k_lt l1zz))) | (k_here; (with_reducible show wpAny _ _ (call (Value.type _) [Value.ref _]) _ _ _); k_dflt (refine kup_listOf (by k_asm) (by k_asm) (by k_mem) (by exact rfl) ?_ (by (simp only [sizeLine_eq]; omega))); intro _ _ _ _ _ l1zz; (try k_lt l1zz); (try k_sweep)) | (k_here; (with_reducible show wpAny _ _ (call (Value.type "dict") [Value.ref _]) _ _ _); k_dflt (refine dict_pairs2 (by k_asm) (by k_asm) (Top.nolimit (by k_asm)) (by rfl) (by assumption) (by assumption) (by assumption) (by omega) ?_); intro _ _ _ _ _ _ _ l1zz _ _ _; (try k_lt l1zz); (try k_sweep)) | (k_here; (with_reducible show wpAny _ _ (call (Value.ref 158) [Value.ref _, Value.int _ _]) _ _ _); k_dflt (refine literal_use X T (by assumption) (by k_asm) (by k_asm) (by k_updF) (by assumption) (by assumption) (by assumption) (by assumption) (by assumption) (by assumption) (by assumption) (by omega) (by omega) (by omega) (by omega) (by omega) ?_); intro _ _ _ _ _ _ _ _ _ _; (try k_sweep)) | (k_here; (with_reducible show wpAny _ _ (call (Value.ref 151) [Value.ref _, Value.int _ _]) _ _ _); k_dflt (refine draw_use X T (by assumption) (by k_asm) (by k_asm) (by k_updF) (by assumption) (by assumption) (by assumption) (by assumption) (by assumption) (by assumption) (by assumption) (by omega) (by omega) (by omega) (by omega) (by omega) ?_); intro _ _ _ _ _ _ _ _ _ _ _; (try k_sweep)) | (k_here; (with_reducible show wpAny _ _ (subscriptTail _ _ (Value.ref _) (Value.str _ _)) _ _ _); k_dflt (refine item_tabled (by k_asm) (by k_mem) (by assumption) (by assumption) (by assumption) ?_); intro _) | ((fail_if_success (with_reducible first | refine s_done ?_ | refine s_iter ?_ | refine s_tpost ?_ | refine s_while ?_ | refine s_call (by decide) ?_ | refine s_ifexp ?_ | refine s_cend ?_ | refine s_comp ?_ | refine s_srcT ?_ | refine s_src ?_)); (first | (k_unfold; (try dsimp only)) | (k_end; wrow_close) | walk1 | (dsimp only; walk1) | (leave1; walk_say "STEP leave1"; try dsimp only)))))
  refine ListComp_Q (by rfl) (F₀ := by k_asm) (by with_unfolding_all rfl) (by decide) (by rfl) (by decide) (by rfl) (by rfl) (by decide) ?_
  (repeat' (first | (first | ((with_reducible first | (rename Gets _ _ => gQ'; refine at_of gQ' ?_; clear gQ'; try (rename (_ → Shared → Prop) => qQ'; clear qQ')) | refine at_of (by assumption) ?_); (try dsimp only)) | (with_reducible (first | refine s_exec ?_ | refine s_comp ?_); (with_reducible ((fail_if_success (refine s_at ?_)); refine cutX ?_; intro _ _)))) | ((with_reducible show wpAny _ _ (exec (Stmt.For (Expr.Name _ _) (Expr.Name _ _) (_ :: _) [] _) _) _ _ _); (k_here; (rename Fr _ _ _ _ => lFzz); (with_unfolding_all refine For_invVF lFzz (by exact rfl) (by exact rfl) ?_; k_whole))) | (k_here; (with_reducible show wpAny _ _ (compareOp CmpOp.Eq (Value.ref _) (Value.ref _)) _ _ _); k_dflt (refine eq_intsS (isL (by k_asm) (by k_mem)) (isL (by k_asm) (by k_mem)) (by assumption) (by assumption) (by (simp only [Around.deeper_units, mkA, cLine]; omega)) ?_)) | ((with_reducible show wpAny _ _ (compareOp CmpOp.NotIn (Value.str _ _) (Value.ref _)) _ _ _); (k_here; k_dflt (refine notin_tabled (by k_asm) (by k_mem) (by assumption) (by assumption) (by assumption) ?_))) | (k_here; (with_reducible show wpAny _ _ (compareOp CmpOp.NotEq (Value.ref _) (Value.ref _)) _ _ _); k_dflt (refine ne_intsS (isL (by k_asm) (by k_mem)) (isL (by k_asm) (by k_mem)) (by assumption) (by assumption) (by (simp only [Around.deeper_units, mkA, cLine]; omega)) ?_)) | (k_here; (with_reducible show wpAny _ _ (compareOp CmpOp.NotEq (Value.ref _) (Value.ref _)) _ _ _); k_dflt (refine ne_strsS (isL (by k_asm) (by k_mem)) (isL (by k_asm) (by k_mem)) (by assumption) (by assumption) (by (simp only [Around.deeper_units, mkA, cLine]; omega)) (by assumption) ?_)) | (k_here; (with_reducible show wpAny _ _ (compareOp CmpOp.NotEq (Value.ref _) (Value.ref _)) _ _ _); k_dflt (refine ne_strs0 (isL (by k_asm) (by k_mem)) (isL (by k_asm) (by k_mem)) (by assumption) (by (simp only [Around.deeper_units, mkA, cLine]; omega)) (by assumption) ?_)) | ((with_reducible show wpAny _ _ (eval (Expr.Lambda _ _ _ _) _) _ _ _); (k_here; (rename Mine.Dum _ _ _ => hMzz); k_dflt (refine lam_keep (by k_asm) (by k_asm) (by k_asm) (by assumption) (by exact rfl) (by k_updF) (by assumption) (by with_unfolding_all exact rfl) hMzz (by k_mem) (by exact List.forall_mem_cons.mpr ⟨⟨by k_ne, _, by k_mem⟩, List.forall_mem_cons.mpr ⟨⟨by k_ne, _, by k_mem⟩, fun _ h => nomatch h⟩⟩) ?_ (by with_unfolding_all exact rfl) (by exact rfl); k_whole); intro _ _ _ _ _ _ _ _ _ Nzz _ _ l1zz _ _; (try dsimp only at Nzz); (try k_lt l1zz))) | (k_here; (with_reducible show wpAny _ _ (call (Value.type _) [Value.ref _]) _ _ _); k_dflt (refine kup_listOf (by k_asm) (by k_asm) (by k_mem) (by exact rfl) ?_ (by (simp only [sizeLine_eq]; omega))); intro _ _ _ _ _ l1zz; (try k_lt l1zz); (try k_sweep)) | (k_here; (with_reducible show wpAny _ _ (call (Value.type "dict") [Value.ref _]) _ _ _); k_dflt (refine dict_pairs2 (by k_asm) (by k_asm) (Top.nolimit (by k_asm)) (by rfl) (by assumption) (by assumption) (by assumption) (by omega) ?_); intro _ _ _ _ _ _ _ l1zz _ _ _; (try k_lt l1zz); (try k_sweep)) | (k_here; (with_reducible show wpAny _ _ (call (Value.ref 158) [Value.ref _, Value.int _ _]) _ _ _); k_dflt (refine literal_use X T (by assumption) (by k_asm) (by k_asm) (by k_updF) (by assumption) (by assumption) (by assumption) (by assumption) (by assumption) (by assumption) (by assumption) (by omega) (by omega) (by omega) (by omega) (by omega) ?_); intro _ _ _ _ _ _ _ _ _ _; (try k_sweep)) | (k_here; (with_reducible show wpAny _ _ (call (Value.ref 151) [Value.ref _, Value.int _ _]) _ _ _); k_dflt (refine draw_use X T (by assumption) (by k_asm) (by k_asm) (by k_updF) (by assumption) (by assumption) (by assumption) (by assumption) (by assumption) (by assumption) (by assumption) (by omega) (by omega) (by omega) (by omega) (by omega) ?_); intro _ _ _ _ _ _ _ _ _ _ _; (try k_sweep)) | (k_here; (with_reducible show wpAny _ _ (subscriptTail _ _ (Value.ref _) (Value.str _ _)) _ _ _); k_dflt (refine item_tabled (by k_asm) (by k_mem) (by assumption) (by assumption) (by assumption) ?_); intro _) | ((fail_if_success (with_reducible first | refine s_done ?_ | refine s_iter ?_ | refine s_tpost ?_ | refine s_while ?_ | refine s_call (by decide) ?_ | refine s_ifexp ?_ | refine s_cend ?_ | refine s_comp ?_ | refine s_srcT ?_ | refine s_src ?_)); (first | (k_unfold; (try dsimp only)) | (k_end; wrow_close) | walk1 | (dsimp only; walk1) | (leave1; walk_say "STEP leave1"; try dsimp only)))))
  refine SrcQ.intro (G := fun i v1 v2 => ∃ n sw tn ts, v1 = .str n tn ∧ v2 = .int sw ts ∧ names[i]? = some n ∧ sws[i]? = some sw) ((fun N₀ i ys nw => nw = N₀ ∧ IntsAre ys (sws.take i)) _) (by k_asm) (by k_asm) hlp' (by simp only [sizeLine_eq]; omega) ?G1 ?T1 ⟨rfl, .nil⟩ ?fin1
  case G1 =>
    intro i v hv
    obtain ⟨t, n, sw, tn, ts, rfl, ht, e1, e2⟩ := PA'.at_ i v (by simpa using hv)
    exact ⟨t, _, _, rfl, ht, n, sw, tn, ts, rfl, rfl, e1, e2⟩
  case T1 =>
    rintro g i ys nw v1 v2 I9 oI C9 oC D9 m₂ h₉ tk₉ E' hi9 ⟨rfl, hys⟩ ⟨n, sw, tn, ts, rfl, rfl, e1, e2⟩ hC hx hx2 F9 N9 off9 ne9
    have off0 := off9
    (try simp only [PyProof.Rows.LCg.Off3, and_true] at off9)
    refine wpAny_tests_nil ?_
    (repeat' (first | (first | ((with_reducible first | (rename Gets _ _ => gQ'; refine at_of gQ' ?_; clear gQ'; try (rename (_ → Shared → Prop) => qQ'; clear qQ')) | refine at_of (by assumption) ?_); (try dsimp only)) | (with_reducible (first | refine s_exec ?_ | refine s_comp ?_); (with_reducible ((fail_if_success (refine s_at ?_)); refine cutX ?_; intro _ _)))) | ((with_reducible show wpAny _ _ (exec (Stmt.For (Expr.Name _ _) (Expr.Name _ _) (_ :: _) [] _) _) _ _ _); (k_here; (rename Fr _ _ _ _ => lFzz); (with_unfolding_all refine For_invVF lFzz (by exact rfl) (by exact rfl) ?_; k_whole))) | (k_here; (with_reducible show wpAny _ _ (compareOp CmpOp.Eq (Value.ref _) (Value.ref _)) _ _ _); k_dflt (refine eq_intsS (isL (by k_asm) (by k_mem)) (isL (by k_asm) (by k_mem)) (by assumption) (by assumption) (by (simp only [Around.deeper_units, mkA, cLine]; omega)) ?_)) | ((with_reducible show wpAny _ _ (compareOp CmpOp.NotIn (Value.str _ _) (Value.ref _)) _ _ _); (k_here; k_dflt (refine notin_tabled (by k_asm) (by k_mem) (by assumption) (by assumption) (by assumption) ?_))) | (k_here; (with_reducible show wpAny _ _ (compareOp CmpOp.NotEq (Value.ref _) (Value.ref _)) _ _ _); k_dflt (refine ne_intsS (isL (by k_asm) (by k_mem)) (isL (by k_asm) (by k_mem)) (by assumption) (by assumption) (by (simp only [Around.deeper_units, mkA, cLine]; omega)) ?_)) | (k_here; (with_reducible show wpAny _ _ (compareOp CmpOp.NotEq (Value.ref _) (Value.ref _)) _ _ _); k_dflt (refine ne_strsS (isL (by k_asm) (by k_mem)) (isL (by k_asm) (by k_mem)) (by assumption) (by assumption) (by (simp only [Around.deeper_units, mkA, cLine]; omega)) (by assumption) ?_)) | (k_here; (with_reducible show wpAny _ _ (compareOp CmpOp.NotEq (Value.ref _) (Value.ref _)) _ _ _); k_dflt (refine ne_strs0 (isL (by k_asm) (by k_mem)) (isL (by k_asm) (by k_mem)) (by assumption) (by (simp only [Around.deeper_units, mkA, cLine]; omega)) (by assumption) ?_)) | ((with_reducible show wpAny _ _ (eval (Expr.Lambda _ _ _ _) _) _ _ _); (k_here; (rename Mine.Dum _ _ _ => hMzz); k_dflt (refine lam_keep (by k_asm) (by k_asm) (by k_asm) (by assumption) (by exact rfl) (by k_updF) (by assumption) (by with_unfolding_all exact rfl) hMzz (by k_mem) (by exact List.forall_mem_cons.mpr ⟨⟨by k_ne, _, by k_mem⟩, List.forall_mem_cons.mpr ⟨⟨by k_ne, _, by k_mem⟩, fun _ h => nomatch h⟩⟩) ?_ (by with_unfolding_all exact rfl) (by exact rfl); k_whole); intro _ _ _ _ _ _ _ _ _ Nzz _ _ l1zz _ _; (try dsimp only at Nzz); (try k_lt l1zz))) | (k_here; (with_reducible show wpAny _ _ (call (Value.type _) [Value.ref _]) _ _ _); k_dflt (refine kup_listOf (by k_asm) (by k_asm) (by k_mem) (by exact rfl) ?_ (by (simp only [sizeLine_eq]; omega))); intro _ _ _ _ _ l1zz; (try k_lt l1zz); (try k_sweep)) | (k_here; (with_reducible show wpAny _ _ (call (Value.type "dict") [Value.ref _]) _ _ _); k_dflt (refine dict_pairs2 (by k_asm) (by k_asm) (Top.nolimit (by k_asm)) (by rfl) (by assumption) (by assumption) (by assumption) (by omega) ?_); intro _ _ _ _ _ _ _ l1zz _ _ _; (try k_lt l1zz); (try k_sweep)) | (k_here; (with_reducible show wpAny _ _ (call (Value.ref 158) [Value.ref _, Value.int _ _]) _ _ _); k_dflt (refine literal_use X T (by assumption) (by k_asm) (by k_asm) (by k_updF) (by assumption) (by assumption) (by assumption) (by assumption) (by assumption) (by assumption) (by assumption) (by omega) (by omega) (by omega) (by omega) (by omega) ?_); intro _ _ _ _ _ _ _ _ _ _; (try k_sweep)) | (k_here; (with_reducible show wpAny _ _ (call (Value.ref 151) [Value.ref _, Value.int _ _]) _ _ _); k_dflt (refine draw_use X T (by assumption) (by k_asm) (by k_asm) (by k_updF) (by assumption) (by assumption) (by assumption) (by assumption) (by assumption) (by assumption) (by assumption) (by omega) (by omega) (by omega) (by omega) (by omega) ?_); intro _ _ _ _ _ _ _ _ _ _ _; (try k_sweep)) | (k_here; (with_reducible show wpAny _ _ (subscriptTail _ _ (Value.ref _) (Value.str _ _)) _ _ _); k_dflt (refine item_tabled (by k_asm) (by k_mem) (by assumption) (by assumption) (by assumption) ?_); intro _) | ((fail_if_success (with_reducible first | refine s_done ?_ | refine s_iter ?_ | refine s_tpost ?_ | refine s_while ?_ | refine s_call (by decide) ?_ | refine s_ifexp ?_ | refine s_cend ?_ | refine s_comp ?_ | refine s_srcT ?_ | refine s_src ?_)); (first | (k_unfold; (try dsimp only)) | (k_end; wrow_close) | walk1 | (dsimp only; walk1) | (leave1; walk_say "STEP leave1"; try dsimp only)))))
    rename Fr _ _ _ _ => FF
    rename News _ _ _ _ => NN
    refine cEnd FF NN off0 rfl trivial ⟨rfl, ?_⟩
    rw [take_snoc e2]
    exact intsAre_append hys (.cons _ _ .nil)
  rintro g ys _ ⟨rfl, hys⟩
  rw [hs1, hs4, I.len, List.take_length] at hys
  (repeat' (first | (first | ((with_reducible first | (rename Gets _ _ => gQ'; refine at_of gQ' ?_; clear gQ'; try (rename (_ → Shared → Prop) => qQ'; clear qQ')) | refine at_of (by assumption) ?_); (try dsimp only)) | (with_reducible (first | refine s_exec ?_ | refine s_comp ?_); (with_reducible ((fail_if_success (refine s_at ?_)); refine cutX ?_; intro _ _)))) | ((with_reducible show wpAny _ _ (exec (Stmt.For (Expr.Name _ _) (Expr.Name _ _) (_ :: _) [] _) _) _ _ _); (k_here; (rename Fr _ _ _ _ => lFzz); (with_unfolding_all refine For_invVF lFzz (by exact rfl) (by exact rfl) ?_; k_whole))) | (k_here; (with_reducible show wpAny _ _ (compareOp CmpOp.Eq (Value.ref _) (Value.ref _)) _ _ _); k_dflt (refine eq_intsS (isL (by k_asm) (by k_mem)) (isL (by k_asm) (by k_mem)) (by assumption) (by assumption) (by (simp only [Around.deeper_units, mkA, cLine]; omega)) ?_)) | ((with_reducible show wpAny _ _ (compareOp CmpOp.NotIn (Value.str _ _) (Value.ref _)) _ _ _); (k_here; k_dflt (refine notin_tabled (by k_asm) (by k_mem) (by assumption) (by assumption) (by assumption) ?_))) | (k_here; (with_reducible show wpAny _ _ (compareOp CmpOp.NotEq (Value.ref _) (Value.ref _)) _ _ _); k_dflt (refine ne_intsS (isL (by k_asm) (by k_mem)) (isL (by k_asm) (by k_mem)) (by assumption) (by assumption) (by (simp only [Around.deeper_units, mkA, cLine]; omega)) ?_)) | (k_here; (with_reducible show wpAny _ _ (compareOp CmpOp.NotEq (Value.ref _) (Value.ref _)) _ _ _); k_dflt (refine ne_strsS (isL (by k_asm) (by k_mem)) (isL (by k_asm) (by k_mem)) (by assumption) (by assumption) (by (simp only [Around.deeper_units, mkA, cLine]; omega)) (by assumption) ?_)) | (k_here; (with_reducible show wpAny _ _ (compareOp CmpOp.NotEq (Value.ref _) (Value.ref _)) _ _ _); k_dflt (refine ne_strs0 (isL (by k_asm) (by k_mem)) (isL (by k_asm) (by k_mem)) (by assumption) (by (simp only [Around.deeper_units, mkA, cLine]; omega)) (by assumption) ?_)) | ((with_reducible show wpAny _ _ (eval (Expr.Lambda _ _ _ _) _) _ _ _); (k_here; (rename Mine.Dum _ _ _ => hMzz); k_dflt (refine lam_keep (by k_asm) (by k_asm) (by k_asm) (by assumption) (by exact rfl) (by k_updF) (by assumption) (by with_unfolding_all exact rfl) hMzz (by k_mem) (by exact List.forall_mem_cons.mpr ⟨⟨by k_ne, _, by k_mem⟩, List.forall_mem_cons.mpr ⟨⟨by k_ne, _, by k_mem⟩, fun _ h => nomatch h⟩⟩) ?_ (by with_unfolding_all exact rfl) (by exact rfl); k_whole); intro _ _ _ _ _ _ _ _ _ Nzz _ _ l1zz _ _; (try dsimp only at Nzz); (try k_lt l1zz))) | (k_here; (with_reducible show wpAny _ _ (call (Value.type _) [Value.ref _]) _ _ _); k_dflt (refine kup_listOf (by k_asm) (by k_asm) (by k_mem) (by exact rfl) ?_ (by (simp only [sizeLine_eq]; omega))); intro _ _ _ _ _ l1zz; (try k_lt l1zz); (try k_sweep)) | (k_here; (with_reducible show wpAny _ _ (call (Value.type "dict") [Value.ref _]) _ _ _); k_dflt (refine dict_pairs2 (by k_asm) (by k_asm) (Top.nolimit (by k_asm)) (by rfl) (by assumption) (by assumption) (by assumption) (by omega) ?_); intro _ _ _ _ _ _ _ l1zz _ _ _; (try k_lt l1zz); (try k_sweep)) | (k_here; (with_reducible show wpAny _ _ (call (Value.ref 158) [Value.ref _, Value.int _ _]) _ _ _); k_dflt (refine literal_use X T (by assumption) (by k_asm) (by k_asm) (by k_updF) (by assumption) (by assumption) (by assumption) (by assumption) (by assumption) (by assumption) (by assumption) (by omega) (by omega) (by omega) (by omega) (by omega) ?_); intro _ _ _ _ _ _ _ _ _ _; (try k_sweep)) | (k_here; (with_reducible show wpAny _ _ (call (Value.ref 151) [Value.ref _, Value.int _ _]) _ _ _); k_dflt (refine draw_use X T (by assumption) (by k_asm) (by k_asm) (by k_updF) (by assumption) (by assumption) (by assumption) (by assumption) (by assumption) (by assumption) (by assumption) (by omega) (by omega) (by omega) (by omega) (by omega) ?_); intro _ _ _ _ _ _ _ _ _ _ _; (try k_sweep)) | (k_here; (with_reducible show wpAny _ _ (subscriptTail _ _ (Value.ref _) (Value.str _ _)) _ _ _); k_dflt (refine item_tabled (by k_asm) (by k_mem) (by assumption) (by assumption) (by assumption) ?_); intro _) | ((fail_if_success (with_reducible first | refine s_done ?_ | refine s_iter ?_ | refine s_tpost ?_ | refine s_while ?_ | refine s_call (by decide) ?_ | refine s_ifexp ?_ | refine s_cend ?_ | refine s_comp ?_ | refine s_srcT ?_ | refine s_src ?_)); (first | (k_unfold; (try dsimp only)) | (k_end; wrow_close) | walk1 | (dsimp only; walk1) | (leave1; walk_say "STEP leave1"; try dsimp only)))))
  rename News _ _ _ _ => NN
  have NN2 := News.less2 NN
  clear NN N3 o3
  refine PyProof.Rows.LCg.ListComp_U (F₀ := by k_asm) (by with_unfolding_all rfl) (by decide) (by rfl) (by decide) (by rfl) ?_
  (repeat' (first | (first | ((with_reducible first | (rename Gets _ _ => gQ'; refine at_of gQ' ?_; clear gQ'; try (rename (_ → Shared → Prop) => qQ'; clear qQ')) | refine at_of (by assumption) ?_); (try dsimp only)) | (with_reducible (first | refine s_exec ?_ | refine s_comp ?_); (with_reducible ((fail_if_success (refine s_at ?_)); refine cutX ?_; intro _ _)))) | ((with_reducible show wpAny _ _ (exec (Stmt.For (Expr.Name _ _) (Expr.Name _ _) (_ :: _) [] _) _) _ _ _); (k_here; (rename Fr _ _ _ _ => lFzz); (with_unfolding_all refine For_invVF lFzz (by exact rfl) (by exact rfl) ?_; k_whole))) | (k_here; (with_reducible show wpAny _ _ (compareOp CmpOp.Eq (Value.ref _) (Value.ref _)) _ _ _); k_dflt (refine eq_intsS (isL (by k_asm) (by k_mem)) (isL (by k_asm) (by k_mem)) (by assumption) (by assumption) (by (simp only [Around.deeper_units, mkA, cLine]; omega)) ?_)) | ((with_reducible show wpAny _ _ (compareOp CmpOp.NotIn (Value.str _ _) (Value.ref _)) _ _ _); (k_here; k_dflt (refine notin_tabled (by k_asm) (by k_mem) (by assumption) (by assumption) (by assumption) ?_))) | (k_here; (with_reducible show wpAny _ _ (compareOp CmpOp.NotEq (Value.ref _) (Value.ref _)) _ _ _); k_dflt (refine ne_intsS (isL (by k_asm) (by k_mem)) (isL (by k_asm) (by k_mem)) (by assumption) (by assumption) (by (simp only [Around.deeper_units, mkA, cLine]; omega)) ?_)) | (k_here; (with_reducible show wpAny _ _ (compareOp CmpOp.NotEq (Value.ref _) (Value.ref _)) _ _ _); k_dflt (refine ne_strsS (isL (by k_asm) (by k_mem)) (isL (by k_asm) (by k_mem)) (by assumption) (by assumption) (by (simp only [Around.deeper_units, mkA, cLine]; omega)) (by assumption) ?_)) | (k_here; (with_reducible show wpAny _ _ (compareOp CmpOp.NotEq (Value.ref _) (Value.ref _)) _ _ _); k_dflt (refine ne_strs0 (isL (by k_asm) (by k_mem)) (isL (by k_asm) (by k_mem)) (by assumption) (by (simp only [Around.deeper_units, mkA, cLine]; omega)) (by assumption) ?_)) | ((with_reducible show wpAny _ _ (eval (Expr.Lambda _ _ _ _) _) _ _ _); (k_here; (rename Mine.Dum _ _ _ => hMzz); k_dflt (refine lam_keep (by k_asm) (by k_asm) (by k_asm) (by assumption) (by exact rfl) (by k_updF) (by assumption) (by with_unfolding_all exact rfl) hMzz (by k_mem) (by exact List.forall_mem_cons.mpr ⟨⟨by k_ne, _, by k_mem⟩, List.forall_mem_cons.mpr ⟨⟨by k_ne, _, by k_mem⟩, fun _ h => nomatch h⟩⟩) ?_ (by with_unfolding_all exact rfl) (by exact rfl); k_whole); intro _ _ _ _ _ _ _ _ _ Nzz _ _ l1zz _ _; (try dsimp only at Nzz); (try k_lt l1zz))) | (k_here; (with_reducible show wpAny _ _ (call (Value.type _) [Value.ref _]) _ _ _); k_dflt (refine kup_listOf (by k_asm) (by k_asm) (by k_mem) (by exact rfl) ?_ (by (simp only [sizeLine_eq]; omega))); intro _ _ _ _ _ l1zz; (try k_lt l1zz); (try k_sweep)) | (k_here; (with_reducible show wpAny _ _ (call (Value.type "dict") [Value.ref _]) _ _ _); k_dflt (refine dict_pairs2 (by k_asm) (by k_asm) (Top.nolimit (by k_asm)) (by rfl) (by assumption) (by assumption) (by assumption) (by omega) ?_); intro _ _ _ _ _ _ _ l1zz _ _ _; (try k_lt l1zz); (try k_sweep)) | (k_here; (with_reducible show wpAny _ _ (call (Value.ref 158) [Value.ref _, Value.int _ _]) _ _ _); k_dflt (refine literal_use X T (by assumption) (by k_asm) (by k_asm) (by k_updF) (by assumption) (by assumption) (by assumption) (by assumption) (by assumption) (by assumption) (by assumption) (by omega) (by omega) (by omega) (by omega) (by omega) ?_); intro _ _ _ _ _ _ _ _ _ _; (try k_sweep)) | (k_here; (with_reducible show wpAny _ _ (call (Value.ref 151) [Value.ref _, Value.int _ _]) _ _ _); k_dflt (refine draw_use X T (by assumption) (by k_asm) (by k_asm) (by k_updF) (by assumption) (by assumption) (by assumption) (by assumption) (by assumption) (by assumption) (by assumption) (by omega) (by omega) (by omega) (by omega) (by omega) ?_); intro _ _ _ _ _ _ _ _ _ _ _; (try k_sweep)) | (k_here; (with_reducible show wpAny _ _ (subscriptTail _ _ (Value.ref _) (Value.str _ _)) _ _ _); k_dflt (refine item_tabled (by k_asm) (by k_mem) (by assumption) (by assumption) (by assumption) ?_); intro _) | ((fail_if_success (with_reducible first | refine s_done ?_ | refine s_iter ?_ | refine s_tpost ?_ | refine s_while ?_ | refine s_call (by decide) ?_ | refine s_ifexp ?_ | refine s_cend ?_ | refine s_comp ?_ | refine s_srcT ?_ | refine s_src ?_)); (first | (k_unfold; (try dsimp only)) | (k_end; wrow_close) | walk1 | (dsimp only; walk1) | (leave1; walk_say "STEP leave1"; try dsimp only)))))
  rename IsRange _ _ _ _ _ _ _ _ => RR
  rename feedIs _ _ _ _ _ _ => hfd
  rename Int => rr
  obtain ⟨m9, rfl⟩ := Int.eq_ofNat_of_zero_le (by assumption : 0 ≤ rr)
  refine PyProof.Rows.LCg.CompSrc.range (by rfl) (by k_asm) (by k_asm) RR (small12 (by omega)).1 (small12 (by omega)).2 (by simp only [sizeLine_eq]; omega) ?_
  intro g9
  refine restU (fun i ys nw => ∃ fo9 tk9 nms, nw = (L' + 1 + 1 + 1 + 1 + 1, oc1) :: (L' + 1 + 1 + 1 + 1, oc2) :: (L' + 1 + 1 + 1, oc3) :: (L' + 1 + 1, oc4) :: (L' + 1, oc5) :: (172, tabObj ps) :: (df, fo9) :: (kLed a d k ++ [(lo, listOf #[.ref lp, .ref lq] no)]) ∧
      feedIs prog w lc (ki + 1 + (i : Int)) tk9 fo9 ∧ StrsAre ys nms ∧ nms.length = i ∧ ∀ x ∈ nms, x.length ≤ 1000 ∧ PyData.strOk x = true) ?_ ?_ _ _ _ _ (Nat.zero_add _) ⟨_, _, [], rfl, by simpa using hfd, .nil, rfl, fun _ h => nomatch h⟩
  · rintro i ys _ v I9 oI C9 oC D9 m₂ h₉ tk₉ E' hi9 ⟨fo9, tk9, nms, rfl, hfd9, hys, hnl, hok⟩ hP hC hx F₉ N₉ off9 ne9
    clear hfd
    have off0 := off9
    (try simp only [List.cons_append, List.nil_append] at N₉ off9)
    (try simp only [PyProof.Rows.LCg.Off3, and_true] at off9)
    have hyl : ys.length ≤ 100 := by have h1 := strsAre_length hys; omega
    (repeat' (first | (first | ((with_reducible first | (rename Gets _ _ => gQ'; refine at_of gQ' ?_; clear gQ'; try (rename (_ → Shared → Prop) => qQ'; clear qQ')) | refine at_of (by assumption) ?_); (try dsimp only)) | (with_reducible (first | refine s_exec ?_ | refine s_comp ?_); (with_reducible ((fail_if_success (refine s_at ?_)); refine cutX ?_; intro _ _)))) | ((with_reducible show wpAny _ _ (exec (Stmt.For (Expr.Name _ _) (Expr.Name _ _) (_ :: _) [] _) _) _ _ _); (k_here; (rename Fr _ _ _ _ => lFzz); (with_unfolding_all refine For_invVF lFzz (by exact rfl) (by exact rfl) ?_; k_whole))) | (k_here; (with_reducible show wpAny _ _ (compareOp CmpOp.Eq (Value.ref _) (Value.ref _)) _ _ _); k_dflt (refine eq_intsS (isL (by k_asm) (by k_mem)) (isL (by k_asm) (by k_mem)) (by assumption) (by assumption) (by (simp only [Around.deeper_units, mkA, cLine]; omega)) ?_)) | ((with_reducible show wpAny _ _ (compareOp CmpOp.NotIn (Value.str _ _) (Value.ref _)) _ _ _); (k_here; k_dflt (refine notin_tabled (by k_asm) (by k_mem) (by assumption) (by assumption) (by assumption) ?_))) | (k_here; (with_reducible show wpAny _ _ (compareOp CmpOp.NotEq (Value.ref _) (Value.ref _)) _ _ _); k_dflt (refine ne_intsS (isL (by k_asm) (by k_mem)) (isL (by k_asm) (by k_mem)) (by assumption) (by assumption) (by (simp only [Around.deeper_units, mkA, cLine]; omega)) ?_)) | (k_here; (with_reducible show wpAny _ _ (compareOp CmpOp.NotEq (Value.ref _) (Value.ref _)) _ _ _); k_dflt (refine ne_strsS (isL (by k_asm) (by k_mem)) (isL (by k_asm) (by k_mem)) (by assumption) (by assumption) (by (simp only [Around.deeper_units, mkA, cLine]; omega)) (by assumption) ?_)) | (k_here; (with_reducible show wpAny _ _ (compareOp CmpOp.NotEq (Value.ref _) (Value.ref _)) _ _ _); k_dflt (refine ne_strs0 (isL (by k_asm) (by k_mem)) (isL (by k_asm) (by k_mem)) (by assumption) (by (simp only [Around.deeper_units, mkA, cLine]; omega)) (by assumption) ?_)) | ((with_reducible show wpAny _ _ (eval (Expr.Lambda _ _ _ _) _) _ _ _); (k_here; (rename Mine.Dum _ _ _ => hMzz); k_dflt (refine lam_keep (by k_asm) (by k_asm) (by k_asm) (by assumption) (by exact rfl) (by k_updF) (by assumption) (by with_unfolding_all exact rfl) hMzz (by k_mem) (by exact List.forall_mem_cons.mpr ⟨⟨by k_ne, _, by k_mem⟩, List.forall_mem_cons.mpr ⟨⟨by k_ne, _, by k_mem⟩, fun _ h => nomatch h⟩⟩) ?_ (by with_unfolding_all exact rfl) (by exact rfl); k_whole); intro _ _ _ _ _ _ _ _ _ Nzz _ _ l1zz _ _; (try dsimp only at Nzz); (try k_lt l1zz))) | (k_here; (with_reducible show wpAny _ _ (call (Value.type _) [Value.ref _]) _ _ _); k_dflt (refine kup_listOf (by k_asm) (by k_asm) (by k_mem) (by exact rfl) ?_ (by (simp only [sizeLine_eq]; omega))); intro _ _ _ _ _ l1zz; (try k_lt l1zz); (try k_sweep)) | (k_here; (with_reducible show wpAny _ _ (call (Value.type "dict") [Value.ref _]) _ _ _); k_dflt (refine dict_pairs2 (by k_asm) (by k_asm) (Top.nolimit (by k_asm)) (by rfl) (by assumption) (by assumption) (by assumption) (by omega) ?_); intro _ _ _ _ _ _ _ l1zz _ _ _; (try k_lt l1zz); (try k_sweep)) | (k_here; (with_reducible show wpAny _ _ (call (Value.ref 158) [Value.ref _, Value.int _ _]) _ _ _); k_dflt (refine literal_use X T (by assumption) (by k_asm) (by k_asm) (by k_updF) (by assumption) (by assumption) (by assumption) (by assumption) (by assumption) (by assumption) (by assumption) (by omega) (by omega) (by omega) (by omega) (by omega) ?_); intro _ _ _ _ _ _ _ _ _ _; (try k_sweep)) | (k_here; (with_reducible show wpAny _ _ (call (Value.ref 151) [Value.ref _, Value.int _ _]) _ _ _); k_dflt (refine draw_use X T (by assumption) (by k_asm) (by k_asm) (by k_updF) (by assumption) (by assumption) (by assumption) (by assumption) (by assumption) (by assumption) (by assumption) (by omega) (by omega) (by omega) (by omega) (by omega) ?_); intro _ _ _ _ _ _ _ _ _ _ _; (try k_sweep)) | (k_here; (with_reducible show wpAny _ _ (subscriptTail _ _ (Value.ref _) (Value.str _ _)) _ _ _); k_dflt (refine item_tabled (by k_asm) (by k_mem) (by assumption) (by assumption) (by assumption) ?_); intro _) | ((fail_if_success (with_reducible first | refine s_done ?_ | refine s_iter ?_ | refine s_tpost ?_ | refine s_while ?_ | refine s_call (by decide) ?_ | refine s_ifexp ?_ | refine s_cend ?_ | refine s_comp ?_ | refine s_srcT ?_ | refine s_src ?_)); (first | (k_unfold; (try dsimp only)) | (k_end; wrow_close) | walk1 | (dsimp only; walk1) | (leave1; walk_say "STEP leave1"; try dsimp only)))))
    rename (_ < (5 : Int)) => hr5
    have hnm := lc_nm5 (by assumption) hr5
    generalize Txt.item (Str.ofString "abcde") _ = x at *
    rename Fr _ _ _ _ => FF
    rename News _ _ _ _ => NN
    rename feedIs _ _ _ _ _ _ => hfd2
    rw [show ki + 1 + (i : Int) + 1 = ki + 1 + ((i + 1 : Nat) : Int) by omega] at hfd2
    refine cEnd FF NN off0 rfl trivial ⟨_, _, nms ++ [x], rfl, hfd2, strsAre_append hys (.cons _ _ .nil), by simp [hnl], fun y hy => ?_⟩
    rcases List.mem_append.mp hy with hy | hy
    · exact hok y hy
    · rw [List.mem_singleton.mp hy]; exact hnm
  · rintro ys _ ⟨fo9, tk9, nms, rfl, hfd9, hys, hnl, hok⟩
    clear hfd
    (try simp only [List.cons_append, List.nil_append])
    (repeat' (first | (first | ((with_reducible first | (rename Gets _ _ => gQ'; refine at_of gQ' ?_; clear gQ'; try (rename (_ → Shared → Prop) => qQ'; clear qQ')) | refine at_of (by assumption) ?_); (try dsimp only)) | (with_reducible (first | refine s_exec ?_ | refine s_comp ?_); (with_reducible ((fail_if_success (refine s_at ?_)); refine cutX ?_; intro _ _)))) | ((with_reducible show wpAny _ _ (exec (Stmt.For (Expr.Name _ _) (Expr.Name _ _) (_ :: _) [] _) _) _ _ _); (k_here; (rename Fr _ _ _ _ => lFzz); (with_unfolding_all refine For_invVF lFzz (by exact rfl) (by exact rfl) ?_; k_whole))) | (k_here; (with_reducible show wpAny _ _ (compareOp CmpOp.Eq (Value.ref _) (Value.ref _)) _ _ _); k_dflt (refine eq_intsS (isL (by k_asm) (by k_mem)) (isL (by k_asm) (by k_mem)) (by assumption) (by assumption) (by (simp only [Around.deeper_units, mkA, cLine]; omega)) ?_)) | ((with_reducible show wpAny _ _ (compareOp CmpOp.NotIn (Value.str _ _) (Value.ref _)) _ _ _); (k_here; k_dflt (refine notin_tabled (by k_asm) (by k_mem) (by assumption) (by assumption) (by assumption) ?_))) | (k_here; (with_reducible show wpAny _ _ (compareOp CmpOp.NotEq (Value.ref _) (Value.ref _)) _ _ _); k_dflt (refine ne_intsS (isL (by k_asm) (by k_mem)) (isL (by k_asm) (by k_mem)) (by assumption) (by assumption) (by (simp only [Around.deeper_units, mkA, cLine]; omega)) ?_)) | (k_here; (with_reducible show wpAny _ _ (compareOp CmpOp.NotEq (Value.ref _) (Value.ref _)) _ _ _); k_dflt (refine ne_strsS (isL (by k_asm) (by k_mem)) (isL (by k_asm) (by k_mem)) (by assumption) (by assumption) (by (simp only [Around.deeper_units, mkA, cLine]; omega)) (by assumption) ?_)) | (k_here; (with_reducible show wpAny _ _ (compareOp CmpOp.NotEq (Value.ref _) (Value.ref _)) _ _ _); k_dflt (refine ne_strs0 (isL (by k_asm) (by k_mem)) (isL (by k_asm) (by k_mem)) (by assumption) (by (simp only [Around.deeper_units, mkA, cLine]; omega)) (by assumption) ?_)) | ((with_reducible show wpAny _ _ (eval (Expr.Lambda _ _ _ _) _) _ _ _); (k_here; (rename Mine.Dum _ _ _ => hMzz); k_dflt (refine lam_keep (by k_asm) (by k_asm) (by k_asm) (by assumption) (by exact rfl) (by k_updF) (by assumption) (by with_unfolding_all exact rfl) hMzz (by k_mem) (by exact List.forall_mem_cons.mpr ⟨⟨by k_ne, _, by k_mem⟩, List.forall_mem_cons.mpr ⟨⟨by k_ne, _, by k_mem⟩, fun _ h => nomatch h⟩⟩) ?_ (by with_unfolding_all exact rfl) (by exact rfl); k_whole); intro _ _ _ _ _ _ _ _ _ Nzz _ _ l1zz _ _; (try dsimp only at Nzz); (try k_lt l1zz))) | (k_here; (with_reducible show wpAny _ _ (call (Value.type _) [Value.ref _]) _ _ _); k_dflt (refine kup_listOf (by k_asm) (by k_asm) (by k_mem) (by exact rfl) ?_ (by (simp only [sizeLine_eq]; omega))); intro _ _ _ _ _ l1zz; (try k_lt l1zz); (try k_sweep)) | (k_here; (with_reducible show wpAny _ _ (call (Value.type "dict") [Value.ref _]) _ _ _); k_dflt (refine dict_pairs2 (by k_asm) (by k_asm) (Top.nolimit (by k_asm)) (by rfl) (by assumption) (by assumption) (by assumption) (by omega) ?_); intro _ _ _ _ _ _ _ l1zz _ _ _; (try k_lt l1zz); (try k_sweep)) | (k_here; (with_reducible show wpAny _ _ (call (Value.ref 158) [Value.ref _, Value.int _ _]) _ _ _); k_dflt (refine literal_use X T (by assumption) (by k_asm) (by k_asm) (by k_updF) (by assumption) (by assumption) (by assumption) (by assumption) (by assumption) (by assumption) (by assumption) (by omega) (by omega) (by omega) (by omega) (by omega) ?_); intro _ _ _ _ _ _ _ _ _ _; (try k_sweep)) | (k_here; (with_reducible show wpAny _ _ (call (Value.ref 151) [Value.ref _, Value.int _ _]) _ _ _); k_dflt (refine draw_use X T (by assumption) (by k_asm) (by k_asm) (by k_updF) (by assumption) (by assumption) (by assumption) (by assumption) (by assumption) (by assumption) (by assumption) (by omega) (by omega) (by omega) (by omega) (by omega) ?_); intro _ _ _ _ _ _ _ _ _ _ _; (try k_sweep)) | (k_here; (with_reducible show wpAny _ _ (subscriptTail _ _ (Value.ref _) (Value.str _ _)) _ _ _); k_dflt (refine item_tabled (by k_asm) (by k_mem) (by assumption) (by assumption) (by assumption) ?_); intro _) | ((fail_if_success (with_reducible refine s_if ?_)); ((fail_if_success (with_reducible first | refine s_done ?_ | refine s_iter ?_ | refine s_tpost ?_ | refine s_while ?_ | refine s_call (by decide) ?_ | refine s_ifexp ?_ | refine s_cend ?_ | refine s_comp ?_ | refine s_srcT ?_ | refine s_src ?_)); (first | (k_unfold; (try dsimp only)) | (k_end; wrow_close) | walk1 | (dsimp only; walk1) | (leave1; walk_say "STEP leave1"; try dsimp only))))))
    rename_i Dn hh1 tt1 on1 hh2 onm dnm dT hh3 tt3 oT kvT loT hdT hTT hh4 otb FF NN dtb qq gq
    have hyl : ys.toArray.size = nms.length := by have h1 := strsAre_length hys; simp; omega
    refine cutMid (A0 := mkA dp un gd l) (base := base) (l := l) (adr := adrT a df lo) (qual := "_law_are_told.<locals>.<lambda>") (nw := fun ps5 => (L' + 1 + 1 + 1 + 1, oc2) :: (L' + 1 + 1, oc4) :: (L' + 1, oc5) :: (172, tabObj ps5) :: (df, fo9) :: (kLed a d k ++ [(lo, listOf #[.ref lp, .ref lq] no)])) (av := [df, L' + 1 + 1 + 1 + 1]) FF s ?first ?second
    case first =>
      have hD9 : Dum lo (listOf #[.ref lp, .ref lq] no) [df, L' + 1 + 1 + 1 + 1] := trivial
      walk1
      (repeat' (first | (first | ((with_reducible first | (rename Gets _ _ => gQ'; refine at_of gQ' ?_; clear gQ'; try (rename (_ → Shared → Prop) => qQ'; clear qQ')) | refine at_of (by assumption) ?_); (try dsimp only)) | (with_reducible (first | refine s_exec ?_ | refine s_comp ?_); (with_reducible ((fail_if_success (refine s_at ?_)); refine cutX ?_; intro _ _)))) | ((with_reducible show wpAny _ _ (exec (Stmt.For (Expr.Name _ _) (Expr.Name _ _) (_ :: _) [] _) _) _ _ _); (k_here; (rename Fr _ _ _ _ => lFzz); (with_unfolding_all refine For_invVF lFzz (by exact rfl) (by exact rfl) ?_; k_whole))) | (k_here; (with_reducible show wpAny _ _ (compareOp CmpOp.Eq (Value.ref _) (Value.ref _)) _ _ _); k_dflt (refine eq_intsS (isL (by k_asm) (by k_mem)) (isL (by k_asm) (by k_mem)) (by assumption) (by assumption) (by (simp only [Around.deeper_units, mkA, cLine]; omega)) ?_)) | ((with_reducible show wpAny _ _ (compareOp CmpOp.NotIn (Value.str _ _) (Value.ref _)) _ _ _); (k_here; k_dflt (refine notin_tabled (by k_asm) (by k_mem) (by assumption) (by assumption) (by assumption) ?_))) | (k_here; (with_reducible show wpAny _ _ (compareOp CmpOp.NotEq (Value.ref _) (Value.ref _)) _ _ _); k_dflt (refine ne_intsS (isL (by k_asm) (by k_mem)) (isL (by k_asm) (by k_mem)) (by assumption) (by assumption) (by (simp only [Around.deeper_units, mkA, cLine]; omega)) ?_)) | (k_here; (with_reducible show wpAny _ _ (compareOp CmpOp.NotEq (Value.ref _) (Value.ref _)) _ _ _); k_dflt (refine ne_strsS (isL (by k_asm) (by k_mem)) (isL (by k_asm) (by k_mem)) (by assumption) (by assumption) (by (simp only [Around.deeper_units, mkA, cLine]; omega)) (by assumption) ?_)) | (k_here; (with_reducible show wpAny _ _ (compareOp CmpOp.NotEq (Value.ref _) (Value.ref _)) _ _ _); k_dflt (refine ne_strs0 (isL (by k_asm) (by k_mem)) (isL (by k_asm) (by k_mem)) (by assumption) (by (simp only [Around.deeper_units, mkA, cLine]; omega)) (by assumption) ?_)) | ((with_reducible show wpAny _ _ (eval (Expr.Lambda _ _ _ _) _) _ _ _); (k_here; (rename Mine.Dum _ _ _ => hMzz); k_dflt (refine lam_keep (by k_asm) (by k_asm) (by k_asm) (by assumption) (by exact rfl) (by k_updF) (by assumption) (by with_unfolding_all exact rfl) hMzz (by k_mem) (by exact List.forall_mem_cons.mpr ⟨⟨by k_ne, _, by k_mem⟩, List.forall_mem_cons.mpr ⟨⟨by k_ne, _, by k_mem⟩, fun _ h => nomatch h⟩⟩) ?_ (by with_unfolding_all exact rfl) (by exact rfl); k_whole); intro _ _ _ _ _ _ _ _ _ Nzz _ _ l1zz _ _; (try dsimp only at Nzz); (try k_lt l1zz))) | (k_here; (with_reducible show wpAny _ _ (call (Value.type _) [Value.ref _]) _ _ _); k_dflt (refine kup_listOf (by k_asm) (by k_asm) (by k_mem) (by exact rfl) ?_ (by (simp only [sizeLine_eq]; omega))); intro _ _ _ _ _ l1zz; (try k_lt l1zz); (try k_sweep)) | (k_here; (with_reducible show wpAny _ _ (call (Value.type "dict") [Value.ref _]) _ _ _); k_dflt (refine dict_pairs2 (by k_asm) (by k_asm) (Top.nolimit (by k_asm)) (by rfl) (by assumption) (by assumption) (by assumption) (by omega) ?_); intro _ _ _ _ _ _ _ l1zz _ _ _; (try k_lt l1zz); (try k_sweep)) | (k_here; (with_reducible show wpAny _ _ (call (Value.ref 158) [Value.ref _, Value.int _ _]) _ _ _); k_dflt (refine literal_use X T (by assumption) (by k_asm) (by k_asm) (by k_updF) (by assumption) (by assumption) (by assumption) (by assumption) (by assumption) (by assumption) (by assumption) (by omega) (by omega) (by omega) (by omega) (by omega) ?_); intro _ _ _ _ _ _ _ _ _ _; (try k_sweep)) | (k_here; (with_reducible show wpAny _ _ (call (Value.ref 151) [Value.ref _, Value.int _ _]) _ _ _); k_dflt (refine draw_use X T (by assumption) (by k_asm) (by k_asm) (by k_updF) (by assumption) (by assumption) (by assumption) (by assumption) (by assumption) (by assumption) (by assumption) (by omega) (by omega) (by omega) (by omega) (by omega) ?_); intro _ _ _ _ _ _ _ _ _ _ _; (try k_sweep)) | (k_here; (with_reducible show wpAny _ _ (subscriptTail _ _ (Value.ref _) (Value.str _ _)) _ _ _); k_dflt (refine item_tabled (by k_asm) (by k_mem) (by assumption) (by assumption) (by assumption) ?_); intro _) | ((fail_if_success (with_reducible first | refine s_done ?_ | refine s_iter ?_ | refine s_tpost ?_ | refine s_while ?_ | refine s_call (by decide) ?_ | refine s_ifexp ?_ | refine s_cend ?_ | refine s_comp ?_ | refine s_srcT ?_ | refine s_src ?_)); (first | (k_unfold; (try dsimp only)) | (k_end; wrow_close) | walk1 | (dsimp only; walk1) | (leave1; walk_say "STEP leave1"; try dsimp only)))))
      refine PyProof.Rows.LCt.ListComp_T (F₀ := by k_asm) (by with_unfolding_all rfl) (by decide) (by rfl) (by decide) (by rfl) ?_
      (repeat' (first | (first | ((with_reducible first | (rename Gets _ _ => gQ'; refine at_of gQ' ?_; clear gQ'; try (rename (_ → Shared → Prop) => qQ'; clear qQ')) | refine at_of (by assumption) ?_); (try dsimp only)) | (with_reducible (first | refine s_exec ?_ | refine s_comp ?_); (with_reducible ((fail_if_success (refine s_at ?_)); refine cutX ?_; intro _ _)))) | ((with_reducible show wpAny _ _ (exec (Stmt.For (Expr.Name _ _) (Expr.Name _ _) (_ :: _) [] _) _) _ _ _); (k_here; (rename Fr _ _ _ _ => lFzz); (with_unfolding_all refine For_invVF lFzz (by exact rfl) (by exact rfl) ?_; k_whole))) | (k_here; (with_reducible show wpAny _ _ (compareOp CmpOp.Eq (Value.ref _) (Value.ref _)) _ _ _); k_dflt (refine eq_intsS (isL (by k_asm) (by k_mem)) (isL (by k_asm) (by k_mem)) (by assumption) (by assumption) (by (simp only [Around.deeper_units, mkA, cLine]; omega)) ?_)) | ((with_reducible show wpAny _ _ (compareOp CmpOp.NotIn (Value.str _ _) (Value.ref _)) _ _ _); (k_here; k_dflt (refine notin_tabled (by k_asm) (by k_mem) (by assumption) (by assumption) (by assumption) ?_))) | (k_here; (with_reducible show wpAny _ _ (compareOp CmpOp.NotEq (Value.ref _) (Value.ref _)) _ _ _); k_dflt (refine ne_intsS (isL (by k_asm) (by k_mem)) (isL (by k_asm) (by k_mem)) (by assumption) (by assumption) (by (simp only [Around.deeper_units, mkA, cLine]; omega)) ?_)) | (k_here; (with_reducible show wpAny _ _ (compareOp CmpOp.NotEq (Value.ref _) (Value.ref _)) _ _ _); k_dflt (refine ne_strsS (isL (by k_asm) (by k_mem)) (isL (by k_asm) (by k_mem)) (by assumption) (by assumption) (by (simp only [Around.deeper_units, mkA, cLine]; omega)) (by assumption) ?_)) | (k_here; (with_reducible show wpAny _ _ (compareOp CmpOp.NotEq (Value.ref _) (Value.ref _)) _ _ _); k_dflt (refine ne_strs0 (isL (by k_asm) (by k_mem)) (isL (by k_asm) (by k_mem)) (by assumption) (by (simp only [Around.deeper_units, mkA, cLine]; omega)) (by assumption) ?_)) | ((with_reducible show wpAny _ _ (eval (Expr.Lambda _ _ _ _) _) _ _ _); (k_here; (rename Mine.Dum _ _ _ => hMzz); k_dflt (refine lam_keep (by k_asm) (by k_asm) (by k_asm) (by assumption) (by exact rfl) (by k_updF) (by assumption) (by with_unfolding_all exact rfl) hMzz (by k_mem) (by exact List.forall_mem_cons.mpr ⟨⟨by k_ne, _, by k_mem⟩, List.forall_mem_cons.mpr ⟨⟨by k_ne, _, by k_mem⟩, fun _ h => nomatch h⟩⟩) ?_ (by with_unfolding_all exact rfl) (by exact rfl); k_whole); intro _ _ _ _ _ _ _ _ _ Nzz _ _ l1zz _ _; (try dsimp only at Nzz); (try k_lt l1zz))) | (k_here; (with_reducible show wpAny _ _ (call (Value.type _) [Value.ref _]) _ _ _); k_dflt (refine kup_listOf (by k_asm) (by k_asm) (by k_mem) (by exact rfl) ?_ (by (simp only [sizeLine_eq]; omega))); intro _ _ _ _ _ l1zz; (try k_lt l1zz); (try k_sweep)) | (k_here; (with_reducible show wpAny _ _ (call (Value.type "dict") [Value.ref _]) _ _ _); k_dflt (refine dict_pairs2 (by k_asm) (by k_asm) (Top.nolimit (by k_asm)) (by rfl) (by assumption) (by assumption) (by assumption) (by omega) ?_); intro _ _ _ _ _ _ _ l1zz _ _ _; (try k_lt l1zz); (try k_sweep)) | (k_here; (with_reducible show wpAny _ _ (call (Value.ref 158) [Value.ref _, Value.int _ _]) _ _ _); k_dflt (refine literal_use X T (by assumption) (by k_asm) (by k_asm) (by k_updF) (by assumption) (by assumption) (by assumption) (by assumption) (by assumption) (by assumption) (by assumption) (by omega) (by omega) (by omega) (by omega) (by omega) ?_); intro _ _ _ _ _ _ _ _ _ _; (try k_sweep)) | (k_here; (with_reducible show wpAny _ _ (call (Value.ref 151) [Value.ref _, Value.int _ _]) _ _ _); k_dflt (refine draw_use X T (by assumption) (by k_asm) (by k_asm) (by k_updF) (by assumption) (by assumption) (by assumption) (by assumption) (by assumption) (by assumption) (by assumption) (by omega) (by omega) (by omega) (by omega) (by omega) ?_); intro _ _ _ _ _ _ _ _ _ _ _; (try k_sweep)) | (k_here; (with_reducible show wpAny _ _ (subscriptTail _ _ (Value.ref _) (Value.str _ _)) _ _ _); k_dflt (refine item_tabled (by k_asm) (by k_mem) (by assumption) (by assumption) (by assumption) ?_); intro _) | ((fail_if_success (with_reducible first | refine s_done ?_ | refine s_iter ?_ | refine s_tpost ?_ | refine s_while ?_ | refine s_call (by decide) ?_ | refine s_ifexp ?_ | refine s_cend ?_ | refine s_comp ?_ | refine s_srcT ?_ | refine s_src ?_)); (first | (k_unfold; (try dsimp only)) | (k_end; wrow_close) | walk1 | (dsimp only; walk1) | (leave1; walk_say "STEP leave1"; try dsimp only)))))
      refine PyProof.Rows.LCt.CompSrcT.ledger (by rfl) (by k_asm) (by k_asm) (by k_mem) (by simp only [sizeLine_eq]; omega) ?_
      intro g9
      refine restT ((fun N₀ i zs nw => nw = N₀ ∧ StrsAre zs ((nms.take i).filter fun x => decide (x ∉ names))) _) ?_ ?_ _ _ _ _ (Nat.zero_add _) ⟨rfl, .nil⟩
      · rintro i zs _ v I9 oI C9 oC D9 m₂ h₉ tk₉ E' hi9 ⟨rfl, hzs⟩ hP hC hx F₉ N₉ off9 ne9
        obtain ⟨x, t, rfl, hxi⟩ := strs_at hys hP
        have off0 := off9
        (try simp only [List.cons_append, List.nil_append] at N₉ off9)
        (try simp only [PyProof.Rows.LCg.Off3, and_true] at off9)
        have hzl : zs.length ≤ 100 := by have h1 := strsAre_length hzs; have h2 := List.length_filter_le (fun x => decide (x ∉ names)) (nms.take i); have h3 : (nms.take i).length ≤ nms.length := (by rw [List.length_take]; exact Nat.min_le_right _ _); omega
        (repeat' (first | (first | ((with_reducible first | (rename Gets _ _ => gQ'; refine at_of gQ' ?_; clear gQ'; try (rename (_ → Shared → Prop) => qQ'; clear qQ')) | refine at_of (by assumption) ?_); (try dsimp only)) | (with_reducible (first | refine s_exec ?_ | refine s_comp ?_); (with_reducible ((fail_if_success (refine s_at ?_)); refine cutX ?_; intro _ _)))) | ((with_reducible show wpAny _ _ (exec (Stmt.For (Expr.Name _ _) (Expr.Name _ _) (_ :: _) [] _) _) _ _ _); (k_here; (rename Fr _ _ _ _ => lFzz); (with_unfolding_all refine For_invVF lFzz (by exact rfl) (by exact rfl) ?_; k_whole))) | (k_here; (with_reducible show wpAny _ _ (compareOp CmpOp.Eq (Value.ref _) (Value.ref _)) _ _ _); k_dflt (refine eq_intsS (isL (by k_asm) (by k_mem)) (isL (by k_asm) (by k_mem)) (by assumption) (by assumption) (by (simp only [Around.deeper_units, mkA, cLine]; omega)) ?_)) | ((with_reducible show wpAny _ _ (compareOp CmpOp.NotIn (Value.str _ _) (Value.ref _)) _ _ _); (k_here; k_dflt (refine notin_tabled (by k_asm) (by k_mem) (by assumption) (by assumption) (by assumption) ?_))) | (k_here; (with_reducible show wpAny _ _ (compareOp CmpOp.NotEq (Value.ref _) (Value.ref _)) _ _ _); k_dflt (refine ne_intsS (isL (by k_asm) (by k_mem)) (isL (by k_asm) (by k_mem)) (by assumption) (by assumption) (by (simp only [Around.deeper_units, mkA, cLine]; omega)) ?_)) | (k_here; (with_reducible show wpAny _ _ (compareOp CmpOp.NotEq (Value.ref _) (Value.ref _)) _ _ _); k_dflt (refine ne_strsS (isL (by k_asm) (by k_mem)) (isL (by k_asm) (by k_mem)) (by assumption) (by assumption) (by (simp only [Around.deeper_units, mkA, cLine]; omega)) (by assumption) ?_)) | (k_here; (with_reducible show wpAny _ _ (compareOp CmpOp.NotEq (Value.ref _) (Value.ref _)) _ _ _); k_dflt (refine ne_strs0 (isL (by k_asm) (by k_mem)) (isL (by k_asm) (by k_mem)) (by assumption) (by (simp only [Around.deeper_units, mkA, cLine]; omega)) (by assumption) ?_)) | ((with_reducible show wpAny _ _ (eval (Expr.Lambda _ _ _ _) _) _ _ _); (k_here; (rename Mine.Dum _ _ _ => hMzz); k_dflt (refine lam_keep (by k_asm) (by k_asm) (by k_asm) (by assumption) (by exact rfl) (by k_updF) (by assumption) (by with_unfolding_all exact rfl) hMzz (by k_mem) (by exact List.forall_mem_cons.mpr ⟨⟨by k_ne, _, by k_mem⟩, List.forall_mem_cons.mpr ⟨⟨by k_ne, _, by k_mem⟩, fun _ h => nomatch h⟩⟩) ?_ (by with_unfolding_all exact rfl) (by exact rfl); k_whole); intro _ _ _ _ _ _ _ _ _ Nzz _ _ l1zz _ _; (try dsimp only at Nzz); (try k_lt l1zz))) | (k_here; (with_reducible show wpAny _ _ (call (Value.type _) [Value.ref _]) _ _ _); k_dflt (refine kup_listOf (by k_asm) (by k_asm) (by k_mem) (by exact rfl) ?_ (by (simp only [sizeLine_eq]; omega))); intro _ _ _ _ _ l1zz; (try k_lt l1zz); (try k_sweep)) | (k_here; (with_reducible show wpAny _ _ (call (Value.type "dict") [Value.ref _]) _ _ _); k_dflt (refine dict_pairs2 (by k_asm) (by k_asm) (Top.nolimit (by k_asm)) (by rfl) (by assumption) (by assumption) (by assumption) (by omega) ?_); intro _ _ _ _ _ _ _ l1zz _ _ _; (try k_lt l1zz); (try k_sweep)) | (k_here; (with_reducible show wpAny _ _ (call (Value.ref 158) [Value.ref _, Value.int _ _]) _ _ _); k_dflt (refine literal_use X T (by assumption) (by k_asm) (by k_asm) (by k_updF) (by assumption) (by assumption) (by assumption) (by assumption) (by assumption) (by assumption) (by assumption) (by omega) (by omega) (by omega) (by omega) (by omega) ?_); intro _ _ _ _ _ _ _ _ _ _; (try k_sweep)) | (k_here; (with_reducible show wpAny _ _ (call (Value.ref 151) [Value.ref _, Value.int _ _]) _ _ _); k_dflt (refine draw_use X T (by assumption) (by k_asm) (by k_asm) (by k_updF) (by assumption) (by assumption) (by assumption) (by assumption) (by assumption) (by assumption) (by assumption) (by omega) (by omega) (by omega) (by omega) (by omega) ?_); intro _ _ _ _ _ _ _ _ _ _ _; (try k_sweep)) | (k_here; (with_reducible show wpAny _ _ (subscriptTail _ _ (Value.ref _) (Value.str _ _)) _ _ _); k_dflt (refine item_tabled (by k_asm) (by k_mem) (by assumption) (by assumption) (by assumption) ?_); intro _) | ((fail_if_success (with_reducible first | refine s_done ?_ | refine s_iter ?_ | refine s_tpost ?_ | refine s_while ?_ | refine s_call (by decide) ?_ | refine s_ifexp ?_ | refine s_cend ?_ | refine s_comp ?_ | refine s_srcT ?_ | refine s_src ?_)); (first | (k_unfold; (try dsimp only)) | (k_end; wrow_close) | walk1 | (dsimp only; walk1) | (leave1; walk_say "STEP leave1"; try dsimp only)))))
        all_goals (rename Fr _ _ _ _ => FF; rename News _ _ _ _ => NN; refine cEnd FF NN off0 rfl (.inr ⟨_, by k_mem, rfl, _, rfl⟩) ⟨rfl, ?_⟩; rw [take_snoc hxi])
        · rw [filt_in (by assumption)]; exact hzs
        · rw [filt_out (by assumption)]; exact strsAre_append hzs (.cons _ _ .nil)
      · rintro zs _ ⟨rfl, hzs⟩
        rw [hyl, List.take_length] at hzs
        have hko : ∀ x ∈ nms.filter (fun x => decide (x ∉ names)), PyData.strOk x = true := fun x hx => (hok x (List.mem_filter.mp hx).1).2
        (repeat' (first | (first | ((with_reducible first | (rename Gets _ _ => gQ'; refine at_of gQ' ?_; clear gQ'; try (rename (_ → Shared → Prop) => qQ'; clear qQ')) | refine at_of (by assumption) ?_); (try dsimp only)) | (with_reducible (first | refine s_exec ?_ | refine s_comp ?_); (with_reducible ((fail_if_success (refine s_at ?_)); refine cutX ?_; intro _ _)))) | ((with_reducible show wpAny _ _ (exec (Stmt.For (Expr.Name _ _) (Expr.Name _ _) (_ :: _) [] _) _) _ _ _); (k_here; (rename Fr _ _ _ _ => lFzz); (with_unfolding_all refine For_invVF lFzz (by exact rfl) (by exact rfl) ?_; k_whole))) | (k_here; (with_reducible show wpAny _ _ (compareOp CmpOp.Eq (Value.ref _) (Value.ref _)) _ _ _); k_dflt (refine eq_intsS (isL (by k_asm) (by k_mem)) (isL (by k_asm) (by k_mem)) (by assumption) (by assumption) (by (simp only [Around.deeper_units, mkA, cLine]; omega)) ?_)) | ((with_reducible show wpAny _ _ (compareOp CmpOp.NotIn (Value.str _ _) (Value.ref _)) _ _ _); (k_here; k_dflt (refine notin_tabled (by k_asm) (by k_mem) (by assumption) (by assumption) (by assumption) ?_))) | (k_here; (with_reducible show wpAny _ _ (compareOp CmpOp.NotEq (Value.ref _) (Value.ref _)) _ _ _); k_dflt (refine ne_intsS (isL (by k_asm) (by k_mem)) (isL (by k_asm) (by k_mem)) (by assumption) (by assumption) (by (simp only [Around.deeper_units, mkA, cLine]; omega)) ?_)) | (k_here; (with_reducible show wpAny _ _ (compareOp CmpOp.NotEq (Value.ref _) (Value.ref _)) _ _ _); k_dflt (refine ne_strsS (isL (by k_asm) (by k_mem)) (isL (by k_asm) (by k_mem)) (by assumption) (by assumption) (by (simp only [Around.deeper_units, mkA, cLine]; omega)) (by assumption) ?_)) | (k_here; (with_reducible show wpAny _ _ (compareOp CmpOp.NotEq (Value.ref _) (Value.ref _)) _ _ _); k_dflt (refine ne_strs0 (isL (by k_asm) (by k_mem)) (isL (by k_asm) (by k_mem)) (by assumption) (by (simp only [Around.deeper_units, mkA, cLine]; omega)) (by assumption) ?_)) | ((with_reducible show wpAny _ _ (eval (Expr.Lambda _ _ _ _) _) _ _ _); (k_here; (rename Mine.Dum _ _ _ => hMzz); k_dflt (refine lam_keep (by k_asm) (by k_asm) (by k_asm) (by assumption) (by exact rfl) (by k_updF) (by assumption) (by with_unfolding_all exact rfl) hMzz (by k_mem) (by exact List.forall_mem_cons.mpr ⟨⟨by k_ne, _, by k_mem⟩, List.forall_mem_cons.mpr ⟨⟨by k_ne, _, by k_mem⟩, fun _ h => nomatch h⟩⟩) ?_ (by with_unfolding_all exact rfl) (by exact rfl); k_whole); intro _ _ _ _ _ _ _ _ _ Nzz _ _ l1zz _ _; (try dsimp only at Nzz); (try k_lt l1zz))) | (k_here; (with_reducible show wpAny _ _ (call (Value.type _) [Value.ref _]) _ _ _); k_dflt (refine kup_listOf (by k_asm) (by k_asm) (by k_mem) (by exact rfl) ?_ (by (simp only [sizeLine_eq]; omega))); intro _ _ _ _ _ l1zz; (try k_lt l1zz); (try k_sweep)) | (k_here; (with_reducible show wpAny _ _ (call (Value.type "dict") [Value.ref _]) _ _ _); k_dflt (refine dict_pairs2 (by k_asm) (by k_asm) (Top.nolimit (by k_asm)) (by rfl) (by assumption) (by assumption) (by assumption) (by omega) ?_); intro _ _ _ _ _ _ _ l1zz _ _ _; (try k_lt l1zz); (try k_sweep)) | (k_here; (with_reducible show wpAny _ _ (call (Value.ref 158) [Value.ref _, Value.int _ _]) _ _ _); k_dflt (refine literal_use X T (by assumption) (by k_asm) (by k_asm) (by k_updF) (by assumption) (by assumption) (by assumption) (by assumption) (by assumption) (by assumption) (by assumption) (by omega) (by omega) (by omega) (by omega) (by omega) ?_); intro _ _ _ _ _ _ _ _ _ _; (try k_sweep)) | (k_here; (with_reducible show wpAny _ _ (call (Value.ref 151) [Value.ref _, Value.int _ _]) _ _ _); k_dflt (refine draw_use X T (by assumption) (by k_asm) (by k_asm) (by k_updF) (by assumption) (by assumption) (by assumption) (by assumption) (by assumption) (by assumption) (by assumption) (by omega) (by omega) (by omega) (by omega) (by omega) ?_); intro _ _ _ _ _ _ _ _ _ _ _; (try k_sweep)) | (k_here; (with_reducible show wpAny _ _ (subscriptTail _ _ (Value.ref _) (Value.str _ _)) _ _ _); k_dflt (refine item_tabled (by k_asm) (by k_mem) (by assumption) (by assumption) (by assumption) ?_); intro _) | ((fail_if_success (with_reducible first | refine s_done ?_ | refine s_iter ?_ | refine s_tpost ?_ | refine s_while ?_ | refine s_call (by decide) ?_ | refine s_ifexp ?_ | refine s_cend ?_ | refine s_comp ?_ | refine s_srcT ?_ | refine s_src ?_)); (first | (k_unfold; (try dsimp only)) | (k_end; wrow_close) | walk1 | (dsimp only; walk1) | (leave1; walk_say "STEP leave1"; try dsimp only)))))
        · rename Fr _ _ _ _ => FF
          rename News _ _ _ _ => NN
          rename (_ = []) => hfil
          have hall := filt_all hfil
          refine literals_of_spec hprog hsup X T ?B2 (by show dp + 1 ≤ 600; omega) OO (off_of_led (led_push (sub := kLed a d k) B' NN (by lcg_sub) rfl)) (kat_of NN (by lcg_sub) R) (by omega) hnd9 (isL NN (by k_mem)) hys (by (repeat' (first | exact List.not_mem_nil | (refine notin_cons (by k_ne) ?_)))) (by omega) (fun x hx => (hok x hx).1) ?_ ?_
          case B2 => exact pushX B' FF rfl rfl
          · intro _ h6 tk6 D6 ys6 n6 k6 hD6 hd6 hys6
            obtain ⟨F6, N6, o6⟩ := call_new FF NN k6 hD6 hd6
            simp only [LCg.Off1, and_true] at o6
            clear FF NN k6 hD6 hd6
            (repeat' (first | (first | ((with_reducible first | (rename Gets _ _ => gQ'; refine at_of gQ' ?_; clear gQ'; try (rename (_ → Shared → Prop) => qQ'; clear qQ')) | refine at_of (by assumption) ?_); (try dsimp only)) | (with_reducible (first | refine s_exec ?_ | refine s_comp ?_); (with_reducible ((fail_if_success (refine s_at ?_)); refine cutX ?_; intro _ _)))) | ((with_reducible show wpAny _ _ (exec (Stmt.For (Expr.Name _ _) (Expr.Name _ _) (_ :: _) [] _) _) _ _ _); (k_here; (rename Fr _ _ _ _ => lFzz); (with_unfolding_all refine For_invVF lFzz (by exact rfl) (by exact rfl) ?_; k_whole))) | (k_here; (with_reducible show wpAny _ _ (compareOp CmpOp.Eq (Value.ref _) (Value.ref _)) _ _ _); k_dflt (refine eq_intsS (isL (by k_asm) (by k_mem)) (isL (by k_asm) (by k_mem)) (by assumption) (by assumption) (by (simp only [Around.deeper_units, mkA, cLine]; omega)) ?_)) | ((with_reducible show wpAny _ _ (compareOp CmpOp.NotIn (Value.str _ _) (Value.ref _)) _ _ _); (k_here; k_dflt (refine notin_tabled (by k_asm) (by k_mem) (by assumption) (by assumption) (by assumption) ?_))) | (k_here; (with_reducible show wpAny _ _ (compareOp CmpOp.NotEq (Value.ref _) (Value.ref _)) _ _ _); k_dflt (refine ne_intsS (isL (by k_asm) (by k_mem)) (isL (by k_asm) (by k_mem)) (by assumption) (by assumption) (by (simp only [Around.deeper_units, mkA, cLine]; omega)) ?_)) | (k_here; (with_reducible show wpAny _ _ (compareOp CmpOp.NotEq (Value.ref _) (Value.ref _)) _ _ _); k_dflt (refine ne_strsS (isL (by k_asm) (by k_mem)) (isL (by k_asm) (by k_mem)) (by assumption) (by assumption) (by (simp only [Around.deeper_units, mkA, cLine]; omega)) (by assumption) ?_)) | (k_here; (with_reducible show wpAny _ _ (compareOp CmpOp.NotEq (Value.ref _) (Value.ref _)) _ _ _); k_dflt (refine ne_strs0 (isL (by k_asm) (by k_mem)) (isL (by k_asm) (by k_mem)) (by assumption) (by (simp only [Around.deeper_units, mkA, cLine]; omega)) (by assumption) ?_)) | ((with_reducible show wpAny _ _ (eval (Expr.Lambda _ _ _ _) _) _ _ _); (k_here; (rename Mine.Dum _ _ _ => hMzz); k_dflt (refine lam_keep (by k_asm) (by k_asm) (by k_asm) (by assumption) (by exact rfl) (by k_updF) (by assumption) (by with_unfolding_all exact rfl) hMzz (by k_mem) (by exact List.forall_mem_cons.mpr ⟨⟨by k_ne, _, by k_mem⟩, List.forall_mem_cons.mpr ⟨⟨by k_ne, _, by k_mem⟩, fun _ h => nomatch h⟩⟩) ?_ (by with_unfolding_all exact rfl) (by exact rfl); k_whole); intro _ _ _ _ _ _ _ _ _ Nzz _ _ l1zz _ _; (try dsimp only at Nzz); (try k_lt l1zz))) | (k_here; (with_reducible show wpAny _ _ (call (Value.type _) [Value.ref _]) _ _ _); k_dflt (refine kup_listOf (by k_asm) (by k_asm) (by k_mem) (by exact rfl) ?_ (by (simp only [sizeLine_eq]; omega))); intro _ _ _ _ _ l1zz; (try k_lt l1zz); (try k_sweep)) | (k_here; (with_reducible show wpAny _ _ (call (Value.type "dict") [Value.ref _]) _ _ _); k_dflt (refine dict_pairs2 (by k_asm) (by k_asm) (Top.nolimit (by k_asm)) (by rfl) (by assumption) (by assumption) (by assumption) (by omega) ?_); intro _ _ _ _ _ _ _ l1zz _ _ _; (try k_lt l1zz); (try k_sweep)) | (k_here; (with_reducible show wpAny _ _ (call (Value.ref 158) [Value.ref _, Value.int _ _]) _ _ _); k_dflt (refine literal_use X T (by assumption) (by k_asm) (by k_asm) (by k_updF) (by assumption) (by assumption) (by assumption) (by assumption) (by assumption) (by assumption) (by assumption) (by omega) (by omega) (by omega) (by omega) (by omega) ?_); intro _ _ _ _ _ _ _ _ _ _; (try k_sweep)) | (k_here; (with_reducible show wpAny _ _ (call (Value.ref 151) [Value.ref _, Value.int _ _]) _ _ _); k_dflt (refine draw_use X T (by assumption) (by k_asm) (by k_asm) (by k_updF) (by assumption) (by assumption) (by assumption) (by assumption) (by assumption) (by assumption) (by assumption) (by omega) (by omega) (by omega) (by omega) (by omega) ?_); intro _ _ _ _ _ _ _ _ _ _ _; (try k_sweep)) | (k_here; (with_reducible show wpAny _ _ (subscriptTail _ _ (Value.ref _) (Value.str _ _)) _ _ _); k_dflt (refine item_tabled (by k_asm) (by k_mem) (by assumption) (by assumption) (by assumption) ?_); intro _) | ((fail_if_success (with_reducible first | refine s_done ?_ | refine s_iter ?_ | refine s_tpost ?_ | refine s_while ?_ | refine s_call (by decide) ?_ | refine s_ifexp ?_ | refine s_cend ?_ | refine s_comp ?_ | refine s_srcT ?_ | refine s_src ?_)); (first | (k_unfold; (try dsimp only)) | (k_end; wrow_close) | walk1 | (dsimp only; walk1) | (leave1; walk_say "STEP leave1"; try dsimp only)))))
            refine PyProof.Rows.LCg.ListComp_U (F₀ := by k_asm) (by with_unfolding_all rfl) (by decide) (by rfl) (by decide) (by rfl) ?_
            (repeat' (first | (first | ((with_reducible first | (rename Gets _ _ => gQ'; refine at_of gQ' ?_; clear gQ'; try (rename (_ → Shared → Prop) => qQ'; clear qQ')) | refine at_of (by assumption) ?_); (try dsimp only)) | (with_reducible (first | refine s_exec ?_ | refine s_comp ?_); (with_reducible ((fail_if_success (refine s_at ?_)); refine cutX ?_; intro _ _)))) | ((with_reducible show wpAny _ _ (exec (Stmt.For (Expr.Name _ _) (Expr.Name _ _) (_ :: _) [] _) _) _ _ _); (k_here; (rename Fr _ _ _ _ => lFzz); (with_unfolding_all refine For_invVF lFzz (by exact rfl) (by exact rfl) ?_; k_whole))) | (k_here; (with_reducible show wpAny _ _ (compareOp CmpOp.Eq (Value.ref _) (Value.ref _)) _ _ _); k_dflt (refine eq_intsS (isL (by k_asm) (by k_mem)) (isL (by k_asm) (by k_mem)) (by assumption) (by assumption) (by (simp only [Around.deeper_units, mkA, cLine]; omega)) ?_)) | ((with_reducible show wpAny _ _ (compareOp CmpOp.NotIn (Value.str _ _) (Value.ref _)) _ _ _); (k_here; k_dflt (refine notin_tabled (by k_asm) (by k_mem) (by assumption) (by assumption) (by assumption) ?_))) | (k_here; (with_reducible show wpAny _ _ (compareOp CmpOp.NotEq (Value.ref _) (Value.ref _)) _ _ _); k_dflt (refine ne_intsS (isL (by k_asm) (by k_mem)) (isL (by k_asm) (by k_mem)) (by assumption) (by assumption) (by (simp only [Around.deeper_units, mkA, cLine]; omega)) ?_)) | (k_here; (with_reducible show wpAny _ _ (compareOp CmpOp.NotEq (Value.ref _) (Value.ref _)) _ _ _); k_dflt (refine ne_strsS (isL (by k_asm) (by k_mem)) (isL (by k_asm) (by k_mem)) (by assumption) (by assumption) (by (simp only [Around.deeper_units, mkA, cLine]; omega)) (by assumption) ?_)) | (k_here; (with_reducible show wpAny _ _ (compareOp CmpOp.NotEq (Value.ref _) (Value.ref _)) _ _ _); k_dflt (refine ne_strs0 (isL (by k_asm) (by k_mem)) (isL (by k_asm) (by k_mem)) (by assumption) (by (simp only [Around.deeper_units, mkA, cLine]; omega)) (by assumption) ?_)) | ((with_reducible show wpAny _ _ (eval (Expr.Lambda _ _ _ _) _) _ _ _); (k_here; (rename Mine.Dum _ _ _ => hMzz); k_dflt (refine lam_keep (by k_asm) (by k_asm) (by k_asm) (by assumption) (by exact rfl) (by k_updF) (by assumption) (by with_unfolding_all exact rfl) hMzz (by k_mem) (by exact List.forall_mem_cons.mpr ⟨⟨by k_ne, _, by k_mem⟩, List.forall_mem_cons.mpr ⟨⟨by k_ne, _, by k_mem⟩, fun _ h => nomatch h⟩⟩) ?_ (by with_unfolding_all exact rfl) (by exact rfl); k_whole); intro _ _ _ _ _ _ _ _ _ Nzz _ _ l1zz _ _; (try dsimp only at Nzz); (try k_lt l1zz))) | (k_here; (with_reducible show wpAny _ _ (call (Value.type _) [Value.ref _]) _ _ _); k_dflt (refine kup_listOf (by k_asm) (by k_asm) (by k_mem) (by exact rfl) ?_ (by (simp only [sizeLine_eq]; omega))); intro _ _ _ _ _ l1zz; (try k_lt l1zz); (try k_sweep)) | (k_here; (with_reducible show wpAny _ _ (call (Value.type "dict") [Value.ref _]) _ _ _); k_dflt (refine dict_pairs2 (by k_asm) (by k_asm) (Top.nolimit (by k_asm)) (by rfl) (by assumption) (by assumption) (by assumption) (by omega) ?_); intro _ _ _ _ _ _ _ l1zz _ _ _; (try k_lt l1zz); (try k_sweep)) | (k_here; (with_reducible show wpAny _ _ (call (Value.ref 158) [Value.ref _, Value.int _ _]) _ _ _); k_dflt (refine literal_use X T (by assumption) (by k_asm) (by k_asm) (by k_updF) (by assumption) (by assumption) (by assumption) (by assumption) (by assumption) (by assumption) (by assumption) (by omega) (by omega) (by omega) (by omega) (by omega) ?_); intro _ _ _ _ _ _ _ _ _ _; (try k_sweep)) | (k_here; (with_reducible show wpAny _ _ (call (Value.ref 151) [Value.ref _, Value.int _ _]) _ _ _); k_dflt (refine draw_use X T (by assumption) (by k_asm) (by k_asm) (by k_updF) (by assumption) (by assumption) (by assumption) (by assumption) (by assumption) (by assumption) (by assumption) (by omega) (by omega) (by omega) (by omega) (by omega) ?_); intro _ _ _ _ _ _ _ _ _ _ _; (try k_sweep)) | (k_here; (with_reducible show wpAny _ _ (subscriptTail _ _ (Value.ref _) (Value.str _ _)) _ _ _); k_dflt (refine item_tabled (by k_asm) (by k_mem) (by assumption) (by assumption) (by assumption) ?_); intro _) | ((fail_if_success (with_reducible first | refine s_done ?_ | refine s_iter ?_ | refine s_tpost ?_ | refine s_while ?_ | refine s_call (by decide) ?_ | refine s_ifexp ?_ | refine s_cend ?_ | refine s_comp ?_ | refine s_srcT ?_ | refine s_src ?_)); (first | (k_unfold; (try dsimp only)) | (k_end; wrow_close) | walk1 | (dsimp only; walk1) | (leave1; walk_say "STEP leave1"; try dsimp only)))))
            refine PyProof.Rows.LCg.CompSrc.ledger (by rfl) (by k_asm) (by k_asm) (by k_mem) (by simp only [sizeLine_eq]; omega) ?_
            intro g9
            refine restU ((fun N₀ i zs nw => nw = N₀ ∧ IntsAre zs ((nms.take i).map (swOf names sws))) _) ?_ ?_ _ _ _ _ (Nat.zero_add _) ⟨rfl, .nil⟩
            · rintro i zs _ v I9 oI C9 oC D9 m₂ h₉ tk₉ E' hi9 ⟨rfl, hzs⟩ hP hC hx F₉ N₉ off9 ne9
              obtain ⟨x, t, rfl, hxi⟩ := strs_at hys hP
              have hxm := hall x (List.mem_of_getElem? hxi)
              have off0 := off9
              (try simp only [List.cons_append, List.nil_append] at N₉ off9)
              (try simp only [PyProof.Rows.LCg.Off3, and_true] at off9)
              have hzl : zs.length ≤ 100 := by have h1 := hzs.length; have h3 : (nms.take i).length ≤ nms.length := (by rw [List.length_take]; exact Nat.min_le_right _ _); rw [List.length_map] at h1; omega
              (repeat' (first | (first | ((with_reducible first | (rename Gets _ _ => gQ'; refine at_of gQ' ?_; clear gQ'; try (rename (_ → Shared → Prop) => qQ'; clear qQ')) | refine at_of (by assumption) ?_); (try dsimp only)) | (with_reducible (first | refine s_exec ?_ | refine s_comp ?_); (with_reducible ((fail_if_success (refine s_at ?_)); refine cutX ?_; intro _ _)))) | ((with_reducible show wpAny _ _ (exec (Stmt.For (Expr.Name _ _) (Expr.Name _ _) (_ :: _) [] _) _) _ _ _); (k_here; (rename Fr _ _ _ _ => lFzz); (with_unfolding_all refine For_invVF lFzz (by exact rfl) (by exact rfl) ?_; k_whole))) | (k_here; (with_reducible show wpAny _ _ (compareOp CmpOp.Eq (Value.ref _) (Value.ref _)) _ _ _); k_dflt (refine eq_intsS (isL (by k_asm) (by k_mem)) (isL (by k_asm) (by k_mem)) (by assumption) (by assumption) (by (simp only [Around.deeper_units, mkA, cLine]; omega)) ?_)) | ((with_reducible show wpAny _ _ (compareOp CmpOp.NotIn (Value.str _ _) (Value.ref _)) _ _ _); (k_here; k_dflt (refine notin_tabled (by k_asm) (by k_mem) (by assumption) (by assumption) (by assumption) ?_))) | (k_here; (with_reducible show wpAny _ _ (compareOp CmpOp.NotEq (Value.ref _) (Value.ref _)) _ _ _); k_dflt (refine ne_intsS (isL (by k_asm) (by k_mem)) (isL (by k_asm) (by k_mem)) (by assumption) (by assumption) (by (simp only [Around.deeper_units, mkA, cLine]; omega)) ?_)) | (k_here; (with_reducible show wpAny _ _ (compareOp CmpOp.NotEq (Value.ref _) (Value.ref _)) _ _ _); k_dflt (refine ne_strsS (isL (by k_asm) (by k_mem)) (isL (by k_asm) (by k_mem)) (by assumption) (by assumption) (by (simp only [Around.deeper_units, mkA, cLine]; omega)) (by assumption) ?_)) | (k_here; (with_reducible show wpAny _ _ (compareOp CmpOp.NotEq (Value.ref _) (Value.ref _)) _ _ _); k_dflt (refine ne_strs0 (isL (by k_asm) (by k_mem)) (isL (by k_asm) (by k_mem)) (by assumption) (by (simp only [Around.deeper_units, mkA, cLine]; omega)) (by assumption) ?_)) | ((with_reducible show wpAny _ _ (eval (Expr.Lambda _ _ _ _) _) _ _ _); (k_here; (rename Mine.Dum _ _ _ => hMzz); k_dflt (refine lam_keep (by k_asm) (by k_asm) (by k_asm) (by assumption) (by exact rfl) (by k_updF) (by assumption) (by with_unfolding_all exact rfl) hMzz (by k_mem) (by exact List.forall_mem_cons.mpr ⟨⟨by k_ne, _, by k_mem⟩, List.forall_mem_cons.mpr ⟨⟨by k_ne, _, by k_mem⟩, fun _ h => nomatch h⟩⟩) ?_ (by with_unfolding_all exact rfl) (by exact rfl); k_whole); intro _ _ _ _ _ _ _ _ _ Nzz _ _ l1zz _ _; (try dsimp only at Nzz); (try k_lt l1zz))) | (k_here; (with_reducible show wpAny _ _ (call (Value.type _) [Value.ref _]) _ _ _); k_dflt (refine kup_listOf (by k_asm) (by k_asm) (by k_mem) (by exact rfl) ?_ (by (simp only [sizeLine_eq]; omega))); intro _ _ _ _ _ l1zz; (try k_lt l1zz); (try k_sweep)) | (k_here; (with_reducible show wpAny _ _ (call (Value.type "dict") [Value.ref _]) _ _ _); k_dflt (refine dict_pairs2 (by k_asm) (by k_asm) (Top.nolimit (by k_asm)) (by rfl) (by assumption) (by assumption) (by assumption) (by omega) ?_); intro _ _ _ _ _ _ _ l1zz _ _ _; (try k_lt l1zz); (try k_sweep)) | (k_here; (with_reducible show wpAny _ _ (call (Value.ref 158) [Value.ref _, Value.int _ _]) _ _ _); k_dflt (refine literal_use X T (by assumption) (by k_asm) (by k_asm) (by k_updF) (by assumption) (by assumption) (by assumption) (by assumption) (by assumption) (by assumption) (by assumption) (by omega) (by omega) (by omega) (by omega) (by omega) ?_); intro _ _ _ _ _ _ _ _ _ _; (try k_sweep)) | (k_here; (with_reducible show wpAny _ _ (call (Value.ref 151) [Value.ref _, Value.int _ _]) _ _ _); k_dflt (refine draw_use X T (by assumption) (by k_asm) (by k_asm) (by k_updF) (by assumption) (by assumption) (by assumption) (by assumption) (by assumption) (by assumption) (by assumption) (by omega) (by omega) (by omega) (by omega) (by omega) ?_); intro _ _ _ _ _ _ _ _ _ _ _; (try k_sweep)) | (k_here; (with_reducible show wpAny _ _ (subscriptTail _ _ (Value.ref _) (Value.str _ _)) _ _ _); k_dflt (refine item_tabled (by k_asm) (by k_mem) (by assumption) (by assumption) (by assumption) ?_); intro _) | ((fail_if_success (with_reducible first | refine s_done ?_ | refine s_iter ?_ | refine s_tpost ?_ | refine s_while ?_ | refine s_call (by decide) ?_ | refine s_ifexp ?_ | refine s_cend ?_ | refine s_comp ?_ | refine s_srcT ?_ | refine s_src ?_)); (first | (k_unfold; (try dsimp only)) | (k_end; wrow_close) | walk1 | (dsimp only; walk1) | (leave1; walk_say "STEP leave1"; try dsimp only)))))
              rename Fr _ _ _ _ => FF
              rename News _ _ _ _ => NN
              refine cEnd FF NN off0 rfl (.inr ⟨_, by k_mem, rfl, _, rfl⟩) ⟨rfl, ?_⟩
              rw [take_snoc hxi, List.map_append]
              exact intsAre_append hzs (.cons _ _ .nil)
            · rintro zs2 _ ⟨rfl, hzs2⟩
              rw [hyl, List.take_length] at hzs2
              (repeat' (first | (first | ((with_reducible first | (rename Gets _ _ => gQ'; refine at_of gQ' ?_; clear gQ'; try (rename (_ → Shared → Prop) => qQ'; clear qQ')) | refine at_of (by assumption) ?_); (try dsimp only)) | (with_reducible (first | refine s_exec ?_ | refine s_comp ?_); (with_reducible ((fail_if_success (refine s_at ?_)); refine cutX ?_; intro _ _)))) | ((with_reducible show wpAny _ _ (exec (Stmt.For (Expr.Name _ _) (Expr.Name _ _) (_ :: _) [] _) _) _ _ _); (k_here; (rename Fr _ _ _ _ => lFzz); (with_unfolding_all refine For_invVF lFzz (by exact rfl) (by exact rfl) ?_; k_whole))) | (k_here; (with_reducible show wpAny _ _ (compareOp CmpOp.Eq (Value.ref _) (Value.ref _)) _ _ _); k_dflt (refine eq_intsS (isL (by k_asm) (by k_mem)) (isL (by k_asm) (by k_mem)) (by assumption) (by assumption) (by (simp only [Around.deeper_units, mkA, cLine]; omega)) ?_)) | ((with_reducible show wpAny _ _ (compareOp CmpOp.NotIn (Value.str _ _) (Value.ref _)) _ _ _); (k_here; k_dflt (refine notin_tabled (by k_asm) (by k_mem) (by assumption) (by assumption) (by assumption) ?_))) | (k_here; (with_reducible show wpAny _ _ (compareOp CmpOp.NotEq (Value.ref _) (Value.ref _)) _ _ _); k_dflt (refine ne_intsS (isL (by k_asm) (by k_mem)) (isL (by k_asm) (by k_mem)) (by assumption) (by assumption) (by (simp only [Around.deeper_units, mkA, cLine]; omega)) ?_)) | (k_here; (with_reducible show wpAny _ _ (compareOp CmpOp.NotEq (Value.ref _) (Value.ref _)) _ _ _); k_dflt (refine ne_strsS (isL (by k_asm) (by k_mem)) (isL (by k_asm) (by k_mem)) (by assumption) (by assumption) (by (simp only [Around.deeper_units, mkA, cLine]; omega)) (by assumption) ?_)) | (k_here; (with_reducible show wpAny _ _ (compareOp CmpOp.NotEq (Value.ref _) (Value.ref _)) _ _ _); k_dflt (refine ne_strs0 (isL (by k_asm) (by k_mem)) (isL (by k_asm) (by k_mem)) (by assumption) (by (simp only [Around.deeper_units, mkA, cLine]; omega)) (by assumption) ?_)) | ((with_reducible show wpAny _ _ (eval (Expr.Lambda _ _ _ _) _) _ _ _); (k_here; (rename Mine.Dum _ _ _ => hMzz); k_dflt (refine lam_keep (by k_asm) (by k_asm) (by k_asm) (by assumption) (by exact rfl) (by k_updF) (by assumption) (by with_unfolding_all exact rfl) hMzz (by k_mem) (by exact List.forall_mem_cons.mpr ⟨⟨by k_ne, _, by k_mem⟩, List.forall_mem_cons.mpr ⟨⟨by k_ne, _, by k_mem⟩, fun _ h => nomatch h⟩⟩) ?_ (by with_unfolding_all exact rfl) (by exact rfl); k_whole); intro _ _ _ _ _ _ _ _ _ Nzz _ _ l1zz _ _; (try dsimp only at Nzz); (try k_lt l1zz))) | (k_here; (with_reducible show wpAny _ _ (call (Value.type _) [Value.ref _]) _ _ _); k_dflt (refine kup_listOf (by k_asm) (by k_asm) (by k_mem) (by exact rfl) ?_ (by (simp only [sizeLine_eq]; omega))); intro _ _ _ _ _ l1zz; (try k_lt l1zz); (try k_sweep)) | (k_here; (with_reducible show wpAny _ _ (call (Value.type "dict") [Value.ref _]) _ _ _); k_dflt (refine dict_pairs2 (by k_asm) (by k_asm) (Top.nolimit (by k_asm)) (by rfl) (by assumption) (by assumption) (by assumption) (by omega) ?_); intro _ _ _ _ _ _ _ l1zz _ _ _; (try k_lt l1zz); (try k_sweep)) | (k_here; (with_reducible show wpAny _ _ (call (Value.ref 158) [Value.ref _, Value.int _ _]) _ _ _); k_dflt (refine literal_use X T (by assumption) (by k_asm) (by k_asm) (by k_updF) (by assumption) (by assumption) (by assumption) (by assumption) (by assumption) (by assumption) (by assumption) (by omega) (by omega) (by omega) (by omega) (by omega) ?_); intro _ _ _ _ _ _ _ _ _ _; (try k_sweep)) | (k_here; (with_reducible show wpAny _ _ (call (Value.ref 151) [Value.ref _, Value.int _ _]) _ _ _); k_dflt (refine draw_use X T (by assumption) (by k_asm) (by k_asm) (by k_updF) (by assumption) (by assumption) (by assumption) (by assumption) (by assumption) (by assumption) (by assumption) (by omega) (by omega) (by omega) (by omega) (by omega) ?_); intro _ _ _ _ _ _ _ _ _ _ _; (try k_sweep)) | (k_here; (with_reducible show wpAny _ _ (subscriptTail _ _ (Value.ref _) (Value.str _ _)) _ _ _); k_dflt (refine item_tabled (by k_asm) (by k_mem) (by assumption) (by assumption) (by assumption) ?_); intro _) | ((fail_if_success (with_reducible first | refine s_done ?_ | refine s_iter ?_ | refine s_tpost ?_ | refine s_while ?_ | refine s_call (by decide) ?_ | refine s_ifexp ?_ | refine s_cend ?_ | refine s_comp ?_ | refine s_srcT ?_ | refine s_src ?_)); (first | (k_unfold; (try dsimp only)) | (k_end; wrow_close) | walk1 | (dsimp only; walk1) | (leave1; walk_say "STEP leave1"; try dsimp only)))))
              rename Fr _ _ _ _ => FF
              rename News _ _ _ _ => NN
              refine .mk ⟨rfl, g', _, _, ps, lo, listOf #[.ref lp, .ref lq] no, rfl, FF, News.sub NN ?_, B', flG, fun hx k1 _ => ok'.move fun b o vs _ e hd _ => k1 b o vs e hd, List.forall_mem_cons.mpr ⟨by k_ne, List.forall_mem_cons.mpr ⟨by k_ne, fun _ h => nomatch h⟩⟩⟩
              (try simp only [List.cons_append, List.nil_append])
              lcg_sub
          · rintro ⟨x, hx, hnx⟩
            exact absurd (hall x hx) hnx
        · rename Fr _ _ _ _ => FF
          rename News _ _ _ _ => NN
          rename (¬ _ = []) => hfil
          rename Heap.CodeRec _ _ _ => hcr
          rename (∀ hx : Heap, _) => ok9
          rename (∀ b ∈ _, _ ≠ _) => hav9
          have hDnl := isL (s := { s with heap := _ }) NN (l := Dn) (its := ys.toArray) (by k_mem)
          have hNN := fun (env : Env) (hfr : env.frame = some L') => led_push (sub := (L' + 1 + 1, oc4) :: (L' + 1 + 1 + 1 + 1 + 1, onm) :: kLed a d k) (env := env) B' NN (by lcg_sub) hfr
          refine refused_spec (news := (L' + 1 + 1, oc4) :: (L' + 1 + 1 + 1 + 1 + 1, onm) :: kLed a d k) (PR := fun _ => ∀ x ∈ nms, x ∈ names) (PE := ∃ x ∈ nms, x ∉ names) X T ?B (by show dp + 1 ≤ 500; omega) (by show un + 3 ≤ 5000; omega) (hNN _ rfl) (NN _ List.mem_cons_self).1 (fun h e => ⟨_, _, _, _, e⟩) ?deed ?r0 ?r1
          case B => exact pushX B' FF rfl rfl
          case deed =>
            intro env9 L9 s9 Q9 E9 B9 hf9 hk9 hn9 ret9 exc9
            have hfo9 := hk9 _ _ (NN _ List.mem_cons_self).1
            have hcr9 := codeRec_keep hcr hk9
            have hDn9 : s9.heap.IsList Dn ys.toArray := hDnl.at fun o e => hk9 _ o e
            have hDnn : Dn ∉ ((L' + 1 + 1, oc4) :: (L' + 1 + 1 + 1 + 1 + 1, onm) :: kLed a d k).map (·.1) := (show Dn ∉ [L' + 1 + 1, L' + 1 + 1 + 1 + 1 + 1, a.ik, a.dk, a.ll, a.ls, a.lf, a.pn, a.ps] by (repeat' (first | exact List.not_mem_nil | (refine notin_cons (by k_ne) ?_))))
            have hDnk : Dn ∉ kAdr a := by (repeat' (first | exact List.not_mem_nil | (refine notin_cons (by k_ne) ?_)))
            clear NN FF
            refine wpAny_call ?_
            k_dflt (refine' enterL (news := (L' + 1 + 1, oc4) :: (L' + 1 + 1 + 1 + 1 + 1, onm) :: kLed a d k) (binds := []) ?k1 ?k2 ?k3 ?k4 ?k6 ?k7 ?k8 ?k9 ?kB ?_ ?c2 ?c3 ?c4 ?c5; (case k1 => exact B9); (case k2 => exact X); (case k3 => exact led_deep (hNN _ rfl) hk9 hf9 hn9); (case k4 => exact T); (case k6 => exact hfo9); (case k7 => exact hcr9); (case k8 => k_room); (case k9 => exact rfl); (case c5 => decide); (case kB => exact locs rfl); (case c2 => exact rfl); (case c3 => exact rfl); (case c4 => exact rfl))
            intro g2 L2 h2 F2 N2 B2 X2 T2 kG2 gS2 l2 nL2
            (try k_lt l2)
            (try dsimp only); (try k_fold)
            (repeat' (first | (first | ((with_reducible first | (rename Gets _ _ => gQ'; refine at_of gQ' ?_; clear gQ'; try (rename (_ → Shared → Prop) => qQ'; clear qQ')) | refine at_of (by assumption) ?_); (try dsimp only)) | (with_reducible (first | refine s_exec ?_ | refine s_comp ?_); (with_reducible ((fail_if_success (refine s_at ?_)); refine cutX ?_; intro _ _)))) | ((with_reducible show wpAny _ _ (exec (Stmt.For (Expr.Name _ _) (Expr.Name _ _) (_ :: _) [] _) _) _ _ _); (k_here; (rename Fr _ _ _ _ => lFzz); (with_unfolding_all refine For_invVF lFzz (by exact rfl) (by exact rfl) ?_; k_whole))) | (k_here; (with_reducible show wpAny _ _ (compareOp CmpOp.Eq (Value.ref _) (Value.ref _)) _ _ _); k_dflt (refine eq_intsS (isL (by k_asm) (by k_mem)) (isL (by k_asm) (by k_mem)) (by assumption) (by assumption) (by (simp only [Around.deeper_units, mkA, cLine]; omega)) ?_)) | ((with_reducible show wpAny _ _ (compareOp CmpOp.NotIn (Value.str _ _) (Value.ref _)) _ _ _); (k_here; k_dflt (refine notin_tabled (by k_asm) (by k_mem) (by assumption) (by assumption) (by assumption) ?_))) | (k_here; (with_reducible show wpAny _ _ (compareOp CmpOp.NotEq (Value.ref _) (Value.ref _)) _ _ _); k_dflt (refine ne_intsS (isL (by k_asm) (by k_mem)) (isL (by k_asm) (by k_mem)) (by assumption) (by assumption) (by (simp only [Around.deeper_units, mkA, cLine]; omega)) ?_)) | (k_here; (with_reducible show wpAny _ _ (compareOp CmpOp.NotEq (Value.ref _) (Value.ref _)) _ _ _); k_dflt (refine ne_strsS (isL (by k_asm) (by k_mem)) (isL (by k_asm) (by k_mem)) (by assumption) (by assumption) (by (simp only [Around.deeper_units, mkA, cLine]; omega)) (by assumption) ?_)) | (k_here; (with_reducible show wpAny _ _ (compareOp CmpOp.NotEq (Value.ref _) (Value.ref _)) _ _ _); k_dflt (refine ne_strs0 (isL (by k_asm) (by k_mem)) (isL (by k_asm) (by k_mem)) (by assumption) (by (simp only [Around.deeper_units, mkA, cLine]; omega)) (by assumption) ?_)) | ((with_reducible show wpAny _ _ (eval (Expr.Lambda _ _ _ _) _) _ _ _); (k_here; (rename Mine.Dum _ _ _ => hMzz); k_dflt (refine lam_keep (by k_asm) (by k_asm) (by k_asm) (by assumption) (by exact rfl) (by k_updF) (by assumption) (by with_unfolding_all exact rfl) hMzz (by k_mem) (by exact List.forall_mem_cons.mpr ⟨⟨by k_ne, _, by k_mem⟩, List.forall_mem_cons.mpr ⟨⟨by k_ne, _, by k_mem⟩, fun _ h => nomatch h⟩⟩) ?_ (by with_unfolding_all exact rfl) (by exact rfl); k_whole); intro _ _ _ _ _ _ _ _ _ Nzz _ _ l1zz _ _; (try dsimp only at Nzz); (try k_lt l1zz))) | (k_here; (with_reducible show wpAny _ _ (call (Value.type _) [Value.ref _]) _ _ _); k_dflt (refine kup_listOf (by k_asm) (by k_asm) (by k_mem) (by exact rfl) ?_ (by (simp only [sizeLine_eq]; omega))); intro _ _ _ _ _ l1zz; (try k_lt l1zz); (try k_sweep)) | (k_here; (with_reducible show wpAny _ _ (call (Value.type "dict") [Value.ref _]) _ _ _); k_dflt (refine dict_pairs2 (by k_asm) (by k_asm) (Top.nolimit (by k_asm)) (by rfl) (by assumption) (by assumption) (by assumption) (by omega) ?_); intro _ _ _ _ _ _ _ l1zz _ _ _; (try k_lt l1zz); (try k_sweep)) | (k_here; (with_reducible show wpAny _ _ (call (Value.ref 158) [Value.ref _, Value.int _ _]) _ _ _); k_dflt (refine literal_use X T (by assumption) (by k_asm) (by k_asm) (by k_updF) (by assumption) (by assumption) (by assumption) (by assumption) (by assumption) (by assumption) (by assumption) (by omega) (by omega) (by omega) (by omega) (by omega) ?_); intro _ _ _ _ _ _ _ _ _ _; (try k_sweep)) | (k_here; (with_reducible show wpAny _ _ (call (Value.ref 151) [Value.ref _, Value.int _ _]) _ _ _); k_dflt (refine draw_use X T (by assumption) (by k_asm) (by k_asm) (by k_updF) (by assumption) (by assumption) (by assumption) (by assumption) (by assumption) (by assumption) (by assumption) (by omega) (by omega) (by omega) (by omega) (by omega) ?_); intro _ _ _ _ _ _ _ _ _ _ _; (try k_sweep)) | (k_here; (with_reducible show wpAny _ _ (subscriptTail _ _ (Value.ref _) (Value.str _ _)) _ _ _); k_dflt (refine item_tabled (by k_asm) (by k_mem) (by assumption) (by assumption) (by assumption) ?_); intro _) | ((fail_if_success (with_reducible first | refine s_done ?_ | refine s_iter ?_ | refine s_tpost ?_ | refine s_while ?_ | refine s_call (by decide) ?_ | refine s_ifexp ?_ | refine s_cend ?_ | refine s_comp ?_ | refine s_srcT ?_ | refine s_src ?_)); (first | (k_unfold; (try dsimp only)) | (k_end; wrow_close) | walk1 | (dsimp only; walk1) | (leave1; walk_say "STEP leave1"; try dsimp only)))))
            have hDn2 : g2.IsList Dn ys.toArray := kG2.list hDn9 hDnn
            refine literals_of_spec hprog hsup X T ?B9 (by show dp + 1 + 1 + 1 ≤ 600; omega) OO (off_of_led (led_push (sub := kLed a d k) B2 N2 (fun q hq => List.mem_cons_of_mem _ (List.mem_cons_of_mem _ hq)) rfl)) (kat_of N2 (fun q hq => List.mem_cons_of_mem _ (List.mem_cons_of_mem _ hq)) R) (by omega) hnd9 (hDn2.at fun o e => F2.keep _ o e) hys hDnk (by omega) (fun x hx => (hok x hx).1) ?_ ?_
            case B9 => exact pushX B2 F2 rfl rfl
            · intro hall h3 tk3 D3 ys3 n3 k3 hD3 hd3 hys3
              exact .mk (ret9 _ _ _ (fun b ob e _ => k3 b ob (allKept (led_deep (hNN (eF L') rfl) hk9 hf9 hn9) kG2 F2 N2 b ob e)) hall)
            · intro hq h3 e3 tk3 R3
              refine leave2 B2 rfl rfl F2 (allKept (led_deep (hNN (eF L') rfl) hk9 hf9 hn9) kG2 F2 N2) nL2 R3 fun h4 R4 => ?_
              exact exc9 hq _ _ _ R4
          case r0 =>
            intro h3 tk3 kp3 hall
            exact absurd (filt_nil hall) hfil
          case r1 =>
            intro hPE h5 tk5 fl5
            obtain ⟨g5, T5, F5, B5⟩ := groundA (adr := []) B' (by rfl) FF (fun b hb => nomatch hb) (FlownA.ofFlown [] fl5)
            have N5 := newsA B' (by rfl) NN (fun p hp => List.not_mem_nil) T5 (FlownA.ofFlown [] fl5)
            clear FF NN
            (repeat' (first | (first | ((with_reducible first | (rename Gets _ _ => gQ'; refine at_of gQ' ?_; clear gQ'; try (rename (_ → Shared → Prop) => qQ'; clear qQ')) | refine at_of (by assumption) ?_); (try dsimp only)) | (with_reducible (first | refine s_exec ?_ | refine s_comp ?_); (with_reducible ((fail_if_success (refine s_at ?_)); refine cutX ?_; intro _ _)))) | ((with_reducible show wpAny _ _ (exec (Stmt.For (Expr.Name _ _) (Expr.Name _ _) (_ :: _) [] _) _) _ _ _); (k_here; (rename Fr _ _ _ _ => lFzz); (with_unfolding_all refine For_invVF lFzz (by exact rfl) (by exact rfl) ?_; k_whole))) | (k_here; (with_reducible show wpAny _ _ (compareOp CmpOp.Eq (Value.ref _) (Value.ref _)) _ _ _); k_dflt (refine eq_intsS (isL (by k_asm) (by k_mem)) (isL (by k_asm) (by k_mem)) (by assumption) (by assumption) (by (simp only [Around.deeper_units, mkA, cLine]; omega)) ?_)) | ((with_reducible show wpAny _ _ (compareOp CmpOp.NotIn (Value.str _ _) (Value.ref _)) _ _ _); (k_here; k_dflt (refine notin_tabled (by k_asm) (by k_mem) (by assumption) (by assumption) (by assumption) ?_))) | (k_here; (with_reducible show wpAny _ _ (compareOp CmpOp.NotEq (Value.ref _) (Value.ref _)) _ _ _); k_dflt (refine ne_intsS (isL (by k_asm) (by k_mem)) (isL (by k_asm) (by k_mem)) (by assumption) (by assumption) (by (simp only [Around.deeper_units, mkA, cLine]; omega)) ?_)) | (k_here; (with_reducible show wpAny _ _ (compareOp CmpOp.NotEq (Value.ref _) (Value.ref _)) _ _ _); k_dflt (refine ne_strsS (isL (by k_asm) (by k_mem)) (isL (by k_asm) (by k_mem)) (by assumption) (by assumption) (by (simp only [Around.deeper_units, mkA, cLine]; omega)) (by assumption) ?_)) | (k_here; (with_reducible show wpAny _ _ (compareOp CmpOp.NotEq (Value.ref _) (Value.ref _)) _ _ _); k_dflt (refine ne_strs0 (isL (by k_asm) (by k_mem)) (isL (by k_asm) (by k_mem)) (by assumption) (by (simp only [Around.deeper_units, mkA, cLine]; omega)) (by assumption) ?_)) | ((with_reducible show wpAny _ _ (eval (Expr.Lambda _ _ _ _) _) _ _ _); (k_here; (rename Mine.Dum _ _ _ => hMzz); k_dflt (refine lam_keep (by k_asm) (by k_asm) (by k_asm) (by assumption) (by exact rfl) (by k_updF) (by assumption) (by with_unfolding_all exact rfl) hMzz (by k_mem) (by exact List.forall_mem_cons.mpr ⟨⟨by k_ne, _, by k_mem⟩, List.forall_mem_cons.mpr ⟨⟨by k_ne, _, by k_mem⟩, fun _ h => nomatch h⟩⟩) ?_ (by with_unfolding_all exact rfl) (by exact rfl); k_whole); intro _ _ _ _ _ _ _ _ _ Nzz _ _ l1zz _ _; (try dsimp only at Nzz); (try k_lt l1zz))) | (k_here; (with_reducible show wpAny _ _ (call (Value.type _) [Value.ref _]) _ _ _); k_dflt (refine kup_listOf (by k_asm) (by k_asm) (by k_mem) (by exact rfl) ?_ (by (simp only [sizeLine_eq]; omega))); intro _ _ _ _ _ l1zz; (try k_lt l1zz); (try k_sweep)) | (k_here; (with_reducible show wpAny _ _ (call (Value.type "dict") [Value.ref _]) _ _ _); k_dflt (refine dict_pairs2 (by k_asm) (by k_asm) (Top.nolimit (by k_asm)) (by rfl) (by assumption) (by assumption) (by assumption) (by omega) ?_); intro _ _ _ _ _ _ _ l1zz _ _ _; (try k_lt l1zz); (try k_sweep)) | (k_here; (with_reducible show wpAny _ _ (call (Value.ref 158) [Value.ref _, Value.int _ _]) _ _ _); k_dflt (refine literal_use X T (by assumption) (by k_asm) (by k_asm) (by k_updF) (by assumption) (by assumption) (by assumption) (by assumption) (by assumption) (by assumption) (by assumption) (by omega) (by omega) (by omega) (by omega) (by omega) ?_); intro _ _ _ _ _ _ _ _ _ _; (try k_sweep)) | (k_here; (with_reducible show wpAny _ _ (call (Value.ref 151) [Value.ref _, Value.int _ _]) _ _ _); k_dflt (refine draw_use X T (by assumption) (by k_asm) (by k_asm) (by k_updF) (by assumption) (by assumption) (by assumption) (by assumption) (by assumption) (by assumption) (by assumption) (by omega) (by omega) (by omega) (by omega) (by omega) ?_); intro _ _ _ _ _ _ _ _ _ _ _; (try k_sweep)) | (k_here; (with_reducible show wpAny _ _ (subscriptTail _ _ (Value.ref _) (Value.str _ _)) _ _ _); k_dflt (refine item_tabled (by k_asm) (by k_mem) (by assumption) (by assumption) (by assumption) ?_); intro _) | ((fail_if_success (with_reducible first | refine s_done ?_ | refine s_iter ?_ | refine s_tpost ?_ | refine s_while ?_ | refine s_call (by decide) ?_ | refine s_ifexp ?_ | refine s_cend ?_ | refine s_comp ?_ | refine s_srcT ?_ | refine s_src ?_)); (first | (k_unfold; (try dsimp only)) | (k_end; wrow_close) | walk1 | (dsimp only; walk1) | (leave1; walk_say "STEP leave1"; try dsimp only)))))
            refine .mk ⟨rfl, g5, _, _, _, _, _, rfl, F5, News.sub N5 ?_, B5, flownT flG T5, fun hx k1 k2 => ok9 hx (fun b o vs e hd => k1 b o vs (T5.other b o e fun hm => ?_) hd) k2, hav9⟩
            · (try simp only [List.cons_append, List.nil_append])
              lcg_sub
            · obtain ⟨_, o', ho', hd'⟩ := B'.frames.mem hm
              rw [e] at ho'
              cases ho'
              exact hd' vs hd
    case second =>
      clear NN FF
      intro g5 h5 tk5 ps5 cc occ F5 N5 B5 fl5 ok5 av5
      have hav1 := av5 _ List.mem_cons_self
      have hav2 := av5 _ (List.mem_cons_of_mem _ List.mem_cons_self)
      have hl5 : g5.IsList lc cv.toArray := fl5.list hlc hl
      have hlp5 : PlainL g5 lp its.toArray := fl5.plain (fun q => sp (subT _ q)) hlpP
      have hlq5 : g5.IsList lq fvs.toArray := fl5.list (fun q => sq (subT _ q)) hlq
      have hlp55 := hlp5.list
      have PA5 : PrsAt g5 its names sws := PA.flown fl5 fun t ht q => st t ht (subT _ q)
      have X5 := X.keeps B5.stays
      have T5 := T.keeps B5.stays
      have C5 := C.keeps B5.stays
      clear hl' hlp' hlpP' hlq' PA' C' ok' hys3 X' T' RR flG on1
      (try simp only [List.cons_append, List.nil_append] at N5)
      try dsimp only
      (repeat' (first | (first | ((with_reducible first | (rename Gets _ _ => gQ'; refine at_of gQ' ?_; clear gQ'; try (rename (_ → Shared → Prop) => qQ'; clear qQ')) | refine at_of (by assumption) ?_); (try dsimp only)) | (with_reducible (first | refine s_exec ?_ | refine s_comp ?_); (with_reducible ((fail_if_success (refine s_at ?_)); refine cutX ?_; intro _ _)))) | ((with_reducible show wpAny _ _ (exec (Stmt.For (Expr.Name _ _) (Expr.Name _ _) (_ :: _) [] _) _) _ _ _); (k_here; (rename Fr _ _ _ _ => lFzz); (with_unfolding_all refine For_invVF lFzz (by exact rfl) (by exact rfl) ?_; k_whole))) | (k_here; (with_reducible show wpAny _ _ (compareOp CmpOp.Eq (Value.ref _) (Value.ref _)) _ _ _); k_dflt (refine eq_intsS (isL (by k_asm) (by k_mem)) (isL (by k_asm) (by k_mem)) (by assumption) (by assumption) (by (simp only [Around.deeper_units, mkA, cLine]; omega)) ?_)) | ((with_reducible show wpAny _ _ (compareOp CmpOp.NotIn (Value.str _ _) (Value.ref _)) _ _ _); (k_here; k_dflt (refine notin_tabled (by k_asm) (by k_mem) (by assumption) (by assumption) (by assumption) ?_))) | (k_here; (with_reducible show wpAny _ _ (compareOp CmpOp.NotEq (Value.ref _) (Value.ref _)) _ _ _); k_dflt (refine ne_intsS (isL (by k_asm) (by k_mem)) (isL (by k_asm) (by k_mem)) (by assumption) (by assumption) (by (simp only [Around.deeper_units, mkA, cLine]; omega)) ?_)) | (k_here; (with_reducible show wpAny _ _ (compareOp CmpOp.NotEq (Value.ref _) (Value.ref _)) _ _ _); k_dflt (refine ne_strsS (isL (by k_asm) (by k_mem)) (isL (by k_asm) (by k_mem)) (by assumption) (by assumption) (by (simp only [Around.deeper_units, mkA, cLine]; omega)) (by assumption) ?_)) | (k_here; (with_reducible show wpAny _ _ (compareOp CmpOp.NotEq (Value.ref _) (Value.ref _)) _ _ _); k_dflt (refine ne_strs0 (isL (by k_asm) (by k_mem)) (isL (by k_asm) (by k_mem)) (by assumption) (by (simp only [Around.deeper_units, mkA, cLine]; omega)) (by assumption) ?_)) | ((with_reducible show wpAny _ _ (eval (Expr.Lambda _ _ _ _) _) _ _ _); (k_here; (rename Mine.Dum _ _ _ => hMzz); k_dflt (refine lam_keep (by k_asm) (by k_asm) (by k_asm) (by assumption) (by exact rfl) (by k_updF) (by assumption) (by with_unfolding_all exact rfl) hMzz (by k_mem) (by exact List.forall_mem_cons.mpr ⟨⟨by k_ne, _, by k_mem⟩, List.forall_mem_cons.mpr ⟨⟨by k_ne, _, by k_mem⟩, fun _ h => nomatch h⟩⟩) ?_ (by with_unfolding_all exact rfl) (by exact rfl); k_whole); intro _ _ _ _ _ _ _ _ _ Nzz _ _ l1zz _ _; (try dsimp only at Nzz); (try k_lt l1zz))) | (k_here; (with_reducible show wpAny _ _ (call (Value.type _) [Value.ref _]) _ _ _); k_dflt (refine kup_listOf (by k_asm) (by k_asm) (by k_mem) (by exact rfl) ?_ (by (simp only [sizeLine_eq]; omega))); intro _ _ _ _ _ l1zz; (try k_lt l1zz); (try k_sweep)) | (k_here; (with_reducible show wpAny _ _ (call (Value.type "dict") [Value.ref _]) _ _ _); k_dflt (refine dict_pairs2 (by k_asm) (by k_asm) (Top.nolimit (by k_asm)) (by rfl) (by assumption) (by assumption) (by assumption) (by omega) ?_); intro _ _ _ _ _ _ _ l1zz _ _ _; (try k_lt l1zz); (try k_sweep)) | (k_here; (with_reducible show wpAny _ _ (call (Value.ref 158) [Value.ref _, Value.int _ _]) _ _ _); k_dflt (refine literal_use X T (by assumption) (by k_asm) (by k_asm) (by k_updF) (by assumption) (by assumption) (by assumption) (by assumption) (by assumption) (by assumption) (by assumption) (by omega) (by omega) (by omega) (by omega) (by omega) ?_); intro _ _ _ _ _ _ _ _ _ _; (try k_sweep)) | (k_here; (with_reducible show wpAny _ _ (call (Value.ref 151) [Value.ref _, Value.int _ _]) _ _ _); k_dflt (refine draw_use X T (by assumption) (by k_asm) (by k_asm) (by k_updF) (by assumption) (by assumption) (by assumption) (by assumption) (by assumption) (by assumption) (by assumption) (by omega) (by omega) (by omega) (by omega) (by omega) ?_); intro _ _ _ _ _ _ _ _ _ _ _; (try k_sweep)) | (k_here; (with_reducible show wpAny _ _ (subscriptTail _ _ (Value.ref _) (Value.str _ _)) _ _ _); k_dflt (refine item_tabled (by k_asm) (by k_mem) (by assumption) (by assumption) (by assumption) ?_); intro _) | ((fail_if_success (with_reducible first | refine s_done ?_ | refine s_iter ?_ | refine s_tpost ?_ | refine s_while ?_ | refine s_call (by decide) ?_ | refine s_ifexp ?_ | refine s_cend ?_ | refine s_comp ?_ | refine s_srcT ?_ | refine s_src ?_)); (first | (k_unfold; (try dsimp only)) | (k_end; wrow_close) | walk1 | (dsimp only; walk1) | (leave1; walk_say "STEP leave1"; try dsimp only)))))
      refine PyProof.Rows.LCg.ListComp_U (F₀ := by k_asm) (by with_unfolding_all rfl) (by decide) (by rfl) (by decide) (by rfl) ?_
      (repeat' (first | (first | ((with_reducible first | (rename Gets _ _ => gQ'; refine at_of gQ' ?_; clear gQ'; try (rename (_ → Shared → Prop) => qQ'; clear qQ')) | refine at_of (by assumption) ?_); (try dsimp only)) | (with_reducible (first | refine s_exec ?_ | refine s_comp ?_); (with_reducible ((fail_if_success (refine s_at ?_)); refine cutX ?_; intro _ _)))) | ((with_reducible show wpAny _ _ (exec (Stmt.For (Expr.Name _ _) (Expr.Name _ _) (_ :: _) [] _) _) _ _ _); (k_here; (rename Fr _ _ _ _ => lFzz); (with_unfolding_all refine For_invVF lFzz (by exact rfl) (by exact rfl) ?_; k_whole))) | (k_here; (with_reducible show wpAny _ _ (compareOp CmpOp.Eq (Value.ref _) (Value.ref _)) _ _ _); k_dflt (refine eq_intsS (isL (by k_asm) (by k_mem)) (isL (by k_asm) (by k_mem)) (by assumption) (by assumption) (by (simp only [Around.deeper_units, mkA, cLine]; omega)) ?_)) | ((with_reducible show wpAny _ _ (compareOp CmpOp.NotIn (Value.str _ _) (Value.ref _)) _ _ _); (k_here; k_dflt (refine notin_tabled (by k_asm) (by k_mem) (by assumption) (by assumption) (by assumption) ?_))) | (k_here; (with_reducible show wpAny _ _ (compareOp CmpOp.NotEq (Value.ref _) (Value.ref _)) _ _ _); k_dflt (refine ne_intsS (isL (by k_asm) (by k_mem)) (isL (by k_asm) (by k_mem)) (by assumption) (by assumption) (by (simp only [Around.deeper_units, mkA, cLine]; omega)) ?_)) | (k_here; (with_reducible show wpAny _ _ (compareOp CmpOp.NotEq (Value.ref _) (Value.ref _)) _ _ _); k_dflt (refine ne_strsS (isL (by k_asm) (by k_mem)) (isL (by k_asm) (by k_mem)) (by assumption) (by assumption) (by (simp only [Around.deeper_units, mkA, cLine]; omega)) (by assumption) ?_)) | (k_here; (with_reducible show wpAny _ _ (compareOp CmpOp.NotEq (Value.ref _) (Value.ref _)) _ _ _); k_dflt (refine ne_strs0 (isL (by k_asm) (by k_mem)) (isL (by k_asm) (by k_mem)) (by assumption) (by (simp only [Around.deeper_units, mkA, cLine]; omega)) (by assumption) ?_)) | ((with_reducible show wpAny _ _ (eval (Expr.Lambda _ _ _ _) _) _ _ _); (k_here; (rename Mine.Dum _ _ _ => hMzz); k_dflt (refine lam_keep (by k_asm) (by k_asm) (by k_asm) (by assumption) (by exact rfl) (by k_updF) (by assumption) (by with_unfolding_all exact rfl) hMzz (by k_mem) (by exact List.forall_mem_cons.mpr ⟨⟨by k_ne, _, by k_mem⟩, List.forall_mem_cons.mpr ⟨⟨by k_ne, _, by k_mem⟩, fun _ h => nomatch h⟩⟩) ?_ (by with_unfolding_all exact rfl) (by exact rfl); k_whole); intro _ _ _ _ _ _ _ _ _ Nzz _ _ l1zz _ _; (try dsimp only at Nzz); (try k_lt l1zz))) | (k_here; (with_reducible show wpAny _ _ (call (Value.type _) [Value.ref _]) _ _ _); k_dflt (refine kup_listOf (by k_asm) (by k_asm) (by k_mem) (by exact rfl) ?_ (by (simp only [sizeLine_eq]; omega))); intro _ _ _ _ _ l1zz; (try k_lt l1zz); (try k_sweep)) | (k_here; (with_reducible show wpAny _ _ (call (Value.type "dict") [Value.ref _]) _ _ _); k_dflt (refine dict_pairs2 (by k_asm) (by k_asm) (Top.nolimit (by k_asm)) (by rfl) (by assumption) (by assumption) (by assumption) (by omega) ?_); intro _ _ _ _ _ _ _ l1zz _ _ _; (try k_lt l1zz); (try k_sweep)) | (k_here; (with_reducible show wpAny _ _ (call (Value.ref 158) [Value.ref _, Value.int _ _]) _ _ _); k_dflt (refine literal_use X T (by assumption) (by k_asm) (by k_asm) (by k_updF) (by assumption) (by assumption) (by assumption) (by assumption) (by assumption) (by assumption) (by assumption) (by omega) (by omega) (by omega) (by omega) (by omega) ?_); intro _ _ _ _ _ _ _ _ _ _; (try k_sweep)) | (k_here; (with_reducible show wpAny _ _ (call (Value.ref 151) [Value.ref _, Value.int _ _]) _ _ _); k_dflt (refine draw_use X T (by assumption) (by k_asm) (by k_asm) (by k_updF) (by assumption) (by assumption) (by assumption) (by assumption) (by assumption) (by assumption) (by assumption) (by omega) (by omega) (by omega) (by omega) (by omega) ?_); intro _ _ _ _ _ _ _ _ _ _ _; (try k_sweep)) | (k_here; (with_reducible show wpAny _ _ (subscriptTail _ _ (Value.ref _) (Value.str _ _)) _ _ _); k_dflt (refine item_tabled (by k_asm) (by k_mem) (by assumption) (by assumption) (by assumption) ?_); intro _) | ((fail_if_success (with_reducible first | refine s_done ?_ | refine s_iter ?_ | refine s_tpost ?_ | refine s_while ?_ | refine s_call (by decide) ?_ | refine s_ifexp ?_ | refine s_cend ?_ | refine s_comp ?_ | refine s_srcT ?_ | refine s_src ?_)); (first | (k_unfold; (try dsimp only)) | (k_end; wrow_close) | walk1 | (dsimp only; walk1) | (leave1; walk_say "STEP leave1"; try dsimp only)))))
      rename IsRange _ _ _ _ _ _ _ _ => RR
      rename feedIs _ _ _ _ _ _ => hfd
      rename Int => rr
      obtain ⟨m8, rfl⟩ := Int.eq_ofNat_of_zero_le (by assumption : 0 ≤ rr)
      refine PyProof.Rows.LCg.CompSrc.range (by rfl) (by k_asm) (by k_asm) RR (small12 (by omega)).1 (small12 (by omega)).2 (by simp only [sizeLine_eq]; omega) ?_
      intro g9
      refine restU (fun i zs nw => ∃ fo8 tk8 fl, nw = (cc, occ) :: (L' + 1 + 1 + 1 + 1, oc2) :: (L' + 1 + 1, oc4) :: (L' + 1, oc5) :: (172, tabObj ps5) :: (df, fo8) :: (kLed a d k ++ [(lo, listOf #[.ref lp, .ref lq] no)]) ∧
          feedIs prog w lc (ki + 1 + (m9 : Int) + 1 + 2 * (i : Int)) tk8 fo8 ∧ IntsAre zs fl ∧ fl.length = i) ?_ ?_ _ _ _ _ (Nat.zero_add _) ⟨_, _, [], rfl, by simpa using hfd, .nil, rfl⟩
      · rintro i zs _ v I9 oI C9 oC D9 m₂ h₉ tk₉ E' hi9 ⟨fo8, tk8, fl, rfl, hfd8, hzs, hfll⟩ hP hC hx F₉ N₉ off9 ne9
        clear hfd
        have off0 := off9
        (try simp only [List.cons_append, List.nil_append] at N₉ off9)
        (try simp only [PyProof.Rows.LCg.Off3, and_true] at off9)
        have hzl : zs.length ≤ 100 := by have h1 := hzs.length; omega
        (repeat' (first | (first | ((with_reducible first | (rename Gets _ _ => gQ'; refine at_of gQ' ?_; clear gQ'; try (rename (_ → Shared → Prop) => qQ'; clear qQ')) | refine at_of (by assumption) ?_); (try dsimp only)) | (with_reducible (first | refine s_exec ?_ | refine s_comp ?_); (with_reducible ((fail_if_success (refine s_at ?_)); refine cutX ?_; intro _ _)))) | ((with_reducible show wpAny _ _ (exec (Stmt.For (Expr.Name _ _) (Expr.Name _ _) (_ :: _) [] _) _) _ _ _); (k_here; (rename Fr _ _ _ _ => lFzz); (with_unfolding_all refine For_invVF lFzz (by exact rfl) (by exact rfl) ?_; k_whole))) | (k_here; (with_reducible show wpAny _ _ (compareOp CmpOp.Eq (Value.ref _) (Value.ref _)) _ _ _); k_dflt (refine eq_intsS (isL (by k_asm) (by k_mem)) (isL (by k_asm) (by k_mem)) (by assumption) (by assumption) (by (simp only [Around.deeper_units, mkA, cLine]; omega)) ?_)) | ((with_reducible show wpAny _ _ (compareOp CmpOp.NotIn (Value.str _ _) (Value.ref _)) _ _ _); (k_here; k_dflt (refine notin_tabled (by k_asm) (by k_mem) (by assumption) (by assumption) (by assumption) ?_))) | (k_here; (with_reducible show wpAny _ _ (compareOp CmpOp.NotEq (Value.ref _) (Value.ref _)) _ _ _); k_dflt (refine ne_intsS (isL (by k_asm) (by k_mem)) (isL (by k_asm) (by k_mem)) (by assumption) (by assumption) (by (simp only [Around.deeper_units, mkA, cLine]; omega)) ?_)) | (k_here; (with_reducible show wpAny _ _ (compareOp CmpOp.NotEq (Value.ref _) (Value.ref _)) _ _ _); k_dflt (refine ne_strsS (isL (by k_asm) (by k_mem)) (isL (by k_asm) (by k_mem)) (by assumption) (by assumption) (by (simp only [Around.deeper_units, mkA, cLine]; omega)) (by assumption) ?_)) | (k_here; (with_reducible show wpAny _ _ (compareOp CmpOp.NotEq (Value.ref _) (Value.ref _)) _ _ _); k_dflt (refine ne_strs0 (isL (by k_asm) (by k_mem)) (isL (by k_asm) (by k_mem)) (by assumption) (by (simp only [Around.deeper_units, mkA, cLine]; omega)) (by assumption) ?_)) | ((with_reducible show wpAny _ _ (eval (Expr.Lambda _ _ _ _) _) _ _ _); (k_here; (rename Mine.Dum _ _ _ => hMzz); k_dflt (refine lam_keep (by k_asm) (by k_asm) (by k_asm) (by assumption) (by exact rfl) (by k_updF) (by assumption) (by with_unfolding_all exact rfl) hMzz (by k_mem) (by exact List.forall_mem_cons.mpr ⟨⟨by k_ne, _, by k_mem⟩, List.forall_mem_cons.mpr ⟨⟨by k_ne, _, by k_mem⟩, fun _ h => nomatch h⟩⟩) ?_ (by with_unfolding_all exact rfl) (by exact rfl); k_whole); intro _ _ _ _ _ _ _ _ _ Nzz _ _ l1zz _ _; (try dsimp only at Nzz); (try k_lt l1zz))) | (k_here; (with_reducible show wpAny _ _ (call (Value.type _) [Value.ref _]) _ _ _); k_dflt (refine kup_listOf (by k_asm) (by k_asm) (by k_mem) (by exact rfl) ?_ (by (simp only [sizeLine_eq]; omega))); intro _ _ _ _ _ l1zz; (try k_lt l1zz); (try k_sweep)) | (k_here; (with_reducible show wpAny _ _ (call (Value.type "dict") [Value.ref _]) _ _ _); k_dflt (refine dict_pairs2 (by k_asm) (by k_asm) (Top.nolimit (by k_asm)) (by rfl) (by assumption) (by assumption) (by assumption) (by omega) ?_); intro _ _ _ _ _ _ _ l1zz _ _ _; (try k_lt l1zz); (try k_sweep)) | (k_here; (with_reducible show wpAny _ _ (call (Value.ref 158) [Value.ref _, Value.int _ _]) _ _ _); k_dflt (refine literal_use X T (by assumption) (by k_asm) (by k_asm) (by k_updF) (by assumption) (by assumption) (by assumption) (by assumption) (by assumption) (by assumption) (by assumption) (by omega) (by omega) (by omega) (by omega) (by omega) ?_); intro _ _ _ _ _ _ _ _ _ _; (try k_sweep)) | (k_here; (with_reducible show wpAny _ _ (call (Value.ref 151) [Value.ref _, Value.int _ _]) _ _ _); k_dflt (refine draw_use X T (by assumption) (by k_asm) (by k_asm) (by k_updF) (by assumption) (by assumption) (by assumption) (by assumption) (by assumption) (by assumption) (by assumption) (by omega) (by omega) (by omega) (by omega) (by omega) ?_); intro _ _ _ _ _ _ _ _ _ _ _; (try k_sweep)) | (k_here; (with_reducible show wpAny _ _ (subscriptTail _ _ (Value.ref _) (Value.str _ _)) _ _ _); k_dflt (refine item_tabled (by k_asm) (by k_mem) (by assumption) (by assumption) (by assumption) ?_); intro _) | ((fail_if_success (with_reducible first | refine s_done ?_ | refine s_iter ?_ | refine s_tpost ?_ | refine s_while ?_ | refine s_call (by decide) ?_ | refine s_ifexp ?_ | refine s_cend ?_ | refine s_comp ?_ | refine s_srcT ?_ | refine s_src ?_)); (first | (k_unfold; (try dsimp only)) | (k_end; wrow_close) | walk1 | (dsimp only; walk1) | (leave1; walk_say "STEP leave1"; try dsimp only)))))
        rename Fr _ _ _ _ => FF
        rename News _ _ _ _ => NN
        rename feedIs _ _ _ _ _ _ => hfd2
        rw [show ki + 1 + (m9 : Int) + 1 + 2 * (i : Int) + 2 = ki + 1 + (m9 : Int) + 1 + 2 * ((i + 1 : Nat) : Int) by omega] at hfd2
        exact cEnd FF NN off0 rfl trivial ⟨_, _, _, rfl, hfd2, intsAre_append hzs (.cons _ _ .nil), by rw [List.length_append, hfll]; rfl⟩
      · rintro zs _ ⟨fo8, tk8, fl, rfl, hfd8, hzs, hfll⟩
        clear hfd
        (try simp only [List.cons_append, List.nil_append])
        have hzl : zs.length ≤ 100 := by have h1 := hzs.length; omega
        (repeat' (first | (first | ((with_reducible first | (rename Gets _ _ => gQ'; refine at_of gQ' ?_; clear gQ'; try (rename (_ → Shared → Prop) => qQ'; clear qQ')) | refine at_of (by assumption) ?_); (try dsimp only)) | (with_reducible (first | refine s_exec ?_ | refine s_comp ?_); (with_reducible ((fail_if_success (refine s_at ?_)); refine cutX ?_; intro _ _)))) | ((with_reducible show wpAny _ _ (exec (Stmt.For (Expr.Name _ _) (Expr.Name _ _) (_ :: _) [] _) _) _ _ _); (k_here; (rename Fr _ _ _ _ => lFzz); (with_unfolding_all refine For_invVF lFzz (by exact rfl) (by exact rfl) ?_; k_whole))) | (k_here; (with_reducible show wpAny _ _ (compareOp CmpOp.Eq (Value.ref _) (Value.ref _)) _ _ _); k_dflt (refine eq_intsS (isL (by k_asm) (by k_mem)) (isL (by k_asm) (by k_mem)) (by assumption) (by assumption) (by (simp only [Around.deeper_units, mkA, cLine]; omega)) ?_)) | ((with_reducible show wpAny _ _ (compareOp CmpOp.NotIn (Value.str _ _) (Value.ref _)) _ _ _); (k_here; k_dflt (refine notin_tabled (by k_asm) (by k_mem) (by assumption) (by assumption) (by assumption) ?_))) | (k_here; (with_reducible show wpAny _ _ (compareOp CmpOp.NotEq (Value.ref _) (Value.ref _)) _ _ _); k_dflt (refine ne_intsS (isL (by k_asm) (by k_mem)) (isL (by k_asm) (by k_mem)) (by assumption) (by assumption) (by (simp only [Around.deeper_units, mkA, cLine]; omega)) ?_)) | (k_here; (with_reducible show wpAny _ _ (compareOp CmpOp.NotEq (Value.ref _) (Value.ref _)) _ _ _); k_dflt (refine ne_strsS (isL (by k_asm) (by k_mem)) (isL (by k_asm) (by k_mem)) (by assumption) (by assumption) (by (simp only [Around.deeper_units, mkA, cLine]; omega)) (by assumption) ?_)) | (k_here; (with_reducible show wpAny _ _ (compareOp CmpOp.NotEq (Value.ref _) (Value.ref _)) _ _ _); k_dflt (refine ne_strs0 (isL (by k_asm) (by k_mem)) (isL (by k_asm) (by k_mem)) (by assumption) (by (simp only [Around.deeper_units, mkA, cLine]; omega)) (by assumption) ?_)) | ((with_reducible show wpAny _ _ (eval (Expr.Lambda _ _ _ _) _) _ _ _); (k_here; (rename Mine.Dum _ _ _ => hMzz); k_dflt (refine lam_keep (by k_asm) (by k_asm) (by k_asm) (by assumption) (by exact rfl) (by k_updF) (by assumption) (by with_unfolding_all exact rfl) hMzz (by k_mem) (by exact List.forall_mem_cons.mpr ⟨⟨by k_ne, _, by k_mem⟩, List.forall_mem_cons.mpr ⟨⟨by k_ne, _, by k_mem⟩, fun _ h => nomatch h⟩⟩) ?_ (by with_unfolding_all exact rfl) (by exact rfl); k_whole); intro _ _ _ _ _ _ _ _ _ Nzz _ _ l1zz _ _; (try dsimp only at Nzz); (try k_lt l1zz))) | (k_here; (with_reducible show wpAny _ _ (call (Value.type _) [Value.ref _]) _ _ _); k_dflt (refine kup_listOf (by k_asm) (by k_asm) (by k_mem) (by exact rfl) ?_ (by (simp only [sizeLine_eq]; omega))); intro _ _ _ _ _ l1zz; (try k_lt l1zz); (try k_sweep)) | (k_here; (with_reducible show wpAny _ _ (call (Value.type "dict") [Value.ref _]) _ _ _); k_dflt (refine dict_pairs2 (by k_asm) (by k_asm) (Top.nolimit (by k_asm)) (by rfl) (by assumption) (by assumption) (by assumption) (by omega) ?_); intro _ _ _ _ _ _ _ l1zz _ _ _; (try k_lt l1zz); (try k_sweep)) | (k_here; (with_reducible show wpAny _ _ (call (Value.ref 158) [Value.ref _, Value.int _ _]) _ _ _); k_dflt (refine literal_use X T (by assumption) (by k_asm) (by k_asm) (by k_updF) (by assumption) (by assumption) (by assumption) (by assumption) (by assumption) (by assumption) (by assumption) (by omega) (by omega) (by omega) (by omega) (by omega) ?_); intro _ _ _ _ _ _ _ _ _ _; (try k_sweep)) | (k_here; (with_reducible show wpAny _ _ (call (Value.ref 151) [Value.ref _, Value.int _ _]) _ _ _); k_dflt (refine draw_use X T (by assumption) (by k_asm) (by k_asm) (by k_updF) (by assumption) (by assumption) (by assumption) (by assumption) (by assumption) (by assumption) (by assumption) (by omega) (by omega) (by omega) (by omega) (by omega) ?_); intro _ _ _ _ _ _ _ _ _ _ _; (try k_sweep)) | (k_here; (with_reducible show wpAny _ _ (subscriptTail _ _ (Value.ref _) (Value.str _ _)) _ _ _); k_dflt (refine item_tabled (by k_asm) (by k_mem) (by assumption) (by assumption) (by assumption) ?_); intro _) | ((fail_if_success (with_reducible first | refine s_done ?_ | refine s_iter ?_ | refine s_tpost ?_ | refine s_while ?_ | refine s_call (by decide) ?_ | refine s_ifexp ?_ | refine s_cend ?_ | refine s_comp ?_ | refine s_srcT ?_ | refine s_src ?_)); (first | (k_unfold; (try dsimp only)) | (k_end; wrow_close) | walk1 | (dsimp only; walk1) | (leave1; walk_say "STEP leave1"; try dsimp only)))))
        rename Fr _ _ _ _ => FF
        rename News _ _ _ _ => NN
        have hnz : its.toArray.size = (names.zip sws).length := by rw [hs1, hs4, List.length_zip, ← I.len]; exact (Nat.min_self _).symm
        have hko : ∀ n ∈ ((names.zip sws).filter fun p => decide (p.2 ∈ fl)).map (·.1), PyData.strOk n = true := by
          intro n hn
          obtain ⟨p, hp, rfl⟩ := List.mem_map.mp hn
          exact (I.nm _ (List.of_mem_zip (List.mem_filter.mp hp).1).1).2
        refine names_of_spec X T ?B6 (by show dp + 1 ≤ 600; omega) (by show un + 3 ≤ 5000; omega) OO (off_of_led (led_push (sub := kLed a d k) B5 NN (by lcg_sub) rfl)) (kat_of NN (by lcg_sub) R) (by omega) hnd9 I.sd (isL NN (by k_mem)) hzs (by (repeat' (first | exact List.not_mem_nil | (refine notin_cons (by k_ne) ?_)))) (by omega) ?_
        case B6 => exact pushX B5 FF rfl rfl
        intro h6 tk6 D6 ys6 n6 k6 hD6 hd6 hys6
        obtain ⟨F6, N6, o6⟩ := call_new FF NN k6 hD6 hd6
        simp only [LCg.Off1, and_true] at o6
        clear FF NN k6 hD6 hd6
        (repeat' (first | (first | ((with_reducible first | (rename Gets _ _ => gQ'; refine at_of gQ' ?_; clear gQ'; try (rename (_ → Shared → Prop) => qQ'; clear qQ')) | refine at_of (by assumption) ?_); (try dsimp only)) | (with_reducible (first | refine s_exec ?_ | refine s_comp ?_); (with_reducible ((fail_if_success (refine s_at ?_)); refine cutX ?_; intro _ _)))) | ((with_reducible show wpAny _ _ (exec (Stmt.For (Expr.Name _ _) (Expr.Name _ _) (_ :: _) [] _) _) _ _ _); (k_here; (rename Fr _ _ _ _ => lFzz); (with_unfolding_all refine For_invVF lFzz (by exact rfl) (by exact rfl) ?_; k_whole))) | (k_here; (with_reducible show wpAny _ _ (compareOp CmpOp.Eq (Value.ref _) (Value.ref _)) _ _ _); k_dflt (refine eq_intsS (isL (by k_asm) (by k_mem)) (isL (by k_asm) (by k_mem)) (by assumption) (by assumption) (by (simp only [Around.deeper_units, mkA, cLine]; omega)) ?_)) | ((with_reducible show wpAny _ _ (compareOp CmpOp.NotIn (Value.str _ _) (Value.ref _)) _ _ _); (k_here; k_dflt (refine notin_tabled (by k_asm) (by k_mem) (by assumption) (by assumption) (by assumption) ?_))) | (k_here; (with_reducible show wpAny _ _ (compareOp CmpOp.NotEq (Value.ref _) (Value.ref _)) _ _ _); k_dflt (refine ne_intsS (isL (by k_asm) (by k_mem)) (isL (by k_asm) (by k_mem)) (by assumption) (by assumption) (by (simp only [Around.deeper_units, mkA, cLine]; omega)) ?_)) | (k_here; (with_reducible show wpAny _ _ (compareOp CmpOp.NotEq (Value.ref _) (Value.ref _)) _ _ _); k_dflt (refine ne_strsS (isL (by k_asm) (by k_mem)) (isL (by k_asm) (by k_mem)) (by assumption) (by assumption) (by (simp only [Around.deeper_units, mkA, cLine]; omega)) (by assumption) ?_)) | (k_here; (with_reducible show wpAny _ _ (compareOp CmpOp.NotEq (Value.ref _) (Value.ref _)) _ _ _); k_dflt (refine ne_strs0 (isL (by k_asm) (by k_mem)) (isL (by k_asm) (by k_mem)) (by assumption) (by (simp only [Around.deeper_units, mkA, cLine]; omega)) (by assumption) ?_)) | ((with_reducible show wpAny _ _ (eval (Expr.Lambda _ _ _ _) _) _ _ _); (k_here; (rename Mine.Dum _ _ _ => hMzz); k_dflt (refine lam_keep (by k_asm) (by k_asm) (by k_asm) (by assumption) (by exact rfl) (by k_updF) (by assumption) (by with_unfolding_all exact rfl) hMzz (by k_mem) (by exact List.forall_mem_cons.mpr ⟨⟨by k_ne, _, by k_mem⟩, List.forall_mem_cons.mpr ⟨⟨by k_ne, _, by k_mem⟩, fun _ h => nomatch h⟩⟩) ?_ (by with_unfolding_all exact rfl) (by exact rfl); k_whole); intro _ _ _ _ _ _ _ _ _ Nzz _ _ l1zz _ _; (try dsimp only at Nzz); (try k_lt l1zz))) | (k_here; (with_reducible show wpAny _ _ (call (Value.type _) [Value.ref _]) _ _ _); k_dflt (refine kup_listOf (by k_asm) (by k_asm) (by k_mem) (by exact rfl) ?_ (by (simp only [sizeLine_eq]; omega))); intro _ _ _ _ _ l1zz; (try k_lt l1zz); (try k_sweep)) | (k_here; (with_reducible show wpAny _ _ (call (Value.type "dict") [Value.ref _]) _ _ _); k_dflt (refine dict_pairs2 (by k_asm) (by k_asm) (Top.nolimit (by k_asm)) (by rfl) (by assumption) (by assumption) (by assumption) (by omega) ?_); intro _ _ _ _ _ _ _ l1zz _ _ _; (try k_lt l1zz); (try k_sweep)) | (k_here; (with_reducible show wpAny _ _ (call (Value.ref 158) [Value.ref _, Value.int _ _]) _ _ _); k_dflt (refine literal_use X T (by assumption) (by k_asm) (by k_asm) (by k_updF) (by assumption) (by assumption) (by assumption) (by assumption) (by assumption) (by assumption) (by assumption) (by omega) (by omega) (by omega) (by omega) (by omega) ?_); intro _ _ _ _ _ _ _ _ _ _; (try k_sweep)) | (k_here; (with_reducible show wpAny _ _ (call (Value.ref 151) [Value.ref _, Value.int _ _]) _ _ _); k_dflt (refine draw_use X T (by assumption) (by k_asm) (by k_asm) (by k_updF) (by assumption) (by assumption) (by assumption) (by assumption) (by assumption) (by assumption) (by assumption) (by omega) (by omega) (by omega) (by omega) (by omega) ?_); intro _ _ _ _ _ _ _ _ _ _ _; (try k_sweep)) | (k_here; (with_reducible show wpAny _ _ (subscriptTail _ _ (Value.ref _) (Value.str _ _)) _ _ _); k_dflt (refine item_tabled (by k_asm) (by k_mem) (by assumption) (by assumption) (by assumption) ?_); intro _) | ((fail_if_success (with_reducible first | refine s_done ?_ | refine s_iter ?_ | refine s_tpost ?_ | refine s_while ?_ | refine s_call (by decide) ?_ | refine s_ifexp ?_ | refine s_cend ?_ | refine s_comp ?_ | refine s_srcT ?_ | refine s_src ?_)); (first | (k_unfold; (try dsimp only)) | (k_end; wrow_close) | walk1 | (dsimp only; walk1) | (leave1; walk_say "STEP leave1"; try dsimp only)))))
        refine ListComp_Q (by rfl) (F₀ := by k_asm) (by with_unfolding_all rfl) (by decide) (by rfl) (by decide) (by rfl) (by rfl) (by decide) ?_
        (repeat' (first | (first | ((with_reducible first | (rename Gets _ _ => gQ'; refine at_of gQ' ?_; clear gQ'; try (rename (_ → Shared → Prop) => qQ'; clear qQ')) | refine at_of (by assumption) ?_); (try dsimp only)) | (with_reducible (first | refine s_exec ?_ | refine s_comp ?_); (with_reducible ((fail_if_success (refine s_at ?_)); refine cutX ?_; intro _ _)))) | ((with_reducible show wpAny _ _ (exec (Stmt.For (Expr.Name _ _) (Expr.Name _ _) (_ :: _) [] _) _) _ _ _); (k_here; (rename Fr _ _ _ _ => lFzz); (with_unfolding_all refine For_invVF lFzz (by exact rfl) (by exact rfl) ?_; k_whole))) | (k_here; (with_reducible show wpAny _ _ (compareOp CmpOp.Eq (Value.ref _) (Value.ref _)) _ _ _); k_dflt (refine eq_intsS (isL (by k_asm) (by k_mem)) (isL (by k_asm) (by k_mem)) (by assumption) (by assumption) (by (simp only [Around.deeper_units, mkA, cLine]; omega)) ?_)) | ((with_reducible show wpAny _ _ (compareOp CmpOp.NotIn (Value.str _ _) (Value.ref _)) _ _ _); (k_here; k_dflt (refine notin_tabled (by k_asm) (by k_mem) (by assumption) (by assumption) (by assumption) ?_))) | (k_here; (with_reducible show wpAny _ _ (compareOp CmpOp.NotEq (Value.ref _) (Value.ref _)) _ _ _); k_dflt (refine ne_intsS (isL (by k_asm) (by k_mem)) (isL (by k_asm) (by k_mem)) (by assumption) (by assumption) (by (simp only [Around.deeper_units, mkA, cLine]; omega)) ?_)) | (k_here; (with_reducible show wpAny _ _ (compareOp CmpOp.NotEq (Value.ref _) (Value.ref _)) _ _ _); k_dflt (refine ne_strsS (isL (by k_asm) (by k_mem)) (isL (by k_asm) (by k_mem)) (by assumption) (by assumption) (by (simp only [Around.deeper_units, mkA, cLine]; omega)) (by assumption) ?_)) | (k_here; (with_reducible show wpAny _ _ (compareOp CmpOp.NotEq (Value.ref _) (Value.ref _)) _ _ _); k_dflt (refine ne_strs0 (isL (by k_asm) (by k_mem)) (isL (by k_asm) (by k_mem)) (by assumption) (by (simp only [Around.deeper_units, mkA, cLine]; omega)) (by assumption) ?_)) | ((with_reducible show wpAny _ _ (eval (Expr.Lambda _ _ _ _) _) _ _ _); (k_here; (rename Mine.Dum _ _ _ => hMzz); k_dflt (refine lam_keep (by k_asm) (by k_asm) (by k_asm) (by assumption) (by exact rfl) (by k_updF) (by assumption) (by with_unfolding_all exact rfl) hMzz (by k_mem) (by exact List.forall_mem_cons.mpr ⟨⟨by k_ne, _, by k_mem⟩, List.forall_mem_cons.mpr ⟨⟨by k_ne, _, by k_mem⟩, fun _ h => nomatch h⟩⟩) ?_ (by with_unfolding_all exact rfl) (by exact rfl); k_whole); intro _ _ _ _ _ _ _ _ _ Nzz _ _ l1zz _ _; (try dsimp only at Nzz); (try k_lt l1zz))) | (k_here; (with_reducible show wpAny _ _ (call (Value.type _) [Value.ref _]) _ _ _); k_dflt (refine kup_listOf (by k_asm) (by k_asm) (by k_mem) (by exact rfl) ?_ (by (simp only [sizeLine_eq]; omega))); intro _ _ _ _ _ l1zz; (try k_lt l1zz); (try k_sweep)) | (k_here; (with_reducible show wpAny _ _ (call (Value.type "dict") [Value.ref _]) _ _ _); k_dflt (refine dict_pairs2 (by k_asm) (by k_asm) (Top.nolimit (by k_asm)) (by rfl) (by assumption) (by assumption) (by assumption) (by omega) ?_); intro _ _ _ _ _ _ _ l1zz _ _ _; (try k_lt l1zz); (try k_sweep)) | (k_here; (with_reducible show wpAny _ _ (call (Value.ref 158) [Value.ref _, Value.int _ _]) _ _ _); k_dflt (refine literal_use X T (by assumption) (by k_asm) (by k_asm) (by k_updF) (by assumption) (by assumption) (by assumption) (by assumption) (by assumption) (by assumption) (by assumption) (by omega) (by omega) (by omega) (by omega) (by omega) ?_); intro _ _ _ _ _ _ _ _ _ _; (try k_sweep)) | (k_here; (with_reducible show wpAny _ _ (call (Value.ref 151) [Value.ref _, Value.int _ _]) _ _ _); k_dflt (refine draw_use X T (by assumption) (by k_asm) (by k_asm) (by k_updF) (by assumption) (by assumption) (by assumption) (by assumption) (by assumption) (by assumption) (by assumption) (by omega) (by omega) (by omega) (by omega) (by omega) ?_); intro _ _ _ _ _ _ _ _ _ _ _; (try k_sweep)) | (k_here; (with_reducible show wpAny _ _ (subscriptTail _ _ (Value.ref _) (Value.str _ _)) _ _ _); k_dflt (refine item_tabled (by k_asm) (by k_mem) (by assumption) (by assumption) (by assumption) ?_); intro _) | ((fail_if_success (with_reducible first | refine s_done ?_ | refine s_iter ?_ | refine s_tpost ?_ | refine s_while ?_ | refine s_call (by decide) ?_ | refine s_ifexp ?_ | refine s_cend ?_ | refine s_comp ?_ | refine s_srcT ?_ | refine s_src ?_)); (first | (k_unfold; (try dsimp only)) | (k_end; wrow_close) | walk1 | (dsimp only; walk1) | (leave1; walk_say "STEP leave1"; try dsimp only)))))
        refine SrcQ.intro (G := fun i v1 v2 => ∃ n sw tn ts, v1 = .str n tn ∧ v2 = .int sw ts ∧ names[i]? = some n ∧ sws[i]? = some sw) ((fun N₀ i ys nw => nw = N₀ ∧ StrsAre ys ((((names.zip sws).take i).filter fun p => decide (p.2 ∈ fl)).map (·.1))) _) (by k_asm) (by k_asm) hlp55 (by simp only [sizeLine_eq]; omega) ?G2 ?T2 ⟨rfl, .nil⟩ ?fin2
        case G2 =>
          intro i v hv
          obtain ⟨t, n, sw, tn, ts, rfl, ht, e1, e2⟩ := PA5.at_ i v (by simpa using hv)
          exact ⟨t, _, _, rfl, ht, n, sw, tn, ts, rfl, rfl, e1, e2⟩
        case T2 =>
          rintro g i ys nw v1 v2 I9 oI C9 oC D9 m₂ h₉ tk₉ E' hi9 ⟨rfl, hys⟩ ⟨n, sw, tn, ts, rfl, rfl, e1, e2⟩ hC hx hx2 F9 N9 off9 ne9
          have off0 := off9
          (try simp only [List.cons_append, List.nil_append] at N9 off9)
          (try simp only [PyProof.Rows.LCg.Off3, and_true] at off9)
          have hzi : (names.zip sws)[i]? = some (n, sw) := List.getElem?_zip_eq_some.mpr ⟨e1, e2⟩
          refine wpAny_tests_one ?_
          (repeat' (first | (first | ((with_reducible first | (rename Gets _ _ => gQ'; refine at_of gQ' ?_; clear gQ'; try (rename (_ → Shared → Prop) => qQ'; clear qQ')) | refine at_of (by assumption) ?_); (try dsimp only)) | (with_reducible (first | refine s_exec ?_ | refine s_comp ?_); (with_reducible ((fail_if_success (refine s_at ?_)); refine cutX ?_; intro _ _)))) | ((with_reducible show wpAny _ _ (exec (Stmt.For (Expr.Name _ _) (Expr.Name _ _) (_ :: _) [] _) _) _ _ _); (k_here; (rename Fr _ _ _ _ => lFzz); (with_unfolding_all refine For_invVF lFzz (by exact rfl) (by exact rfl) ?_; k_whole))) | (k_here; (with_reducible show wpAny _ _ (compareOp CmpOp.Eq (Value.ref _) (Value.ref _)) _ _ _); k_dflt (refine eq_intsS (isL (by k_asm) (by k_mem)) (isL (by k_asm) (by k_mem)) (by assumption) (by assumption) (by (simp only [Around.deeper_units, mkA, cLine]; omega)) ?_)) | ((with_reducible show wpAny _ _ (compareOp CmpOp.NotIn (Value.str _ _) (Value.ref _)) _ _ _); (k_here; k_dflt (refine notin_tabled (by k_asm) (by k_mem) (by assumption) (by assumption) (by assumption) ?_))) | (k_here; (with_reducible show wpAny _ _ (compareOp CmpOp.NotEq (Value.ref _) (Value.ref _)) _ _ _); k_dflt (refine ne_intsS (isL (by k_asm) (by k_mem)) (isL (by k_asm) (by k_mem)) (by assumption) (by assumption) (by (simp only [Around.deeper_units, mkA, cLine]; omega)) ?_)) | (k_here; (with_reducible show wpAny _ _ (compareOp CmpOp.NotEq (Value.ref _) (Value.ref _)) _ _ _); k_dflt (refine ne_strsS (isL (by k_asm) (by k_mem)) (isL (by k_asm) (by k_mem)) (by assumption) (by assumption) (by (simp only [Around.deeper_units, mkA, cLine]; omega)) (by assumption) ?_)) | (k_here; (with_reducible show wpAny _ _ (compareOp CmpOp.NotEq (Value.ref _) (Value.ref _)) _ _ _); k_dflt (refine ne_strs0 (isL (by k_asm) (by k_mem)) (isL (by k_asm) (by k_mem)) (by assumption) (by (simp only [Around.deeper_units, mkA, cLine]; omega)) (by assumption) ?_)) | ((with_reducible show wpAny _ _ (eval (Expr.Lambda _ _ _ _) _) _ _ _); (k_here; (rename Mine.Dum _ _ _ => hMzz); k_dflt (refine lam_keep (by k_asm) (by k_asm) (by k_asm) (by assumption) (by exact rfl) (by k_updF) (by assumption) (by with_unfolding_all exact rfl) hMzz (by k_mem) (by exact List.forall_mem_cons.mpr ⟨⟨by k_ne, _, by k_mem⟩, List.forall_mem_cons.mpr ⟨⟨by k_ne, _, by k_mem⟩, fun _ h => nomatch h⟩⟩) ?_ (by with_unfolding_all exact rfl) (by exact rfl); k_whole); intro _ _ _ _ _ _ _ _ _ Nzz _ _ l1zz _ _; (try dsimp only at Nzz); (try k_lt l1zz))) | (k_here; (with_reducible show wpAny _ _ (call (Value.type _) [Value.ref _]) _ _ _); k_dflt (refine kup_listOf (by k_asm) (by k_asm) (by k_mem) (by exact rfl) ?_ (by (simp only [sizeLine_eq]; omega))); intro _ _ _ _ _ l1zz; (try k_lt l1zz); (try k_sweep)) | (k_here; (with_reducible show wpAny _ _ (call (Value.type "dict") [Value.ref _]) _ _ _); k_dflt (refine dict_pairs2 (by k_asm) (by k_asm) (Top.nolimit (by k_asm)) (by rfl) (by assumption) (by assumption) (by assumption) (by omega) ?_); intro _ _ _ _ _ _ _ l1zz _ _ _; (try k_lt l1zz); (try k_sweep)) | (k_here; (with_reducible show wpAny _ _ (call (Value.ref 158) [Value.ref _, Value.int _ _]) _ _ _); k_dflt (refine literal_use X T (by assumption) (by k_asm) (by k_asm) (by k_updF) (by assumption) (by assumption) (by assumption) (by assumption) (by assumption) (by assumption) (by assumption) (by omega) (by omega) (by omega) (by omega) (by omega) ?_); intro _ _ _ _ _ _ _ _ _ _; (try k_sweep)) | (k_here; (with_reducible show wpAny _ _ (call (Value.ref 151) [Value.ref _, Value.int _ _]) _ _ _); k_dflt (refine draw_use X T (by assumption) (by k_asm) (by k_asm) (by k_updF) (by assumption) (by assumption) (by assumption) (by assumption) (by assumption) (by assumption) (by assumption) (by omega) (by omega) (by omega) (by omega) (by omega) ?_); intro _ _ _ _ _ _ _ _ _ _ _; (try k_sweep)) | (k_here; (with_reducible show wpAny _ _ (subscriptTail _ _ (Value.ref _) (Value.str _ _)) _ _ _); k_dflt (refine item_tabled (by k_asm) (by k_mem) (by assumption) (by assumption) (by assumption) ?_); intro _) | ((fail_if_success (with_reducible first | refine s_done ?_ | refine s_iter ?_ | refine s_tpost ?_ | refine s_while ?_ | refine s_call (by decide) ?_ | refine s_ifexp ?_ | refine s_cend ?_ | refine s_comp ?_ | refine s_srcT ?_ | refine s_src ?_)); (first | (k_unfold; (try dsimp only)) | (k_end; wrow_close) | walk1 | (dsimp only; walk1) | (leave1; walk_say "STEP leave1"; try dsimp only)))))
          all_goals (rename Fr _ _ _ _ => FF; rename News _ _ _ _ => NN)
          · skip
            refine cEnd FF NN off0 rfl trivial ⟨rfl, ?_⟩
            rw [take_snoc hzi, List.filter_append, List.map_append]
            have hin : sw ∈ fl := any_mem (by assumption)
            rw [show List.filter (fun p : Str × Int => decide (p.2 ∈ fl)) [(n, sw)] = [(n, sw)] by simp [hin]]
            exact strsAre_append hys (.cons _ _ .nil)
          · skip
            refine cEnd FF NN off0 rfl trivial ⟨rfl, ?_⟩
            rw [take_snoc hzi, List.filter_append, List.map_append]
            have hin : sw ∉ fl := any_not (by assumption)
            rw [show List.filter (fun p : Str × Int => decide (p.2 ∈ fl)) [(n, sw)] = [] by simp [hin], List.map_nil, List.append_nil]
            exact hys
        rintro g ys _ ⟨rfl, hys⟩
        rw [hnz, List.take_length] at hys
        (repeat' (first | (first | ((with_reducible first | (rename Gets _ _ => gQ'; refine at_of gQ' ?_; clear gQ'; try (rename (_ → Shared → Prop) => qQ'; clear qQ')) | refine at_of (by assumption) ?_); (try dsimp only)) | (with_reducible (first | refine s_exec ?_ | refine s_comp ?_); (with_reducible ((fail_if_success (refine s_at ?_)); refine cutX ?_; intro _ _)))) | ((with_reducible show wpAny _ _ (exec (Stmt.For (Expr.Name _ _) (Expr.Name _ _) (_ :: _) [] _) _) _ _ _); (k_here; (rename Fr _ _ _ _ => lFzz); (with_unfolding_all refine For_invVF lFzz (by exact rfl) (by exact rfl) ?_; k_whole))) | (k_here; (with_reducible show wpAny _ _ (compareOp CmpOp.Eq (Value.ref _) (Value.ref _)) _ _ _); k_dflt (refine eq_intsS (isL (by k_asm) (by k_mem)) (isL (by k_asm) (by k_mem)) (by assumption) (by assumption) (by (simp only [Around.deeper_units, mkA, cLine]; omega)) ?_)) | ((with_reducible show wpAny _ _ (compareOp CmpOp.NotIn (Value.str _ _) (Value.ref _)) _ _ _); (k_here; k_dflt (refine notin_tabled (by k_asm) (by k_mem) (by assumption) (by assumption) (by assumption) ?_))) | (k_here; (with_reducible show wpAny _ _ (compareOp CmpOp.NotEq (Value.ref _) (Value.ref _)) _ _ _); k_dflt (refine ne_intsS (isL (by k_asm) (by k_mem)) (isL (by k_asm) (by k_mem)) (by assumption) (by assumption) (by (simp only [Around.deeper_units, mkA, cLine]; omega)) ?_)) | (k_here; (with_reducible show wpAny _ _ (compareOp CmpOp.NotEq (Value.ref _) (Value.ref _)) _ _ _); k_dflt (refine ne_strsS (isL (by k_asm) (by k_mem)) (isL (by k_asm) (by k_mem)) (by assumption) (by assumption) (by (simp only [Around.deeper_units, mkA, cLine]; omega)) (by assumption) ?_)) | (k_here; (with_reducible show wpAny _ _ (compareOp CmpOp.NotEq (Value.ref _) (Value.ref _)) _ _ _); k_dflt (refine ne_strs0 (isL (by k_asm) (by k_mem)) (isL (by k_asm) (by k_mem)) (by assumption) (by (simp only [Around.deeper_units, mkA, cLine]; omega)) (by assumption) ?_)) | ((with_reducible show wpAny _ _ (eval (Expr.Lambda _ _ _ _) _) _ _ _); (k_here; (rename Mine.Dum _ _ _ => hMzz); k_dflt (refine lam_keep (by k_asm) (by k_asm) (by k_asm) (by assumption) (by exact rfl) (by k_updF) (by assumption) (by with_unfolding_all exact rfl) hMzz (by k_mem) (by exact List.forall_mem_cons.mpr ⟨⟨by k_ne, _, by k_mem⟩, List.forall_mem_cons.mpr ⟨⟨by k_ne, _, by k_mem⟩, fun _ h => nomatch h⟩⟩) ?_ (by with_unfolding_all exact rfl) (by exact rfl); k_whole); intro _ _ _ _ _ _ _ _ _ Nzz _ _ l1zz _ _; (try dsimp only at Nzz); (try k_lt l1zz))) | (k_here; (with_reducible show wpAny _ _ (call (Value.type _) [Value.ref _]) _ _ _); k_dflt (refine kup_listOf (by k_asm) (by k_asm) (by k_mem) (by exact rfl) ?_ (by (simp only [sizeLine_eq]; omega))); intro _ _ _ _ _ l1zz; (try k_lt l1zz); (try k_sweep)) | (k_here; (with_reducible show wpAny _ _ (call (Value.type "dict") [Value.ref _]) _ _ _); k_dflt (refine dict_pairs2 (by k_asm) (by k_asm) (Top.nolimit (by k_asm)) (by rfl) (by assumption) (by assumption) (by assumption) (by omega) ?_); intro _ _ _ _ _ _ _ l1zz _ _ _; (try k_lt l1zz); (try k_sweep)) | (k_here; (with_reducible show wpAny _ _ (call (Value.ref 158) [Value.ref _, Value.int _ _]) _ _ _); k_dflt (refine literal_use X T (by assumption) (by k_asm) (by k_asm) (by k_updF) (by assumption) (by assumption) (by assumption) (by assumption) (by assumption) (by assumption) (by assumption) (by omega) (by omega) (by omega) (by omega) (by omega) ?_); intro _ _ _ _ _ _ _ _ _ _; (try k_sweep)) | (k_here; (with_reducible show wpAny _ _ (call (Value.ref 151) [Value.ref _, Value.int _ _]) _ _ _); k_dflt (refine draw_use X T (by assumption) (by k_asm) (by k_asm) (by k_updF) (by assumption) (by assumption) (by assumption) (by assumption) (by assumption) (by assumption) (by assumption) (by omega) (by omega) (by omega) (by omega) (by omega) ?_); intro _ _ _ _ _ _ _ _ _ _ _; (try k_sweep)) | (k_here; (with_reducible show wpAny _ _ (subscriptTail _ _ (Value.ref _) (Value.str _ _)) _ _ _); k_dflt (refine item_tabled (by k_asm) (by k_mem) (by assumption) (by assumption) (by assumption) ?_); intro _) | ((fail_if_success (with_reducible first | refine s_done ?_ | refine s_iter ?_ | refine s_tpost ?_ | refine s_while ?_ | refine s_call (by decide) ?_ | refine s_ifexp ?_ | refine s_cend ?_ | refine s_comp ?_ | refine s_srcT ?_ | refine s_src ?_)); (first | (k_unfold; (try dsimp only)) | (k_end; wrow_close) | walk1 | (dsimp only; walk1) | (leave1; walk_say "STEP leave1"; try dsimp only)))))
        rename Fr _ _ _ _ => FF
        rename News _ _ _ _ => NN
        have NN2 := News.less2 NN
        clear NN F6 N6
        refine ListComp_Q (by rfl) (F₀ := by k_asm) (by with_unfolding_all rfl) (by decide) (by rfl) (by decide) (by rfl) (by rfl) (by decide) ?_
        (repeat' (first | (first | ((with_reducible first | (rename Gets _ _ => gQ'; refine at_of gQ' ?_; clear gQ'; try (rename (_ → Shared → Prop) => qQ'; clear qQ')) | refine at_of (by assumption) ?_); (try dsimp only)) | (with_reducible (first | refine s_exec ?_ | refine s_comp ?_); (with_reducible ((fail_if_success (refine s_at ?_)); refine cutX ?_; intro _ _)))) | ((with_reducible show wpAny _ _ (exec (Stmt.For (Expr.Name _ _) (Expr.Name _ _) (_ :: _) [] _) _) _ _ _); (k_here; (rename Fr _ _ _ _ => lFzz); (with_unfolding_all refine For_invVF lFzz (by exact rfl) (by exact rfl) ?_; k_whole))) | (k_here; (with_reducible show wpAny _ _ (compareOp CmpOp.Eq (Value.ref _) (Value.ref _)) _ _ _); k_dflt (refine eq_intsS (isL (by k_asm) (by k_mem)) (isL (by k_asm) (by k_mem)) (by assumption) (by assumption) (by (simp only [Around.deeper_units, mkA, cLine]; omega)) ?_)) | ((with_reducible show wpAny _ _ (compareOp CmpOp.NotIn (Value.str _ _) (Value.ref _)) _ _ _); (k_here; k_dflt (refine notin_tabled (by k_asm) (by k_mem) (by assumption) (by assumption) (by assumption) ?_))) | (k_here; (with_reducible show wpAny _ _ (compareOp CmpOp.NotEq (Value.ref _) (Value.ref _)) _ _ _); k_dflt (refine ne_intsS (isL (by k_asm) (by k_mem)) (isL (by k_asm) (by k_mem)) (by assumption) (by assumption) (by (simp only [Around.deeper_units, mkA, cLine]; omega)) ?_)) | (k_here; (with_reducible show wpAny _ _ (compareOp CmpOp.NotEq (Value.ref _) (Value.ref _)) _ _ _); k_dflt (refine ne_strsS (isL (by k_asm) (by k_mem)) (isL (by k_asm) (by k_mem)) (by assumption) (by assumption) (by (simp only [Around.deeper_units, mkA, cLine]; omega)) (by assumption) ?_)) | (k_here; (with_reducible show wpAny _ _ (compareOp CmpOp.NotEq (Value.ref _) (Value.ref _)) _ _ _); k_dflt (refine ne_strs0 (isL (by k_asm) (by k_mem)) (isL (by k_asm) (by k_mem)) (by assumption) (by (simp only [Around.deeper_units, mkA, cLine]; omega)) (by assumption) ?_)) | ((with_reducible show wpAny _ _ (eval (Expr.Lambda _ _ _ _) _) _ _ _); (k_here; (rename Mine.Dum _ _ _ => hMzz); k_dflt (refine lam_keep (by k_asm) (by k_asm) (by k_asm) (by assumption) (by exact rfl) (by k_updF) (by assumption) (by with_unfolding_all exact rfl) hMzz (by k_mem) (by exact List.forall_mem_cons.mpr ⟨⟨by k_ne, _, by k_mem⟩, List.forall_mem_cons.mpr ⟨⟨by k_ne, _, by k_mem⟩, fun _ h => nomatch h⟩⟩) ?_ (by with_unfolding_all exact rfl) (by exact rfl); k_whole); intro _ _ _ _ _ _ _ _ _ Nzz _ _ l1zz _ _; (try dsimp only at Nzz); (try k_lt l1zz))) | (k_here; (with_reducible show wpAny _ _ (call (Value.type _) [Value.ref _]) _ _ _); k_dflt (refine kup_listOf (by k_asm) (by k_asm) (by k_mem) (by exact rfl) ?_ (by (simp only [sizeLine_eq]; omega))); intro _ _ _ _ _ l1zz; (try k_lt l1zz); (try k_sweep)) | (k_here; (with_reducible show wpAny _ _ (call (Value.type "dict") [Value.ref _]) _ _ _); k_dflt (refine dict_pairs2 (by k_asm) (by k_asm) (Top.nolimit (by k_asm)) (by rfl) (by assumption) (by assumption) (by assumption) (by omega) ?_); intro _ _ _ _ _ _ _ l1zz _ _ _; (try k_lt l1zz); (try k_sweep)) | (k_here; (with_reducible show wpAny _ _ (call (Value.ref 158) [Value.ref _, Value.int _ _]) _ _ _); k_dflt (refine literal_use X T (by assumption) (by k_asm) (by k_asm) (by k_updF) (by assumption) (by assumption) (by assumption) (by assumption) (by assumption) (by assumption) (by assumption) (by omega) (by omega) (by omega) (by omega) (by omega) ?_); intro _ _ _ _ _ _ _ _ _ _; (try k_sweep)) | (k_here; (with_reducible show wpAny _ _ (call (Value.ref 151) [Value.ref _, Value.int _ _]) _ _ _); k_dflt (refine draw_use X T (by assumption) (by k_asm) (by k_asm) (by k_updF) (by assumption) (by assumption) (by assumption) (by assumption) (by assumption) (by assumption) (by assumption) (by omega) (by omega) (by omega) (by omega) (by omega) ?_); intro _ _ _ _ _ _ _ _ _ _ _; (try k_sweep)) | (k_here; (with_reducible show wpAny _ _ (subscriptTail _ _ (Value.ref _) (Value.str _ _)) _ _ _); k_dflt (refine item_tabled (by k_asm) (by k_mem) (by assumption) (by assumption) (by assumption) ?_); intro _) | ((fail_if_success (with_reducible first | refine s_done ?_ | refine s_iter ?_ | refine s_tpost ?_ | refine s_while ?_ | refine s_call (by decide) ?_ | refine s_ifexp ?_ | refine s_cend ?_ | refine s_comp ?_ | refine s_srcT ?_ | refine s_src ?_)); (first | (k_unfold; (try dsimp only)) | (k_end; wrow_close) | walk1 | (dsimp only; walk1) | (leave1; walk_say "STEP leave1"; try dsimp only)))))
        refine SrcQ.intro (G := fun i v1 v2 => ∃ n sw tn ts, v1 = .str n tn ∧ v2 = .int sw ts ∧ names[i]? = some n ∧ sws[i]? = some sw) ((fun N₀ i ys nw => nw = N₀ ∧ IntsAre ys (sws.take i)) _) (by k_asm) (by k_asm) hlp55 (by simp only [sizeLine_eq]; omega) ?G3 ?T3 ⟨rfl, .nil⟩ ?fin3
        case G3 =>
          intro i v hv
          obtain ⟨t, n, sw, tn, ts, rfl, ht, e1, e2⟩ := PA5.at_ i v (by simpa using hv)
          exact ⟨t, _, _, rfl, ht, n, sw, tn, ts, rfl, rfl, e1, e2⟩
        case T3 =>
          rintro g i ys nw v1 v2 I9 oI C9 oC D9 m₂ h₉ tk₉ E' hi9 ⟨rfl, hys⟩ ⟨n, sw, tn, ts, rfl, rfl, e1, e2⟩ hC hx hx2 F9 N9 off9 ne9
          have off0 := off9
          (try simp only [PyProof.Rows.LCg.Off3, and_true] at off9)
          refine wpAny_tests_nil ?_
          (repeat' (first | (first | ((with_reducible first | (rename Gets _ _ => gQ'; refine at_of gQ' ?_; clear gQ'; try (rename (_ → Shared → Prop) => qQ'; clear qQ')) | refine at_of (by assumption) ?_); (try dsimp only)) | (with_reducible (first | refine s_exec ?_ | refine s_comp ?_); (with_reducible ((fail_if_success (refine s_at ?_)); refine cutX ?_; intro _ _)))) | ((with_reducible show wpAny _ _ (exec (Stmt.For (Expr.Name _ _) (Expr.Name _ _) (_ :: _) [] _) _) _ _ _); (k_here; (rename Fr _ _ _ _ => lFzz); (with_unfolding_all refine For_invVF lFzz (by exact rfl) (by exact rfl) ?_; k_whole))) | (k_here; (with_reducible show wpAny _ _ (compareOp CmpOp.Eq (Value.ref _) (Value.ref _)) _ _ _); k_dflt (refine eq_intsS (isL (by k_asm) (by k_mem)) (isL (by k_asm) (by k_mem)) (by assumption) (by assumption) (by (simp only [Around.deeper_units, mkA, cLine]; omega)) ?_)) | ((with_reducible show wpAny _ _ (compareOp CmpOp.NotIn (Value.str _ _) (Value.ref _)) _ _ _); (k_here; k_dflt (refine notin_tabled (by k_asm) (by k_mem) (by assumption) (by assumption) (by assumption) ?_))) | (k_here; (with_reducible show wpAny _ _ (compareOp CmpOp.NotEq (Value.ref _) (Value.ref _)) _ _ _); k_dflt (refine ne_intsS (isL (by k_asm) (by k_mem)) (isL (by k_asm) (by k_mem)) (by assumption) (by assumption) (by (simp only [Around.deeper_units, mkA, cLine]; omega)) ?_)) | (k_here; (with_reducible show wpAny _ _ (compareOp CmpOp.NotEq (Value.ref _) (Value.ref _)) _ _ _); k_dflt (refine ne_strsS (isL (by k_asm) (by k_mem)) (isL (by k_asm) (by k_mem)) (by assumption) (by assumption) (by (simp only [Around.deeper_units, mkA, cLine]; omega)) (by assumption) ?_)) | (k_here; (with_reducible show wpAny _ _ (compareOp CmpOp.NotEq (Value.ref _) (Value.ref _)) _ _ _); k_dflt (refine ne_strs0 (isL (by k_asm) (by k_mem)) (isL (by k_asm) (by k_mem)) (by assumption) (by (simp only [Around.deeper_units, mkA, cLine]; omega)) (by assumption) ?_)) | ((with_reducible show wpAny _ _ (eval (Expr.Lambda _ _ _ _) _) _ _ _); (k_here; (rename Mine.Dum _ _ _ => hMzz); k_dflt (refine lam_keep (by k_asm) (by k_asm) (by k_asm) (by assumption) (by exact rfl) (by k_updF) (by assumption) (by with_unfolding_all exact rfl) hMzz (by k_mem) (by exact List.forall_mem_cons.mpr ⟨⟨by k_ne, _, by k_mem⟩, List.forall_mem_cons.mpr ⟨⟨by k_ne, _, by k_mem⟩, fun _ h => nomatch h⟩⟩) ?_ (by with_unfolding_all exact rfl) (by exact rfl); k_whole); intro _ _ _ _ _ _ _ _ _ Nzz _ _ l1zz _ _; (try dsimp only at Nzz); (try k_lt l1zz))) | (k_here; (with_reducible show wpAny _ _ (call (Value.type _) [Value.ref _]) _ _ _); k_dflt (refine kup_listOf (by k_asm) (by k_asm) (by k_mem) (by exact rfl) ?_ (by (simp only [sizeLine_eq]; omega))); intro _ _ _ _ _ l1zz; (try k_lt l1zz); (try k_sweep)) | (k_here; (with_reducible show wpAny _ _ (call (Value.type "dict") [Value.ref _]) _ _ _); k_dflt (refine dict_pairs2 (by k_asm) (by k_asm) (Top.nolimit (by k_asm)) (by rfl) (by assumption) (by assumption) (by assumption) (by omega) ?_); intro _ _ _ _ _ _ _ l1zz _ _ _; (try k_lt l1zz); (try k_sweep)) | (k_here; (with_reducible show wpAny _ _ (call (Value.ref 158) [Value.ref _, Value.int _ _]) _ _ _); k_dflt (refine literal_use X T (by assumption) (by k_asm) (by k_asm) (by k_updF) (by assumption) (by assumption) (by assumption) (by assumption) (by assumption) (by assumption) (by assumption) (by omega) (by omega) (by omega) (by omega) (by omega) ?_); intro _ _ _ _ _ _ _ _ _ _; (try k_sweep)) | (k_here; (with_reducible show wpAny _ _ (call (Value.ref 151) [Value.ref _, Value.int _ _]) _ _ _); k_dflt (refine draw_use X T (by assumption) (by k_asm) (by k_asm) (by k_updF) (by assumption) (by assumption) (by assumption) (by assumption) (by assumption) (by assumption) (by assumption) (by omega) (by omega) (by omega) (by omega) (by omega) ?_); intro _ _ _ _ _ _ _ _ _ _ _; (try k_sweep)) | (k_here; (with_reducible show wpAny _ _ (subscriptTail _ _ (Value.ref _) (Value.str _ _)) _ _ _); k_dflt (refine item_tabled (by k_asm) (by k_mem) (by assumption) (by assumption) (by assumption) ?_); intro _) | ((fail_if_success (with_reducible first | refine s_done ?_ | refine s_iter ?_ | refine s_tpost ?_ | refine s_while ?_ | refine s_call (by decide) ?_ | refine s_ifexp ?_ | refine s_cend ?_ | refine s_comp ?_ | refine s_srcT ?_ | refine s_src ?_)); (first | (k_unfold; (try dsimp only)) | (k_end; wrow_close) | walk1 | (dsimp only; walk1) | (leave1; walk_say "STEP leave1"; try dsimp only)))))
          rename Fr _ _ _ _ => FF
          rename News _ _ _ _ => NN
          refine cEnd FF NN off0 rfl trivial ⟨rfl, ?_⟩
          rw [take_snoc e2]
          exact intsAre_append hys (.cons _ _ .nil)
        rintro g ys2 _ ⟨rfl, hys2⟩
        rw [hs1, hs4, I.len, List.take_length] at hys2
        (repeat' (first | (first | ((with_reducible first | (rename Gets _ _ => gQ'; refine at_of gQ' ?_; clear gQ'; try (rename (_ → Shared → Prop) => qQ'; clear qQ')) | refine at_of (by assumption) ?_); (try dsimp only)) | (with_reducible (first | refine s_exec ?_ | refine s_comp ?_); (with_reducible ((fail_if_success (refine s_at ?_)); refine cutX ?_; intro _ _)))) | ((with_reducible show wpAny _ _ (exec (Stmt.For (Expr.Name _ _) (Expr.Name _ _) (_ :: _) [] _) _) _ _ _); (k_here; (rename Fr _ _ _ _ => lFzz); (with_unfolding_all refine For_invVF lFzz (by exact rfl) (by exact rfl) ?_; k_whole))) | (k_here; (with_reducible show wpAny _ _ (compareOp CmpOp.Eq (Value.ref _) (Value.ref _)) _ _ _); k_dflt (refine eq_intsS (isL (by k_asm) (by k_mem)) (isL (by k_asm) (by k_mem)) (by assumption) (by assumption) (by (simp only [Around.deeper_units, mkA, cLine]; omega)) ?_)) | ((with_reducible show wpAny _ _ (compareOp CmpOp.NotIn (Value.str _ _) (Value.ref _)) _ _ _); (k_here; k_dflt (refine notin_tabled (by k_asm) (by k_mem) (by assumption) (by assumption) (by assumption) ?_))) | (k_here; (with_reducible show wpAny _ _ (compareOp CmpOp.NotEq (Value.ref _) (Value.ref _)) _ _ _); k_dflt (refine ne_intsS (isL (by k_asm) (by k_mem)) (isL (by k_asm) (by k_mem)) (by assumption) (by assumption) (by (simp only [Around.deeper_units, mkA, cLine]; omega)) ?_)) | (k_here; (with_reducible show wpAny _ _ (compareOp CmpOp.NotEq (Value.ref _) (Value.ref _)) _ _ _); k_dflt (refine ne_strsS (isL (by k_asm) (by k_mem)) (isL (by k_asm) (by k_mem)) (by assumption) (by assumption) (by (simp only [Around.deeper_units, mkA, cLine]; omega)) (by assumption) ?_)) | (k_here; (with_reducible show wpAny _ _ (compareOp CmpOp.NotEq (Value.ref _) (Value.ref _)) _ _ _); k_dflt (refine ne_strs0 (isL (by k_asm) (by k_mem)) (isL (by k_asm) (by k_mem)) (by assumption) (by (simp only [Around.deeper_units, mkA, cLine]; omega)) (by assumption) ?_)) | ((with_reducible show wpAny _ _ (eval (Expr.Lambda _ _ _ _) _) _ _ _); (k_here; (rename Mine.Dum _ _ _ => hMzz); k_dflt (refine lam_keep (by k_asm) (by k_asm) (by k_asm) (by assumption) (by exact rfl) (by k_updF) (by assumption) (by with_unfolding_all exact rfl) hMzz (by k_mem) (by exact List.forall_mem_cons.mpr ⟨⟨by k_ne, _, by k_mem⟩, List.forall_mem_cons.mpr ⟨⟨by k_ne, _, by k_mem⟩, fun _ h => nomatch h⟩⟩) ?_ (by with_unfolding_all exact rfl) (by exact rfl); k_whole); intro _ _ _ _ _ _ _ _ _ Nzz _ _ l1zz _ _; (try dsimp only at Nzz); (try k_lt l1zz))) | (k_here; (with_reducible show wpAny _ _ (call (Value.type _) [Value.ref _]) _ _ _); k_dflt (refine kup_listOf (by k_asm) (by k_asm) (by k_mem) (by exact rfl) ?_ (by (simp only [sizeLine_eq]; omega))); intro _ _ _ _ _ l1zz; (try k_lt l1zz); (try k_sweep)) | (k_here; (with_reducible show wpAny _ _ (call (Value.type "dict") [Value.ref _]) _ _ _); k_dflt (refine dict_pairs2 (by k_asm) (by k_asm) (Top.nolimit (by k_asm)) (by rfl) (by assumption) (by assumption) (by assumption) (by omega) ?_); intro _ _ _ _ _ _ _ l1zz _ _ _; (try k_lt l1zz); (try k_sweep)) | (k_here; (with_reducible show wpAny _ _ (call (Value.ref 158) [Value.ref _, Value.int _ _]) _ _ _); k_dflt (refine literal_use X T (by assumption) (by k_asm) (by k_asm) (by k_updF) (by assumption) (by assumption) (by assumption) (by assumption) (by assumption) (by assumption) (by assumption) (by omega) (by omega) (by omega) (by omega) (by omega) ?_); intro _ _ _ _ _ _ _ _ _ _; (try k_sweep)) | (k_here; (with_reducible show wpAny _ _ (call (Value.ref 151) [Value.ref _, Value.int _ _]) _ _ _); k_dflt (refine draw_use X T (by assumption) (by k_asm) (by k_asm) (by k_updF) (by assumption) (by assumption) (by assumption) (by assumption) (by assumption) (by assumption) (by assumption) (by omega) (by omega) (by omega) (by omega) (by omega) ?_); intro _ _ _ _ _ _ _ _ _ _ _; (try k_sweep)) | (k_here; (with_reducible show wpAny _ _ (subscriptTail _ _ (Value.ref _) (Value.str _ _)) _ _ _); k_dflt (refine item_tabled (by k_asm) (by k_mem) (by assumption) (by assumption) (by assumption) ?_); intro _) | ((fail_if_success (with_reducible first | refine s_done ?_ | refine s_iter ?_ | refine s_tpost ?_ | refine s_while ?_ | refine s_call (by decide) ?_ | refine s_ifexp ?_ | refine s_cend ?_ | refine s_comp ?_ | refine s_srcT ?_ | refine s_src ?_)); (first | (k_unfold; (try dsimp only)) | (k_end; wrow_close) | walk1 | (dsimp only; walk1) | (leave1; walk_say "STEP leave1"; try dsimp only)))))
        rename_i Df qh1 qt1 of1 qh2 oF dF Da ca qh3 qh4 qk2 qg Dk qh5 qt5 ok1 Ds qh6 qt6 os1 Do qh7 lo1 Dt qh8 lt1 qh9 qh10 qh11 NN0 qq9 gq9
        rename Fr _ _ _ _ => FF
        have NN := News.less1 NN0
        have hDfk : Df ∉ kAdr a := by
          obtain ⟨_, _, _, _, _, _, e1, e2, e3, e4, e5, e6, e7, _⟩ := of1
          exact notin_cons e1.symm (notin_cons e2.symm (notin_cons e3.symm (notin_cons e4.symm (notin_cons e5.symm (notin_cons e6.symm (notin_cons e7.symm List.not_mem_nil))))))
        clear NN0 RR
        refine forList (its := zs.toArray) (c := zs.length) ((fun D rest i nx => ∃ zz n, nx = (D, listOf zz n) :: rest ∧ IntsAre zz.toList (oth sws (fl.take i))) _ _) rfl (.inr ⟨by k_mem, ?_⟩) FF NN ⟨#[], 0, rfl, .nil⟩ ?_ ?_
        · rintro i _ ⟨zz, n, rfl, _⟩ o9 hm9
          exact (List.mem_cons.mp hm9).elim (fun q => absurd (congrArg Prod.fst q) (show Df ≠ Do by k_ne)) fun q => List.mem_cons_of_mem _ q
        · rintro I9 i v _ h₂ tk₂ oI lI lL hv hi ⟨zz, n, rfl, hzz⟩ F₁ N₁
          clear FF NN
          obtain ⟨x, t, rfl, hx⟩ := ints_at hzs hv
          have hzz1 : zz.size ≤ 100 := by have h1 := oth_len sws _ (fl.take i) rfl; rw [← hzz.length, List.length_take] at h1; simp at h1; omega
          (try k_lt lI)
          (try dsimp only at F₁); (try k_fold)
          (repeat' (first | (first | ((with_reducible first | (rename Gets _ _ => gQ'; refine at_of gQ' ?_; clear gQ'; try (rename (_ → Shared → Prop) => qQ'; clear qQ')) | refine at_of (by assumption) ?_); (try dsimp only)) | (with_reducible (first | refine s_exec ?_ | refine s_comp ?_); (with_reducible ((fail_if_success (refine s_at ?_)); refine cutX ?_; intro _ _)))) | ((with_reducible show wpAny _ _ (exec (Stmt.For (Expr.Name _ _) (Expr.Name _ _) (_ :: _) [] _) _) _ _ _); (k_here; (rename Fr _ _ _ _ => lFzz); (with_unfolding_all refine For_invVF lFzz (by exact rfl) (by exact rfl) ?_; k_whole))) | (k_here; (with_reducible show wpAny _ _ (compareOp CmpOp.Eq (Value.ref _) (Value.ref _)) _ _ _); k_dflt (refine eq_intsS (isL (by k_asm) (by k_mem)) (isL (by k_asm) (by k_mem)) (by assumption) (by assumption) (by (simp only [Around.deeper_units, mkA, cLine]; omega)) ?_)) | ((with_reducible show wpAny _ _ (compareOp CmpOp.NotIn (Value.str _ _) (Value.ref _)) _ _ _); (k_here; k_dflt (refine notin_tabled (by k_asm) (by k_mem) (by assumption) (by assumption) (by assumption) ?_))) | (k_here; (with_reducible show wpAny _ _ (compareOp CmpOp.NotEq (Value.ref _) (Value.ref _)) _ _ _); k_dflt (refine ne_intsS (isL (by k_asm) (by k_mem)) (isL (by k_asm) (by k_mem)) (by assumption) (by assumption) (by (simp only [Around.deeper_units, mkA, cLine]; omega)) ?_)) | (k_here; (with_reducible show wpAny _ _ (compareOp CmpOp.NotEq (Value.ref _) (Value.ref _)) _ _ _); k_dflt (refine ne_strsS (isL (by k_asm) (by k_mem)) (isL (by k_asm) (by k_mem)) (by assumption) (by assumption) (by (simp only [Around.deeper_units, mkA, cLine]; omega)) (by assumption) ?_)) | (k_here; (with_reducible show wpAny _ _ (compareOp CmpOp.NotEq (Value.ref _) (Value.ref _)) _ _ _); k_dflt (refine ne_strs0 (isL (by k_asm) (by k_mem)) (isL (by k_asm) (by k_mem)) (by assumption) (by (simp only [Around.deeper_units, mkA, cLine]; omega)) (by assumption) ?_)) | ((with_reducible show wpAny _ _ (eval (Expr.Lambda _ _ _ _) _) _ _ _); (k_here; (rename Mine.Dum _ _ _ => hMzz); k_dflt (refine lam_keep (by k_asm) (by k_asm) (by k_asm) (by assumption) (by exact rfl) (by k_updF) (by assumption) (by with_unfolding_all exact rfl) hMzz (by k_mem) (by exact List.forall_mem_cons.mpr ⟨⟨by k_ne, _, by k_mem⟩, List.forall_mem_cons.mpr ⟨⟨by k_ne, _, by k_mem⟩, fun _ h => nomatch h⟩⟩) ?_ (by with_unfolding_all exact rfl) (by exact rfl); k_whole); intro _ _ _ _ _ _ _ _ _ Nzz _ _ l1zz _ _; (try dsimp only at Nzz); (try k_lt l1zz))) | (k_here; (with_reducible show wpAny _ _ (call (Value.type _) [Value.ref _]) _ _ _); k_dflt (refine kup_listOf (by k_asm) (by k_asm) (by k_mem) (by exact rfl) ?_ (by (simp only [sizeLine_eq]; omega))); intro _ _ _ _ _ l1zz; (try k_lt l1zz); (try k_sweep)) | (k_here; (with_reducible show wpAny _ _ (call (Value.type "dict") [Value.ref _]) _ _ _); k_dflt (refine dict_pairs2 (by k_asm) (by k_asm) (Top.nolimit (by k_asm)) (by rfl) (by assumption) (by assumption) (by assumption) (by omega) ?_); intro _ _ _ _ _ _ _ l1zz _ _ _; (try k_lt l1zz); (try k_sweep)) | (k_here; (with_reducible show wpAny _ _ (call (Value.ref 158) [Value.ref _, Value.int _ _]) _ _ _); k_dflt (refine literal_use X T (by assumption) (by k_asm) (by k_asm) (by k_updF) (by assumption) (by assumption) (by assumption) (by assumption) (by assumption) (by assumption) (by assumption) (by omega) (by omega) (by omega) (by omega) (by omega) ?_); intro _ _ _ _ _ _ _ _ _ _; (try k_sweep)) | (k_here; (with_reducible show wpAny _ _ (call (Value.ref 151) [Value.ref _, Value.int _ _]) _ _ _); k_dflt (refine draw_use X T (by assumption) (by k_asm) (by k_asm) (by k_updF) (by assumption) (by assumption) (by assumption) (by assumption) (by assumption) (by assumption) (by assumption) (by omega) (by omega) (by omega) (by omega) (by omega) ?_); intro _ _ _ _ _ _ _ _ _ _ _; (try k_sweep)) | (k_here; (with_reducible show wpAny _ _ (subscriptTail _ _ (Value.ref _) (Value.str _ _)) _ _ _); k_dflt (refine item_tabled (by k_asm) (by k_mem) (by assumption) (by assumption) (by assumption) ?_); intro _) | ((fail_if_success (with_reducible first | refine s_done ?_ | refine s_iter ?_ | refine s_tpost ?_ | refine s_while ?_ | refine s_call (by decide) ?_ | refine s_ifexp ?_ | refine s_cend ?_ | refine s_comp ?_ | refine s_srcT ?_ | refine s_src ?_)); (first | (k_unfold; (try dsimp only)) | (k_end; wrow_close) | walk1 | (dsimp only; walk1) | (leave1; walk_say "STEP leave1"; try dsimp only)))))
          all_goals (rename Fr _ _ _ _ => FF; rename News _ _ _ _ => NN; refine TEnd.tail FF NN rfl ⟨⟨_, _, rfl, ?_⟩, fun z hz => if_neg hz⟩; rw [take_snoc hx, oth_snoc])
          · rw [if_neg (by intro q; exact q.1 (any_mem (by assumption)))]; exact hzz
          · rw [if_neg (by intro q; exact q.2 (any_mem (by assumption)))]; exact hzz
          · rw [if_pos ⟨any_not (by assumption), any_not (by assumption)⟩]; exact intsAre_push hzz _ _
        · rintro u _ h₂ tk₂ ⟨zz, n, rfl, hzz⟩ F₁ N₁
          clear FF NN
          (try dsimp only at F₁); (try dsimp only)
          rw [List.take_of_length_le (by simp [hzs.length])] at hzz
          (repeat' (first | (first | ((with_reducible first | (rename Gets _ _ => gQ'; refine at_of gQ' ?_; clear gQ'; try (rename (_ → Shared → Prop) => qQ'; clear qQ')) | refine at_of (by assumption) ?_); (try dsimp only)) | (with_reducible (first | refine s_exec ?_ | refine s_comp ?_); (with_reducible ((fail_if_success (refine s_at ?_)); refine cutX ?_; intro _ _)))) | ((with_reducible show wpAny _ _ (exec (Stmt.For (Expr.Name _ _) (Expr.Name _ _) (_ :: _) [] _) _) _ _ _); (k_here; (rename Fr _ _ _ _ => lFzz); (with_unfolding_all refine For_invVF lFzz (by exact rfl) (by exact rfl) ?_; k_whole))) | (k_here; (with_reducible show wpAny _ _ (compareOp CmpOp.Eq (Value.ref _) (Value.ref _)) _ _ _); k_dflt (refine eq_intsS (isL (by k_asm) (by k_mem)) (isL (by k_asm) (by k_mem)) (by assumption) (by assumption) (by (simp only [Around.deeper_units, mkA, cLine]; omega)) ?_)) | ((with_reducible show wpAny _ _ (compareOp CmpOp.NotIn (Value.str _ _) (Value.ref _)) _ _ _); (k_here; k_dflt (refine notin_tabled (by k_asm) (by k_mem) (by assumption) (by assumption) (by assumption) ?_))) | (k_here; (with_reducible show wpAny _ _ (compareOp CmpOp.NotEq (Value.ref _) (Value.ref _)) _ _ _); k_dflt (refine ne_intsS (isL (by k_asm) (by k_mem)) (isL (by k_asm) (by k_mem)) (by assumption) (by assumption) (by (simp only [Around.deeper_units, mkA, cLine]; omega)) ?_)) | (k_here; (with_reducible show wpAny _ _ (compareOp CmpOp.NotEq (Value.ref _) (Value.ref _)) _ _ _); k_dflt (refine ne_strsS (isL (by k_asm) (by k_mem)) (isL (by k_asm) (by k_mem)) (by assumption) (by assumption) (by (simp only [Around.deeper_units, mkA, cLine]; omega)) (by assumption) ?_)) | (k_here; (with_reducible show wpAny _ _ (compareOp CmpOp.NotEq (Value.ref _) (Value.ref _)) _ _ _); k_dflt (refine ne_strs0 (isL (by k_asm) (by k_mem)) (isL (by k_asm) (by k_mem)) (by assumption) (by (simp only [Around.deeper_units, mkA, cLine]; omega)) (by assumption) ?_)) | ((with_reducible show wpAny _ _ (eval (Expr.Lambda _ _ _ _) _) _ _ _); (k_here; (rename Mine.Dum _ _ _ => hMzz); k_dflt (refine lam_keep (by k_asm) (by k_asm) (by k_asm) (by assumption) (by exact rfl) (by k_updF) (by assumption) (by with_unfolding_all exact rfl) hMzz (by k_mem) (by exact List.forall_mem_cons.mpr ⟨⟨by k_ne, _, by k_mem⟩, List.forall_mem_cons.mpr ⟨⟨by k_ne, _, by k_mem⟩, fun _ h => nomatch h⟩⟩) ?_ (by with_unfolding_all exact rfl) (by exact rfl); k_whole); intro _ _ _ _ _ _ _ _ _ Nzz _ _ l1zz _ _; (try dsimp only at Nzz); (try k_lt l1zz))) | (k_here; (with_reducible show wpAny _ _ (call (Value.type _) [Value.ref _]) _ _ _); k_dflt (refine kup_listOf (by k_asm) (by k_asm) (by k_mem) (by exact rfl) ?_ (by (simp only [sizeLine_eq]; omega))); intro _ _ _ _ _ l1zz; (try k_lt l1zz); (try k_sweep)) | (k_here; (with_reducible show wpAny _ _ (call (Value.type "dict") [Value.ref _]) _ _ _); k_dflt (refine dict_pairs2 (by k_asm) (by k_asm) (Top.nolimit (by k_asm)) (by rfl) (by assumption) (by assumption) (by assumption) (by omega) ?_); intro _ _ _ _ _ _ _ l1zz _ _ _; (try k_lt l1zz); (try k_sweep)) | (k_here; (with_reducible show wpAny _ _ (call (Value.ref 158) [Value.ref _, Value.int _ _]) _ _ _); k_dflt (refine literal_use X T (by assumption) (by k_asm) (by k_asm) (by k_updF) (by assumption) (by assumption) (by assumption) (by assumption) (by assumption) (by assumption) (by assumption) (by omega) (by omega) (by omega) (by omega) (by omega) ?_); intro _ _ _ _ _ _ _ _ _ _; (try k_sweep)) | (k_here; (with_reducible show wpAny _ _ (call (Value.ref 151) [Value.ref _, Value.int _ _]) _ _ _); k_dflt (refine draw_use X T (by assumption) (by k_asm) (by k_asm) (by k_updF) (by assumption) (by assumption) (by assumption) (by assumption) (by assumption) (by assumption) (by assumption) (by omega) (by omega) (by omega) (by omega) (by omega) ?_); intro _ _ _ _ _ _ _ _ _ _ _; (try k_sweep)) | (k_here; (with_reducible show wpAny _ _ (subscriptTail _ _ (Value.ref _) (Value.str _ _)) _ _ _); k_dflt (refine item_tabled (by k_asm) (by k_mem) (by assumption) (by assumption) (by assumption) ?_); intro _) | ((fail_if_success (with_reducible first | refine s_done ?_ | refine s_iter ?_ | refine s_tpost ?_ | refine s_while ?_ | refine s_call (by decide) ?_ | refine s_ifexp ?_ | refine s_cend ?_ | refine s_comp ?_ | refine s_srcT ?_ | refine s_src ?_)); (first | (k_unfold; (try dsimp only)) | (k_end; wrow_close) | walk1 | (dsimp only; walk1) | (leave1; walk_say "STEP leave1"; try dsimp only)))))
          rename Fr _ _ _ _ => FF
          rename News _ _ _ _ => NN
          refine others_spec X T ?B7 (by show dp + 1 ≤ 600; omega) OO (off_of_led (led_push (sub := kLed a d k) B5 NN (by lcg_sub) rfl)) (kat_of NN (by lcg_sub) R) (by omega) (isL NN (by k_mem)) hzs hDfk (by omega) ?_
          case B7 => exact pushX B5 FF rfl rfl
          intro h6 tk6 D6 ys6 n6 k6 hD6 hd6 hys6
          obtain ⟨F6, N6, o6⟩ := call_new FF NN k6 hD6 hd6
          simp only [LCg.Off1, and_true] at o6
          clear FF NN k6 hD6 hd6
          (repeat' (first | (first | ((with_reducible first | (rename Gets _ _ => gQ'; refine at_of gQ' ?_; clear gQ'; try (rename (_ → Shared → Prop) => qQ'; clear qQ')) | refine at_of (by assumption) ?_); (try dsimp only)) | (with_reducible (first | refine s_exec ?_ | refine s_comp ?_); (with_reducible ((fail_if_success (refine s_at ?_)); refine cutX ?_; intro _ _)))) | ((with_reducible show wpAny _ _ (exec (Stmt.For (Expr.Name _ _) (Expr.Name _ _) (_ :: _) [] _) _) _ _ _); (k_here; (rename Fr _ _ _ _ => lFzz); (with_unfolding_all refine For_invVF lFzz (by exact rfl) (by exact rfl) ?_; k_whole))) | (k_here; (with_reducible show wpAny _ _ (compareOp CmpOp.Eq (Value.ref _) (Value.ref _)) _ _ _); k_dflt (refine eq_intsS (isL (by k_asm) (by k_mem)) (isL (by k_asm) (by k_mem)) (by assumption) (by assumption) (by (simp only [Around.deeper_units, mkA, cLine]; omega)) ?_)) | ((with_reducible show wpAny _ _ (compareOp CmpOp.NotIn (Value.str _ _) (Value.ref _)) _ _ _); (k_here; k_dflt (refine notin_tabled (by k_asm) (by k_mem) (by assumption) (by assumption) (by assumption) ?_))) | (k_here; (with_reducible show wpAny _ _ (compareOp CmpOp.NotEq (Value.ref _) (Value.ref _)) _ _ _); k_dflt (refine ne_intsS (isL (by k_asm) (by k_mem)) (isL (by k_asm) (by k_mem)) (by assumption) (by assumption) (by (simp only [Around.deeper_units, mkA, cLine]; omega)) ?_)) | (k_here; (with_reducible show wpAny _ _ (compareOp CmpOp.NotEq (Value.ref _) (Value.ref _)) _ _ _); k_dflt (refine ne_strsS (isL (by k_asm) (by k_mem)) (isL (by k_asm) (by k_mem)) (by assumption) (by assumption) (by (simp only [Around.deeper_units, mkA, cLine]; omega)) (by assumption) ?_)) | (k_here; (with_reducible show wpAny _ _ (compareOp CmpOp.NotEq (Value.ref _) (Value.ref _)) _ _ _); k_dflt (refine ne_strs0 (isL (by k_asm) (by k_mem)) (isL (by k_asm) (by k_mem)) (by assumption) (by (simp only [Around.deeper_units, mkA, cLine]; omega)) (by assumption) ?_)) | ((with_reducible show wpAny _ _ (eval (Expr.Lambda _ _ _ _) _) _ _ _); (k_here; (rename Mine.Dum _ _ _ => hMzz); k_dflt (refine lam_keep (by k_asm) (by k_asm) (by k_asm) (by assumption) (by exact rfl) (by k_updF) (by assumption) (by with_unfolding_all exact rfl) hMzz (by k_mem) (by exact List.forall_mem_cons.mpr ⟨⟨by k_ne, _, by k_mem⟩, List.forall_mem_cons.mpr ⟨⟨by k_ne, _, by k_mem⟩, fun _ h => nomatch h⟩⟩) ?_ (by with_unfolding_all exact rfl) (by exact rfl); k_whole); intro _ _ _ _ _ _ _ _ _ Nzz _ _ l1zz _ _; (try dsimp only at Nzz); (try k_lt l1zz))) | (k_here; (with_reducible show wpAny _ _ (call (Value.type _) [Value.ref _]) _ _ _); k_dflt (refine kup_listOf (by k_asm) (by k_asm) (by k_mem) (by exact rfl) ?_ (by (simp only [sizeLine_eq]; omega))); intro _ _ _ _ _ l1zz; (try k_lt l1zz); (try k_sweep)) | (k_here; (with_reducible show wpAny _ _ (call (Value.type "dict") [Value.ref _]) _ _ _); k_dflt (refine dict_pairs2 (by k_asm) (by k_asm) (Top.nolimit (by k_asm)) (by rfl) (by assumption) (by assumption) (by assumption) (by omega) ?_); intro _ _ _ _ _ _ _ l1zz _ _ _; (try k_lt l1zz); (try k_sweep)) | (k_here; (with_reducible show wpAny _ _ (call (Value.ref 158) [Value.ref _, Value.int _ _]) _ _ _); k_dflt (refine literal_use X T (by assumption) (by k_asm) (by k_asm) (by k_updF) (by assumption) (by assumption) (by assumption) (by assumption) (by assumption) (by assumption) (by assumption) (by omega) (by omega) (by omega) (by omega) (by omega) ?_); intro _ _ _ _ _ _ _ _ _ _; (try k_sweep)) | (k_here; (with_reducible show wpAny _ _ (call (Value.ref 151) [Value.ref _, Value.int _ _]) _ _ _); k_dflt (refine draw_use X T (by assumption) (by k_asm) (by k_asm) (by k_updF) (by assumption) (by assumption) (by assumption) (by assumption) (by assumption) (by assumption) (by assumption) (by omega) (by omega) (by omega) (by omega) (by omega) ?_); intro _ _ _ _ _ _ _ _ _ _ _; (try k_sweep)) | (k_here; (with_reducible show wpAny _ _ (subscriptTail _ _ (Value.ref _) (Value.str _ _)) _ _ _); k_dflt (refine item_tabled (by k_asm) (by k_mem) (by assumption) (by assumption) (by assumption) ?_); intro _) | ((fail_if_success (with_reducible first | refine s_done ?_ | refine s_iter ?_ | refine s_tpost ?_ | refine s_while ?_ | refine s_call (by decide) ?_ | refine s_ifexp ?_ | refine s_cend ?_ | refine s_comp ?_ | refine s_srcT ?_ | refine s_src ?_)); (first | (k_unfold; (try dsimp only)) | (k_end; wrow_close) | walk1 | (dsimp only; walk1) | (leave1; walk_say "STEP leave1"; try dsimp only)))))
          have kp := F6.keep
          have s1 : FlownA (adrT a df lo) l g5 h6 := ⟨fun b o e _ _ => kp b o e, fun b o e _ _ => ⟨o.slots, kp b o e⟩⟩
          have at_ : ∀ {b : Addr} {ob : Obj}, (b, ob) ∈ (cc, occ) :: (172, tabObj ps5) :: (df, fo8) :: [(lo, listOf #[Value.ref lp, Value.ref lq] no)] → h6.get? b = some ob := fun {b ob} hm => (N6 (b, ob) (by
            simp only [List.mem_cons, List.not_mem_nil, or_false] at hm ⊢
            rcases hm with hm | hm | hm | hm <;> simp [hm])).1
          refine .mk (ret h6 fo8 ps5 (ki + 1 + (m9 : Int) + 1 + 2 * (m8 : Int)) _ tk8 (fl5.trans s1) (at_ (by simp)) hfd8 (by omega) (by omega) (at_ (by simp)) (ok5 h6 (fun b o vs e _ => kp b o e) (at_ (by simp))) (kat_of N6 (by lcg_sub) R)
            ⟨no, lp, lq, its, fvs, at_ (by simp), hlp5.at fun o e => kp _ o e, PA5.keep kp, hlq5.at fun o e => kp _ o e, hfv, sp, sq, st⟩)
end ToldTC
theorem ToldT.all (prog : Program) (w : World) (base : Heap) (l : List Env) (dp : Nat) (un : Nat) (gd : Option (List Code)) (s : Shared) (p : Program) (loose : List Str) (mean : ExcName → Option Value) (mg : Str → Option Value) (mb : Str → Option Value) (a : KA) (d : KD) (k : KS) (names : List Str) (sws : List Int) (floors : List Int) (df : Addr) (lc : Addr) (lo : Addr) (lp : Addr) (lq : Addr) (no : Nat) (its : List Value) (fvs : List Value) (fo : Obj) (tk : Tok) (ki : Int) (cv : List Value) (ns : List Int) (ps : Array Value) (R9 : Result → Shared → Prop) (g' : Heap) (L' : Addr) (h' : Heap) (tk' : Nat) (oc1 : Obj) (oc2 : Obj) (oc3 : Obj) (oc4 : Obj) (oc5 : Obj) : ToldT prog w base l dp un gd s p loose mean mg mb a d k names sws floors df lc lo lp lq no its fvs fo tk ki cv ns ps R9 g' L' h' tk' oc1 oc2 oc3 oc4 oc5 :=
  @hkAll ToldTC.V ToldTC.ne (fun v => ToldT v.1 v.2.1 v.2.2.1 v.2.2.2.1 v.2.2.2.2.1 v.2.2.2.2.2.1 v.2.2.2.2.2.2.1 v.2.2.2.2.2.2.2.1 v.2.2.2.2.2.2.2.2.1 v.2.2.2.2.2.2.2.2.2.1 v.2.2.2.2.2.2.2.2.2.2.1 v.2.2.2.2.2.2.2.2.2.2.2.1 v.2.2.2.2.2.2.2.2.2.2.2.2.1 v.2.2.2.2.2.2.2.2.2.2.2.2.2.1 v.2.2.2.2.2.2.2.2.2.2.2.2.2.2.1 v.2.2.2.2.2.2.2.2.2.2.2.2.2.2.2.1 v.2.2.2.2.2.2.2.2.2.2.2.2.2.2.2.2.1 v.2.2.2.2.2.2.2.2.2.2.2.2.2.2.2.2.2.1 v.2.2.2.2.2.2.2.2.2.2.2.2.2.2.2.2.2.2.1 v.2.2.2.2.2.2.2.2.2.2.2.2.2.2.2.2.2.2.2.1 v.2.2.2.2.2.2.2.2.2.2.2.2.2.2.2.2.2.2.2.2.1 v.2.2.2.2.2.2.2.2.2.2.2.2.2.2.2.2.2.2.2.2.2.1 v.2.2.2.2.2.2.2.2.2.2.2.2.2.2.2.2.2.2.2.2.2.2.1 v.2.2.2.2.2.2.2.2.2.2.2.2.2.2.2.2.2.2.2.2.2.2.2.1 v.2.2.2.2.2.2.2.2.2.2.2.2.2.2.2.2.2.2.2.2.2.2.2.2.1 v.2.2.2.2.2.2.2.2.2.2.2.2.2.2.2.2.2.2.2.2.2.2.2.2.2.1 v.2.2.2.2.2.2.2.2.2.2.2.2.2.2.2.2.2.2.2.2.2.2.2.2.2.2.1 v.2.2.2.2.2.2.2.2.2.2.2.2.2.2.2.2.2.2.2.2.2.2.2.2.2.2.2.1 v.2.2.2.2.2.2.2.2.2.2.2.2.2.2.2.2.2.2.2.2.2.2.2.2.2.2.2.2.1 v.2.2.2.2.2.2.2.2.2.2.2.2.2.2.2.2.2.2.2.2.2.2.2.2.2.2.2.2.2.1 v.2.2.2.2.2.2.2.2.2.2.2.2.2.2.2.2.2.2.2.2.2.2.2.2.2.2.2.2.2.2.1 v.2.2.2.2.2.2.2.2.2.2.2.2.2.2.2.2.2.2.2.2.2.2.2.2.2.2.2.2.2.2.2.1 v.2.2.2.2.2.2.2.2.2.2.2.2.2.2.2.2.2.2.2.2.2.2.2.2.2.2.2.2.2.2.2.2.1 v.2.2.2.2.2.2.2.2.2.2.2.2.2.2.2.2.2.2.2.2.2.2.2.2.2.2.2.2.2.2.2.2.2.1 v.2.2.2.2.2.2.2.2.2.2.2.2.2.2.2.2.2.2.2.2.2.2.2.2.2.2.2.2.2.2.2.2.2.2.1 v.2.2.2.2.2.2.2.2.2.2.2.2.2.2.2.2.2.2.2.2.2.2.2.2.2.2.2.2.2.2.2.2.2.2.2.1 v.2.2.2.2.2.2.2.2.2.2.2.2.2.2.2.2.2.2.2.2.2.2.2.2.2.2.2.2.2.2.2.2.2.2.2.2.1 v.2.2.2.2.2.2.2.2.2.2.2.2.2.2.2.2.2.2.2.2.2.2.2.2.2.2.2.2.2.2.2.2.2.2.2.2.2.1 v.2.2.2.2.2.2.2.2.2.2.2.2.2.2.2.2.2.2.2.2.2.2.2.2.2.2.2.2.2.2.2.2.2.2.2.2.2.2.1 v.2.2.2.2.2.2.2.2.2.2.2.2.2.2.2.2.2.2.2.2.2.2.2.2.2.2.2.2.2.2.2.2.2.2.2.2.2.2.2.1 v.2.2.2.2.2.2.2.2.2.2.2.2.2.2.2.2.2.2.2.2.2.2.2.2.2.2.2.2.2.2.2.2.2.2.2.2.2.2.2.2.1 v.2.2.2.2.2.2.2.2.2.2.2.2.2.2.2.2.2.2.2.2.2.2.2.2.2.2.2.2.2.2.2.2.2.2.2.2.2.2.2.2.2.1 v.2.2.2.2.2.2.2.2.2.2.2.2.2.2.2.2.2.2.2.2.2.2.2.2.2.2.2.2.2.2.2.2.2.2.2.2.2.2.2.2.2.2) (by with_unfolding_all exact ToldTC.holds) (prog, w, base, l, dp, un, gd, s, p, loose, mean, mg, mb, a, d, k, names, sws, floors, df, lc, lo, lp, lq, no, its, fvs, fo, tk, ki, cv, ns, ps, R9, g', L', h', tk', oc1, oc2, oc3, oc4, oc5)
set_option maxHeartbeats 4000000 in
theorem told_spec {prog : Program} {w : World} {base : Heap} {l : List Env} {dp un : Nat} {gd : Option (List Code)} {s : Shared} {p : Program} {loose : List Str} {mean : ExcName → Option Value} {mg mb : Str → Option Value}
    {a : KA} {d : KD} {names : List Str} {sws floors : List Int} {df lc lo : Addr} {fo : Obj} {tk : Tok} {ki : Int} {cv : List Value} {ns : List Int} {ps : Array Value} {Q E : Value → Shared → Prop}
    (hprog : (prog.main.file : Str) = "/claim/cut.py") (hsup : (prog.main.scope.names.lookup ("super" : Str)).isSome = false)
    (X : (hd.heap_39 w.params).In base) (T : Top p loose mean mg mb base) (B : Below (mkA dp un gd l) base l s.heap) (C : CodeHd base 174 172)
    (hdp : dp ≤ 400) (hun : un ≤ 800) (O : a.Ord) (h172 : @LT.lt Nat _ 172 df) (h1 : @LT.lt Nat _ df a.dk) (h2 : @LT.lt Nat _ a.ps lo)
    (o : Off base l (adrT a df lo)) (K : KAt prog w a d names sws floors s.heap) (OW : OwnAt s.heap (172 :: adrL a df lo) lo names sws floors) (ht172 : s.heap.get? 172 = some (tabObj ps)) (ok : TabOk "_law_are_told.<locals>.<lambda>" s.heap ps)
    (hfo : s.heap.get? df = some fo) (hf : feedIs prog w lc ki tk fo) (hl : s.heap.IsList lc cv.toArray) (hlc : lc ∉ adrT a df lo) (hi : IntsAre cv ns) (hlen : ns.length ≤ 63) (hne : 0 < ns.length) (hk0 : 0 ≤ ki) (hk : ki ≤ 900)
    (I : Inv names sws floors) (hn50 : names.length ≤ 50) (hf50 : floors.length ≤ 50)
    (ret : ∀ h' fo' ps' k' tk' tk2, FlownA (adrT a df lo) l s.heap h' → h'.get? df = some fo' → feedIs prog w lc k' tk2 fo' → ki ≤ k' → k' ≤ ki + 20 → h'.get? 172 = some (tabObj ps') → TabOk "_law_are_told.<locals>.<lambda>" h' ps' →
      KAt prog w a d names sws floors h' → OwnAt h' (172 :: adrL a df lo) lo names sws floors → Q (.bool true) { s with heap := h', toks := tk' }) :
    wpAny (model prog w) (mkA dp un gd l) (call (.ref 175) [.ref df, .ref a.ik, .ref lo]) Q E s := by
  have OO := O
  obtain ⟨o1, o2, o3, o4, o5, o6, n1, n2⟩ := O
  obtain ⟨no, lp, lq, its, fvs, hlo, hlpP, PA, hlq, hfv, sp, sq, st⟩ := OW
  have hlp := hlpP.list
  have nfK := nf_kat K
  obtain ⟨k, hK, R⟩ := K
  have adr0 : ∀ b, b ∈ ([(172, tabObj ps), (df, fo)] ++ kLed a d k ++ [(lo, listOf #[.ref lp, .ref lq] no)]).map (·.1) ↔ b ∈ adrT a df lo := fun b => perm3 (x := 172) (y := df) (z := lo) (ks := kAdr a)
  have subT : ∀ b, b ∈ adrT a df lo → b ∈ 172 :: adrL a df lo := fun b hb => (List.mem_cons.mp hb).elim (fun z => z ▸ List.mem_cons_self) fun hb => List.mem_cons_of_mem _ (List.mem_cons_of_mem _ hb)
  have N : Led base l s.heap ([(172, tabObj ps), (df, fo)] ++ kLed a d k ++ [(lo, listOf #[.ref lp, .ref lq] no)]) := led_of (fun b hb => o b ((adr0 b).mp hb)) fun q hq => by
    rcases List.mem_append.mp hq with hq | hq
    · rcases List.mem_append.mp hq with hq | hq
      · rcases List.mem_cons.mp hq with rfl | hq
        · exact ht172
        · rw [List.mem_singleton.mp hq]; exact hfo
      · exact hK q hq
    · rw [List.mem_singleton.mp hq]; exact hlo
  have odf : Off base l [df] := fun b hb => by rw [List.mem_singleton.mp hb]; exact o df (by simp)
  refine wpAny_call ?_
  k_dflt (refine' enterC (news := [(172, tabObj ps), (df, fo)] ++ kLed a d k ++ [(lo, listOf #[.ref lp, .ref lq] no)]) (binds := [("feed", .ref df), ("kept", .ref a.ik), ("own", .ref lo)]) ?k1 ?k2 ?k3 ?k4 ?k6 ?k7 ?k8 ?k9 ?kB ?kD ?_ ?c2 ?c3 ?c4; ((case k1 => assumption); (case k2 => assumption); (case k3 => assumption); (case k4 => assumption); (case k6 => k_is); (case k7 => k_is); (case k8 => k_room); (case k9 => exact BindsTo.of_eq rfl); (case kB => exact rfl); (case kD => decide +kernel); (case c2 => exact rfl); (case c3 => exact rfl); (case c4 => exact rfl)))
  intro g' L' h' tk' cells' F' N' Y' B' X' T' kG' gS' l1 nL
  have hlc' : lc ≠ df := fun e => hlc (by rw [e]; simp)
  have hl' : g'.IsList lc cv.toArray := kG'.list hl (fun q => hlc ((adr0 _).mp q))
  have hlp' : g'.IsList lp its.toArray := kG'.list hlp (fun q => sp (subT _ ((adr0 _).mp q)))
  have hlpP' : PlainL g' lp its.toArray := hlpP.kept kG' (fun q => sp (subT _ ((adr0 _).mp q)))
  have hlq' : g'.IsList lq fvs.toArray := kG'.list hlq (fun q => sq (subT _ ((adr0 _).mp q)))
  have PA' : PrsAt g' its names sws := ⟨PA.len, PA.len2, fun i v e => by
    obtain ⟨t, n, sw, tn, ts, rfl, ht, q1, q2⟩ := PA.at_ i v e
    exact ⟨t, n, sw, tn, ts, rfl, kG'.tup ht (fun q => st t (List.mem_of_getElem? e) (subT _ ((adr0 _).mp q))), q1, q2⟩⟩
  have C' : CodeHd g' 174 172 := C.keeps B'.stays
  have ok' : TabOk "_law_are_told.<locals>.<lambda>" g' ps := ok.move fun b ob vs t9 e hd9 he9 => kG' b ob e fun q => by
    have q' := (adr0 b).mp q
    rcases List.mem_cons.mp q' with z | q'
    · rw [z, ht172] at e; cases e; cases hd9; exact triples_no_str ok.tri _ _ (by simpa using he9)
    · rcases List.mem_cons.mp q' with z | q'
      · rw [z, hfo] at e; cases e; exact nf_dict hf vs hd9
      · rcases List.mem_cons.mp q' with z | q'
        · rw [z, hlo] at e; cases e; cases hd9
        · exact nfK b q' ob e vs hd9
  (try simp only [List.cons_append, List.nil_append] at l1 N'); (try k_lt l1)
  have hY := PyProof.Rows.kc_five Y'
  obtain ⟨oc1, oc2, oc3, oc4, oc5, hE', dc1, dc2, dc3, dc4, dc5⟩ := hY
  subst hE'
  clear Y'
  (try simp only [List.cons_append, List.nil_append] at N')
  (try dsimp only); (try k_fold)
  exact ToldT.all _ _ _ _ _ _ _ _ _ _ _ _ _ _ _ _ _ _ _ _ _ _ _ _ _ _ _ _ _ _ _ _ _ _ _ _ _ _ _ _ _ _ _ hprog hsup X T C hdp hun h172 h1 h2 o hf hl hlc hi hlen hne hk0 hk I hn50 hf50 ret OO odf hlpP PA hlq hfv sp sq st R adr0 subT F' N' B' X' T' kG' nL hlc' hl' hlp' hlpP' hlq' PA' C' ok' l1 dc1 dc2 dc3 dc4 dc5
end
section
/-- what stands between two laps -/
inductive Lap (prog : Program) (w : World) (a : KA) (d : KD) (df lc lo : Addr) (cv : List Value) (kx : Int) (nx : Nat) (h : Heap) : Prop
  | mk (fo : Obj) (tk : Tok) (ki : Int) (ps ps' : Array Value) (names : List Str) (sws floors : List Int) (e1 : h.get? df = some fo) (e2 : feedIs prog w lc ki tk fo) (e3 : 0 ≤ ki) (e4 : ki ≤ kx) (e5 : h.IsList lc cv.toArray) (e6 : h.get? 172 = some (tabObj ps)) (e7 : TabOk "_law_are_told.<locals>.<lambda>" h ps)
    (e8 : h.get? 167 = some (tabObj ps')) (e9 : TabOk "_law_is_led.<locals>.<lambda>" h ps') (e10 : KAt prog w a d names sws floors h) (e11 : OwnAt h (172 :: adrL a df lo) lo names sws floors) (e12 : Inv names sws floors) (e13 : names.length ≤ nx) (e14 : floors.length ≤ nx)
theorem OwnAt.own {h : Heap} {adr : List Addr} {lo : Addr} {names : List Str} {sws floors : List Int} (O : OwnAt h adr lo names sws floors) : ∃ no lp lq, h.get? lo = some (listOf #[.ref lp, .ref lq] no) := by
  obtain ⟨no, lp, lq, _, _, e1, _, _, _, _, _, _, _⟩ := O
  exact ⟨no, lp, lq, e1⟩
section
variable {prog : Program} {w : World} {a : KA} {d : KD} {df lc lo : Addr} {cv : List Value} {kx : Int} {nx : Nat} {h h' : Heap}
/-- no address of the working part holds a code -/
theorem no_code {fo : Obj} {tk : Tok} {ki : Int} {ps ps' : Array Value} {names : List Str} {sws floors : List Int} {no : Nat} {lp lq : Addr} (e1 : h.get? df = some fo) (e2 : feedIs prog w lc ki tk fo) (e3 : h.get? 172 = some (tabObj ps)) (t1 : TriplesOk ps.toList) (e4 : h.get? 167 = some (tabObj ps')) (t2 : TriplesOk ps'.toList)
    (K : KAt prog w a d names sws floors h) (e5 : h.get? lo = some (listOf #[.ref lp, .ref lq] no)) {b : Addr} {o : Obj} {vs : Array Value} {x : Str} {t : Tok} (hb : b ∈ 172 :: adrL a df lo) (e : h.get? b = some o) (hd : o.data = .fields vs) (hv : vs[1]? = some (.str x t)) : False := by
  rcases List.mem_cons.mp hb with z | hb
  · rw [z, e3] at e; cases e; cases hd; exact triples_no_str t1 _ _ (by simpa using hv)
  · rcases List.mem_cons.mp hb with z | hb
    · rw [z, e4] at e; cases e; cases hd; exact triples_no_str t2 _ _ (by simpa using hv)
    · rcases List.mem_cons.mp hb with z | hb
      · rw [z, e1] at e; cases e; exact nf_dict e2 vs hd
      · rcases List.mem_cons.mp hb with z | hb
        · rw [z, e5] at e; cases e; cases hd
        · exact nf_kat K b hb o e vs hd
theorem Lap.le {kx' : Int} {nx' : Nat} (S : Lap prog w a d df lc lo cv kx nx h) (h1 : kx ≤ kx') (h2 : nx ≤ nx') : Lap prog w a d df lc lo cv kx' nx' h := by
  obtain ⟨fo, tk, ki, ps, ps', names, sws, floors, e1, e2, e3, e4, e5, e6, e7, e8, e9, K, O, I, l1, l2⟩ := S
  exact ⟨fo, tk, ki, ps, ps', names, sws, floors, e1, e2, e3, by omega, e5, e6, e7, e8, e9, K, O, I, by omega, by omega⟩
/-- the state stands when a name table and a range's place change -/
theorem Lap.stays {L I : Addr} {m : Str → Option Value} {oI : Obj} {x y z : Int} (S : Lap prog w a d df lc lo cv kx nx h) (nL : h.Ns L m) (eI : h.get? I = some oI) (cI : oI = { cls := .type "range_iterator", dict := none, data := .fields #[rawInt x, rawInt y, rawInt z], slots := #[] })
    (hoff : ∀ b ∈ 172 :: adrL a df lo, b ≠ L ∧ b ≠ I) (k : ∀ b o, h.get? b = some o → b ≠ L → b ≠ I → h'.get? b = some o) : Lap prog w a d df lc lo cv kx nx h' := by
  obtain ⟨fo, tk, ki, ps, ps', names, sws, floors, e1, e2, e3, e4, e5, e6, e7, e8, e9, K, O, I9, l1, l2⟩ := S
  obtain ⟨oL, es, ep, hL, dL, _⟩ := nL
  have kk : ∀ b ∈ 172 :: adrL a df lo, ∀ o, h.get? b = some o → h'.get? b = some o := fun b hb o e => k b o e (hoff b hb).1 (hoff b hb).2
  have sq : ∀ b o its n, h.get? b = some o → o.data = .seq its n → h'.get? b = some o := fun b o its n e hd => k b o e (fun q => by rw [q, hL] at e; cases e; rw [dL] at hd; cases hd) (fun q => by rw [q, eI] at e; cases e; rw [cI] at hd; cases hd)
  have cd : ∀ b o vs x' t, h.get? b = some o → o.data = .fields vs → vs[1]? = some (.str x' t) → h'.get? b = some o := fun b o vs x' t e hd hv => k b o e (fun q => by rw [q, hL] at e; cases e; rw [dL] at hd; cases hd) (fun q => by
    rw [q, eI] at e; cases e; rw [cI] at hd; cases hd; simp [rawInt] at hv)
  refine ⟨fo, tk, ki, ps, ps', names, sws, floors, kk _ (by simp) _ e1, e2, e3, e4, ?_, kk _ (by simp) _ e6, e7.move fun b o vs t e hd hv => cd b o vs _ t e hd hv, kk _ (by simp) _ e8, e9.move fun b o vs t e hd hv => cd b o vs _ t e hd hv, ?_, ?_, I9, l1, l2⟩
  · obtain ⟨o, ho, hc, n, hd⟩ := e5
    exact ⟨o, sq _ _ _ _ ho hd, hc, n, hd⟩
  · obtain ⟨k9, hk9, R⟩ := K
    refine ⟨k9, fun p hp => kk _ ?_ _ (hk9 p hp), R⟩
    have : p.1 ∈ kAdr a := List.mem_map_of_mem (f := (·.1)) (show p ∈ kLed a d k9 from hp)
    exact List.mem_cons_of_mem _ (List.mem_cons_of_mem _ (List.mem_cons_of_mem _ (List.mem_cons_of_mem _ this)))
  · obtain ⟨no, lp, lq, its, fvs, hlo, hlp, PA, hlq, hfv, sp, sq9, st⟩ := O
    refine ⟨no, lp, lq, its, fvs, kk _ (by simp) _ hlo, ?_, ⟨PA.len, PA.len2, fun i v e => ?_⟩, ?_, hfv, sp, sq9, st⟩
    · obtain ⟨o, ho, hc, hn, n, hd⟩ := hlp
      exact ⟨o, sq _ _ _ _ ho hd, hc, hn, n, hd⟩
    · obtain ⟨t, n, sw, tn, ts, rfl, ht, q1, q2⟩ := PA.at_ i v e
      obtain ⟨o, ho, hc, n9, hd⟩ := ht
      exact ⟨t, n, sw, tn, ts, rfl, ⟨o, sq _ _ _ _ ho hd, hc, n9, hd⟩, q1, q2⟩
    · obtain ⟨o, ho, hc, n, hd⟩ := hlq
      exact ⟨o, sq _ _ _ _ ho hd, hc, n, hd⟩
end
section
variable {prog : Program} {w : World} {A : Around} {E : Value → Shared → Prop} {s : Shared} {env : Env} {h₀ : Heap} {L : Addr} {x : Str} {body : List Stmt} {Q : Flow → Shared → Prop}
/-- where a lap ends -/
noncomputable abbrev LapEnd (h₀ : Heap) (L : Addr) (x : Str) (m₀ : Str → Option Value) (I : Addr) (oI : Obj) (S : Heap → Prop) (s : Shared) (f : Flow) (s' : Shared) : Prop :=
  Done (fun _ s₂ => f = .next ∧ ∃ h' tk' m', s₂ = { s with heap := h', toks := tk' } ∧ Fr h₀ L h' m' ∧ (∀ z, z ≠ x → m' z = m₀ z) ∧ S h' ∧ h'.get? I = some oI) .none s'
end
noncomputable def lapRule0T (prog : Program) (w : World) (A : Around) (E : Value → Shared → Prop) (s : Shared) (env : Env) (h₀ : Heap) (x : Str) (body : List Stmt) (Q : Flow → Shared → Prop) (S : Nat → Heap → Prop) (r : Addr) (t : Tok) (u : Tok) (t9 : Tok) (n : Nat) (m₀ : Str → Option Value) : Prop :=
  ∀ (hh : A.handled = none),
  ∀ (hr : IsRange s.heap r 0 (n : Int) 1 t u t9),
  ∀ (hsm : Builtin.Range.small 0 (n : Int) 1 = true),
  ∀ (hn : Builtin.Range.rangeSize 0 (n : Int) 1 = ((n : Nat) : Int)),
  ∀ (F : Fr h₀ env.locals s.heap m₀),
  ∀ (hS : S 0 s.heap),
  ∀ (up : ∀ h h' : Heap, S 0 h → (∀ b o, h.get? b = some o → h'.get? b = some o) → S 0 h'),
  ∀ (stab : ∀ (i : Nat) (h h' : Heap) (m : Str → Option Value) (oI : Obj) (x y z : Int), S i h → h.Ns env.locals m → h.get? s.heap.objs.size = some oI → oI = { cls := .type "range_iterator", dict := none, data := .fields #[rawInt x, rawInt y, rawInt z], slots := #[] } → (∀ b o, h.get? b = some o → b ≠ env.locals → b ≠ s.heap.objs.size → h'.get? b = some o) → S i h'),
  ∀ (turn : ∀ (i : Nat) (t : Tok) (h : Heap) (tk : Nat) (oI : Obj), i < n → S i h → h.get? s.heap.objs.size = some oI → Fr h₀ env.locals h (fun z => if z = x then some (.int (0 + (i : Int)) t) else m₀ z) → wpAny (model prog w) A (execs body env) (LapEnd h₀ env.locals x m₀ s.heap.objs.size oI (S (i + 1)) { s with heap := h, toks := tk }) E { s with heap := h, toks := tk }),
  ∀ (done : ∀ (m₁ : Str → Option Value) (h : Heap) (tk : Nat), (∀ z, z ≠ x → m₁ z = m₀ z) → Fr h₀ env.locals h m₁ → S n h → Q .next { s with heap := h, toks := tk }),
  wpAny (model prog w) A (pyIter (.ref r)) (fun it s₂ => LoopAtV prog w A h₀ env x body Q E it s₂) E s
namespace lapRule0TC
noncomputable abbrev V := Program × World × Around × (Value → Shared → Prop) × Shared × Env × Heap × Str × (List Stmt) × (Flow → Shared → Prop) × (Nat → Heap → Prop) × Addr × Tok × Tok × Tok × Nat × (Str → Option Value)
theorem ne : Nonempty V := by
  have := neW
  have := neS
  have := neA
  have := neD
  have := neK
  have := neR
  repeat (refine @instNonemptyProd _ _ ?_ ?_; · first | assumption | infer_instance)
  first | assumption | infer_instance
noncomputable def v : V := @Classical.epsilon V ne fun v => ¬ lapRule0T v.1 v.2.1 v.2.2.1 v.2.2.2.1 v.2.2.2.2.1 v.2.2.2.2.2.1 v.2.2.2.2.2.2.1 v.2.2.2.2.2.2.2.1 v.2.2.2.2.2.2.2.2.1 v.2.2.2.2.2.2.2.2.2.1 v.2.2.2.2.2.2.2.2.2.2.1 v.2.2.2.2.2.2.2.2.2.2.2.1 v.2.2.2.2.2.2.2.2.2.2.2.2.1 v.2.2.2.2.2.2.2.2.2.2.2.2.2.1 v.2.2.2.2.2.2.2.2.2.2.2.2.2.2.1 v.2.2.2.2.2.2.2.2.2.2.2.2.2.2.2.1 v.2.2.2.2.2.2.2.2.2.2.2.2.2.2.2.2
@[irreducible] noncomputable def prog : Program := v.1
@[irreducible] noncomputable def w : World := v.2.1
@[irreducible] noncomputable def A : Around := v.2.2.1
@[irreducible] noncomputable def E : Value → Shared → Prop := v.2.2.2.1
@[irreducible] noncomputable def s : Shared := v.2.2.2.2.1
@[irreducible] noncomputable def env : Env := v.2.2.2.2.2.1
@[irreducible] noncomputable def h₀ : Heap := v.2.2.2.2.2.2.1
@[irreducible] noncomputable def x : Str := v.2.2.2.2.2.2.2.1
@[irreducible] noncomputable def body : List Stmt := v.2.2.2.2.2.2.2.2.1
@[irreducible] noncomputable def Q : Flow → Shared → Prop := v.2.2.2.2.2.2.2.2.2.1
@[irreducible] noncomputable def S : Nat → Heap → Prop := v.2.2.2.2.2.2.2.2.2.2.1
@[irreducible] noncomputable def r : Addr := v.2.2.2.2.2.2.2.2.2.2.2.1
@[irreducible] noncomputable def t : Tok := v.2.2.2.2.2.2.2.2.2.2.2.2.1
@[irreducible] noncomputable def u : Tok := v.2.2.2.2.2.2.2.2.2.2.2.2.2.1
@[irreducible] noncomputable def t9 : Tok := v.2.2.2.2.2.2.2.2.2.2.2.2.2.2.1
@[irreducible] noncomputable def n : Nat := v.2.2.2.2.2.2.2.2.2.2.2.2.2.2.2.1
@[irreducible] noncomputable def m₀ : Str → Option Value := v.2.2.2.2.2.2.2.2.2.2.2.2.2.2.2.2
theorem holds : lapRule0T prog w A E s env h₀ x body Q S r t u t9 n m₀ := by
  intro hh hr hsm hn F hS up stab turn done
  refine wpAny_pyIter_range hr hsm ?_
  have up1 : ∀ b o, s.heap.get? b = some o → (s.heap.push { cls := .type "range_iterator", dict := none, data := .fields #[rawInt 0, rawInt (Builtin.Range.rangeSize 0 (n : Int) 1), rawInt 1], slots := #[] }).get? b = some o := fun b o e => Heap.get?_push_of_some _ e
  have hI₀ := next_is_new F
  have hIL : env.locals ≠ s.heap.objs.size := Nat.ne_of_lt F.ns.lt
  let J : Nat → (Str → Option Value) → List (Addr × Obj) → Prop := fun i m₁ nw => (∀ z, z ≠ x → m₁ z = m₀ z) ∧ ∃ hh mm oI xx yy zz, S i hh ∧ hh.Ns env.locals mm ∧ hh.get? s.heap.objs.size = some oI ∧ oI = { cls := .type "range_iterator", dict := none, data := .fields #[rawInt xx, rawInt yy, rawInt zz], slots := #[] } ∧
    ∀ b o, hh.get? b = some o → b ≠ env.locals → b ≠ s.heap.objs.size → h₀.get? b = some o ∨ (b, o) ∈ nw
  have full : ∀ (h' : Heap) m', Fr h₀ env.locals h' m' → ∃ nw, News h₀ env.locals h' nw ∧ (∀ p ∈ nw, p.1 ≠ s.heap.objs.size) ∧ ∀ b o, h'.get? b = some o → b ≠ env.locals → b ≠ s.heap.objs.size → h₀.get? b = some o ∨ (b, o) ∈ nw := by
    intro h' m' F'
    refine ⟨(List.range h'.objs.size).filterMap fun b => match h'.get? b with | some o => if h₀.get? b = none ∧ b ≠ env.locals ∧ b ≠ s.heap.objs.size then some (b, o) else none | none => none, fun p hp => ?_, fun p hp => ?_, fun b o e n1 n2 => ?_⟩
    · obtain ⟨b, _, hb⟩ := List.mem_filterMap.mp hp
      cases e : h'.get? b with
      | none => rw [e] at hb; cases hb
      | some o =>
        rw [e] at hb
        dsimp only at hb
        split at hb
        · next c => cases hb; exact ⟨e, c.2.1, c.1⟩
        · cases hb
    · obtain ⟨b, _, hb⟩ := List.mem_filterMap.mp hp
      cases e : h'.get? b with
      | none => rw [e] at hb; cases hb
      | some o =>
        rw [e] at hb
        dsimp only at hb
        split at hb
        · next c => cases hb; exact c.2.2
        · cases hb
    · cases e0 : h₀.get? b with
      | some o' => have := F'.keep b o' e0; rw [e] at this; cases this; exact .inl rfl
      | none =>
        refine .inr (List.mem_filterMap.mpr ⟨b, List.mem_range.mpr (Heap.lt_size e), ?_⟩)
        rw [e]; dsimp only; rw [if_pos ⟨e0, n1, n2⟩]
  have F1 := F.keeps up1
  obtain ⟨nw0, Nw, nwI, nwAll⟩ := full _ _ F1
  have st0 := Heap.get?_push_size s.heap (o := { cls := .type "range_iterator", dict := none, data := .fields #[rawInt 0, rawInt (Builtin.Range.rangeSize 0 (n : Int) 1), rawInt 1], slots := #[] }) rfl
  refine ⟨s.heap.objs.size, [s.heap.objs.size], [s.heap.objs.size], n, fun i v => ∃ t, v = .int (0 + (i : Int)) t, _, m₀, nw0, J, rfl, LCg.range_walks hh 0 n, ?_, ?_, ?_, ?_, F1, Nw, ?_, ?_, ?_⟩
  · intro hm; exact hIL (List.mem_singleton.mp hm)
  · intro b hb; rw [List.mem_singleton.mp hb]; exact hI₀
  · intro p hp hq; exact nwI p hp (List.mem_singleton.mp hq)
  · show IsRangeIter _ _ _ _ _; rw [hn] at st0 ⊢; simpa using st0
  · exact ⟨fun _ _ => rfl, _, _, _, _, _, _, up _ _ hS up1, F1.ns, st0, rfl, nwAll⟩
  · rintro i v m₁ news₁ s₁ own ⟨h9, tk9, rfl⟩ hin ⟨t9, rfl⟩ ⟨hm₁, hh9, mm, oI, xx, yy, zz, S9, n9, e9, c9, all9⟩ hoff hown hget hall hst F₁ N₁
    have S10 : S i h9 := stab i hh9 h9 mm oI xx yy zz S9 n9 e9 c9 fun b o e n1 n2 => by
      rcases all9 b o e n1 n2 with q | q
      · exact F₁.keep b o q
      · exact (N₁ (b, o) (List.mem_append_right _ q)).1
    have hst' : h9.get? s.heap.objs.size = some _ := hst
    rw [upd_eq hm₁] at F₁
    refine wpAny_mono (turn i t9 h9 tk9 _ hin S10 hst' F₁) (fun f s₂ p => ?_) fun _ _ e => e
    cases p with
    | mk p =>
      obtain ⟨rfl, h', tk', m', rfl, F', hm', S', eI'⟩ := p
      obtain ⟨nw, N', nI, nAll⟩ := full h' m' F'
      refine LoopStepV.next ⟨rfl, h', tk', m', nw, rfl, F', fun p hp => ?_, fun p hp hq => nI p hp (List.mem_singleton.mp hq), hm', h', m', _, _, _, _, S', F'.ns, eI', rfl, nAll⟩
      rcases List.mem_append.mp hp with hp | hp
      · have h1 := hget p hp
        have h2 := List.mem_singleton.mp (hown p hp)
        have h3 : h9.get? s.heap.objs.size = some p.2 := by rw [← h2]; exact h1
        rw [hst'] at h3
        refine ⟨?_, fun q => hIL (q.symm.trans h2), by rw [h2]; exact hI₀⟩
        rw [h2, eI']
        exact h3
      · exact N' p hp
  · rintro h' tk m' news' F' N' _ ⟨hm, hh9, mm, oI, xx, yy, zz, S9, n9, e9, c9, all9⟩
    exact done m' h' tk hm F' (stab n hh9 h' mm oI xx yy zz S9 n9 e9 c9 fun b o e n1 n2 => by
      rcases all9 b o e n1 n2 with q | q
      · exact F'.keep b o q
      · exact (N' (b, o) q).1)
end lapRule0TC
theorem lapRule0T.all (prog : Program) (w : World) (A : Around) (E : Value → Shared → Prop) (s : Shared) (env : Env) (h₀ : Heap) (x : Str) (body : List Stmt) (Q : Flow → Shared → Prop) (S : Nat → Heap → Prop) (r : Addr) (t : Tok) (u : Tok) (t9 : Tok) (n : Nat) (m₀ : Str → Option Value) : lapRule0T prog w A E s env h₀ x body Q S r t u t9 n m₀ :=
  @hkAll lapRule0TC.V lapRule0TC.ne (fun v => lapRule0T v.1 v.2.1 v.2.2.1 v.2.2.2.1 v.2.2.2.2.1 v.2.2.2.2.2.1 v.2.2.2.2.2.2.1 v.2.2.2.2.2.2.2.1 v.2.2.2.2.2.2.2.2.1 v.2.2.2.2.2.2.2.2.2.1 v.2.2.2.2.2.2.2.2.2.2.1 v.2.2.2.2.2.2.2.2.2.2.2.1 v.2.2.2.2.2.2.2.2.2.2.2.2.1 v.2.2.2.2.2.2.2.2.2.2.2.2.2.1 v.2.2.2.2.2.2.2.2.2.2.2.2.2.2.1 v.2.2.2.2.2.2.2.2.2.2.2.2.2.2.2.1 v.2.2.2.2.2.2.2.2.2.2.2.2.2.2.2.2) (by with_unfolding_all exact lapRule0TC.holds) (prog, w, A, E, s, env, h₀, x, body, Q, S, r, t, u, t9, n, m₀)
theorem lapRule0 {prog : Program} {w : World} {A : Around} {E : Value → Shared → Prop} {s : Shared} {env : Env} {h₀ : Heap} {x : Str} {body : List Stmt} {Q : Flow → Shared → Prop} {S : Nat → Heap → Prop} {r : Addr} {t u t9 : Tok} {n : Nat} {m₀ : Str → Option Value}
    (hh : A.handled = none) (hr : IsRange s.heap r 0 (n : Int) 1 t u t9) (hsm : Builtin.Range.small 0 (n : Int) 1 = true) (hn : Builtin.Range.rangeSize 0 (n : Int) 1 = ((n : Nat) : Int)) (F : Fr h₀ env.locals s.heap m₀) (hS : S 0 s.heap)
    (up : ∀ h h' : Heap, S 0 h → (∀ b o, h.get? b = some o → h'.get? b = some o) → S 0 h')
    (stab : ∀ (i : Nat) (h h' : Heap) (m : Str → Option Value) (oI : Obj) (x y z : Int), S i h → h.Ns env.locals m → h.get? s.heap.objs.size = some oI → oI = { cls := .type "range_iterator", dict := none, data := .fields #[rawInt x, rawInt y, rawInt z], slots := #[] } → (∀ b o, h.get? b = some o → b ≠ env.locals → b ≠ s.heap.objs.size → h'.get? b = some o) → S i h')
    (turn : ∀ (i : Nat) (t : Tok) (h : Heap) (tk : Nat) (oI : Obj), i < n → S i h → h.get? s.heap.objs.size = some oI → Fr h₀ env.locals h (fun z => if z = x then some (.int (0 + (i : Int)) t) else m₀ z) →
      wpAny (model prog w) A (execs body env) (LapEnd h₀ env.locals x m₀ s.heap.objs.size oI (S (i + 1)) { s with heap := h, toks := tk }) E { s with heap := h, toks := tk })
    (done : ∀ (m₁ : Str → Option Value) (h : Heap) (tk : Nat), (∀ z, z ≠ x → m₁ z = m₀ z) → Fr h₀ env.locals h m₁ → S n h → Q .next { s with heap := h, toks := tk }) :
    wpAny (model prog w) A (pyIter (.ref r)) (fun it s₂ => LoopAtV prog w A h₀ env x body Q E it s₂) E s := by
  exact lapRule0T.all _ _ _ _ _ _ _ _ _ _ _ _ _ _ _ _ _ hh hr hsm hn F hS up stab turn done
section
variable {prog : Program} {w : World} {A : Around} {E : Value → Shared → Prop} {s : Shared} {env : Env} {h₀ : Heap} {L : Addr} {x : Str} {body : List Stmt} {Q : Flow → Shared → Prop}
/-- a loop over a range with a state that is the heap's -/
theorem lapRule {r : Addr} {t u v : Tok} {n : Nat} {m₀ : Str → Option Value} (S : Nat → Heap → Prop)
    (hh : A.handled = none) (hr : IsRange s.heap r 0 (n : Int) 1 t u v) (hsm : Builtin.Range.small 0 (n : Int) 1 = true) (hn : Builtin.Range.rangeSize 0 (n : Int) 1 = ((n : Nat) : Int)) (F : Fr h₀ L s.heap m₀) (hS : S 0 s.heap)
    (up : ∀ h h' : Heap, S 0 h → (∀ b o, h.get? b = some o → h'.get? b = some o) → S 0 h')
    (stab : ∀ (i : Nat) (h h' : Heap) (m : Str → Option Value) (oI : Obj) (x y z : Int), S i h → h.Ns L m → h.get? s.heap.objs.size = some oI → oI = { cls := .type "range_iterator", dict := none, data := .fields #[rawInt x, rawInt y, rawInt z], slots := #[] } → (∀ b o, h.get? b = some o → b ≠ L → b ≠ s.heap.objs.size → h'.get? b = some o) → S i h')
    (turn : ∀ (i : Nat) (t : Tok) (h : Heap) (tk : Nat) (oI : Obj), i < n → S i h → h.get? s.heap.objs.size = some oI → Fr h₀ L h (fun z => if z = x then some (.int (0 + (i : Int)) t) else m₀ z) →
      wpAny (model prog w) A (execs body env) (LapEnd h₀ L x m₀ s.heap.objs.size oI (S (i + 1)) { s with heap := h, toks := tk }) E { s with heap := h, toks := tk })
    (done : ∀ (m₁ : Str → Option Value) (h : Heap) (tk : Nat), (∀ z, z ≠ x → m₁ z = m₀ z) → Fr h₀ L h m₁ → S n h → Q .next { s with heap := h, toks := tk }) (hL : env.locals = L := by rfl) :
    wpAny (model prog w) A (pyIter (.ref r)) (fun it s₂ => LoopAtV prog w A h₀ env x body Q E it s₂) E s := by
  subst hL
  exact lapRule0 (S := S) hh hr hsm hn F hS up stab turn done
end
section
variable {prog : Program} {w : World} {A : Around} {E : Value → Shared → Prop} {s : Shared} {env : Env} {g h h' : Heap} {L I : Addr} {oI : Obj} {m : Str → Option Value} {a : KA} {d : KD} {df lc lo : Addr} {cv : List Value} {ns : List Int} {kx : Int} {nx : Nat}
theorem fr_flown {adr : List Addr} (F : Fr g L h m) (f : FlownA adr [env] h h') (hf : env.frame = some L) (hg : ∀ b ∈ adr, g.get? b = none) : Fr g L h' m := by
  have fm : [env].filterMap (·.frame) = [L] := by simp [hf]
  have hgL := kts_self F
  obtain ⟨o, es, ep, ho, hd, r⟩ := F.ns
  obtain ⟨sl, hs⟩ := f.2 L o ho (by rw [fm]; exact List.mem_singleton.mpr rfl) fun vs q => by rw [hd] at q; cases q
  refine ⟨⟨_, es, ep, hs, hd, r⟩, fun b o e => f.1 b o (F.keep b o e) (fun hb => by rw [hg b hb] at e; cases e) (fun hb => ?_), F.above⟩
  rw [fm] at hb
  rw [List.mem_singleton.mp hb, hgL] at e
  cases e
structure LapCtx (prog : Program) (w : World) (g : Heap) (L : Addr) (a : KA) (df lc lo : Addr) (cv : List Value) (ns : List Int) : Prop where
  fil : (prog.main.file : Str) = "/claim/cut.py"
  sup : (prog.main.scope.names.lookup ("super" : Str)).isSome = false
  X : (hd.heap_39 w.params).In g
  c1 : CodeHd g 169 167
  c2 : CodeHd g 174 172
  O : a.Ord
  h172 : @LT.lt Nat _ 172 df
  h1 : @LT.lt Nat _ df a.dk
  h2 : @LT.lt Nat _ a.ps lo
  off : ∀ b ∈ 172 :: adrL a df lo, g.get? b = none ∧ b ≠ L
  nlc : lc ∉ 172 :: adrL a df lo
  ians : IntsAre cv ns
  len : ns.length ≤ 63
  pos : 0 < ns.length
theorem frameL (hf : env.frame = some L) : [env].filterMap (·.frame) = [L] := by simp [hf]
variable {dp un : Nat} {gd : Option (List Code)} {p : Program} {loose : List Str} {mean : ExcName → Option Value} {mg mb : Str → Option Value} {Q : Value → Shared → Prop}
theorem lap_led (c : LapCtx prog w g L a df lc lo cv ns) (T : Top p loose mean mg mb g) (K : Below (mkA dp un gd []) g [] g) (hdp : dp ≤ 399) (hun : un ≤ 700) (F : Fr g L s.heap m) (S : Lap prog w a d df lc lo cv kx nx s.heap) (hkx : kx ≤ 890) (hnx : nx ≤ 49)
    (eI : s.heap.get? I = some oI) (nI : I ∉ 172 :: adrL a df lo) (nIL : I ≠ L)
    (ret : ∀ h' tk', Fr g L h' m → Lap prog w a d df lc lo cv (kx + 10) (nx + 1) h' → h'.get? I = some oI → Q (.bool true) { s with heap := h', toks := tk' })
    (hfr : env.frame = some L := by rfl) (hke : env.scope.kind = .function := by rfl) :
    wpAny (model prog w) ((mkA dp un gd []).deeper env) (call (.ref 170) [.ref df, .ref a.ik, .ref lo]) Q E s := by
  obtain ⟨fo, tk, ki, ps, ps', names, sws, floors, e1, e2, e3, e4, e5, e6, e7, e8, e9, KK, OW, II, l1, l2⟩ := S
  have sub : ∀ b, b ∈ adrL a df lo → b ∈ 172 :: adrL a df lo := fun b hb => List.mem_cons_of_mem _ hb
  have fm := frameL hfr
  have n172 : (172 : Addr) ∉ adrL a df lo := n172_of c.O c.h172 c.h1 c.h2
  refine led_spec (dp := dp + 1) (un := un + 3) (gd := gd) (l := [env]) (base := g) c.fil c.sup c.X T (pushX K F hfr hke) c.c1 (by omega) (by omega) c.O c.h172 c.h1 c.h2 (fun b hb => ⟨(c.off b (sub b hb)).1, by rw [fm]; exact fun q => (c.off b (sub b hb)).2 (List.mem_singleton.mp q)⟩) KK OW e8 e9
    e1 e2 e5 (fun q => c.nlc (sub _ q)) c.ians c.len c.pos e3 (by omega) II (by omega) (by omega) ?_
  intro h' fo' ps2 k' tk' tk2 names' sws' floors' fl g1 g2 g3 g4 g5 g6 K' O' I' m1 m2
  have nc := fun {b : Addr} {o : Obj} {vs : Array Value} {x : Str} {t : Tok} => OW.own.elim fun no h => h.elim fun lp h => h.elim fun lq h => no_code (b := b) (o := o) (vs := vs) (x := x) (t := t) e1 e2 e6 e7.tri e8 e9.tri KK h
  have keep : ∀ b o, s.heap.get? b = some o → b ∉ adrL a df lo → b ≠ L → h'.get? b = some o := fun b o e n1 n2 => fl.1 b o e n1 (by rw [fm]; exact fun q => n2 (List.mem_singleton.mp q))
  refine ret h' tk' (fr_flown F fl hfr fun b hb => (c.off b (sub b hb)).1) ⟨fo', tk2, k', ps, ps2, names', sws', floors', g1, g2, by omega, by omega, fl.list (fun q => c.nlc (sub _ q)) e5, keep _ _ e6 n172 (c.off _ List.mem_cons_self).2, e7.move fun b o vs t e hd hv => keep b o e (fun q => nc (sub b q) e hd hv) (fun q => ?_), g5, g6, K', O', I', by omega, by omega⟩ (keep _ _ eI (fun q => nI (sub _ q)) nIL)
  obtain ⟨oL, es, ep, hL, dL, _⟩ := F.ns
  rw [q, hL] at e; cases e; rw [dL] at hd; cases hd
theorem lap_told (c : LapCtx prog w g L a df lc lo cv ns) (T : Top p loose mean mg mb g) (K : Below (mkA dp un gd []) g [] g) (hdp : dp ≤ 399) (hun : un ≤ 700) (F : Fr g L s.heap m) (S : Lap prog w a d df lc lo cv kx nx s.heap) (hkx : kx ≤ 880) (hnx : nx ≤ 49)
    (eI : s.heap.get? I = some oI) (nI : I ∉ 172 :: adrL a df lo) (nIL : I ≠ L)
    (ret : ∀ h' tk', Fr g L h' m → Lap prog w a d df lc lo cv (kx + 20) nx h' → h'.get? I = some oI → Q (.bool true) { s with heap := h', toks := tk' })
    (hfr : env.frame = some L := by rfl) (hke : env.scope.kind = .function := by rfl) :
    wpAny (model prog w) ((mkA dp un gd []).deeper env) (call (.ref 175) [.ref df, .ref a.ik, .ref lo]) Q E s := by
  obtain ⟨fo, tk, ki, ps, ps', names, sws, floors, e1, e2, e3, e4, e5, e6, e7, e8, e9, KK, OW, II, l1, l2⟩ := S
  have sub : ∀ b, b ∈ adrT a df lo → b ∈ 172 :: adrL a df lo := fun b hb => (List.mem_cons.mp hb).elim (fun z => z ▸ List.mem_cons_self) fun hb => List.mem_cons_of_mem _ (List.mem_cons_of_mem _ hb)
  have fm := frameL hfr
  have n167 : (167 : Addr) ∉ adrT a df lo := n167_of c.O c.h172 c.h1 c.h2
  refine told_spec (dp := dp + 1) (un := un + 3) (gd := gd) (l := [env]) (base := g) c.fil c.sup c.X T (pushX K F hfr hke) c.c2 (by omega) (by omega) c.O c.h172 c.h1 c.h2 (fun b hb => ⟨(c.off b (sub b hb)).1, by rw [fm]; exact fun q => (c.off b (sub b hb)).2 (List.mem_singleton.mp q)⟩) KK OW e6 e7
    e1 e2 e5 (fun q => c.nlc (sub _ q)) c.ians c.len c.pos e3 (by omega) II (by omega) (by omega) ?_
  intro h' fo' ps2 k' tk' tk2 fl g1 g2 g3 g4 g5 g6 K' O'
  have nc := fun {b : Addr} {o : Obj} {vs : Array Value} {x : Str} {t : Tok} => OW.own.elim fun no h => h.elim fun lp h => h.elim fun lq h => no_code (b := b) (o := o) (vs := vs) (x := x) (t := t) e1 e2 e6 e7.tri e8 e9.tri KK h
  have keep : ∀ b o, s.heap.get? b = some o → b ∉ adrT a df lo → b ≠ L → h'.get? b = some o := fun b o e n1 n2 => fl.1 b o e n1 (by rw [fm]; exact fun q => n2 (List.mem_singleton.mp q))
  refine ret h' tk' (fr_flown F fl hfr fun b hb => (c.off b (sub b hb)).1) ⟨fo', tk2, k', ps2, ps', names, sws, floors, g1, g2, by omega, by omega, fl.list (fun q => c.nlc (sub _ q)) e5, g5, g6, keep _ _ e8 n167 (c.off _ (List.mem_cons_of_mem _ List.mem_cons_self)).2, e9.move fun b o vs t e hd hv => keep b o e (fun q => nc (sub b q) e hd hv) (fun q => ?_), K', O', II, by omega, by omega⟩ (keep _ _ eI (fun q => nI (sub _ q)) nIL)
  obtain ⟨oL, es, ep, hL, dL, _⟩ := F.ns
  rw [q, hL] at e; cases e; rw [dL] at hd; cases hd
end
end
section
/-- the cells that the law draws from -/
noncomputable abbrev CellsP (g : Heap) (L : Addr) (m : Str → Option Value) (nw : List (Addr × Obj)) (s0 : Shared) (v : Value) (s' : Shared) : Prop :=
  Done (fun r s₂ => ∃ lc its c ns h₂ tk₂, r = .ok (.ret (.ref lc)) ∧ s₂ = { s0 with heap := h₂, toks := tk₂ } ∧ Fr g L h₂ m ∧ News g L h₂ ((lc, listOf its c) :: nw) ∧ IntsAre its.toList ns ∧ 0 < ns.length ∧ ns.length ≤ 63 ∧ ∀ p ∈ nw, @Ne Nat p.1 lc) v s'
theorem cutCells {M : Model} {A : Around} {X : Sem Value} {Q : Value → Shared → Prop} {E : Value → Shared → Prop} {s : Shared} {g : Heap} {L : Addr} {m : Str → Option Value} {nw : List (Addr × Obj)} (_F : Fr g L s.heap m) (_N : News g L s.heap nw)
    (h1 : wpAny M A X (CellsP g L m nw s) E s)
    (h2 : ∀ lc its c ns h₂ tk₂, Fr g L h₂ m → News g L h₂ ((lc, listOf its c) :: nw) → IntsAre its.toList ns → 0 < ns.length → ns.length ≤ 63 → (∀ p ∈ nw, @Ne Nat p.1 lc) → Q (.ref lc) { s with heap := h₂, toks := tk₂ }) : wpAny M A X Q E s := by
  refine cutAt _ h1 fun f s' h => ?_
  cases h with
  | mk h =>
    obtain ⟨lc, its, c, ns, h₂, tk₂, e, rfl, F, N, a1, a2, a3, a4⟩ := h
    cases e
    exact h2 lc its c ns h₂ tk₂ F N a1 a2 a3 a4
end
section
theorem cells1 {g h' : Heap} {L lc : Addr} {m : Str → Option Value} {nw : List (Addr × Obj)} {x : Addr × Obj} {its : Array Value} {c : Nat} {ns : List Int} {s0 : Shared} {tk : Nat} (F : Fr g L h' m) (N : News g L h' ((lc, listOf its c) :: x :: nw)) (hi : IntsAre its.toList ns) (h1 : 0 < ns.length) (h2 : ns.length ≤ 63) (h3 : ∀ p ∈ nw, @Ne Nat p.1 lc) :
    CellsP g L m nw s0 (.ref lc) { s0 with heap := h', toks := tk } :=
  .mk ⟨lc, its, c, ns, h', tk, rfl, rfl, F, News.sub N (fun p hp => (List.mem_cons.mp hp).elim (fun e => e ▸ List.mem_cons_self) fun hp => List.mem_cons_of_mem _ (List.mem_cons_of_mem _ hp)), hi, h1, h2, h3⟩
theorem cells2 {g h' : Heap} {L lc : Addr} {m : Str → Option Value} {nw : List (Addr × Obj)} {x y : Addr × Obj} {its : Array Value} {c : Nat} {ns : List Int} {s0 : Shared} {tk : Nat} (F : Fr g L h' m) (N : News g L h' ((lc, listOf its c) :: x :: y :: nw)) (hi : IntsAre its.toList ns) (h1 : 0 < ns.length) (h2 : ns.length ≤ 63) (h3 : ∀ p ∈ nw, @Ne Nat p.1 lc) :
    CellsP g L m nw s0 (.ref lc) { s0 with heap := h', toks := tk } :=
  .mk ⟨lc, its, c, ns, h', tk, rfl, rfl, F, News.sub N (fun p hp => (List.mem_cons.mp hp).elim (fun e => e ▸ List.mem_cons_self) fun hp => List.mem_cons_of_mem _ (List.mem_cons_of_mem _ (List.mem_cons_of_mem _ hp))), hi, h1, h2, h3⟩
end
section
section
variable {prog : Program} {w : World} {a : KA} {d : KD} {df lc lo : Addr} {cv : List Value} {kx : Int} {nx : Nat} {h h' : Heap}
theorem Lap.up (S : Lap prog w a d df lc lo cv kx nx h) (k : ∀ b o, h.get? b = some o → h'.get? b = some o) : Lap prog w a d df lc lo cv kx nx h' := by
  obtain ⟨fo, tk, ki, ps, ps', names, sws, floors, e1, e2, e3, e4, e5, e6, e7, e8, e9, K, O, I9, l1, l2⟩ := S
  refine ⟨fo, tk, ki, ps, ps', names, sws, floors, k _ _ e1, e2, e3, e4, e5.at fun o e => k _ o e, k _ _ e6, e7.move fun b o vs t e hd hv => k b o e, k _ _ e8, e9.move fun b o vs t e hd hv => k b o e, ?_, ?_, I9, l1, l2⟩
  · obtain ⟨k9, hk9, R⟩ := K
    exact ⟨k9, fun p hp => k _ _ (hk9 p hp), R⟩
  · obtain ⟨no, lp, lq, its, fvs, hlo, hlp, PA, hlq, hfv, sp, sq9, st⟩ := O
    exact ⟨no, lp, lq, its, fvs, k _ _ hlo, hlp.at fun o e => k _ o e, PA.keep k, hlq.at fun o e => k _ o e, hfv, sp, sq9, st⟩
/-- how the laps begin -/
theorem lap0 {g : Heap} {L dk ik ll ls lf pn ps lp lq : Addr} {ops opn fo : Obj} {its : Array Value} {ns : List Int} {c no n1 n2 n3 n4 n5 n6 : Nat} {h1 h2 h3 h4 h5 : Int} {t1 t2 t3 t4 t5 tk : Tok}
    (N : News g L h ((lo, listOf #[.ref lp, .ref lq] no) :: (lq, listOf #[] n1) :: (lp, listOf #[] n2) :: (ps, ops) :: (pn, opn) :: (lf, listOf #[] n3) :: (ls, listOf #[] n4) :: (ll, listOf #[] n5) :: (ik, instObj 140 dk) ::
      (dk, dictOf [⟨h1, .str (Str.ofString "labels") t1, .ref ll⟩, ⟨h2, .str (Str.ofString "switches") t2, .ref ls⟩, ⟨h3, .str (Str.ofString "floors") t3, .ref lf⟩, ⟨h4, .str (Str.ofString "place_of_name") t4, .ref pn⟩, ⟨h5, .str (Str.ofString "place_of_switch") t5, .ref ps⟩] n6) ::
      (lc, listOf its c) :: (df, fo) :: (172, tabObj #[]) :: (167, tabObj #[]) :: []))
    (hfo : feedIs prog w lc 1 tk fo) (hpn : opn.IsDictOf (strKind prog w) []) (hps : ops.IsDictOf (intKind prog w) []) (s1 : (pn == sysModules) = false) (s2 : (ps == sysModules) = false)
    (c1 : @LT.lt Nat _ 172 df) (c0 : @LT.lt Nat _ 167 df) (c2 : @Ne Nat df lc) (c02 : @Ne Nat 172 lc) (c07 : @Ne Nat 167 lc) (c3 : @LT.lt Nat _ lc dk) (c13 : @LT.lt Nat _ df dk) (c4 : @LT.lt Nat _ dk ik) (c5 : @LT.lt Nat _ ik ll) (c6 : @LT.lt Nat _ ll ls) (c7 : @LT.lt Nat _ ls lf) (c8 : @LT.lt Nat _ lf pn) (c9 : @LT.lt Nat _ pn ps) (c10 : @LT.lt Nat _ ps lp) (c11 : @LT.lt Nat _ lp lq) (c12 : @LT.lt Nat _ lq lo)
    (fil : (prog.main.file : Str) = "/claim/cut.py") (sup : (prog.main.scope.names.lookup ("super" : Str)).isSome = false) (X : (hd.heap_39 w.params).In g) (C1 : CodeHd g 169 167) (C2 : CodeHd g 174 172)
    (hi : IntsAre its.toList ns) (hl : ns.length ≤ 63) (hp : 0 < ns.length) :
    LapCtx prog w g L ⟨dk, ik, ll, ls, lf, pn, ps⟩ df lc lo its.toList ns ∧ Lap prog w ⟨dk, ik, ll, ls, lf, pn, ps⟩ ⟨h1, h2, h3, h4, h5, t1, t2, t3, t4, t5, n6⟩ df lc lo its.toList 1 0 h ∧ ∀ b ∈ 172 :: adrL ⟨dk, ik, ll, ls, lf, pn, ps⟩ df lo, @LT.lt Nat _ b h.objs.size := by
  have q_lo := N (lo, listOf #[.ref lp, .ref lq] no) (by k_mem)
  have q_lq := N (lq, listOf #[] n1) (by k_mem)
  have q_lp := N (lp, listOf #[] n2) (by k_mem)
  have q_ps := N (ps, ops) (by k_mem)
  have q_pn := N (pn, opn) (by k_mem)
  have q_lf := N (lf, listOf #[] n3) (by k_mem)
  have q_ls := N (ls, listOf #[] n4) (by k_mem)
  have q_ll := N (ll, listOf #[] n5) (by k_mem)
  have q_ik := N (ik, instObj 140 dk) (by k_mem)
  have q_dk := N (dk, dictOf [⟨h1, .str (Str.ofString "labels") t1, .ref ll⟩, ⟨h2, .str (Str.ofString "switches") t2, .ref ls⟩, ⟨h3, .str (Str.ofString "floors") t3, .ref lf⟩, ⟨h4, .str (Str.ofString "place_of_name") t4, .ref pn⟩, ⟨h5, .str (Str.ofString "place_of_switch") t5, .ref ps⟩] n6) (by k_mem)
  have q_lc := N (lc, listOf its c) (by k_mem)
  have q_df := N (df, fo) (by k_mem)
  have q_2 := N (172, tabObj #[]) (by k_mem)
  have q_7 := N (167, tabObj #[]) (by k_mem)
  have mem : ∀ b ∈ 172 :: adrL ⟨dk, ik, ll, ls, lf, pn, ps⟩ df lo, ∃ o, h.get? b = some o ∧ b ≠ L ∧ g.get? b = none := by
    intro b hb
    have hb' : b ∈ [172, 167, df, lo, ik, dk, ll, ls, lf, pn, ps] := hb
    simp only [List.mem_cons, List.not_mem_nil, or_false] at hb'
    rcases hb' with q | q | q | q | q | q | q | q | q | q | q <;> rw [q]
    · exact ⟨_, q_2⟩
    · exact ⟨_, q_7⟩
    · exact ⟨_, q_df⟩
    · exact ⟨_, q_lo⟩
    · exact ⟨_, q_ik⟩
    · exact ⟨_, q_dk⟩
    · exact ⟨_, q_ll⟩
    · exact ⟨_, q_ls⟩
    · exact ⟨_, q_lf⟩
    · exact ⟨_, q_pn⟩
    · exact ⟨_, q_ps⟩
  have OO : KA.Ord ⟨dk, ik, ll, ls, lf, pn, ps⟩ := ⟨c4, c5, c6, c7, c8, c9, s1, s2⟩
  have pl : @LT.lt Nat _ ps lo := Nat.lt_trans c10 (Nat.lt_trans c11 c12)
  refine ⟨⟨fil, sup, X, C1, C2, OO, c1, c13, pl, fun b hb => let ⟨_, _, e2, e3⟩ := mem b hb; ⟨e3, e2⟩, out_lo OO pl c2 c02 c07 c3, hi, hl, hp⟩, ?_, fun b hb => let ⟨_, e, _⟩ := mem b hb; Heap.lt_size e⟩
  refine ⟨fo, tk, 1, #[], #[], [], [], [], q_df.1, hfo, by omega, by omega, ⟨_, q_lc.1, rfl, c, rfl⟩, q_2.1, TabOk.nil _ _, q_7.1, TabOk.nil _ _, ⟨⟨#[], n5, #[], n4, #[], n3, opn, ops⟩, fun p hp => ?_, ⟨⟨[], hpn, Places.nil _⟩, ⟨[], hps, Places.nil _⟩, .nil, .nil, .nil, rfl⟩⟩,
    ⟨no, lp, lq, [], [], q_lo.1, ⟨_, q_lp.1, rfl, rfl, n2, rfl⟩, ⟨rfl, rfl, fun i v e => by simp at e⟩, ⟨_, q_lq.1, rfl, n1, rfl⟩, .nil, out_hi OO c1 c13 c10 (Nat.lt_trans c11 c12), out_hi OO c1 c13 (Nat.lt_trans c10 c11) c12, fun t ht => nomatch ht⟩, ?_, by simp, by simp⟩
  · simp only [List.mem_cons, List.not_mem_nil, or_false] at hp
    rcases hp with q | q | q | q | q | q | q <;> rw [q]
    · exact q_ik.1
    · exact q_dk.1
    · exact q_ll.1
    · exact q_ls.1
    · exact q_lf.1
    · exact q_pn.1
    · exact q_ps.1
  · exact ⟨List.nodup_nil, List.nodup_nil, fun _ h => (nomatch h), fun _ h => (nomatch h), ⟨List.Pairwise.nil, fun _ h => (nomatch h), fun _ h => (nomatch h)⟩, rfl⟩
end
end
section
theorem range6 {h : Heap} {r : Addr} {x : Int} {t u v : Tok} (R : IsRange h r 0 (6 + x) 1 t u v) (h0 : 0 ≤ x) (h1 : x < 5) : ∃ n : Nat, n ≤ 10 ∧ IsRange h r 0 (n : Int) 1 t u v :=
  ⟨(6 + x).toNat, Int.toNat_le.mpr (Int.add_le_add_left (Int.le_of_lt_add_one (show x < 4 + 1 from h1)) 6), by rwa [Int.toNat_of_nonneg (Int.add_nonneg (by decide) h0)]⟩
theorem newsNil {g h : Heap} {L : Addr} {m : Str → Option Value} (_F : Fr g L h m) : News g L h [] := News.nil
theorem draw_useN {prog : Program} {w : World} {g : Heap} {dp un : Nat} {gd : Option (List Code)} {s : Shared} {p : Program} {loose : List Str} {mean : ExcName → Option Value} {mg mb : Str → Option Value} {df lc L : Addr} {fo : Obj} {tk : Tok} {k : Int} {its : Array Value} {c : Nat} {ns : List Int} {top : Int} {tt : Tok} {Q E : Value → Shared → Prop} {m : Str → Option Value} {news : List (Addr × Obj)} {gg : Obj → List (Addr × Obj)} {env : Env}
    (X : (hd.heap_39 w.params).In g) (T : Top p loose mean mg mb g) (B : Below (mkA dp un gd []) g [] g) (F : Fr g L s.heap m) (N : News g L s.heap news) (U : UpdF df fo news gg) (hf : feedIs prog w lc k tk fo) (ml : (lc, listOf its c) ∈ news) (hi : IntsAre its.toList ns) (hlen : ns.length ≤ 63) (hne : 0 < ns.length) (hlc : @Ne Nat df lc) (hdp : dp ≤ 599) (hun : un ≤ 900) (hk0 : 0 ≤ k) (hk : k ≤ 1000) (htop : 0 < top)
    (ret : ∀ h' fo' tk' tk2 r t, Fr g L h' m → News g L h' (gg fo') → feedIs prog w lc (k + 1) tk2 fo' → 0 ≤ r → r < top → Q (.int r t) { s with heap := h', toks := tk' })
    (hfr : env.frame = some L := by rfl) (hke : env.scope.kind = .function := by rfl) :
    wpAny (model prog w) ((mkA dp un gd []).deeper env) (call (.ref 151) [.ref df, .int top tt]) Q E s := by
  obtain ⟨pre, post, e, _, _, _⟩ := U.split
  have hm : (df, fo) ∈ news := e ▸ List.mem_append_right _ (.head _)
  have odf : Off g [] [df] := fun b hb => by rw [List.mem_singleton.mp hb]; exact ⟨(N _ hm).2.2, fun h => nomatch h⟩
  have o9 : Off g (env :: []) [df] := off_push odf N (fun b hb => ⟨fo, List.mem_singleton.mp hb ▸ hm⟩) hfr
  refine draw_spec (dp := dp + 1) (un := un + 3) (gd := gd) (l := [env]) (base := g) X T (pushX B F hfr hke) (by omega) (by omega) (led_of o9 fun q hq => by rw [List.mem_singleton.mp hq]; exact (N _ hm).1) hf (show s.heap.IsList lc its.toList.toArray from News.isList N ml) hi hlen hne hk0 hk htop (Ne.symm hlc)
    fun h' fo' tk' tk2 r t kp e' hd r0 r1 => ?_
  obtain ⟨F', N'⟩ := after_upd F N U kp e'
  exact ret h' fo' tk' tk2 r t F' N' hd r0 r1
end
section
example : True := by w_top off; trivial
local macro_rules | `(tactic| walk_at "x_pad0") => `(tactic| skip)
theorem take60_pos {sc : List Int} (h : 0 < sc.length) : 0 < (List.take 60 sc).length := by rw [List.length_take]; exact Nat.lt_min.mpr ⟨by decide, h⟩
theorem take60_le (sc : List Int) : (List.take 60 sc).length ≤ 63 := by rw [List.length_take]; exact Nat.le_trans (Nat.min_le_left _ _) (by decide)
theorem take60_big {vs : List Value} {sc : List Int} (h : IntsAre vs (List.take 60 sc)) : vs.length ≤ 16777216 := by rw [h.length, List.length_take]; exact Nat.le_trans (Nat.min_le_left _ _) (by decide)
theorem take60_at {vs : List Value} {sc : List Int} {i : Nat} (h : IntsAre vs ((List.take 60 sc).take i)) : vs.length ≤ 100 := by rw [h.length, List.length_take, List.length_take]; exact Nat.le_trans (Nat.min_le_right _ _) (Nat.le_trans (Nat.min_le_left _ _) (by decide))
set_option maxHeartbeats 4000000 in
noncomputable def lawCut : {P : World → Shared → Shared → Heap → Heap → (Str → Option Value) → (Str → Option Value) → Addr → Value → Addr → (List Value) → (List Int) → Addr → Obj → Addr → (Array Value) → Nat → (List Int) → Heap → Nat → (Flow → Shared → Prop) → Prop // (∀ w s0 s1 h1 h19 mg mb fa cd wsc wvs sc df o1 lc its c ns h2 tk2 Q9, P w s0 s1 h1 h19 mg mb fa cd wsc wvs sc df o1 lc its c ns h2 tk2 Q9) → PySem.Challenge.rw_no0003_01.Holds} := by
  apply Subtype.mk
  case property =>
    intro H9
    refine hd ?_
    k_go0
    (all_goals try k_fold)
    rename Fr _ _ _ _ => FF
    rename News _ _ _ _ => NN
    rename Below _ _ _ _ => KB
    rename Frag.In _ _ => XX
    rename Top topProg _ _ _ _ _ => TT
    rename IntsAre _ _ => hI
    rename List Int => sc
    rename (¬ (63 : Int) < _) => h63
    rename_i qN cdh9
    have eA : callerA = mkA callerA.depth 4 (some []) [] := rfl
    rw [eA] at KB ⊢
    (repeat' (first | (first | ((with_reducible first | (rename Gets _ _ => gQ'; refine at_of gQ' ?_; clear gQ'; try (rename (_ → Shared → Prop) => qQ'; clear qQ')) | refine at_of (by assumption) ?_); (try dsimp only)) | (with_reducible (first | refine s_exec ?_ | refine s_comp ?_); (with_reducible ((fail_if_success (refine s_at ?_)); refine cutX ?_; intro _ _)))) | ((with_reducible show wpAny _ _ (binaryOp .FloorDiv (Value.int _ _) (Value.int _ _)) _ _ _); (k_here; k_dflt (refine PyProof.Rows.floordiv_int (by (first | omega | ((try simp only [List.size_toArray] at *); omega))) ?_ (by exact Or.inl (PyProof.noPylong_small (by (first | omega | ((try simp only [List.size_toArray] at *); omega))))); k_whole))) | ((with_reducible show wpAny _ _ (binaryOp .Mod (Value.int _ _) (Value.int _ _)) _ _ _); (k_here; k_dflt (refine PyProof.Rows.mod_int' (by (first | omega | ((try simp only [List.size_toArray] at *); omega))) ?_; k_whole))) | ((with_reducible show wpAny _ _ (setItem (Value.ref _) (Value.int _ _) _) _ _ _); (k_here; k_dflt (refine set_led (knd := PySem.intKind _ _) (by exact int_is _ _ _ _) (by k_asm) (by k_asm) (by k_updF) (by assumption) ?_ (by (simp only [sizeLine_eq]; omega)); k_whole); intro _ _ _ _ _; (try k_sweep))) | ((with_reducible show wpAny _ _ (setItem (Value.ref _) (Value.str _ _) _) _ _ _); (k_here; k_dflt (refine set_led (knd := PySem.strKind _ _) (by exact strKind_is _ _ _ _) (by k_asm) (by k_asm) (by k_updF) (by assumption) ?_ (by (simp only [sizeLine_eq]; omega)); k_whole); intro _ _ _ _ _; (try k_sweep))) | (k_here; (with_reducible show wpAny _ _ (call (Value.ref 151) [Value.ref _, Value.int _ _]) _ _ _); k_dflt (refine draw_useN XX TT KB (by k_asm) (by k_asm) (by k_updF) (by assumption) (by k_mem) (by assumption) (by assumption) (by assumption) (by assumption) (by (show callerA.depth ≤ 599; decide)) (by omega) (by omega) (by omega) (by omega) ?_); intro _ _ _ _ _ _ _ _ _ _ _; (try k_sweep)) | ((fail_if_success (with_reducible first | refine s_done ?_ | refine s_iter ?_ | refine s_tpost ?_ | refine s_while ?_ | refine s_call (by decide) ?_ | refine s_ifexp ?_ | refine s_cend ?_ | refine s_comp ?_ | refine s_srcT ?_ | refine s_src ?_)); (first | (k_unfold; (try dsimp only)) | (k_end; wrow_close) | walk1 | (dsimp only; walk1) | (leave1; walk_say "STEP leave1"; try dsimp only)))))
    rename_i df h1 o1 F1 N1 lo1 hd1 ldf
    clear FF NN
    refine cutCells F1 N1 ?cfirst ?csecond
    case cfirst =>
      walk1
      (repeat' (first | (first | ((with_reducible first | (rename Gets _ _ => gQ'; refine at_of gQ' ?_; clear gQ'; try (rename (_ → Shared → Prop) => qQ'; clear qQ')) | refine at_of (by assumption) ?_); (try dsimp only)) | (with_reducible (first | refine s_exec ?_ | refine s_comp ?_); (with_reducible ((fail_if_success (refine s_at ?_)); refine cutX ?_; intro _ _)))) | ((with_reducible show wpAny _ _ (binaryOp .FloorDiv (Value.int _ _) (Value.int _ _)) _ _ _); (k_here; k_dflt (refine PyProof.Rows.floordiv_int (by (first | omega | ((try simp only [List.size_toArray] at *); omega))) ?_ (by exact Or.inl (PyProof.noPylong_small (by (first | omega | ((try simp only [List.size_toArray] at *); omega))))); k_whole))) | ((with_reducible show wpAny _ _ (binaryOp .Mod (Value.int _ _) (Value.int _ _)) _ _ _); (k_here; k_dflt (refine PyProof.Rows.mod_int' (by (first | omega | ((try simp only [List.size_toArray] at *); omega))) ?_; k_whole))) | ((with_reducible show wpAny _ _ (setItem (Value.ref _) (Value.int _ _) _) _ _ _); (k_here; k_dflt (refine set_led (knd := PySem.intKind _ _) (by exact int_is _ _ _ _) (by k_asm) (by k_asm) (by k_updF) (by assumption) ?_ (by (simp only [sizeLine_eq]; omega)); k_whole); intro _ _ _ _ _; (try k_sweep))) | ((with_reducible show wpAny _ _ (setItem (Value.ref _) (Value.str _ _) _) _ _ _); (k_here; k_dflt (refine set_led (knd := PySem.strKind _ _) (by exact strKind_is _ _ _ _) (by k_asm) (by k_asm) (by k_updF) (by assumption) ?_ (by (simp only [sizeLine_eq]; omega)); k_whole); intro _ _ _ _ _; (try k_sweep))) | (k_here; (with_reducible show wpAny _ _ (call (Value.ref 151) [Value.ref _, Value.int _ _]) _ _ _); k_dflt (refine draw_useN XX TT KB (by k_asm) (by k_asm) (by k_updF) (by assumption) (by k_mem) (by assumption) (by assumption) (by assumption) (by assumption) (by (show callerA.depth ≤ 599; decide)) (by omega) (by omega) (by omega) (by omega) ?_); intro _ _ _ _ _ _ _ _ _ _ _; (try k_sweep)) | ((fail_if_success (with_reducible first | refine s_done ?_ | refine s_iter ?_ | refine s_tpost ?_ | refine s_while ?_ | refine s_call (by decide) ?_ | refine s_ifexp ?_ | refine s_cend ?_ | refine s_comp ?_ | refine s_srcT ?_ | refine s_src ?_)); (first | (k_unfold; (try dsimp only)) | (k_end; wrow_close) | walk1 | (dsimp only; walk1) | (leave1; walk_say "STEP leave1"; try dsimp only)))))
      · rename Fr _ _ _ _ => FF
        rename News _ _ _ _ => NN
        exact cells1 (ns := [5, 1, 8, 3, 9, 2, 6]) FF NN (.cons _ _ (.cons _ _ (.cons _ _ (.cons _ _ (.cons _ _ (.cons _ _ (.cons _ _ .nil))))))) (by decide) (by decide) (List.forall_mem_cons.mpr ⟨by omega, List.forall_mem_cons.mpr ⟨by omega, List.forall_mem_cons.mpr ⟨by omega, fun _ h => nomatch h⟩⟩⟩)
      · rename (decide (_ = _) = false) => hne
        refine PyProof.Rows.LCg.ListComp_U (F₀ := by k_asm) (by with_unfolding_all rfl) (by decide) (by rfl) (by decide) (by rfl) ?_
        (repeat' (first | (first | ((with_reducible first | (rename Gets _ _ => gQ'; refine at_of gQ' ?_; clear gQ'; try (rename (_ → Shared → Prop) => qQ'; clear qQ')) | refine at_of (by assumption) ?_); (try dsimp only)) | (with_reducible (first | refine s_exec ?_ | refine s_comp ?_); (with_reducible ((fail_if_success (refine s_at ?_)); refine cutX ?_; intro _ _)))) | ((with_reducible show wpAny _ _ (binaryOp .FloorDiv (Value.int _ _) (Value.int _ _)) _ _ _); (k_here; k_dflt (refine PyProof.Rows.floordiv_int (by (first | omega | ((try simp only [List.size_toArray] at *); omega))) ?_ (by exact Or.inl (PyProof.noPylong_small (by (first | omega | ((try simp only [List.size_toArray] at *); omega))))); k_whole))) | ((with_reducible show wpAny _ _ (binaryOp .Mod (Value.int _ _) (Value.int _ _)) _ _ _); (k_here; k_dflt (refine PyProof.Rows.mod_int' (by (first | omega | ((try simp only [List.size_toArray] at *); omega))) ?_; k_whole))) | ((with_reducible show wpAny _ _ (setItem (Value.ref _) (Value.int _ _) _) _ _ _); (k_here; k_dflt (refine set_led (knd := PySem.intKind _ _) (by exact int_is _ _ _ _) (by k_asm) (by k_asm) (by k_updF) (by assumption) ?_ (by (simp only [sizeLine_eq]; omega)); k_whole); intro _ _ _ _ _; (try k_sweep))) | ((with_reducible show wpAny _ _ (setItem (Value.ref _) (Value.str _ _) _) _ _ _); (k_here; k_dflt (refine set_led (knd := PySem.strKind _ _) (by exact strKind_is _ _ _ _) (by k_asm) (by k_asm) (by k_updF) (by assumption) ?_ (by (simp only [sizeLine_eq]; omega)); k_whole); intro _ _ _ _ _; (try k_sweep))) | (k_here; (with_reducible show wpAny _ _ (call (Value.ref 151) [Value.ref _, Value.int _ _]) _ _ _); k_dflt (refine draw_useN XX TT KB (by k_asm) (by k_asm) (by k_updF) (by assumption) (by k_mem) (by assumption) (by assumption) (by assumption) (by assumption) (by (show callerA.depth ≤ 599; decide)) (by omega) (by omega) (by omega) (by omega) ?_); intro _ _ _ _ _ _ _ _ _ _ _; (try k_sweep)) | ((fail_if_success (with_reducible first | refine s_done ?_ | refine s_iter ?_ | refine s_tpost ?_ | refine s_while ?_ | refine s_call (by decide) ?_ | refine s_ifexp ?_ | refine s_cend ?_ | refine s_comp ?_ | refine s_srcT ?_ | refine s_src ?_)); (first | (k_unfold; (try dsimp only)) | (k_end; wrow_close) | walk1 | (dsimp only; walk1) | (leave1; walk_say "STEP leave1"; try dsimp only)))))
        refine PyProof.Rows.LCg.CompSrc.ledger (by rfl) (by k_asm) (by k_asm) (by k_mem) (by simp only [sizeLine_eq, List.size_toArray]; exact take60_big (by assumption : IntsAre _ (List.take 60 sc))) ?_
        rename IntsAre _ (List.take 60 sc) => hI6
        rename ((List.take 60 sc).length = min 60 _) => hC6
        intro g9
        refine restU ((fun N₀ i zs nw => nw = N₀ ∧ IntsAre zs ((List.take 60 sc).take i)) _) ?_ ?_ _ _ _ _ (Nat.zero_add _) ⟨rfl, .nil⟩
        · rintro i zs _ v I9 oI C9 oC D9 m₂ h₉ tk₉ E' hi9 ⟨rfl, hzs⟩ hP hC hx F₉ N₉ off9 ne9
          obtain ⟨x, t, rfl, hxi⟩ := ints_at hI6 hP
          have off0 := off9
          (try simp only [List.cons_append, List.nil_append] at N₉ off9)
          (try simp only [PyProof.Rows.LCg.Off3, and_true] at off9)
          have hzl : zs.length ≤ 100 := by exact take60_at hzs
          (repeat' (first | (first | ((with_reducible first | (rename Gets _ _ => gQ'; refine at_of gQ' ?_; clear gQ'; try (rename (_ → Shared → Prop) => qQ'; clear qQ')) | refine at_of (by assumption) ?_); (try dsimp only)) | (with_reducible (first | refine s_exec ?_ | refine s_comp ?_); (with_reducible ((fail_if_success (refine s_at ?_)); refine cutX ?_; intro _ _)))) | ((with_reducible show wpAny _ _ (binaryOp .FloorDiv (Value.int _ _) (Value.int _ _)) _ _ _); (k_here; k_dflt (refine PyProof.Rows.floordiv_int (by (first | omega | ((try simp only [List.size_toArray] at *); omega))) ?_ (by exact Or.inl (PyProof.noPylong_small (by (first | omega | ((try simp only [List.size_toArray] at *); omega))))); k_whole))) | ((with_reducible show wpAny _ _ (binaryOp .Mod (Value.int _ _) (Value.int _ _)) _ _ _); (k_here; k_dflt (refine PyProof.Rows.mod_int' (by (first | omega | ((try simp only [List.size_toArray] at *); omega))) ?_; k_whole))) | ((with_reducible show wpAny _ _ (setItem (Value.ref _) (Value.int _ _) _) _ _ _); (k_here; k_dflt (refine set_led (knd := PySem.intKind _ _) (by exact int_is _ _ _ _) (by k_asm) (by k_asm) (by k_updF) (by assumption) ?_ (by (simp only [sizeLine_eq]; omega)); k_whole); intro _ _ _ _ _; (try k_sweep))) | ((with_reducible show wpAny _ _ (setItem (Value.ref _) (Value.str _ _) _) _ _ _); (k_here; k_dflt (refine set_led (knd := PySem.strKind _ _) (by exact strKind_is _ _ _ _) (by k_asm) (by k_asm) (by k_updF) (by assumption) ?_ (by (simp only [sizeLine_eq]; omega)); k_whole); intro _ _ _ _ _; (try k_sweep))) | (k_here; (with_reducible show wpAny _ _ (call (Value.ref 151) [Value.ref _, Value.int _ _]) _ _ _); k_dflt (refine draw_useN XX TT KB (by k_asm) (by k_asm) (by k_updF) (by assumption) (by k_mem) (by assumption) (by assumption) (by assumption) (by assumption) (by (show callerA.depth ≤ 599; decide)) (by omega) (by omega) (by omega) (by omega) ?_); intro _ _ _ _ _ _ _ _ _ _ _; (try k_sweep)) | ((fail_if_success (with_reducible first | refine s_done ?_ | refine s_iter ?_ | refine s_tpost ?_ | refine s_while ?_ | refine s_call (by decide) ?_ | refine s_ifexp ?_ | refine s_cend ?_ | refine s_comp ?_ | refine s_srcT ?_ | refine s_src ?_)); (first | (k_unfold; (try dsimp only)) | (k_end; wrow_close) | walk1 | (dsimp only; walk1) | (leave1; walk_say "STEP leave1"; try dsimp only)))))
          rename Fr _ _ _ _ => FF
          rename News _ _ _ _ => NN
          refine cEnd FF NN off0 rfl (.inr ⟨_, by k_mem, rfl, _, rfl⟩) ⟨rfl, ?_⟩
          rw [take_snoc hxi]
          exact intsAre_append hzs (.cons _ _ .nil)
        · rintro zs _ ⟨rfl, hzs⟩
          rw [show (List.toArray _).size = (List.take 60 sc).length from by simpa using hI6.length, List.take_length] at hzs
          (repeat' (first | (first | ((with_reducible first | (rename Gets _ _ => gQ'; refine at_of gQ' ?_; clear gQ'; try (rename (_ → Shared → Prop) => qQ'; clear qQ')) | refine at_of (by assumption) ?_); (try dsimp only)) | (with_reducible (first | refine s_exec ?_ | refine s_comp ?_); (with_reducible ((fail_if_success (refine s_at ?_)); refine cutX ?_; intro _ _)))) | ((with_reducible show wpAny _ _ (binaryOp .FloorDiv (Value.int _ _) (Value.int _ _)) _ _ _); (k_here; k_dflt (refine PyProof.Rows.floordiv_int (by (first | omega | ((try simp only [List.size_toArray] at *); omega))) ?_ (by exact Or.inl (PyProof.noPylong_small (by (first | omega | ((try simp only [List.size_toArray] at *); omega))))); k_whole))) | ((with_reducible show wpAny _ _ (binaryOp .Mod (Value.int _ _) (Value.int _ _)) _ _ _); (k_here; k_dflt (refine PyProof.Rows.mod_int' (by (first | omega | ((try simp only [List.size_toArray] at *); omega))) ?_; k_whole))) | ((with_reducible show wpAny _ _ (setItem (Value.ref _) (Value.int _ _) _) _ _ _); (k_here; k_dflt (refine set_led (knd := PySem.intKind _ _) (by exact int_is _ _ _ _) (by k_asm) (by k_asm) (by k_updF) (by assumption) ?_ (by (simp only [sizeLine_eq]; omega)); k_whole); intro _ _ _ _ _; (try k_sweep))) | ((with_reducible show wpAny _ _ (setItem (Value.ref _) (Value.str _ _) _) _ _ _); (k_here; k_dflt (refine set_led (knd := PySem.strKind _ _) (by exact strKind_is _ _ _ _) (by k_asm) (by k_asm) (by k_updF) (by assumption) ?_ (by (simp only [sizeLine_eq]; omega)); k_whole); intro _ _ _ _ _; (try k_sweep))) | (k_here; (with_reducible show wpAny _ _ (call (Value.ref 151) [Value.ref _, Value.int _ _]) _ _ _); k_dflt (refine draw_useN XX TT KB (by k_asm) (by k_asm) (by k_updF) (by assumption) (by k_mem) (by assumption) (by assumption) (by assumption) (by assumption) (by (show callerA.depth ≤ 599; decide)) (by omega) (by omega) (by omega) (by omega) ?_); intro _ _ _ _ _ _ _ _ _ _ _; (try k_sweep)) | ((fail_if_success (with_reducible first | refine s_done ?_ | refine s_iter ?_ | refine s_tpost ?_ | refine s_while ?_ | refine s_call (by decide) ?_ | refine s_ifexp ?_ | refine s_cend ?_ | refine s_comp ?_ | refine s_srcT ?_ | refine s_src ?_)); (first | (k_unfold; (try dsimp only)) | (k_end; wrow_close) | walk1 | (dsimp only; walk1) | (leave1; walk_say "STEP leave1"; try dsimp only)))))
          rename Fr _ _ _ _ => FF
          rename News _ _ _ _ => NN
          have hsc : 0 < sc.length := by cases sc with | nil => simp at hne | cons a b => simp
          exact cells2 (ns := List.take 60 sc) FF NN hzs (take60_pos hsc) (take60_le sc) (List.forall_mem_cons.mpr ⟨by omega, List.forall_mem_cons.mpr ⟨by omega, List.forall_mem_cons.mpr ⟨by omega, fun _ h => nomatch h⟩⟩⟩)
    case csecond =>
      clear F1 N1
      intro lc its c ns h2 tk2 F2 N2 hi hpos hlen hlc
      rename_i w s0 s1 mg mb G9 Y9 fa o9 pm cd doc kV ho hcd hg X9 V9 T9 B9 TE9 TW9 hs9 hlay0 hL0 hr0 hl2 wa wb wsc wvs wd hL9 ra w19 r0 hr9 hcond hD9 h19 Q9 gQ9
      have GW : ∀ h tk m, Fr (ghostOf s1.heap [(174, 172), (169, 167)]) s1.heap.objs.size h m → GoodW PySem.Challenge.rw_no0003_01.row.claim (classAt s0.heap) (ExcName.means s0.heap) [ofPy (PyData.list (List.map PyData.int sc))] (Shared.mk (ghostOf s1.heap [(174, 172), (169, 167)]) s1.gens s1.drawn s1.toks s1.os) (Except.ok (Flow.ret (Value.bool true))) (Shared.mk h s1.gens s1.drawn tk s1.os) := by
        intro h tk m F0
        wrow_close
      dsimp only at gQ9 ⊢
      revert TT KB XX F2 N2 hi hpos hlen hlc qN codeHd gQ9 lo1 hd1 ldf cdh9 GW
      exact H9 w s0 s1 h1 h19 mg mb fa cd wsc wvs sc df o1 lc its c ns h2 tk2 Q9
noncomputable def lawP := lawCut.1
namespace LawTC
noncomputable abbrev V := World × Shared × Shared × Heap × Heap × (Str → Option Value) × (Str → Option Value) × Addr × Value × Addr × (List Value) × (List Int) × Addr × Obj × Addr × (Array Value) × Nat × (List Int) × Heap × Nat × (Flow → Shared → Prop)
theorem ne : Nonempty V := by
  have := neW
  have := neS
  have := neA
  have := neD
  have := neK
  have := neR
  repeat (refine @instNonemptyProd _ _ ?_ ?_; · first | assumption | infer_instance)
  first | assumption | infer_instance
noncomputable def v : V := @Classical.epsilon V ne fun v => ¬ lawP v.1 v.2.1 v.2.2.1 v.2.2.2.1 v.2.2.2.2.1 v.2.2.2.2.2.1 v.2.2.2.2.2.2.1 v.2.2.2.2.2.2.2.1 v.2.2.2.2.2.2.2.2.1 v.2.2.2.2.2.2.2.2.2.1 v.2.2.2.2.2.2.2.2.2.2.1 v.2.2.2.2.2.2.2.2.2.2.2.1 v.2.2.2.2.2.2.2.2.2.2.2.2.1 v.2.2.2.2.2.2.2.2.2.2.2.2.2.1 v.2.2.2.2.2.2.2.2.2.2.2.2.2.2.1 v.2.2.2.2.2.2.2.2.2.2.2.2.2.2.2.1 v.2.2.2.2.2.2.2.2.2.2.2.2.2.2.2.2.1 v.2.2.2.2.2.2.2.2.2.2.2.2.2.2.2.2.2.1 v.2.2.2.2.2.2.2.2.2.2.2.2.2.2.2.2.2.2.1 v.2.2.2.2.2.2.2.2.2.2.2.2.2.2.2.2.2.2.2.1 v.2.2.2.2.2.2.2.2.2.2.2.2.2.2.2.2.2.2.2.2
@[irreducible] noncomputable def w : World := v.1
@[irreducible] noncomputable def s0 : Shared := v.2.1
@[irreducible] noncomputable def s1 : Shared := v.2.2.1
@[irreducible] noncomputable def h1 : Heap := v.2.2.2.1
@[irreducible] noncomputable def h19 : Heap := v.2.2.2.2.1
@[irreducible] noncomputable def mg : Str → Option Value := v.2.2.2.2.2.1
@[irreducible] noncomputable def mb : Str → Option Value := v.2.2.2.2.2.2.1
@[irreducible] noncomputable def fa : Addr := v.2.2.2.2.2.2.2.1
@[irreducible] noncomputable def cd : Value := v.2.2.2.2.2.2.2.2.1
@[irreducible] noncomputable def wsc : Addr := v.2.2.2.2.2.2.2.2.2.1
@[irreducible] noncomputable def wvs : List Value := v.2.2.2.2.2.2.2.2.2.2.1
@[irreducible] noncomputable def sc : List Int := v.2.2.2.2.2.2.2.2.2.2.2.1
@[irreducible] noncomputable def df : Addr := v.2.2.2.2.2.2.2.2.2.2.2.2.1
@[irreducible] noncomputable def o1 : Obj := v.2.2.2.2.2.2.2.2.2.2.2.2.2.1
@[irreducible] noncomputable def lc : Addr := v.2.2.2.2.2.2.2.2.2.2.2.2.2.2.1
@[irreducible] noncomputable def its : Array Value := v.2.2.2.2.2.2.2.2.2.2.2.2.2.2.2.1
@[irreducible] noncomputable def c : Nat := v.2.2.2.2.2.2.2.2.2.2.2.2.2.2.2.2.1
@[irreducible] noncomputable def ns : List Int := v.2.2.2.2.2.2.2.2.2.2.2.2.2.2.2.2.2.1
@[irreducible] noncomputable def h2 : Heap := v.2.2.2.2.2.2.2.2.2.2.2.2.2.2.2.2.2.2.1
@[irreducible] noncomputable def tk2 : Nat := v.2.2.2.2.2.2.2.2.2.2.2.2.2.2.2.2.2.2.2.1
@[irreducible] noncomputable def Q9 : Flow → Shared → Prop := v.2.2.2.2.2.2.2.2.2.2.2.2.2.2.2.2.2.2.2.2
set_option maxHeartbeats 4000000 in
theorem holds : lawP w s0 s1 h1 h19 mg mb fa cd wsc wvs sc df o1 lc its c ns h2 tk2 Q9 := by
  delta lawP lawCut
  dsimp only
  set_option tactic.hygienic false in intros
  obtain ⟨hlc1, hlc2, hlc3⟩ : (@Ne Nat df lc) ∧ (@Ne Nat 172 lc) ∧ (@Ne Nat 167 lc) := ⟨hlc _ List.mem_cons_self, hlc _ (List.mem_cons_of_mem _ List.mem_cons_self), hlc _ (List.mem_cons_of_mem _ (List.mem_cons_of_mem _ List.mem_cons_self))⟩
  clear hlc
  (repeat' (first | (first | ((with_reducible first | (rename Gets _ _ => gQ'; refine at_of gQ' ?_; clear gQ'; try (rename (_ → Shared → Prop) => qQ'; clear qQ')) | refine at_of (by assumption) ?_); (try dsimp only)) | (with_reducible (first | refine s_exec ?_ | refine s_comp ?_); (with_reducible ((fail_if_success (refine s_at ?_)); refine cutX ?_; intro _ _)))) | ((with_reducible show wpAny _ _ (binaryOp .FloorDiv (Value.int _ _) (Value.int _ _)) _ _ _); (k_here; k_dflt (refine PyProof.Rows.floordiv_int (by (first | omega | ((try simp only [List.size_toArray] at *); omega))) ?_ (by exact Or.inl (PyProof.noPylong_small (by (first | omega | ((try simp only [List.size_toArray] at *); omega))))); k_whole))) | ((with_reducible show wpAny _ _ (binaryOp .Mod (Value.int _ _) (Value.int _ _)) _ _ _); (k_here; k_dflt (refine PyProof.Rows.mod_int' (by (first | omega | ((try simp only [List.size_toArray] at *); omega))) ?_; k_whole))) | ((with_reducible show wpAny _ _ (setItem (Value.ref _) (Value.int _ _) _) _ _ _); (k_here; k_dflt (refine set_led (knd := PySem.intKind _ _) (by exact int_is _ _ _ _) (by k_asm) (by k_asm) (by k_updF) (by assumption) ?_ (by (simp only [sizeLine_eq]; omega)); k_whole); intro _ _ _ _ _; (try k_sweep))) | ((with_reducible show wpAny _ _ (setItem (Value.ref _) (Value.str _ _) _) _ _ _); (k_here; k_dflt (refine set_led (knd := PySem.strKind _ _) (by exact strKind_is _ _ _ _) (by k_asm) (by k_asm) (by k_updF) (by assumption) ?_ (by (simp only [sizeLine_eq]; omega)); k_whole); intro _ _ _ _ _; (try k_sweep))) | (k_here; (with_reducible show wpAny _ _ (call (Value.ref 151) [Value.ref _, Value.int _ _]) _ _ _); k_dflt (refine draw_useN XX TT KB (by k_asm) (by k_asm) (by k_updF) (by assumption) (by k_mem) (by assumption) (by assumption) (by assumption) (by assumption) (by (show callerA.depth ≤ 599; decide)) (by omega) (by omega) (by omega) (by omega) ?_); intro _ _ _ _ _ _ _ _ _ _ _; (try k_sweep)) | ((fail_if_success (with_reducible first | refine s_done ?_ | refine s_iter ?_ | refine s_tpost ?_ | refine s_while ?_ | refine s_call (by decide) ?_ | refine s_ifexp ?_ | refine s_cend ?_ | refine s_comp ?_ | refine s_srcT ?_ | refine s_src ?_)); (first | (k_unfold; (try dsimp only)) | (k_end; wrow_close) | walk1 | (dsimp only; walk1) | (leave1; walk_say "STEP leave1"; try dsimp only)))))
  rename Fr _ _ _ _ => FF
  rename News _ _ _ _ => NN
  rename IsRange _ _ _ _ _ _ _ _ => RR
  rename (Obj.IsDictOf _ _ (_ :: _)) => hfe
  obtain ⟨n9, hn9, RR9⟩ := range6 RR (by assumption) (by assumption)
  obtain ⟨c9, S0, hlt⟩ := lap0 (News.less1 NN) hfe (by assumption) (by assumption) (by assumption) (by assumption) (by omega) (by omega) hlc1 hlc2 hlc3 (by omega) (by omega) (by omega) (by omega) (by omega) (by omega) (by omega) (by omega) (by omega) (by omega) (by omega) (by rfl) (by rfl) XX codeHd qN hi hlen hpos
  have hIL := Ne.symm (Nat.ne_of_lt FF.ns.lt)
  refine lapRule (n := n9) (fun i => Lap _ _ _ _ df lc _ its.toList (1 + 30 * (i : Int)) i) rfl RR9 (small12 (by omega)).1 (small12 (by omega)).2 FF (S0.le (by simp) (Nat.le_refl _)) (fun h h' S k => S.up k) ?stab ?turn ?done
  case stab =>
    intro i h h' m oI x y z S nL eI cI k
    exact S.stays nL eI cI (fun b hb => ⟨(c9.off b hb).2, Nat.ne_of_lt (hlt b hb)⟩) k
  case turn =>
    intro i t h tk oI hi9 S eI F
    clear NN FF
    have NW := newsNil F
    (repeat' (first | (first | ((with_reducible first | (rename Gets _ _ => gQ'; refine at_of gQ' ?_; clear gQ'; try (rename (_ → Shared → Prop) => qQ'; clear qQ')) | refine at_of (by assumption) ?_); (try dsimp only)) | (with_reducible (first | refine s_exec ?_ | refine s_comp ?_); (with_reducible ((fail_if_success (refine s_at ?_)); refine cutX ?_; intro _ _)))) | ((with_reducible show wpAny _ _ (binaryOp .FloorDiv (Value.int _ _) (Value.int _ _)) _ _ _); (k_here; k_dflt (refine PyProof.Rows.floordiv_int (by (first | omega | ((try simp only [List.size_toArray] at *); omega))) ?_ (by exact Or.inl (PyProof.noPylong_small (by (first | omega | ((try simp only [List.size_toArray] at *); omega))))); k_whole))) | ((with_reducible show wpAny _ _ (binaryOp .Mod (Value.int _ _) (Value.int _ _)) _ _ _); (k_here; k_dflt (refine PyProof.Rows.mod_int' (by (first | omega | ((try simp only [List.size_toArray] at *); omega))) ?_; k_whole))) | ((with_reducible show wpAny _ _ (setItem (Value.ref _) (Value.int _ _) _) _ _ _); (k_here; k_dflt (refine set_led (knd := PySem.intKind _ _) (by exact int_is _ _ _ _) (by k_asm) (by k_asm) (by k_updF) (by assumption) ?_ (by (simp only [sizeLine_eq]; omega)); k_whole); intro _ _ _ _ _; (try k_sweep))) | ((with_reducible show wpAny _ _ (setItem (Value.ref _) (Value.str _ _) _) _ _ _); (k_here; k_dflt (refine set_led (knd := PySem.strKind _ _) (by exact strKind_is _ _ _ _) (by k_asm) (by k_asm) (by k_updF) (by assumption) ?_ (by (simp only [sizeLine_eq]; omega)); k_whole); intro _ _ _ _ _; (try k_sweep))) | (k_here; (with_reducible show wpAny _ _ (call (Value.ref 151) [Value.ref _, Value.int _ _]) _ _ _); k_dflt (refine draw_useN XX TT KB (by k_asm) (by k_asm) (by k_updF) (by assumption) (by k_mem) (by assumption) (by assumption) (by assumption) (by assumption) (by (show callerA.depth ≤ 599; decide)) (by omega) (by omega) (by omega) (by omega) ?_); intro _ _ _ _ _ _ _ _ _ _ _; (try k_sweep)) | ((fail_if_success (with_reducible first | refine s_done ?_ | refine s_iter ?_ | refine s_tpost ?_ | refine s_while ?_ | refine s_call (by decide) ?_ | refine s_ifexp ?_ | refine s_cend ?_ | refine s_comp ?_ | refine s_srcT ?_ | refine s_src ?_)); (first | (k_unfold; (try dsimp only)) | (k_end; wrow_close) | walk1 | (dsimp only; walk1) | (leave1; walk_say "STEP leave1"; try dsimp only)))))
    refine lap_led c9 TT KB (by show callerA.depth ≤ 399; decide) (by omega) (by k_asm) S (by omega) (by omega) eI (fun hb => Nat.lt_irrefl _ (hlt _ hb)) hIL ?_
    intro h4 tk4 F4 S4 e4
    clear S eI F NW
    have NW := newsNil F4
    (repeat' (first | (first | ((with_reducible first | (rename Gets _ _ => gQ'; refine at_of gQ' ?_; clear gQ'; try (rename (_ → Shared → Prop) => qQ'; clear qQ')) | refine at_of (by assumption) ?_); (try dsimp only)) | (with_reducible (first | refine s_exec ?_ | refine s_comp ?_); (with_reducible ((fail_if_success (refine s_at ?_)); refine cutX ?_; intro _ _)))) | ((with_reducible show wpAny _ _ (binaryOp .FloorDiv (Value.int _ _) (Value.int _ _)) _ _ _); (k_here; k_dflt (refine PyProof.Rows.floordiv_int (by (first | omega | ((try simp only [List.size_toArray] at *); omega))) ?_ (by exact Or.inl (PyProof.noPylong_small (by (first | omega | ((try simp only [List.size_toArray] at *); omega))))); k_whole))) | ((with_reducible show wpAny _ _ (binaryOp .Mod (Value.int _ _) (Value.int _ _)) _ _ _); (k_here; k_dflt (refine PyProof.Rows.mod_int' (by (first | omega | ((try simp only [List.size_toArray] at *); omega))) ?_; k_whole))) | ((with_reducible show wpAny _ _ (setItem (Value.ref _) (Value.int _ _) _) _ _ _); (k_here; k_dflt (refine set_led (knd := PySem.intKind _ _) (by exact int_is _ _ _ _) (by k_asm) (by k_asm) (by k_updF) (by assumption) ?_ (by (simp only [sizeLine_eq]; omega)); k_whole); intro _ _ _ _ _; (try k_sweep))) | ((with_reducible show wpAny _ _ (setItem (Value.ref _) (Value.str _ _) _) _ _ _); (k_here; k_dflt (refine set_led (knd := PySem.strKind _ _) (by exact strKind_is _ _ _ _) (by k_asm) (by k_asm) (by k_updF) (by assumption) ?_ (by (simp only [sizeLine_eq]; omega)); k_whole); intro _ _ _ _ _; (try k_sweep))) | (k_here; (with_reducible show wpAny _ _ (call (Value.ref 151) [Value.ref _, Value.int _ _]) _ _ _); k_dflt (refine draw_useN XX TT KB (by k_asm) (by k_asm) (by k_updF) (by assumption) (by k_mem) (by assumption) (by assumption) (by assumption) (by assumption) (by (show callerA.depth ≤ 599; decide)) (by omega) (by omega) (by omega) (by omega) ?_); intro _ _ _ _ _ _ _ _ _ _ _; (try k_sweep)) | ((fail_if_success (with_reducible first | refine s_done ?_ | refine s_iter ?_ | refine s_tpost ?_ | refine s_while ?_ | refine s_call (by decide) ?_ | refine s_ifexp ?_ | refine s_cend ?_ | refine s_comp ?_ | refine s_srcT ?_ | refine s_src ?_)); (first | (k_unfold; (try dsimp only)) | (k_end; wrow_close) | walk1 | (dsimp only; walk1) | (leave1; walk_say "STEP leave1"; try dsimp only)))))
    refine lap_told c9 TT KB (by show callerA.depth ≤ 399; decide) (by omega) (by k_asm) S4 (by omega) (by omega) e4 (fun hb => Nat.lt_irrefl _ (hlt _ hb)) hIL ?_
    intro h5 tk5 F5 S5 e5
    clear S4 e4 F4 NW
    have NW := newsNil F5
    (repeat' (first | (first | ((with_reducible first | (rename Gets _ _ => gQ'; refine at_of gQ' ?_; clear gQ'; try (rename (_ → Shared → Prop) => qQ'; clear qQ')) | refine at_of (by assumption) ?_); (try dsimp only)) | (with_reducible (first | refine s_exec ?_ | refine s_comp ?_); (with_reducible ((fail_if_success (refine s_at ?_)); refine cutX ?_; intro _ _)))) | ((with_reducible show wpAny _ _ (binaryOp .FloorDiv (Value.int _ _) (Value.int _ _)) _ _ _); (k_here; k_dflt (refine PyProof.Rows.floordiv_int (by (first | omega | ((try simp only [List.size_toArray] at *); omega))) ?_ (by exact Or.inl (PyProof.noPylong_small (by (first | omega | ((try simp only [List.size_toArray] at *); omega))))); k_whole))) | ((with_reducible show wpAny _ _ (binaryOp .Mod (Value.int _ _) (Value.int _ _)) _ _ _); (k_here; k_dflt (refine PyProof.Rows.mod_int' (by (first | omega | ((try simp only [List.size_toArray] at *); omega))) ?_; k_whole))) | ((with_reducible show wpAny _ _ (setItem (Value.ref _) (Value.int _ _) _) _ _ _); (k_here; k_dflt (refine set_led (knd := PySem.intKind _ _) (by exact int_is _ _ _ _) (by k_asm) (by k_asm) (by k_updF) (by assumption) ?_ (by (simp only [sizeLine_eq]; omega)); k_whole); intro _ _ _ _ _; (try k_sweep))) | ((with_reducible show wpAny _ _ (setItem (Value.ref _) (Value.str _ _) _) _ _ _); (k_here; k_dflt (refine set_led (knd := PySem.strKind _ _) (by exact strKind_is _ _ _ _) (by k_asm) (by k_asm) (by k_updF) (by assumption) ?_ (by (simp only [sizeLine_eq]; omega)); k_whole); intro _ _ _ _ _; (try k_sweep))) | (k_here; (with_reducible show wpAny _ _ (call (Value.ref 151) [Value.ref _, Value.int _ _]) _ _ _); k_dflt (refine draw_useN XX TT KB (by k_asm) (by k_asm) (by k_updF) (by assumption) (by k_mem) (by assumption) (by assumption) (by assumption) (by assumption) (by (show callerA.depth ≤ 599; decide)) (by omega) (by omega) (by omega) (by omega) ?_); intro _ _ _ _ _ _ _ _ _ _ _; (try k_sweep)) | ((fail_if_success (with_reducible first | refine s_done ?_ | refine s_iter ?_ | refine s_tpost ?_ | refine s_while ?_ | refine s_call (by decide) ?_ | refine s_ifexp ?_ | refine s_cend ?_ | refine s_comp ?_ | refine s_srcT ?_ | refine s_src ?_)); (first | (k_unfold; (try dsimp only)) | (k_end; wrow_close) | walk1 | (dsimp only; walk1) | (leave1; walk_say "STEP leave1"; try dsimp only)))))
    exact .mk ⟨rfl, h5, _, _, rfl, F5, fun z hz => if_neg hz, S5.le (by omega) (by omega), e5⟩
  case done =>
    intro m₁ h tk hm F ⟨_, _, _, ps2, ps7, _, _, _, _, _, _, _, _, w2, _, w7, _, _, _, _, _, _⟩
    clear NN FF
    have NW : News (ghostOf _ [(174, 172), (169, 167)]) _ h [(172, tabObj ps2), (167, tabObj ps7)] := fun p hp => by
      rcases List.mem_cons.mp hp with q | hp
      · rw [q]; exact ⟨w2, (c9.off 172 (by simp)).2, (c9.off 172 (by simp)).1⟩
      · rw [List.mem_singleton.mp hp]; exact ⟨w7, (c9.off 167 (by simp)).2, (c9.off 167 (by simp)).1⟩
    (repeat' (first | (first | ((with_reducible first | (rename Gets _ _ => gQ'; refine at_of gQ' ?_; clear gQ'; try (rename (_ → Shared → Prop) => qQ'; clear qQ')) | refine at_of (by assumption) ?_); (try dsimp only)) | (with_reducible (first | refine s_exec ?_ | refine s_comp ?_); (with_reducible ((fail_if_success (refine s_at ?_)); refine cutX ?_; intro _ _)))) | ((with_reducible show wpAny _ _ (binaryOp .FloorDiv (Value.int _ _) (Value.int _ _)) _ _ _); (k_here; k_dflt (refine PyProof.Rows.floordiv_int (by (first | omega | ((try simp only [List.size_toArray] at *); omega))) ?_ (by exact Or.inl (PyProof.noPylong_small (by (first | omega | ((try simp only [List.size_toArray] at *); omega))))); k_whole))) | ((with_reducible show wpAny _ _ (binaryOp .Mod (Value.int _ _) (Value.int _ _)) _ _ _); (k_here; k_dflt (refine PyProof.Rows.mod_int' (by (first | omega | ((try simp only [List.size_toArray] at *); omega))) ?_; k_whole))) | ((with_reducible show wpAny _ _ (setItem (Value.ref _) (Value.int _ _) _) _ _ _); (k_here; k_dflt (refine set_led (knd := PySem.intKind _ _) (by exact int_is _ _ _ _) (by k_asm) (by k_asm) (by k_updF) (by assumption) ?_ (by (simp only [sizeLine_eq]; omega)); k_whole); intro _ _ _ _ _; (try k_sweep))) | ((with_reducible show wpAny _ _ (setItem (Value.ref _) (Value.str _ _) _) _ _ _); (k_here; k_dflt (refine set_led (knd := PySem.strKind _ _) (by exact strKind_is _ _ _ _) (by k_asm) (by k_asm) (by k_updF) (by assumption) ?_ (by (simp only [sizeLine_eq]; omega)); k_whole); intro _ _ _ _ _; (try k_sweep))) | (k_here; (with_reducible show wpAny _ _ (call (Value.ref 151) [Value.ref _, Value.int _ _]) _ _ _); k_dflt (refine draw_useN XX TT KB (by k_asm) (by k_asm) (by k_updF) (by assumption) (by k_mem) (by assumption) (by assumption) (by assumption) (by assumption) (by (show callerA.depth ≤ 599; decide)) (by omega) (by omega) (by omega) (by omega) ?_); intro _ _ _ _ _ _ _ _ _ _ _; (try k_sweep)) | ((fail_if_success (with_reducible first | refine s_done ?_ | refine s_iter ?_ | refine s_tpost ?_ | refine s_while ?_ | refine s_call (by decide) ?_ | refine s_ifexp ?_ | refine s_cend ?_ | refine s_comp ?_ | refine s_srcT ?_ | refine s_src ?_)); (first | (k_unfold; (try dsimp only)) | (k_end; wrow_close) | walk1 | (dsimp only; walk1) | (leave1; walk_say "STEP leave1"; try dsimp only)))))
    exact GW _ _ _ (by assumption)
end LawTC
theorem law_holds : PySem.Challenge.rw_no0003_01.Holds :=
  lawCut.2 fun w s0 s1 h1 h19 mg mb fa cd wsc wvs sc df o1 lc its c ns h2 tk2 Q9 => @hkAll LawTC.V LawTC.ne (fun v => lawP v.1 v.2.1 v.2.2.1 v.2.2.2.1 v.2.2.2.2.1 v.2.2.2.2.2.1 v.2.2.2.2.2.2.1 v.2.2.2.2.2.2.2.1 v.2.2.2.2.2.2.2.2.1 v.2.2.2.2.2.2.2.2.2.1 v.2.2.2.2.2.2.2.2.2.2.1 v.2.2.2.2.2.2.2.2.2.2.2.1 v.2.2.2.2.2.2.2.2.2.2.2.2.1 v.2.2.2.2.2.2.2.2.2.2.2.2.2.1 v.2.2.2.2.2.2.2.2.2.2.2.2.2.2.1 v.2.2.2.2.2.2.2.2.2.2.2.2.2.2.2.1 v.2.2.2.2.2.2.2.2.2.2.2.2.2.2.2.2.1 v.2.2.2.2.2.2.2.2.2.2.2.2.2.2.2.2.2.1 v.2.2.2.2.2.2.2.2.2.2.2.2.2.2.2.2.2.2.1 v.2.2.2.2.2.2.2.2.2.2.2.2.2.2.2.2.2.2.2.1 v.2.2.2.2.2.2.2.2.2.2.2.2.2.2.2.2.2.2.2.2) (by with_unfolding_all exact LawTC.holds) (w, s0, s1, h1, h19, mg, mb, fa, cd, wsc, wvs, sc, df, o1, lc, its, c, ns, h2, tk2, Q9)
end
end
end
end
end Mine
theorem PySem.Challenge.cw_no0003_01_holds : PySem.Challenge.rw_no0003_01.Holds :=
  Mine.law_holds
