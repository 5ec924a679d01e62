import PyProof.Rows.All
import Wide.All
import OpenK.AllK
import Wide.FinOn
import KE.KSortKey
import KE.KSortTup
import KE.LtSeq
import KE.GoesEnum
import HandS.ForMost
import HandS.Codes
import HandS.IsInst
import HandS.Zip
import HandS.TupAny
import HandS.Style
import HandS.Walk
import HandS.Steps
import HandS.SortInts
import HandS.SortOrd
import HandS.Lambda
import HandS.EndTab
import HandS.Evl
import HandS.SortKw
import HandS.NoneIn
import HandS.DictTup
import HandS.Iter
import KE.KDictWalk
import KE.KDictSum
import KE.KDictCopyH
import KE.KDictDisplayH
import HandS.Conv
import HandS.HeadHook1
import HandS.HeadWalk
import PySem.Challenge.RW_nestboxes_k16_whole_numbers_exchanged
set_option Elab.async false
set_option linter.all false
set_option maxRecDepth 100000
set_option maxHeartbeats 4000000
namespace K16
open PySem L2 Evl
/-! ### the text by places -/
def top (i : Nat) : Stmt := PySem.Challenge.pw_nestboxes_k16_whole_numbers_exchanged.main.body.getD i (.Pass ⟨9, 9, 9, 9⟩)
def inCls (s : Stmt) (j : Nat) : Stmt := (C8.clsBody s).getD j (.Pass ⟨9, 9, 9, 9⟩)
/-! ### the names that the module leaves to the built-ins, and its constants -/
structure Gb (mg : Str → Option Value) : Prop where
  n_int : mg "int" = none
  n_bool : mg "bool" = none
  n_str : mg "str" = none
  n_tuple : mg "tuple" = none
  n_list : mg "list" = none
  n_isinstance : mg "isinstance" = none
  n_len : mg "len" = none
  n_range : mg "range" = none
  n_enumerate : mg "enumerate" = none
  n_zip : mg "zip" = none
  n_sum : mg "sum" = none
  n_any : mg "any" = none
  n_min : mg "min" = none
  n_max : mg "max" = none
  n_sorted : mg "sorted" = none
  g_MOST_BOXES : ∃ u, mg "MOST_BOXES" = some u ∧ RelV (.int 12) u
  g_MOST_PRICE : ∃ u, mg "MOST_PRICE" = some u ∧ RelV (.int 99) u
  g_OPEN : ∃ u, mg "OPEN" = some u ∧ RelV (.str "open") u
  g_PRICE : ∃ u, mg "PRICE" = some u ∧ RelV (.str "price") u
  g_RING : ∃ u, mg "RING" = some u ∧ RelV (.str "ring") u
section
variable {X : Cx} {x : Str} {pos : Pos} {v : V}
/-- a constant of the module, by what is known of it -/
theorem pe_gl (hg : Gl X x) (h : ∃ u, X.mg x = some u ∧ RelV v u) (hd : (x == ("__debug__" : Str)) = false := by decide) : PE X (.Name x pos) (tC v) := by
  obtain ⟨u, hm, r⟩ := h
  exact pe_glob hg hm r hd
end
/-! ### what stays: more is known, nothing is lost -/
section
variable {K : PySem.W.Frag} {H H' : Hp}
mutual
theorem dp_mono (e : Ex H H') : ∀ {v : V} {d : PyData}, Dp K H v d → Dp K H' v d
  | _, _, .non => .non
  | _, _, .bl b => .bl b
  | _, _, .int i => .int i
  | _, _, .str x => .str x
  | _, _, .lst h r => .lst (ex_l e h) (dps_mono e r)
  | _, _, .tup h r => .tup (ex_t e h) (dps_mono e r)
theorem dps_mono (e : Ex H H') : ∀ {vs : List V} {ds : List PyData}, DpAll K H vs ds → DpAll K H' vs ds
  | _, _, .nil => .nil
  | _, _, .cons h r => .cons (dp_mono e h) (dps_mono e r)
end
end
end K16
set_option maxHeartbeats 4000000
/-! ### rules that the layer lacks: enumerate of a tuple, *=, sorted of a tuple, sorted of lists of ints -/
namespace K16
open PySem PySem.Spec PyProof.Rows L2
/-- enumerate(t), t the tuple at a: at each turn a new pair of the turn's number and the item -/
def IteT (K : PySem.W.Frag) (a : Addr) : It where
  go := fun i H => ∃ (xs : List V) (x : V), SqT K H a xs ∧ xs[i]? = some x
  yld := fun i H v H' => ∃ T x, v = .ref T ∧ H T = none ∧ H' = upd H T (.tup [.int (i : Nat), x]) ∧ ∀ xs, SqT K H a xs → xs[i]? = some x
  stop := fun i H => ∃ xs : List V, SqT K H a xs ∧ xs.length = i
theorem turn_enumT {P : Program} {w : World} {K : PySem.W.Frag} {es : List Expr} {k : Nat} {tp : Pos} (a e it : Addr) :
    Turn P w K (.Tuple es k tp) (IteT K a) [e, it] e (fun i h => (∃ old, IsEnum h e it ((i : Nat) : Int) old) ∧ h.IsTupleIter it a i ∧ e ≠ it) where
  mem := List.mem_cons_self
  obj := by
    rintro i h ⟨⟨old, he⟩, ⟨o, ho, hc, hd⟩, _⟩ b hb
    rcases List.mem_cons.mp hb with z | z
    · rw [z]
      exact ⟨_, he, fun v q => by cases q⟩
    · rw [List.mem_singleton.mp z]
      exact ⟨o, ho, fun v q => by rw [hd] at q; cases q⟩
  keep := by
    rintro i h h' ⟨⟨old, he⟩, hi, ne⟩ k
    exact ⟨⟨old, k e (by simp) _ he⟩, hi.at fun o q => k it (by simp) o q, ne⟩
  self := fun A i s Q E st h => by
    obtain ⟨⟨_, he⟩, _⟩ := st
    exact wpAny_pyIter_enum he h
  item := by
    intro X e1 e2 e3 hc i pins s σ H E I hf st hg
    subst e1 e2 e3
    obtain ⟨⟨old, he⟩, hit, ne⟩ := st
    obtain ⟨xs, x, hq, hx⟩ := hg
    obtain ⟨its, rv, p, hz⟩ := I.tuple hq
    have le : e < s.heap.objs.size := Heap.lt_size he
    have li : it < s.heap.objs.size := let ⟨_, q, _⟩ := hit; Heap.lt_size q
    have na : a ≠ e ∧ a ≠ it := by
      obtain ⟨oa, qa, ca, _⟩ := p
      refine ⟨fun z => ?_, fun z => ?_⟩
      · rw [z, he] at qa
        have q2 : Value.type "enumerate" = Value.type "tuple" := (congrArg Obj.cls (Option.some.inj qa)).trans ca
        exact absurd q2 (by decide +kernel)
      · obtain ⟨o, ho, hco, _⟩ := hit
        rw [z, ho] at qa
        rw [Option.some.inj qa, ca] at hco
        exact absurd hco (by decide +kernel)
    have hi : i < its.toArray.size := by
      have h1 := (List.getElem?_eq_some_iff.mp hx).1
      have h2 := rv.length
      rw [List.size_toArray]
      omega
    have D : Draws X.prog X.w X.A.in1 it [it, a] its.toArray.size (fun i v => its.toArray[i]? = some v) (fun i h => h.IsTupleIter it a i ∧ h.IsTuple a its.toArray) :=
      have hh : X.A.in1.handled = none := I.ok.hd hc
      Draws.tuple hh it a na.2 its.toArray
    refine wpAny_pyNext_enum_itemC D he ⟨hit, p⟩ hi ne (by simp [ne, Ne.symm na.1]) fun u h1 tk hu ho st1 hT hsz hk => ?_
    refine ⟨_, rfl, wpAny_letOwnedTupleGo_enum (s := { s with heap := h1, toks := tk + 1 }) ho fun h2 he2 sb => ?_⟩
    have ru : RelV x u := by
      obtain ⟨u', e', r'⟩ := rv.get hx
      have : its.toArray[i]? = some u' := by simpa using e'
      rw [this] at hu
      exact Option.some.inj hu ▸ r'
    have hT2 : h2.get? s.heap.objs.size = some { cls := .type "tuple", data := .seq #[.int i tk, u] } := (sb.2 _ (Nat.ne_of_gt le)).trans hT
    have nw : ObjOk X.prog X.w (upd H s.heap.objs.size (.tup [.int (i : Nat), x])) h2 s.heap.objs.size (.tup [.int (i : Nat), x]) :=
      ⟨show 2 ≤ sizeLine by decide, [.int i tk, u], .cons ⟨_, rfl⟩ (.cons ru .nil), ⟨_, hT2, rfl, _, rfl⟩⟩
    have I1 : Inv X pins σ (upd H s.heap.objs.size (.tup [.int (i : Nat), x])) { s with heap := h2, toks := tk + 1 } := by
      refine I.turnedNew (ch := [e, it]) (fun b ob hb q => ?_) hf (Nat.le_refl _) nw
      have nb : b ≠ e ∧ b ≠ it := by simpa using hb
      exact (sb.2 b nb.1).trans (hk b ob nb.1 nb.2 q)
    refine ⟨.ref s.heap.objs.size, _, I1, rfl, ⟨_, x, rfl, I.hok.fresh (Nat.le_refl _), rfl, fun ys hy => by rw [I.tuple_inj hy hq]; exact hx⟩, ⟨⟨u, ?_⟩, st1.1.at fun o q => (sb.2 it (Ne.symm ne)).trans q, ne⟩, fun b hb => ?_⟩
    · have e1 : ((i + 1 : Nat) : Int) = (i : Int) + 1 := by omega
      exact e1 ▸ he2
    · have lb : b < s.heap.objs.size := by
        rcases List.mem_cons.mp hb with z | z
        · exact z ▸ le
        · exact List.mem_singleton.mp z ▸ li
      rw [upd_ne (Nat.ne_of_lt lb)]
      exact (hf b hb).1
  done := by
    intro X e1 e2 e3 hc i pins s σ H E I hf st hg
    subst e1 e2 e3
    obtain ⟨⟨old, he⟩, hit, ne⟩ := st
    obtain ⟨xs, hq, hx⟩ := hg
    obtain ⟨its, rv, p, hz⟩ := I.tuple hq
    have na : a ≠ it := by
      obtain ⟨oa, qa, ca, _⟩ := p
      intro z
      obtain ⟨o, ho, hco, _⟩ := hit
      rw [z, ho] at qa
      rw [Option.some.inj qa, ca] at hco
      exact absurd hco (by decide +kernel)
    have hh : X.A.in1.handled = none := I.ok.hd hc
    have D := Draws.tuple (prog := X.prog) (w := X.w) hh it a na its.toArray
    have hn : i = its.toArray.size := by
      have h2 := rv.length
      rw [List.size_toArray]
      omega
    obtain ⟨f0, f1, f2, f3, f4, f5⟩ := hf it (by simp)
    exact wpAny_pyNext_enum_endD D he ⟨hn ▸ hit, p⟩ fun h1 k => ⟨rfl, I.turned (t' := s.toks) (fun b o hb q => k b o hb q) f0 f1 f3 f4 f5⟩
theorem walk_enumT {K : PySem.W.Frag} {a : Addr} {xs : List V} : Walk (IteT K a) xs.length (fun H => SqT K H a xs) (YPair (fun i => some (.int (i : Nat))) (fun i => xs[i]?)) :=
  ⟨fun i H hi h => ⟨xs, xs[i], h, by simp [hi]⟩, fun H h => ⟨xs, h, rfl⟩, fun i H x H' hi h ⟨T, y, e1, e2, e3, e4⟩ => ⟨T, _, y, e1, e2, e3, rfl, e4 xs h⟩⟩
/-- enumerate(v) of one argument, v anything whose iterator is known -/
theorem enum1_meets {v : Value} {ob : Obj} {G : Heap → Prop} (B : Begins v ob G) :
    Meets (Builtin.«enumerate.__new__» ⟨[.type "enumerate", v], []⟩) (fun _ R s => G s.heap ∧
      R (.ok (.ret (.ref (s.heap.push ob).objs.size))) { s with heap := (s.heap.push ob).push { cls := .type "enumerate", data := .fields #[.none, .bool false, .ref s.heap.objs.size, rawInt 0, .none, .none] } }) := by
  refine .of_wp fun prog w A R s hyp => ?_
  obtain ⟨hp, g, d, tk, os⟩ := s
  obtain ⟨hG, hR⟩ := hyp
  have subE := sub_enumerate
  have it1 : ∀ {A1 : Around} {E1 : Value → Shared → Prop} {Q1 : Value → Shared → Prop}, Q1 (.ref hp.objs.size) ⟨hp.push ob, g, d, tk, os⟩ → wpAny (model prog w) A1 (pyIter v) Q1 E1 ⟨hp, g, d, tk, os⟩ := fun z => B.iter prog w _ _ ⟨hp, g, d, tk, os⟩ _ hG z
  wp_walk using it1
  refine wpAny_stack_any fun st => wpAny_pure ?_
  split
  · rename_i cc _ _ _ _ _
    cases (cc == Value.type "enumerate") <;> (wp_walk using it1; exact ⟨_, rfl, hR⟩)
  · wp_walk using it1
    exact ⟨_, rfl, hR⟩
/-- the call: its two new cells -/
theorem enumT_made {prog : Program} {w : World} {A : Around} {E : Value → Shared → Prop} {s : Shared} {a : Addr} {items : Array Value} {Q : Value → Shared → Prop} (ht : s.heap.IsTuple a items)
    (h : ∀ h', IsEnum h' (s.heap.objs.size + 1) s.heap.objs.size 0 .none → h'.IsTupleIter s.heap.objs.size a 0 → (∀ b o, s.heap.get? b = some o → h'.get? b = some o) → Q (.ref (s.heap.objs.size + 1)) { s with heap := h' }) :
    wpAny (model prog w) A (call (.type "enumerate") [.ref a]) Q E s := by
  refine callType_new F.called_enumerate (by decide) (F.typeCall_enumerate_1 _) (F.newCall_enumerate_1 _) (fun ob => F.args_object_init_2 ob _) F.entry_enumerate_new (enum1_meets (begins_tuple a items)) ⟨ht, ?_⟩
  have sz : ∀ o : Obj, (s.heap.push o).objs.size = s.heap.objs.size + 1 := fun o => Heap.size_push ..
  have hE : IsEnum ((s.heap.push { cls := .type "tuple_iterator", data := .fields #[.ref a, .int 0 0] }).push { cls := .type "enumerate", data := .fields #[.none, .bool false, .ref s.heap.objs.size, rawInt 0, .none, .none] }) (s.heap.objs.size + 1) s.heap.objs.size 0 .none := by
    have q := Heap.get?_push_size (s.heap.push { cls := .type "tuple_iterator", data := .fields #[.ref a, .int 0 0] }) (o := { cls := .type "enumerate", data := .fields #[.none, .bool false, .ref s.heap.objs.size, rawInt 0, .none, .none] }) rfl
    rw [sz] at q
    exact q
  show _ ∧ _
  rw [sz]
  exact ⟨⟨_, hE, rfl⟩, h _ hE ⟨_, Heap.get?_push_of_some _ (Heap.get?_push_size _ rfl), rfl, rfl⟩ fun b o x => Heap.get?_push_of_some _ (Heap.get?_push_of_some _ x)⟩
def iEnumT (K : PySem.W.Frag) (ta : TA) : TI := fun σ H R => ta σ H fun vs H1 => ∃ a xs, vs = [.ref a] ∧ SqT K H1 a xs ∧ R (IteT K a) H1
theorem pi_enumT {X : Cx} {e : Expr} {ta : TA} {p pos tp : Pos} {es : List Expr} {k : Nat} (hg : Gl X "enumerate") (hm : X.mg "enumerate" = none) (ha : PA X [e] ta)
    (hs : starEach [e] X.env = [(false, eval e X.env)] := by rfl) : PI X (.Tuple es k tp) (.Call (.Name "enumerate" p) [e] [] pos) (iEnumT X.K ta) := by
  refine ⟨fun pins s σ H R I h => ?_⟩
  refine Call_ (ld_blt I hg hm boot_enumerate (PyProof.Rows.callWith_type1 (thn (ha.run pos pins s σ H _ I h) fun us s1 hh => ?_) hs rfl))
  obtain ⟨vs, H1, I1, r1, a, xs, ex, hq, q⟩ := hh
  subst ex
  obtain rfl := Vals.ref1 r1
  obtain ⟨its, rv, p1, hz⟩ := I1.tuple hq
  refine enumT_made p1 fun h' he hit hk => wpAny_pyIter_enum he ?_
  have I2 : Inv X pins σ H1 { s1 with heap := h' } := I1.kept (t' := s1.toks) hk
  refine ⟨_, [s1.heap.objs.size + 1, s1.heap.objs.size], _, IteT X.K a, H1, rfl, I2, turn_enumT a _ s1.heap.objs.size, ⟨⟨.none, he⟩, hit, Nat.succ_ne_self _⟩, fun b hb => ?_, q⟩
  have hb2 : b = s1.heap.objs.size + 1 ∨ b = s1.heap.objs.size := by simpa using hb
  have le : s1.heap.objs.size ≤ b := by
    rcases hb2 with z | z
    · exact z ▸ Nat.le_succ _
    · exact Nat.le_of_eq z.symm
  exact I1.fpOk le (I1.hok.fresh le)
/-- name *= e -/
theorem ip_mul {X : Cx} : PIp X .Mult (fun x y H Q => ∃ i j, x = .int i ∧ y = .int j ∧ CMul i j ∧ Q (.int (i * j)) H) := fun pins s σ H x y v u Q I r1 r2 h => iop_mul pins s σ H x y v u Q I r1 r2 h
end K16
set_option maxHeartbeats 4000000
namespace K16
/-! ### the mathematics: nestings -/
/-- who holds b -/
def up (hs : List (Option Nat)) (b : Nat) : Option Nat := hs.getD b none
/-- all holders are boxes -/
def Clo (hs : List (Option Nat)) : Prop := ∀ b h, up hs b = some h → h < hs.length
theorem up_at {hs : List (Option Nat)} {b : Nat} (h : b < hs.length) : hs[b]? = some (up hs b) := by
  unfold up
  rw [List.getD_eq_getElem?_getD, List.getElem?_eq_getElem h] <;> rfl
theorem up_of {hs : List (Option Nat)} {b : Nat} {o : Option Nat} (h : hs[b]? = some o) : up hs b = o := by
  unfold up
  rw [List.getD_eq_getElem?_getD, h] <;> rfl
theorem up_out {hs : List (Option Nat)} {b : Nat} (h : hs.length ≤ b) : up hs b = none := by
  unfold up
  rw [List.getD_eq_getElem?_getD, List.getElem?_eq_none h] <;> rfl
/-- from here on, holder by holder, up to the floor -/
inductive Chain (f : Nat → Option Nat) : Option Nat → List Nat → Prop where
  | stop : Chain f none []
  | step {h : Nat} {l : List Nat} : Chain f (f h) l → Chain f (some h) (h :: l)
theorem Chain.det {f : Nat → Option Nat} {o : Option Nat} {l m : List Nat} (a : Chain f o l) : Chain f o m → l = m := by
  induction a generalizing m with
  | stop => intro b; cases b; rfl
  | step _ ih => intro b; cases b with | step b => rw [ih b]
/-- each box comes to the floor -/
def For (hs : List (Option Nat)) : Prop := Clo hs ∧ ∀ b, ∃ l, Chain (up hs) (some b) l
/-- numbers below n, none twice, are at most n -/
theorem small_len : ∀ (n : Nat) (l : List Nat), l.Nodup → (∀ x ∈ l, x < n) → l.length ≤ n
  | 0, l, _, h => by
    cases l with
    | nil => exact Nat.le_refl _
    | cons x l => exact absurd (h x List.mem_cons_self) (Nat.not_lt_zero _)
  | n + 1, l, nd, h => by
    by_cases hn : n ∈ l
    · have h1 : (l.erase n).length ≤ n := small_len n (l.erase n) (nd.erase n) fun x hx => by
        have h2 := (List.Nodup.mem_erase_iff nd).mp hx
        have := h x h2.2
        have := h2.1
        omega
      rw [List.length_erase_of_mem hn] at h1
      omega
    · have h1 := small_len n l nd fun x hx => by
        have h2 := h x hx
        have : x ≠ n := fun e => hn (e ▸ hx)
        omega
      omega
theorem Chain.tail {f : Nat → Option Nat} {o : Option Nat} {l : List Nat} (c : Chain f o l) : ∀ x ∈ l, ∃ m, Chain f (some x) m ∧ m.length ≤ l.length := by
  induction c with
  | stop => intro x hx; cases hx
  | @step h l c ih =>
    intro x hx
    rcases List.mem_cons.mp hx with e | hx
    · rw [e]
      exact ⟨_, .step c, Nat.le_refl _⟩
    · obtain ⟨m, h1, h2⟩ := ih x hx
      exact ⟨m, h1, by rw [List.length_cons]; omega⟩
theorem Chain.nodup {f : Nat → Option Nat} {o : Option Nat} {l : List Nat} (c : Chain f o l) : l.Nodup := by
  induction c with
  | stop => exact List.nodup_nil
  | @step h l c ih =>
    refine List.nodup_cons.mpr ⟨fun hm => ?_, ih⟩
    obtain ⟨m, h1, h2⟩ := c.tail h hm
    have := h1.det (.step c)
    rw [this, List.length_cons] at h2
    omega
theorem Chain.lt {hs : List (Option Nat)} (cl : Clo hs) {o : Option Nat} {l : List Nat} (c : Chain (up hs) o l) : (∀ x, o = some x → x < hs.length) → ∀ x ∈ l, x < hs.length := by
  induction c with
  | stop => intro _ x hx; cases hx
  | @step h l c ih =>
    intro h0 x hx
    rcases List.mem_cons.mp hx with e | hx
    · exact e ▸ h0 h rfl
    · exact ih (fun y hy => cl h y hy) x hx
theorem Chain.short {hs : List (Option Nat)} (cl : Clo hs) {o : Option Nat} {l : List Nat} (c : Chain (up hs) o l) (h0 : ∀ x, o = some x → x < hs.length) : l.length ≤ hs.length :=
  small_len _ _ c.nodup (c.lt cl h0)
theorem for_up {hs : List (Option Nat)} (F : For hs) (b : Nat) : ∃ l, Chain (up hs) (up hs b) l := by
  obtain ⟨l, c⟩ := F.2 b
  cases c with
  | step c => exact ⟨_, c⟩
open Classical in
/-- the chain above a box -/
noncomputable def chn (hs : List (Option Nat)) (b : Nat) : List Nat := if h : ∃ l, Chain (up hs) (up hs b) l then h.choose else []
theorem for_chn {hs : List (Option Nat)} (F : For hs) (b : Nat) : Chain (up hs) (up hs b) (chn hs b) := by
  unfold chn
  rw [dif_pos (for_up F b)]
  exact (for_up F b).choose_spec
theorem for_chn_len {hs : List (Option Nat)} (F : For hs) (b : Nat) : (chn hs b).length ≤ hs.length := (for_chn F b).short F.1 fun x hx => F.1 b x hx
/-- the walk along arrows until one comes again: k steps from (path, here) to (path, here) -/
inductive Path (f : Nat → Option Nat) : Nat → List Nat → Option Nat → List Nat → Option Nat → Prop where
  | floor {p : List Nat} : Path f 0 p none p none
  | again {p : List Nat} {h : Nat} : h ∈ p → Path f 0 p (some h) p (some h)
  | step {k h : Nat} {p p' : List Nat} {o' : Option Nat} : h ∉ p → Path f k (p ++ [h]) (f h) p' o' → Path f (k + 1) p (some h) p' o'
/-- the ring at the walk's end; none, if it came to the floor -/
def ringOf (p : List Nat) : Option Nat → List Nat
  | none => []
  | some h => p.drop (p.idxOf h)
theorem Path.det {f : Nat → Option Nat} {k : Nat} {p p' : List Nat} {o o' : Option Nat} (a : Path f k p o p' o') : ∀ {j q' u'}, Path f j p o q' u' → k = j ∧ p' = q' ∧ o' = u' := by
  induction a with
  | floor => intro j q u b; cases b; exact ⟨rfl, rfl, rfl⟩
  | again h =>
    intro j q u b
    cases b with
    | again _ => exact ⟨rfl, rfl, rfl⟩
    | step h' _ => exact absurd h h'
  | step h _ ih =>
    intro j q u b
    cases b with
    | again h' => exact absurd h' h
    | step h' b =>
      obtain ⟨e1, e2, e3⟩ := ih b
      exact ⟨by rw [e1], e2, e3⟩
theorem path_ex {hs : List (Option Nat)} (cl : Clo hs) : ∀ (m : Nat) (p : List Nat) (o : Option Nat), hs.length ≤ p.length + m → p.Nodup → (∀ x ∈ p, x < hs.length) → (∀ x, o = some x → x < hs.length) → ∃ k p' o', Path (up hs) k p o p' o' := by
  intro m
  induction m with
  | zero =>
    intro p o hm nd hp ho
    cases o with
    | none => exact ⟨0, p, none, .floor⟩
    | some h =>
      by_cases hh : h ∈ p
      · exact ⟨0, p, some h, .again hh⟩
      · have h1 : (p ++ [h]).Nodup := List.nodup_append.mpr ⟨nd, List.nodup_cons.mpr ⟨by simp, List.nodup_nil⟩, fun a ha b hb => by
          rw [List.mem_singleton.mp hb]
          intro e
          exact hh (e ▸ ha)⟩
        have h2 := small_len hs.length _ h1 fun x hx => by
          rcases List.mem_append.mp hx with z | z
          · exact hp x z
          · rw [List.mem_singleton.mp z]
            exact ho h rfl
        rw [List.length_append, List.length_cons, List.length_nil] at h2
        omega
  | succ m ih =>
    intro p o hm nd hp ho
    cases o with
    | none => exact ⟨0, p, none, .floor⟩
    | some h =>
      by_cases hh : h ∈ p
      · exact ⟨0, p, some h, .again hh⟩
      · have h1 : (p ++ [h]).Nodup := List.nodup_append.mpr ⟨nd, List.nodup_cons.mpr ⟨by simp, List.nodup_nil⟩, fun a ha b hb => by
          rw [List.mem_singleton.mp hb]
          intro e
          exact hh (e ▸ ha)⟩
        obtain ⟨k, p', o', h3⟩ := ih (p ++ [h]) (up hs h) (by rw [List.length_append, List.length_cons, List.length_nil]; omega) h1 (fun x hx => by
          rcases List.mem_append.mp hx with z | z
          · exact hp x z
          · rw [List.mem_singleton.mp z]
            exact ho h rfl) (fun x hx => cl h x hx)
        exact ⟨k + 1, p', o', .step hh h3⟩
/-- along a chain the walk comes to the floor -/
theorem Chain.path {f : Nat → Option Nat} {o : Option Nat} {l : List Nat} (c : Chain f o l) : ∀ (p : List Nat), (p ++ l).Nodup → Path f l.length p o (p ++ l) none := by
  induction c with
  | stop => intro p _; rw [List.append_nil]; exact .floor
  | @step h l c ih =>
    intro p nd
    have e : p ++ h :: l = (p ++ [h]) ++ l := by rw [List.append_assoc]; rfl
    rw [e] at nd ⊢
    refine .step (fun hm => ?_) (ih _ nd)
    have := (List.nodup_append.mp (List.nodup_append.mp nd).1).2.2
    exact this h hm h (by simp) rfl
theorem for_path {hs : List (Option Nat)} (F : For hs) (b : Nat) : ∃ k p, Path (up hs) k [] (some b) p none := by
  obtain ⟨l, c⟩ := F.2 b
  exact ⟨_, _, c.path [] (by simpa using c.nodup)⟩
theorem nodup_snoc {p : List Nat} {h : Nat} (nd : p.Nodup) (hm : h ∉ p) : (p ++ [h]).Nodup :=
  List.nodup_append.mpr ⟨nd, List.nodup_cons.mpr ⟨by simp, List.nodup_nil⟩, fun a ha b hb z => hm (by rw [List.mem_singleton.mp hb] at z; exact z ▸ ha)⟩
theorem path_nd {f : Nat → Option Nat} {k : Nat} {p p' : List Nat} {o o' : Option Nat} (a : Path f k p o p' o') : p.Nodup → p'.Nodup := by
  induction a with
  | floor => exact id
  | again _ => exact id
  | step h _ ih => exact fun nd => ih (nodup_snoc nd h)
theorem path_lt {hs : List (Option Nat)} (cl : Clo hs) {k : Nat} {p p' : List Nat} {o o' : Option Nat} (a : Path (up hs) k p o p' o') : (∀ x ∈ p, x < hs.length) → (∀ x, o = some x → x < hs.length) → ∀ x ∈ p', x < hs.length := by
  induction a with
  | floor => exact fun h _ => h
  | again _ => exact fun h _ => h
  | @step k h p p' o' _ _ ih =>
    intro hp ho
    refine ih (fun x hx => ?_) fun x hx => cl h x hx
    rcases List.mem_append.mp hx with z | z
    · exact hp x z
    · rw [List.mem_singleton.mp z]
      exact ho h rfl
theorem ring_sub (p : List Nat) (o : Option Nat) : ∀ x ∈ ringOf p o, x ∈ p := by
  cases o with
  | none => intro x hx; cases hx
  | some h => exact fun x hx => List.mem_of_mem_drop hx
theorem ring_nd {p : List Nat} (o : Option Nat) (nd : p.Nodup) : (ringOf p o).Nodup := by
  cases o with
  | none => exact List.nodup_nil
  | some h => exact nd.sublist (List.drop_sublist _ _)
end K16
set_option maxHeartbeats 4000000
namespace K16
open PySem L2 Evl
/-! ### the data as values -/
/-- a holder, a price, a box's number -/
def hV : Option Nat → V
  | none => .non
  | some n => .int (n : Int)
def pV : Option Int → V
  | none => .non
  | some n => .int n
abbrev nV (n : Nat) : V := .int (n : Int)
abbrev Yd := List (Option Int × Option Nat)
def hsOf (Y : Yd) : List (Option Nat) := Y.map (·.2)
/-- a valid yard -/
structure VY (Y : Yd) : Prop where
  ne : 0 < Y.length
  le : Y.length ≤ 12
  pr : ∀ z ∈ Y, ∀ p, z.1 = some p → 1 ≤ p ∧ p ≤ 99
  fo : For (hsOf Y)
theorem hsOf_len (Y : Yd) : (hsOf Y).length = Y.length := List.length_map _
/-- a yard's boxes, each a pair -/
structure Rows (K : PySem.W.Frag) (H : Hp) (rs : List V) (Y : Yd) : Prop where
  len : rs.length = Y.length
  at_ : ∀ (i : Nat) (z : Option Int × Option Nat), Y[i]? = some z → ∃ q : Addr, rs[i]? = some (V.ref q) ∧ SqT K H q [pV z.1, hV z.2]
def YAt (K : PySem.W.Frag) (H : Hp) (a : Addr) (Y : Yd) : Prop := ∃ rs, SqT K H a rs ∧ Rows K H rs Y
section
variable {K : PySem.W.Frag} {H H' : Hp} {rs : List V} {Y : Yd} {a : Addr}
theorem Rows.mono (e : Ex H H') (r : Rows K H rs Y) : Rows K H' rs Y := ⟨r.len, fun i z h => let ⟨q, h1, h2⟩ := r.at_ i z h; ⟨q, h1, ex_t e h2⟩⟩
theorem YAt.mono (e : Ex H H') (y : YAt K H a Y) : YAt K H' a Y := let ⟨rs, h1, h2⟩ := y; ⟨rs, ex_t e h1, h2.mono e⟩
theorem Rows.get (r : Rows K H rs Y) {i : Nat} {x : V} (hx : rs[i]? = some x) : ∃ (z : Option Int × Option Nat) (q : Addr), Y[i]? = some z ∧ x = V.ref q ∧ SqT K H q [pV z.1, hV z.2] := by
  have hi := (List.getElem?_eq_some_iff.mp hx).1
  rw [r.len] at hi
  obtain ⟨q, h1, h2⟩ := r.at_ i Y[i] (by simp [hi])
  rw [h1] at hx
  exact ⟨Y[i], q, by simp [hi], (Option.some.inj hx).symm, h2⟩
theorem tyx_tup {xs : List V} (h : SqT K H a xs) : TyX K H (.ref a) (.type "tuple") := by
  rcases h with (h | ⟨o, h⟩) | ⟨o, its, n, h, hc, _⟩
  · exact .base (.tup h)
  · exact .fTuple h
  · exact .kTuple h hc
theorem hV_flat (o : Option Nat) : flatV (hV o) = true := by cases o <;> rfl
theorem nVs_flat (p : List Nat) : (p.map nV).all flatV = true := by simp [flatV]
theorem inV_nV (h : Nat) (p : List Nat) : inV (nV h) (p.map nV) = decide (h ∈ p) := by
  unfold inV
  rw [List.any_map, Bool.eq_iff_iff]
  simp only [List.any_eq_true, Function.comp, eqV, beq_iff_eq, decide_eq_true_eq]
  constructor
  · rintro ⟨x, hx, e⟩
    have : x = h := by omega
    exact this ▸ hx
  · intro hm
    exact ⟨h, hm, rfl⟩
theorem take_more {α β : Type} {l : List α} {f : α → β} {i : Nat} {z : α} (h : l[i]? = some z) : (l.take (i + 1)).map f = (l.take i).map f ++ [f z] := by
  rw [List.take_add_one, h, List.map_append] <;> rfl
theorem at_up {hs : List (Option Nat)} {b : Nat} (h : b < hs.length) : atI (hs.map hV) ((b : Nat) : Int) = some (hV (up hs b)) := atI_nat (by rw [List.getElem?_map, up_at h] <;> rfl)
theorem lineL {n : Nat} (h : n ≤ 1000) : n < sizeLine := small1000 h
theorem lineE {n : Nat} (h : n ≤ 1000) : n ≤ sizeLine := Nat.le_of_lt (small1000 h)
end
/-! ### the shapes that == asks -/
structure Sh (n : Nat) (d : PyData) : Prop where
  lay : d.canLay0 = true
  dep : d.depth ≤ n
theorem sh_ok {n : Nat} {d : PyData} (s : Sh n d) (h : n ≤ 64 := by decide) : SeqAt.shaped d = true := by
  unfold SeqAt.shaped
  rw [s.lay, decide_eq_true (Nat.le_trans s.dep h)] <;> rfl
theorem sh_all {n : Nat} : ∀ {ds : List PyData}, (∀ d ∈ ds, Sh n d) → PyData.canLayAll0 ds = true ∧ PyData.depthAll ds ≤ n
  | [], _ => ⟨by simp [PyData.canLayAll0], by simp [PyData.depthAll]⟩
  | d :: ds, h => by
    obtain ⟨h1, h2⟩ := sh_all fun x hx => h x (List.mem_cons_of_mem _ hx)
    have h3 := h d List.mem_cons_self
    simp only [PyData.canLayAll0, PyData.depthAll]
    refine ⟨by rw [h3.lay, h1] <;> rfl, ?_⟩
    have := h3.dep
    omega
theorem sh_list {n : Nat} {ds : List PyData} (h : ∀ d ∈ ds, Sh n d) : Sh (n + 1) (.list ds) := by
  obtain ⟨h1, h2⟩ := sh_all h
  exact ⟨by simpa [PyData.canLay0] using h1, by simp only [PyData.depth]; omega⟩
theorem sh_tup {n : Nat} {ds : List PyData} (h : ∀ d ∈ ds, Sh n d) : Sh (n + 1) (.tuple ds) := by
  obtain ⟨h1, h2⟩ := sh_all h
  exact ⟨by simpa [PyData.canLay0] using h1, by simp only [PyData.depth]; omega⟩
theorem sh_int (i : Int) : Sh 0 (.int i) := ⟨by simp [PyData.canLay0], by simp [PyData.depth]⟩
theorem sh_non : Sh 0 .none := ⟨by simp [PyData.canLay0], by simp [PyData.depth]⟩
def pD : Option Int → PyData
  | none => .none
  | some i => .int i
def hD : Option Nat → PyData
  | none => .none
  | some i => .int (i : Int)
theorem sh_pD (o : Option Int) : Sh 0 (pD o) := by cases o; exact sh_non; exact sh_int _
theorem sh_hD (o : Option Nat) : Sh 0 (hD o) := by cases o; exact sh_non; exact sh_int _
def yD (Y : Yd) : PyData := .tuple (Y.map fun z => .tuple [pD z.1, hD z.2])
theorem sh_yD (Y : Yd) : Sh 2 (yD Y) := sh_tup fun d hd => by
  obtain ⟨z, _, rfl⟩ := List.mem_map.mp hd
  refine sh_tup fun d hd => ?_
  rcases List.mem_cons.mp hd with e | hd
  · exact e ▸ sh_pD _
  · rw [List.mem_singleton.mp hd]
    exact sh_hD _
section
variable {K : PySem.W.Frag} {H : Hp}
theorem dp_pV (o : Option Int) : Dp K H (pV o) (pD o) := by cases o; exact .non; exact .int _
theorem dp_hV (o : Option Nat) : Dp K H (hV o) (hD o) := by cases o; exact .non; exact .int _
theorem dps_of {xs : List V} {ds : List PyData} (hl : xs.length = ds.length) (h : ∀ (i : Nat) (x : V) (d : PyData), xs[i]? = some x → ds[i]? = some d → Dp K H x d) : DpAll K H xs ds := by
  induction xs generalizing ds with
  | nil =>
    cases ds with
    | nil => exact .nil
    | cons d ds => cases hl
  | cons x xs ih =>
    cases ds with
    | nil => cases hl
    | cons d ds => exact .cons (h 0 x d rfl rfl) (ih (Nat.succ.inj hl) fun i y e h1 h2 => h (i + 1) y e (by simpa using h1) (by simpa using h2))
theorem dps_map {α : Type} {f : α → V} {g : α → PyData} (h : ∀ a, Dp K H (f a) (g a)) : ∀ l : List α, DpAll K H (l.map f) (l.map g)
  | [] => .nil
  | a :: l => .cons (h a) (dps_map h l)
theorem dp_yard {a : Addr} {Y : Yd} (y : YAt K H a Y) : Dp K H (.ref a) (yD Y) := by
  obtain ⟨rs, h1, r⟩ := y
  refine .tup h1 (dps_of (by rw [List.length_map]; exact r.len) fun i x d hx hd => ?_)
  obtain ⟨z, q, hz, rfl, hq⟩ := r.get hx
  rw [List.getElem?_map, hz] at hd
  rw [← Option.some.inj hd]
  exact .tup hq (.cons (dp_pV _) (.cons (dp_hV _) .nil))
end
section
variable {P : Program} {w : World} {K : PySem.W.Frag} {mg : Str → Option Value} {base : Heap}
/-! ### is_number, is_price, is_holder -/
abbrev s_is_number : Stmt := K16.top 9
abbrev N_is_number : List Str := ["thing", "low", "high"]
abbrev P_is_number : List Str := ["thing", "low", "high"]
theorem sc_is_number : FnScope N_is_number P_is_number (C8.fnScope s_is_number) := C8.fnScope_by (by decide +kernel)
/-- of a number its place between the two; of None, of a text: False -/
def isNum : V → Int → Int → Bool
  | .int i, a, b => decide (a ≤ i) && decide (i ≤ b)
  | _, _, _ => false
def okV : V → Prop
  | .non => True
  | .int _ => True
  | .str _ => True
  | _ => False
theorem okV_hV (o : Option Nat) : okV (hV o) := by cases o <;> exact True.intro
theorem okV_pV (o : Option Int) : okV (pV o) := by cases o <;> exact True.intro
def sp_is_number : Sp := fun vs H Q _ => ∃ (v : V) (a b : Int), vs = [v, .int a, .int b] ∧ okV v ∧ Q (.bl (isNum v a b)) H
theorem c_is_number {f : Addr} {fd : FuncData} (T : Gb mg) (F : C8.Def K mg "is_number" s_is_number f fd) (b : Binds K fd P_is_number []) : C8.Cal P w K mg base 1 "is_number" sp_is_number [] := by
  refine C8.cal0 (k := 0) F b .nil sc_is_number (fun vs H Q E h => ?_) (fun cdv A outer s H vs Q E hr h => ?_)
  · obtain ⟨v, x, y, rfl, _⟩ := h
    rfl
  · obtain ⟨v, x, y, rfl, ok, q⟩ := h
    refine ⟨_, (pss_one (ps_ret (pe_and (pe_callB call_isi (by rfl) T.n_isinstance (by decide +kernel) (pa_cons (pv 0) (pa_cons (pe_bltn (v := .ty "int") (u := .type "int") (by rfl) T.n_int (by decide +kernel) rfl) pa_nil))) (pe_and (pe_not (pe_callB call_isi (by rfl) T.n_isinstance (by decide +kernel) (pa_cons (pv 0) (pa_cons (pe_bltn (v := .ty "bool") (u := .type "bool") (by rfl) T.n_bool (by decide +kernel) rfl) pa_nil)))) (pe_one (pe_chain op_le op_le (pv 1) (pv 0) (pv 2))))))), ?_⟩
    cases v with
    | non => exact ⟨_, rfl, _, _, _, _, false, rfl, .ty _, .base .non, kit_ty (by decide +kernel), false, rfl, q⟩
    | str z => exact ⟨_, rfl, _, _, _, _, false, rfl, .ty _, .base (.str _), kit_ty (by decide +kernel), false, rfl, q⟩
    | int i =>
      refine ⟨_, rfl, _, _, _, _, true, rfl, .ty _, .base (.int _), kit_ty (by decide +kernel), true, rfl, ?_⟩
      refine ⟨_, rfl, _, _, _, _, false, rfl, .ty _, .base (.int _), kit_ty (by decide +kernel), false, rfl, true, rfl, ?_⟩
      refine ⟨_, rfl, _, rfl, x, i, rfl, rfl, _, rfl, ?_⟩
      by_cases h1 : x ≤ i
      · rw [decide_eq_true h1]
        refine ⟨_, rfl, i, y, rfl, rfl, ?_⟩
        rw [show isNum (.int i) x y = decide (i ≤ y) by simp [isNum, h1]] at q
        exact q
      · rw [decide_eq_false h1]
        rw [show isNum (.int i) x y = false by simp [isNum, h1]] at q
        exact q
    | _ => exact ok.elim
abbrev s_is_price : Stmt := K16.top 10
abbrev N_is_price : List Str := ["thing"]
abbrev P_is_price : List Str := ["thing"]
theorem sc_is_price : FnScope N_is_price P_is_price (C8.fnScope s_is_price) := C8.fnScope_by (by decide +kernel)
def isPr (v : V) : Bool := decide (v = .non) || isNum v 1 99
def sp_is_price : Sp := fun vs H Q _ => ∃ v : V, vs = [v] ∧ okV v ∧ Q (.bl (isPr v)) H
theorem c_is_price {f : Addr} {fd : FuncData} (T : Gb mg) (F : C8.Def K mg "is_price" s_is_price f fd) (b : Binds K fd P_is_price []) (c_is_number : C8.Cal P w K mg base 1 "is_number" sp_is_number []) : C8.Cal P w K mg base 2 "is_price" sp_is_price [] := by
  refine C8.cal0 (k := 1) F b .nil sc_is_price (fun vs H Q E h => ?_) (fun cdv A outer s H vs Q E hr h => ?_)
  · obtain ⟨v, rfl, _⟩ := h
    rfl
  · obtain ⟨v, rfl, ok, q⟩ := h
    refine ⟨_, (pss_one (ps_ret (pe_or (pe_cmpR op_isN (pv 0) pe_non (nomark _)) (pe_one (C8.pe_c c_is_number hr (by decide) rfl (pa_cons (pv 0) (pa_cons pe_int (pa_cons (K16.pe_gl rfl T.g_MOST_PRICE) pa_nil)))))))), ?_⟩
    refine ⟨_, rfl, rfl, _, rfl, ?_⟩
    by_cases h1 : v = .non
    · rw [decide_eq_true h1]
      rw [show isPr v = true by simp [isPr, h1]] at q
      exact iteT q
    · rw [decide_eq_false h1]
      rw [show isPr v = isNum v 1 99 by simp [isPr, h1]] at q
      exact iteF ⟨_, rfl, v, 1, 99, rfl, ok, q⟩
abbrev s_is_holder : Stmt := K16.top 11
abbrev N_is_holder : List Str := ["thing", "many"]
abbrev P_is_holder : List Str := ["thing", "many"]
theorem sc_is_holder : FnScope N_is_holder P_is_holder (C8.fnScope s_is_holder) := C8.fnScope_by (by decide +kernel)
def isHo (v : V) (m : Int) : Bool := decide (v = .non) || isNum v 0 (m - 1)
def sp_is_holder : Sp := fun vs H Q _ => ∃ (v : V) (m : Int), vs = [v, .int m] ∧ okV v ∧ Q (.bl (isHo v m)) H
theorem c_is_holder {f : Addr} {fd : FuncData} (T : Gb mg) (F : C8.Def K mg "is_holder" s_is_holder f fd) (b : Binds K fd P_is_holder []) (c_is_number : C8.Cal P w K mg base 1 "is_number" sp_is_number []) : C8.Cal P w K mg base 2 "is_holder" sp_is_holder [] := by
  refine C8.cal0 (k := 1) F b .nil sc_is_holder (fun vs H Q E h => ?_) (fun cdv A outer s H vs Q E hr h => ?_)
  · obtain ⟨v, m, rfl, _⟩ := h
    rfl
  · obtain ⟨v, m, rfl, ok, q⟩ := h
    refine ⟨_, (pss_one (ps_ret (pe_or (pe_cmpR op_isN (pv 0) pe_non (nomark _)) (pe_one (C8.pe_c c_is_number hr (by decide) rfl (pa_cons (pv 0) (pa_cons pe_int (pa_cons (pe_op op_sub (pv 1) pe_int) pa_nil)))))))), ?_⟩
    refine ⟨_, rfl, rfl, _, rfl, ?_⟩
    by_cases h1 : v = .non
    · rw [decide_eq_true h1]
      rw [show isHo v m = true by simp [isHo, h1]] at q
      exact iteT q
    · rw [decide_eq_false h1]
      rw [show isHo v m = isNum v 0 (m - 1) by simp [isHo, h1]] at q
      exact iteF ⟨_, rfl, _, rfl, m, 1, rfl, rfl, v, 0, m - 1, rfl, ok, q⟩
theorem isHo_ok {o : Option Nat} {n : Nat} (h : ∀ x, o = some x → x < n) : isHo (hV o) (n : Int) = true := by
  cases o with
  | none => rfl
  | some x =>
    have := h x rfl
    show (decide (V.int (x : Int) = V.non) || (decide ((0 : Int) ≤ (x : Int)) && decide ((x : Int) ≤ (n : Int) - 1))) = true
    rw [decide_eq_true (show (0 : Int) ≤ (x : Int) by omega), decide_eq_true (show (x : Int) ≤ (n : Int) - 1 by omega)]
    simp
theorem isPr_ok {o : Option Int} (h : ∀ x, o = some x → 1 ≤ x ∧ x ≤ 99) : isPr (pV o) = true := by
  cases o with
  | none => rfl
  | some x =>
    obtain ⟨h1, h2⟩ := h x rfl
    show (decide (V.int x = V.non) || (decide (1 ≤ x) && decide (x ≤ 99))) = true
    rw [decide_eq_true h1, decide_eq_true h2]
    simp
/-! ### holders_of -/
abbrev s_holders_of : Stmt := K16.top 12
abbrev N_holders_of : List Str := ["yard", "price", "holder"]
abbrev P_holders_of : List Str := ["yard"]
theorem sc_holders_of : FnScope N_holders_of P_holders_of (C8.fnScope s_holders_of) := C8.fnScope_by (by decide +kernel)
def sp_holders_of (K : PySem.W.Frag) : Sp := fun vs H Q _ => ∃ (a : Addr) (Y : Yd), vs = [.ref a] ∧ YAt K H a Y ∧ Y.length ≤ 100 ∧ ∀ p H', Ex H H' → H' p = some (.tup ((hsOf Y).map hV)) → Q (.ref p) H'
theorem c_holders_of {f : Addr} {fd : FuncData} (T : Gb mg) (F : C8.Def K mg "holders_of" s_holders_of f fd) (b : Binds K fd P_holders_of []) : C8.Cal P w K mg base 1 "holders_of" (sp_holders_of K) [] := by
  refine C8.cal0 (k := 0) F b .nil sc_holders_of (fun vs H Q E h => ?_) (fun cdv A outer s H vs Q E hr h => ?_)
  · obtain ⟨a, Y, rfl, _⟩ := h
    rfl
  · obtain ⟨a, Y, rfl, ⟨rs, hS, R⟩, hz, q⟩ := h
    refine ⟨_, (pss_one (ps_ret (pe_callTy call_tuple_of (by rfl) T.n_tuple (by decide +kernel) (pa_cons (pe_lc (own := [("price", 1), ("holder", 2)]) (g := (gTup K 2 (gCons (gName 1) (gCons (gName 2) gNil)))) (tt := tYes) (te := (tVar 2)) rfl sc_holders_of.nd (pi_tup (pv 0)) (blkOk_by (own := [("price", 1), ("holder", 2)]) (N := N_holders_of) (sc := C8.fnScope s_holders_of) (by decide +kernel)) (fun _ _ _ _ _ => by exact (pg_tup rfl (pgs_cons (pg_name (i := 1) sc_holders_of.nd rfl (Or.inl rfl)) (pgs_cons (pg_name (i := 2) sc_holders_of.nd rfl (Or.inl rfl)) pgs_nil)))) (fun _ _ _ _ _ => by exact pts_nil) (fun _ _ _ _ _ => by exact (pv 2))) pa_nil)))), ?_⟩
    refine ⟨_, rfl, a, rfl, ⟨_, hS⟩, fun D hD => lc_tup (K := K) (a := a) (xs := rs) (fun i H1 => Ex H H1 ∧ H1 D = some (.lst ((Y.take i).map fun z => hV z.2))) ⟨Ex.new hD, upd_same⟩ (fun i H1 _ p => ex_t p.1 hS) ?_ ?_⟩
    · rintro i x H1 hx ⟨e, hl⟩
      obtain ⟨z, p, hz1, rfl, hp⟩ := R.get hx
      refine ⟨p, _, rfl, ex_t e hp, rfl, _, _, rfl, _, _, rfl, rfl, rfl, _, rfl, _, hl, lineL (by rw [List.length_map, List.length_take]; omega), Ex.mut e hD, ?_⟩
      rw [upd_same, take_more hz1]
    · rintro H1 ⟨e, hl⟩
      rw [R.len, List.take_length] at hl
      refine ⟨D, _, rfl, .inl ⟨SqL.of hl, fun p hp => q p _ (e.trans (Ex.new hp)) ?_⟩⟩
      rw [upd_same]
      unfold hsOf
      rw [List.map_map] <;> rfl
end
end K16
set_option maxHeartbeats 4000000
namespace K16
open PySem L2 Evl
section
variable {P : Program} {w : World} {K : PySem.W.Frag} {mg : Str → Option Value} {base : Heap}
/-! ### ring_from -/
abbrev s_ring_from : Stmt := K16.top 13
abbrev N_ring_from : List Str := ["holders", "box", "path", "here"]
abbrev P_ring_from : List Str := ["holders", "box"]
theorem sc_ring_from : FnScope N_ring_from P_ring_from (C8.fnScope s_ring_from) := C8.fnScope_by (by decide +kernel)
def sp_ring_from (K : PySem.W.Frag) : Sp := fun vs H Q _ => ∃ (a : Addr) (hs : List (Option Nat)) (b k : Nat) (p : List Nat) (o : Option Nat), vs = [.ref a, nV b] ∧ SqT K H a (hs.map hV) ∧ Clo hs ∧ hs.length ≤ 100 ∧ b < hs.length ∧
  Path (up hs) k [] (some b) p o ∧ ∀ q H', Ex H H' → H q = none → H' q = some (.lst ((ringOf p o).map nV)) → Q (.ref q) H'
theorem idx_at {p : List Nat} {h : Nat} (hm : h ∈ p) : (p.map nV)[p.idxOf h]? = some (nV h) := by
  rw [List.getElem?_map, List.getElem?_eq_getElem (List.idxOf_lt_length_iff.mpr hm), List.getElem_idxOf]
  rfl
theorem idx_no {p : List Nat} {h m : Nat} {z : V} (hm : m < p.idxOf h) (hz : (p.map nV)[m]? = some z) : eqV z (nV h) = false := by
  rw [List.getElem?_map] at hz
  cases e : p[m]? with
  | none => rw [e] at hz; cases hz
  | some x =>
    rw [e] at hz
    rw [← Option.some.inj hz]
    have hx : x ≠ h := by
      intro z
      have h1 := List.not_of_lt_findIdx (p := fun y => y == h) (xs := p) hm
      have h2 := (List.getElem?_eq_some_iff.mp e)
      obtain ⟨h3, h4⟩ := h2
      rw [h4, z] at h1
      simp at h1
    show ((x : Int) == (h : Int)) = false
    rw [beq_eq_false_iff_ne]
    omega
theorem cut_from (p : List Nat) (i : Nat) (hi : i ≤ p.length) : cutV (p.map nV) (some (i : Int)) none = (p.drop i).map nV := by
  unfold cutV
  rw [HT.sIx_nat, HT.sIx_none, List.length_map, Nat.min_eq_left hi, List.map_drop, List.take_of_length_le (by rw [List.length_drop, List.length_map]; omega)]
theorem c_ring_from {f : Addr} {fd : FuncData} (T : Gb mg) (F : C8.Def K mg "ring_from" s_ring_from f fd) (b : Binds K fd P_ring_from []) : C8.Cal P w K mg base 1 "ring_from" (sp_ring_from K) [] := by
  refine C8.cal0 (k := 0) F b .nil sc_ring_from (fun vs H Q E h => ?_) (fun cdv A outer s H vs Q E hr h => ?_)
  · obtain ⟨a, hs, b, k, p, o, rfl, _⟩ := h
    rfl
  · obtain ⟨a, hs, b, k, p', o', rfl, hS, cl, hz, hb, hp, q⟩ := h
    refine ⟨_, (pss_cons (ps_par (i := 2) (j := 3) rfl sc_ring_from.nd rfl rfl (by decide) rfl rfl (pa_cons (pe_lst pa_nil) (pa_cons (pv 1) pa_nil)) (by rfl))
      (pss_cons (ps_while PassesOwn.never (PW.pt (pw_and (pt_cmpR op_notN (pv 3) pe_non (nomark _)) (pw_and1 (pt_cmpR op_notIn_seq (pv 3) (pv 2) (by with_unfolding_all rfl)))))
        (pss_cons (ps_expr (pe_bm PySem.F.plainAttrs_list PySem.F.slot_list_append PySem.F.type_list_append mt_append (pv 2) (pa_cons (pv 3) pa_nil)))
      (pss_one (ps_set (i := 3) sc_ring_from.nd rfl (Or.inl rfl) (pe_ix ix_tup (pv 0) (pv 3) (fun _ _ => rfl))))))
      (pss_one (ps_ret (pe_ifExp (pt_cmpR op_isN (pv 3) pe_non (nomark _)) (pe_lst pa_nil) (pe_slice sl_list (pv 2) (po_some (pe_bm PySem.F.plainAttrs_list PySem.F.slot_list_index PySem.F.type_list_index (mt_index) (pv 2) (pa_cons (pv 3) pa_nil))) po_none)))))), ?_⟩
    refine ⟨lineE (Nat.zero_le _), fun L hL => ⟨_, rfl, _, _, rfl, ?_⟩⟩
    refine ⟨fun m σ H1 => ∃ p o, σ = [some (.ref a), some (nV b), some (.ref L), some (hV o)] ∧ Ex H H1 ∧ H1 L = some (.lst (p.map nV)) ∧ Path (up hs) m p o p' o' ∧ p.Nodup ∧ (∀ x ∈ p, x < hs.length) ∧ (∀ x, o = some x → x < hs.length),
      ⟨k, [], some b, rfl, Ex.new hL, upd_same, hp, List.nodup_nil, fun x hx => (nomatch hx), fun x hx => Option.some.inj hx ▸ hb⟩, ?_⟩
    rintro m σ H1 ⟨p, o, rfl, e, hl, hp, nd, lt, lo⟩
    have finish : p' = p → o' = o → (o = none ∨ ∃ h, o = some h ∧ h ∈ p) → (tRet (tIf (tTest (tOp rIsN (tVar 3) (tC .non))) (tLst tNil) (tSl (rSlL K) (tVar 2) (tPart (tBM K "list" (rIndex K) (tVar 2) (tCons (tVar 3) tNil))) tNoPart))) { nx := fun _ H' => Q .non H', rt := Q } [some (.ref a), some (nV b), some (.ref L), some (hV o)] H1 := by
      intro e1 e2 hc
      rw [e1, e2] at q
      cases o with
      | none =>
        refine ⟨_, rfl, rfl, true, rfl, ?_⟩
        exact ⟨lineE (Nat.zero_le _), fun l hl' => q l _ (e.trans (Ex.new hl')) (fresh_back e hl') (by rw [upd_same]; rfl)⟩
      | some h =>
        obtain ⟨h', e', hm⟩ := hc.resolve_left (fun z => nomatch z)
        cases e'
        have hi : p.idxOf h < p.length := List.idxOf_lt_length_iff.mpr hm
        refine ⟨_, rfl, rfl, false, rfl, _, rfl, _, rfl, .inl ⟨rfl, _, SqL.of hl⟩, _, rfl, L, _, nV h, p.idxOf h, nV h, rfl, rfl, SqL.of hl, rfl, nVs_flat p, idx_at hm, by simp [eqV], fun m z' h1 h2 => idx_no h1 h2, ?_⟩
        refine ⟨_, rfl, L, _, rfl, SqL.of hl, fun l hl' => q l _ (e.trans (Ex.new hl')) (fresh_back e hl') ?_⟩
        rw [upd_same, cut_from p _ (Nat.le_of_lt hi)]
        rfl
    cases hp with
    | floor =>
      refine ⟨_, rfl, rfl, false, rfl, ?_⟩
      exact finish rfl rfl (.inl rfl)
    | @again _ h hm =>
      refine ⟨_, rfl, rfl, true, rfl, _, rfl, _, rfl, L, _, rfl, .inl (SqL.of hl), rfl, nVs_flat _, false, ?_, ?_⟩
      · show V.bl (!inV (nV h) (List.map nV _)) = V.bl false
        rw [inV_nV, decide_eq_true hm]; rfl
      · exact finish rfl rfl (.inr ⟨h, rfl, hm⟩)
    | @step j h _ _ _ hm hp =>
      have hh := lo h rfl
      have pl : p.length ≤ hs.length := small_len _ _ nd lt
      refine ⟨_, rfl, rfl, true, rfl, _, rfl, _, rfl, L, _, rfl, .inl (SqL.of hl), rfl, nVs_flat _, true, ?_, ?_⟩
      · show V.bl (!inV (nV h) (List.map nV _)) = V.bl true
        rw [inV_nV, decide_eq_false hm]; rfl
      · refine ⟨_, fun σ' H' z => ⟨j, Nat.lt_succ_self _, z⟩, ?_⟩
        refine ⟨_, rfl, .inl ⟨rfl, _, SqL.of hl⟩, _, rfl, L, _, _, rfl, rfl, hl, lineL (by rw [List.length_map]; omega), ?_⟩
        refine ⟨_, rfl, _, rfl, a, _, _, _, rfl, rfl, ex_t (Ex.mut e hL) hS, at_up hh, ?_⟩
        refine ⟨p ++ [h], up hs h, rfl, Ex.mut e hL, by rw [upd_same, List.map_append]; rfl, hp, ?_, ?_, fun x hx => cl h x hx⟩
        · exact List.nodup_append.mpr ⟨nd, List.nodup_cons.mpr ⟨by simp, List.nodup_nil⟩, fun a ha b hb z => hm (by rw [List.mem_singleton.mp hb] at z; exact z ▸ ha)⟩
        · intro x hx
          rcases List.mem_append.mp hx with z | z
          · exact lt x z
          · rw [List.mem_singleton.mp z]
            exact hh
/-! ### first_in_itself -/
abbrev s_first_in_itself : Stmt := K16.top 14
abbrev N_first_in_itself : List Str := ["holders", "box"]
abbrev P_first_in_itself : List Str := ["holders"]
theorem sc_first_in_itself : FnScope N_first_in_itself P_first_in_itself (C8.fnScope s_first_in_itself) := C8.fnScope_by (by decide +kernel)
def sp_first_in_itself (K : PySem.W.Frag) : Sp := fun vs H Q _ => ∃ (a : Addr) (hs : List (Option Nat)), vs = [.ref a] ∧ SqT K H a (hs.map hV) ∧ For hs ∧ hs.length ≤ 100 ∧ ∀ H', Ex H H' → Q .non H'
theorem c_first_in_itself {f : Addr} {fd : FuncData} (T : Gb mg) (F : C8.Def K mg "first_in_itself" s_first_in_itself f fd) (b : Binds K fd P_first_in_itself []) (c_ring_from : C8.Cal P w K mg base 1 "ring_from" (sp_ring_from K) []) :
    C8.Cal P w K mg base 2 "first_in_itself" (sp_first_in_itself K) [] := by
  refine C8.cal0 (k := 1) F b .nil sc_first_in_itself (fun vs H Q E h => ?_) (fun cdv A outer s H vs Q E hr h => ?_)
  · obtain ⟨a, hs, rfl, _⟩ := h
    rfl
  · obtain ⟨a, hs, rfl, hS, fo, hz, q⟩ := h
    refine ⟨_, (pss_cons (ps_for PassesOwn.never rfl (pi_range1 (by rfl) T.n_range (pa_cons (pe_callB call_len_seq (by rfl) T.n_len (by decide +kernel) (pa_cons (pv 0) pa_nil)) pa_nil)) (pg_name (i := 1) sc_first_in_itself.nd rfl (Or.inl rfl))
        (pss_one (ps_if (pt_cmpR op_in_seq (pv 1) (C8.pe_c c_ring_from hr (by decide) rfl (pa_cons (pv 0) (pa_cons (pv 1) pa_nil))) (by with_unfolding_all rfl)) (pss_one (ps_ret (pv 1))) pss_nil)))
      (pss_one (ps_ret pe_non))), ?_⟩
    refine ⟨_, rfl, a, _, rfl, .inr hS, _, rfl, by rw [List.length_map]; omega, by rw [List.length_map]; omega, for_range (lo := 0) (fun i σ H1 => ∃ v : Option V, σ = [some (.ref a), v] ∧ Ex H H1) ⟨none, rfl, Ex.refl H⟩ ?_ ?_⟩
    · rintro i σ H1 hi ⟨v, rfl, e⟩
      rw [List.length_map] at hi
      have hi : i < hs.length := by omega
      obtain ⟨k, p, hp⟩ := for_path fo i
      have e0 : ((0 : Int) + (i : Int)) = (i : Int) := Int.zero_add _
      rw [e0]
      refine ⟨_, rfl, ⟨_, rfl, _, rfl, a, hs, i, k, p, none, rfl, ex_t e hS, fo.1, hz, hi, hp, fun l H2 e2 _ hl => ?_⟩⟩
      exact ⟨l, _, rfl, .inl (SqL.of hl), rfl, rfl, false, rfl, _, rfl, e.trans e2⟩
    · rintro σ H1 ⟨v, rfl, e⟩
      exact q H1 e
end
end K16
set_option maxHeartbeats 4000000
namespace K16
open PySem L2 Evl
theorem dec_no {i j : Int} (h : i ≠ j) : V.bl (decide (V.int i = V.int j)) = V.bl false := congrArg V.bl (decide_eq_false fun z => h (V.int.inj z))
theorem dec_yes {i j : Int} (h : i = j) : V.bl (decide (V.int i = V.int j)) = V.bl true := congrArg V.bl (decide_eq_true (congrArg V.int h))
/-- a wish's entry: open, or a holder -/
def wV : Option (Option Nat) → V
  | none => .str "open"
  | some o => hV o
structure VW (n : Nat) (W : List (Option (Option Nat))) : Prop where
  len : W.length = n
  lt : ∀ x ∈ W, ∀ h, x = some (some h) → h < n
/-- a goal of n boxes -/
structure VG (n : Nat) (gs : List (Option Nat)) : Prop where
  len : gs.length = n
  fo : For gs
section
variable {P : Program} {w : World} {K : PySem.W.Frag} {mg : Str → Option Value} {base : Heap}
/-! ### need_yard -/
abbrev s_need_yard : Stmt := K16.top 15
abbrev N_need_yard : List Str := ["yard", "number", "box"]
abbrev P_need_yard : List Str := ["yard"]
theorem sc_need_yard : FnScope N_need_yard P_need_yard (C8.fnScope s_need_yard) := C8.fnScope_by (by decide +kernel)
def sp_need_yard (K : PySem.W.Frag) : Sp := fun vs H Q _ => ∃ (a : Addr) (Y : Yd), vs = [.ref a] ∧ YAt K H a Y ∧ VY Y ∧ ∀ H', Ex H H' → Q .non H'
theorem c_need_yard {f : Addr} {fd : FuncData} (T : Gb mg) (F : C8.Def K mg "need_yard" s_need_yard f fd) (b : Binds K fd P_need_yard []) (c_is_price : C8.Cal P w K mg base 2 "is_price" sp_is_price []) (c_is_holder : C8.Cal P w K mg base 2 "is_holder" sp_is_holder [])
    (c_holders_of : C8.Cal P w K mg base 1 "holders_of" (sp_holders_of K) []) (c_first_in_itself : C8.Cal P w K mg base 2 "first_in_itself" (sp_first_in_itself K) []) : C8.Cal P w K mg base 3 "need_yard" (sp_need_yard K) [] := by
  refine C8.cal0 (k := 2) F b .nil sc_need_yard (fun vs H Q E h => ?_) (fun cdv A outer s H vs Q E hr h => ?_)
  · obtain ⟨a, Y, rfl, _⟩ := h
    rfl
  · obtain ⟨a, Y, rfl, hY, ok, q⟩ := h
    obtain ⟨rs, hS, R⟩ := id hY
    have hn := ok.ne
    have hle := ok.le
    refine ⟨_, (pss_cons (ps_if (PW.pt (pw_or (pt_not (pt_val (pe_callB call_isi (by rfl) T.n_isinstance (by decide +kernel) (pa_cons (pv 0) (pa_cons (pe_bltn (v := .ty "tuple") (u := .type "tuple") (by rfl) T.n_tuple (by decide +kernel) rfl) pa_nil))))) (pw_or1 (pt_cmpR (op_eqD hr.units) (pv 0) (pe_tup pa_nil) (nomark _))))) (pss_one ps_never) pss_nil)
      (pss_cons (ps_for PassesOwn.never rfl (K16.pi_enumT (by rfl) T.n_enumerate (pa_cons (pv 0) pa_nil)) (pg_tup rfl (pgs_cons (pg_name (i := 1) sc_need_yard.nd rfl (Or.inl rfl)) (pgs_cons (pg_name (i := 2) sc_need_yard.nd rfl (Or.inl rfl)) pgs_nil)))
        (pss_cons (ps_if (PW.pt (pw_or (pt_cmpR op_eq (pv 1) (K16.pe_gl rfl T.g_MOST_BOXES) (nomark _)) (pw_or (pt_not (pt_val (pe_callB call_isi (by rfl) T.n_isinstance (by decide +kernel) (pa_cons (pv 2) (pa_cons (pe_bltn (v := .ty "tuple") (u := .type "tuple") (by rfl) T.n_tuple (by decide +kernel) rfl) pa_nil))))) (pw_or1 (pt_cmpR op_ne (pe_callB call_len_seq (by rfl) T.n_len (by decide +kernel) (pa_cons (pv 2) pa_nil)) pe_int (nomark _)))))) (pss_one ps_never) pss_nil)
      (pss_one (ps_if (PW.pt (pw_or (pt_not (pt_val (C8.pe_c c_is_price hr (by decide) rfl (pa_cons (pe_ix ix_tup (pv 2) pe_int (fun _ _ => rfl)) pa_nil)))) (pw_or1 (pt_not (pt_val (C8.pe_c c_is_holder hr (by decide) rfl (pa_cons (pe_ix ix_tup (pv 2) pe_int (fun _ _ => rfl)) (pa_cons (pe_callB call_len_seq (by rfl) T.n_len (by decide +kernel) (pa_cons (pv 0) pa_nil)) pa_nil)))))))) (pss_one ps_never) pss_nil))))
      (pss_cons (ps_set (i := 1) sc_need_yard.nd rfl (Or.inl rfl) (C8.pe_c c_first_in_itself hr (by decide) rfl (pa_cons (C8.pe_c c_holders_of hr (by decide) rfl (pa_cons (pv 0) pa_nil)) pa_nil)))
      (pss_one (ps_if (pt_cmpR op_notN (pv 1) pe_non (nomark _)) (pss_one ps_never) pss_nil))))), ?_⟩
    refine ⟨_, rfl, _, _, _, _, true, rfl, .ty _, tyx_tup hS, kit_ty (by decide +kernel), true, rfl, _, rfl, lineE (Nat.zero_le _), fun p0 hp0 => ?_⟩
    have e0 : Ex H (upd H p0 (.tup [])) := Ex.new hp0
    refine ⟨yD Y, .tuple [], dp_yard (hY.mono e0), .tup (SqT.of upd_same) .nil, sh_ok (sh_yD Y), rfl, false, ?_, ?_⟩
    · cases Y with
      | nil => exact absurd hn (Nat.lt_irrefl _)
      | cons z Y => rfl
    refine ⟨_, rfl, a, rs, rfl, ex_t e0 hS, for_it walk_enumT (fun i σ H1 => ∃ v1 v2 : Option V, σ = [some (.ref a), v1, v2] ∧ Ex H H1) ⟨none, none, rfl, e0⟩ (fun i σ H1 _ ⟨_, _, _, e⟩ => ex_t e hS) ?_ ?_⟩
    · rintro i x σ H1 H2 hi ⟨v1, v2, rfl, e1⟩ ⟨t, x1, x2, rfl, nt, rfl, hx1, hx2⟩
      cases Option.some.inj hx1
      obtain ⟨z, p, hz, rfl, hp⟩ := R.get hx2
      have e2 : Ex H (upd H1 t (.tup [.int (i : Nat), .ref p])) := e1.trans (Ex.new nt)
      have hm := List.mem_of_getElem? hz
      have hp2 := ex_t e2 hp
      rw [R.len] at hi
      refine ⟨t, _, rfl, SqT.of upd_same, rfl, _, _, rfl, _, _, rfl, rfl, ?_⟩
      refine ⟨_, rfl, rfl, false, dec_no (by omega), ?_⟩
      refine ⟨_, rfl, _, _, _, _, true, rfl, .ty _, tyx_tup hp2, kit_ty (by decide +kernel), true, rfl, ?_⟩
      refine ⟨_, rfl, p, _, rfl, .inr hp2, rfl, false, rfl, ?_⟩
      have ip := isPr_ok (ok.pr z hm)
      have ih : isHo (hV z.2) (Y.length : Int) = true := isHo_ok fun h e => by
        have := ok.fo.1 i h (by
          rw [up_of (o := z.2) (by unfold hsOf; rw [List.getElem?_map, hz] <;> rfl)]
          exact e)
        rwa [hsOf_len] at this
      refine ⟨_, rfl, p, _, 0, pV z.1, rfl, rfl, hp2, rfl, pV z.1, rfl, okV_pV _, true, congrArg V.bl ip, ?_⟩
      refine ⟨_, rfl, p, _, 1, hV z.2, rfl, rfl, hp2, rfl, _, rfl, a, rs, rfl, .inr (ex_t e2 hS), ?_⟩
      refine ⟨hV z.2, _, rfl, okV_hV _, true, congrArg V.bl (by rw [R.len]; exact ih), ?_⟩
      exact ⟨_, _, rfl, e2⟩
    · rintro σ H1 ⟨v1, v2, rfl, e1⟩
      refine ⟨_, rfl, a, Y, rfl, hY.mono e1, by omega, fun p H2 e2 hp => ?_⟩
      refine ⟨p, hsOf Y, rfl, SqT.of hp, ok.fo, by rw [hsOf_len]; omega, fun H3 e3 => ?_⟩
      exact ⟨_, rfl, rfl, false, rfl, q H3 (e1.trans (e2.trans e3))⟩
/-! ### need_wish -/
abbrev s_need_wish : Stmt := K16.top 16
abbrev N_need_wish : List Str := ["yard", "wish", "number", "holder", "is_open"]
abbrev P_need_wish : List Str := ["yard", "wish"]
theorem sc_need_wish : FnScope N_need_wish P_need_wish (C8.fnScope s_need_wish) := C8.fnScope_by (by decide +kernel)
def sp_need_wish (K : PySem.W.Frag) : Sp := fun vs H Q _ => ∃ (a c : Addr) (Y : Yd) (W : List (Option (Option Nat))), vs = [.ref a, .ref c] ∧ YAt K H a Y ∧ VW Y.length W ∧ Y.length ≤ 100 ∧ SqT K H c (W.map wV) ∧ ∀ H', Ex H H' → Q .non H'
theorem c_need_wish {f : Addr} {fd : FuncData} (T : Gb mg) (F : C8.Def K mg "need_wish" s_need_wish f fd) (b : Binds K fd P_need_wish []) (c_is_holder : C8.Cal P w K mg base 2 "is_holder" sp_is_holder []) : C8.Cal P w K mg base 3 "need_wish" (sp_need_wish K) [] := by
  refine C8.cal0 (k := 2) F b .nil sc_need_wish (fun vs H Q E h => ?_) (fun cdv A outer s H vs Q E hr h => ?_)
  · obtain ⟨a, c, Y, W, rfl, _⟩ := h
    rfl
  · obtain ⟨a, c, Y, W, rfl, ⟨rs, hS, R⟩, ok, hle, hW, q⟩ := h
    refine ⟨_, (pss_cons (ps_if (pt_not (pt_val (pe_callB call_isi (by rfl) T.n_isinstance (by decide +kernel) (pa_cons (pv 1) (pa_cons (pe_bltn (v := .ty "tuple") (u := .type "tuple") (by rfl) T.n_tuple (by decide +kernel) rfl) pa_nil))))) (pss_one ps_never) pss_nil)
      (pss_cons (ps_for PassesOwn.never rfl (K16.pi_enumT (by rfl) T.n_enumerate (pa_cons (pv 1) pa_nil)) (pg_tup rfl (pgs_cons (pg_name (i := 2) sc_need_wish.nd rfl (Or.inl rfl)) (pgs_cons (pg_name (i := 3) sc_need_wish.nd rfl (Or.inl rfl)) pgs_nil)))
        (pss_cons (ps_set (i := 4) sc_need_wish.nd rfl (Or.inl rfl) (pe_and (pe_callB call_isi (by rfl) T.n_isinstance (by decide +kernel) (pa_cons (pv 3) (pa_cons (pe_bltn (v := .ty "str") (u := .type "str") (by rfl) T.n_str (by decide +kernel) rfl) pa_nil))) (pe_one (pe_cmpR op_eq (pv 3) (K16.pe_gl rfl T.g_OPEN) (nomark _)))))
      (pss_one (ps_if (PW.pt (pw_or (pt_cmpR op_eq (pv 2) (pe_callB call_len_seq (by rfl) T.n_len (by decide +kernel) (pa_cons (pv 0) pa_nil)) (nomark _)) (pw_or1 (PW.pt (pw_and (pt_not (pt_val (pv 4))) (pw_and1 (pt_not (pt_val (C8.pe_c c_is_holder hr (by decide) rfl (pa_cons (pv 3) (pa_cons (pe_callB call_len_seq (by rfl) T.n_len (by decide +kernel) (pa_cons (pv 0) pa_nil)) pa_nil))))))))))) (pss_one ps_never) pss_nil))))
      (pss_one (ps_if (pt_cmpR op_lt (pe_callB call_len_seq (by rfl) T.n_len (by decide +kernel) (pa_cons (pv 1) pa_nil)) (pe_callB call_len_seq (by rfl) T.n_len (by decide +kernel) (pa_cons (pv 0) pa_nil)) (nomark _)) (pss_one ps_never) pss_nil)))), ?_⟩
    refine ⟨_, rfl, _, _, _, _, true, rfl, .ty _, tyx_tup hW, kit_ty (by decide +kernel), true, rfl, ?_⟩
    refine ⟨_, rfl, c, _, rfl, hW, for_it walk_enumT (fun i σ H1 => ∃ v1 v2 v3 : Option V, σ = [some (.ref a), some (.ref c), v1, v2, v3] ∧ Ex H H1) ⟨none, none, none, rfl, Ex.refl H⟩ (fun i σ H1 _ ⟨_, _, _, _, e⟩ => ex_t e hW) ?_ ?_⟩
    · rintro i x σ H1 H2 hi ⟨v1, v2, v3, rfl, e1⟩ ⟨t, x1, x2, rfl, nt, rfl, hx1, hx2⟩
      cases Option.some.inj hx1
      rw [List.length_map, ok.len] at hi
      have e2 : Ex H (upd H1 t (.tup [.int (i : Nat), x2])) := e1.trans (Ex.new nt)
      have hx2 : (W.map wV)[i]? = some x2 := hx2
      rw [List.getElem?_map] at hx2
      cases ez : W[i]? with
      | none => rw [ez] at hx2; cases hx2
      | some z =>
        rw [ez] at hx2
        cases Option.some.inj hx2
        have hm := List.mem_of_getElem? ez
        refine ⟨t, _, rfl, SqT.of upd_same, rfl, _, _, rfl, _, _, rfl, rfl, ?_⟩
        cases z with
        | none =>
          refine ⟨_, rfl, _, _, _, _, true, rfl, .ty _, .base (.str _), kit_ty (by decide +kernel), true, rfl, _, rfl, rfl, ?_⟩
          refine ⟨_, rfl, _, rfl, a, rs, rfl, .inr (ex_t e2 hS), rfl, false, dec_no (by rw [R.len]; omega), ?_⟩
          refine ⟨_, rfl, true, congrArg V.bl (decide_eq_true rfl), ?_⟩
          exact ⟨_, _, _, rfl, e2⟩
        | some o =>
          obtain ⟨ty, hty, hk⟩ : ∃ ty : String, TyX K (upd H1 t (.tup [.int (i : Nat), hV o])) (hV o) (.type ty) ∧ PySem.W.kitOne K (.type ty) (.type "str") = some false := by
            cases o with
            | none => exact ⟨_, .base .non, kit_ty (by decide +kernel)⟩
            | some _ => exact ⟨_, .base (.int _), kit_ty (by decide +kernel)⟩
          refine ⟨_, rfl, _, _, _, _, false, rfl, .ty _, hty, hk, false, rfl, ?_⟩
          refine ⟨_, rfl, _, rfl, a, rs, rfl, .inr (ex_t e2 hS), rfl, false, dec_no (by rw [R.len]; omega), ?_⟩
          refine ⟨_, rfl, false, rfl, ?_⟩
          refine ⟨_, rfl, _, rfl, a, rs, rfl, .inr (ex_t e2 hS), hV o, _, rfl, okV_hV _, true, congrArg V.bl ?_, ?_⟩
          · rw [R.len]
            exact isHo_ok fun h e => ok.lt _ hm h (by rw [e])
          exact ⟨_, _, _, rfl, e2⟩
    · rintro σ H1 ⟨v1, v2, v3, rfl, e1⟩
      refine ⟨_, rfl, c, _, rfl, .inr (ex_t e1 hW), _, rfl, a, rs, rfl, .inr (ex_t e1 hS), _, _, rfl, rfl, false, congrArg V.bl (decide_eq_false ?_), q H1 e1⟩
      rw [List.length_map, ok.len, R.len]
      omega
/-! ### need_goal -/
abbrev s_need_goal : Stmt := K16.top 17
abbrev N_need_goal : List Str := ["yard", "goal", "number", "holder"]
abbrev P_need_goal : List Str := ["yard", "goal"]
theorem sc_need_goal : FnScope N_need_goal P_need_goal (C8.fnScope s_need_goal) := C8.fnScope_by (by decide +kernel)
def sp_need_goal (K : PySem.W.Frag) : Sp := fun vs H Q _ => ∃ (a c : Addr) (Y : Yd) (gs : List (Option Nat)), vs = [.ref a, .ref c] ∧ YAt K H a Y ∧ VG Y.length gs ∧ Y.length ≤ 100 ∧ SqT K H c (gs.map hV) ∧ ∀ H', Ex H H' → Q .non H'
theorem c_need_goal {f : Addr} {fd : FuncData} (T : Gb mg) (F : C8.Def K mg "need_goal" s_need_goal f fd) (b : Binds K fd P_need_goal []) (c_is_holder : C8.Cal P w K mg base 2 "is_holder" sp_is_holder [])
    (c_first_in_itself : C8.Cal P w K mg base 2 "first_in_itself" (sp_first_in_itself K) []) : C8.Cal P w K mg base 3 "need_goal" (sp_need_goal K) [] := by
  refine C8.cal0 (k := 2) F b .nil sc_need_goal (fun vs H Q E h => ?_) (fun cdv A outer s H vs Q E hr h => ?_)
  · obtain ⟨a, c, Y, W, rfl, _⟩ := h
    rfl
  · obtain ⟨a, c, Y, gs, rfl, ⟨rs, hS, R⟩, ok, hle, hW, q⟩ := h
    refine ⟨_, (pss_cons (ps_if (pt_not (pt_val (pe_callB call_isi (by rfl) T.n_isinstance (by decide +kernel) (pa_cons (pv 1) (pa_cons (pe_bltn (v := .ty "tuple") (u := .type "tuple") (by rfl) T.n_tuple (by decide +kernel) rfl) pa_nil))))) (pss_one ps_never) pss_nil)
      (pss_cons (ps_for PassesOwn.never rfl (K16.pi_enumT (by rfl) T.n_enumerate (pa_cons (pv 1) pa_nil)) (pg_tup rfl (pgs_cons (pg_name (i := 2) sc_need_goal.nd rfl (Or.inl rfl)) (pgs_cons (pg_name (i := 3) sc_need_goal.nd rfl (Or.inl rfl)) pgs_nil)))
        (pss_one (ps_if (PW.pt (pw_or (pt_cmpR op_eq (pv 2) (pe_callB call_len_seq (by rfl) T.n_len (by decide +kernel) (pa_cons (pv 0) pa_nil)) (nomark _)) (pw_or1 (pt_not (pt_val (C8.pe_c c_is_holder hr (by decide) rfl (pa_cons (pv 3) (pa_cons (pe_callB call_len_seq (by rfl) T.n_len (by decide +kernel) (pa_cons (pv 0) pa_nil)) pa_nil)))))))) (pss_one ps_never) pss_nil)))
      (pss_cons (ps_if (pt_cmpR op_lt (pe_callB call_len_seq (by rfl) T.n_len (by decide +kernel) (pa_cons (pv 1) pa_nil)) (pe_callB call_len_seq (by rfl) T.n_len (by decide +kernel) (pa_cons (pv 0) pa_nil)) (nomark _)) (pss_one ps_never) pss_nil)
      (pss_cons (ps_set (i := 2) sc_need_goal.nd rfl (Or.inl rfl) (C8.pe_c c_first_in_itself hr (by decide) rfl (pa_cons (pv 1) pa_nil)))
      (pss_one (ps_if (pt_cmpR op_notN (pv 2) pe_non (nomark _)) (pss_one ps_never) pss_nil)))))), ?_⟩
    refine ⟨_, rfl, _, _, _, _, true, rfl, .ty _, tyx_tup hW, kit_ty (by decide +kernel), true, rfl, ?_⟩
    refine ⟨_, rfl, c, _, rfl, hW, for_it walk_enumT (fun i σ H1 => ∃ v1 v2 : Option V, σ = [some (.ref a), some (.ref c), v1, v2] ∧ Ex H H1) ⟨none, none, rfl, Ex.refl H⟩ (fun i σ H1 _ ⟨_, _, _, e⟩ => ex_t e hW) ?_ ?_⟩
    · rintro i x σ H1 H2 hi ⟨v1, v2, rfl, e1⟩ ⟨t, x1, x2, rfl, nt, rfl, hx1, hx2⟩
      cases Option.some.inj hx1
      rw [List.length_map, ok.len] at hi
      have e2 : Ex H (upd H1 t (.tup [.int (i : Nat), x2])) := e1.trans (Ex.new nt)
      have hx2 : (gs.map hV)[i]? = some x2 := hx2
      rw [List.getElem?_map, up_at (by rw [ok.len]; exact hi)] at hx2
      cases Option.some.inj hx2
      refine ⟨t, _, rfl, SqT.of upd_same, rfl, _, _, rfl, _, _, rfl, rfl, ?_⟩
      refine ⟨_, rfl, _, rfl, a, rs, rfl, .inr (ex_t e2 hS), rfl, false, dec_no (by rw [R.len]; omega), ?_⟩
      refine ⟨_, rfl, _, rfl, a, rs, rfl, .inr (ex_t e2 hS), hV (up gs i), _, rfl, okV_hV _, true, congrArg V.bl ?_, ?_⟩
      · rw [R.len]
        exact isHo_ok fun h e => ok.len ▸ ok.fo.1 i h e
      exact ⟨_, _, rfl, e2⟩
    · rintro σ H1 ⟨v1, v2, rfl, e1⟩
      refine ⟨_, rfl, c, _, rfl, .inr (ex_t e1 hW), _, rfl, a, rs, rfl, .inr (ex_t e1 hS), _, _, rfl, rfl, false, congrArg V.bl (decide_eq_false ?_), ?_⟩
      · rw [List.length_map, ok.len, R.len]
        omega
      refine ⟨_, rfl, c, gs, rfl, ex_t e1 hW, ok.fo, by rw [ok.len]; omega, fun H2 e2 => ?_⟩
      exact ⟨_, rfl, rfl, false, rfl, q H2 (e1.trans e2)⟩
/-! ### need_box -/
abbrev s_need_box : Stmt := K16.top 18
abbrev N_need_box : List Str := ["yard", "box"]
abbrev P_need_box : List Str := ["yard", "box"]
theorem sc_need_box : FnScope N_need_box P_need_box (C8.fnScope s_need_box) := C8.fnScope_by (by decide +kernel)
def sp_need_box (K : PySem.W.Frag) : Sp := fun vs H Q _ => ∃ (a : Addr) (Y : Yd) (k : Nat), vs = [.ref a, nV k] ∧ YAt K H a Y ∧ k < Y.length ∧ Q .non H
theorem c_need_box {f : Addr} {fd : FuncData} (T : Gb mg) (F : C8.Def K mg "need_box" s_need_box f fd) (b : Binds K fd P_need_box []) (c_is_number : C8.Cal P w K mg base 1 "is_number" sp_is_number []) : C8.Cal P w K mg base 2 "need_box" (sp_need_box K) [] := by
  refine C8.cal0 (k := 1) F b .nil sc_need_box (fun vs H Q E h => ?_) (fun cdv A outer s H vs Q E hr h => ?_)
  · obtain ⟨a, Y, k, rfl, _⟩ := h
    rfl
  · obtain ⟨a, Y, k, rfl, ⟨rs, hS, R⟩, hk, q⟩ := h
    refine ⟨_, (pss_one (ps_if (pt_not (pt_val (C8.pe_c c_is_number hr (by decide) rfl (pa_cons (pv 1) (pa_cons pe_int (pa_cons (pe_op op_sub (pe_callB call_len_seq (by rfl) T.n_len (by decide +kernel) (pa_cons (pv 0) pa_nil)) pe_int) pa_nil)))))) (pss_one ps_never) pss_nil)), ?_⟩
    refine ⟨_, rfl, _, rfl, a, rs, rfl, .inr hS, _, _, rfl, rfl, nV k, 0, _, rfl, True.intro, true, congrArg V.bl ?_, q⟩
    show (decide ((0 : Int) ≤ (k : Int)) && decide ((k : Int) ≤ (rs.length : Int) - 1)) = true
    rw [R.len, decide_eq_true (by omega), decide_eq_true (by omega)] <;> rfl
end
end K16
set_option maxHeartbeats 4000000
namespace K16
open PySem L2 Evl
/-- what is in a box: the boxes whose chain bears it -/
noncomputable def insd (hs : List (Option Nat)) (n b : Nat) : List Nat := (List.range n).filter fun x => decide (b ∈ chn hs x)
noncomputable def undr (hs : List (Option Nat)) (b : Nat) : Option Nat → Bool
  | none => false
  | some h => decide (h = b) || decide (b ∈ chn hs h)
theorem filt_yes {p : Nat → Bool} {i : Nat} (h : p i = true) : ((List.range (i + 1)).filter p).map nV = ((List.range i).filter p).map nV ++ [nV i] := by
  rw [List.range_succ, List.filter_append, List.filter_cons, if_pos h, List.map_append] <;> rfl
theorem filt_no {p : Nat → Bool} {i : Nat} (h : p i = false) : ((List.range (i + 1)).filter p).map nV = ((List.range i).filter p).map nV := by
  rw [List.range_succ, List.filter_append, List.filter_cons, if_neg (by rw [h]; decide), List.filter_nil, List.append_nil]
theorem filt_len (p : Nat → Bool) (i : Nat) : (((List.range i).filter p).map nV).length ≤ i := by
  rw [List.length_map]
  have := List.length_filter_le p (List.range i)
  rwa [List.length_range] at this
theorem rmap_more {f : Nat → V} {i : Nat} : (List.range (i + 1)).map f = (List.range i).map f ++ [f i] := by
  rw [List.range_succ, List.map_append] <;> rfl
section
variable {K : PySem.W.Frag} {H : Hp}
/-- t + u, both tracked -/
theorem cat_go {p1 p2 : Addr} {xs ys : List V} {Q : VK} (h1 : H p1 = some (.tup xs)) (h2 : H p2 = some (.tup ys)) (hz : xs.length + ys.length ≤ 1000) (k : ∀ p H', Ex H H' → H' p = some (.tup (xs ++ ys)) → Q (.ref p) H') : rCatA K (.ref p1) (.ref p2) H Q := by
  refine ⟨p1, p2, xs, ys, rfl, rfl, SqT.of h1, SqT.of h2, lineE hz, fun e => ?_, fun _ e => ?_, fun _ _ p hp => k p _ (Ex.new hp) upd_same⟩
  · exact k p2 H (Ex.refl H) (by rw [e]; exact h2)
  · exact k p1 H (Ex.refl H) (by rw [e, List.append_nil]; exact h1)
/-- t[lo:hi], not the whole -/
theorem sl_go {a : Addr} {xs : List V} {lo hi : Option Int} {Q : VK} (h : SqT K H a xs) (nw : ¬ (HT.sIx xs.length 0 lo = 0 ∧ HT.sIx xs.length xs.length hi = xs.length)) (k : ∀ p, H p = none → Q (.ref p) (upd H p (.tup (cutV xs lo hi)))) : rSlA K (.ref a) lo hi H Q :=
  ⟨a, xs, rfl, h, fun z => absurd z nw, fun _ => k⟩
theorem cut_to (xs : List V) (i : Nat) (hi : i ≤ xs.length) : cutV xs none (some (i : Int)) = xs.take i := by
  unfold cutV
  rw [HT.sIx_nat, HT.sIx_none, Nat.min_eq_left hi, List.drop_zero, Nat.sub_zero]
theorem cut_fr (xs : List V) (i : Nat) (hi : i ≤ xs.length) : cutV xs (some (i : Int)) none = xs.drop i := by
  unfold cutV
  rw [HT.sIx_nat, HT.sIx_none, Nat.min_eq_left hi, List.take_of_length_le (by rw [List.length_drop]; omega)]
theorem set_split {hs : List (Option Nat)} {b : Nat} (o : Option Nat) (hb : b < hs.length) : ((hs.map hV).take b ++ [hV o]) ++ (hs.map hV).drop (b + 1) = (hs.set b o).map hV := by
  rw [List.map_set, List.set_eq_take_append_cons_drop, if_pos (by rw [List.length_map]; exact hb), List.append_assoc]
  rfl
end
section
variable {P : Program} {w : World} {K : PySem.W.Frag} {mg : Str → Option Value} {base : Heap}
/-! ### chain_of -/
abbrev s_chain_of : Stmt := K16.top 19
abbrev N_chain_of : List Str := ["holders", "box", "found", "here"]
abbrev P_chain_of : List Str := ["holders", "box"]
theorem sc_chain_of : FnScope N_chain_of P_chain_of (C8.fnScope s_chain_of) := C8.fnScope_by (by decide +kernel)
def sp_chain_of (K : PySem.W.Frag) : Sp := fun vs H Q _ => ∃ (a : Addr) (hs : List (Option Nat)) (b : Nat), vs = [.ref a, nV b] ∧ SqT K H a (hs.map hV) ∧ For hs ∧ hs.length ≤ 100 ∧ b < hs.length ∧
  ∀ q H', Ex H H' → H q = none → H' q = some (.lst ((chn hs b).map nV)) → Q (.ref q) H'
theorem c_chain_of {f : Addr} {fd : FuncData} (T : Gb mg) (F : C8.Def K mg "chain_of" s_chain_of f fd) (b : Binds K fd P_chain_of []) : C8.Cal P w K mg base 1 "chain_of" (sp_chain_of K) [] := by
  refine C8.cal0 (k := 0) F b .nil sc_chain_of (fun vs H Q E h => ?_) (fun cdv A outer s H vs Q E hr h => ?_)
  · obtain ⟨a, hs, b, rfl, _⟩ := h
    rfl
  · obtain ⟨a, hs, b, rfl, hS, fo, hz, hb, q⟩ := h
    have hl := for_chn_len fo b
    refine ⟨_, (pss_cons (ps_par (i := 2) (j := 3) rfl sc_chain_of.nd rfl rfl (by decide) rfl rfl (pa_cons (pe_lst pa_nil) (pa_cons (pe_ix ix_tup (pv 0) (pv 1) (fun _ _ => rfl)) pa_nil)) (by rfl))
      (pss_cons (ps_while PassesOwn.never (pt_cmpR op_notN (pv 3) pe_non (nomark _))
        (pss_cons (ps_expr (pe_bm PySem.F.plainAttrs_list PySem.F.slot_list_append PySem.F.type_list_append mt_append (pv 2) (pa_cons (pv 3) pa_nil)))
      (pss_one (ps_set (i := 3) sc_chain_of.nd rfl (Or.inl rfl) (pe_ix ix_tup (pv 0) (pv 3) (fun _ _ => rfl))))))
      (pss_one (ps_ret (pv 2))))), ?_⟩
    refine ⟨lineE (Nat.zero_le _), fun L hL => ⟨_, rfl, _, rfl, a, _, _, _, rfl, rfl, ex_t (Ex.new hL) hS, at_up hb, _, _, rfl, ?_⟩⟩
    refine ⟨fun m σ H1 => ∃ (l : List Nat) (o : Option Nat), σ = [some (.ref a), some (nV b), some (.ref L), some (hV o)] ∧ Ex H H1 ∧ H1 L = some (.lst (l.map nV)) ∧ ∃ r, r.length = m ∧ Chain (up hs) o r ∧ l ++ r = chn hs b ∧ (∀ x, o = some x → x < hs.length),
      ⟨_, [], up hs b, rfl, Ex.new hL, upd_same, chn hs b, rfl, for_chn fo b, rfl, fun x hx => fo.1 b x hx⟩, ?_⟩
    rintro m σ H1 ⟨l, o, rfl, e, hl1, r, hm, hc, hlr, lo⟩
    cases hc with
    | stop =>
      refine ⟨_, rfl, rfl, false, rfl, ?_⟩
      rw [List.append_nil] at hlr
      exact ⟨_, rfl, q L H1 e hL (by rw [← hlr]; exact hl1)⟩
    | @step h r hc =>
      refine ⟨_, rfl, rfl, true, rfl, _, fun σ' H' z => ⟨r.length, by rw [← hm, List.length_cons]; exact Nat.lt_succ_self _, z⟩, ?_⟩
      have hll := congrArg List.length hlr
      rw [List.length_append, List.length_cons] at hll
      refine ⟨_, rfl, .inl ⟨rfl, _, SqL.of hl1⟩, _, rfl, L, _, _, rfl, rfl, hl1, lineL (by rw [List.length_map]; omega), ?_⟩
      refine ⟨_, rfl, _, rfl, a, _, _, _, rfl, rfl, ex_t (Ex.mut e hL) hS, at_up (lo h rfl), ?_⟩
      refine ⟨l ++ [h], up hs h, rfl, Ex.mut e hL, by rw [upd_same, List.map_append]; rfl, r, rfl, hc, ?_, fun x hx => fo.1 h x hx⟩
      rw [List.append_assoc]
      exact hlr
/-! ### inside -/
abbrev s_inside : Stmt := K16.top 20
abbrev N_inside : List Str := ["yard", "box", "holders", "one"]
abbrev P_inside : List Str := ["yard", "box"]
theorem sc_inside : FnScope N_inside P_inside (C8.fnScope s_inside) := C8.fnScope_by (by decide +kernel)
def sp_inside (K : PySem.W.Frag) : Sp := fun vs H Q _ => ∃ (a : Addr) (Y : Yd) (b : Nat), vs = [.ref a, nV b] ∧ YAt K H a Y ∧ VY Y ∧ b < Y.length ∧ ∀ q H', Ex H H' → H' q = some (.lst ((insd (hsOf Y) Y.length b).map nV)) → Q (.ref q) H'
theorem c_inside {f : Addr} {fd : FuncData} (T : Gb mg) (F : C8.Def K mg "inside" s_inside f fd) (b : Binds K fd P_inside []) (c_need_yard : C8.Cal P w K mg base 3 "need_yard" (sp_need_yard K) []) (c_need_box : C8.Cal P w K mg base 2 "need_box" (sp_need_box K) [])
    (c_holders_of : C8.Cal P w K mg base 1 "holders_of" (sp_holders_of K) []) (c_chain_of : C8.Cal P w K mg base 1 "chain_of" (sp_chain_of K) []) : C8.Cal P w K mg base 4 "inside" (sp_inside K) [] := by
  refine C8.cal0 (k := 3) F b .nil sc_inside (fun vs H Q E h => ?_) (fun cdv A outer s H vs Q E hr h => ?_)
  · obtain ⟨a, Y, b, rfl, _⟩ := h
    rfl
  · obtain ⟨a, Y, b, rfl, hY, ok, hb, q⟩ := h
    have hle := ok.le
    refine ⟨_, (pss_cons (ps_expr (C8.pe_c c_need_yard hr (by decide) rfl (pa_cons (pv 0) pa_nil)))
      (pss_cons (ps_expr (C8.pe_c c_need_box hr (by decide) rfl (pa_cons (pv 0) (pa_cons (pv 1) pa_nil))))
      (pss_cons (ps_set (i := 2) sc_inside.nd rfl (Or.inr rfl) (C8.pe_c c_holders_of hr (by decide) rfl (pa_cons (pv 0) pa_nil)))
      (pss_one (ps_ret (pe_lc (own := [("one", 3)]) (g := (gName 3)) (tt := (tTest (tOp (rIn K false) (tVar 1) (tCall (sp_chain_of K) [] C8.E0 (tCons (tVar 2) (tCons (tVar 3) tNil)))))) (te := (tVar 3)) rfl sc_inside.nd (pi_range1 (by rfl) T.n_range (pa_cons (pe_callB call_len_seq (by rfl) T.n_len (by decide +kernel) (pa_cons (pv 0) pa_nil)) pa_nil)) (blkOk_by (own := [("one", 3)]) (N := N_inside) (sc := C8.fnScope s_inside) (by decide +kernel)) (fun _ _ _ _ _ => by exact (pg_name (i := 3) sc_inside.nd rfl (Or.inl rfl))) (fun _ _ _ _ _ => by exact (pts_one (pt_cmpR op_in_seq (pv 1) (C8.pe_c c_chain_of hr (by decide) rfl (pa_cons (pv 2) (pa_cons (pv 3) pa_nil))) (by with_unfolding_all rfl)))) (fun _ _ _ _ _ => by exact (pv 3)))))))), ?_⟩
    refine ⟨_, rfl, a, Y, rfl, hY, ok, fun H1 e1 => ?_⟩
    refine ⟨_, rfl, _, rfl, a, Y, b, rfl, hY.mono e1, hb, ?_⟩
    refine ⟨_, rfl, a, Y, rfl, hY.mono e1, by omega, fun p H2 e2 hp => ?_⟩
    obtain ⟨rs, hS, R⟩ := hY.mono (e1.trans e2)
    refine ⟨_, rfl, a, rs, rfl, .inr hS, _, rfl, by rw [R.len]; omega, by rw [R.len]; omega, fun D hD => ?_⟩
    refine lc_range (lo := 0) (n := ((rs.length : Nat) : Int).toNat) (fun i H3 => Ex H2 H3 ∧ H3 D = some (.lst (((List.range i).filter fun x => decide (b ∈ chn (hsOf Y) x)).map nV))) ⟨Ex.new hD, upd_same⟩ ?_ ?_
    · rintro i H3 hi ⟨e3, hl⟩
      have e0 : ((0 : Int) + (i : Int)) = (i : Int) := Int.zero_add _
      rw [e0]
      have hi : i < Y.length := by have := R.len; omega
      refine ⟨rfl, _, rfl, _, rfl, _, rfl, p, hsOf Y, i, rfl, SqT.of (e3 _ _ hp), ok.fo, by rw [hsOf_len]; omega, by rw [hsOf_len]; omega, fun l H4 e4 nl hl4 => ?_⟩
      have hD4 := e4 D _ hl
      by_cases hm : b ∈ chn (hsOf Y) i
      · refine ⟨l, _, rfl, .inl (SqL.of hl4), rfl, nVs_flat _, true, congrArg V.bl ((inV_nV _ _).trans (decide_eq_true hm)), ?_⟩
        refine ⟨_, rfl, _, hD4, lineL (Nat.le_trans (filt_len _ i) (by omega)), Ex.mut (e3.trans e4) hD, ?_⟩
        rw [upd_same, filt_yes (decide_eq_true hm)]
      · refine ⟨l, _, rfl, .inl (SqL.of hl4), rfl, nVs_flat _, false, congrArg V.bl ((inV_nV _ _).trans (decide_eq_false hm)), ?_⟩
        exact ⟨e3.trans e4, by rw [filt_no (decide_eq_false hm)]; exact hD4⟩
    · rintro H3 ⟨e3, hl⟩
      refine q D H3 (e1.trans (e2.trans e3)) ?_
      rw [hl, show ((rs.length : Nat) : Int).toNat = Y.length by rw [R.len]; omega]
      rfl
/-! ### depths -/
abbrev s_depths : Stmt := K16.top 21
abbrev N_depths : List Str := ["yard", "holders", "box"]
abbrev P_depths : List Str := ["yard"]
theorem sc_depths : FnScope N_depths P_depths (C8.fnScope s_depths) := C8.fnScope_by (by decide +kernel)
def sp_depths (K : PySem.W.Frag) : Sp := fun vs H Q _ => ∃ (a : Addr) (Y : Yd), vs = [.ref a] ∧ YAt K H a Y ∧ VY Y ∧ ∀ q H', Ex H H' → H' q = some (.lst ((List.range Y.length).map fun b => nV (chn (hsOf Y) b).length)) → Q (.ref q) H'
theorem c_depths {f : Addr} {fd : FuncData} (T : Gb mg) (F : C8.Def K mg "depths" s_depths f fd) (b : Binds K fd P_depths []) (c_need_yard : C8.Cal P w K mg base 3 "need_yard" (sp_need_yard K) [])
    (c_holders_of : C8.Cal P w K mg base 1 "holders_of" (sp_holders_of K) []) (c_chain_of : C8.Cal P w K mg base 1 "chain_of" (sp_chain_of K) []) : C8.Cal P w K mg base 4 "depths" (sp_depths K) [] := by
  refine C8.cal0 (k := 3) F b .nil sc_depths (fun vs H Q E h => ?_) (fun cdv A outer s H vs Q E hr h => ?_)
  · obtain ⟨a, Y, rfl, _⟩ := h
    rfl
  · obtain ⟨a, Y, rfl, hY, ok, q⟩ := h
    have hle := ok.le
    refine ⟨_, (pss_cons (ps_expr (C8.pe_c c_need_yard hr (by decide) rfl (pa_cons (pv 0) pa_nil)))
      (pss_cons (ps_set (i := 1) sc_depths.nd rfl (Or.inr rfl) (C8.pe_c c_holders_of hr (by decide) rfl (pa_cons (pv 0) pa_nil)))
      (pss_one (ps_ret (pe_lc (own := [("box", 2)]) (g := (gName 2)) (tt := tYes) (te := (tCB (rLenS K) (tCons (tCall (sp_chain_of K) [] C8.E0 (tCons (tVar 1) (tCons (tVar 2) tNil))) tNil))) rfl sc_depths.nd (pi_range1 (by rfl) T.n_range (pa_cons (pe_callB call_len_seq (by rfl) T.n_len (by decide +kernel) (pa_cons (pv 0) pa_nil)) pa_nil)) (blkOk_by (own := [("box", 2)]) (N := N_depths) (sc := C8.fnScope s_depths) (by decide +kernel)) (fun _ _ _ _ _ => by exact (pg_name (i := 2) sc_depths.nd rfl (Or.inl rfl))) (fun _ _ _ _ _ => by exact pts_nil) (fun _ _ _ _ _ => by exact (pe_callB call_len_seq (by rfl) T.n_len (by decide +kernel) (pa_cons (C8.pe_c c_chain_of hr (by decide) rfl (pa_cons (pv 1) (pa_cons (pv 2) pa_nil))) pa_nil)))))))), ?_⟩
    refine ⟨_, rfl, a, Y, rfl, hY, ok, fun H1 e1 => ?_⟩
    refine ⟨_, rfl, a, Y, rfl, hY.mono e1, by omega, fun p H2 e2 hp => ?_⟩
    obtain ⟨rs, hS, R⟩ := hY.mono (e1.trans e2)
    refine ⟨_, rfl, a, rs, rfl, .inr hS, _, rfl, by rw [R.len]; omega, by rw [R.len]; omega, fun D hD => ?_⟩
    refine lc_range (lo := 0) (n := ((rs.length : Nat) : Int).toNat) (fun i H3 => Ex H2 H3 ∧ H3 D = some (.lst ((List.range i).map fun b => nV (chn (hsOf Y) b).length))) ⟨Ex.new hD, upd_same⟩ ?_ ?_
    · rintro i H3 hi ⟨e3, hl⟩
      have e0 : ((0 : Int) + (i : Int)) = (i : Int) := Int.zero_add _
      rw [e0]
      have hi : i < Y.length := by have := R.len; omega
      refine ⟨rfl, _, rfl, _, rfl, p, hsOf Y, i, rfl, SqT.of (e3 _ _ hp), ok.fo, by rw [hsOf_len]; omega, by rw [hsOf_len]; omega, fun l H4 e4 nl hl4 => ?_⟩
      refine ⟨l, _, rfl, .inl (SqL.of hl4), _, e4 D _ hl, lineL (by rw [List.length_map, List.length_range]; omega), Ex.mut (e3.trans e4) hD, ?_⟩
      rw [upd_same, rmap_more, List.length_map]
    · rintro H3 ⟨e3, hl⟩
      refine q D H3 (e1.trans (e2.trans e3)) ?_
      rw [hl, show ((rs.length : Nat) : Int).toNat = Y.length by rw [R.len]; omega]
/-! ### is_under, placed -/
abbrev s_is_under : Stmt := K16.top 23
abbrev N_is_under : List Str := ["holders", "box", "holder"]
abbrev P_is_under : List Str := ["holders", "box", "holder"]
theorem sc_is_under : FnScope N_is_under P_is_under (C8.fnScope s_is_under) := C8.fnScope_by (by decide +kernel)
def sp_is_under (K : PySem.W.Frag) : Sp := fun vs H Q _ => ∃ (a : Addr) (hs : List (Option Nat)) (b : Nat) (o : Option Nat), vs = [.ref a, nV b, hV o] ∧ SqT K H a (hs.map hV) ∧ For hs ∧ hs.length ≤ 100 ∧ (∀ x, o = some x → x < hs.length) ∧ ∀ H', Ex H H' → Q (.bl (undr hs b o)) H'
theorem c_is_under {f : Addr} {fd : FuncData} (T : Gb mg) (F : C8.Def K mg "is_under" s_is_under f fd) (b : Binds K fd P_is_under []) (c_chain_of : C8.Cal P w K mg base 1 "chain_of" (sp_chain_of K) []) : C8.Cal P w K mg base 2 "is_under" (sp_is_under K) [] := by
  refine C8.cal0 (k := 1) F b .nil sc_is_under (fun vs H Q E h => ?_) (fun cdv A outer s H vs Q E hr h => ?_)
  · obtain ⟨a, hs, b, o, rfl, _⟩ := h
    rfl
  · obtain ⟨a, hs, b, o, rfl, hS, fo, hz, lo, q⟩ := h
    refine ⟨_, (pss_one (ps_ret (pe_and (pe_cmpR op_notN (pv 2) pe_non (nomark _)) (pe_one (pe_or (pe_cmpR op_eq (pv 2) (pv 1) (nomark _)) (pe_one (pe_cmpR op_in_seq (pv 1) (C8.pe_c c_chain_of hr (by decide) rfl (pa_cons (pv 0) (pa_cons (pv 2) pa_nil))) (by with_unfolding_all rfl)))))))), ?_⟩
    cases o with
    | none => exact ⟨_, rfl, rfl, false, rfl, q H (Ex.refl H)⟩
    | some h =>
      refine ⟨_, rfl, rfl, true, rfl, _, rfl, _, rfl, rfl, decide (V.int (h : Int) = V.int (b : Int)), rfl, ?_⟩
      by_cases e : h = b
      · rw [if_pos (decide_eq_true (by rw [e]))]
        have := q H (Ex.refl H)
        rwa [show undr hs b (some h) = true by simp [undr, e]] at this
      · rw [if_neg (by rw [decide_eq_false (fun z => e (by have := V.int.inj z; omega))]; decide)]
        refine ⟨_, rfl, _, rfl, _, rfl, a, hs, h, rfl, hS, fo, hz, lo h rfl, fun l H1 e1 nl hl => ?_⟩
        refine ⟨l, _, rfl, .inl (SqL.of hl), rfl, nVs_flat _, ?_⟩
        have := q H1 e1
        rw [show undr hs b (some h) = inV (nV b) ((chn hs h).map nV) by rw [inV_nV]; simp [undr, e]] at this
        exact this
abbrev s_placed : Stmt := K16.top 24
abbrev N_placed : List Str := ["holders", "box", "holder"]
abbrev P_placed : List Str := ["holders", "box", "holder"]
theorem sc_placed : FnScope N_placed P_placed (C8.fnScope s_placed) := C8.fnScope_by (by decide +kernel)
def sp_placed (K : PySem.W.Frag) : Sp := fun vs H Q _ => ∃ (a : Addr) (hs : List (Option Nat)) (b : Nat) (o : Option Nat), vs = [.ref a, nV b, hV o] ∧ SqT K H a (hs.map hV) ∧ hs.length ≤ 100 ∧ b < hs.length ∧ ∀ p H', Ex H H' → H' p = some (.tup ((hs.set b o).map hV)) → Q (.ref p) H'
theorem c_placed {f : Addr} {fd : FuncData} (T : Gb mg) (F : C8.Def K mg "placed" s_placed f fd) (b : Binds K fd P_placed []) : C8.Cal P w K mg base 1 "placed" (sp_placed K) [] := by
  refine C8.cal0 (k := 0) F b .nil sc_placed (fun vs H Q E h => ?_) (fun cdv A outer s H vs Q E hr h => ?_)
  · obtain ⟨a, hs, b, o, rfl, _⟩ := h
    rfl
  · obtain ⟨a, hs, b, o, rfl, hS, hz, hb, q⟩ := h
    have hl : (hs.map hV).length = hs.length := List.length_map _
    refine ⟨_, (pss_one (ps_ret (pe_op op_catA (pe_op op_catA (pe_slice sl_tupA (pv 0) po_none (po_some (pv 1))) (pe_tup (pa_cons (pv 2) pa_nil))) (pe_slice sl_tupA (pv 0) (po_some (pe_op op_add (pv 1) pe_int)) po_none)))), ?_⟩
    refine ⟨_, rfl, _, rfl, b, rfl, sl_go hS ?_ fun p1 hp1 => ?_⟩
    · rw [HT.sIx_nat, hl]
      omega
    refine ⟨_, rfl, lineE (by show 1 ≤ 1000; decide), fun p2 hp2 => ?_⟩
    rw [cut_to _ _ (by rw [hl]; omega)]
    have n12 : p1 ≠ p2 := ne_of_none (upd_same (H := H) (a := p1) (o := .tup ((hs.map hV).take b))) (by rw [← cut_to (hs.map hV) b (by rw [hl]; omega)]; exact hp2)
    rw [cut_to _ _ (by rw [hl]; omega)] at hp2
    refine cat_go (xs := (hs.map hV).take b) (ys := [hV o]) (by rw [upd_ne n12, upd_same]) upd_same (by rw [List.length_take]; simp; omega) fun p3 H3 e3 h3 => ?_
    have e03 : Ex H H3 := (Ex.new hp1).trans ((Ex.new hp2).trans e3)
    refine ⟨_, rfl, _, rfl, b, 1, rfl, rfl, _, rfl, ?_⟩
    dsimp only [tNoPart]
    refine sl_go (ex_t e03 hS) ?_ fun p4 hp4 => ?_
    · have : ((b : Int) + 1) = ((b + 1 : Nat) : Int) := by omega
      rw [this, HT.sIx_nat, hl]
      omega
    have eb : ((b : Int) + 1) = ((b + 1 : Nat) : Int) := by omega
    rw [eb, cut_fr _ _ (by rw [hl]; omega)]
    have hp5 : H3 p4 = none := hp4
    have n34 : p3 ≠ p4 := ne_of_none h3 hp5
    refine cat_go (xs := (hs.map hV).take b ++ [hV o]) (ys := (hs.map hV).drop (b + 1)) (by rw [upd_ne n34]; exact h3) upd_same ?_ fun p5 H5 e5 h5 => ?_
    · rw [List.length_append, List.length_take, List.length_drop, hl]
      simp
      omega
    · refine q p5 H5 (e03.trans ((Ex.new hp5).trans e5)) ?_
      rw [h5, set_split o hb]
end
end K16
set_option maxHeartbeats 4000000
namespace K16
open PySem L2 Evl
/-! ### attributes in a written list -/
theorem lk_y {f : Str} {v : V} {r : List (Str × V)} : List.lookup f ((f, v) :: r) = some v := by simp [List.lookup]
theorem lk_n {f g : Str} {v : V} {r : List (Str × V)} (h : ¬ f = g) : List.lookup f ((g, v) :: r) = List.lookup f r := by
  have : (f == g) = false := beq_eq_false_iff_ne.mpr h
  simp [List.lookup, this]
theorem pf_n {f g : Str} {v x : V} {r : List (Str × V)} (h : ¬ g = f) : putF f v ((g, x) :: r) = (g, x) :: putF f v r := if_neg h
theorem lk_0 {f : Str} : List.lookup f ([] : List (Str × V)) = none := rfl
/-- a box's price -/
def pr (Y : Yd) (b : Nat) : Option Int := (Y.getD b (none, none)).1
theorem pr_at {Y : Yd} {b : Nat} {z : Option Int × Option Nat} (h : Y[b]? = some z) : pr Y b = z.1 := by
  unfold pr
  rw [List.getD_eq_getElem?_getD, h] <;> rfl
theorem up_hs {Y : Yd} {b : Nat} {z : Option Int × Option Nat} (h : Y[b]? = some z) : up (hsOf Y) b = z.2 := up_of (by unfold hsOf; rw [List.getElem?_map, h] <;> rfl)
/-- the boxes whose holder is another one -/
def someOf (hs gs : List (Option Nat)) : List Nat := (List.range hs.length).filter fun b => !decide (up hs b = up gs b)
theorem some_lt {hs gs : List (Option Nat)} {b : Nat} (h : b ∈ someOf hs gs) : b < hs.length := List.mem_range.mp (List.mem_filter.mp h).1
theorem some_len (hs gs : List (Option Nat)) : (someOf hs gs).length ≤ hs.length := by
  have := List.length_filter_le (fun b => !decide (up hs b = up gs b)) (List.range hs.length)
  rwa [List.length_range] at this
def mayB (Y : Yd) (gs : List (Option Nat)) : Bool := (someOf (hsOf Y) gs).all fun b => (pr Y b).isSome
theorem may_eq {Y : Yd} : ∀ l : List Nat, (l.all fun b => (pr Y b).isSome) = !(l.map fun b => decide (pr Y b = none)).any id
  | [] => rfl
  | b :: l => by
    rw [List.all_cons, List.map_cons, List.any_cons, may_eq l, Bool.not_or]
    congr 1
    cases pr Y b <;> simp
def costN (Y : Yd) (gs : List (Option Nat)) : Int := ((someOf (hsOf Y) gs).map fun b => (pr Y b).getD 0).sum
theorem hV_inj {o u : Option Nat} (h : hV o = hV u) : o = u := by
  cases o <;> cases u
  · rfl
  · cases h
  · cases h
  · have := V.int.inj h
    rw [show _ = _ from Int.ofNat.inj this]
theorem dec_hV (o u : Option Nat) : decide (hV o = hV u) = decide (o = u) := by
  by_cases h : o = u
  · rw [h]
    simp
  · rw [decide_eq_false h, decide_eq_false fun z => h (hV_inj z)]
theorem scal_hV (o u : Option Nat) : scal (hV o) (hV u) = true := by cases o <;> cases u <;> rfl
/-! ### the class Task -/
structure TaskC (K : PySem.W.Frag) (C : Addr) : Prop where
  cl : Cls K C
  nB : NoAttr K C "boxes"
  nW : NoAttr K C "wanted"
  nH : NoAttr K C "holders"
  nS : NoAttr K C "some"
def tF (a c h s : Addr) : List (Str × V) := [("boxes", .ref a), ("wanted", .ref c), ("holders", .ref h), ("some", .ref s)]
theorem tF_b (a c h s : Addr) : List.lookup ("boxes" : Str) (tF a c h s) = some (.ref a) := lk_y
theorem tF_w (a c h s : Addr) : List.lookup ("wanted" : Str) (tF a c h s) = some (.ref c) := (lk_n (by decide +kernel)).trans lk_y
theorem tF_h (a c h s : Addr) : List.lookup ("holders" : Str) (tF a c h s) = some (.ref h) := (lk_n (by decide +kernel)).trans ((lk_n (by decide +kernel)).trans lk_y)
theorem tF_s (a c h s : Addr) : List.lookup ("some" : Str) (tF a c h s) = some (.ref s) := (lk_n (by decide +kernel)).trans ((lk_n (by decide +kernel)).trans ((lk_n (by decide +kernel)).trans lk_y))
theorem tF_no {m : Str} (a c h s : Addr) (h1 : ¬ m = "boxes") (h2 : ¬ m = "wanted") (h3 : ¬ m = "holders") (h4 : ¬ m = "some") : List.lookup m (tF a c h s) = none :=
  (lk_n h1).trans ((lk_n h2).trans ((lk_n h3).trans ((lk_n h4).trans lk_0)))
def tF1 (a : Addr) : List (Str × V) := [("boxes", .ref a)]
def tF2 (a c : Addr) : List (Str × V) := [("boxes", .ref a), ("wanted", .ref c)]
def tF3 (a c h : Addr) : List (Str × V) := [("boxes", .ref a), ("wanted", .ref c), ("holders", .ref h)]
theorem tF_1 (a : Addr) : putF "boxes" (.ref a) [] = tF1 a := rfl
theorem tF_2 (a c : Addr) : putF "wanted" (.ref c) (tF1 a) = tF2 a c := pf_n (by decide +kernel)
theorem tF_3 (a c h : Addr) : putF "holders" (.ref h) (tF2 a c) = tF3 a c h := (pf_n (by decide +kernel)).trans (congrArg _ (pf_n (by decide +kernel)))
theorem tF_4 (a c h s : Addr) : putF "some" (.ref s) (tF3 a c h) = tF a c h s := (pf_n (by decide +kernel)).trans (congrArg _ ((pf_n (by decide +kernel)).trans (congrArg _ (pf_n (by decide +kernel)))))
/-- a Task at t: of the yard at a, the goal at c -/
def TaskAt (K : PySem.W.Frag) (C : Addr) (H : Hp) (t : Addr) (Y : Yd) (gs : List (Option Nat)) : Prop := ∃ dx a c h s : Addr, H t = some (.ins C dx (tF a c h s)) ∧ YAt K H a Y ∧ SqT K H c (gs.map hV) ∧ H h = some (.tup ((hsOf Y).map hV)) ∧ H s = some (.lst ((someOf (hsOf Y) gs).map nV))
section
variable {K : PySem.W.Frag} {H H' : Hp} {C t a : Addr} {Y : Yd} {gs : List (Option Nat)}
theorem TaskAt.mono (e : Ex H H') (x : TaskAt K C H t Y gs) : TaskAt K C H' t Y gs := by
  obtain ⟨dx, a, c, h, s, h1, h2, h3, h4, h5⟩ := x
  exact ⟨dx, a, c, h, s, e _ _ h1, h2.mono e, ex_t e h3, e _ _ h4, e _ _ h5⟩
theorem rows_pr {rs : List V} (R : Rows K H rs Y) {b : Nat} (hb : b < Y.length) : ∃ q : Addr, atI rs ((b : Nat) : Int) = some (V.ref q) ∧ SqT K H q [pV (pr Y b), hV (up (hsOf Y) b)] := by
  obtain ⟨q, h1, h2⟩ := R.at_ b Y[b] (by simp [hb])
  refine ⟨q, atI_nat h1, ?_⟩
  rw [pr_at (z := Y[b]) (by simp [hb]), up_hs (z := Y[b]) (by simp [hb])]
  exact h2
end
section
variable {P : Program} {w : World} {K : PySem.W.Frag} {mg : Str → Option Value} {base : Heap}
abbrev s_Task_init : Stmt := K16.inCls (K16.top 26) 0
abbrev N_Task_init : List Str := ["self", "yard", "goal", "box"]
abbrev P_Task_init : List Str := ["self", "yard", "goal"]
theorem sc_Task_init : FnScope N_Task_init P_Task_init (C8.fnScope s_Task_init) := C8.fnScope_by (by decide +kernel)
def sp_Task_init (K : PySem.W.Frag) (C : Addr) : Sp := fun vs H Q _ => ∃ (x dx a c : Addr) (Y : Yd) (gs : List (Option Nat)), vs = [.ref x, .ref a, .ref c] ∧ H x = some (.ins C dx []) ∧ YAt K H a Y ∧ Y.length ≤ 100 ∧ gs.length = Y.length ∧ SqT K H c (gs.map hV) ∧
  ∀ H', (∀ b o, H b = some o → b ≠ x → H' b = some o) → TaskAt K C H' x Y gs → Q .non H'
theorem k_Task_mk {f C : Addr} {fd : FuncData} (T : Gb mg) (TC : TaskC K C) (M : Mk K C f) (hm : mg "Task" = some (.ref C)) (F : C8.Fun K "__init__" "Task.__init__" s_Task_init f fd) (b : Binds K fd P_Task_init []) (c_holders_of : C8.Cal P w K mg base 1 "holders_of" (sp_holders_of K) []) :
    C8.Mak P w K mg base 2 "Task" C (sp_Task_init K C) [] := by
  refine C8.mak0 (k := 1) M hm F b .nil sc_Task_init (fun vs H Q E h => ?_) (fun cdv A outer s H vs Q E hr h => ?_)
  · obtain ⟨x, dx, a, c, Y, gs, rfl, _⟩ := h
    rfl
  · obtain ⟨x, dx, a, c, Y, gs, rfl, hx, hY, hz, hg, hc, q⟩ := h
    refine ⟨_, (pss_cons (ps_fld (pv 0) (pv 1) rfl)
      (pss_cons (ps_fld (pv 0) (pv 2) rfl)
      (pss_cons (ps_fld (pv 0) (C8.pe_c c_holders_of hr (by decide) rfl (pa_cons (pv 1) pa_nil)) rfl)
      (pss_one (ps_fld (pv 0) (pe_lc (own := [("box", 3)]) (g := (gName 3)) (tt := (tTest (tOp rNe (tOp (rIxT K) (tFld K (tVar 0) "holders") (tVar 3)) (tOp (rIxT K) (tVar 2) (tVar 3))))) (te := (tVar 3)) rfl sc_Task_init.nd (pi_range1 (by rfl) T.n_range (pa_cons (pe_callB call_len_seq (by rfl) T.n_len (by decide +kernel) (pa_cons (pv 1) pa_nil)) pa_nil)) (blkOk_by (own := [("box", 3)]) (N := N_Task_init) (sc := C8.fnScope s_Task_init) (by decide +kernel)) (fun _ _ _ _ _ => by exact (pg_name (i := 3) sc_Task_init.nd rfl (Or.inl rfl))) (fun _ _ _ _ _ => by exact (pts_one (pt_cmpR op_ne (pe_ix ix_tup (pe_fld (pv 0) rfl) (pv 3) (fun _ _ => rfl)) (pe_ix ix_tup (pv 2) (pv 3) (fun _ _ => rfl)) (nomark _)))) (fun _ _ _ _ _ => by exact (pv 3))) rfl))))), ?_⟩
    have ex0 : ∀ (o : HO) {H1 : Hp}, (∀ b o, H b = some o → b ≠ x → H1 b = some o) → ∀ b u, H b = some u → b ≠ x → upd H1 x o b = some u := fun o H1 e b u hb ne => by rw [upd_ne ne]; exact e b u hb ne
    -- the yard, the goal stand while the instance changes
    have nt : ∀ {p : Addr} {xs : List V} {H1 : Hp}, (∀ b o, H b = some o → b ≠ x → H1 b = some o) → SqT K H p xs → SqT K H1 p xs := fun {p xs H1} e h => by
      rcases h with (h | ⟨o, h⟩) | h
      · exact .inl (.inl (e _ _ h (ne_of h hx (by intro z; cases z))))
      · exact .inl (.inr ⟨o, e _ _ h (ne_of h hx (by intro z; cases z))⟩)
      · exact .inr h
    have ny : ∀ {H1 : Hp}, (∀ b o, H b = some o → b ≠ x → H1 b = some o) → YAt K H1 a Y := fun e => by
      obtain ⟨rs, h1, R⟩ := hY
      exact ⟨rs, nt e h1, R.len, fun i z h => let ⟨q, h2, h3⟩ := R.at_ i z h; ⟨q, h2, nt e h3⟩⟩
    refine ⟨_, rfl, _, rfl, x, C, dx, [], rfl, hx, TC.cl, TC.nB, by decide, ?_⟩
    rw [tF_1]
    refine ⟨_, rfl, _, rfl, x, C, dx, _, rfl, upd_same, TC.cl, TC.nW, by show 1 < 1000; decide, ?_⟩
    rw [tF_2, upd_upd]
    have e1 := ex0 (.ins C dx (tF2 a c)) (fun b o h _ => h)
    refine ⟨_, rfl, a, Y, rfl, ny e1, hz, fun h H1 e2 hh => ?_⟩
    have hx1 := e2 _ _ (upd_same (H := H) (a := x) (o := .ins C dx (tF2 a c)))
    refine ⟨_, rfl, x, C, dx, _, rfl, hx1, TC.cl, TC.nH, by show 2 < 1000; decide, ?_⟩
    rw [tF_3]
    have nhx : h ≠ x := ne_of hh hx1 (by intro z; cases z)
    have e3 := ex0 (.ins C dx (tF3 a c h)) (fun b o hb ne => e2 b o (e1 b o hb ne))
    obtain ⟨rs, hS, R⟩ := ny e3
    refine ⟨_, rfl, a, rs, rfl, .inr hS, _, rfl, by rw [R.len]; omega, by rw [R.len]; omega, fun D hD => ?_⟩
    refine lc_range (lo := 0) (n := ((rs.length : Nat) : Int).toNat) (fun i H3 => Ex (upd H1 x (.ins C dx (tF3 a c h))) H3 ∧ H3 D = some (.lst (((List.range i).filter fun b => !decide (up (hsOf Y) b = up gs b)).map nV))) ⟨Ex.new hD, upd_same⟩ ?_ ?_
    · rintro i H3 hi ⟨e4, hl⟩
      have e0 : ((0 : Int) + (i : Int)) = (i : Int) := Int.zero_add _
      rw [e0]
      have hi : i < Y.length := by have := R.len; omega
      have hx3 := e4 _ _ upd_same
      have hh3 := e4 h _ (by rw [upd_ne nhx]; exact hh)
      have hc3 := nt (fun b o hb ne => e4 b o (e3 b o hb ne)) hc
      refine ⟨rfl, _, rfl, x, C, dx, _, _, rfl, hx3, TC.cl, TC.nH, (lk_n (by decide +kernel)).trans ((lk_n (by decide +kernel)).trans lk_y), _, rfl, h, _, _, _, rfl, rfl, SqT.of hh3, at_up (by rw [hsOf_len]; exact hi), ?_⟩
      refine ⟨_, rfl, _, rfl, c, _, _, _, rfl, rfl, hc3, at_up (by rw [hg]; exact hi), scal_hV _ _, ?_⟩
      by_cases hm : up (hsOf Y) i = up gs i
      · refine ⟨false, congrArg V.bl (by rw [dec_hV, decide_eq_true hm] <;> rfl), ?_⟩
        exact ⟨e4, by rw [filt_no (by rw [decide_eq_true hm] <;> rfl)]; exact hl⟩
      · refine ⟨true, congrArg V.bl (by rw [dec_hV, decide_eq_false hm] <;> rfl), ?_⟩
        refine ⟨_, rfl, _, hl, lineL (Nat.le_trans (filt_len _ i) (by omega)), Ex.mut e4 hD, ?_⟩
        rw [upd_same, filt_yes (by rw [decide_eq_false hm] <;> rfl)]
    · rintro H3 ⟨e4, hl⟩
      have hx3 := e4 _ _ upd_same
      refine ⟨_, rfl, x, C, dx, _, rfl, hx3, TC.cl, TC.nS, by show 3 < 1000; decide, ?_⟩
      rw [tF_4]
      have e5 := ex0 (.ins C dx (tF a c h D)) (fun b o hb ne => e4 b o (e3 b o hb ne))
      refine q _ e5 ⟨dx, a, c, h, D, upd_same, ny e5, nt e5 hc, ?_, ?_⟩
      · rw [upd_ne nhx]
        exact e4 h _ (by rw [upd_ne nhx]; exact hh)
      · rw [upd_ne (ne_of hl hx3 (by intro z; cases z)), hl, show ((rs.length : Nat) : Int).toNat = (hsOf Y).length by rw [R.len, hsOf_len]; omega]
        rfl
/-! ### may, cost -/
abbrev s_Task_may : Stmt := K16.inCls (K16.top 26) 1
abbrev N_Task_may : List Str := ["self", "box"]
abbrev P_Task_may : List Str := ["self"]
theorem sc_Task_may : FnScope N_Task_may P_Task_may (C8.fnScope s_Task_may) := C8.fnScope_by (by decide +kernel)
def sp_may (K : PySem.W.Frag) (C : Addr) : Sp := fun vs H Q _ => ∃ (t : Addr) (Y : Yd) (gs : List (Option Nat)), vs = [.ref t] ∧ TaskAt K C H t Y gs ∧ Y.length ≤ 100 ∧ ∀ H', Ex H H' → Q (.bl (mayB Y gs)) H'
theorem c_may_mk {f C : Addr} {fd : FuncData} (T : Gb mg) (TC : TaskC K C) (me : Meth K C "may" f) (F : C8.Fun K "may" "Task.may" s_Task_may f fd) (b : Binds K fd P_Task_may []) : C8.Met P w K mg base 1 C "may" (sp_may K C) [] := by
  refine C8.met0 (k := 0) TC.cl me F b sc_Task_may (fun vs H Q E h => ?_) (fun cdv A outer s H vs Q E hr h => ?_)
  · obtain ⟨t, Y, gs, rfl, _⟩ := h
    rfl
  · obtain ⟨t, Y, gs, rfl, hT, hz, q⟩ := h
    obtain ⟨dx, a, c, h, s0, h1, h2, h3, h4, h5⟩ := id hT
    have sl := some_len (hsOf Y) gs
    rw [hsOf_len] at sl
    refine ⟨_, (pss_one (ps_ret (pe_not (pe_callB (cr_any rfl) (by rfl) T.n_any (by decide +kernel) (pa_cons (pe_lc (own := [("box", 1)]) (g := (gName 1)) (tt := tYes) (te := (tOp rIsN (tOp (rIxT K) (tOp (rIxT K) (tFld K (tVar 0) "boxes") (tVar 1)) (tC (.int 0))) (tC .non))) rfl sc_Task_may.nd (pi_list (pe_fld (pv 0) rfl)) (blkOk_by (own := [("box", 1)]) (N := N_Task_may) (sc := C8.fnScope s_Task_may) (by decide +kernel)) (fun _ _ _ _ _ => by exact (pg_name (i := 1) sc_Task_may.nd rfl (Or.inl rfl))) (fun _ _ _ _ _ => by exact pts_nil) (fun _ _ _ _ _ => by exact (pe_cmpR op_isN (pe_ix ix_tup (pe_ix ix_tup (pe_fld (pv 0) rfl) (pv 1) (fun _ _ => rfl)) pe_int (fun _ _ => rfl)) pe_non (nomark _)))) pa_nil))))), ?_⟩
    refine ⟨_, rfl, t, C, dx, _, _, rfl, h1, TC.cl, TC.nS, tF_s _ _ _ _, s0, rfl, ⟨_, SqL.of h5⟩, fun D hD => ?_⟩
    refine lc_list (K := K) (a := s0) (xs := (someOf (hsOf Y) gs).map nV) (fun i H1 => Ex H H1 ∧ H1 D = some (.lst ((((someOf (hsOf Y) gs).take i).map fun b => decide (pr Y b = none)).map V.bl))) ⟨Ex.new hD, upd_same⟩ (fun i H1 _ p => ex_l p.1 (SqL.of h5)) ?_ ?_
    · rintro i x H1 hx ⟨e, hl⟩
      rw [List.getElem?_map] at hx
      cases eb : (someOf (hsOf Y) gs)[i]? with
      | none => rw [eb] at hx; cases hx
      | some b =>
        rw [eb] at hx
        cases Option.some.inj hx
        have hb := some_lt (List.mem_of_getElem? eb)
        rw [hsOf_len] at hb
        obtain ⟨rs, hS, R⟩ := h2.mono e
        obtain ⟨p, hp1, hp2⟩ := rows_pr R hb
        refine ⟨rfl, _, rfl, t, C, dx, _, _, rfl, e _ _ h1, TC.cl, TC.nB, tF_b _ _ _ _, _, rfl, a, rs, _, _, rfl, rfl, hS, hp1, p, _, 0, pV (pr Y b), rfl, rfl, hp2, rfl, rfl, ?_⟩
        refine ⟨_, hl, lineL (by rw [List.length_map, List.length_map, List.length_take]; omega), Ex.mut e hD, ?_⟩
        rw [upd_same, take_more eb, List.map_append]
        have : decide (pV (pr Y b) = V.non) = decide (pr Y b = none) := by cases pr Y b <;> simp [pV]
        rw [this]
        rfl
    · rintro H1 ⟨e, hl⟩
      rw [List.length_map, List.take_length] at hl
      refine ⟨D, _, rfl, SqL.of hl, _, rfl, ?_⟩
      have := q H1 e
      rw [show mayB Y gs = !(List.map (fun b => decide (pr Y b = none)) (someOf (hsOf Y) gs)).any id from may_eq _] at this
      exact this
/-- the sum of the prices, where all have one -/
abbrev s_Task_cost : Stmt := K16.inCls (K16.top 26) 2
abbrev N_Task_cost : List Str := ["self", "box"]
abbrev P_Task_cost : List Str := ["self"]
theorem sc_Task_cost : FnScope N_Task_cost P_Task_cost (C8.fnScope s_Task_cost) := C8.fnScope_by (by decide +kernel)
def sp_cost (K : PySem.W.Frag) (C : Addr) : Sp := fun vs H Q _ => ∃ (t : Addr) (Y : Yd) (gs : List (Option Nat)), vs = [.ref t] ∧ TaskAt K C H t Y gs ∧ Y.length ≤ 100 ∧ mayB Y gs = true ∧ ∀ H', Ex H H' → Q (.int (costN Y gs)) H'
theorem c_cost_mk {f C : Addr} {fd : FuncData} (T : Gb mg) (TC : TaskC K C) (me : Meth K C "cost" f) (F : C8.Fun K "cost" "Task.cost" s_Task_cost f fd) (b : Binds K fd P_Task_cost []) : C8.Met P w K mg base 1 C "cost" (sp_cost K C) [] := by
  refine C8.met0 (k := 0) TC.cl me F b sc_Task_cost (fun vs H Q E h => ?_) (fun cdv A outer s H vs Q E hr h => ?_)
  · obtain ⟨t, Y, gs, rfl, _⟩ := h
    rfl
  · obtain ⟨t, Y, gs, rfl, hT, hz, hmay, q⟩ := h
    obtain ⟨dx, a, c, h, s0, h1, h2, h3, h4, h5⟩ := id hT
    have sl := some_len (hsOf Y) gs
    rw [hsOf_len] at sl
    refine ⟨_, (pss_one (ps_ret (pe_callB (cr_sum rfl) (by rfl) T.n_sum (by decide +kernel) (pa_cons (pe_lc (own := [("box", 1)]) (g := (gName 1)) (tt := tYes) (te := (tOp (rIxT K) (tOp (rIxT K) (tFld K (tVar 0) "boxes") (tVar 1)) (tC (.int 0)))) rfl sc_Task_cost.nd (pi_list (pe_fld (pv 0) rfl)) (blkOk_by (own := [("box", 1)]) (N := N_Task_cost) (sc := C8.fnScope s_Task_cost) (by decide +kernel)) (fun _ _ _ _ _ => by exact (pg_name (i := 1) sc_Task_cost.nd rfl (Or.inl rfl))) (fun _ _ _ _ _ => by exact pts_nil) (fun _ _ _ _ _ => by exact (pe_ix ix_tup (pe_ix ix_tup (pe_fld (pv 0) rfl) (pv 1) (fun _ _ => rfl)) pe_int (fun _ _ => rfl)))) pa_nil)))), ?_⟩
    refine ⟨_, rfl, t, C, dx, _, _, rfl, h1, TC.cl, TC.nS, tF_s _ _ _ _, s0, rfl, ⟨_, SqL.of h5⟩, fun D hD => ?_⟩
    refine lc_list (K := K) (a := s0) (xs := (someOf (hsOf Y) gs).map nV) (fun i H1 => Ex H H1 ∧ H1 D = some (.lst ((((someOf (hsOf Y) gs).take i).map fun b => (pr Y b).getD 0).map V.int))) ⟨Ex.new hD, upd_same⟩ (fun i H1 _ p => ex_l p.1 (SqL.of h5)) ?_ ?_
    · rintro i x H1 hx ⟨e, hl⟩
      rw [List.getElem?_map] at hx
      cases eb : (someOf (hsOf Y) gs)[i]? with
      | none => rw [eb] at hx; cases hx
      | some b =>
        rw [eb] at hx
        cases Option.some.inj hx
        have hm := List.mem_of_getElem? eb
        have hb := some_lt hm
        rw [hsOf_len] at hb
        obtain ⟨rs, hS, R⟩ := h2.mono e
        obtain ⟨p, hp1, hp2⟩ := rows_pr R hb
        have hp : pV (pr Y b) = .int ((pr Y b).getD 0) := by
          have := List.all_eq_true.mp hmay b hm
          cases ep : pr Y b with
          | none => rw [ep] at this; cases this
          | some z => rfl
        refine ⟨rfl, _, rfl, t, C, dx, _, _, rfl, e _ _ h1, TC.cl, TC.nB, tF_b _ _ _ _, _, rfl, a, rs, _, _, rfl, rfl, hS, hp1, p, _, 0, pV (pr Y b), rfl, rfl, hp2, rfl, ?_⟩
        refine ⟨_, hl, lineL (by rw [List.length_map, List.length_map, List.length_take]; omega), Ex.mut e hD, ?_⟩
        rw [upd_same, take_more eb, List.map_append, hp]
        rfl
    · rintro H1 ⟨e, hl⟩
      rw [List.length_map, List.take_length] at hl
      exact ⟨D, _, rfl, SqL.of hl, q H1 e⟩
/-! ### task_of, fewest -/
abbrev s_task_of : Stmt := K16.top 27
abbrev N_task_of : List Str := ["yard", "goal"]
abbrev P_task_of : List Str := ["yard", "goal"]
theorem sc_task_of : FnScope N_task_of P_task_of (C8.fnScope s_task_of) := C8.fnScope_by (by decide +kernel)
def sp_task_of (K : PySem.W.Frag) (C : Addr) : Sp := fun vs H Q _ => ∃ (a c : Addr) (Y : Yd) (gs : List (Option Nat)), vs = [.ref a, .ref c] ∧ YAt K H a Y ∧ VY Y ∧ VG Y.length gs ∧ SqT K H c (gs.map hV) ∧ ∀ t H', Ex H H' → TaskAt K C H' t Y gs → Q (.ref t) H'
theorem c_task_of {f C : Addr} {fd : FuncData} (T : Gb mg) (F : C8.Def K mg "task_of" s_task_of f fd) (b : Binds K fd P_task_of []) (c_need_yard : C8.Cal P w K mg base 3 "need_yard" (sp_need_yard K) []) (c_need_goal : C8.Cal P w K mg base 3 "need_goal" (sp_need_goal K) [])
    (k_Task : C8.Mak P w K mg base 2 "Task" C (sp_Task_init K C) []) : C8.Cal P w K mg base 4 "task_of" (sp_task_of K C) [] := by
  refine C8.cal0 (k := 3) F b .nil sc_task_of (fun vs H Q E h => ?_) (fun cdv A outer s H vs Q E hr h => ?_)
  · obtain ⟨a, c, Y, gs, rfl, _⟩ := h
    rfl
  · obtain ⟨a, c, Y, gs, rfl, hY, ok, og, hc, q⟩ := h
    have hle := ok.le
    refine ⟨_, (pss_cons (ps_expr (C8.pe_c c_need_yard hr (by decide) rfl (pa_cons (pv 0) pa_nil)))
      (pss_cons (ps_expr (C8.pe_c c_need_goal hr (by decide) rfl (pa_cons (pv 0) (pa_cons (pv 1) pa_nil))))
      (pss_one (ps_ret (C8.pe_mk k_Task hr (by decide) rfl (pa_cons (pv 0) (pa_cons (pv 1) pa_nil))))))), ?_⟩
    refine ⟨_, rfl, a, Y, rfl, hY, ok, fun H1 e1 => ?_⟩
    refine ⟨_, rfl, _, rfl, a, c, Y, gs, rfl, hY.mono e1, og, by omega, ex_t e1 hc, fun H2 e2 => ?_⟩
    refine ⟨_, rfl, _, rfl, fun x dx nx ndx ne => ?_⟩
    have e3 : Ex H2 (upd (upd H2 dx (.own x)) x (.ins C dx [])) := (Ex.new ndx).trans (Ex.new (by rw [upd_ne (Ne.symm ne)]; exact nx))
    have e12 := e1.trans e2
    refine ⟨x, dx, a, c, Y, gs, rfl, upd_same, hY.mono (e12.trans e3), by omega, og.len, ex_t (e12.trans e3) hc, fun H3 k ht => ⟨rfl, ?_⟩⟩
    exact q x H3 (fun b o hb => k b o (e3 b o (e12 b o hb)) (ne_of_none (e12 b o hb) nx)) ht
abbrev s_fewest : Stmt := K16.top 29
abbrev N_fewest : List Str := ["yard", "goal", "task"]
abbrev P_fewest : List Str := ["yard", "goal"]
theorem sc_fewest : FnScope N_fewest P_fewest (C8.fnScope s_fewest) := C8.fnScope_by (by decide +kernel)
/-- how few moves, None where a box has no price -/
def fewV (Y : Yd) (gs : List (Option Nat)) : V := if mayB Y gs = true then nV (someOf (hsOf Y) gs).length else .non
def sp_fewest (K : PySem.W.Frag) : Sp := fun vs H Q _ => ∃ (a c : Addr) (Y : Yd) (gs : List (Option Nat)), vs = [.ref a, .ref c] ∧ YAt K H a Y ∧ VY Y ∧ VG Y.length gs ∧ SqT K H c (gs.map hV) ∧ ∀ H', Ex H H' → Q (fewV Y gs) H'
theorem c_fewest {f C : Addr} {fd : FuncData} (T : Gb mg) (TC : TaskC K C) (F : C8.Def K mg "fewest" s_fewest f fd) (b : Binds K fd P_fewest []) (c_task_of : C8.Cal P w K mg base 4 "task_of" (sp_task_of K C) []) (c_may : C8.Met P w K mg base 1 C "may" (sp_may K C) []) :
    C8.Cal P w K mg base 5 "fewest" (sp_fewest K) [] := by
  refine C8.cal0 (k := 4) F b .nil sc_fewest (fun vs H Q E h => ?_) (fun cdv A outer s H vs Q E hr h => ?_)
  · obtain ⟨a, c, Y, gs, rfl, _⟩ := h
    rfl
  · obtain ⟨a, c, Y, gs, rfl, hY, ok, og, hc, q⟩ := h
    have hle := ok.le
    refine ⟨_, (pss_cons (ps_set (i := 2) sc_fewest.nd rfl (Or.inl rfl) (C8.pe_c c_task_of hr (by decide) rfl (pa_cons (pv 0) (pa_cons (pv 1) pa_nil))))
      (pss_one (ps_ret (pe_ifExp (pt_val (C8.pe_mt0 c_may hr (by decide) (pv 2))) (pe_callB call_len_seq (by rfl) T.n_len (by decide +kernel) (pa_cons (pe_fld (pv 2) rfl) pa_nil)) pe_non)))), ?_⟩
    refine ⟨_, rfl, _, rfl, a, c, Y, gs, rfl, hY, ok, og, hc, fun t H1 e1 ht => ?_⟩
    obtain ⟨dx, a1, c1, h, s0, h1, h2, h3, h4, h5⟩ := id ht
    refine ⟨_, rfl, t, dx, _, rfl, h1, tF_no _ _ _ _ (by decide +kernel) (by decide +kernel) (by decide +kernel) (by decide +kernel), t, Y, gs, rfl, ht, by omega, fun H2 e2 => ⟨mayB Y gs, rfl, ?_⟩⟩
    have q2 := fun H' (e : Ex H2 H') => q H' (e1.trans (e2.trans e))
    unfold fewV at q2
    cases hb : mayB Y gs with
    | true =>
      rw [hb] at q2
      refine ⟨_, rfl, t, C, dx, _, _, rfl, e2 _ _ h1, TC.cl, TC.nS, tF_s _ _ _ _, s0, _, rfl, .inl (SqL.of (e2 _ _ h5)), ?_⟩
      rw [List.length_map]
      exact q2 H2 (Ex.refl _)
    | false =>
      rw [hb] at q2
      exact q2 H2 (Ex.refl _)
end
end K16
set_option maxHeartbeats 4000000
namespace K16
open PySem L2 Evl
noncomputable def topF (Y : Yd) (b : Nat) : Option Nat := (b :: chn (hsOf Y) b).find? fun x => (pr Y x).isSome
def freeN (Y : Yd) : Nat := (Y.filter fun z => z.1.isSome).length
noncomputable def topsN (Y : Yd) : Nat := ((List.range Y.length).filter fun b => (topF Y b).isNone).length
noncomputable def reachN (Y : Yd) : Int := if freeN Y = 0 then 1 else (1 + (topsN Y : Int)) * ((Y.length : Int) + 1) ^ (freeN Y - 1)
theorem filter_more {Y : Yd} {i : Nat} {z : Option Int × Option Nat} (h : Y[i]? = some z) (p : Option Int × Option Nat → Bool) : (Y.take (i + 1)).filter p = (Y.take i).filter p ++ (if p z = true then [z] else []) := by
  rw [List.take_add_one, h, List.filter_append, Option.toList_some, List.filter_cons, List.filter_nil]
section
variable {P : Program} {w : World} {K : PySem.W.Frag} {mg : Str → Option Value} {base : Heap}
abbrev s_top_of : Stmt := K16.top 31
abbrev N_top_of : List Str := ["yard", "box", "here"]
abbrev P_top_of : List Str := ["yard", "box"]
theorem sc_top_of : FnScope N_top_of P_top_of (C8.fnScope s_top_of) := C8.fnScope_by (by decide +kernel)
def sp_top_of (K : PySem.W.Frag) : Sp := fun vs H Q _ => ∃ (a : Addr) (Y : Yd) (b : Nat), vs = [.ref a, nV b] ∧ YAt K H a Y ∧ For (hsOf Y) ∧ b < Y.length ∧ Q (hV (topF Y b)) H
theorem c_top_of {f : Addr} {fd : FuncData} (T : Gb mg) (F : C8.Def K mg "top_of" s_top_of f fd) (b : Binds K fd P_top_of []) : C8.Cal P w K mg base 1 "top_of" (sp_top_of K) [] := by
  refine C8.cal0 (k := 0) F b .nil sc_top_of (fun vs H Q E h => ?_) (fun cdv A outer s H vs Q E hr h => ?_)
  · obtain ⟨a, Y, b, rfl, _⟩ := h
    rfl
  · obtain ⟨a, Y, b, rfl, ⟨rs, hS, R⟩, fo, hb, q⟩ := h
    refine ⟨_, (pss_cons (ps_set (i := 2) sc_top_of.nd rfl (Or.inl rfl) (pv 1))
      (pss_cons (ps_while PassesOwn.never (PW.pt (pw_and (pt_cmpR op_notN (pv 2) pe_non (nomark _)) (pw_and1 (pt_cmpR op_isN (pe_ix ix_tup (pe_ix ix_tup (pv 0) (pv 2) (fun _ _ => rfl)) pe_int (fun _ _ => rfl)) pe_non (nomark _)))))
        (pss_one (ps_set (i := 2) sc_top_of.nd rfl (Or.inl rfl) (pe_ix ix_tup (pe_ix ix_tup (pv 0) (pv 2) (fun _ _ => rfl)) pe_int (fun _ _ => rfl)))))
      (pss_one (ps_ret (pv 2))))), ?_⟩
    refine ⟨_, rfl, ?_⟩
    refine ⟨fun m σ H1 => H1 = H ∧ ∃ (o : Option Nat) (r : List Nat), σ = [some (.ref a), some (nV b), some (hV o)] ∧ r.length = m ∧ Chain (up (hsOf Y)) o r ∧ (r.find? fun x => (pr Y x).isSome) = topF Y b ∧ (∀ x, o = some x → x < Y.length),
      ⟨_, rfl, some b, b :: chn (hsOf Y) b, rfl, rfl, .step (for_chn fo b), rfl, fun x hx => Option.some.inj hx ▸ hb⟩, ?_⟩
    rintro m σ H1 ⟨rfl, o, r, rfl, hm, hc, hf, lo⟩
    cases hc with
    | stop =>
      refine ⟨_, rfl, rfl, false, rfl, ?_⟩
      refine ⟨_, rfl, ?_⟩
      rw [← hf] at q
      exact q
    | @step h r hc =>
      obtain ⟨p, hp1, hp2⟩ := rows_pr R (lo h rfl)
      refine ⟨_, rfl, rfl, true, rfl, _, rfl, _, rfl, a, rs, _, _, rfl, rfl, hS, hp1, p, _, 0, pV (pr Y h), rfl, rfl, hp2, rfl, rfl, ?_⟩
      rw [List.find?_cons] at hf
      cases e : pr Y h with
      | none =>
        rw [e] at hf
        refine ⟨true, rfl, ?_⟩
        refine ⟨_, fun σ' H' z => ⟨r.length, by rw [← hm, List.length_cons]; exact Nat.lt_succ_self _, z⟩, ?_⟩
        refine ⟨_, rfl, _, rfl, a, rs, _, _, rfl, rfl, hS, hp1, p, _, 1, hV (up (hsOf Y) h), rfl, rfl, hp2, rfl, ?_⟩
        exact ⟨rfl, _, r, rfl, rfl, hc, hf, fun x hx => hsOf_len Y ▸ fo.1 h x hx⟩
      | some z =>
        rw [e] at hf
        refine ⟨false, rfl, _, rfl, ?_⟩
        rw [← hf] at q
        exact q
abbrev s_reach : Stmt := K16.top 32
abbrev N_reach : List Str := ["yard", "free", "found", "turn", "price", "holder", "box"]
abbrev P_reach : List Str := ["yard"]
theorem sc_reach : FnScope N_reach P_reach (C8.fnScope s_reach) := C8.fnScope_by (by decide +kernel)
def sp_reach (K : PySem.W.Frag) : Sp := fun vs H Q _ => ∃ (a : Addr) (Y : Yd), vs = [.ref a] ∧ YAt K H a Y ∧ VY Y ∧ ∀ H', Ex H H' → Q (.int (reachN Y)) H'
theorem c_reach {f : Addr} {fd : FuncData} (T : Gb mg) (F : C8.Def K mg "reach" s_reach f fd) (b : Binds K fd P_reach []) (c_need_yard : C8.Cal P w K mg base 3 "need_yard" (sp_need_yard K) []) (c_top_of : C8.Cal P w K mg base 1 "top_of" (sp_top_of K) []) :
    C8.Cal P w K mg base 4 "reach" (sp_reach K) [] := by
  refine C8.cal0 (k := 3) F b .nil sc_reach (fun vs H Q E h => ?_) (fun cdv A outer s H vs Q E hr h => ?_)
  · obtain ⟨a, Y, rfl, _⟩ := h
    rfl
  · obtain ⟨a, Y, rfl, hY, ok, q⟩ := h
    have hle := ok.le
    refine ⟨_, (pss_cons (ps_expr (C8.pe_c c_need_yard hr (by decide) rfl (pa_cons (pv 0) pa_nil)))
      (pss_cons (ps_set (i := 1) sc_reach.nd rfl (Or.inl rfl) (pe_callB call_len_seq (by rfl) T.n_len (by decide +kernel) (pa_cons (pe_lc (own := [("price", 4), ("holder", 5)]) (g := (gTup K 2 (gCons (gName 4) (gCons (gName 5) gNil)))) (tt := (tTest (tOp rNotN (tVar 4) (tC .non)))) (te := (tVar 4)) rfl sc_reach.nd (pi_tup (pv 0)) (blkOk_by (own := [("price", 4), ("holder", 5)]) (N := N_reach) (sc := C8.fnScope s_reach) (by decide +kernel)) (fun _ _ _ _ _ => by exact (pg_tup rfl (pgs_cons (pg_name (i := 4) sc_reach.nd rfl (Or.inl rfl)) (pgs_cons (pg_name (i := 5) sc_reach.nd rfl (Or.inl rfl)) pgs_nil)))) (fun _ _ _ _ _ => by exact (pts_one (pt_cmpR op_notN (pv 4) pe_non (nomark _)))) (fun _ _ _ _ _ => by exact (pv 4))) pa_nil)))
      (pss_cons (ps_if (pt_cmpR op_eq (pv 1) pe_int (nomark _)) (pss_one (ps_ret pe_int)) pss_nil)
      (pss_cons (ps_set (i := 2) sc_reach.nd rfl (Or.inl rfl) (pe_op op_add pe_int (pe_callB call_len_seq (by rfl) T.n_len (by decide +kernel) (pa_cons (pe_lc (own := [("box", 6)]) (g := (gName 6)) (tt := (tTest (tOp rIsN (tCall (sp_top_of K) [] C8.E0 (tCons (tVar 0) (tCons (tVar 6) tNil))) (tC .non)))) (te := (tVar 6)) rfl sc_reach.nd (pi_range1 (by rfl) T.n_range (pa_cons (pe_callB call_len_seq (by rfl) T.n_len (by decide +kernel) (pa_cons (pv 0) pa_nil)) pa_nil)) (blkOk_by (own := [("box", 6)]) (N := N_reach) (sc := C8.fnScope s_reach) (by decide +kernel)) (fun _ _ _ _ _ => by exact (pg_name (i := 6) sc_reach.nd rfl (Or.inl rfl))) (fun _ _ _ _ _ => by exact (pts_one (pt_cmpR op_isN (C8.pe_c c_top_of hr (by decide) rfl (pa_cons (pv 0) (pa_cons (pv 6) pa_nil))) pe_non (nomark _)))) (fun _ _ _ _ _ => by exact (pv 6))) pa_nil))))
      (pss_cons (ps_for PassesOwn.never rfl (pi_range1 (by rfl) T.n_range (pa_cons (pe_op op_sub (pv 1) pe_int) pa_nil)) (pg_name (i := 3) sc_reach.nd rfl (Or.inl rfl))
        (pss_one (ps_aug (i := 2) sc_reach.nd rfl (Or.inl rfl) (pe_op op_add (pe_callB call_len_seq (by rfl) T.n_len (by decide +kernel) (pa_cons (pv 0) pa_nil)) pe_int) K16.ip_mul)))
      (pss_one (ps_ret (pv 2)))))))), ?_⟩
    refine ⟨_, rfl, a, Y, rfl, hY, ok, fun H1 e1 => ?_⟩
    obtain ⟨rs, hS, R⟩ := hY.mono e1
    refine ⟨_, rfl, a, rfl, ⟨_, hS⟩, fun D hD => ?_⟩
    refine lc_tup (K := K) (a := a) (xs := rs) (fun i H2 => Ex H1 H2 ∧ H2 D = some (.lst (((Y.take i).filter fun z => z.1.isSome).map fun z => pV z.1))) ⟨Ex.new hD, upd_same⟩ (fun i H2 _ p => ex_t p.1 hS) ?_ ?_
    · rintro i x H2 hx ⟨e, hl⟩
      obtain ⟨z, p, hz1, rfl, hp⟩ := R.get hx
      refine ⟨p, _, rfl, ex_t e hp, rfl, _, _, rfl, _, _, rfl, rfl, rfl, _, rfl, rfl, ?_⟩
      cases ez : z.1 with
      | none =>
        refine ⟨false, rfl, ?_⟩
        refine ⟨e, ?_⟩
        rw [filter_more hz1, ez]
        simpa using hl
      | some y =>
        refine ⟨true, rfl, ?_⟩
        refine ⟨_, rfl, _, hl, lineL ?_, Ex.mut e hD, ?_⟩
        · rw [List.length_map]
          have := List.length_filter_le (fun z : Option Int × Option Nat => z.1.isSome) (Y.take i)
          rw [List.length_take] at this
          omega
        · rw [upd_same, filter_more hz1, ez]
          simp [ez]
    rintro H2 ⟨e2, hl⟩
    rw [R.len, List.take_length] at hl
    refine ⟨D, _, rfl, .inl (SqL.of hl), ?_⟩
    rw [List.length_map]
    refine ⟨_, rfl, rfl, ?_⟩
    have hfl : freeN Y ≤ Y.length := List.length_filter_le _ _
    have hS2 := ex_t e2 hS
    have R2 := R.mono e2
    by_cases h0 : freeN Y = 0
    · refine ⟨true, dec_yes (by show ((freeN Y : Nat) : Int) = 0; omega), ?_⟩
      have q2 := q H2 (e1.trans e2)
      unfold reachN at q2
      rw [if_pos h0] at q2
      exact q2
    · refine ⟨false, dec_no (by show ((freeN Y : Nat) : Int) ≠ 0; omega), ?_⟩
      refine ⟨_, rfl, a, rs, rfl, .inr hS2, _, rfl, by rw [R.len]; omega, by rw [R.len]; omega, fun D2 hD2 => ?_⟩
      refine lc_range (lo := 0) (n := ((rs.length : Nat) : Int).toNat) (fun i H3 => Ex H2 H3 ∧ H3 D2 = some (.lst (((List.range i).filter fun b => (topF Y b).isNone).map nV))) ⟨Ex.new hD2, upd_same⟩ ?_ ?_
      · rintro i H3 hi ⟨e3, hl3⟩
        have e0 : ((0 : Int) + (i : Int)) = (i : Int) := Int.zero_add _
        rw [e0]
        have hi : i < Y.length := by have := R.len; omega
        refine ⟨rfl, _, rfl, _, rfl, a, Y, i, rfl, ⟨rs, ex_t e3 hS2, R2.mono e3⟩, ok.fo, hi, rfl, ?_⟩
        cases et : topF Y i with
        | none =>
          refine ⟨true, rfl, ?_⟩
          refine ⟨_, rfl, _, hl3, lineL (Nat.le_trans (filt_len _ i) (by omega)), Ex.mut e3 hD2, ?_⟩
          rw [upd_same, filt_yes (by rw [et] <;> rfl)]
        | some y =>
          refine ⟨false, rfl, e3, ?_⟩
          rw [filt_no (by rw [et] <;> rfl)]
          exact hl3
      rintro H3 ⟨e3, hl3⟩
      have hn : ((rs.length : Nat) : Int).toNat = Y.length := by rw [R.len]; omega
      rw [hn] at hl3
      refine ⟨D2, _, rfl, .inl (SqL.of hl3), 1, _, rfl, rfl, ?_⟩
      rw [List.length_map]
      refine ⟨_, rfl, _, 1, rfl, rfl, _, rfl, ?_, ?_, ?_⟩
      · have : (freeN Y : Int) ≤ 12 := by omega
        show -(2 ^ 62) ≤ ((freeN Y : Nat) : Int) - 1
        omega
      · show ((freeN Y : Nat) : Int) - 1 < 2 ^ 62
        omega
      refine for_range (lo := 0) (n := (((freeN Y : Nat) : Int) - 1).toNat) (fun i σ H4 => H4 = H3 ∧ ∃ v : Option V, σ = [some (.ref a), some (.int ((freeN Y : Nat) : Int)), some (.int ((1 + (topsN Y : Int)) * ((Y.length : Int) + 1) ^ i)), v, none, none, none]) ⟨rfl, none, ?_⟩ ?_ ?_
      · rw [Int.pow_zero, Int.mul_one]
        rfl
      · rintro i σ H4 hi ⟨rfl, v, rfl⟩
        refine ⟨_, rfl, _, rfl, a, rs, rfl, .inr (ex_t e3 hS2), _, 1, rfl, rfl, _, _, rfl, rfl, .inr ⟨?_, ?_⟩, rfl, some (V.int (0 + (i : Int))), ?_⟩
        · show -(2 ^ 64) < ((rs.length : Nat) : Int) + 1
          omega
        · show ((rs.length : Nat) : Int) + 1 < 2 ^ 64
          rw [R.len]
          omega
        · rw [R.len, Int.pow_succ, Int.mul_assoc]
          rfl
      · rintro σ H4 ⟨rfl, v, rfl⟩
        refine ⟨_, rfl, ?_⟩
        have q2 := q H4 (e1.trans (e2.trans e3))
        unfold reachN at q2
        rw [if_neg h0] at q2
        rw [show (((freeN Y : Nat) : Int) - 1).toNat = freeN Y - 1 by omega]
        exact q2
end
end K16
set_option maxHeartbeats 4000000
/-! ### sorted: of a tuple of ints; of a list of lists of ints; by a key -/
namespace K16S
open PySem PyProof.Rows Srt SrtO
section
variable {prog : Program} {w : World} {A : Around} {E : Value → Shared → Prop} {s : Shared}
theorem tup_collected {l : Addr} {vs : List Value} {Q : List Value → Shared → Prop} (hl : IsTup s.heap l vs.toArray) (hz : vs.length ≤ sizeLine)
    (h : Q vs { s with heap := (s.heap.push (seqObj "list" #[] 0)).update s.heap.objs.size (Obj.mapSeq (· ++ vs.toArray)) }) : wpAny (model prog w) A (collect (.ref l)) Q E s := by
  obtain ⟨ob, h1, h2, n, h3⟩ := hl
  have nw : (s.heap.push (seqObj "list" #[] 0)).get? s.heap.objs.size = some (seqObj "list" #[] 0) := Heap.get?_push_size _ rfl
  have old : (s.heap.push (seqObj "list" #[] 0)).get? l = some ob := Heap.get?_push_of_some _ h1
  unfold collect
  refine wpAny_bind (wpAny_runValue (codeAny_builtin entry_proto_collect' ?_))
  show wpAny _ _ (do again (.builtin "list.__iadd__" ⟨[← newList [], .ref l], []⟩)) _ _ s
  refine wpAny_bind (wpAny_newList (wpAny_pure ⟨Code.quiet_builtin _ (by decide +kernel), codeAny_builtin entry_list_iadd' ?_⟩))
  show wpAny _ _ (Builtin.List.listExtendWith (.ref s.heap.objs.size) (.ref l) (.ref s.heap.objs.size)) _ _ { s with heap := s.heap.push (seqObj "list" #[] 0) }
  unfold Builtin.List.listExtendWith
  refine wpAny_bind (wpAny_typeOf (T := "tuple") ⟨ob, old, h2⟩ ?_)
  have e1 : (Value.type "tuple" == Value.type "tuple") = true := rfl
  rw [if_pos (by rw [e1]; simp)]
  refine wpAny_bind (listItems_at old h3 ?_)
  refine wpAny_bind (listItems_at (xs := #[]) (n := 0) nw rfl ?_)
  rw [if_neg (by simp)]
  refine wpAny_bind (listUpdate_at (xs := #[]) (n := 0) nw rfl ?_ (Nat.zero_le _) (by show (#[] ++ vs.toArray).size ≤ sizeLine + 1; simp; omega))
  refine wpAny_pure ?_
  show wpAny (model prog w) A (load s.heap.objs.size >>= _) Q E _
  refine wpAny_bind (wpAny_load (get?_update_seq nw _) ?_)
  show wpAny _ _ (pure ((#[] : Array Value) ++ vs.toArray).toList) Q E _
  rw [show ((#[] : Array Value) ++ vs.toArray).toList = vs by simp]
  exact wpAny_pure h
/-- sorted of a tuple whose items compare by ltv -/
theorem tup_sorted {l : Addr} {vs : List Value} {ltv : Value → Value → Bool} {Q : Value → Shared → Prop} (O : Swo ltv) (hl : IsTup s.heap l vs.toArray) (hz : vs.length ≤ sizeLine)
    (hS : 2 ≤ vs.length → ∀ (h1 : Heap) (a : Addr), SortableO prog w A.in1.in1 { s with heap := h1 } a vs ltv)
    (h : ∀ out : List Value, Srtd ltv out → Stb ltv out vs → Q (.ref (s.heap.objs.size + 1)) { s with heap := sortedAll s.heap vs out.toArray }) : wpAny (model prog w) A (call (.builtin "sorted") [.ref l]) Q E s := by
  refine Calls.call_function_entry kind_sorted plain_sorted entry_sorted (args_sorted1 _) ?_
  unfold Builtin.«sorted»
  refine wpAny_bind (m := checkCount "sorted" 1 1 _) (wpAny_pure ?_)
  refine wpAny_bind (tup_collected hl hz ?_)
  refine wpAny_bind (wpAny_newList ?_ hz)
  have sz : ((s.heap.push (seqObj "list" #[] 0)).update s.heap.objs.size (Obj.mapSeq (· ++ vs.toArray))).objs.size = s.heap.objs.size + 1 := by rw [Heap.size_update, size_push']
  have hoL : (((s.heap.push (seqObj "list" #[] 0)).update s.heap.objs.size (Obj.mapSeq (· ++ vs.toArray))).push (seqObj "list" vs.toArray 0)).get? (s.heap.objs.size + 1) = some (seqObj "list" vs.toArray 0) := by
    rw [← sz]
    exact Heap.get?_push_size _ rfl
  show wpAny _ _ _ _ _ { s with heap := ((s.heap.push (seqObj "list" #[] 0)).update s.heap.objs.size (Obj.mapSeq (· ++ vs.toArray))).push (seqObj "list" vs.toArray 0) }
  rw [sz]
  refine wpAny_bind (wpAny_holding (wpAny_call_entry slot_list_sort ⟨_, hoL, rfl⟩ entry_list_sort (list_sort_ord O hoL hz (fun h2 => hS h2 _ _) fun out p1 p2 => ⟨_, rfl, ?_⟩) (args_list_sort _)))
  exact wpAny_pure ⟨_, rfl, h out p1 p2⟩
end
end K16S
namespace K16
open PySem PySem.Spec PyProof.Rows L2
/-- sorted(t), t a tuple of ints -/
def rSortedTup (K : PySem.W.Frag) : List V → Hp → VK → Prop := fun vs H Q => ∃ (a : Addr) (ns : List Int), vs = [V.ref a] ∧ SqT K H a (ns.map V.int) ∧
  ∀ (ms : List Int) (p : Addr), ms.Perm ns → ms.Pairwise (· ≤ ·) → H p = none → Q (.ref p) (upd H p (.lst (ms.map V.int)))
theorem cr_sortedTup {X : Cx} : CallR X (.builtin "sorted") (rSortedTup X.K) := by
  intro pins s σ H vs us Q I r h
  obtain ⟨a, ns, e0, hs, q⟩ := h
  subst e0
  obtain ⟨its, rv, hl, hz⟩ := I.tuple hs
  have hi := rv.ints
  rw [Vals.ref1 r]
  refine K16S.tup_sorted SrtO.swo_int hl (by rw [← rv.length]; exact hz) (fun h2 h1 a1 => SrtO.ints_sortable hi h2) fun out p1 p2 => ?_
  obtain ⟨k1, k2, k3⟩ := SrtO.ints_out hi p1 p2
  obtain ⟨ep, he⟩ := PyProof.Rows.sortedAll_at s.heap its out.toArray
  have len : ((out.map SrtO.iv).map V.int).length ≤ sizeLine := by
    rw [List.length_map] at hz
    rw [List.length_map, k2.length_eq]
    exact hz
  have J := I.laid (a := s.heap.objs.size + 1) (o := .lst ((out.map SrtO.iv).map V.int)) (t' := s.toks) (fun _ _ => PyProof.Rows.sortedAll_old (vs := its) (out := out.toArray)) (Nat.le_succ _) ⟨len, out, ep, vals_of_ints k1, he⟩
  exact ⟨.ref _, _, J, rfl, q _ _ k2 k3 (I.hok.fresh (Nat.le_succ _))⟩
end K16
namespace K16S
open PySem PyProof.Rows Srt SrtO SeqAt
/-! ### lists of ints by their order -/
theorem lex_first : ∀ (ns ms : List Int) (e r : Nat → Bool) (i : Nat), (∀ j, j < ns.length → j < ms.length → e (i + j) = decide (ns.getD j 0 = ms.getD j 0)) → (∀ j, j < ns.length → j < ms.length → r (i + j) = decide (ns.getD j 0 < ms.getD j 0)) →
    firstLt e r (decide (ns.length < ms.length)) (List.range' i (min ns.length ms.length)) = HT.lexLt ns ms
  | [], [], _, _, _, _, _ => rfl
  | [], _ :: _, _, _, _, _, _ => by simp [firstLt, HT.lexLt]
  | _ :: _, [], _, _, _, _, _ => by simp [firstLt, HT.lexLt]
  | n :: ns, m :: ms, e, r, i, he, hr => by
    have e0 := he 0 (by simp) (by simp)
    have r0 := hr 0 (by simp) (by simp)
    have ih := lex_first ns ms e r (i + 1) (fun j h1 h2 => by
      have := he (j + 1) (by simpa using h1) (by simpa using h2)
      rw [show i + 1 + j = i + (j + 1) by omega]
      exact this) (fun j h1 h2 => by
      have := hr (j + 1) (by simpa using h1) (by simpa using h2)
      rw [show i + 1 + j = i + (j + 1) by omega]
      exact this)
    have hm : min (n :: ns).length (m :: ms).length = min ns.length ms.length + 1 := by
      rw [List.length_cons, List.length_cons]
      omega
    rw [hm, List.range'_succ, HT.lexLt_cons]
    simp only [Nat.add_zero, List.getD_cons_zero] at e0 r0
    have hl : decide ((n :: ns).length < (m :: ms).length) = decide (ns.length < ms.length) := by simp
    rw [hl]
    by_cases h : n = m
    · rw [firstLt_yes (by rw [e0]; exact decide_eq_true h), if_pos h]
      exact ih
    · rw [firstLt_no (by rw [e0]; exact decide_eq_false h), if_neg h]
      exact r0
theorem lex_asym : ∀ a b : List Int, HT.lexLt a b = true → HT.lexLt b a = false
  | [], [], _ => rfl
  | [], _ :: _, _ => rfl
  | _ :: _, [], h => by cases h
  | x :: a, y :: b, h => by
    rw [HT.lexLt_cons] at h ⊢
    by_cases e : x = y
    · rw [if_pos e] at h
      rw [if_pos e.symm]
      exact lex_asym a b h
    · rw [if_neg e] at h
      rw [if_neg (Ne.symm e)]
      have := of_decide_eq_true h
      exact decide_eq_false (by omega)
theorem lex_tr : ∀ a b c : List Int, HT.lexLt b a = false → HT.lexLt c b = false → HT.lexLt c a = false
  | [], _, [], _, _ => rfl
  | [], _, _ :: _, _, _ => rfl
  | _ :: _, [], _, h, _ => by cases h
  | _ :: _, _ :: _, [], _, h => by cases h
  | x :: a, y :: b, z :: c, h1, h2 => by
    rw [HT.lexLt_cons] at h1 h2 ⊢
    by_cases e1 : y = x
    · by_cases e2 : z = y
      · rw [if_pos e1] at h1
        rw [if_pos e2] at h2
        rw [if_pos (e2.trans e1)]
        exact lex_tr a b c h1 h2
      · rw [if_neg e2] at h2
        rw [if_neg (fun q => e2 (q.trans e1.symm))]
        have := of_decide_eq_false h2
        exact decide_eq_false (by omega)
    · rw [if_neg e1] at h1
      have h1 := of_decide_eq_false h1
      have hx : ¬ z < x := by
        by_cases e2 : z = y
        · omega
        · rw [if_neg e2] at h2
          have := of_decide_eq_false h2
          omega
      by_cases e3 : z = x
      · exfalso
        by_cases e2 : z = y
        · exact e1 (e2.symm.trans e3)
        · rw [if_neg e2] at h2
          have := of_decide_eq_false h2
          omega
      · rw [if_neg e3]
        exact decide_eq_false hx
theorem swo_lists (k : Value → List Int) : Swo fun v u => HT.lexLt (k v) (k u) := ⟨fun x y h => lex_asym _ _ h, fun x y z h1 h2 => lex_tr _ _ _ h1 h2⟩
/-- v is a list of the ints ns -/
def IsIL (h : Heap) (v : Value) (ns : List Int) : Prop := ∃ (a : Addr) (its : List Value), v = .ref a ∧ h.IsList a its.toArray ∧ IntsAre its ns
theorem ints_get : ∀ {vs : List Value} {ns : List Int}, IntsAre vs ns → ∀ (j : Nat) (h : j < vs.length), ∃ t, vs[j] = .int (ns.getD j 0) t
  | _, _, .nil, j, h => absurd h (Nat.not_lt_zero _)
  | _, _, .cons n t r, 0, _ => ⟨t, rfl⟩
  | _, _, .cons n t r, j + 1, h => ints_get r j (Nat.lt_of_succ_lt_succ h)
section
variable {prog : Program} {w : World} {A : Around} {E : Value → Shared → Prop} {s : Shared}
theorem il_lt {v u : Value} {ns ms : List Int} {Q : Value → Shared → Prop} {a b : Addr} {i1 i2 : List Value} (h1 : s.heap.IsList a i1.toArray) (r1 : IntsAre i1 ns) (h2 : s.heap.IsList b i2.toArray) (r2 : IntsAre i2 ms) (h : Q (.bool (HT.lexLt ns ms)) s) :
    wpAny (model prog w) A (call (.builtin "list.__lt__") [.ref a, .ref b]) Q E s := by
  have l1 := r1.length
  have l2 := r2.length
  refine call_list_lt (e := fun j => decide (ns.getD j 0 = ms.getD j 0)) (r := fun j => decide (ns.getD j 0 < ms.getD j 0)) h1 h2 (fun j q1 q2 => ?_) (fun j q1 q2 _ => ?_) ?_
  · obtain ⟨t, e1⟩ := ints_get r1 j (by simpa using q1)
    obtain ⟨t', e2⟩ := ints_get r2 j (by simpa using q2)
    obtain ⟨k, hk, hi⟩ := HT.eqAt_int A.in1 s (ns.getD j 0) t (ms.getD j 0) t'
    have ek : k = decide (ns.getD j 0 = ms.getD j 0) := by
      rw [Bool.eq_iff_iff, hi, decide_eq_true_iff]
    rw [List.getElem_toArray, List.getElem_toArray, e1, e2, ← ek]
    exact hk
  · obtain ⟨t, e1⟩ := ints_get r1 j (by simpa using q1)
    obtain ⟨t', e2⟩ := ints_get r2 j (by simpa using q2)
    rw [List.getElem_toArray, List.getElem_toArray, e1, e2]
    intro prog w E Q hq
    exact HT.rcLt_int A.in1 s _ t _ t' prog w E Q hq
  · rw [List.range_eq_range', List.size_toArray, List.size_toArray, l1, l2, lex_first ns ms _ _ 0 (fun j _ _ => by rw [Nat.zero_add]) (fun j _ _ => by rw [Nat.zero_add])]
    exact h
theorem il_cmp {vs : List Value} {k : Value → List Int} (hu : A.units < cLine) (hp : ∀ v ∈ vs, IsIL s.heap v (k v)) : Cmp prog w A s oneType' (fun p => p.1 ∈ vs) (lt2 fun v u => HT.lexLt (k v) (k u)) := by
  intro p q hm hm'
  obtain ⟨a, i1, e1, h1, r1⟩ := hp _ hm
  obtain ⟨b, i2, e2, h2, r2⟩ := hp _ hm'
  show wpAny (model prog w) A (keyLt' oneType' p.1 q.1) (fun r s' => s' = s ∧ r = HT.lexLt (k p.1) (k q.1)) (fun _ _ => False) s
  generalize k p.1 = ns at r1 ⊢
  generalize k q.1 = ms at r2 ⊢
  rw [e1, e2, keyLt'_oneType, oneLt'_eq]
  simp only [if_true]
  refine wpAny_bind (wpAny_cRoomFor hu ?_)
  obtain ⟨o1, q1, q2, _⟩ := id h1
  refine wpAny_bind (wpAny_callSpecialIfBound?_slot ⟨o1, q1, q2⟩ F.slot_list_lt (il_lt (v := .none) (u := .none) h1 r1 h2 r2 ?_))
  exact wpAny_truthy_bool ⟨rfl, rfl⟩
theorem il_sortable {a : Addr} {vs : List Value} {k : Value → List Int} (hu : A.units < cLine) (h2 : 2 ≤ vs.length) (hp : ∀ (h' : Heap), (∀ b o, b ≠ a → s.heap.get? b = some o → h'.get? b = some o) → ∀ v ∈ vs, IsIL h' v (k v)) :
    SortableO prog w A s a vs fun v u => HT.lexLt (k v) (k u) := by
  intro h' keep
  have hp' := hp h' keep
  refine ⟨oneType', fun Q E hq => PySem.W.kas_kind (T := .type "list") h2 (fun v hv => ?_) (by decide +kernel) (by decide +kernel) hq, il_cmp hu hp'⟩
  obtain ⟨b, its, e, ⟨o, h1, h3, _⟩, _⟩ := hp' v hv
  rw [e]
  exact fun A1 Q1 E1 s1 kp q => wpAny_typeOf (T := "list") ⟨o, kp _ _ h1, h3⟩ q
end
end K16S
namespace K16
open PySem PySem.Spec PyProof.Rows L2
/-- sorted(xs), xs a list of lists of ints -/
def rSortedLL (K : PySem.W.Frag) : List V → Hp → VK → Prop := fun vs H Q => ∃ (a : Addr) (xs : List V) (k : V → List Int), vs = [V.ref a] ∧ SqL K H a xs ∧ (∀ x ∈ xs, ∃ t, x = V.ref t ∧ SqL K H t ((k x).map V.int)) ∧
  ∀ (zs : List V) (p : Addr), zs.Perm xs → zs.Pairwise (fun x y => HT.lexLt (k y) (k x) = false) → H p = none → Q (.ref p) (upd H p (.lst zs))
theorem cr_sortedLL {X : Cx} (hu : X.A.units + 64 < cLine) : CallR X (.builtin "sorted") (rSortedLL X.K) := by
  intro pins s σ H vs us Q I r h
  obtain ⟨a, xs, k, e0, hs, hx, q⟩ := h
  subst e0
  obtain ⟨its, rv, hl, hz⟩ := I.list hs
  obtain ⟨f1, f2⟩ := refs_back rv fun x m => let ⟨t, e, _⟩ := hx x m; ⟨t, e⟩
  rw [Vals.ref1 r]
  have hp : ∀ v ∈ its, K16S.IsIL s.heap v (k (backV v)) := fun v hv => by
    obtain ⟨t, rfl⟩ := f2 v hv
    have hm : V.ref t ∈ xs := f1 ▸ List.mem_map.mpr ⟨_, hv, rfl⟩
    obtain ⟨t', e, ht⟩ := hx _ hm
    cases e
    obtain ⟨i2, r2, hl2, _⟩ := I.list ht
    exact ⟨t, i2, rfl, hl2.isList, r2.ints⟩
  have hu2 : X.A.in1.in1.units < cLine := by
    show X.A.units + 1 + 1 < cLine
    omega
  refine SrtO.sorted_ord (K16S.swo_lists fun u => k (backV u)) hl.isList (by rw [← rv.length]; exact hz) (fun h2 h1 a1 ha kp => K16S.il_sortable hu2 h2 fun h' kp2 v hv => ?_) fun out p1 p2 => ?_
  · obtain ⟨b, i2, e, ⟨o, q1, q2, q3⟩, r2⟩ := hp v hv
    have z := kp b o q1
    exact ⟨b, i2, e, ⟨o, kp2 b o z.1 z.2, q2, q3⟩, r2⟩
  have pm : out.Perm its := p2.perm
  have f3 : ∀ u ∈ out, ∃ a, u = Value.ref a := fun u hu => f2 u (pm.mem_iff.mp hu)
  have bm : (out.map backV).Perm xs := f1 ▸ pm.map backV
  obtain ⟨ep, he⟩ := PyProof.Rows.sortedAll_at s.heap its out.toArray
  have len : (out.map backV).length ≤ sizeLine := by
    rw [bm.length_eq]
    exact hz
  have J := I.laid (a := s.heap.objs.size + 1) (o := .lst (out.map backV)) (t' := s.toks) (fun _ _ => PyProof.Rows.sortedAll_old (vs := its) (out := out.toArray)) (Nat.le_succ _) ⟨len, out, ep, vals_back f3, he⟩
  exact ⟨.ref _, _, J, rfl, q _ _ bm (List.pairwise_map.mpr p1) (I.hok.fresh (Nat.le_succ _))⟩
end K16
set_option maxHeartbeats 4000000
namespace K16
open PySem L2 Evl
theorem get_ex {α : Type} {l : List α} {i : Nat} (h : i < l.length) : ∃ x, l[i]? = some x := ⟨l[i], by simp [h]⟩
/-! ### wishes: what is computed -/
def pick : Option (Option Nat) → Option Nat → Option Nat
  | none, h => h
  | some o, _ => o
def arr (hs : List (Option Nat)) (W : List (Option (Option Nat))) : List (Option Nat) := (W.zip hs).map fun z => pick z.1 z.2
noncomputable def rng (as : List (Option Nat)) (b : Nat) : List Nat :=
  open Classical in if h : ∃ r : List Nat, ∃ k p o, Path (up as) k [] (some b) p o ∧ r = ringOf p o then h.choose else []
theorem rng_spec {as : List (Option Nat)} (cl : Clo as) {b : Nat} (hb : b < as.length) : ∃ k p o, Path (up as) k [] (some b) p o ∧ rng as b = ringOf p o := by
  obtain ⟨k, p, o, h⟩ := path_ex cl as.length [] (some b) (by simp) List.nodup_nil (fun x hx => nomatch hx) fun x hx => Option.some.inj hx ▸ hb
  have hx : ∃ r : List Nat, ∃ k p o, Path (up as) k [] (some b) p o ∧ r = ringOf p o := ⟨_, k, p, o, h, rfl⟩
  unfold rng
  rw [dif_pos hx]
  exact hx.choose_spec
theorem rng_lt {as : List (Option Nat)} (cl : Clo as) {b : Nat} (hb : b < as.length) : ∀ x ∈ rng as b, x < as.length := by
  obtain ⟨k, p, o, h, e⟩ := rng_spec cl hb
  rw [e]
  exact fun x hx => path_lt cl h (fun x hx => nomatch hx) (fun x hx => Option.some.inj hx ▸ hb) x (ring_sub p o x hx)
theorem rng_nd {as : List (Option Nat)} (cl : Clo as) {b : Nat} (hb : b < as.length) : (rng as b).Nodup := by
  obtain ⟨k, p, o, h, e⟩ := rng_spec cl hb
  rw [e]
  exact ring_nd o (path_nd h List.nodup_nil)
theorem rng_len {as : List (Option Nat)} (cl : Clo as) {b : Nat} (hb : b < as.length) : (rng as b).length ≤ as.length := small_len _ _ (rng_nd cl hb) (rng_lt cl hb)
noncomputable def repB (as : List (Option Nat)) (b : Nat) : Bool := decide ((rng as b).head? = some b) && (rng as b).all fun x => decide (b ≤ x)
noncomputable def loops (as : List (Option Nat)) : List (List Nat) := ((List.range as.length).filter (repB as)).map (rng as)
def isOpen (W : List (Option (Option Nat))) (b : Nat) : Bool := (W.getD b (some none)).isNone
def srt (R : List Nat) : List Nat := R.mergeSort
def cand (Y : Yd) (W : List (Option (Option Nat))) (R : List Nat) : List Nat := (srt R).filter fun b => isOpen W b && (pr Y b).isSome
def lowP (Y : Yd) (l : List Nat) : Option Int := (l.map fun b => (pr Y b).getD 0).min?
def brk (Y : Yd) (W : List (Option (Option Nat))) (R : List Nat) : List Nat := (cand Y W R).filter fun b => decide (pr Y b = lowP Y (cand Y W R))
theorem sort_one : ∀ {l m : List Int}, l.Perm m → l.Pairwise (· ≤ ·) → m.Pairwise (· ≤ ·) → l = m
  | [], m, p, _, _ => (List.nil_perm.mp p).symm
  | x :: l, [], p, _, _ => absurd p (by simp)
  | x :: l, y :: m, p, h1, h2 => by
    have e : x = y := by
      have a := List.mem_cons.mp (p.mem_iff.mp (List.mem_cons_self : x ∈ x :: l))
      have b := List.mem_cons.mp (p.symm.mem_iff.mp (List.mem_cons_self : y ∈ y :: m))
      have a' := (List.pairwise_cons.mp h1).1
      have b' := (List.pairwise_cons.mp h2).1
      rcases a with a | a
      · exact a
      · rcases b with b | b
        · exact b.symm
        · have := a' y b
          have := b' x a
          omega
    subst e
    rw [sort_one (List.Perm.cons_inv p) (List.pairwise_cons.mp h1).2 (List.pairwise_cons.mp h2).2]
theorem srt_is {R : List Nat} {ms : List Int} (p : ms.Perm (R.map fun n : Nat => (n : Int))) (o : ms.Pairwise (· ≤ ·)) : ms = (srt R).map fun n : Nat => (n : Int) := by
  refine sort_one (p.trans ((List.mergeSort_perm R _).map _).symm) o ?_
  refine List.pairwise_map.mpr ?_
  have h := List.pairwise_mergeSort (le := fun a b : Nat => decide (a ≤ b)) (fun a b c h1 h2 => by simp at *; omega) (fun a b => by simp; omega) R
  exact h.imp fun {a b} h => by simpa using h
theorem srt_perm (R : List Nat) : (srt R).Perm R := List.mergeSort_perm R _
theorem arr_len {hs : List (Option Nat)} {W : List (Option (Option Nat))} (h : W.length = hs.length) : (arr hs W).length = hs.length := by
  unfold arr
  rw [List.length_map, List.length_zip, h, Nat.min_self]
theorem arr_at {hs : List (Option Nat)} {W : List (Option (Option Nat))} {i : Nat} {x : Option (Option Nat)} {h : Option Nat} (h1 : W[i]? = some x) (h2 : hs[i]? = some h) : up (arr hs W) i = pick x h := by
  refine up_of ?_
  unfold arr
  rw [List.getElem?_map, List.getElem?_zip_eq_some (z := (x, h)) |>.mpr ⟨h1, h2⟩] <;> rfl
theorem arr_clo {hs : List (Option Nat)} {W : List (Option (Option Nat))} (cl : Clo hs) (ok : VW hs.length W) : Clo (arr hs W) := by
  intro b h e
  rw [arr_len ok.len]
  by_cases hb : b < hs.length
  · obtain ⟨x, e1⟩ := get_ex (l := W) (i := b) (by rw [ok.len]; exact hb)
    rw [arr_at e1 (up_at hb)] at e
    cases x with
    | none => exact cl b h e
    | some o => exact ok.lt _ (List.mem_of_getElem? e1) h (congrArg some e)
  · rw [up_out (by rw [arr_len ok.len]; omega)] at e
    cases e
/-- tuples of numbers, each tracked -/
structure Tups (H : Hp) (ts : List V) (Ls : List (List Nat)) : Prop where
  len : ts.length = Ls.length
  at_ : ∀ (i : Nat) (R : List Nat), Ls[i]? = some R → ∃ q : Addr, ts[i]? = some (V.ref q) ∧ H q = some (.tup (R.map nV))
theorem Tups.mono {H H' : Hp} {ts : List V} {Ls : List (List Nat)} (e : Ex H H') (t : Tups H ts Ls) : Tups H' ts Ls := ⟨t.len, fun i R h => let ⟨q, h1, h2⟩ := t.at_ i R h; ⟨q, h1, e _ _ h2⟩⟩
theorem Tups.get {H : Hp} {ts : List V} {Ls : List (List Nat)} (t : Tups H ts Ls) {i : Nat} {x : V} (hx : ts[i]? = some x) : ∃ (R : List Nat) (q : Addr), Ls[i]? = some R ∧ x = V.ref q ∧ H q = some (.tup (R.map nV)) := by
  have hi := (List.getElem?_eq_some_iff.mp hx).1
  rw [t.len] at hi
  obtain ⟨q, h1, h2⟩ := t.at_ i Ls[i] (by simp [hi])
  rw [h1] at hx
  exact ⟨Ls[i], q, by simp [hi], (Option.some.inj hx).symm, h2⟩
theorem Tups.more {H H' : Hp} {ts : List V} {Ls : List (List Nat)} (t : Tups H ts Ls) (e : Ex H H') {q : Addr} {R : List Nat} (hq : H' q = some (.tup (R.map nV))) : Tups H' (ts ++ [.ref q]) (Ls ++ [R]) := by
  refine ⟨by rw [List.length_append, List.length_append, t.len] <;> rfl, fun i R' h => ?_⟩
  by_cases hi : i < Ls.length
  · rw [List.getElem?_append_left hi] at h
    obtain ⟨p, h1, h2⟩ := t.at_ i R' h
    exact ⟨p, by rw [List.getElem?_append_left (by rw [t.len]; exact hi)]; exact h1, e _ _ h2⟩
  · rw [List.getElem?_append_right (by omega)] at h
    have hi2 : i - Ls.length = 0 := by
      have := (List.getElem?_eq_some_iff.mp h).1
      simp at this
      omega
    rw [hi2] at h
    cases h
    exact ⟨q, by rw [List.getElem?_append_right (by rw [t.len]; omega), t.len, hi2] <;> rfl, hq⟩
/-! ### the class Hope -/
structure HopeC (K : PySem.W.Frag) (C : Addr) : Prop where
  cl : Cls K C
  nB : NoAttr K C "boxes"
  nW : NoAttr K C "wish"
  nA : NoAttr K C "arrows"
  nL : NoAttr K C "loops"
def hF1 (a : Addr) : List (Str × V) := [("boxes", .ref a)]
def hF2 (a c : Addr) : List (Str × V) := [("boxes", .ref a), ("wish", .ref c)]
def hF3 (a c r : Addr) : List (Str × V) := [("boxes", .ref a), ("wish", .ref c), ("arrows", .ref r)]
def hF (a c r l : Addr) : List (Str × V) := [("boxes", .ref a), ("wish", .ref c), ("arrows", .ref r), ("loops", .ref l)]
theorem hF_1 (a : Addr) : putF "boxes" (.ref a) [] = hF1 a := rfl
theorem hF_2 (a c : Addr) : putF "wish" (.ref c) (hF1 a) = hF2 a c := pf_n (by decide +kernel)
theorem hF_3 (a c r : Addr) : putF "arrows" (.ref r) (hF2 a c) = hF3 a c r := (pf_n (by decide +kernel)).trans (congrArg _ (pf_n (by decide +kernel)))
theorem hF_4 (a c r l : Addr) : putF "loops" (.ref l) (hF3 a c r) = hF a c r l := (pf_n (by decide +kernel)).trans (congrArg _ ((pf_n (by decide +kernel)).trans (congrArg _ (pf_n (by decide +kernel)))))
theorem hF_b (a c r l : Addr) : List.lookup ("boxes" : Str) (hF a c r l) = some (.ref a) := lk_y
theorem hF_w (a c r l : Addr) : List.lookup ("wish" : Str) (hF a c r l) = some (.ref c) := (lk_n (by decide +kernel)).trans lk_y
theorem hF_a (a c r l : Addr) : List.lookup ("arrows" : Str) (hF a c r l) = some (.ref r) := (lk_n (by decide +kernel)).trans ((lk_n (by decide +kernel)).trans lk_y)
theorem hF_l (a c r l : Addr) : List.lookup ("loops" : Str) (hF a c r l) = some (.ref l) := (lk_n (by decide +kernel)).trans ((lk_n (by decide +kernel)).trans ((lk_n (by decide +kernel)).trans lk_y))
theorem hF_no {m : Str} (a c r l : Addr) (h1 : ¬ m = "boxes") (h2 : ¬ m = "wish") (h3 : ¬ m = "arrows") (h4 : ¬ m = "loops") : List.lookup m (hF a c r l) = none :=
  (lk_n h1).trans ((lk_n h2).trans ((lk_n h3).trans ((lk_n h4).trans lk_0)))
def HopeAt (K : PySem.W.Frag) (C : Addr) (H : Hp) (t : Addr) (Y : Yd) (W : List (Option (Option Nat))) : Prop := ∃ (dx a c r l : Addr) (ts : List V), H t = some (.ins C dx (hF a c r l)) ∧ YAt K H a Y ∧ SqT K H c (W.map wV) ∧
  H r = some (.tup ((arr (hsOf Y) W).map hV)) ∧ H l = some (.lst ts) ∧ Tups H ts (loops (arr (hsOf Y) W))
theorem HopeAt.mono {K : PySem.W.Frag} {H H' : Hp} {C t : Addr} {Y : Yd} {W : List (Option (Option Nat))} (e : Ex H H') (x : HopeAt K C H t Y W) : HopeAt K C H' t Y W := by
  obtain ⟨dx, a, c, r, l, ts, h1, h2, h3, h4, h5, h6⟩ := x
  exact ⟨dx, a, c, r, l, ts, e _ _ h1, h2.mono e, ex_t e h3, e _ _ h4, e _ _ h5, h6.mono e⟩
/-- zip of two tuples -/
theorem walk_zipT {K : PySem.W.Frag} {a b : Addr} {xs ys : List V} {n : Nat} (hn : n = min xs.length ys.length) : Walk (RZ.ItzT K a b) n (fun H => SqT K H a xs ∧ SqT K H b ys) (YPair (fun i => xs[i]?) (fun i => ys[i]?)) := by
  subst hn
  refine ⟨fun i H hi h => ?_, fun H h => ?_, fun i H v H' hi h y => ?_⟩
  · exact ⟨xs, ys, xs[i]'(by omega), ys[i]'(by omega), h.1, h.2, by simp, by simp⟩
  · exact ⟨xs, ys, h.1, h.2, by omega⟩
  · obtain ⟨t, x, y, e1, e2, e3, e4, e5⟩ := y
    exact ⟨t, x, y, e1, e2, e3, e4 xs h.1, e5 ys h.2⟩
theorem nVs_D (R : List Nat) : (R.map nV) = ((R.map fun n : Nat => (n : Int)).map V.int) := by rw [List.map_map] <;> rfl
theorem dp_nats {K : PySem.W.Frag} {H : Hp} {l : Addr} {R : List Nat} (h : SqL K H l (R.map nV)) : Dp K H (.ref l) (.list (R.map fun n : Nat => PyData.int (n : Int))) := .lst h (dps_map (fun n : Nat => Dp.int (n : Int)) R)
theorem sh_nats (R : List Nat) : Sh 1 (.list (R.map fun n : Nat => PyData.int (n : Int))) := sh_list fun d hd => by
  obtain ⟨n, _, rfl⟩ := List.mem_map.mp hd
  exact sh_int _
theorem sh_empty : Sh 1 (.list []) := sh_list fun d hd => nomatch hd
theorem eqv_empty (R : List Nat) : PyData.eqv (.list (R.map fun n : Nat => PyData.int (n : Int))) (.list []) = decide (R = []) := by
  cases R <;> simp [PyData.eqv, PyData.eqvAll]
section
variable {P : Program} {w : World} {K : PySem.W.Frag} {mg : Str → Option Value} {base : Heap}
abbrev s_Hope_init : Stmt := K16.inCls (K16.top 36) 0
abbrev N_Hope_init : List Str := ["self", "yard", "wish", "box", "ring", "one", "had"]
abbrev P_Hope_init : List Str := ["self", "yard", "wish"]
theorem sc_Hope_init : FnScope N_Hope_init P_Hope_init (C8.fnScope s_Hope_init) := C8.fnScope_by (by decide +kernel)
def sp_Hope_init (K : PySem.W.Frag) (C : Addr) : Sp := fun vs H Q _ => ∃ (x dx a c : Addr) (Y : Yd) (W : List (Option (Option Nat))), vs = [.ref x, .ref a, .ref c] ∧ H x = some (.ins C dx []) ∧ YAt K H a Y ∧ Y.length ≤ 100 ∧ Clo (hsOf Y) ∧ VW Y.length W ∧ SqT K H c (W.map wV) ∧
  ∀ H', (∀ b o, H b = some o → b ≠ x → H' b = some o) → HopeAt K C H' x Y W → Q .non H'
theorem k_Hope_mk {f C : Addr} {fd : FuncData} (T : Gb mg) (TC : HopeC K C) (M : Mk K C f) (hm : mg "Hope" = some (.ref C)) (F : C8.Fun K "__init__" "Hope.__init__" s_Hope_init f fd) (b : Binds K fd P_Hope_init []) (c_holders_of : C8.Cal P w K mg base 1 "holders_of" (sp_holders_of K) [])
    (c_ring_from : C8.Cal P w K mg base 1 "ring_from" (sp_ring_from K) []) : C8.Mak P w K mg base 2 "Hope" C (sp_Hope_init K C) [] := by
  refine C8.mak0 (k := 1) M hm F b .nil sc_Hope_init (fun vs H Q E h => ?_) (fun cdv A outer s H vs Q E hr h => ?_)
  · obtain ⟨x, dx, a, c, Y, W, rfl, _⟩ := h
    rfl
  · obtain ⟨x, dx, a, c, Y, W, rfl, hx, hY, hz, cl, ok, hc, q⟩ := h
    refine ⟨_, (pss_cons (ps_fld (pv 0) (pv 1) rfl)
      (pss_cons (ps_fld (pv 0) (pv 2) rfl)
      (pss_cons (ps_fld (pv 0) (pe_callTy call_tuple_of (by rfl) T.n_tuple (by decide +kernel) (pa_cons (pe_lc (own := [("one", 5), ("had", 6)]) (g := (gTup K 2 (gCons (gName 5) (gCons (gName 6) gNil)))) (tt := tYes) (te := (tIf (tTest (tOp rEq (tVar 5) (tC (.str "open")))) (tVar 6) (tVar 5))) rfl sc_Hope_init.nd (RZ.pi_zipA (by rfl) T.n_zip (pa_cons (pv 2) (pa_cons (C8.pe_c c_holders_of hr (by decide) rfl (pa_cons (pv 1) pa_nil)) pa_nil))) (blkOk_by (own := [("one", 5), ("had", 6)]) (N := N_Hope_init) (sc := C8.fnScope s_Hope_init) (by decide +kernel)) (fun _ _ _ _ _ => by exact (pg_tup rfl (pgs_cons (pg_name (i := 5) sc_Hope_init.nd rfl (Or.inl rfl)) (pgs_cons (pg_name (i := 6) sc_Hope_init.nd rfl (Or.inl rfl)) pgs_nil)))) (fun _ _ _ _ _ => by exact pts_nil) (fun _ _ _ _ _ => by exact (pe_ifExp (pt_cmpR op_eq (pv 5) (K16.pe_gl rfl T.g_OPEN) (nomark _)) (pv 6) (pv 5)))) pa_nil)) rfl)
      (pss_cons (ps_fld (pv 0) (pe_lst pa_nil) rfl)
      (pss_one (ps_for PassesOwn.never rfl (pi_range1 (by rfl) T.n_range (pa_cons (pe_callB call_len_seq (by rfl) T.n_len (by decide +kernel) (pa_cons (pv 1) pa_nil)) pa_nil)) (pg_name (i := 3) sc_Hope_init.nd rfl (Or.inl rfl))
        (pss_cons (ps_set (i := 4) sc_Hope_init.nd rfl (Or.inl rfl) (C8.pe_c c_ring_from hr (by decide) rfl (pa_cons (pe_fld (pv 0) rfl) (pa_cons (pv 3) pa_nil))))
      (pss_one (ps_if (PW.pt (pw_and (pt_cmpR (op_neD hr.units) (pv 4) (pe_lst pa_nil) (nomark _)) (pw_and (pt_cmpR op_eq (pe_ix ix_list (pv 4) pe_int (fun _ _ => rfl)) (pv 3) (nomark _)) (pw_and1 (pt_cmpR op_eq (pe_callB (cr_min rfl) (by rfl) T.n_min (by decide +kernel) (pa_cons (pv 4) pa_nil)) (pv 3) (nomark _)))))) (pss_one (ps_expr (pe_bm PySem.F.plainAttrs_list PySem.F.slot_list_append PySem.F.type_list_append mt_append (pe_fld (pv 0) rfl) (pa_cons (pe_callTy call_tuple_of (by rfl) T.n_tuple (by decide +kernel) (pa_cons (pv 4) pa_nil)) pa_nil)))) pss_nil))))))))), ?_⟩
    have ex0 : ∀ (o : HO) {H1 : Hp}, (∀ b o, H b = some o → b ≠ x → H1 b = some o) → ∀ b u, H b = some u → b ≠ x → upd H1 x o b = some u := fun o H1 e b u hb ne => by rw [upd_ne ne]; exact e b u hb ne
    have nt : ∀ {p : Addr} {xs : List V} {H1 : Hp}, (∀ b o, H b = some o → b ≠ x → H1 b = some o) → SqT K H p xs → SqT K H1 p xs := fun {p xs H1} e h => by
      rcases h with (h | ⟨o, h⟩) | h
      · exact .inl (.inl (e _ _ h (ne_of h hx (by intro z; cases z))))
      · exact .inl (.inr ⟨o, e _ _ h (ne_of h hx (by intro z; cases z))⟩)
      · exact .inr h
    have ny : ∀ {H1 : Hp}, (∀ b o, H b = some o → b ≠ x → H1 b = some o) → YAt K H1 a Y := fun e => by
      obtain ⟨rs, h1, R⟩ := hY
      exact ⟨rs, nt e h1, R.len, fun i z h => let ⟨q, h2, h3⟩ := R.at_ i z h; ⟨q, h2, nt e h3⟩⟩
    have hal : (arr (hsOf Y) W).length = Y.length := (arr_len (by rw [hsOf_len, ok.len])).trans (hsOf_len Y)
    have acl : Clo (arr (hsOf Y) W) := arr_clo cl (by rw [hsOf_len]; exact ok)
    refine ⟨_, rfl, _, rfl, x, C, dx, [], rfl, hx, TC.cl, TC.nB, by decide, ?_⟩
    rw [hF_1]
    refine ⟨_, rfl, _, rfl, x, C, dx, _, rfl, upd_same, TC.cl, TC.nW, by show 1 < 1000; decide, ?_⟩
    rw [hF_2, upd_upd]
    have e1 := ex0 (.ins C dx (hF2 a c)) (fun b o h _ => h)
    refine ⟨_, rfl, _, rfl, a, Y, rfl, ny e1, hz, fun h H1 e2 hh => ?_⟩
    have e12 : ∀ b o, H b = some o → b ≠ x → H1 b = some o := fun b o hb ne => e2 b o (e1 b o hb ne)
    refine ⟨c, h, _, _, rfl, .inr ⟨nt e12 hc, SqT.of hh, fun D hD => ?_⟩⟩
    refine lc_it (walk_zipT (n := Y.length) (by rw [List.length_map, List.length_map, hsOf_len, ok.len, Nat.min_self])) (fun i H2 => Ex H1 H2 ∧ H2 D = some (.lst (((arr (hsOf Y) W).take i).map hV))) ⟨Ex.new hD, upd_same⟩ (fun i H2 _ p => ⟨ex_t p.1 (nt e12 hc), SqT.of (p.1 _ _ hh)⟩) ?_ ?_
    · rintro i y H2 H3 hi ⟨e3, hl⟩ ⟨t, y1, y2, rfl, nt1, rfl, hy1, hy2⟩
      have hy1 : (W.map wV)[i]? = some y1 := hy1
      have hy2 : ((hsOf Y).map hV)[i]? = some y2 := hy2
      have hih : i < (hsOf Y).length := by rw [hsOf_len]; exact hi
      obtain ⟨wi, hw⟩ := get_ex (l := W) (i := i) (by rw [ok.len]; exact hi)
      rw [List.getElem?_map, hw] at hy1
      rw [List.getElem?_map, up_at hih] at hy2
      cases Option.some.inj hy1
      cases Option.some.inj hy2
      have e4 : Ex H1 (upd H2 t (.tup [wV wi, hV (up (hsOf Y) i)])) := e3.trans (Ex.new nt1)
      have hl4 : (upd H2 t (.tup [wV wi, hV (up (hsOf Y) i)])) D = some (.lst (((arr (hsOf Y) W).take i).map hV)) := by
        rw [upd_ne (ne_of_none hl nt1)]
        exact hl
      have ha : (arr (hsOf Y) W)[i]? = some (up (arr (hsOf Y) W) i) := up_at (by rw [hal]; exact hi)
      have hv := arr_at hw (up_at hih)
      have hlen : (((arr (hsOf Y) W).take i).map hV).length < sizeLine := lineL (by rw [List.length_map, List.length_take]; omega)
      refine ⟨t, _, rfl, SqT.of upd_same, rfl, _, _, rfl, _, _, rfl, rfl, rfl, ?_⟩
      cases wi with
      | none =>
        refine ⟨_, rfl, rfl, true, congrArg V.bl (decide_eq_true rfl), ?_⟩
        refine ⟨_, rfl, _, hl4, hlen, Ex.mut e4 hD, ?_⟩
        rw [upd_same, take_more ha, hv]
        rfl
      | some o =>
        refine ⟨_, rfl, (by cases o <;> rfl), false, congrArg V.bl (decide_eq_false (by cases o <;> exact fun z => nomatch z)), ?_⟩
        refine ⟨_, rfl, _, hl4, hlen, Ex.mut e4 hD, ?_⟩
        rw [upd_same, take_more ha, hv]
        rfl
    rintro H2 ⟨e3, hl⟩
    rw [← hal, List.take_length] at hl
    have e23 := e12
    refine ⟨D, _, rfl, .inl ⟨SqL.of hl, fun r hrn => ?_⟩⟩
    have hx2 : H2 x = some (.ins C dx (hF2 a c)) := e3 _ _ (e2 _ _ upd_same)
    have nrx : x ≠ r := ne_of_none hx2 hrn
    refine ⟨_, rfl, x, C, dx, _, rfl, by rw [upd_ne nrx]; exact hx2, TC.cl, TC.nA, by show 2 < 1000; decide, ?_⟩
    rw [hF_3]
    refine ⟨lineE (Nat.zero_le _), fun l hln => ?_⟩
    have nlx : x ≠ l := ne_of_none upd_same hln
    refine ⟨_, rfl, x, C, dx, _, rfl, by rw [upd_ne nlx]; exact upd_same, TC.cl, TC.nL, by show 3 < 1000; decide, ?_⟩
    rw [hF_4]
    have nrl : r ≠ l := by
      have : (upd (upd H2 r (.tup ((arr (hsOf Y) W).map hV))) x (.ins C dx (hF3 a c r))) r = some (.tup ((arr (hsOf Y) W).map hV)) := by rw [upd_ne (Ne.symm nrx), upd_same]
      exact ne_of_none this hln
    -- what stands from here on
    have e5 : ∀ b o, H b = some o → b ≠ x → (upd (upd (upd (upd H2 r (.tup ((arr (hsOf Y) W).map hV))) x (.ins C dx (hF3 a c r))) l (.lst [])) x (.ins C dx (hF a c r l))) b = some o ∧ b ≠ l := fun b o hb ne => by
      have h2 : H2 b = some o := e3 _ _ (e12 b o hb ne)
      have nb : b ≠ r := ne_of_none h2 hrn
      have h3 : (upd (upd H2 r (.tup ((arr (hsOf Y) W).map hV))) x (.ins C dx (hF3 a c r))) b = some o := by rw [upd_ne ne, upd_ne nb]; exact h2
      have nl : b ≠ l := ne_of_none h3 hln
      exact ⟨by rw [upd_ne ne, upd_ne nl]; exact h3, nl⟩
    obtain ⟨rs, hS, R⟩ := ny fun b o hb ne => (e5 b o hb ne).1
    refine ⟨_, rfl, a, rs, rfl, .inr hS, _, rfl, by rw [R.len]; omega, by rw [R.len]; omega, ?_⟩
    refine for_range (lo := 0) (n := ((rs.length : Nat) : Int).toNat) (fun i σ H5 => (∀ b o, H b = some o → b ≠ x → H5 b = some o ∧ b ≠ l) ∧ H5 x = some (.ins C dx (hF a c r l)) ∧ H5 r = some (.tup ((arr (hsOf Y) W).map hV)) ∧ (∃ ts, H5 l = some (.lst ts) ∧ Tups H5 ts (((List.range i).filter (repB (arr (hsOf Y) W))).map (rng (arr (hsOf Y) W)))) ∧
      ∃ v1 v2 : Option V, σ = [some (.ref x), some (.ref a), some (.ref c), v1, v2, none, none]) ⟨e5, upd_same, ?_, ⟨[], ?_, rfl, fun i R h => nomatch h⟩, none, none, rfl⟩ ?_ ?_
    · rw [upd_ne (Ne.symm nrx), upd_ne nrl, upd_ne (Ne.symm nrx), upd_same]
    · rw [upd_ne (Ne.symm nlx), upd_same]
    · rintro i σ H5 hi ⟨k5, hx5, hr5, ⟨ts, hl5, t5⟩, v1, v2, rfl⟩
      have e0 : ((0 : Int) + (i : Int)) = (i : Int) := Int.zero_add _
      rw [e0]
      have hi : i < Y.length := by have := R.len; omega
      obtain ⟨k, p, o, hp, hrg⟩ := rng_spec acl (b := i) (by rw [hal]; exact hi)
      refine ⟨_, rfl, x, C, dx, _, _, rfl, hx5, TC.cl, TC.nA, hF_a _ _ _ _, _, rfl, r, arr (hsOf Y) W, i, k, p, o, rfl, SqT.of hr5, acl, by rw [hal]; exact hz, by rw [hal]; exact hi, hp, fun g H6 e6 ng hg => ?_⟩
      rw [← hrg] at hg
      have hpl := rng_len acl (b := i) (by rw [hal]; exact hi)
      rw [hal] at hpl
      have hl6 := e6 _ _ hl5
      have k6 : ∀ b o, H b = some o → b ≠ x → H6 b = some o ∧ b ≠ l := fun b o hb ne => ⟨e6 _ _ (k5 b o hb ne).1, (k5 b o hb ne).2⟩
      have tsl : ts.length ≤ i := by
        rw [t5.len, List.length_map]
        have := List.length_filter_le (repB (arr (hsOf Y) W)) (List.range i)
        rwa [List.length_range] at this
      have skip : repB (arr (hsOf Y) W) i = false → (∀ b o, H b = some o → b ≠ x → H6 b = some o ∧ b ≠ l) ∧ H6 x = some (.ins C dx (hF a c r l)) ∧ H6 r = some (.tup ((arr (hsOf Y) W).map hV)) ∧ (∃ ts, H6 l = some (.lst ts) ∧ Tups H6 ts (((List.range (i + 1)).filter (repB (arr (hsOf Y) W))).map (rng (arr (hsOf Y) W)))) := fun hb => by
        refine ⟨k6, e6 _ _ hx5, e6 _ _ hr5, ts, hl6, ?_⟩
        rw [List.range_succ, List.filter_append, List.filter_cons, if_neg (by rw [hb]; decide), List.filter_nil, List.append_nil]
        exact t5.mono e6
      generalize hR : rng (arr (hsOf Y) W) i = R at hg hpl
      have hgD : H6 g = some (.lst ((R.map fun n : Nat => (n : Int)).map V.int)) := by rw [← nVs_D]; exact hg
      refine ⟨_, rfl, lineE (Nat.zero_le _), fun z hzn => ?_⟩
      have hg7 : (upd H6 z (.lst [])) g = some (.lst (R.map nV)) := by rw [upd_ne (ne_of_none hg hzn)]; exact hg
      have e7 : Ex H6 (upd H6 z (.lst [])) := Ex.new hzn
      -- the state behind a turn that adds nothing
      have fin : repB (arr (hsOf Y) W) i = false → ∀ H7, Ex H6 H7 → (fun σ H5 => (∀ b o, H b = some o → b ≠ x → H5 b = some o ∧ b ≠ l) ∧ H5 x = some (.ins C dx (hF a c r l)) ∧ H5 r = some (.tup ((arr (hsOf Y) W).map hV)) ∧ (∃ ts, H5 l = some (.lst ts) ∧ Tups H5 ts (((List.range (i + 1)).filter (repB (arr (hsOf Y) W))).map (rng (arr (hsOf Y) W)))) ∧
          ∃ v1 v2 : Option V, σ = [some (.ref x), some (.ref a), some (.ref c), v1, v2, none, none]) [some (.ref x), some (.ref a), some (.ref c), some (.int (i : Int)), some (.ref g), none, none] H7 := fun hb H7 e => by
        obtain ⟨s1, s2, s3, ts', s4, s5⟩ := skip hb
        exact ⟨fun b o hb ne => ⟨e _ _ (s1 b o hb ne).1, (s1 b o hb ne).2⟩, e _ _ s2, e _ _ s3, ⟨ts', e _ _ s4, s5.mono e⟩, _, _, rfl⟩
      refine ⟨_, _, dp_nats (SqL.of hg7), .lst (SqL.of upd_same) .nil, sh_ok (sh_nats R), sh_ok sh_empty, ?_⟩
      rw [eqv_empty]
      cases R with
      | nil => exact ⟨false, rfl, fin (by unfold repB; rw [hR] <;> rfl) _ e7⟩
      | cons r0 R =>
        refine ⟨true, rfl, _, rfl, g, _, 0, nV r0, rfl, rfl, SqL.of hg7, atI_nat (j := 0) rfl, _, rfl, rfl, ?_⟩
        by_cases h0 : r0 = i
        · refine ⟨true, dec_yes (by omega), ?_⟩
          refine ⟨_, rfl, g, (r0 :: R).map fun n : Nat => (n : Int), rfl, SqL.of (by rw [← nVs_D]; exact hg7), by simp, fun m hm hle => ?_⟩
          have hmi : ∃ n ∈ r0 :: R, m = (n : Int) := by
            obtain ⟨n, h1, h2⟩ := List.mem_map.mp hm
            exact ⟨n, h1, h2.symm⟩
          obtain ⟨n, hn1, rfl⟩ := hmi
          have hle' : ∀ y ∈ r0 :: R, n ≤ y := fun y hy => by
            have := hle (y : Int) (List.mem_map.mpr ⟨y, hy, rfl⟩)
            omega
          refine ⟨_, rfl, rfl, ?_⟩
          by_cases h1 : n = i
          · refine ⟨true, dec_yes (by omega), ?_⟩
            have hrep : repB (arr (hsOf Y) W) i = true := by
              unfold repB
              rw [hR, List.head?_cons, h0, decide_eq_true rfl, Bool.true_and, List.all_eq_true]
              intro y hy
              rw [← h0] at hy
              exact decide_eq_true (h1 ▸ hle' y hy)
            have hx7 := e7 _ _ (e6 _ _ hx5)
            have hl7 := e7 _ _ hl6
            refine ⟨_, rfl, x, C, dx, _, _, rfl, hx7, TC.cl, TC.nL, hF_l _ _ _ _, .inl ⟨rfl, _, SqL.of hl7⟩, ?_⟩
            refine ⟨_, rfl, g, _, rfl, .inl ⟨SqL.of hg7, fun u hun => ?_⟩⟩
            have e8 : Ex (upd H6 z (.lst [])) (upd (upd H6 z (.lst [])) u (.tup ((r0 :: R).map nV))) := Ex.new hun
            refine ⟨l, ts, _, rfl, rfl, e8 _ _ hl7, lineL (by omega), ?_⟩
            have e68 := e7.trans e8
            have upl : ∀ b o, H6 b = some o → b ≠ l → (upd (upd (upd H6 z (.lst [])) u (.tup ((r0 :: R).map nV))) l (.lst (ts ++ [.ref u]))) b = some o := fun b o hb ne => by
              rw [upd_ne ne]
              exact e68 b o hb
            refine ⟨fun b o hb ne => ⟨upl b o (k6 b o hb ne).1 (k6 b o hb ne).2, (k6 b o hb ne).2⟩, upl _ _ (e6 _ _ hx5) nlx, upl _ _ (e6 _ _ hr5) nrl, ⟨_, upd_same, ?_⟩, _, _, rfl⟩
            rw [List.range_succ, List.filter_append, List.filter_cons, if_pos hrep, List.filter_nil, List.map_append]
            have t6 : Tups (upd (upd H6 z (.lst [])) u (.tup ((r0 :: R).map nV))) (ts ++ [.ref u]) (((List.range i).filter (repB (arr (hsOf Y) W))).map (rng (arr (hsOf Y) W)) ++ [r0 :: R]) := (t5.mono e6).more e68 upd_same
            rw [show List.map (rng (arr (hsOf Y) W)) [i] = [r0 :: R] by rw [← hR] <;> rfl]
            refine ⟨t6.len, fun j R' h => ?_⟩
            obtain ⟨p, h1, h2⟩ := t6.at_ j R' h
            refine ⟨p, h1, ?_⟩
            rw [upd_ne (ne_of h2 (e68 _ _ hl6) (by intro z; cases z))]
            exact h2
          · refine ⟨false, dec_no (by omega), fin ?_ _ e7⟩
            unfold repB
            rw [hR]
            have : ((r0 :: R).all fun x => decide (i ≤ x)) = false := by
              rw [Bool.eq_false_iff]
              intro hall
              have q1 := of_decide_eq_true (List.all_eq_true.mp hall n hn1)
              have q2 := hle' r0 List.mem_cons_self
              omega
            rw [this, Bool.and_false]
        · refine ⟨false, dec_no (by omega), fin ?_ _ e7⟩
          unfold repB
          rw [hR, List.head?_cons, decide_eq_false (fun z => h0 (Option.some.inj z)), Bool.false_and]
    · rintro σ H5 ⟨k5, hx5, hr5, ⟨ts, hl5, t5⟩, v1, v2, rfl⟩
      refine q H5 (fun b o hb ne => (k5 b o hb ne).1) ⟨dx, a, c, r, l, ts, hx5, ny fun b o hb ne => (k5 b o hb ne).1, nt (fun b o hb ne => (k5 b o hb ne).1) hc, hr5, hl5, ?_⟩
      unfold loops
      rw [hal, show Y.length = ((rs.length : Nat) : Int).toNat by rw [R.len]; omega]
      exact t5
end
end K16
set_option maxHeartbeats 4000000
namespace K16
open PySem L2 Evl
/-! ### what bars, what is broken, the cheapest goal -/
def badB (Y : Yd) (W : List (Option (Option Nat))) (b : Nat) : Bool := (pr Y b).isNone && !decide (up (arr (hsOf Y) W) b = up (hsOf Y) b)
noncomputable def barB (Y : Yd) (W : List (Option (Option Nat))) : Bool := (List.range Y.length).any (badB Y W) || (loops (arr (hsOf Y) W)).any fun R => (brk Y W R).isEmpty
noncomputable def brks (Y : Yd) (W : List (Option (Option Nat))) : List Nat := (loops (arr (hsOf Y) W)).map fun R => (brk Y W R).headD 0
noncomputable def bestG (Y : Yd) (W : List (Option (Option Nat))) : List (Option Nat) := (List.range Y.length).map fun b => if b ∈ brks Y W then none else up (arr (hsOf Y) W) b
theorem open_at {W : List (Option (Option Nat))} {b : Nat} {x : Option (Option Nat)} (h : W[b]? = some x) : isOpen W b = x.isNone := by
  unfold isOpen
  rw [List.getD_eq_getElem?_getD, h] <;> rfl
theorem filtL_more {l : List Nat} {i b : Nat} (h : l[i]? = some b) (p : Nat → Bool) : (l.take (i + 1)).filter p = (l.take i).filter p ++ (if p b = true then [b] else []) := by
  rw [List.take_add_one, h, List.filter_append, Option.toList_some, List.filter_cons, List.filter_nil]
theorem filtL_len (l : List Nat) (i : Nat) (p : Nat → Bool) : (((l.take i).filter p).map nV).length ≤ l.length := by
  rw [List.length_map]
  have := List.length_filter_le p (l.take i)
  rw [List.length_take] at this
  omega
theorem cand_sub {Y : Yd} {W : List (Option (Option Nat))} {R : List Nat} {b : Nat} (h : b ∈ cand Y W R) : b ∈ R ∧ isOpen W b = true ∧ (pr Y b).isSome = true := by
  obtain ⟨h1, h2⟩ := List.mem_filter.mp h
  rw [Bool.and_eq_true] at h2
  exact ⟨(srt_perm R).mem_iff.mp h1, h2.1, h2.2⟩
theorem brk_sub {Y : Yd} {W : List (Option (Option Nat))} {R : List Nat} {b : Nat} (h : b ∈ brk Y W R) : b ∈ cand Y W R := (List.mem_filter.mp h).1
theorem cand_len (Y : Yd) (W : List (Option (Option Nat))) (R : List Nat) : (cand Y W R).length ≤ R.length := by
  have := List.length_filter_le (fun b => isOpen W b && (pr Y b).isSome) (srt R)
  rwa [(srt_perm R).length_eq] at this
theorem brk_len (Y : Yd) (W : List (Option (Option Nat))) (R : List Nat) : (brk Y W R).length ≤ R.length :=
  Nat.le_trans (List.length_filter_le _ _) (cand_len Y W R)
theorem scal_pV (o u : Option Int) : scal (pV o) (pV u) = true := by cases o <;> cases u <;> rfl
theorem dec_pV (o u : Option Int) : decide (pV o = pV u) = decide (o = u) := by
  cases o <;> cases u <;> simp [pV]
theorem loops_lt {as : List (Option Nat)} (cl : Clo as) {R : List Nat} (h : R ∈ loops as) : (∀ x ∈ R, x < as.length) ∧ R.length ≤ as.length ∧ R ≠ [] := by
  obtain ⟨b, hb, rfl⟩ := List.mem_map.mp h
  obtain ⟨h1, h2⟩ := List.mem_filter.mp hb
  have hb := List.mem_range.mp h1
  refine ⟨rng_lt cl hb, rng_len cl hb, fun e => ?_⟩
  unfold repB at h2
  rw [e] at h2
  cases h2
section
variable {P : Program} {w : World} {K : PySem.W.Frag} {mg : Str → Option Value} {base : Heap}
abbrev s_Hope_breaking : Stmt := K16.inCls (K16.top 36) 1
abbrev N_Hope_breaking : List Str := ["self", "ring", "some", "least", "box"]
abbrev P_Hope_breaking : List Str := ["self", "ring"]
theorem sc_Hope_breaking : FnScope N_Hope_breaking P_Hope_breaking (C8.fnScope s_Hope_breaking) := C8.fnScope_by (by decide +kernel)
def sp_breaking (K : PySem.W.Frag) (C : Addr) : Sp := fun vs H Q _ => ∃ (t g : Addr) (Y : Yd) (W : List (Option (Option Nat))) (R : List Nat), vs = [.ref t, .ref g] ∧ HopeAt K C H t Y W ∧ W.length = Y.length ∧ SqT K H g (R.map nV) ∧ (∀ x ∈ R, x < Y.length) ∧ R.length ≤ 100 ∧
  ∀ q H', Ex H H' → H q = none → H' q = some (.lst ((brk Y W R).map nV)) → Q (.ref q) H'
theorem c_breaking_mk {f C : Addr} {fd : FuncData} (T : Gb mg) (TC : HopeC K C) (me : Meth K C "breaking" f) (F : C8.Fun K "breaking" "Hope.breaking" s_Hope_breaking f fd) (b : Binds K fd P_Hope_breaking []) : C8.Met P w K mg base 1 C "breaking" (sp_breaking K C) [] := by
  refine C8.met0 (k := 0) TC.cl me F b sc_Hope_breaking (fun vs H Q E h => ?_) (fun cdv A outer s H vs Q E hr h => ?_)
  · obtain ⟨t, g, Y, W, R, rfl, _⟩ := h
    rfl
  · obtain ⟨t, g, Y, W, R, rfl, hT, hW, hg, hlt, hz, q⟩ := h
    obtain ⟨dx, a, c, r, l, ts, h1, h2, h3, h4, h5, h6⟩ := id hT
    refine ⟨_, (pss_cons (ps_setLc (i := 2) (own := [("box", 4)]) (g := (gName 4)) (tt := (tAnd (tTest (tOp rEq (tOp (rIxT K) (tFld K (tVar 0) "wish") (tVar 4)) (tC (.str "open")))) (tTest (tOp rNotN (tOp (rIxT K) (tOp (rIxT K) (tFld K (tVar 0) "boxes") (tVar 4)) (tC (.int 0))) (tC .non))))) (te := (tVar 4)) rfl sc_Hope_breaking.nd rfl rfl (sw_true rfl rfl rfl (by decide +kernel)) (pi_list (pe_callB K16.cr_sortedTup (by rfl) T.n_sorted (by decide +kernel) (pa_cons (pv 1) pa_nil))) (blkOk_by (own := [("box", 4)]) (N := N_Hope_breaking) (sc := C8.fnScope s_Hope_breaking) (by decide +kernel)) (fun _ _ _ _ _ => by exact (pg_name (i := 4) sc_Hope_breaking.nd rfl (Or.inl rfl))) (fun _ _ _ _ _ => by exact (pts_one (PW.pt (pw_and (pt_cmpR op_eq (pe_ix ix_tup (pe_fld (pv 0) rfl) (pv 4) (fun _ _ => rfl)) (K16.pe_gl rfl T.g_OPEN) (nomark _)) (pw_and1 (pt_cmpR op_notN (pe_ix ix_tup (pe_ix ix_tup (pe_fld (pv 0) rfl) (pv 4) (fun _ _ => rfl)) pe_int (fun _ _ => rfl)) pe_non (nomark _))))))) (fun _ _ _ _ _ => by exact (pv 4)))
      (pss_cons (ps_set (i := 3) sc_Hope_breaking.nd rfl (Or.inr rfl) (pe_ifExp (pt_cmpR (op_neD hr.units) (pv 2) (pe_lst pa_nil) (nomark _)) (pe_callB (cr_min rfl) (by rfl) T.n_min (by decide +kernel) (pa_cons (pe_lc (own := [("box", 4)]) (g := (gName 4)) (tt := tYes) (te := (tOp (rIxT K) (tOp (rIxT K) (tFld K (tVar 0) "boxes") (tVar 4)) (tC (.int 0)))) rfl sc_Hope_breaking.nd (pi_list (pv 2)) (blkOk_by (own := [("box", 4)]) (N := N_Hope_breaking) (sc := C8.fnScope s_Hope_breaking) (by decide +kernel)) (fun _ _ _ _ _ => by exact (pg_name (i := 4) sc_Hope_breaking.nd rfl (Or.inl rfl))) (fun _ _ _ _ _ => by exact pts_nil) (fun _ _ _ _ _ => by exact (pe_ix ix_tup (pe_ix ix_tup (pe_fld (pv 0) rfl) (pv 4) (fun _ _ => rfl)) pe_int (fun _ _ => rfl)))) pa_nil)) pe_non))
      (pss_one (ps_ret (pe_lc (own := [("box", 4)]) (g := (gName 4)) (tt := (tTest (tOp rEq (tOp (rIxT K) (tOp (rIxT K) (tFld K (tVar 0) "boxes") (tVar 4)) (tC (.int 0))) (tVar 3)))) (te := (tVar 4)) rfl sc_Hope_breaking.nd (pi_list (pv 2)) (blkOk_by (own := [("box", 4)]) (N := N_Hope_breaking) (sc := C8.fnScope s_Hope_breaking) (by decide +kernel)) (fun _ _ _ _ _ => by exact (pg_name (i := 4) sc_Hope_breaking.nd rfl (Or.inl rfl))) (fun _ _ _ _ _ => by exact (pts_one (pt_cmpR op_eq (pe_ix ix_tup (pe_ix ix_tup (pe_fld (pv 0) rfl) (pv 4) (fun _ _ => rfl)) pe_int (fun _ _ => rfl)) (pv 3) (nomark _)))) (fun _ _ _ _ _ => by exact (pv 4))))))), ?_⟩
    have sz : (srt R).length = R.length := (srt_perm R).length_eq
    have cl := cand_len Y W R
    -- a box's price, read off the yard
    have price : ∀ (H1 : Hp) (b : Nat), Ex H H1 → b < Y.length → ∃ (rs : List V) (p : Addr), SqT K H1 a rs ∧ atI rs ((b : Nat) : Int) = some (V.ref p) ∧ SqT K H1 p [pV (pr Y b), hV (up (hsOf Y) b)] := fun H1 b e hb => by
      obtain ⟨rs, hS, RR⟩ := h2.mono e
      obtain ⟨p, hp1, hp2⟩ := rows_pr RR hb
      exact ⟨rs, p, hS, hp1, hp2⟩
    refine ⟨_, rfl, g, _, rfl, (by rw [← nVs_D]; exact hg), fun ms p pm so hp => ?_⟩
    have em := srt_is pm so
    subst em
    refine ⟨p, rfl, ⟨_, SqL.of upd_same⟩, fun D hD => ?_⟩
    have e0 : Ex H (upd H p (.lst (((srt R).map fun n : Nat => (n : Int)).map V.int))) := Ex.new hp
    refine lc_list (K := K) (a := p) (xs := (srt R).map nV) (fun i H1 => Ex (upd H p (.lst (((srt R).map fun n : Nat => (n : Int)).map V.int))) H1 ∧ H1 D = some (.lst ((((srt R).take i).filter fun b => isOpen W b && (pr Y b).isSome).map nV))) ⟨Ex.new hD, upd_same⟩ (fun i H1 _ z => by rw [nVs_D]; exact SqL.of (z.1 _ _ upd_same)) ?_ ?_
    · rintro i x H1 hx ⟨e, hl⟩
      rw [List.getElem?_map] at hx
      cases eb : (srt R)[i]? with
      | none => rw [eb] at hx; cases hx
      | some b =>
        rw [eb] at hx
        cases Option.some.inj hx
        have hb := hlt b ((srt_perm R).mem_iff.mp (List.mem_of_getElem? eb))
        have eH := e0.trans e
        obtain ⟨x, hx⟩ := get_ex (l := W) (i := b) (by rw [hW]; exact hb)
        have hxv : atI (W.map wV) ((b : Nat) : Int) = some (wV x) := atI_nat (by rw [List.getElem?_map, hx] <;> rfl)
        obtain ⟨rs, pp, hS, hp1, hp2⟩ := price H1 b eH hb
        have ho := open_at hx
        refine ⟨rfl, _, rfl, t, C, dx, _, _, rfl, eH _ _ h1, TC.cl, TC.nW, hF_w _ _ _ _, _, rfl, c, _, _, _, rfl, rfl, ex_t eH h3, hxv, ?_⟩
        cases x with
        | some o =>
          refine ⟨(by cases o <;> rfl), false, congrArg V.bl (decide_eq_false (by cases o <;> exact fun z => nomatch z)), ?_⟩
          refine ⟨e, ?_⟩
          rw [filtL_more eb, ho]
          simpa using hl
        | none =>
          refine ⟨rfl, true, congrArg V.bl (decide_eq_true rfl), ?_⟩
          refine ⟨_, rfl, t, C, dx, _, _, rfl, eH _ _ h1, TC.cl, TC.nB, hF_b _ _ _ _, _, rfl, a, rs, _, _, rfl, rfl, hS, hp1, pp, _, 0, pV (pr Y b), rfl, rfl, hp2, rfl, rfl, ?_⟩
          cases ep : pr Y b with
          | none =>
            refine ⟨false, rfl, e, ?_⟩
            rw [filtL_more eb, ho, ep]
            simpa using hl
          | some z =>
            refine ⟨true, rfl, _, rfl, _, hl, lineL (Nat.le_trans (filtL_len _ _ _) (by omega)), Ex.mut e hD, ?_⟩
            rw [upd_same, filtL_more eb, ho, ep]
            simp
    rintro H1 ⟨e1, hl⟩
    rw [List.length_map, List.take_length] at hl
    have hc : H1 D = some (.lst ((cand Y W R).map nV)) := hl
    have eH := e0.trans e1
    have clt : ∀ b ∈ cand Y W R, b < Y.length := fun b hb => hlt b (cand_sub hb).1
    -- the last statement, whatever least is
    have last : ∀ H3, Ex H1 H3 → (tRet (tLc (iList K (tVar 2)) (gName 4) (tTest (tOp rEq (tOp (rIxT K) (tOp (rIxT K) (tFld K (tVar 0) "boxes") (tVar 4)) (tC (.int 0))) (tVar 3))) (tVar 4) [4])) { nx := fun _ H' => Q .non H', rt := Q } [some (.ref t), some (.ref g), some (.ref D), some (pV (lowP Y (cand Y W R))), none] H3 := fun H3 e3 => by
      refine ⟨_, rfl, D, rfl, ⟨_, SqL.of (e3 _ _ hc)⟩, fun D3 hD3 => ?_⟩
      refine lc_list (K := K) (a := D) (xs := (cand Y W R).map nV) (fun i H4 => Ex H3 H4 ∧ H4 D3 = some (.lst ((((cand Y W R).take i).filter fun b => decide (pr Y b = lowP Y (cand Y W R))).map nV))) ⟨Ex.new hD3, upd_same⟩ (fun i H4 _ z => SqL.of (z.1 _ _ (e3 _ _ hc))) ?_ ?_
      · rintro i x H4 hx ⟨e4, hl4⟩
        rw [List.getElem?_map] at hx
        cases eb : (cand Y W R)[i]? with
        | none => rw [eb] at hx; cases hx
        | some b =>
          rw [eb] at hx
          cases Option.some.inj hx
          have e04 := eH.trans (e3.trans e4)
          obtain ⟨rs, pp, hS, hp1, hp2⟩ := price H4 b e04 (clt b (List.mem_of_getElem? eb))
          refine ⟨rfl, _, rfl, t, C, dx, _, _, rfl, e04 _ _ h1, TC.cl, TC.nB, hF_b _ _ _ _, _, rfl, a, rs, _, _, rfl, rfl, hS, hp1, pp, _, 0, pV (pr Y b), rfl, rfl, hp2, rfl, _, rfl, scal_pV _ _, ?_⟩
          by_cases hm : pr Y b = lowP Y (cand Y W R)
          · refine ⟨true, congrArg V.bl ((dec_pV _ _).trans (decide_eq_true hm)), _, rfl, _, hl4, lineL (Nat.le_trans (filtL_len _ _ _) (by omega)), Ex.mut e4 hD3, ?_⟩
            rw [upd_same, filtL_more eb, if_pos (decide_eq_true hm), List.map_append]
            rfl
          · refine ⟨false, congrArg V.bl ((dec_pV _ _).trans (decide_eq_false hm)), e4, ?_⟩
            rw [filtL_more eb, if_neg (by rw [decide_eq_false hm]; decide), List.append_nil]
            exact hl4
      · rintro H4 ⟨e4, hl4⟩
        rw [List.length_map, List.take_length] at hl4
        exact q D3 H4 (eH.trans (e3.trans e4)) (fresh_back (eH.trans e3) hD3) hl4
    refine ⟨_, rfl, lineE (Nat.zero_le _), fun z hz0 => ?_⟩
    have e2 : Ex H1 (upd H1 z (.lst [])) := Ex.new hz0
    refine ⟨_, _, dp_nats (SqL.of (e2 _ _ hc)), .lst (SqL.of upd_same) .nil, sh_ok (sh_nats _), sh_ok sh_empty, ?_⟩
    rw [eqv_empty]
    by_cases hn : cand Y W R = []
    · refine ⟨false, by rw [decide_eq_true hn] <;> rfl, ?_⟩
      have := last _ e2
      rw [show lowP Y (cand Y W R) = none by rw [hn] <;> rfl] at this
      exact this
    · refine ⟨true, by rw [decide_eq_false hn] <;> rfl, ?_⟩
      refine ⟨_, rfl, D, rfl, ⟨_, SqL.of (e2 _ _ hc)⟩, fun D2 hD2 => ?_⟩
      refine lc_list (K := K) (a := D) (xs := (cand Y W R).map nV) (fun i H3 => Ex (upd H1 z (.lst [])) H3 ∧ H3 D2 = some (.lst ((((cand Y W R).take i).map fun b => (pr Y b).getD 0).map V.int))) ⟨Ex.new hD2, upd_same⟩ (fun i H3 _ y => SqL.of (y.1 _ _ (e2 _ _ hc))) ?_ ?_
      · rintro i x H3 hx ⟨e3, hl3⟩
        rw [List.getElem?_map] at hx
        cases eb : (cand Y W R)[i]? with
        | none => rw [eb] at hx; cases hx
        | some b =>
          rw [eb] at hx
          cases Option.some.inj hx
          have hm := List.mem_of_getElem? eb
          have e03 := eH.trans (e2.trans e3)
          obtain ⟨rs, pp, hS, hp1, hp2⟩ := price H3 b e03 (clt b hm)
          have hp : pV (pr Y b) = .int ((pr Y b).getD 0) := by
            have := (cand_sub hm).2.2
            cases ep : pr Y b with
            | none => rw [ep] at this; cases this
            | some z => rfl
          refine ⟨rfl, _, rfl, t, C, dx, _, _, rfl, e03 _ _ h1, TC.cl, TC.nB, hF_b _ _ _ _, _, rfl, a, rs, _, _, rfl, rfl, hS, hp1, pp, _, 0, pV (pr Y b), rfl, rfl, hp2, rfl, ?_⟩
          refine ⟨_, hl3, lineL (by rw [List.length_map, List.length_map, List.length_take]; omega), Ex.mut e3 hD2, ?_⟩
          rw [upd_same, take_more eb, List.map_append, hp]
          rfl
      · rintro H3 ⟨e3, hl3⟩
        rw [List.length_map, List.take_length] at hl3
        refine ⟨D2, _, rfl, SqL.of hl3, ?_, fun m hm hle => ?_⟩
        · rw [List.length_map]
          exact List.length_pos_iff.mpr hn
        · have := last H3 (e2.trans e3)
          rw [show lowP Y (cand Y W R) = some m from List.min?_eq_some_iff.mpr ⟨hm, hle⟩] at this
          exact this
end
end K16
set_option maxHeartbeats 4000000
namespace K16
open PySem L2 Evl
theorem rangeAny_more {p : Nat → Bool} {i : Nat} : (List.range (i + 1)).any p = ((List.range i).any p || p i) := by
  rw [List.range_succ, List.any_append, List.any_cons, List.any_nil, Bool.or_false]
theorem takeAny_more {l : List (List Nat)} {i : Nat} {R : List Nat} (h : l[i]? = some R) (p : List Nat → Bool) : (l.take (i + 1)).any p = ((l.take i).any p || p R) := by
  rw [List.take_add_one, h, List.any_append, Option.toList_some, List.any_cons, List.any_nil, Bool.or_false]
theorem any_take {l : List (List Nat)} {i : Nat} {R : List Nat} (h : l[i]? = some R) (p : List Nat → Bool) (hp : p R = true) : l.any p = true := List.any_eq_true.mpr ⟨R, List.mem_of_getElem? h, hp⟩
section
variable {P : Program} {w : World} {K : PySem.W.Frag} {mg : Str → Option Value} {base : Heap}
abbrev s_Hope_bar : Stmt := K16.inCls (K16.top 36) 2
abbrev N_Hope_bar : List Str := ["self", "box", "price", "holder", "ring"]
abbrev P_Hope_bar : List Str := ["self"]
theorem sc_Hope_bar : FnScope N_Hope_bar P_Hope_bar (C8.fnScope s_Hope_bar) := C8.fnScope_by (by decide +kernel)
def sp_bar (K : PySem.W.Frag) (C : Addr) : Sp := fun vs H Q _ => ∃ (t : Addr) (Y : Yd) (W : List (Option (Option Nat))), vs = [.ref t] ∧ HopeAt K C H t Y W ∧ VW Y.length W ∧ Y.length ≤ 100 ∧ Clo (hsOf Y) ∧
  (barB Y W = false → ∀ H', Ex H H' → Q .non H') ∧ (barB Y W = true → ∀ p H', Ex H H' → Q (.ref p) H')
theorem c_bar_mk {f C : Addr} {fd : FuncData} (T : Gb mg) (TC : HopeC K C) (me : Meth K C "bar" f) (F : C8.Fun K "bar" "Hope.bar" s_Hope_bar f fd) (b : Binds K fd P_Hope_bar []) (c_breaking : C8.Met P w K mg base 1 C "breaking" (sp_breaking K C) []) : C8.Met P w K mg base 2 C "bar" (sp_bar K C) [] := by
  refine C8.met0 (k := 1) TC.cl me F b sc_Hope_bar (fun vs H Q E h => ?_) (fun cdv A outer s H vs Q E hr h => ?_)
  · obtain ⟨t, Y, W, rfl, _⟩ := h
    rfl
  · obtain ⟨t, Y, W, rfl, hT, ok, hz, clo, q0, q1⟩ := h
    obtain ⟨dx, a, c, r, l, ts, h1, ⟨rs, hS, R⟩, h3, h4, h5, h6⟩ := id hT
    have hal : (arr (hsOf Y) W).length = Y.length := (arr_len (by rw [hsOf_len, ok.len])).trans (hsOf_len Y)
    have acl : Clo (arr (hsOf Y) W) := arr_clo clo (by rw [hsOf_len]; exact ok)
    refine ⟨_, (pss_cons (ps_for PassesOwn.never rfl (K16.pi_enumT (by rfl) T.n_enumerate (pa_cons (pe_fld (pv 0) rfl) pa_nil)) (pg_tup rfl (pgs_cons (pg_name (i := 1) sc_Hope_bar.nd rfl (Or.inl rfl)) (pgs_cons (pg_tup rfl (pgs_cons (pg_name (i := 2) sc_Hope_bar.nd rfl (Or.inl rfl)) (pgs_cons (pg_name (i := 3) sc_Hope_bar.nd rfl (Or.inl rfl)) pgs_nil))) pgs_nil)))
        (pss_one (ps_if (PW.pt (pw_and (pt_cmpR op_isN (pv 2) pe_non (nomark _)) (pw_and1 (pt_cmpR op_ne (pe_ix ix_tup (pe_fld (pv 0) rfl) (pv 1) (fun _ _ => rfl)) (pv 3) (nomark _))))) (pss_one (ps_ret (pe_tup (pa_cons (K16.pe_gl rfl T.g_PRICE) (pa_cons (pv 1) pa_nil))))) pss_nil)))
      (pss_cons (ps_for PassesOwn.never rfl (pi_list (pe_fld (pv 0) rfl)) (pg_name (i := 4) sc_Hope_bar.nd rfl (Or.inl rfl))
        (pss_one (ps_if (pt_cmpR (op_eqD hr.units) (C8.pe_mt c_breaking hr (by decide) (pv 0) (pa_cons (pv 4) pa_nil)) (pe_lst pa_nil) (nomark _)) (pss_one (ps_ret (pe_tup (pa_cons (K16.pe_gl rfl T.g_RING) (pa_cons (pe_ix ix_tup (pv 4) pe_int (fun _ _ => rfl)) pa_nil))))) pss_nil)))
      (pss_one (ps_ret pe_non)))), ?_⟩
    refine ⟨_, rfl, t, C, dx, _, _, rfl, h1, TC.cl, TC.nB, hF_b _ _ _ _, a, rs, rfl, hS, for_it walk_enumT (fun i σ H1 => ∃ v1 v2 v3 : Option V, σ = [some (.ref t), v1, v2, v3, none] ∧ Ex H H1 ∧ (List.range i).any (badB Y W) = false) ⟨none, none, none, rfl, Ex.refl H, rfl⟩ (fun i σ H1 _ ⟨_, _, _, _, e, _⟩ => ex_t e hS) ?_ ?_⟩
    · rintro i x σ H1 H2 hi ⟨v1, v2, v3, rfl, e1, hb⟩ ⟨u, x1, x2, rfl, nt, rfl, hx1, hx2⟩
      cases Option.some.inj hx1
      obtain ⟨z, p, hzz, rfl, hp⟩ := R.get hx2
      rw [R.len] at hi
      have e2 : Ex H (upd H1 u (.tup [.int (i : Nat), .ref p])) := e1.trans (Ex.new nt)
      have hpz : pr Y i = z.1 := pr_at hzz
      have huz : up (hsOf Y) i = z.2 := up_hs hzz
      refine ⟨u, _, rfl, SqT.of upd_same, rfl, _, _, rfl, _, _, rfl, ⟨p, _, rfl, ex_t e2 hp, rfl, _, _, rfl, _, _, rfl, rfl, rfl, ?_⟩⟩
      refine ⟨_, rfl, rfl, ?_⟩
      have step : badB Y W i = false → ∃ v1 v2 v3 : Option V, [some (.ref t), some (V.int (i : Nat)), some (pV z.1), some (hV z.2), none] = [some (.ref t), v1, v2, v3, none] ∧ Ex H (upd H1 u (.tup [.int (i : Nat), .ref p])) ∧ (List.range (i + 1)).any (badB Y W) = false := fun h => ⟨_, _, _, rfl, e2, by rw [rangeAny_more, hb, h] <;> rfl⟩
      cases ez : z.1 with
      | some y =>
        refine ⟨false, rfl, ?_⟩
        rw [ez] at step
        exact step (by unfold badB; rw [hpz, ez] <;> rfl)
      | none =>
        rw [ez] at step
        refine ⟨true, rfl, ?_⟩
        refine ⟨_, rfl, t, C, dx, _, _, rfl, e2 _ _ h1, TC.cl, TC.nA, hF_a _ _ _ _, _, rfl, r, _, _, _, rfl, rfl, SqT.of (e2 _ _ h4), at_up (by rw [hal]; exact hi), _, rfl, scal_hV _ _, ?_⟩
        by_cases hm : up (arr (hsOf Y) W) i = z.2
        · refine ⟨false, congrArg V.bl (by rw [dec_hV, decide_eq_true hm] <;> rfl), ?_⟩
          exact step (by unfold badB; rw [huz, decide_eq_true hm, Bool.not_true, Bool.and_false])
        · refine ⟨true, congrArg V.bl (by rw [dec_hV, decide_eq_false hm] <;> rfl), ?_⟩
          refine ⟨_, rfl, lineE (by show 2 ≤ 1000; decide), fun p3 hp3 => q1 ?_ p3 _ (e2.trans (Ex.new hp3))⟩
          unfold barB
          rw [Bool.or_eq_true]
          refine .inl (List.any_eq_true.mpr ⟨i, List.mem_range.mpr hi, ?_⟩)
          unfold badB
          rw [hpz, ez, huz, decide_eq_false hm] <;> rfl
    · rintro σ H1 ⟨v1, v2, v3, rfl, e1, hb⟩
      rw [R.len] at hb
      refine ⟨_, rfl, t, C, dx, _, _, rfl, e1 _ _ h1, TC.cl, TC.nL, hF_l _ _ _ _, l, rfl, ⟨_, SqL.of (e1 _ _ h5)⟩, for_list (K := K) (a := l) (xs := ts) (fun i σ H2 => ∃ v : Option V, σ = [some (.ref t), v1, v2, v3, v] ∧ Ex H H2 ∧ ((loops (arr (hsOf Y) W)).take i).any (fun R => (brk Y W R).isEmpty) = false) ⟨none, rfl, e1, rfl⟩ (fun i σ H2 _ ⟨_, _, e, _⟩ => SqL.of (e _ _ h5)) ?_ ?_⟩
      · rintro i x σ H2 hx ⟨v, rfl, e2, hb2⟩
        obtain ⟨RR, g, hR, rfl, hg⟩ := h6.get hx
        have lt := loops_lt acl (List.mem_of_getElem? hR)
        rw [hal] at lt
        refine ⟨_, rfl, t, dx, _, rfl, e2 _ _ h1, hF_no _ _ _ _ (by decide +kernel) (by decide +kernel) (by decide +kernel) (by decide +kernel), _, rfl, t, g, Y, W, RR, rfl, hT.mono e2, ok.len, SqT.of (e2 _ _ hg), lt.1, by omega, fun y H3 e3 ny hy => ?_⟩
        refine ⟨lineE (Nat.zero_le _), fun z hz0 => ?_⟩
        have e4 : Ex H3 (upd H3 z (.lst [])) := Ex.new hz0
        have e04 := e2.trans (e3.trans e4)
        refine ⟨_, _, dp_nats (SqL.of (e4 _ _ hy)), .lst (SqL.of upd_same) .nil, sh_ok (sh_nats _), sh_ok sh_empty, ?_⟩
        rw [eqv_empty]
        by_cases hn : brk Y W RR = []
        · refine ⟨true, by rw [decide_eq_true hn] <;> rfl, ?_⟩
          obtain ⟨r0, rr, eR⟩ : ∃ r0 rr, RR = r0 :: rr := by
            cases RR with
            | nil => exact absurd rfl lt.2.2
            | cons r0 rr => exact ⟨r0, rr, rfl⟩
          have hg' := e04 _ _ hg
          rw [eR] at hg'
          refine ⟨_, rfl, g, _, 0, nV r0, rfl, rfl, SqT.of hg', atI_nat (j := 0) rfl, lineE (by show 2 ≤ 1000; decide), fun p3 hp3 => q1 ?_ p3 _ (e04.trans (Ex.new hp3))⟩
          unfold barB
          rw [Bool.or_eq_true]
          exact .inr (any_take hR _ (by rw [hn] <;> rfl))
        · refine ⟨false, by rw [decide_eq_false hn] <;> rfl, _, rfl, e04, ?_⟩
          rw [takeAny_more hR, hb2]
          cases eb : brk Y W RR with
          | nil => exact absurd eb hn
          | cons _ _ => rfl
      · rintro σ H2 ⟨v, rfl, e2, hb2⟩
        rw [h6.len, List.take_length] at hb2
        exact q0 (by unfold barB; rw [hb, hb2] <;> rfl) H2 e2
abbrev s_Hope_best_goal : Stmt := K16.inCls (K16.top 36) 3
abbrev N_Hope_best_goal : List Str := ["self", "broken", "ring", "box", "holder"]
abbrev P_Hope_best_goal : List Str := ["self"]
theorem sc_Hope_best_goal : FnScope N_Hope_best_goal P_Hope_best_goal (C8.fnScope s_Hope_best_goal) := C8.fnScope_by (by decide +kernel)
def sp_best_goal (K : PySem.W.Frag) (C : Addr) : Sp := fun vs H Q _ => ∃ (t : Addr) (Y : Yd) (W : List (Option (Option Nat))), vs = [.ref t] ∧ HopeAt K C H t Y W ∧ VW Y.length W ∧ Y.length ≤ 100 ∧ Clo (hsOf Y) ∧ (∀ R ∈ loops (arr (hsOf Y) W), brk Y W R ≠ []) ∧
  ∀ p H', Ex H H' → H' p = some (.tup ((bestG Y W).map hV)) → Q (.ref p) H'
theorem c_best_goal_mk {f C_Hope : Addr} {fd : FuncData} (T : Gb mg) (TC : HopeC K C_Hope) (me : Meth K C_Hope "best_goal" f) (F : C8.Fun K "best_goal" "Hope.best_goal" s_Hope_best_goal f fd) (b : Binds K fd P_Hope_best_goal [])
    (c_breaking : C8.Met P w K mg base 1 C_Hope "breaking" (sp_breaking K C_Hope) []) : C8.Met P w K mg base 2 C_Hope "best_goal" (sp_best_goal K C_Hope) [] := by
  refine C8.met0 (k := 1) TC.cl me F b sc_Hope_best_goal (fun vs H Q E h => ?_) (fun cdv A outer s H vs Q E hr h => ?_)
  · obtain ⟨t, Y, W, rfl, _⟩ := h
    rfl
  · obtain ⟨t, Y, W, rfl, hT, ok, hz, clo, hne, q⟩ := h
    obtain ⟨dx, a, c, r, l, ts, h1, h2, h3, h4, h5, h6⟩ := id hT
    have hal : (arr (hsOf Y) W).length = Y.length := (arr_len (by rw [hsOf_len, ok.len])).trans (hsOf_len Y)
    have acl : Clo (arr (hsOf Y) W) := arr_clo clo (by rw [hsOf_len]; exact ok)
    have lll : (loops (arr (hsOf Y) W)).length ≤ Y.length := by
      unfold loops
      rw [List.length_map, hal]
      have := List.length_filter_le (repB (arr (hsOf Y) W)) (List.range Y.length)
      rwa [List.length_range] at this
    refine ⟨_, (pss_cons (ps_set (i := 1) sc_Hope_best_goal.nd rfl (Or.inr rfl) (pe_lc (own := [("ring", 2)]) (g := (gName 2)) (tt := tYes) (te := (tOp (rIxL K) (tMeth C_Hope "breaking" (sp_breaking K C_Hope) [] C8.E0 (tVar 0) (tCons (tVar 2) tNil)) (tC (.int 0)))) rfl sc_Hope_best_goal.nd (pi_list (pe_fld (pv 0) rfl)) (blkOk_by (own := [("ring", 2)]) (N := N_Hope_best_goal) (sc := C8.fnScope s_Hope_best_goal) (by decide +kernel)) (fun _ _ _ _ _ => by exact (pg_name (i := 2) sc_Hope_best_goal.nd rfl (Or.inl rfl))) (fun _ _ _ _ _ => by exact pts_nil) (fun _ _ _ _ _ => by exact (pe_ix ix_list (C8.pe_mt c_breaking hr (by decide) (pv 0) (pa_cons (pv 2) pa_nil)) pe_int (fun _ _ => rfl)))))
      (pss_one (ps_ret (pe_callTy call_tuple_of (by rfl) T.n_tuple (by decide +kernel) (pa_cons (pe_lc (own := [("box", 3), ("holder", 4)]) (g := (gTup K 2 (gCons (gName 3) (gCons (gName 4) gNil)))) (tt := tYes) (te := (tIf (tTest (tOp (rIn K false) (tVar 3) (tVar 1))) (tC .non) (tVar 4))) rfl sc_Hope_best_goal.nd (K16.pi_enumT (by rfl) T.n_enumerate (pa_cons (pe_fld (pv 0) rfl) pa_nil)) (blkOk_by (own := [("box", 3), ("holder", 4)]) (N := N_Hope_best_goal) (sc := C8.fnScope s_Hope_best_goal) (by decide +kernel)) (fun _ _ _ _ _ => by exact (pg_tup rfl (pgs_cons (pg_name (i := 3) sc_Hope_best_goal.nd rfl (Or.inl rfl)) (pgs_cons (pg_name (i := 4) sc_Hope_best_goal.nd rfl (Or.inl rfl)) pgs_nil)))) (fun _ _ _ _ _ => by exact pts_nil) (fun _ _ _ _ _ => by exact (pe_ifExp (pt_cmpR op_in_seq (pv 3) (pv 1) (by with_unfolding_all rfl)) pe_non (pv 4)))) pa_nil))))), ?_⟩
    refine ⟨_, rfl, t, C_Hope, dx, _, _, rfl, h1, TC.cl, TC.nL, hF_l _ _ _ _, l, rfl, ⟨_, SqL.of h5⟩, fun D hD => ?_⟩
    refine lc_list (K := K) (a := l) (xs := ts) (fun i H1 => Ex H H1 ∧ H1 D = some (.lst ((((loops (arr (hsOf Y) W)).take i).map fun R => (brk Y W R).headD 0).map nV))) ⟨Ex.new hD, upd_same⟩ (fun i H1 _ z => SqL.of (z.1 _ _ h5)) ?_ ?_
    · rintro i x H1 hx ⟨e1, hl⟩
      obtain ⟨RR, g, hR, rfl, hg⟩ := h6.get hx
      have hm := List.mem_of_getElem? hR
      have lt := loops_lt acl hm
      rw [hal] at lt
      refine ⟨rfl, _, rfl, t, dx, _, rfl, e1 _ _ h1, hF_no _ _ _ _ (by decide +kernel) (by decide +kernel) (by decide +kernel) (by decide +kernel), _, rfl, t, g, Y, W, RR, rfl, hT.mono e1, ok.len, SqT.of (e1 _ _ hg), lt.1, by omega, fun y H2 e2 ny hy => ?_⟩
      cases eb : brk Y W RR with
      | nil => exact absurd eb (hne RR hm)
      | cons b0 br =>
        rw [eb] at hy
        refine ⟨y, _, 0, nV b0, rfl, rfl, SqL.of hy, atI_nat (j := 0) rfl, _, e2 _ _ hl, lineL (by rw [List.length_map, List.length_map, List.length_take]; omega), Ex.mut (e1.trans e2) hD, ?_⟩
        rw [upd_same, take_more hR, List.map_append, eb]
        rfl
    rintro H1 ⟨e1, hl⟩
    rw [h6.len, List.take_length] at hl
    have hb : H1 D = some (.lst ((brks Y W).map nV)) := hl
    refine ⟨_, rfl, t, C_Hope, dx, _, _, rfl, e1 _ _ h1, TC.cl, TC.nA, hF_a _ _ _ _, r, _, rfl, SqT.of (e1 _ _ h4), fun D2 hD2 => ?_⟩
    refine lc_it walk_enumT (fun i H2 => Ex H1 H2 ∧ H2 D2 = some (.lst (((bestG Y W).take i).map hV))) ⟨Ex.new hD2, upd_same⟩ (fun i H2 _ z => SqT.of (z.1 _ _ (e1 _ _ h4))) ?_ ?_
    · rintro i x H2 H3 hi ⟨e2, hl2⟩ ⟨u, x1, x2, rfl, nt, rfl, hx1, hx2⟩
      cases Option.some.inj hx1
      have hx2 : ((arr (hsOf Y) W).map hV)[i]? = some x2 := hx2
      rw [List.length_map] at hi
      rw [List.getElem?_map, up_at hi] at hx2
      cases Option.some.inj hx2
      have e3 : Ex H1 (upd H2 u (.tup [.int (i : Nat), hV (up (arr (hsOf Y) W) i)])) := e2.trans (Ex.new nt)
      have hl3 : (upd H2 u (.tup [.int (i : Nat), hV (up (arr (hsOf Y) W) i)])) D2 = some (.lst (((bestG Y W).take i).map hV)) := by
        rw [upd_ne (ne_of_none hl2 nt)]
        exact hl2
      have hbg : (bestG Y W)[i]? = some (if i ∈ brks Y W then none else up (arr (hsOf Y) W) i) := by
        unfold bestG
        rw [List.getElem?_map, List.getElem?_range (by omega)] <;> rfl
      have hln : (((bestG Y W).take i).map hV).length < sizeLine := lineL (by rw [List.length_map, List.length_take]; omega)
      refine ⟨u, _, rfl, SqT.of upd_same, rfl, _, _, rfl, _, _, rfl, rfl, rfl, ?_⟩
      by_cases hm : i ∈ brks Y W
      · refine ⟨_, rfl, _, rfl, D, _, rfl, .inl (SqL.of (e3 _ _ hb)), rfl, nVs_flat _, true, congrArg V.bl ((inV_nV _ _).trans (decide_eq_true hm)), ?_⟩
        refine ⟨_, hl3, hln, Ex.mut e3 hD2, ?_⟩
        rw [upd_same, take_more hbg, if_pos hm]
        rfl
      · refine ⟨_, rfl, _, rfl, D, _, rfl, .inl (SqL.of (e3 _ _ hb)), rfl, nVs_flat _, false, congrArg V.bl ((inV_nV _ _).trans (decide_eq_false hm)), ?_⟩
        refine ⟨_, rfl, _, hl3, hln, Ex.mut e3 hD2, ?_⟩
        rw [upd_same, take_more hbg, if_neg hm]
    · rintro H2 ⟨e2, hl2⟩
      have bl : (bestG Y W).length = Y.length := by unfold bestG; rw [List.length_map, List.length_range]
      rw [List.length_map, hal, ← bl, List.take_length] at hl2
      exact ⟨D2, _, rfl, .inl ⟨SqL.of hl2, fun p hp => q p _ (e1.trans (e2.trans (Ex.new hp))) upd_same⟩⟩
/-! ### hope_of, rings, breakers, cheapest -/
abbrev s_hope_of : Stmt := K16.top 37
abbrev N_hope_of : List Str := ["yard", "wish"]
abbrev P_hope_of : List Str := ["yard", "wish"]
theorem sc_hope_of : FnScope N_hope_of P_hope_of (C8.fnScope s_hope_of) := C8.fnScope_by (by decide +kernel)
def sp_hope_of (K : PySem.W.Frag) (C : Addr) : Sp := fun vs H Q _ => ∃ (a c : Addr) (Y : Yd) (W : List (Option (Option Nat))), vs = [.ref a, .ref c] ∧ YAt K H a Y ∧ VY Y ∧ VW Y.length W ∧ SqT K H c (W.map wV) ∧ ∀ t H', Ex H H' → HopeAt K C H' t Y W → Q (.ref t) H'
theorem c_hope_of {f C : Addr} {fd : FuncData} (T : Gb mg) (F : C8.Def K mg "hope_of" s_hope_of f fd) (b : Binds K fd P_hope_of []) (c_need_yard : C8.Cal P w K mg base 3 "need_yard" (sp_need_yard K) []) (c_need_wish : C8.Cal P w K mg base 3 "need_wish" (sp_need_wish K) [])
    (k_Hope : C8.Mak P w K mg base 2 "Hope" C (sp_Hope_init K C) []) : C8.Cal P w K mg base 4 "hope_of" (sp_hope_of K C) [] := by
  refine C8.cal0 (k := 3) F b .nil sc_hope_of (fun vs H Q E h => ?_) (fun cdv A outer s H vs Q E hr h => ?_)
  · obtain ⟨a, c, Y, W, rfl, _⟩ := h
    rfl
  · obtain ⟨a, c, Y, W, rfl, hY, ok, ow, hc, q⟩ := h
    have hle := ok.le
    refine ⟨_, (pss_cons (ps_expr (C8.pe_c c_need_yard hr (by decide) rfl (pa_cons (pv 0) pa_nil)))
      (pss_cons (ps_expr (C8.pe_c c_need_wish hr (by decide) rfl (pa_cons (pv 0) (pa_cons (pv 1) pa_nil))))
      (pss_one (ps_ret (C8.pe_mk k_Hope hr (by decide) rfl (pa_cons (pv 0) (pa_cons (pv 1) pa_nil))))))), ?_⟩
    refine ⟨_, rfl, a, Y, rfl, hY, ok, fun H1 e1 => ?_⟩
    refine ⟨_, rfl, _, rfl, a, c, Y, W, rfl, hY.mono e1, ow, by omega, ex_t e1 hc, fun H2 e2 => ?_⟩
    refine ⟨_, rfl, _, rfl, fun x dx nx ndx ne => ?_⟩
    have e3 : Ex H2 (upd (upd H2 dx (.own x)) x (.ins C dx [])) := (Ex.new ndx).trans (Ex.new (by rw [upd_ne (Ne.symm ne)]; exact nx))
    have e12 := e1.trans e2
    refine ⟨x, dx, a, c, Y, W, rfl, upd_same, hY.mono (e12.trans e3), by omega, ok.fo.1, ow, ex_t (e12.trans e3) hc, fun H3 k ht => ⟨rfl, ?_⟩⟩
    exact q x H3 (fun b o hb => k b o (e3 b o (e12 b o hb)) (ne_of_none (e12 b o hb) nx)) ht
abbrev s_rings : Stmt := K16.top 38
abbrev N_rings : List Str := ["yard", "wish"]
abbrev P_rings : List Str := ["yard", "wish"]
theorem sc_rings : FnScope N_rings P_rings (C8.fnScope s_rings) := C8.fnScope_by (by decide +kernel)
/-- a list of tuples of numbers -/
def TL (H : Hp) (l : Addr) (Ls : List (List Nat)) : Prop := ∃ ts, H l = some (.lst ts) ∧ Tups H ts Ls
def sp_rings (K : PySem.W.Frag) : Sp := fun vs H Q _ => ∃ (a c : Addr) (Y : Yd) (W : List (Option (Option Nat))), vs = [.ref a, .ref c] ∧ YAt K H a Y ∧ VY Y ∧ VW Y.length W ∧ SqT K H c (W.map wV) ∧ ∀ l H', Ex H H' → TL H' l (loops (arr (hsOf Y) W)) → Q (.ref l) H'
theorem c_rings {f C : Addr} {fd : FuncData} (T : Gb mg) (TC : HopeC K C) (F : C8.Def K mg "rings" s_rings f fd) (b : Binds K fd P_rings []) (c_hope_of : C8.Cal P w K mg base 4 "hope_of" (sp_hope_of K C) []) : C8.Cal P w K mg base 5 "rings" (sp_rings K) [] := by
  refine C8.cal0 (k := 4) F b .nil sc_rings (fun vs H Q E h => ?_) (fun cdv A outer s H vs Q E hr h => ?_)
  · obtain ⟨a, c, Y, W, rfl, _⟩ := h
    rfl
  · obtain ⟨a, c, Y, W, rfl, hY, ok, ow, hc, q⟩ := h
    refine ⟨_, (pss_one (ps_ret (pe_fld (C8.pe_c c_hope_of hr (by decide) rfl (pa_cons (pv 0) (pa_cons (pv 1) pa_nil))) rfl))), ?_⟩
    refine ⟨_, rfl, _, rfl, a, c, Y, W, rfl, hY, ok, ow, hc, fun t H1 e1 ht => ?_⟩
    obtain ⟨dx, a1, c1, r, l, ts, h1, h2, h3, h4, h5, h6⟩ := id ht
    exact ⟨t, C, dx, _, _, rfl, h1, TC.cl, TC.nL, hF_l _ _ _ _, q l H1 e1 ⟨ts, h5, h6⟩⟩
abbrev s_breakers : Stmt := K16.top 39
abbrev N_breakers : List Str := ["yard", "wish", "hope", "ring"]
abbrev P_breakers : List Str := ["yard", "wish"]
theorem sc_breakers : FnScope N_breakers P_breakers (C8.fnScope s_breakers) := C8.fnScope_by (by decide +kernel)
/-- lists of numbers, each tracked -/
structure Lsts (H : Hp) (ts : List V) (Ls : List (List Nat)) : Prop where
  len : ts.length = Ls.length
  at_ : ∀ (i : Nat) (R : List Nat), Ls[i]? = some R → ∃ q : Addr, ts[i]? = some (V.ref q) ∧ H q = some (.lst (R.map nV))
theorem Lsts.mono {H H' : Hp} {ts : List V} {Ls : List (List Nat)} (e : Ex H H') (t : Lsts H ts Ls) : Lsts H' ts Ls := ⟨t.len, fun i R h => let ⟨q, h1, h2⟩ := t.at_ i R h; ⟨q, h1, e _ _ h2⟩⟩
theorem Lsts.get {H : Hp} {ts : List V} {Ls : List (List Nat)} (t : Lsts H ts Ls) {i : Nat} {x : V} (hx : ts[i]? = some x) : ∃ (R : List Nat) (q : Addr), Ls[i]? = some R ∧ x = V.ref q ∧ H q = some (.lst (R.map nV)) := by
  have hi := (List.getElem?_eq_some_iff.mp hx).1
  rw [t.len] at hi
  obtain ⟨q, h1, h2⟩ := t.at_ i Ls[i] (by simp [hi])
  rw [h1] at hx
  exact ⟨Ls[i], q, by simp [hi], (Option.some.inj hx).symm, h2⟩
theorem Lsts.more {H H' : Hp} {ts : List V} {Ls : List (List Nat)} (t : Lsts H ts Ls) (e : Ex H H') {q : Addr} {R : List Nat} (hq : H' q = some (.lst (R.map nV))) : Lsts H' (ts ++ [.ref q]) (Ls ++ [R]) := by
  refine ⟨by rw [List.length_append, List.length_append, t.len] <;> rfl, fun i R' h => ?_⟩
  by_cases hi : i < Ls.length
  · rw [List.getElem?_append_left hi] at h
    obtain ⟨p, h1, h2⟩ := t.at_ i R' h
    exact ⟨p, by rw [List.getElem?_append_left (by rw [t.len]; exact hi)]; exact h1, e _ _ h2⟩
  · rw [List.getElem?_append_right (by omega)] at h
    have hi2 : i - Ls.length = 0 := by
      have := (List.getElem?_eq_some_iff.mp h).1
      simp at this
      omega
    rw [hi2] at h
    cases h
    exact ⟨q, by rw [List.getElem?_append_right (by rw [t.len]; omega), t.len, hi2] <;> rfl, hq⟩
/-- the heap without what is at D -/
def hid (D : Addr) (H : Hp) : Hp := fun b => if b = D then none else H b
theorem hid_ex {D : Addr} {H H' : Hp} (e : Ex H H') : Ex (hid D H) (hid D H') := fun b o h => by
  unfold hid at h ⊢
  by_cases hb : b = D
  · rw [if_pos hb] at h; cases h
  · rw [if_neg hb] at h ⊢
    exact e b o h
theorem hid_le (D : Addr) (H : Hp) : Ex (hid D H) H := fun b o h => by
  unfold hid at h
  by_cases hb : b = D
  · rw [if_pos hb] at h; cases h
  · rwa [if_neg hb] at h
theorem hid_upd (D : Addr) (H : Hp) (o : HO) : hid D (upd H D o) = hid D H := by
  funext b
  unfold hid
  by_cases hb : b = D
  · rw [if_pos hb, if_pos hb]
  · rw [if_neg hb, if_neg hb, upd_ne hb]
theorem hid_at {D b : Addr} {H : Hp} {o : HO} (h : H b = some o) (n : b ≠ D) : hid D H b = some o := by
  unfold hid
  rw [if_neg n]
  exact h
def LL (H : Hp) (l : Addr) (Ls : List (List Nat)) : Prop := ∃ ts, H l = some (.lst ts) ∧ Lsts H ts Ls
noncomputable def brkL (Y : Yd) (W : List (Option (Option Nat))) : List (List Nat) := (loops (arr (hsOf Y) W)).map (brk Y W)
def sp_breakers (K : PySem.W.Frag) : Sp := fun vs H Q _ => ∃ (a c : Addr) (Y : Yd) (W : List (Option (Option Nat))), vs = [.ref a, .ref c] ∧ YAt K H a Y ∧ VY Y ∧ VW Y.length W ∧ SqT K H c (W.map wV) ∧ ∀ l H', Ex H H' → LL H' l (brkL Y W) → Q (.ref l) H'
theorem c_breakers {f C_Hope : Addr} {fd : FuncData} (T : Gb mg) (TC : HopeC K C_Hope) (F : C8.Def K mg "breakers" s_breakers f fd) (b : Binds K fd P_breakers []) (c_hope_of : C8.Cal P w K mg base 4 "hope_of" (sp_hope_of K C_Hope) [])
    (c_breaking : C8.Met P w K mg base 1 C_Hope "breaking" (sp_breaking K C_Hope) []) : C8.Cal P w K mg base 5 "breakers" (sp_breakers K) [] := by
  refine C8.cal0 (k := 4) F b .nil sc_breakers (fun vs H Q E h => ?_) (fun cdv A outer s H vs Q E hr h => ?_)
  · obtain ⟨a, c, Y, W, rfl, _⟩ := h
    rfl
  · obtain ⟨a, c, Y, W, rfl, hY, ok, ow, hc, q⟩ := h
    have hle := ok.le
    have hal : (arr (hsOf Y) W).length = Y.length := (arr_len (by rw [hsOf_len, ow.len])).trans (hsOf_len Y)
    have acl : Clo (arr (hsOf Y) W) := arr_clo ok.fo.1 (by rw [hsOf_len]; exact ow)
    refine ⟨_, (pss_cons (ps_set (i := 2) sc_breakers.nd rfl (Or.inr rfl) (C8.pe_c c_hope_of hr (by decide) rfl (pa_cons (pv 0) (pa_cons (pv 1) pa_nil))))
      (pss_one (ps_ret (pe_lc (own := [("ring", 3)]) (g := (gName 3)) (tt := tYes) (te := (tMeth C_Hope "breaking" (sp_breaking K C_Hope) [] C8.E0 (tVar 2) (tCons (tVar 3) tNil))) rfl sc_breakers.nd (pi_list (pe_fld (pv 2) rfl)) (blkOk_by (own := [("ring", 3)]) (N := N_breakers) (sc := C8.fnScope s_breakers) (by decide +kernel)) (fun _ _ _ _ _ => by exact (pg_name (i := 3) sc_breakers.nd rfl (Or.inl rfl))) (fun _ _ _ _ _ => by exact pts_nil) (fun _ _ _ _ _ => by exact (C8.pe_mt c_breaking hr (by decide) (pv 2) (pa_cons (pv 3) pa_nil))))))), ?_⟩
    refine ⟨_, rfl, _, rfl, a, c, Y, W, rfl, hY, ok, ow, hc, fun t H1 e1 ht => ?_⟩
    obtain ⟨dx, a1, c1, r, l, ts, h1, h2, h3, h4, h5, h6⟩ := id ht
    refine ⟨_, rfl, t, C_Hope, dx, _, _, rfl, h1, TC.cl, TC.nL, hF_l _ _ _ _, l, rfl, ⟨_, SqL.of h5⟩, fun D hD => ?_⟩
    refine lc_list (K := K) (a := l) (xs := ts) (fun i H2 => Ex H1 H2 ∧ ∃ us, H2 D = some (.lst us) ∧ us.length ≤ i ∧ Lsts (hid D H2) us (((loops (arr (hsOf Y) W)).take i).map (brk Y W))) ⟨Ex.new hD, [], upd_same, Nat.le_refl _, rfl, fun i R h => nomatch h⟩ (fun i H2 _ z => SqL.of (z.1 _ _ h5)) ?_ ?_
    · rintro i x H2 hx ⟨e2, us, hl, hu, hus⟩
      obtain ⟨RR, g, hR, rfl, hg⟩ := h6.get hx
      have lt := loops_lt acl (List.mem_of_getElem? hR)
      have hi := (List.getElem?_eq_some_iff.mp hR).1
      rw [hal] at lt
      have lll : (loops (arr (hsOf Y) W)).length ≤ Y.length := by
        unfold loops
        rw [List.length_map, hal]
        have := List.length_filter_le (repB (arr (hsOf Y) W)) (List.range Y.length)
        rwa [List.length_range] at this
      refine ⟨rfl, _, rfl, t, dx, _, rfl, e2 _ _ h1, hF_no _ _ _ _ (by decide +kernel) (by decide +kernel) (by decide +kernel) (by decide +kernel), _, rfl, t, g, Y, W, RR, rfl, ht.mono e2, ow.len, SqT.of (e2 _ _ hg), lt.1, by omega, fun y H3 e3 ny hy => ?_⟩
      have hl3 := e3 _ _ hl
      refine ⟨us, hl3, lineL (by omega), Ex.mut (e2.trans e3) hD, _, upd_same, by rw [List.length_append]; exact Nat.succ_le_succ hu, ?_⟩
      rw [take_more hR]
      rw [hid_upd]
      exact hus.more (hid_ex e3) (hid_at hy (Ne.symm (ne_of_none hl ny)))
    · rintro H2 ⟨e2, us, hl, hu, hus⟩
      rw [h6.len, List.take_length] at hus
      exact q D H2 (e1.trans e2) ⟨us, hl, hus.mono (hid_le D H2)⟩
end
end K16
set_option maxHeartbeats 4000000
namespace K16
open PySem L2 Evl
theorem best_len (Y : Yd) (W : List (Option (Option Nat))) : (bestG Y W).length = Y.length := by
  unfold bestG
  rw [List.length_map, List.length_range]
theorem best_up {Y : Yd} (W : List (Option (Option Nat))) {b : Nat} (h : b < Y.length) : up (bestG Y W) b = if b ∈ brks Y W then none else up (arr (hsOf Y) W) b := by
  refine up_of ?_
  unfold bestG
  rw [List.getElem?_map, List.getElem?_range h] <;> rfl
theorem bar_no {Y : Yd} {W : List (Option (Option Nat))} (h : barB Y W = false) : (∀ b, b < Y.length → badB Y W b = false) ∧ ∀ R ∈ loops (arr (hsOf Y) W), brk Y W R ≠ [] := by
  unfold barB at h
  rw [Bool.or_eq_false_iff] at h
  refine ⟨fun b hb => ?_, fun R hR e => ?_⟩
  · have := List.any_eq_false.mp h.1 b (List.mem_range.mpr hb)
    simpa using this
  · have := List.any_eq_false.mp h.2 R hR
    rw [e] at this
    exact this rfl
theorem brks_mem {Y : Yd} {W : List (Option (Option Nat))} (h : barB Y W = false) {b : Nat} (hb : b ∈ brks Y W) : ∃ R ∈ loops (arr (hsOf Y) W), b ∈ brk Y W R ∧ b = (brk Y W R).headD 0 := by
  obtain ⟨R, hR, e⟩ := List.mem_map.mp hb
  refine ⟨R, hR, ?_, e.symm⟩
  have := (bar_no h).2 R hR
  cases eb : brk Y W R with
  | nil => exact absurd eb this
  | cons x l =>
    rw [eb] at e
    rw [← e]
    exact List.mem_cons_self
theorem best_may {Y : Yd} {W : List (Option (Option Nat))} (h : barB Y W = false) : mayB Y (bestG Y W) = true := by
  unfold mayB
  rw [List.all_eq_true]
  intro b hb
  have hlt := some_lt hb
  rw [hsOf_len] at hlt
  have hne := (List.mem_filter.mp hb).2
  rw [best_up W hlt] at hne
  by_cases hm : b ∈ brks Y W
  · obtain ⟨R, hR, h1, _⟩ := brks_mem h hm
    exact (cand_sub (brk_sub h1)).2.2
  · rw [if_neg hm] at hne
    have h2 := (bar_no h).1 b hlt
    unfold badB at h2
    cases e : pr Y b with
    | some z => rfl
    | none =>
      rw [e] at h2
      have hne : (!decide (up (hsOf Y) b = up (arr (hsOf Y) W) b)) = true := hne
      have h2 : (!decide (up (arr (hsOf Y) W) b = up (hsOf Y) b)) = false := by simpa using h2
      simp only [Bool.not_eq_true', decide_eq_false_iff_not, Bool.not_eq_false', decide_eq_true_eq] at hne h2
      exact absurd h2.symm hne
/-- what cheapest tells: None, or a pair of the cost and a goal -/
def CheapP (H : Hp) (v : V) (Y : Yd) (W : List (Option (Option Nat))) : Prop := (barB Y W = true ∧ v = .non) ∨ (barB Y W = false ∧ ∃ p g : Addr, v = .ref p ∧ H p = some (.tup [.int (costN Y (bestG Y W)), .ref g]))
theorem CheapP.mono {H H' : Hp} {v : V} {Y : Yd} {W : List (Option (Option Nat))} (e : Ex H H') (c : CheapP H v Y W) : CheapP H' v Y W := by
  rcases c with c | ⟨h, p, g, h1, h2⟩
  · exact .inl c
  · exact .inr ⟨h, p, g, h1, e _ _ h2⟩
section
variable {P : Program} {w : World} {K : PySem.W.Frag} {mg : Str → Option Value} {base : Heap}
abbrev s_cheapest : Stmt := K16.top 40
abbrev N_cheapest : List Str := ["yard", "wish", "hope", "goal"]
abbrev P_cheapest : List Str := ["yard", "wish"]
theorem sc_cheapest : FnScope N_cheapest P_cheapest (C8.fnScope s_cheapest) := C8.fnScope_by (by decide +kernel)
def sp_cheapest (K : PySem.W.Frag) : Sp := fun vs H Q _ => ∃ (a c : Addr) (Y : Yd) (W : List (Option (Option Nat))), vs = [.ref a, .ref c] ∧ YAt K H a Y ∧ VY Y ∧ VW Y.length W ∧ SqT K H c (W.map wV) ∧ ∀ v H', Ex H H' → CheapP H' v Y W → Q v H'
theorem c_cheapest {f C C2 : Addr} {fd : FuncData} (T : Gb mg) (TC : HopeC K C) (F : C8.Def K mg "cheapest" s_cheapest f fd) (b : Binds K fd P_cheapest []) (c_hope_of : C8.Cal P w K mg base 4 "hope_of" (sp_hope_of K C) []) (c_bar : C8.Met P w K mg base 2 C "bar" (sp_bar K C) [])
    (c_best_goal : C8.Met P w K mg base 2 C "best_goal" (sp_best_goal K C) []) (k_Task : C8.Mak P w K mg base 2 "Task" C2 (sp_Task_init K C2) []) (c_cost : C8.Met P w K mg base 1 C2 "cost" (sp_cost K C2) []) : C8.Cal P w K mg base 5 "cheapest" (sp_cheapest K) [] := by
  refine C8.cal0 (k := 4) F b .nil sc_cheapest (fun vs H Q E h => ?_) (fun cdv A outer s H vs Q E hr h => ?_)
  · obtain ⟨a, c, Y, W, rfl, _⟩ := h
    rfl
  · obtain ⟨a, c, Y, W, rfl, hY, ok, ow, hc, q⟩ := h
    have hle := ok.le
    refine ⟨_, (pss_cons (ps_set (i := 2) sc_cheapest.nd rfl (Or.inl rfl) (C8.pe_c c_hope_of hr (by decide) rfl (pa_cons (pv 0) (pa_cons (pv 1) pa_nil))))
      (pss_cons (ps_if (pt_cmpR op_notN (C8.pe_mt0 c_bar hr (by decide) (pv 2)) pe_non (nomark _)) (pss_one (ps_ret pe_non)) pss_nil)
      (pss_cons (ps_set (i := 3) sc_cheapest.nd rfl (Or.inl rfl) (C8.pe_mt0 c_best_goal hr (by decide) (pv 2)))
      (pss_one (ps_ret (pe_tup (pa_cons (C8.pe_mt0 c_cost hr (by decide) (C8.pe_mk k_Task hr (by decide) rfl (pa_cons (pv 0) (pa_cons (pv 3) pa_nil)))) (pa_cons (pv 3) pa_nil)))))))), ?_⟩
    refine ⟨_, rfl, _, rfl, a, c, Y, W, rfl, hY, ok, ow, hc, fun t H1 e1 ht => ?_⟩
    obtain ⟨dx, a1, c1, r, l, ts, h1, h2, h3, h4, h5, h6⟩ := id ht
    refine ⟨_, rfl, t, dx, _, rfl, h1, hF_no _ _ _ _ (by decide +kernel) (by decide +kernel) (by decide +kernel) (by decide +kernel), t, Y, W, rfl, ht, ow, by omega, ok.fo.1, fun hb H2 e2 => ?_, fun hb p H2 e2 => ?_⟩
    · refine ⟨rfl, false, rfl, ?_⟩
      refine ⟨_, rfl, t, dx, _, rfl, e2 _ _ h1, hF_no _ _ _ _ (by decide +kernel) (by decide +kernel) (by decide +kernel) (by decide +kernel), t, Y, W, rfl, ht.mono e2, ow, by omega, ok.fo.1, (bar_no hb).2, fun g H3 e3 hg => ?_⟩
      have e13 := e1.trans (e2.trans e3)
      refine ⟨_, rfl, _, rfl, fun x dx2 nx ndx ne => ?_⟩
      have e4 : Ex H3 (upd (upd H3 dx2 (.own x)) x (.ins C2 dx2 [])) := (Ex.new ndx).trans (Ex.new (by rw [upd_ne (Ne.symm ne)]; exact nx))
      refine ⟨x, dx2, a, g, Y, bestG Y W, rfl, upd_same, hY.mono (e13.trans e4), by omega, best_len Y W, SqT.of (e4 _ _ hg), fun H5 k5 ht5 => ⟨rfl, ?_⟩⟩
      obtain ⟨dx5, a5, c5, r5, l5, g1, g2, g3, g4, g5⟩ := id ht5
      refine ⟨x, dx5, _, rfl, g1, tF_no _ _ _ _ (by decide +kernel) (by decide +kernel) (by decide +kernel) (by decide +kernel), x, Y, bestG Y W, rfl, ht5, by omega, best_may hb, fun H6 e6 => ?_⟩
      refine ⟨_, rfl, lineE (by show 2 ≤ 1000; decide), fun p hp => q _ _ ?_ (.inr ⟨hb, p, g, rfl, upd_same⟩)⟩
      intro b o hb1
      have hb3 := e13 b o hb1
      exact (Ex.new hp) b o (e6 b o (k5 b o (e4 b o hb3) (ne_of_none hb3 nx)))
    · refine ⟨rfl, true, rfl, ?_⟩
      exact q _ _ (e1.trans e2) (.inl ⟨hb, rfl⟩)
end
end K16
set_option maxHeartbeats 4000000
/-! ### sorted(xs, key=lambda a: ..): the lambda of one parameter, its calls, the sort -/
namespace K16
open PySem PySem.Spec PyProof.Rows L2 LamX Evl
/-- one parameter a, no other name of its own: captured ones and globals -/
structure LamP (sc scope : Scope) (a : Str) : Prop where
  kind : scope.kind = .function
  co : scope.isCoroutine = false
  gen : scope.isGenerator = false
  own : ∀ y ∈ scope.names, y.2 ≠ .cell ∧ (y.2 = .local → y.1 = a)
  par : scope.names.lookup a = some .local
  free : ∀ y ∈ scope.names, y.2 = .free → sc.names.lookup y.1 = some .cell ∨ sc.names.lookup y.1 = some .free
def lamPB (sc scope : Scope) (a : Str) : Bool :=
  decide (scope.kind = .function) && !scope.isCoroutine && !scope.isGenerator && decide (scope.names.lookup a = some .local) && scope.names.all fun y => !decide (y.2 = .cell) && (!decide (y.2 = .local) || decide (y.1 = a)) && (!decide (y.2 = .free) || decide (sc.names.lookup y.1 = some .cell) || decide (sc.names.lookup y.1 = some .free))
theorem lamP_by {sc scope : Scope} {a : Str} (h : lamPB sc scope a = true) : LamP sc scope a := by
  unfold lamPB at h
  simp only [Bool.and_eq_true, Bool.or_eq_true, Bool.not_eq_true', decide_eq_true_eq, decide_eq_false_iff_not, List.all_eq_true] at h
  obtain ⟨⟨⟨⟨h1, h2⟩, h3⟩, h5⟩, h4⟩ := h
  refine ⟨h1, h2, h3, fun y hy => ⟨(h4 y hy).1.1, fun e => ?_⟩, h5, fun y hy e => ?_⟩
  · rcases (h4 y hy).1.2 with z | z
    · exact absurd e z
    · exact z
  · rcases (h4 y hy).2 with (z | z) | z
    · exact absurd e z
    · exact .inl z
    · exact .inr z
theorem LamP.has {X : Cx} {scope : Scope} {a : Str} (L : LamP X.env.scope scope a) (ok : X.Ok) : ∀ y ∈ scope.names, y.2 = .free → ∃ c, X.env.cells.lookup y.1 = some c := fun y hy e => by
  rcases L.free y hy e with k | k
  · exact ok.has _ (.inl k)
  · exact ok.has _ (.inr k)
section
variable {X : Cx} {pins : List (Addr × Obj)} {σ : L2.St} {H : Hp} {s : Shared}
/-- the lambda's body begins: its parameter's slot holds the argument -/
theorem lam_start1 {A : Around} {scope : Scope} {a : Str} {ia : Nat} {f c' : Addr} {h1 : Heap} {tk : Nat} {x : V} {u : Value} (I : Inv X pins σ H s) (L : LamP X.env.scope scope a) (e0 : Env0 X.prog X.w X.K X.mg X.base A X.stack s H) (hd : A.handled = none)
    (hN : X.N[ia]? = some a) (hnd : X.N.Nodup) (rv : RelV x u) (hns : h1.Ns s.heap.objs.size fun y => ([(a, u)] : List (Str × Value)).reverse.lookup y) (kp : ∀ b o, s.heap.get? b = some o → h1.get? b = some o) :
    Inv (lamCx X A X.stack s H C8.E0 scope f c') [] (σ.set ia (some x)) H { s with heap := h1, toks := tk } := by
  have hfree := L.has I.ok
  have cm : ∀ {y c}, (cloFrom X.env.cells scope.names []).lookup y = some c → X.env.cells.lookup y = some c := fun {y c} e => by
    rcases cloFrom_mem (PySem.mem_of_lookup e) with hm | ⟨h1, h2⟩
    · cases hm
    · obtain ⟨c1, hc⟩ := hfree _ h1 rfl
      have hc : X.env.cells.lookup y = some c1 := hc
      have e2 : c = c1 := by rw [h2, hc] <;> rfl
      rw [e2]
      exact hc
  have look : ∀ {y}, scope.names.lookup y = some .free → ∃ c, (cloFrom X.env.cells scope.names []).lookup y = some c := fun {y} hl => by
    have hy : (y, NameKind.free) ∈ scope.names := PySem.mem_of_lookup hl
    exact mem_lookup (cloFrom_has (cells := X.env.cells) (acc := []) hy)
  have cellK : ∀ {c : Addr} {v : Option Value}, s.heap.IsCell c v → h1.IsCell c v := fun {c v} ⟨o, ho, hd⟩ => ⟨_, kp _ _ ho, hd⟩
  have noA : ∀ b : Addr, b ∉ (lamCx X A X.stack s H C8.E0 scope f c').ex := fun b z => absurd (show b ∈ ([] : List Addr) from z) (by simp)
  refine ⟨⟨e0.mod, L.kind, rfl, rfl, Nat.le_refl _, fun y z c e1 e2 => I.ok.inj y z c (cm e1) (cm e2), fun y hy => ?_, fun y c z _ => ?_, fun _ => hd, Around.frames_deeper e0.frames, .inr ⟨rfl, rfl⟩, fun b z => absurd z (noA b), e0.bs, e0.bsz, fun b _ _ => noA b,
      fun b z => absurd z (noA b), e0.funs, e0.frf⟩,
    rfl, e0.bare, Un.kept kp, ⟨_, hns, fun i y v e1 e2 e3 => ?_⟩, fun y c e => ?_, e0.hok.fresh (Nat.le_refl _), fun y c e => ?_, fun q hq => absurd (show q ∈ ([] : List (Addr × Obj)) ++ [] from hq) (by simp), e0.hok.kept kp, ?_⟩
  · have hy : scope.names.lookup y = some .cell ∨ scope.names.lookup y = some .free := hy
    rcases hy with hy | hy
    · exact absurd rfl (L.own _ (PySem.mem_of_lookup hy)).1
    · exact look hy
  · have z : false = true := z
    cases z
  · have e1 : X.N[i]? = some y := e1
    have e3 : Vis scope y := e3
    rcases e3 with k | k | k
    · have ey : y = a := (L.own _ (PySem.mem_of_lookup k)).2 rfl
      subst ey
      have ei : i = ia := nodup_ix hnd e1 hN
      subst ei
      have hl : i < σ.length := by
        rw [I.len]
        exact (List.getElem?_eq_some_iff.mp hN).1
      rw [List.getElem?_set_self hl] at e2
      cases e2
      refine ⟨u, rv, .inl ⟨k, ?_⟩⟩
      show ([(y, u)] : List (Str × Value)).reverse.lookup y = some u
      simp
    · exact absurd rfl (L.own _ (PySem.mem_of_lookup k)).1
    · have ne : ia ≠ i := fun z => by
        subst z
        rw [hN] at e1
        cases e1
        rw [L.par] at k
        cases k
      rw [List.getElem?_set_ne ne] at e2
      obtain ⟨m, hn, hl⟩ := I.loc
      have hvis : Vis X.env.scope y := (L.free _ (PySem.mem_of_lookup k) rfl).elim (fun k => .inr (.inl k)) (fun k => .inr (.inr k))
      obtain ⟨w', r, q⟩ := hl i y v e1 e2 hvis
      obtain ⟨c2, h2⟩ := look k
      refine ⟨w', r, .inr ⟨.inr k, c2, h2, ?_⟩⟩
      have c1 := cm h2
      rcases q with ⟨k', _⟩ | ⟨_, c3, e', z⟩
      · have k' : X.env.scope.names.lookup y = some .local := k'
        rcases L.free _ (PySem.mem_of_lookup k) rfl with k2 | k2 <;> rw [show X.env.scope.names.lookup y = _ from k2] at k' <;> cases k'
      · rw [c1] at e'
        cases e'
        exact cellK z
  · obtain ⟨w', z⟩ := I.cell y c (cm e)
    exact ⟨w', cellK z⟩
  · exact I.freeC y c (cm e)
  · rw [List.length_set]
    exact I.len
/-- f(u), f the lambda -/
theorem lam_call {A : Around} {scope : Scope} {params : Arguments} {body : Expr} {a : Str} {ia k : Nat} {f c' : Addr} {pm ctv u : Value} {x : V} {tb : TE} {Q : VK} (I : Inv X pins σ H s) (L : LamP X.env.scope scope a) (e0 : Env0 X.prog X.w X.K X.mg X.base A X.stack s H) (hr : Room (k + 1) A)
    (hN : X.N[ia]? = some a) (hnd : X.N.Nodup) (rv : RelV x u) (hf : s.heap.get? f = some (PySem.W.kla_obj "<lambda>" (X.env.qual ++ "<lambda>") params body scope (cloFrom X.env.cells scope.names []) pm c' ctv)) (hco : H c' = some (CodeO c' (X.env.qual ++ "<lambda>")))
    (hbind : bindArgs (PySem.W.kla_fn "<lambda>" (X.env.qual ++ "<lambda>") params body scope (cloFrom X.env.cells scope.names []) pm (.ref c') ctv) ⟨[u], []⟩ = pure [(a, u)])
    (hbody : Room k (A.deeper (lamEnv X scope s.heap.objs.size f c')) → PE (lamCx X A X.stack s H C8.E0 scope f c').nox body tb) (ht : tb (σ.set ia (some x)) H Q) :
    wpAny (model X.prog X.w) A (call (.ref f) [u]) (EP X pins σ Q) (fun _ _ => False) s := by
  obtain ⟨⟨oc, vs, t, hoc, hdc, hvc⟩, _, _⟩ := I.hok c' _ hco
  have rc : codeAny (model X.prog X.w) A (.call (.ref f) ⟨[u], []⟩) (CR C8.CX0 X.stack X.prog X.w H s Q C8.E0) s := by
    refine PySem.W.kla_callFunE hr.depth hf rfl L.co L.gen rfl ⟨c', oc, vs, t, rfl, hoc, hdc, hvc⟩ ?_
    rw [hbind]
    refine wpAny_pure (wpAny_newFunctionEnv (fun y hy => (L.own y hy).1) (fun y hy => ?_) (fun h1 hns hsb => ⟨I.nolimit.fresh _ hsb, ?_⟩) L.kind)
    · rw [List.mem_singleton.mp hy]
      exact L.par
    · show codeAny _ _ (.expr body (lamEnv X scope s.heap.objs.size f c')) _ _
      have kp : ∀ b o, s.heap.get? b = some o → h1.get? b = some o := fun b o e => hsb.extBut b o (Nat.ne_of_lt (Heap.lt_size e)) (Heap.get?_push_of_some _ e)
      have J := lam_start1 (f := f) (c' := c') (tk := s.toks + ([(a, u)] : List (Str × Value)).length) I L e0 hr.hd hN hnd rv hns kp
      refine PySem.W.kla_codeExpr (wpAny_mono ((hbody (hr.deeper _)).run [] _ _ H Q (J.wish _) ht) (fun v s' hq => ?_) fun e s' hq => (show False from hq).elim)
      obtain ⟨w', H', J', rv', q⟩ := hq
      exact ⟨w', H', J'.os, J'.bare, J'.base, J'.hok, rv', q⟩
  refine wpAny_call (codeAny_mono rc fun r s' hq => ?_)
  cases r with
  | error e => exact hq
  | ok fl =>
    cases fl with
    | ret u => exact I.after hq
    | next => exact False.elim hq
    | brk => exact False.elim hq
    | cont => exact False.elim hq
theorem vals_perm {out vs : List Value} (p : out.Perm vs) : ∀ {xs : List V}, Vals xs vs → ∃ ys, ys.Perm xs ∧ Vals ys out := by
  induction p with
  | nil => exact fun {xs} r => ⟨xs, List.Perm.refl _, r⟩
  | cons x _ ih =>
    intro xs r
    cases r with
    | cons r1 r2 =>
      obtain ⟨ys, h1, h2⟩ := ih r2
      exact ⟨_, h1.cons _, .cons r1 h2⟩
  | swap x y l =>
    intro xs r
    cases r with
    | cons r1 r2 =>
      cases r2 with
      | cons r3 r4 => exact ⟨_, List.Perm.swap _ _ _, .cons r3 (.cons r1 r4)⟩
  | trans _ _ ih1 ih2 =>
    intro xs r
    obtain ⟨ys, h1, h2⟩ := ih2 r
    obtain ⟨zs, h3, h4⟩ := ih1 h2
    exact ⟨zs, h3.trans h1, h4⟩
/-- the keys as they stand -/
def keyOf (H : Hp) : Value → Int × Int
  | .ref p => match H p with
    | some (.tup [.int i, .int j]) => (i, j)
    | _ => (0, 0)
  | _ => (0, 0)
def IsKeys (H : Hp) (ks : List V) : Prop := ∀ k ∈ ks, ∃ (p : Addr) (i j : Int), k = .ref p ∧ H p = some (.tup [.int i, .int j])
theorem keys_pairs {ks : List V} {its : List Value} (I : Inv X pins σ H s) (hk : IsKeys H ks) (r : Vals ks its) : ∀ u ∈ its, Srt.IsPair s.heap u (keyOf H u).1 (keyOf H u).2 := fun u hu => by
  obtain ⟨e1, e2⟩ := refs_back r fun x m => let ⟨t, _, _, e, _⟩ := hk x m; ⟨t, e⟩
  obtain ⟨t, rfl⟩ := e2 u hu
  have hm : V.ref t ∈ ks := e1 ▸ List.mem_map.mpr ⟨_, hu, rfl⟩
  obtain ⟨t', i, j, e, ht⟩ := hk _ hm
  cases e
  obtain ⟨_, it2, r2, o, ho, hc, n, hd⟩ := I.hok _ _ ht
  obtain ⟨u1, u2, rfl, ⟨t1, rfl⟩, ⟨t2, rfl⟩⟩ := vals2 r2
  refine ⟨t, o, t1, t2, n, rfl, ho, hc, ?_⟩
  have e : keyOf H (.ref t) = (i, j) := by
    unfold keyOf
    dsimp only
    rw [ht]
  rw [e]
  exact hd
/-! ### list.sort by the keys: what comes behind the keys' making -/
theorem key_end {A : Around} {a kS : Addr} {e1 : Nat} {xs ks : List V} {vs : List Value} {P : PySem.Fin → Shared → Prop} {E : Value → Shared → Prop} (I : Inv X pins σ H s) (ha : H a = some (.ext fun h => h.get? a = some (seqObj "list" #[] e1))) (hS : H kS = some (.lst ks)) (hk : IsKeys H ks)
    (hl : ks.length = xs.length) (r : Vals xs vs) (hz : xs.length ≤ sizeLine) {keys : List Value} {n : Nat} (rk : Vals ks keys) (hkS : s.heap.get? kS = some (seqObj "list" keys.toArray n))
    (h : ∀ (ys : List V) (s' : Shared), ys.Perm xs → Inv X pins σ (upd (upd H kS (.lst [])) a (.lst ys)) s' → P (.done (.ret .none)) s') :
    wpAny (model X.prog X.w) A (ksk_end a false vs.toArray e1 (.ref kS) keys.toArray) P E s := by
  have nka : kS ≠ a := ne_of hS ha (by intro z; cases z)
  have pk := keys_pairs I hk rk
  have lv : vs.length = xs.length := r.length.symm
  have lk : keys.length = vs.length := by rw [← rk.length, hl, lv]
  have hz' : vs.length ≤ sizeLine := by rw [lv]; exact hz
  have fin : ∀ st : SortSt, (arrOf st).toList.Perm (keys.zip vs) → failedOf st = none → wpAny (model X.prog X.w) A (ksk_tail a false e1 (.ref kS) st) P E s := by
    intro st pm hf
    have po : ((arrOf st).map (·.2)).toList.Perm vs := by
      rw [Array.toList_map]
      have := pm.map (fun p : Keyed => p.2)
      rwa [show (keys.zip vs).map (fun p : Keyed => p.2) = vs from List.map_snd_zip (Nat.le_of_eq lk.symm)] at this
    obtain ⟨ys, py, ry⟩ := vals_perm po r
    obtain ⟨hea, _, _⟩ := I.hok a _ ha
    have hea : s.heap.get? a = some (seqObj "list" #[] e1) := hea
    have so : ((arrOf st).map (·.2)).size ≤ sizeLine := by
      have := po.length_eq
      rw [Array.length_toList] at this
      omega
    obtain ⟨c1, hc1⟩ : ∃ c1, (s.heap.update kS (Obj.mapSeq fun _ => (#[] : Array Value))).get? kS = some (seqObj "list" #[] c1) := ⟨_, get?_update_seq hkS fun _ => #[]⟩
    have I1 : Inv X pins σ (upd H kS (.lst [])) { s with heap := s.heap.update kS (Obj.mapSeq fun _ => (#[] : Array Value)), toks := s.toks } := I.write (e := kS) (by rw [hS]; trivial) (.inl rfl) (fun b u hb hu => by rw [Heap.get?_update_ne _ _ _ _ hb]; exact hu) ⟨_, hc1⟩ ⟨Nat.zero_le _, [], c1, .nil, hc1⟩
    have ha1 : (s.heap.update kS (Obj.mapSeq fun _ => (#[] : Array Value))).get? a = some (seqObj "list" #[] e1) := by rw [Heap.get?_update_ne _ _ _ _ (Ne.symm nka)]; exact hea
    obtain ⟨c2, hc2⟩ : ∃ c2, ((s.heap.update kS (Obj.mapSeq fun _ => (#[] : Array Value))).update a (Obj.mapSeq fun _ => (arrOf st).map (·.2))).get? a = some (seqObj "list" ((arrOf st).map (·.2)) c2) := ⟨_, get?_update_seq ha1 fun _ => (arrOf st).map (·.2)⟩
    have I2 := I1.write (x := a) (e := a) (o := .lst ys) (h' := (s.heap.update kS (Obj.mapSeq fun _ => (#[] : Array Value))).update a (Obj.mapSeq fun _ => (arrOf st).map (·.2))) (t' := s.toks) (by rw [upd_ne (Ne.symm nka), ha]; trivial) (.inl rfl) (fun b u hb hu => by rw [Heap.get?_update_ne _ _ _ _ hb]; exact hu) ⟨_, hc2⟩
      ⟨by rw [py.length_eq]; exact hz, _, c2, ry, by rw [Array.toArray_toList]; exact hc2⟩
    unfold ksk_tail
    try dsimp only
    refine wpAny_bind (listUpdate_at hkS rfl ?_ (by rw [List.size_toArray]; omega) (Nat.zero_le _))
    refine wpAny_bind (wpAny_letGo ?_)
    refine wpAny_bind (seqEpoch_at ha1 rfl ?_)
    refine wpAny_bind (listUpdate_at ha1 rfl ?_ (Nat.zero_le _) (by simp only [Bool.false_eq_true, if_false]; omega))
    rw [hf]
    simp only [bne_self_eq_false, Bool.false_eq_true, if_false]
    exact wpAny_pure (h ys _ py I2)
  have hall : SrtO.AllL (fun p : Keyed => p.1 ∈ keys) (keys.toArray.zip vs.toArray).toList := fun p hm => by
    rw [ksk_zip] at hm
    exact (List.of_mem_zip hm).1
  unfold ksk_end
  simp only [Bool.false_eq_true, if_false]
  by_cases h2 : vs.toArray.size < 2
  · rw [if_pos h2, if_pos h2]
    refine wpAny_bind (wpAny_pure ?_)
    rw [StateT.run_pure]
    refine wpAny_bind (wpAny_pure ?_)
    try dsimp only
    exact fin (SortSt.mk' general' (keys.toArray.zip vs.toArray) #[] 7 none) (by show (keys.toArray.zip vs.toArray).toList.Perm _; rw [ksk_zip]) rfl
  · rw [if_neg h2, if_neg h2]
    rw [List.size_toArray] at h2
    obtain ⟨fs, f1, f2, f3⟩ := Srt.firsts_of fun v hm => ⟨_, _, pk v hm⟩
    have kind : ∀ (Q : SortKind → Shared → Prop) (E : Value → Shared → Prop), Q (tuples' true) s → wpAny (model X.prog X.w) A (keyKind' keys.toArray) Q E s := fun Q E hq => by
      refine PySem.W.kat_kind (T := .type "int") f1 (by omega) (fun f hm => ?_) (by rfl) ?_
      · obtain ⟨x, t, rfl⟩ := f3 f hm
        exact PySem.W.Looks.now
      · have e : (Value.type "int" != Value.type "tuple") = true := by first | decide +kernel | rfl | decide
        rw [e]
        exact hq
    refine wpAny_bind (kind _ _ ?_)
    refine wpAny_bind (wpAny_mono (SrtO.wpS_sortO (st0 := SortSt.mk' (tuples' true) (keys.toArray.zip vs.toArray) #[] 7 none)
      (Q := fun _ st' => SrtO.Stb (SrtO.lt2 fun v u => SrtO.lexB (keyOf H v) (keyOf H u)) (arrOf st').toList (keys.toArray.zip vs.toArray).toList ∧ failedOf st' = none) (SrtO.swo2 (SrtO.swo_lex (keyOf H))) (SrtO.pair_cmp pk) rfl hall rfl rfl fun st' _ a2 a3 => ⟨a2, a3⟩) ?_ fun _ _ e => e)
    rintro ⟨⟨⟩, st'⟩ s' ⟨rfl, hp, hf⟩
    try dsimp only
    have pm := hp.perm
    rw [ksk_zip] at pm
    exact fin st' pm hf
/-- the loop that makes the keys -/
theorem key_rest {A : Around} {f : Value} {a kS : Addr} {e1 : Nat} {xs : List V} {vs : List Value} {P : PySem.Fin → Shared → Prop} {E : Value → Shared → Prop} (I : Inv X pins σ H s) (ha : H a = some (.ext fun h => h.get? a = some (seqObj "list" #[] e1))) (hS : H kS = some (.lst [])) (r : Vals xs vs) (hz : xs.length ≤ sizeLine)
    (turn : ∀ (x : V) (u : Value) (H' : Hp) (s' : Shared), x ∈ xs → RelV x u → Inv X pins σ H' s' → (∀ b o, b ≠ kS → H b = some o → H' b = some o) →
      wpAny (model X.prog X.w) A (call f [u]) (EP X pins σ fun v H'' => Ex H' H'' ∧ ∃ (p : Addr) (i j : Int), v = .ref p ∧ H'' p = some (.tup [.int i, .int j])) (fun _ _ => False) s')
    (h : ∀ (ys : List V) (H' : Hp) (s' : Shared), ys.Perm xs → (∀ b o, b ≠ kS → b ≠ a → H b = some o → H' b = some o) → H' a = some (.lst ys) → Inv X pins σ H' s' → P (.done (.ret .none)) s') :
    wpAny (model X.prog X.w) A (ksk_rest a f false vs.toArray e1 (.ref kS)) P E s := by
  have nka : kS ≠ a := ne_of hS ha (by intro z; cases z)
  have lv : vs.length = xs.length := r.length.symm
  unfold ksk_rest
  refine wpAny_bind (wpAny_rule ?_)
  first
    | rw [List.forIn_toArray]
    | (rw [← Array.forIn_toList]; simp only [List.toList_toArray])
    | rw [← Array.forIn_toList]
  refine wpAny_bind (ksk_fold (fun i s' => ∃ (H' : Hp) (ks : List V), Inv X pins σ H' s' ∧ (∀ b o, b ≠ kS → H b = some o → H' b = some o) ∧ H' kS = some (.lst ks) ∧ IsKeys H' ks ∧ ks.length = i) vs 0 s ⟨H, [], I, fun _ _ _ e => e, hS, fun k hk => absurd hk (by simp), rfl⟩ ?step ?done)
  case step =>
    rintro j u s' hu ⟨H', ks, I', e', hS', hk', hlen⟩
    simp only [Nat.zero_add] at hlen ⊢
    have hj : j < vs.length := (List.getElem?_eq_some_iff.mp hu).1
    obtain ⟨x, hx⟩ : ∃ x, xs[j]? = some x := ⟨xs[j], by simp [show j < xs.length by omega]⟩
    have rx : RelV x u := by
      obtain ⟨u', h1, h2⟩ := r.get hx
      rw [hu] at h1
      cases h1
      exact h2
    refine wpAny_bind (wpAny_attempt (wpAny_mono (turn x u H' s' (List.mem_of_getElem? hx) rx I' e') (fun v s'' he => ?_) fun _ _ hF => hF.elim))
    obtain ⟨y, H2, I2, ry, e2, p, i1, j1, rfl, hp⟩ := he
    try dsimp only
    have hS2 := e2 _ _ hS'
    obtain ⟨hzk, its, n, rk, hk2⟩ := I2.hok _ _ hS2
    have hk2 : s''.heap.get? kS = some (seqObj "list" its.toArray n) := hk2
    have lits : its.length = j := by rw [← rk.length, hlen]
    obtain ⟨c2, hc2⟩ : ∃ c2, (s''.heap.update kS (Obj.mapSeq (·.push v))).get? kS = some (seqObj "list" (its.toArray.push v) c2) := ⟨_, get?_update_seq hk2 (·.push v)⟩
    have ea : (its ++ [v]).toArray = its.toArray.push v := by simp
    have I3 := I2.write (x := kS) (e := kS) (o := .lst (ks ++ [.ref p])) (h' := s''.heap.update kS (Obj.mapSeq (·.push v))) (t' := s''.toks) (by rw [hS2]; trivial) (.inl rfl) (fun b o hb ho => by rw [Heap.get?_update_ne _ _ _ _ hb]; exact ho) ⟨_, hc2⟩
      ⟨by rw [List.length_append, List.length_singleton]; omega, its ++ [v], c2, rk.append (.cons ry .nil), by rw [ea]; exact hc2⟩
    refine wpAny_bind (listUpdate_at hk2 rfl ?_ (by rw [List.size_toArray]; omega) (by rw [Array.size_push, List.size_toArray]; omega))
    refine wpAny_pure ⟨rfl, _, _, I3, fun b o hb ho => by rw [upd_ne hb]; exact e2 _ _ (e' b o hb ho), upd_same, ?_, by rw [List.length_append, List.length_singleton]; omega⟩
    intro k hkm
    rcases List.mem_append.mp hkm with hkm | hkm
    · obtain ⟨q, i2, j2, rfl, hq⟩ := hk' k hkm
      exact ⟨q, i2, j2, rfl, by rw [upd_ne (ne_of (e2 _ _ hq) hS2 (by intro z; cases z))]; exact e2 _ _ hq⟩
    · rw [List.mem_singleton.mp hkm]
      exact ⟨p, i1, j1, rfl, by rw [upd_ne (ne_of hp hS2 (by intro z; cases z))]; exact hp⟩
  case done =>
    rintro s' ⟨H', ks, I', e', hS', hk', hlen⟩
    try dsimp only
    obtain ⟨hzk, its, n, rk, hk2⟩ := I'.hok _ _ hS'
    have hk2 : s'.heap.get? kS = some (seqObj "list" its.toArray n) := hk2
    refine wpAny_bind (listItems_at hk2 rfl ?_)
    refine key_end I' (e' _ _ (Ne.symm nka) ha) hS' hk' (by omega) r hz rk hk2 fun ys s2 py I2 => h ys _ s2 py (fun b o h1 h2 ho => ?_) upd_same I2
    rw [upd_ne h2, upd_ne h1]
    exact e' b o h1 ho
end
section
variable {X : Cx} {pins : List (Addr × Obj)} {σ : L2.St} {H : Hp} {s : Shared}
/-- sorted(xs, key=f) -/
theorem key_sorted {f l : Addr} {xs : List V} {Q : VK} (I : Inv X pins σ H s) (hl : SqL X.K H l xs)
    (turn : ∀ (x : V) (u : Value) (H' : Hp) (s' : Shared), x ∈ xs → RelV x u → Inv X pins σ H' s' → Ex H H' →
      wpAny (model X.prog X.w) X.A.in1.in1 (call (.ref f) [u]) (EP X pins σ fun v H'' => Ex H' H'' ∧ ∃ (p : Addr) (i j : Int), v = .ref p ∧ H'' p = some (.tup [.int i, .int j])) (fun _ _ => False) s')
    (h : ∀ (ys : List V) (D : Addr) (H' : Hp), ys.Perm xs → Ex H H' → H' D = some (.lst ys) → Q (.ref D) H') :
    wpAny (model X.prog X.w) X.A (call (.builtin "sorted") [.ref l] [(Str.ofString "key", .ref f)]) (EP X pins σ Q) X.xe s := by
  obtain ⟨vs, r, pl, hz⟩ := I.list hl
  have lv : vs.length = xs.length := r.length.symm
  refine call_function_entry_kw kind_sorted plain_sorted entry_sorted (ksk_s1 _ _) ?_
  unfold Builtin.«sorted»
  refine wpAny_bind (m := checkCount "sorted" 1 1 _) (wpAny_pure ?_)
  refine wpAny_bind (collect_list pl.isList ?_ (by omega))
  refine wpAny_bind (wpAny_newList ?_ (by omega))
  have hsz : ((s.heap.push (seqObj "list" #[] 0)).update s.heap.objs.size (Obj.mapSeq (· ++ vs.toArray))).objs.size = s.heap.objs.size + 1 := by rw [Heap.size_update, size_push']
  have hoL : (((s.heap.push (seqObj "list" #[] 0)).update s.heap.objs.size (Obj.mapSeq (· ++ vs.toArray))).push (seqObj "list" vs.toArray 0)).get? (s.heap.objs.size + 1) = some (seqObj "list" vs.toArray 0) := by
    rw [← hsz]
    exact Heap.get?_push_size _ rfl
  have keep : ∀ b o, s.heap.get? b = some o → b ≠ s.heap.objs.size + 1 ∧ (((s.heap.push (seqObj "list" #[] 0)).update s.heap.objs.size (Obj.mapSeq (· ++ vs.toArray))).push (seqObj "list" vs.toArray 0)).get? b = some o := fun b o q => by
    have hlt : b < s.heap.objs.size := Heap.lt_size q
    refine ⟨Nat.ne_of_lt (Nat.lt_succ_of_lt hlt), Heap.get?_push_of_some _ ?_⟩
    rw [Heap.get?_update_ne _ _ _ _ (Nat.ne_of_lt hlt)]
    exact Heap.get?_push_of_some _ q
  show wpAny _ _ _ _ _ { s with heap := ((s.heap.push (seqObj "list" #[] 0)).update s.heap.objs.size (Obj.mapSeq (· ++ vs.toArray))).push (seqObj "list" vs.toArray 0) }
  rw [hsz]
  refine wpAny_bind (wpAny_holding (wpAny_call_entry_kw slot_list_sort ⟨_, hoL, rfl⟩ entry_list_sort ?body (ksk_l1 _ _)))
  case body =>
    show wpAny (model X.prog X.w) X.A.in1.in1 (Builtin.«list.sort» ⟨[.ref (s.heap.objs.size + 1)], [(Str.ofString "key", .ref f)]⟩) _ _ _
    rw [ksk_t1]
    generalize hh : ((s.heap.push (seqObj "list" #[] 0)).update s.heap.objs.size (Obj.mapSeq (· ++ vs.toArray))).push (seqObj "list" vs.toArray 0) = g at hoL keep
    generalize ea : s.heap.objs.size + 1 = a at hoL keep
    have hal : s.heap.objs.size ≤ a := by omega
    unfold ksk_tree
    refine wpAny_bind (listItems_at hoL rfl ?_)
    refine wpAny_bind (listUpdate_at hoL rfl ?_ (by rw [List.size_toArray]; omega) (Nat.zero_le _))
    obtain ⟨e1, ho1⟩ : ∃ e1, (g.update a (Obj.mapSeq fun _ => (#[] : Array Value))).get? a = some (seqObj "list" #[] e1) := ⟨_, get?_update_seq hoL fun _ => #[]⟩
    refine wpAny_bind (seqEpoch_at ho1 rfl ?_)
    refine wpAny_bind (wpAny_newTuple ?_ (by show vs.length ≤ _; omega))
    refine wpAny_bind (wpAny_newList ?_ (Nat.zero_le _))
    refine wpAny_holding ?_
    have k1 : ∀ b o, s.heap.get? b = some o → ((g.update a (Obj.mapSeq fun _ => (#[] : Array Value))).push (seqObj "tuple" vs.toArray 0)).get? b = some o := fun b o q => by
      refine Heap.get?_push_of_some _ ?_
      rw [Heap.get?_update_ne _ _ _ _ (keep b o q).1]
      exact (keep b o q).2
    have I1 : Inv X pins σ (upd H a (.ext fun h => h.get? a = some (seqObj "list" #[] e1))) { s with heap := (g.update a (Obj.mapSeq fun _ => (#[] : Array Value))).push (seqObj "tuple" vs.toArray 0), toks := s.toks } :=
      I.laid k1 hal ⟨Heap.get?_push_of_some _ ho1, ⟨_, Heap.get?_push_of_some _ ho1⟩, fun h1 h2 p st => st _ p⟩
    have na := I.hok.fresh hal
    have I2 : Inv X pins σ (upd (upd H a (.ext fun h => h.get? a = some (seqObj "list" #[] e1))) ((g.update a (Obj.mapSeq fun _ => (#[] : Array Value))).push (seqObj "tuple" vs.toArray 0)).objs.size (.lst []))
        { s with heap := ((g.update a (Obj.mapSeq fun _ => (#[] : Array Value))).push (seqObj "tuple" vs.toArray 0)).push (seqObj "list" #[] 0), toks := s.toks } :=
      I1.laid (fun b o q => Heap.get?_push_of_some _ q) (Nat.le_refl _) ⟨Nat.zero_le _, [], 0, .nil, Heap.get?_push_size _ rfl⟩
    have nk := I1.hok.fresh (a := ((g.update a (Obj.mapSeq fun _ => (#[] : Array Value))).push (seqObj "tuple" vs.toArray 0)).objs.size) (Nat.le_refl _)
    have nak : a ≠ ((g.update a (Obj.mapSeq fun _ => (#[] : Array Value))).push (seqObj "tuple" vs.toArray 0)).objs.size := Nat.ne_of_lt (Heap.lt_size (Heap.get?_push_of_some _ ho1))
    have old : ∀ b o, H b = some o → b ≠ a ∧ b ≠ ((g.update a (Obj.mapSeq fun _ => (#[] : Array Value))).push (seqObj "tuple" vs.toArray 0)).objs.size := fun b o q => ⟨ne_of_none q na, fun z => by
      have := I1.hok.lt (a := b) (o := o) (by rw [upd_ne (ne_of_none q na)]; exact q)
      rw [z] at this
      exact Nat.lt_irrefl _ this⟩
    refine key_rest I2 (by rw [upd_ne nak, upd_same]) upd_same r (by omega) (fun x u H' s' hx rx I' e' => ?_) fun ys H' s' py e' hD I' => ⟨_, rfl, ?_⟩
    · refine turn x u H' s' hx rx I' fun b o q => e' b o (old b o q).2 ?_
      rw [upd_ne (old b o q).2, upd_ne (old b o q).1]
      exact q
    · refine wpAny_pure ⟨_, rfl, .ref a, H', I', rfl, h ys a H' py (fun b o q => e' b o (old b o q).2 (old b o q).1 ?_) hD⟩
      rw [upd_ne (old b o q).2, upd_ne (old b o q).1]
      exact q
end
end K16
set_option maxHeartbeats 4000000
/-! ### Task.way, least: all but the tables of code objects stays -/
namespace K16
open PySem PySem.Spec PyProof.Rows L2 LamX Evl
section
variable {X : Cx}
/-- sorted(e, key=lambda a: body) -/
def tSortLam (K : PySem.W.Frag) (T : List (Addr × Str)) (ia : Nat) (ta : TA) (t : TE) : TE := fun σ H Q => ta σ H fun vs H1 => ∃ (l : Addr) (xs : List V), vs = [.ref l] ∧ SqL K H1 l xs ∧ Tabs T H1 ∧ ∀ H2, ExtN H1 H2 → Tabs T H2 → SqL K H2 l xs ∧
  (∀ x ∈ xs, ∀ H3, Ex H2 H3 → t (σ.set ia (some x)) H3 fun v H4 => Ex H3 H4 ∧ ∃ (p : Addr) (i j : Int), v = .ref p ∧ H4 p = some (.tup [.int i, .int j])) ∧ ∀ (ys : List V) (D : Addr) (H3 : Hp), ys.Perm xs → Ex H2 H3 → H3 D = some (.lst ys) → Q (.ref D) H3
theorem pe_sortLam {T : List (Addr × Str)} {c P : Addr} {params : Arguments} {body e : Expr} {scope : Scope} {a : Str} {ia k : Nat} {ta : TA} {t : TE} {p pos lpos kpos : Pos} (TB : TabB X.base X.mg c P) (hcode : X.env.code = .ref c) (hmT : (P, X.env.qual ++ "<lambda>") ∈ T) (hu : ∀ p ∈ T, p.1 = P → p.2 = X.env.qual ++ "<lambda>")
    (hr : Room (k + 3) X.A) (L : LamP X.env.scope scope a) (hdef : defaultsOf params X.env = ([], []))
    (hbind : ∀ (q : Str) (cl : List (Str × Addr)) (pm cv ctv u : Value), bindArgs (PySem.W.kla_fn "<lambda>" q params body scope cl pm cv ctv) ⟨[u], []⟩ = pure [(a, u)]) (hN : X.N[ia]? = some a) (hnd : X.N.Nodup)
    (hbody : ∀ (A : Around) (s : Shared) (H : Hp) (f c' : Addr), Room k (A.deeper (lamEnv X scope s.heap.objs.size f c')) → PE (lamCx X A X.stack s H C8.E0 scope f c').nox body t)
    (hg : Gl X "sorted") (hm : X.mg "sorted" = none) (ha : PA X [e] ta) (he : backTo pos (starEach [e] X.env) = (false, eval e X.env) :: backTo pos (starEach [] X.env) := by rfl) (hpl : (backTo pos (starEach [e] X.env)).any (·.1) = false := by rfl) :
    PE X (.Call (.Name "sorted" p) [e] [⟨some "key", .Lambda params body scope lpos, kpos⟩] pos) (tSortLam X.K T ia ta t) := by
  refine ⟨fun pins s σ H Q I h => ?_⟩
  refine wpAny_Call_Name_kw (ld_blt I hg hm (by rfl) ?_)
  refine PyProof.Rows.callWith_kw (thn (ha.run pos pins s σ H _ I h) fun us s1 hh => ?_) he hpl rfl rfl
  obtain ⟨vs, H1, I1, r1, l, xs, ex, hl, hT, q⟩ := hh
  subst ex
  obtain rfl := Vals.ref1 r1
  show wpAny _ _ (evalAll ((do let v ← eval (.Lambda params body scope lpos) X.env; standAt pos; pure v) :: (backToKw pos (keywordEach [] X.env)).map (·.2))) _ _ s1
  refine wpAny_evalAll_cons (wpAny_bind (lam_make2 I1 TB hcode hmT hu hT hdef (L.has I1.ok) fun f c' pm ctv H2 s2 I2 eN T2 hf hfn hfr hco => wpAny_bind (wpAny_standAt (wpAny_pure ?_))))
  refine wpAny_evalAll_nil ?_
  show wpAny (model X.prog X.w) X.A (call (.builtin "sorted") [.ref l] [(Str.ofString "key", .ref f)]) _ _ _
  obtain ⟨hl2, turn, fin⟩ := q H2 eN T2
  have I3 : Inv X ((f, _) :: pins) σ H2 s2 := I2.pins_of fun p hp => by
    rcases List.mem_cons.mp hp with rfl | hp
    · refine ⟨hf, hfn, fun z => ?_, fun z => hfr ?_, fun v z => by cases z⟩
      · obtain ⟨m, ⟨o, es, ep, ho, hd, _⟩, _⟩ := I2.loc
        have z : f = X.env.locals := z
        rw [← z, hf] at ho
        cases ho
        cases hd
      · rcases I2.ok.stk with e | ⟨e, h9⟩
        · rw [e]; exact z
        · rw [e]
          unfold frs
          rw [List.filterMap_cons, h9]
          exact List.mem_cons_of_mem _ z
    · exact I2.pin p (List.mem_append_right _ hp)
  have unpin : ∀ {Q : VK} {u : Value} {s' : Shared}, EP X ((f, PySem.W.kla_obj "<lambda>" (X.env.qual ++ "<lambda>") params body scope (cloFrom X.env.cells scope.names []) pm c' ctv) :: pins) σ Q u s' → EP X pins σ Q u s' := fun {Q u s'} ⟨v, H', J, r, q⟩ => ⟨v, H', J.pins_of fun p hp => J.pin p (List.mem_append_right _ (List.mem_cons_of_mem _ hp)), r, q⟩
  refine wpAny_mono (key_sorted (Q := Q) I3 hl2 (fun x u H' s' hx rx I' e' => ?_) fun ys D H' py e' hD => fin ys D H' py e' hD) (fun v s' z => unpin z) fun _ _ z => z
  have hf' := (I'.pin (f, _) (List.mem_append_right _ List.mem_cons_self)).1
  refine lam_call I' L I'.env0.in1.in1 (k := k) hr.in1.in1 hN hnd rx hf' (e' _ _ hco) (hbind _ _ _ _ _ _) (fun hr2 => hbody _ _ _ _ _ hr2) (turn x hx H' e')
end

section
variable {K : PySem.W.Frag} {H H' : Hp}
theorem exn_rd {a : Addr} {u : HO} (e : ExtN H H') (n : ∀ ps, u ≠ .tbl ps) (h : Rd H a u) : Rd H' a u := by
  rcases h with h | ⟨o, h⟩
  · exact .inl (e a _ h n)
  · exact .inr ⟨o, e a _ h fun ps z => by cases z⟩
theorem exn_l {a : Addr} {xs : List V} (e : ExtN H H') (h : SqL K H a xs) : SqL K H' a xs := by
  rcases h with h | h
  · exact .inl (exn_rd e (fun ps z => by cases z) h)
  · exact .inr h
theorem exn_t {a : Addr} {xs : List V} (e : ExtN H H') (h : SqT K H a xs) : SqT K H' a xs := by
  rcases h with h | h
  · exact .inl (exn_rd e (fun ps z => by cases z) h)
  · exact .inr h
theorem exn_of (e : Ex H H') : ExtN H H' := fun b o h _ => e b o h
theorem Rows.monoN {rs : List V} {Y : Yd} (e : ExtN H H') (r : Rows K H rs Y) : Rows K H' rs Y := ⟨r.len, fun i z h => let ⟨q, h1, h2⟩ := r.at_ i z h; ⟨q, h1, exn_t e h2⟩⟩
theorem YAt.monoN {a : Addr} {Y : Yd} (e : ExtN H H') (y : YAt K H a Y) : YAt K H' a Y := let ⟨rs, h1, h2⟩ := y; ⟨rs, exn_t e h1, h2.monoN e⟩
theorem TaskAt.monoN {C t : Addr} {Y : Yd} {gs : List (Option Nat)} (e : ExtN H H') (x : TaskAt K C H t Y gs) : TaskAt K C H' t Y gs := by
  obtain ⟨dx, a, c, h, s, h1, h2, h3, h4, h5⟩ := x
  exact ⟨dx, a, c, h, s, e _ _ h1 (fun ps z => by cases z), h2.monoN e, exn_t e h3, e _ _ h4 (fun ps z => by cases z), e _ _ h5 fun ps z => by cases z⟩
theorem tabs_ex {TT : List (Addr × Str)} (t : Tabs TT H) (e : Ex H H') : Tabs TT H' := t.ext e
end
section
variable {P : Program} {w : World} {K : PySem.W.Frag} {mg : Str → Option Value} {base : Heap}
/-- met0, the code object known -/
theorem met0c {m qual : Str} {C c : Addr} {st : Stmt} {f : Addr} {fd : FuncData} {N ps : List Str} {k : Nat} {sp : Sp} (cl : Cls K C) (me : Meth K C m f) (F : C8.Fun K m qual st f fd) (hc : fd.code = .ref c) (b : Binds K fd ps []) (S : FnScope N ps (C8.fnScope st)) (len : ∀ vs H Q E, sp vs H Q E → vs.length = ps.length)
    (hbody : ∀ (A : Around) (outer : List Env) (s : Shared) (H : Hp) (vs : List V) (Q : VK) (E : XK), Room k (A.deeper (envOfC qual (C8.fnScope st) s.heap.objs.size f (.ref c))) → sp vs H Q E →
      ∃ t, PSs (cxOf C8.CX0 P w K mg base N qual (C8.fnScope st) f (.ref c) A outer s H E).nox (C8.fnBody st) t ∧ t { nx := fun _ H' => Q .non H', rt := Q } (start N vs) H) : C8.Met P w K mg base (k + 1) C m sp [] := by
  obtain ⟨oc, od, dV, kV, doc, pm, an, cdv, ct, osl, rfl, lk, hcd⟩ := F.ex
  have hc : cdv = .ref c := hc
  subst hc
  refine ⟨f, _, ps, [], cl, me, fn_of lk hcd S len fun A outer s H vs Q E hr hsp => ?_, b, .nil⟩
  obtain ⟨t, h, q⟩ := hbody A outer s H vs Q E hr hsp
  exact ⟨t, h.nox, q⟩
abbrev qway : Str := (("Task.way" : Str) ++ (".<locals>." : Str)) ++ ("<lambda>" : Str)
abbrev s_Task_way : Stmt := K16.inCls (K16.top 26) 3
abbrev N_Task_way : List Str := ["self", "order", "box"]
abbrev P_Task_way : List Str := ["self"]
theorem sc_Task_way : FnScope N_Task_way P_Task_way (C8.fnScope s_Task_way) := C8.fnScope_by (by decide +kernel)
def sp_way (K : PySem.W.Frag) (C : Addr) (TT : List (Addr × Str)) : Sp := fun vs H Q _ => ∃ (t : Addr) (Y : Yd) (gs : List (Option Nat)), vs = [.ref t] ∧ TaskAt K C H t Y gs ∧ Y.length ≤ 100 ∧ For gs ∧ gs.length = Y.length ∧ Tabs TT H ∧ ∀ D H', ExtN H H' → Tabs TT H' → Q (.ref D) H'
theorem c_way_mk {f C c P1 : Addr} {fd : FuncData} (T : Gb mg) (TC : TaskC K C) (me : Meth K C "way" f) (F : C8.Fun K "way" "Task.way" s_Task_way f fd) (hc : fd.code = .ref c) (TB : TabB base mg c P1) (b : Binds K fd P_Task_way []) (c_chain_of : C8.Cal P w K mg base 1 "chain_of" (sp_chain_of K) []) :
    C8.Met P w K mg base 5 C "way" (sp_way K C [(P1, qway)]) [] := by
  refine met0c (k := 4) TC.cl me F hc b sc_Task_way (fun vs H Q E h => ?_) (fun A outer s H vs Q E hr h => ?_)
  · obtain ⟨t, Y, gs, rfl, _⟩ := h
    rfl
  · obtain ⟨t, Y, gs, rfl, hT, hz, fo, hg, hTab, q⟩ := h
    obtain ⟨dx, a, c0, h, s0, h1, h2, h3, h4, h5⟩ := id hT
    have sl := some_len (hsOf Y) gs
    rw [hsOf_len] at sl
    refine ⟨_, (pss_cons (ps_set (i := 1) sc_Task_way.nd rfl (Or.inl rfl) (K16.pe_sortLam (ia := 2) (k := 1) (t := (tTup (tCons (tCB (rLenS K) (tCons (tCall (sp_chain_of K) [] C8.E0 (tCons (tFld K (tVar 0) "wanted") (tCons (tVar 2) tNil))) tNil)) (tCons (tVar 2) tNil)))) TB rfl (List.mem_singleton.mpr rfl) (fun p hp _ => by rw [List.mem_singleton.mp hp] <;> rfl) (hr.mono (by decide)) (K16.lamP_by (sc := C8.fnScope s_Task_way) (a := "box") (by decide +kernel)) rfl (fun _ _ _ _ _ _ => rfl) rfl sc_Task_way.nd (fun A s H f c1 hr => by exact (pe_tup (pa_cons (pe_callB call_len_seq (by rfl) T.n_len (by decide +kernel) (pa_cons (C8.pe_c c_chain_of hr (by decide) rfl (pa_cons (pe_fld (pv 0) rfl) (pa_cons (pv 2) pa_nil))) pa_nil)) (pa_cons (pv 2) pa_nil)))) (by rfl) T.n_sorted (pa_cons (pe_fld (pv 0) rfl) pa_nil)))
      (pss_one (ps_ret (pe_lc (own := [("box", 2)]) (g := (gName 2)) (tt := tYes) (te := (tTup (tCons (tVar 2) (tCons (tOp (rIxT K) (tFld K (tVar 0) "wanted") (tVar 2)) tNil)))) rfl sc_Task_way.nd (pi_list (pv 1)) (blkOk_by (own := [("box", 2)]) (N := N_Task_way) (sc := C8.fnScope s_Task_way) (by decide +kernel)) (fun _ _ _ _ _ => by exact (pg_name (i := 2) sc_Task_way.nd rfl (Or.inl rfl))) (fun _ _ _ _ _ => by exact pts_nil) (fun _ _ _ _ _ => by exact (pe_tup (pa_cons (pv 2) (pa_cons (pe_ix ix_tup (pe_fld (pv 0) rfl) (pv 2) (fun _ _ => rfl)) pa_nil)))))))), ?_⟩
    refine ⟨_, rfl, t, C, dx, _, _, rfl, h1, TC.cl, TC.nS, tF_s _ _ _ _, s0, _, rfl, SqL.of h5, hTab, fun H2 eN T2 => ⟨exn_l eN (SqL.of h5), fun x hx H3 e3 => ?_, fun ys D H3 py e3 hD => ?_⟩⟩
    · obtain ⟨b, hb, rfl⟩ := List.mem_map.mp hx
      have hb2 := some_lt hb
      rw [hsOf_len] at hb2
      refine ⟨_, rfl, t, C, dx, _, _, rfl, e3 _ _ (eN _ _ h1 fun ps z => by cases z), TC.cl, TC.nW, tF_w _ _ _ _, _, rfl, c0, gs, b, rfl, ex_t e3 (exn_t eN h3), fo, by omega, by omega, fun l H4 e4 nl hl4 => ?_⟩
      refine ⟨l, _, rfl, .inl (SqL.of hl4), _, rfl, lineE (by show 2 ≤ 1000; decide), fun p hp => ?_⟩
      exact ⟨e4.trans (Ex.new hp), p, _, _, rfl, upd_same⟩
    · have nt : ∀ {b o}, H b = some o → (∀ ps, o ≠ .tbl ps) → H3 b = some o := fun hb n => e3 _ _ (eN _ _ hb n)
      have hlen : ys.length = (someOf (hsOf Y) gs).length := by rw [py.length_eq, List.length_map]
      refine ⟨_, rfl, D, rfl, ⟨_, SqL.of hD⟩, fun D2 hD2 => ?_⟩
      refine lc_list (K := K) (a := D) (xs := ys) (fun i H4 => Ex H3 H4 ∧ ∃ zs, H4 D2 = some (.lst zs) ∧ zs.length = i) ⟨Ex.new hD2, [], upd_same, rfl⟩ (fun i H4 _ p => ex_l p.1 (SqL.of hD)) ?_ ?_
      · rintro i x H4 hx ⟨e4, zs, hl, hzl⟩
        have hi := (List.getElem?_eq_some_iff.mp hx).1
        have hm := py.mem_iff.mp (List.mem_of_getElem? hx)
        obtain ⟨b, hb, rfl⟩ := List.mem_map.mp hm
        have hb2 := some_lt hb
        rw [hsOf_len] at hb2
        refine ⟨rfl, _, rfl, _, rfl, t, C, dx, _, _, rfl, e4 _ _ (nt h1 fun ps z => by cases z), TC.cl, TC.nW, tF_w _ _ _ _, _, rfl, c0, _, _, _, rfl, rfl, ex_t e4 (ex_t e3 (exn_t eN h3)), at_up (by omega), ?_⟩
        refine ⟨lineE (by show 2 ≤ 1000; decide), fun p hp => ?_⟩
        refine ⟨_, (Ex.new hp) _ _ hl, lineL (by omega), Ex.mut (e4.trans (Ex.new hp)) hD2, ?_⟩
        exact ⟨_, upd_same, by rw [List.length_append, List.length_singleton, hzl]⟩
      · rintro H4 ⟨e4, zs, hl, hzl⟩
        exact q D2 H4 (fun b o hb n => e4 _ _ (nt hb n)) (tabs_ex T2 (e3.trans e4))
abbrev s_least : Stmt := K16.top 28
abbrev N_least : List Str := ["yard", "goal", "task"]
abbrev P_least : List Str := ["yard", "goal"]
theorem sc_least : FnScope N_least P_least (C8.fnScope s_least) := C8.fnScope_by (by decide +kernel)
/-- what least tells: None, or a pair of the cost and the way -/
def LeastP (H : Hp) (v : V) (Y : Yd) (gs : List (Option Nat)) : Prop := (mayB Y gs = false ∧ v = .non) ∨ (mayB Y gs = true ∧ ∃ p g : Addr, v = .ref p ∧ H p = some (.tup [.int (costN Y gs), .ref g]))
theorem LeastP.mono {H H' : Hp} {v : V} {Y : Yd} {gs : List (Option Nat)} (e : ExtN H H') (c : LeastP H v Y gs) : LeastP H' v Y gs := by
  rcases c with c | ⟨h, p, g, h1, h2⟩
  · exact .inl c
  · exact .inr ⟨h, p, g, h1, e _ _ h2 fun ps z => by cases z⟩
def sp_least (K : PySem.W.Frag) (TT : List (Addr × Str)) : Sp := fun vs H Q _ => ∃ (a c : Addr) (Y : Yd) (gs : List (Option Nat)), vs = [.ref a, .ref c] ∧ YAt K H a Y ∧ VY Y ∧ VG Y.length gs ∧ SqT K H c (gs.map hV) ∧ Tabs TT H ∧ ∀ v H', ExtN H H' → Tabs TT H' → LeastP H' v Y gs → Q v H'
theorem c_least {f C P1 : Addr} {fd : FuncData} (T : Gb mg) (TC : TaskC K C) (F : C8.Def K mg "least" s_least f fd) (b : Binds K fd P_least []) (c_task_of : C8.Cal P w K mg base 4 "task_of" (sp_task_of K C) []) (c_may : C8.Met P w K mg base 1 C "may" (sp_may K C) [])
    (c_cost : C8.Met P w K mg base 1 C "cost" (sp_cost K C) []) (c_way : C8.Met P w K mg base 5 C "way" (sp_way K C [(P1, qway)]) []) : C8.Cal P w K mg base 6 "least" (sp_least K [(P1, qway)]) [] := by
  refine C8.cal0 (k := 5) F b .nil sc_least (fun vs H Q E h => ?_) (fun cdv A outer s H vs Q E hr h => ?_)
  · obtain ⟨a, c, Y, gs, rfl, _⟩ := h
    rfl
  · obtain ⟨a, c, Y, gs, rfl, hY, ok, og, hc, hTab, q⟩ := h
    have hle := ok.le
    refine ⟨_, (pss_cons (ps_set (i := 2) sc_least.nd rfl (Or.inl rfl) (C8.pe_c c_task_of hr (by decide) rfl (pa_cons (pv 0) (pa_cons (pv 1) pa_nil))))
      (pss_one (ps_ret (pe_ifExp (pt_val (C8.pe_mt0 c_may hr (by decide) (pv 2))) (pe_tup (pa_cons (C8.pe_mt0 c_cost hr (by decide) (pv 2)) (pa_cons (C8.pe_mt0 c_way hr (by decide) (pv 2)) pa_nil))) pe_non)))), ?_⟩
    refine ⟨_, rfl, _, rfl, a, c, Y, gs, rfl, hY, ok, og, hc, fun t H1 e1 ht => ?_⟩
    obtain ⟨dx, a1, c1, h, s0, h1, h2, h3, h4, h5⟩ := id ht
    refine ⟨_, rfl, t, dx, _, rfl, h1, tF_no _ _ _ _ (by decide +kernel) (by decide +kernel) (by decide +kernel) (by decide +kernel), t, Y, gs, rfl, ht, by omega, fun H2 e2 => ⟨mayB Y gs, rfl, ?_⟩⟩
    cases hb : mayB Y gs with
    | true =>
      refine ⟨_, rfl, t, dx, _, rfl, e2 _ _ h1, tF_no _ _ _ _ (by decide +kernel) (by decide +kernel) (by decide +kernel) (by decide +kernel), t, Y, gs, rfl, ht.mono e2, by omega, hb, fun H3 e3 => ?_⟩
      refine ⟨_, rfl, t, dx, _, rfl, e3 _ _ (e2 _ _ h1), tF_no _ _ _ _ (by decide +kernel) (by decide +kernel) (by decide +kernel) (by decide +kernel), t, Y, gs, rfl, ht.mono (e2.trans e3), by omega, og.fo, og.len, tabs_ex hTab (e1.trans (e2.trans e3)), fun D H4 e4 T4 => ?_⟩
      refine ⟨lineE (by show 2 ≤ 1000; decide), fun p hp => q _ _ ?_ (tabs_ex T4 (Ex.new hp)) (.inr ⟨hb, p, D, rfl, upd_same⟩)⟩
      exact fun b o hb n => (Ex.new hp) b o (e4 b o ((e1.trans (e2.trans e3)) b o hb) n)
    | false => exact q _ _ (exn_of (e1.trans e2)) (tabs_ex hTab (e1.trans e2)) (.inl ⟨hb, rfl⟩)
end
end K16
set_option maxHeartbeats 4000000
/-! ### dicts whose keys are tuples of ints and Nones, whose values are ints -/
namespace K16
open PySem PySem.Spec PyProof.Rows L2 Evl
abbrev K0 := List (Option L2.Key)
abbrev tupN (P : Program) (w : World) : HeapKind P w K0 := tupleKind (noneKind P w)
def kN : Option Nat → Option L2.Key
  | none => none
  | some n => some (.inl (n : Int))
abbrev kL (hs : List (Option Nat)) : K0 := hs.map kN
theorem kN_inj {a b : Option Nat} (h : kN a = kN b) : a = b := by
  cases a with
  | none => cases b with
    | none => rfl
    | some n => cases h
  | some m => cases b with
    | none => cases h
    | some n =>
      have e := Sum.inl.inj (Option.some.inj h)
      rw [Int.ofNat.inj e]
theorem kL_inj : ∀ {a b : List (Option Nat)}, kL a = kL b → a = b
  | [], [], _ => rfl
  | [], _ :: _, h => by cases h
  | _ :: _, [], h => by cases h
  | x :: xs, y :: ys, h => by
    have h : kN x :: kL xs = kN y :: kL ys := h
    injection h with h1 h2
    rw [kN_inj h1, kL_inj h2]
theorem items_none {P : Program} {w : World} : ∀ {hs : List (Option Nat)} {us : List Value}, Vals (hs.map hV) us → ItemsAre (noneKind P w) (kL hs) us
  | [], _, r => by
    cases r
    exact .nil
  | none :: hs, _, r => by
    cases r with
    | cons h t =>
      cases (show _ = Value.none from h)
      exact .cons rfl (items_none t)
  | some n :: hs, _, r => by
    cases r with
    | cons h t =>
      obtain ⟨t1, rfl⟩ := h
      exact .cons (keyIs_int _ t1) (items_none t)
/-! ### what such a dict says -/
abbrev Tab := List (List (Option Nat) × Int)
def getI (m : Tab) (k : List (Option Nat)) : Option Int := (m.find? fun p => decide (p.1 = k)).map (·.2)
def putI (m : Tab) (k : List (Option Nat)) (v : Int) : Tab := if (getI m k).isSome then m.map fun p => if p.1 = k then (p.1, v) else p else m ++ [(k, v)]
theorem putI_len (m : Tab) (k : List (Option Nat)) (v : Int) : (putI m k v).length ≤ m.length + 1 := by
  unfold putI
  split
  · rw [List.length_map]; omega
  · rw [List.length_append, List.length_singleton]; omega
abbrev PX (H : Hp) : Tab → List (K0 × Addr × Value) → Prop := Paired fun p q => kL p.1 = q.1 ∧ H q.2.1 = some (.tup (p.1.map hV)) ∧ RelV (.int p.2) q.2.2
section
variable {H H' : Hp} {m : Tab} {xs : List (K0 × Addr × Value)}
theorem PX.val (r : PX H m xs) (k : List (Option Nat)) : RelO ((getI m k).map V.int) ((atKey xs (kL k)).map (·.2)) := by
  induction r with
  | nil => exact True.intro
  | @cons p q ps qs h t ih =>
    obtain ⟨h1, _, h2⟩ := h
    by_cases e : p.1 = k
    · have a : getI (p :: ps) k = some p.2 := by simp [getI, List.find?_cons, e]
      have b : atKey (q :: qs) (kL k) = some q.2 := by simp [atKey, List.find?_cons, ← h1, e]
      rw [a, b]
      exact h2
    · have e' : ¬ q.1 = kL k := fun z => e (kL_inj (h1.trans z))
      have a : getI (p :: ps) k = getI ps k := by simp [getI, List.find?_cons, e]
      have b : atKey (q :: qs) (kL k) = atKey qs (kL k) := by simp [atKey, List.find?_cons, e']
      rw [a, b]
      exact ih
theorem PX.repl (r : PX H m xs) (k : List (Option Nat)) {y : Int} {u : Value} (ry : RelV (.int y) u) : PX H (m.map fun p => if p.1 = k then (p.1, y) else p) (xs.map (putAt (kL k) u)) := by
  induction r with
  | nil => exact .nil
  | @cons p q ps qs h t ih =>
    rw [List.map_cons, List.map_cons]
    refine .cons ?_ ih
    obtain ⟨h1, h2, h3⟩ := h
    unfold putAt
    by_cases e : p.1 = k
    · rw [if_pos e, if_pos (h1.symm.trans (congrArg kL e))]
      exact ⟨h1, h2, ry⟩
    · rw [if_neg e, if_neg fun z => e (kL_inj (h1.trans z))]
      exact ⟨h1, h2, h3⟩
theorem PX.put (r : PX H m xs) (k : List (Option Nat)) {b : Addr} {y : Int} {u : Value} (hb : H b = some (.tup (k.map hV))) (ry : RelV (.int y) u) : PX H (putI m k y) (storedH xs (kL k) b u) := by
  have e : (getI m k).isSome = (atKey xs (kL k)).isSome := by
    have := (r.val k).isSome_eq
    rwa [Option.isSome_map, Option.isSome_map] at this
  unfold putI storedH
  rw [e]
  by_cases q : (atKey xs (kL k)).isSome = true
  · rw [if_pos q, if_pos q]
    exact r.repl k ry
  · rw [if_neg q, if_neg q]
    exact Paired.snoc r ⟨rfl, hb, ry⟩
theorem PX.keeps (r : PX H m xs) (ht : ∀ b ys, H b = some (.tup ys) → H' b = some (.tup ys)) : PX H' m xs := Paired.mapP r fun p q z => ⟨z.1, ht _ _ z.2.1, z.2.2⟩
theorem PX.get (r : PX H m xs) {i : Nat} {x : K0 × Addr × Value} (h : xs[i]? = some x) : ∃ p, m[i]? = some p ∧ kL p.1 = x.1 ∧ H x.2.1 = some (.tup (p.1.map hV)) ∧ RelV (.int p.2) x.2.2 := by
  obtain ⟨y, h1, h2⟩ := L2.DX.pget r h
  exact ⟨y, h1, h2⟩
end
theorem px_keys {H : Hp} {m : Tab} {xs : List (K0 × Addr × Value)} (h : PX H m xs) : xs.map (·.1) = (m.map (·.1)).map kL := by
  induction h with
  | nil => rfl
  | @cons p q ps qs h t ih => rw [List.map_cons, List.map_cons, List.map_cons, ih, h.1]
theorem nodup_of_map {α β : Type} {f : α → β} : ∀ {l : List α}, (l.map f).Nodup → l.Nodup
  | [], _ => List.nodup_nil
  | a :: l, h => by
    rw [List.map_cons, List.nodup_cons] at h
    exact List.nodup_cons.mpr ⟨fun z => h.1 (List.mem_map.mpr ⟨a, z, rfl⟩), nodup_of_map h.2⟩
/-- the dict at d, its entries as they stand -/
def DX (P : Program) (w : World) (d : Addr) (ep : Nat) (xs : List (K0 × Addr × Value)) : HO := .ext fun h => ∃ (o : Obj) (es : Array DictEntry), h.get? d = some o ∧ o.ExactDict ∧ o.data = .dict es ep ∧ es.toList = xs.map (entryOfKey (tupN P w))
theorem dx_ok {P : Program} {w : World} {H : Hp} {h : Heap} {d : Addr} {ep : Nat} {xs : List (K0 × Addr × Value)} {o : Obj} {es : Array DictEntry} (h1 : h.get? d = some o) (h2 : o.ExactDict) (h3 : o.data = .dict es ep) (h4 : es.toList = xs.map (entryOfKey (tupN P w))) : ObjOk P w H h d (DX P w d ep xs) :=
  ⟨⟨o, es, h1, h2, h3, h4⟩, ⟨o, h1⟩, fun _ _ ⟨o, es, a, r⟩ st => ⟨o, es, st _ a, r⟩⟩
def DAt (P : Program) (w : World) (H : Hp) (d : Addr) (m : Tab) : Prop := ∃ (xs : List (K0 × Addr × Value)) (ep : Nat), H d = some (DX P w d ep xs) ∧ (d == sysModules) = false ∧ PX H m xs ∧ (xs.map (·.1)).Nodup
section
variable {P : Program} {w : World} {H H' : Hp} {d : Addr} {m : Tab}
theorem DAt.mono (e : Ex H H') (x : DAt P w H d m) : DAt P w H' d m := by
  obtain ⟨xs, ep, h1, h2, h3, h4⟩ := x
  exact ⟨xs, ep, e _ _ h1, h2, h3.keeps fun b ys h => e _ _ h, h4⟩
theorem DAt.nodup (x : DAt P w H d m) : (m.map (·.1)).Nodup := by
  obtain ⟨xs, ep, _, _, h3, h4⟩ := x
  rw [px_keys h3] at h4
  exact nodup_of_map h4
theorem key_none {h : Heap} {hs : List (Option Nat)} {a : Addr} (ok : HOk P w H h) (e : H a = some (.tup (hs.map hV))) : (tupN P w).is h (kL hs) a := by
  obtain ⟨_, its, r, o, h1, h2, n, h3⟩ := (show ObjOk P w H h a (.tup (hs.map hV)) from ok a _ e)
  exact ⟨o, its.toArray, n, h1, h2, h3, by simpa using items_none r⟩
end
section
variable {X : Cx} {pins : List (Addr × Obj)} {σ : L2.St} {H : Hp} {s : Shared} {d : Addr} {m : Tab} {xs : List (K0 × Addr × Value)} {ep : Nat}
theorem dx_raw (I : Inv X pins σ H s) (h1 : H d = some (DX X.prog X.w d ep xs)) : ∃ es : Array DictEntry, s.heap.DictRaw d es ep ∧ es.toList = xs.map (entryOfKey (tupN X.prog X.w)) := by
  obtain ⟨⟨o, es, a1, a2, a3, a4⟩, _, _⟩ := I.hok d _ h1
  exact ⟨es, ⟨o, a1, a2, a3⟩, a4⟩
theorem dx_dict (I : Inv X pins σ H s) (h1 : H d = some (DX X.prog X.w d ep xs)) (h3 : PX H m xs) (h4 : (xs.map (·.1)).Nodup) : s.heap.DictOfH (tupN X.prog X.w) d xs := by
  obtain ⟨⟨o, es, a1, a2, a3, a4⟩, _, _⟩ := I.hok d _ h1
  refine ⟨o, es, ep, a1, a2, a3, a4, fun x hx => ?_, h4⟩
  obtain ⟨i, hi⟩ := List.mem_iff_getElem?.mp hx
  obtain ⟨p, _, e, ht, _⟩ := h3.get hi
  rw [← e]
  exact key_none I.hok ht
theorem dx_type (I : Inv X pins σ H s) (h1 : H d = some (DX X.prog X.w d ep xs)) : s.TypeIs (.ref d) "dict" ∧ ∀ b, Value.ref d = .ref b → ∃ ob, s.heap.get? b = some ob ∧ ob.dict = none := by
  obtain ⟨es, hr, _⟩ := dx_raw I h1
  refine ⟨hr.typeIs, fun b q => ?_⟩
  cases q
  obtain ⟨o, a1, a2, _⟩ := hr
  exact ⟨o, a1, a2.2.1⟩
theorem px_len (h : PX H m xs) : m.length = xs.length := Paired.length h
/-! ### {} and {k: v} -/
def tDict0 (P : Program) (w : World) : TE := fun _ H Q => ∀ p H', H p = none → Ex H H' → DAt P w H' p [] → Q (.ref p) H'
theorem pe_dict0 {pos : Pos} : PE X (.Dict [] [] pos) (tDict0 X.prog X.w) := ⟨fun pins s σ H Q I h => by
  have hn := I.hok.fresh (Nat.le_refl s.heap.objs.size)
  refine wpAny_Dict_empty ⟨.ref s.heap.objs.size, upd H s.heap.objs.size (DX X.prog X.w s.heap.objs.size 0 []), I.laid (t' := s.toks) (fun _ _ q => Heap.get?_push_of_some _ q) (Nat.le_refl _) (dx_ok (o := { cls := .type "dict", data := .dict #[] }) (es := #[]) (Heap.get?_push_size _ rfl) ⟨rfl, rfl, rfl⟩ rfl rfl), rfl, h _ _ hn (Ex.new hn) ⟨[], 0, upd_same, ?_, .nil, List.nodup_nil⟩⟩
  exact beq_eq_false_iff_ne.mpr (Ne.symm (Nat.ne_of_lt I.big))⟩
def tDict1 (P : Program) (w : World) (tk tv : TE) : TE := fun σ H Q => ∀ p H0, H p = none → Ex H H0 → DAt P w H0 p [] → tPairs [(tk, tv)] σ H0 fun ps H2 => ∃ (b : Addr) (hs : List (Option Nat)) (i : Int), ps = [(.ref b, .int i)] ∧ H2 b = some (.tup (hs.map hV)) ∧ DAt P w H2 p [] ∧
  ∀ H3, (∀ c o, c ≠ p → H2 c = some o → H3 c = some o) → DAt P w H3 p [(hs, i)] → Q (.ref p) H3
theorem dx_write {h' : Heap} {tk : Nat} {ys : List (K0 × Addr × Value)} {m' : Tab} (I : Inv X pins σ H s) (h1 : H d = some (DX X.prog X.w d ep xs)) (hd : (d == sysModules) = false) (hm : h'.DictOfH (tupN X.prog X.w) d ys) (hs : Heap.SameBut d s.heap h') (r : PX H m' ys) :
    ∃ H', Inv X pins σ H' { s with heap := h', toks := tk } ∧ (∀ c o, c ≠ d → H c = some o → H' c = some o) ∧ DAt X.prog X.w H' d m' := by
  obtain ⟨o, es, ep', a1, a2, a3, a4, _, a5⟩ := hm
  refine ⟨upd H d (DX X.prog X.w d ep' ys), d_write I (by rw [h1]; exact True.intro) hs ⟨o, a1⟩ (dx_ok a1 a2 a3 a4), fun c o hc e => by rw [upd_ne hc]; exact e, ys, ep', upd_same, hd, r.keeps fun b zs e => ?_, a5⟩
  rw [upd_ne (ne_of e h1 fun z => by cases z)]
  exact e
theorem pe_dict1 {pos : Pos} {k v : Expr} {tk tv : TE} (hu : X.A.units + 1 < cLine) (hk : PE X k tk) (hv : PE X v tv) : PE X (.Dict [some k] [v] pos) (tDict1 X.prog X.w tk tv) := by
  refine ⟨fun pins s σ H Q I h => ?_⟩
  have hn := I.hok.fresh (Nat.le_refl s.heap.objs.size)
  have hb : (s.heap.objs.size == sysModules) = false := beq_eq_false_iff_ne.mpr (Ne.symm (Nat.ne_of_lt I.big))
  have I1 := I.laid (a := s.heap.objs.size) (o := DX X.prog X.w s.heap.objs.size 0 []) (h' := s.heap.push { cls := .type "dict", data := .dict #[] }) (t' := s.toks) (fun _ _ q => Heap.get?_push_of_some _ q) (Nat.le_refl _) (dx_ok (o := { cls := .type "dict", data := .dict #[] }) (es := #[]) (Heap.get?_push_size _ rfl) ⟨rfl, rfl, rfl⟩ rfl rfl)
  have h0 := h _ _ hn (Ex.new (o := DX X.prog X.w s.heap.objs.size 0 []) hn) ⟨[], 0, upd_same, hb, .nil, List.nodup_nil⟩
  have pp : PPs X pos [some k] [v] [(tk, tv)] := pps_cons hk hv pps_nil
  rw [arm_eval_Dict]
  have sh : (evalEachOpt [some k] X.env).zip ((evalEach [v] X.env).map fun v => do let x ← v; standAt pos; pure x) = [(eval k X.env, do let x ← eval v X.env; standAt pos; pure x)].map fun p => (some p.1, p.2) := rfl
  rw [sh, dictDisplay_pairs _ (by simp) (Nat.le_of_ble_eq_true rfl)]
  refine wpAny_bind (wpAny_standAt (wpAny_bind (wpAny_subDictH (knd := tupN X.prog X.w) (Q := fun d s' => wpAny (model X.prog X.w) X.A (pure (Value.ref d)) (EP X pins σ Q) X.xe s') (show X.A.units < cLine by omega) (Nat.le_of_ble_eq_true rfl) (thn (pp.run pins _ σ _ _ I1 h0) fun ws s2 hh => ?_))))
  obtain ⟨ps, H2, I2, rel, b, hs, i, rfl, hb2, ⟨xs, ep, g1, g2, g3, g4⟩, q⟩ := hh
  cases rel with
  | @cons p0 q0 l1 l2 r t =>
    cases t
    obtain ⟨u1, u2⟩ := q0
    obtain ⟨r1, r2⟩ := r
    cases (show u1 = Value.ref b from r1)
    cases g3
    have dd := dx_dict I2 g1 .nil g4
    refine ⟨[(kL hs, b, u2)], ⟨rfl, rfl, key_none I2.hok hb2, True.intro⟩, dd, fun h' tk hm hsb => wpAny_pure ?_⟩
    have hm : h'.DictOfH (tupN X.prog X.w) s.heap.objs.size [(kL hs, b, u2)] := hm
    obtain ⟨H3, I3, e3, D3⟩ := dx_write (tk := tk) (m' := [(hs, i)]) I2 g1 g2 hm hsb (.cons ⟨rfl, hb2, r2⟩ .nil)
    exact ⟨.ref s.heap.objs.size, H3, I3, rfl, q H3 e3 D3⟩
/-! ### d.get(k, x), d[k] = v -/
def tDGetX (P : Program) (w : World) (td ty tx : TE) : TE := fun σ H Q => td σ H fun x H1 => ∃ (d : Addr) (m0 : Tab), x = .ref d ∧ DAt P w H1 d m0 ∧ ty σ H1 fun y H2 => tx σ H2 fun z H3 => ∃ (m : Tab) (hs : List (Option Nat)) (b : Addr) (i : Int), DAt P w H3 d m ∧ y = .ref b ∧ H3 b = some (.tup (hs.map hV)) ∧ z = .int i ∧ Q (.int ((getI m hs).getD i)) H3
theorem pe_dgetX {o e f : Expr} {apos cpos : Pos} {td ty tx : TE} (hu : X.A.units + 1 < cLine) (ho : PE X o td) (he : PE X e ty) (hf : PE X f tx) (m : M2 X o "get" apos e f cpos) : PE X (.Call (.Attribute o "get" apos) [e, f] [] cpos) (tDGetX X.prog X.w td ty tx) := by
  refine ⟨fun pins s σ H Q I h => ?_⟩
  refine wpAny_Call_method m.base m.few m.line PySem.F.plainAttrs_dict PySem.F.slot_dict_get PySem.F.type_dict_get (thn (ho.run pins s σ H _ I h) fun u s1 ⟨x, H1, I1, rx, d, m0, ex, ⟨xs, ep, g1, g2, _, _⟩, q1⟩ => ?_)
  subst ex
  obtain rfl : u = Value.ref d := rx
  obtain ⟨t1, t2⟩ := dx_type I1 g1
  refine ⟨t1, t2, ?_⟩
  rw [m.trees]
  refine Calls.callWith_builtin rfl (Calls.evalArgs_plain (Calls.spliced_cons (thn (he.run pins s1 σ H1 _ I1 q1) fun iv s2 ⟨y, H2, I2, ry, q2⟩ =>
    Calls.spliced_cons (thn (hf.run pins s2 σ H2 _ I2 q2) fun fv s3 ⟨z, H3, I3, rz, q3⟩ => Calls.spliced_nil ?_))))
  obtain ⟨m1, hs, b, i, ⟨ys, ep2, k1, k2, k3, k4⟩, rfl, hb, rfl, q⟩ := q3
  obtain rfl : iv = Value.ref b := ry
  have dd := dx_dict I3 k1 k3 k4
  show wpAny _ _ (call (.builtin "dict.get") [.ref d, .ref b, fv]) _ _ _
  refine call_meetsIn PySem.F.slot_dict_get dd.typeIs PySem.F.entry_dict_get (PySem.F.args_dict_get_3 _ _ _) (meetsH_dict_get_default (tupN X.prog X.w) d b k2 fv) ⟨tupleKind_room_in1 hu, kL hs, ys, key_none I3.hok hb, dd, ?_⟩
  refine ⟨_, H3, I3.tok _, ?_, q⟩
  have := (k3.val hs).getD rz
  cases e : getI m1 hs with
  | none => rw [e] at this; exact this
  | some i => rw [e] at this; exact this
def sDPutX (P : Program) (w : World) (td ty tv : TE) : TS := fun D σ H => tv σ H fun v H1 => td σ H1 fun x H2 => ty σ H2 fun y H3 => ∃ (d : Addr) (m : Tab) (hs : List (Option Nat)) (b : Addr) (i : Int), x = .ref d ∧ DAt P w H3 d m ∧ y = .ref b ∧ H3 b = some (.tup (hs.map hV)) ∧ v = .int i ∧ m.length < sizeLine ∧
  ∀ H4, (∀ c o, c ≠ d → H3 c = some o → H4 c = some o) → DAt P w H4 d (putI m hs i) → D.nx σ H4
theorem ps_dputX {o i value : Expr} {pos pos' : Pos} {td ty tv : TE} (hu : X.A.units + 1 < cLine) (ho : PE X o td) (hi : PE X i ty) (hv : PE X value tv) (hs : swapsWith value (some (.Subscript o i pos')) pos.line X.env = pure false) :
    PS X (.Assign [.Subscript o i pos'] value pos) (sDPutX X.prog X.w td ty tv) := by
  refine ⟨fun pins s σ H D I h => ?_⟩
  refine wpAny_Assign_Subscript (thn (hv.run pins s σ H _ I h) fun r s1 ⟨v, H1, I1, rv, q1⟩ => thn (ho.run pins s1 σ H1 _ I1 q1) fun u s2 ⟨x, H2, I2, rx, q2⟩ => thn (hi.run pins s2 σ H2 _ I2 q2) fun iv s3 ⟨y, H3, I3, ry, q3⟩ => ?_) hs
  obtain ⟨d, m, hs, b, i, rfl, ⟨xs, ep, g1, g2, g3, g4⟩, rfl, hb, rfl, hl, q⟩ := q3
  obtain rfl : u = Value.ref d := rx
  obtain rfl : iv = Value.ref b := ry
  have dd := dx_dict I3 g1 g3 g4
  refine wpAny_setItem_heap (hsz := by rw [← px_len g3]; omega) (tupleKind_room_in1 hu) (key_none I3.hok hb) dd fun h' dd' hsb => ?_
  obtain ⟨H4, I4, e4, D4⟩ := dx_write I3 g1 g2 dd' hsb (g3.put hs hb rv)
  exact ⟨σ, H4, I4, q H4 e4 D4⟩
/-! ### for k, v in d.items() -/
/-- the dict at d is walked: nobody changes it -/
def ItX (P : Program) (w : World) (d : Addr) (ep : Nat) (xs : List (K0 × Addr × Value)) : It where
  go := fun i H => H d = some (DX P w d ep xs) ∧ ∃ x z, xs[i]? = some x ∧ RelV (.int z) x.2.2
  yld := fun i H v H' => ∃ T x z, v = .ref T ∧ H T = none ∧ xs[i]? = some x ∧ RelV (.int z) x.2.2 ∧ H' = upd H T (.tup [.ref x.2.1, .int z])
  stop := fun i H => H d = some (DX P w d ep xs) ∧ xs.length ≤ i
theorem es_at {P : Program} {w : World} {es : Array DictEntry} (he : es.toList = xs.map (entryOfKey (tupN P w))) {i : Nat} {x : K0 × Addr × Value} (hx : xs[i]? = some x) : ∃ h : i < es.size, es[i].key = .ref x.2.1 ∧ es[i].val = x.2.2 := by
  have e := entry_at he i
  rw [hx, Option.map_some] at e
  obtain ⟨h, e⟩ := Array.getElem?_eq_some_iff.mp e
  exact ⟨h, by rw [e]; rfl, by rw [e]; rfl⟩
theorem turn_itemsX {P : Program} {w : World} {K : PySem.W.Frag} {elts : List Expr} {kk : Nat} {tpos : Pos} (it : Addr) : Turn P w K (.Tuple elts kk tpos) (ItX P w d ep xs) [it] it (fun i h => ∃ ok ov, IsItemIter h it d i xs.length ep ok ov) where
  mem := by simp
  obj := fun i h st b hb => by
    have e : b = it := by simpa using hb
    subst e
    obtain ⟨ok, ov, e⟩ := st
    exact ⟨_, e, fun v z => nomatch z⟩
  keep := fun i h h' st k => let ⟨ok, ov, e⟩ := st; ⟨ok, ov, k it (by simp) _ e⟩
  item := by
    intro X hP hw hK hc i pins s σ H E I hf st hg
    subst hP hw hK
    obtain ⟨hd, x, z, hx, rz⟩ := hg
    obtain ⟨es, hr, he⟩ := dx_raw I hd
    have hsz : es.size = xs.length := size_of_entries he
    obtain ⟨hi, ek, ev⟩ := es_at he hx
    obtain ⟨ok, ov, hit⟩ := st
    rw [← hsz] at hit
    have hlt : it < s.heap.objs.size := Heap.lt_size hit
    refine wpAny_pyNext_items_item_raw hit hr hi fun h' ho hT hz hk => ?_
    refine ⟨_, rfl, wpAny_letOwnedTupleGo_items (s := { s with heap := h' }) ho fun h2 he2 sb => ?_⟩
    have hT2 : h2.get? s.heap.objs.size = some { cls := .type "tuple", data := .seq #[.ref x.2.1, x.2.2] } := by
      refine (sb.2 _ (Nat.ne_of_gt hlt)).trans ?_
      rw [hT, ek, ev]
    have new : ObjOk X.prog X.w (upd H s.heap.objs.size (.tup [.ref x.2.1, .int z])) h2 s.heap.objs.size (.tup [.ref x.2.1, .int z]) :=
      ⟨by show 2 ≤ sizeLine; decide, [.ref x.2.1, x.2.2], .cons rfl (.cons rz .nil), ⟨_, hT2, rfl, _, rfl⟩⟩
    have I1 : Inv X pins σ (upd H s.heap.objs.size (.tup [.ref x.2.1, .int z])) { s with heap := h2 } :=
      I.turnedNew (t' := s.toks) (ch := [it]) (fun b ob hb e => (sb.2 b (by simpa using hb)).trans (hk b ob (by simpa using hb) e)) hf (Nat.le_refl _) new
    refine ⟨.ref s.heap.objs.size, _, I1, rfl, ⟨_, x, z, rfl, I.hok.fresh (Nat.le_refl _), hx, rz, rfl⟩, ⟨es[i].key, es[i].val, by rw [← hsz]; exact he2⟩, fun b hb => ?_⟩
    · have e : b = it := by simpa using hb
      rw [e, upd_ne (Nat.ne_of_lt hlt)]
      exact (hf it (by simp)).1
  done := by
    intro X hP hw hK hc i pins s σ H E I hf st hg
    subst hP hw hK
    obtain ⟨hd, hi⟩ := hg
    obtain ⟨f0, f1, f2, f3, f4, f5⟩ := hf it (by simp)
    obtain ⟨es, hr, he⟩ := dx_raw I hd
    have hsz : es.size = xs.length := size_of_entries he
    obtain ⟨ok, ov, hit⟩ := st
    rw [← hsz] at hit
    exact wpAny_pyNext_items_end_raw (I.ok.hd hc) hit hr (by omega) fun h' eb => ⟨rfl, I.turned (t' := s.toks) (fun b ob hb e => eb b ob hb e) f0 f1 f3 f4 f5⟩
  self := fun A i s Q E st h => let ⟨_, _, e⟩ := st; PySem.W.kcp_self e h
def iItemsX (P : Program) (w : World) (td : TE) : TI := fun σ H R => td σ H fun x H1 => ∃ (d : Addr) (ep : Nat) (xs : List (K0 × Addr × Value)), x = .ref d ∧ H1 d = some (DX P w d ep xs) ∧ (d == sysModules) = false ∧ R (ItX P w d ep xs) H1
theorem pi_itemsX {e : Expr} {td : TE} {apos cpos : Pos} {elts : List Expr} {kk : Nat} {tpos : Pos} (he : PE X e td) (hbase : attributeBase e "items" X.env (eval e X.env) = eval e X.env := by rfl) (hline : (apos.endLine == cpos.line) = true := by rfl) :
    PI X (.Tuple elts kk tpos) (.Call (.Attribute e "items" apos) [] [] cpos) (iItemsX X.prog X.w td) := by
  refine ⟨fun pins s σ H R I h => ?_⟩
  refine wpAny_Call_method (T := "dict") (id := "dict.items") hbase rfl hline F.plainAttrs_dict F.slot_dict_items F.type_dict_items (thn (he.run pins s σ H _ I h) fun u s1 ⟨x, H1, I1, rx, d, ep, xs, ex, g1, g2, q⟩ => ?_)
  subst ex
  obtain rfl : u = Value.ref d := rx
  obtain ⟨es, hr, hes⟩ := dx_raw I1 g1
  have hsz : es.size = xs.length := size_of_entries hes
  obtain ⟨t1, t2⟩ := dx_type I1 g1
  refine ⟨t1, t2, ?_⟩
  have I2 : Inv X pins σ H1 { s1 with heap := s1.heap.push { cls := .type "dict_items", data := .fields #[.ref d] } } := I1.kept (t' := s1.toks) fun b ob q => Heap.get?_push_of_some _ q
  have fin : wpAny (model X.prog X.w) X.A (pyIter (.ref s1.heap.objs.size)) (PIE X pins σ (.Tuple elts kk tpos) R) X.xe { s1 with heap := s1.heap.push { cls := .type "dict_items", data := .fields #[.ref d] } } := by
    refine wpAny_pyIter_items_raw (d := d) ⟨_, Heap.get?_push_size _ rfl, rfl, rfl⟩ (hr.push _) (pi_one (tk := s1.toks) I2 _ (turn_itemsX _) ⟨.none, .none, ?_⟩ q)
    rw [← hsz]
    exact Heap.get?_push_size _ rfl
  show wpAny _ _ (callWith cpos (.builtin "dict.items") [.ref d] [] []) _ X.xe s1
  exact method_meetsIn F.slot_dict_items F.entry_dict_items rfl (PySem.evalArgs_none ⟨rfl, t1, F.args_dict_items_1 _, _, meets_dict_items_raw d g2, ⟨es, ep, hr⟩, fin⟩)
/-- the walk over the pairs: at each turn a new pair of the key's tuple and the number of ways -/
theorem walk_itemsX {P : Program} {w : World} : Walk (ItX P w d ep xs) m.length (fun H => H d = some (DX P w d ep xs) ∧ PX H m xs) (fun i H v H' => ∃ (T b : Addr) (p : List (Option Nat) × Int), v = .ref T ∧ H T = none ∧ m[i]? = some p ∧ H b = some (.tup (p.1.map hV)) ∧ H' = upd H T (.tup [.ref b, .int p.2])) where
  goes := fun i H hi g => by
    have hx : i < xs.length := by rw [← px_len g.2]; exact hi
    obtain ⟨p, _, _, _, r⟩ := g.2.get (List.getElem?_eq_getElem hx)
    exact ⟨g.1, _, _, List.getElem?_eq_getElem hx, r⟩
  stops := fun H g => ⟨g.1, by rw [px_len g.2]; exact Nat.le_refl _⟩
  yields := fun i H v H' hi g y => by
    obtain ⟨T, x, z, rfl, hT, hx, rz, rfl⟩ := y
    obtain ⟨p, hp, _, hb, r⟩ := g.2.get hx
    have e := RelV.inj rz r
    cases e
    exact ⟨T, x.2.1, p, rfl, hT, hp, hb, rfl⟩
/-! ### sum(d.values()) -/
def valuesO (p d : Addr) : HO := .ext fun h => h.get? p = some { cls := .type "dict_values", data := .fields #[.ref d] }
def tValuesX (P : Program) (w : World) (td : TE) : TE := fun σ H Q => td σ H fun x H1 => ∃ (d : Addr) (m : Tab), x = .ref d ∧ DAt P w H1 d m ∧ ∀ p, H1 p = none → Q (.ref p) (upd H1 p (valuesO p d))
theorem pe_valuesX {e : Expr} {td : TE} {apos cpos : Pos} (he : PE X e td) (hbase : attributeBase e "values" X.env (eval e X.env) = eval e X.env := by rfl) (hline : (apos.endLine == cpos.line) = true := by rfl) : PE X (.Call (.Attribute e "values" apos) [] [] cpos) (tValuesX X.prog X.w td) := by
  refine ⟨fun pins s σ H Q I h => ?_⟩
  refine wpAny_Call_method (T := "dict") (id := "dict.values") hbase rfl hline F.plainAttrs_dict F.slot_dict_values F.type_dict_values (thn (he.run pins s σ H _ I h) fun u s1 ⟨x, H1, I1, rx, d, m, ex, ⟨xs, ep, g1, g2, _, _⟩, q⟩ => ?_)
  subst ex
  obtain rfl : u = Value.ref d := rx
  obtain ⟨es, hr, hes⟩ := dx_raw I1 g1
  obtain ⟨t1, t2⟩ := dx_type I1 g1
  refine ⟨t1, t2, ?_⟩
  have hn := I1.hok.fresh (Nat.le_refl s1.heap.objs.size)
  have fin : EP X pins σ Q (.ref s1.heap.objs.size) { s1 with heap := s1.heap.push { cls := .type "dict_values", data := .fields #[.ref d] } } :=
    ⟨.ref s1.heap.objs.size, _, I1.laid (o := valuesO s1.heap.objs.size d) (t' := s1.toks) (fun b ob q => Heap.get?_push_of_some _ q) (Nat.le_refl _) ⟨Heap.get?_push_size _ rfl, ⟨_, Heap.get?_push_size _ rfl⟩, fun h1 h2 x st => st _ x⟩, rfl, q _ hn⟩
  show wpAny _ _ (callWith cpos (.builtin "dict.values") [.ref d] [] []) _ X.xe s1
  exact method_meetsIn F.slot_dict_values F.entry_dict_values rfl (PySem.evalArgs_none ⟨rfl, t1, F.args_dict_values_1 _, _, meets_dict_values_raw d g2, ⟨es, ep, hr⟩, fin⟩)
def sumI (m : Tab) : Int := preSum (fun i => (m[i]?.map (·.2)).getD 0) m.length
def rSumX (P : Program) (w : World) : List V → Hp → VK → Prop := fun vs H Q => ∃ (p d : Addr) (m : Tab), vs = [.ref p] ∧ H p = some (valuesO p d) ∧ DAt P w H d m ∧ Q (.int (sumI m)) H
theorem cr_sumX (hh : X.A.handled = none) : CallR X (.builtin "sum") (rSumX X.prog X.w) := by
  intro pins s σ H vs us Q I r h
  obtain ⟨p, d, m, rfl, hp, ⟨xs, ep, g1, g2, g3, g4⟩, q⟩ := h
  obtain rfl := Vals.ref1 r
  obtain ⟨hv, _, _⟩ := I.hok p _ hp
  have hv : s.heap.get? p = some { cls := .type "dict_values", data := .fields #[.ref d] } := hv
  obtain ⟨es, hr, hes⟩ := dx_raw I g1
  have hsz : es.size = m.length := by rw [size_of_entries hes, px_len g3]
  have K := KdlSrc.rawValues (prog := X.prog) (w := X.w) (r := p) (d := d) (es := es) (ep := ep)
  have ok : s.heap.IsValuesView p d ∧ s.heap.DictRaw d es ep := ⟨⟨_, hv, rfl, rfl⟩, hr⟩
  refine call_sum_walkAnyS ?_
  obtain ⟨oI, St, hit, W, st⟩ := K.iter X.A.in1 s hh ok
  refine hit _ _ ⟨s.heap.objs.size, _, _, _, es.size, _, _, fun i => (m[i]?.map (·.2)).getD 0, rfl, W.toS, st, fun b hb => ?_, fun i v hi => ?_, fun s' t' hm => ?_⟩
  · show b < (s.heap.push oI).objs.size
    rw [size_push']
    rcases List.mem_cons.mp hb with e | hb
    · rw [e]; exact Nat.lt_succ_self _
    · rw [List.mem_singleton.mp hb]; exact Nat.lt_succ_of_lt (K.there _ ok).2
  · obtain ⟨hi, rfl⟩ := hi
    have hx : i < xs.length := by rw [← size_of_entries hes]; exact hi
    obtain ⟨_, _, ev⟩ := es_at hes (List.getElem?_eq_getElem hx)
    obtain ⟨y, h1, _, _, t, h4⟩ := g3.get (List.getElem?_eq_getElem hx)
    refine ⟨t, ?_⟩
    rw [ev, h4]
    dsimp only
    rw [h1]
    rfl
  · have hk : ∀ b o, s.heap.get? b = some o → s'.heap.get? b = some o := fun b o e =>
      hm.heap b o (fun hI => absurd (Heap.lt_size e) (by rw [List.mem_singleton.mp hI]; exact Nat.lt_irrefl _)) (Heap.get?_push_of_some _ e)
    rw [Moved.eq_with hm]
    exact ⟨.int (sumI m), H, I.kept (h' := s'.heap) (t' := s'.toks) hk, ⟨t', by rw [hsz]; rfl⟩, q⟩
end
end K16
set_option maxHeartbeats 4000000
namespace K16
/-! ### the mathematics: a box moved; the number of orders -/
theorem up_set {hs : List (Option Nat)} {b x : Nat} {o : Option Nat} (hb : b < hs.length) : up (hs.set b o) x = if x = b then o else up hs x := by
  unfold up
  by_cases e : x = b
  · rw [if_pos e, e, List.getD_eq_getElem?_getD, List.getElem?_set_self hb] <;> rfl
  · rw [if_neg e, List.getD_eq_getElem?_getD, List.getD_eq_getElem?_getD, List.getElem?_set_ne (Ne.symm e)]
theorem Chain.cong {f g : Nat → Option Nat} {o : Option Nat} {l : List Nat} (c : Chain f o l) : (∀ x ∈ l, f x = g x) → Chain g o l := by
  induction c with
  | stop => intro _; exact .stop
  | @step h l c ih =>
    intro e
    have := ih fun x hx => e x (List.mem_cons_of_mem _ hx)
    rw [e h List.mem_cons_self] at this
    exact .step this
/-- a box that is moved to where it is not above leaves a nesting -/
theorem for_set {hs : List (Option Nat)} {b : Nat} {o : Option Nat} (F : For hs) (hb : b < hs.length) (ho : ∀ x, o = some x → x < hs.length) (hu : undr hs b o = false) : For (hs.set b o) := by
  have h0 : ∃ l, Chain (up hs) o l ∧ b ∉ l := by
    cases o with
    | none => exact ⟨[], .stop, by simp⟩
    | some h =>
      have hu : (decide (h = b) || decide (b ∈ chn hs h)) = false := hu
      rw [Bool.or_eq_false_iff, decide_eq_false_iff_not, decide_eq_false_iff_not] at hu
      refine ⟨_, .step (for_chn F h), fun z => ?_⟩
      rcases List.mem_cons.mp z with e | z
      · exact hu.1 e.symm
      · exact hu.2 z
  obtain ⟨l0, c0, n0⟩ := h0
  have ne : ∀ x, x ≠ b → up hs x = up (hs.set b o) x := fun x h => by rw [up_set hb, if_neg h]
  have c1 : Chain (up (hs.set b o)) o l0 := c0.cong fun x hx => ne x fun e => n0 (e ▸ hx)
  have cb : Chain (up (hs.set b o)) (some b) (b :: l0) := .step (by rw [up_set hb, if_pos rfl]; exact c1)
  refine ⟨fun x h e => ?_, fun x => ?_⟩
  · rw [List.length_set]
    rw [up_set hb] at e
    by_cases hx : x = b
    · rw [if_pos hx] at e
      exact ho h e
    · rw [if_neg hx] at e
      exact F.1 x h e
  · obtain ⟨l, c⟩ := F.2 x
    have key : ∀ {u : Option Nat} {l : List Nat}, Chain (up hs) u l → ∃ m, Chain (up (hs.set b o)) u m := by
      intro u l c
      induction c with
      | stop => exact ⟨[], .stop⟩
      | @step h l c ih =>
        by_cases e : h = b
        · rw [e]
          exact ⟨_, cb⟩
        · obtain ⟨m, cm⟩ := ih
          rw [ne h e] at cm
          exact ⟨_, .step cm⟩
    exact key c
/-- may b go where it is wanted -/
noncomputable def okM (gs hs : List (Option Nat)) (b : Nat) : Bool := !decide (up hs b = up gs b) && !undr hs b (up gs b)
def mvd (gs hs : List (Option Nat)) (b : Nat) : List (Option Nat) := hs.set b (up gs b)
/-- one more turn -/
noncomputable def turnN (gs : List (Option Nat)) (S : List Nat) (f : List (Option Nat) → Int) (hs : List (Option Nat)) : Int := ((S.filter fun b => okM gs hs b).map fun b => f (mvd gs hs b)).sum
noncomputable def ordN (gs : List (Option Nat)) (S : List Nat) : Nat → List (Option Nat) → Int
  | 0, _ => 1
  | t + 1, hs => turnN gs S (ordN gs S t) hs
def tot (f : List (Option Nat) → Int) (m : Tab) : Int := (m.map fun p => p.2 * f p.1).sum
theorem get_none {m : Tab} {k : List (Option Nat)} (h : k ∉ m.map (·.1)) : getI m k = none := by
  unfold getI
  have e : m.find? (fun p => decide (p.1 = k)) = none := by
    rw [List.find?_eq_none]
    intro p hp
    simp only [decide_eq_true_eq]
    exact fun e => h (List.mem_map.mpr ⟨p, hp, e⟩)
  rw [e]
  rfl
theorem tot_repl (f : List (Option Nat) → Int) (k : List (Option Nat)) (w : Int) : ∀ {m : Tab}, (m.map (·.1)).Nodup → ∀ i, getI m k = some i → ((m.map fun p => if p.1 = k then (p.1, i + w) else p).map fun p => p.2 * f p.1).sum = (m.map fun p => p.2 * f p.1).sum + w * f k
  | [], _, i, h => by cases h
  | p :: m, nd, i, h => by
    rw [List.map_cons, List.nodup_cons] at nd
    rw [List.map_cons, List.map_cons, List.map_cons, List.sum_cons, List.sum_cons]
    by_cases e : p.1 = k
    · have hi : getI (p :: m) k = some p.2 := by simp [getI, List.find?_cons, e]
      rw [hi] at h
      cases h
      rw [if_pos e]
      have same : (m.map fun q => if q.1 = k then (q.1, p.2 + w) else q) = m := by
        refine (List.map_congr_left fun q hq => ?_).trans (List.map_id m)
        rw [if_neg fun z => nd.1 (List.mem_map.mpr ⟨q, hq, by rw [z, e]⟩)]
        rfl
      rw [same]
      dsimp only
      rw [e, Int.add_mul]
      omega
    · have hi : getI (p :: m) k = getI m k := by simp [getI, List.find?_cons, e]
      rw [hi] at h
      rw [if_neg e, tot_repl f k w nd.2 i h]
      omega
theorem tot_put (f : List (Option Nat) → Int) {m : Tab} (nd : (m.map (·.1)).Nodup) (k : List (Option Nat)) (w : Int) : tot f (putI m k ((getI m k).getD 0 + w)) = tot f m + w * f k := by
  unfold tot putI
  cases h : getI m k with
  | none =>
    rw [if_neg (by simp), List.map_append, List.sum_append, List.map_singleton, List.sum_singleton]
    show _ + (0 + w) * f k = _
    rw [Int.zero_add]
  | some i =>
    rw [if_pos (show (some i).isSome = true from rfl)]
    exact tot_repl f k w nd i h
theorem put_mem {m : Tab} {k : List (Option Nat)} {v : Int} {p : List (Option Nat) × Int} (h : p ∈ putI m k v) : p.1 = k ∨ ∃ q ∈ m, q.1 = p.1 := by
  unfold putI at h
  split at h
  · obtain ⟨q, hq, e⟩ := List.mem_map.mp h
    refine .inr ⟨q, hq, ?_⟩
    rw [← e]
    split <;> rfl
  · rcases List.mem_append.mp h with h | h
    · exact .inr ⟨p, h, rfl⟩
    · rw [List.mem_singleton.mp h]
      exact .inl rfl
theorem pre_sum : ∀ (n : Nat) (f : Nat → Int), PySem.preSum f n = ((List.range n).map f).sum
  | 0, f => rfl
  | n + 1, f => by
    rw [List.range_succ, List.map_append, List.sum_append, List.map_singleton, List.sum_singleton, ← pre_sum n f]
    rfl
theorem sumI_tot (m : Tab) : sumI m = tot (fun _ => 1) m := by
  unfold sumI tot
  rw [pre_sum]
  congr 1
  apply List.ext_getElem
  · simp
  · intro i h1 h2
    have hi : i < m.length := by simpa using h2
    simp [hi]
end K16
set_option maxHeartbeats 4000000
/-! ### Task.orders, orders -/
namespace K16
open PySem PySem.Spec PyProof.Rows L2 Evl
section
variable {P : Program} {w : World} {K : PySem.W.Frag} {mg : Str → Option Value} {base : Heap}
abbrev s_Task_orders : Stmt := K16.inCls (K16.top 26) 4
abbrev N_Task_orders : List Str := ["self", "level", "turn", "later", "holders", "ways", "box", "there"]
abbrev P_Task_orders : List Str := ["self"]
theorem sc_Task_orders : FnScope N_Task_orders P_Task_orders (C8.fnScope s_Task_orders) := C8.fnScope_by (by decide +kernel)
noncomputable def ordV (Y : Yd) (gs : List (Option Nat)) : Int := ordN gs (someOf (hsOf Y) gs) (someOf (hsOf Y) gs).length (hsOf Y)
def sp_orders_m (K : PySem.W.Frag) (C : Addr) : Sp := fun vs H Q _ => ∃ (t : Addr) (Y : Yd) (gs : List (Option Nat)), vs = [.ref t] ∧ TaskAt K C H t Y gs ∧ Y.length ≤ 7 ∧ For (hsOf Y) ∧ VG Y.length gs ∧ ∀ H', Ex H H' → Q (.int (ordV Y gs)) H'
theorem c_orders_mk {f C : Addr} {fd : FuncData} (T : Gb mg) (TC : TaskC K C) (me : Meth K C "orders" f) (F : C8.Fun K "orders" "Task.orders" s_Task_orders f fd) (b : Binds K fd P_Task_orders [])
    (c_is_under : C8.Cal P w K mg base 2 "is_under" (sp_is_under K) []) (c_placed : C8.Cal P w K mg base 1 "placed" (sp_placed K) []) : C8.Met P w K mg base 3 C "orders" (sp_orders_m K C) [] := by
  refine C8.met0 (k := 2) TC.cl me F b sc_Task_orders (fun vs H Q E h => ?_) (fun cdv A outer s H vs Q E hr h => ?_)
  · obtain ⟨t, Y, gs, rfl, _⟩ := h
    rfl
  · obtain ⟨t, Y, gs, rfl, hT, hz, fo, og, q⟩ := h
    obtain ⟨dx, a, c, h, s0, h1, h2, h3, h4, h5⟩ := id hT
    have sl := some_len (hsOf Y) gs
    rw [hsOf_len] at sl
    refine ⟨_, (pss_cons (ps_set (i := 1) sc_Task_orders.nd rfl (Or.inl rfl) (K16.pe_dict1 (show _ + 1 < cLine from Nat.lt_of_le_of_lt (Nat.add_le_add_left (by decide) _) hr.units) (pe_fld (pv 0) rfl) pe_int))
      (pss_cons (ps_for PassesOwn.never rfl (pi_list (pe_fld (pv 0) rfl)) (pg_name (i := 2) sc_Task_orders.nd rfl (Or.inl rfl))
        (pss_cons (ps_set (i := 3) sc_Task_orders.nd rfl (Or.inl rfl) K16.pe_dict0)
      (pss_cons (ps_for PassesOwn.never rfl (K16.pi_itemsX (pv 1)) (pg_tup rfl (pgs_cons (pg_name (i := 4) sc_Task_orders.nd rfl (Or.inl rfl)) (pgs_cons (pg_name (i := 5) sc_Task_orders.nd rfl (Or.inl rfl)) pgs_nil)))
        (pss_one (ps_for PassesOwn.never rfl (pi_list (pe_fld (pv 0) rfl)) (pg_name (i := 6) sc_Task_orders.nd rfl (Or.inl rfl))
        (pss_one (ps_if (PW.pt (pw_and (pt_cmpR op_ne (pe_ix ix_tup (pv 4) (pv 6) (fun _ _ => rfl)) (pe_ix ix_tup (pe_fld (pv 0) rfl) (pv 6) (fun _ _ => rfl)) (nomark _)) (pw_and1 (pt_not (pt_val (C8.pe_c c_is_under hr (by decide) rfl (pa_cons (pv 4) (pa_cons (pv 6) (pa_cons (pe_ix ix_tup (pe_fld (pv 0) rfl) (pv 6) (fun _ _ => rfl)) pa_nil))))))))) (pss_cons (ps_set (i := 7) sc_Task_orders.nd rfl (Or.inl rfl) (C8.pe_c c_placed hr (by decide) rfl (pa_cons (pv 4) (pa_cons (pv 6) (pa_cons (pe_ix ix_tup (pe_fld (pv 0) rfl) (pv 6) (fun _ _ => rfl)) pa_nil)))))
      (pss_one (K16.ps_dputX (show _ + 1 < cLine from Nat.lt_of_le_of_lt (Nat.add_le_add_left (by decide) _) hr.units) (pv 3) (pv 7) (pe_op op_add (K16.pe_dgetX (show _ + 1 < cLine from Nat.lt_of_le_of_lt (Nat.add_le_add_left (by decide) _) hr.units) (pv 3) (pv 7) pe_int ⟨rfl, rfl, rfl, rfl⟩) (pv 5)) rfl))) pss_nil)))))
      (pss_one (ps_set (i := 1) sc_Task_orders.nd rfl (Or.inl rfl) (pv 3))))))
      (pss_one (ps_ret (pe_callB (K16.cr_sumX hr.hd) (by rfl) T.n_sum (by decide +kernel) (pa_cons (K16.pe_valuesX (pv 1)) pa_nil)))))), ?_⟩
    intro L H0 nL e0 D0
    refine ⟨_, rfl, t, C, dx, _, _, rfl, e0 _ _ h1, TC.cl, TC.nH, tF_h _ _ _ _, h, hsOf Y, 1, rfl, e0 _ _ h4, D0, fun H1 k1 D1 => ?_⟩
    have e1 : Ex H H1 := fun b o hb => k1 b o (ne_of_none hb nL) (e0 b o hb)
    refine ⟨_, rfl, t, C, dx, _, _, rfl, e1 _ _ h1, TC.cl, TC.nS, tF_s _ _ _ _, s0, rfl, ⟨_, SqL.of (e1 _ _ h5)⟩, ?_⟩
    refine for_list (xs := (someOf (hsOf Y) gs).map nV) (fun i σ H1 => ∃ (L : Addr) (m : Tab) (v2 v3 v4 v5 v6 v7 : Option V), σ = [some (.ref t), some (.ref L), v2, v3, v4, v5, v6, v7] ∧ Ex H H1 ∧ DAt P w H1 L m ∧ m.length ≤ 7 ^ i ∧ (∀ p ∈ m, For p.1 ∧ p.1.length = Y.length) ∧
      tot (ordN gs (someOf (hsOf Y) gs) ((someOf (hsOf Y) gs).length - i)) m = ordV Y gs) ?_ ?_ ?_ ?_
    · refine ⟨L, _, none, none, none, none, none, none, rfl, e1, D1, Nat.le_refl _, fun p hp => ?_, ?_⟩
      · rw [List.mem_singleton.mp hp]
        exact ⟨fo, hsOf_len Y⟩
      · show 1 * _ + 0 = _
        rw [Int.one_mul, Int.add_zero, Nat.sub_zero]
        rfl
    · rintro i σ H1 _ ⟨_, _, _, _, _, _, _, _, _, e1, _⟩
      exact SqL.of (e1 _ _ h5)
    · rintro i x σ H1 hx ⟨L, m, v2, v3, v4, v5, v6, v7, rfl, e1, D1, hlen, hkey, htot⟩
      have hi : i < (someOf (hsOf Y) gs).length := by simpa using (List.getElem?_eq_some_iff.mp hx).1
      obtain ⟨k, hk⟩ : ∃ k, (someOf (hsOf Y) gs).length - i = k + 1 := ⟨(someOf (hsOf Y) gs).length - i - 1, by omega⟩
      have hk2 : (someOf (hsOf Y) gs).length - (i + 1) = k := by omega
      rw [hk] at htot
      intro L2 H2 nL2 e2 D2
      have e12 := e1.trans e2
      obtain ⟨xs, ep, g1, g2, g3, g4⟩ := D1.mono e2
      obtain ⟨xs2, ep2, d2, _⟩ := id D2
      have neL : L ≠ L2 := fun z => by
        obtain ⟨xs', ep', g1', _⟩ := D1
        rw [z, nL2] at g1'
        cases g1'
      have pw : 7 ^ i ≤ 7 ^ 6 := Nat.pow_le_pow_right (by decide) (by omega)
      refine ⟨_, rfl, L, ep, xs, rfl, g1, g2, for_it (walk_itemsX (m := m)) (fun j σ H3 => ∃ (lm : Tab) (v4 v5 v6 v7 : Option V), σ = [some (.ref t), some (.ref L), some x, some (.ref L2), v4, v5, v6, v7] ∧ (∀ b o, b ≠ L2 → H2 b = some o → H3 b = some o) ∧ DAt P w H3 L2 lm ∧ lm.length ≤ j * 7 ∧
        (∀ p ∈ lm, For p.1 ∧ p.1.length = Y.length) ∧ tot (ordN gs (someOf (hsOf Y) gs) k) lm = tot (turnN gs (someOf (hsOf Y) gs) (ordN gs (someOf (hsOf Y) gs) k)) (m.take j)) ?_ ?_ ?_ ?_⟩
      · exact ⟨[], _, _, _, _, rfl, fun _ _ _ h => h, D2, Nat.zero_le _, (fun p hp => absurd hp (by simp)), rfl⟩
      · rintro j σ H3 _ ⟨lm, v4, v5, v6, v7, rfl, k3, _⟩
        exact ⟨k3 _ _ neL g1, g3.keeps fun b ys hb => k3 _ _ (ne_of hb d2 (by intro z; cases z)) hb⟩
      · rintro j v σ H3 H4 hj ⟨lm, v4, v5, v6, v7, rfl, k3, D3, hlen3, hkey3, htot3⟩ ⟨T, b, p, rfl, nT, hp, hb, rfl⟩
        obtain ⟨fp, lp⟩ := hkey p (List.mem_of_getElem? hp)
        have e4 := Ex.new (o := .tup [.ref b, .int p.2]) nT
        obtain ⟨xs3, ep3, d3, _⟩ := id D3
        have nb : b ≠ L2 := ne_of hb d3 (by intro z; cases z)
        have old : ∀ b o, H b = some o → H3 b = some o := fun b o hb => k3 b o (ne_of_none (e1 b o hb) nL2) (e12 b o hb)
        refine ⟨T, _, rfl, SqT.of upd_same, rfl, _, _, rfl, _, _, rfl, rfl, ?_⟩
        refine ⟨_, rfl, t, C, dx, _, _, rfl, e4 _ _ (old _ _ h1), TC.cl, TC.nS, tF_s _ _ _ _, s0, rfl, ⟨_, SqL.of (e4 _ _ (old _ _ h5))⟩, ?_⟩
        refine for_list (xs := (someOf (hsOf Y) gs).map nV) (fun l σ H5 => ∃ (lm : Tab) (v6 v7 : Option V), σ = [some (.ref t), some (.ref L), some x, some (.ref L2), some (.ref b), some (.int p.2), v6, v7] ∧ (∀ r o, r ≠ L2 → upd H3 T (.tup [.ref b, .int p.2]) r = some o → H5 r = some o) ∧ DAt P w H5 L2 lm ∧ lm.length ≤ j * 7 + l ∧
          (∀ p ∈ lm, For p.1 ∧ p.1.length = Y.length) ∧ tot (ordN gs (someOf (hsOf Y) gs) k) lm = tot (turnN gs (someOf (hsOf Y) gs) (ordN gs (someOf (hsOf Y) gs) k)) (m.take j) +
            p.2 * ((((someOf (hsOf Y) gs).take l).filter fun b => okM gs p.1 b).map fun b => ordN gs (someOf (hsOf Y) gs) k (mvd gs p.1 b)).sum) ?_ ?_ ?_ ?_
        · refine ⟨lm, v6, v7, rfl, fun _ _ _ h => h, D3.mono e4, hlen3, hkey3, ?_⟩
          rw [htot3, List.take_zero, List.filter_nil, List.map_nil, List.sum_nil, Int.mul_zero, Int.add_zero]
        · rintro l σ H5 _ ⟨_, _, _, _, k5, _⟩
          exact SqL.of (k5 _ _ (ne_of_none (e1 _ _ h5) nL2) (e4 _ _ (old _ _ h5)))
        · rintro l y σ H5 hy ⟨lm, v6, v7, rfl, k5, D5, hlen5, hkey5, htot5⟩
          rw [List.getElem?_map] at hy
          cases ebx : (someOf (hsOf Y) gs)[l]? with
          | none => rw [ebx] at hy; cases hy
          | some bx =>
            rw [ebx] at hy
            cases Option.some.inj hy
            have hl := (List.getElem?_eq_some_iff.mp ebx).1
            have hbx := some_lt (List.mem_of_getElem? ebx)
            rw [hsOf_len] at hbx
            have old5 : ∀ r o, H r = some o → H5 r = some o := fun r o hr => k5 r o (ne_of_none (e1 r o hr) nL2) (e4 _ _ (old r o hr))
            have hb5 := k5 b _ nb (e4 _ _ hb)
            refine ⟨_, rfl, _, rfl, b, _, _, _, rfl, rfl, SqT.of hb5, at_up (by rw [lp]; exact hbx), ?_⟩
            refine ⟨_, rfl, t, C, dx, _, _, rfl, old5 _ _ h1, TC.cl, TC.nW, tF_w _ _ _ _, _, rfl, c, _, _, _, rfl, rfl, ?_, at_up (by rw [og.len]; exact hbx), scal_hV _ _, ?_⟩
            · exact ex_t old5 h3
            have et : (someOf (hsOf Y) gs).take (l + 1) = (someOf (hsOf Y) gs).take l ++ [bx] := by rw [List.take_add_one, ebx] <;> rfl
            by_cases hm : up p.1 bx = up gs bx
            · refine ⟨false, congrArg V.bl (by rw [dec_hV, decide_eq_true hm] <;> rfl), ?_⟩
              refine ⟨lm, _, _, rfl, k5, D5, by omega, hkey5, ?_⟩
              have no : okM gs p.1 bx = false := by
                unfold okM
                rw [decide_eq_true hm] <;> rfl
              rw [htot5, et, List.filter_append, List.filter_cons, if_neg (by rw [no]; decide), List.filter_nil, List.append_nil]
            · refine ⟨true, congrArg V.bl (by rw [dec_hV, decide_eq_false hm] <;> rfl), ?_⟩
              refine ⟨_, rfl, _, rfl, _, rfl, t, C, dx, _, _, rfl, old5 _ _ h1, TC.cl, TC.nW, tF_w _ _ _ _, _, rfl, c, _, _, _, rfl, rfl, ex_t old5 h3, at_up (by rw [og.len]; exact hbx), ?_⟩
              refine ⟨b, p.1, bx, up gs bx, rfl, SqT.of hb5, fp, by omega, fun z hz => by rw [lp, ← og.len]; exact og.fo.1 bx z hz, fun H6 e6 => ?_⟩
              refine ⟨undr p.1 bx (up gs bx), rfl, ?_⟩
              have k6 : ∀ r o, r ≠ L2 → upd H3 T (.tup [.ref b, .int p.2]) r = some o → H6 r = some o := fun r o ne hr => e6 _ _ (k5 r o ne hr)
              have old6 : Ex H H6 := fun r o hr => e6 _ _ (old5 r o hr)
              cases hu : undr p.1 bx (up gs bx) with
              | true =>
                refine ⟨lm, _, _, rfl, k6, D5.mono e6, by omega, hkey5, ?_⟩
                have no : okM gs p.1 bx = false := by
                  unfold okM
                  rw [decide_eq_false hm, hu] <;> rfl
                rw [htot5, et, List.filter_append, List.filter_cons, if_neg (by rw [no]; decide), List.filter_nil, List.append_nil]
              | false =>
                have yes : okM gs p.1 bx = true := by
                  unfold okM
                  rw [decide_eq_false hm, hu] <;> rfl
                refine ⟨_, rfl, _, rfl, _, rfl, t, C, dx, _, _, rfl, old6 _ _ h1, TC.cl, TC.nW, tF_w _ _ _ _, _, rfl, c, _, _, _, rfl, rfl, ex_t old6 h3, at_up (by rw [og.len]; exact hbx), ?_⟩
                refine ⟨b, p.1, bx, up gs bx, rfl, SqT.of (e6 _ _ hb5), by omega, by omega, fun r7 H7 e7 hr7 => ?_⟩
                have D7 := (D5.mono e6).mono e7
                refine ⟨_, rfl, L2, lm, rfl, D7, _, rfl, lm, mvd gs p.1 bx, r7, 0, D7, rfl, hr7, rfl, ?_⟩
                refine ⟨_, rfl, _, _, rfl, rfl, ?_⟩
                refine ⟨_, rfl, _, rfl, L2, lm, mvd gs p.1 bx, r7, _, rfl, D7, rfl, hr7, rfl, Nat.lt_of_le_of_lt hlen5 ?_, fun H8 k8 D8 => ?_⟩
                · have : j < 7 ^ 6 := by have := (List.getElem?_eq_some_iff.mp hp).1; omega
                  rw [sizeLine_eq]
                  have e6 : (7 : Nat) ^ 6 = 117649 := by decide
                  omega
                refine ⟨_, _, _, rfl, fun r o ne hr => k8 r o ne (e7 _ _ (k6 r o ne hr)), D8, ?_, fun p8 hp8 => ?_, ?_⟩
                · have := putI_len lm (mvd gs p.1 bx) ((getI lm (mvd gs p.1 bx)).getD 0 + p.2)
                  omega
                · rcases put_mem hp8 with e | ⟨q8, hq8, e⟩
                  · rw [e]
                    exact ⟨for_set fp (by omega) (fun z hz => by rw [lp, ← og.len]; exact og.fo.1 bx z hz) hu, by unfold mvd; rw [List.length_set]; exact lp⟩
                  · rw [← e]
                    exact hkey5 q8 hq8
                · rw [tot_put _ D7.nodup, htot5, et, List.filter_append, List.filter_cons, if_pos yes, List.filter_nil, List.map_append, List.sum_append, List.map_singleton, List.sum_singleton, Int.mul_add, Int.add_assoc]
        · rintro σ H5 ⟨lm, v6, v7, rfl, k5, D5, hlen5, hkey5, htot5⟩
          rw [List.length_map, List.take_length] at htot5
          rw [List.length_map] at hlen5
          refine ⟨lm, _, _, _, _, rfl, fun r o ne hr => k5 r o ne (e4 _ _ (k3 r o ne hr)), D5, by omega, hkey5, ?_⟩
          rw [htot5, show m.take (j + 1) = m.take j ++ [p] by rw [List.take_add_one, hp] <;> rfl]
          unfold tot
          rw [List.map_append, List.sum_append, List.map_singleton, List.sum_singleton]
          rfl
      · rintro σ H3 ⟨lm, v4, v5, v6, v7, rfl, k3, D3, hlen3, hkey3, htot3⟩
        have old : ∀ b o, H b = some o → H3 b = some o := fun b o hb => k3 b o (ne_of_none (e1 b o hb) nL2) (e12 b o hb)
        refine ⟨_, rfl, L2, lm, _, _, _, _, _, _, rfl, old, D3, ?_, hkey3, ?_⟩
        · rw [Nat.pow_succ]
          exact Nat.le_trans hlen3 (Nat.mul_le_mul_right 7 hlen)
        · rw [hk2, htot3, List.take_length]
          exact htot
    · rintro σ H1 ⟨L, m, v2, v3, v4, v5, v6, v7, rfl, e1, D1, _, _, htot⟩
      refine ⟨_, rfl, L, m, rfl, D1, fun p np => ⟨p, L, m, rfl, upd_same, D1.mono (Ex.new np), ?_⟩⟩
      rw [List.length_map, Nat.sub_self] at htot
      have e : sumI m = ordV Y gs := (sumI_tot m).trans htot
      rw [e]
      exact q _ (e1.trans (Ex.new np))
abbrev s_orders : Stmt := K16.top 30
abbrev N_orders : List Str := ["yard", "goal", "task"]
abbrev P_orders : List Str := ["yard", "goal"]
theorem sc_orders : FnScope N_orders P_orders (C8.fnScope s_orders) := C8.fnScope_by (by decide +kernel)
noncomputable def ordR (Y : Yd) (gs : List (Option Nat)) : Int := if mayB Y gs = true then ordV Y gs else 0
def sp_orders (K : PySem.W.Frag) : Sp := fun vs H Q _ => ∃ (a c : Addr) (Y : Yd) (gs : List (Option Nat)), vs = [.ref a, .ref c] ∧ YAt K H a Y ∧ VY Y ∧ VG Y.length gs ∧ SqT K H c (gs.map hV) ∧ Y.length ≤ 7 ∧ ∀ H', Ex H H' → Q (.int (ordR Y gs)) H'
theorem c_orders {f C : Addr} {fd : FuncData} (T : Gb mg) (TC : TaskC K C) (F : C8.Def K mg "orders" s_orders f fd) (b : Binds K fd P_orders []) (c_task_of : C8.Cal P w K mg base 4 "task_of" (sp_task_of K C) []) (c_may : C8.Met P w K mg base 1 C "may" (sp_may K C) [])
    (c_orders_m : C8.Met P w K mg base 3 C "orders" (sp_orders_m K C) []) : C8.Cal P w K mg base 5 "orders" (sp_orders K) [] := by
  refine C8.cal0 (k := 4) F b .nil sc_orders (fun vs H Q E h => ?_) (fun cdv A outer s H vs Q E hr h => ?_)
  · obtain ⟨a, c, Y, gs, rfl, _⟩ := h
    rfl
  · obtain ⟨a, c, Y, gs, rfl, hY, ok, og, hc, h7, q⟩ := h
    refine ⟨_, (pss_cons (ps_set (i := 2) sc_orders.nd rfl (Or.inl rfl) (C8.pe_c c_task_of hr (by decide) rfl (pa_cons (pv 0) (pa_cons (pv 1) pa_nil))))
      (pss_one (ps_ret (pe_ifExp (pt_val (C8.pe_mt0 c_may hr (by decide) (pv 2))) (C8.pe_mt0 c_orders_m hr (by decide) (pv 2)) pe_int)))), ?_⟩
    refine ⟨_, rfl, _, rfl, a, c, Y, gs, rfl, hY, ok, og, hc, fun t H1 e1 ht => ?_⟩
    obtain ⟨dx, a1, c1, h, s0, h1, h2, h3, h4, h5⟩ := id ht
    refine ⟨_, rfl, t, dx, _, rfl, h1, tF_no _ _ _ _ (by decide +kernel) (by decide +kernel) (by decide +kernel) (by decide +kernel), t, Y, gs, rfl, ht, by omega, fun H2 e2 => ⟨mayB Y gs, rfl, ?_⟩⟩
    have q2 := fun H' (e : Ex H2 H') => q H' (e1.trans (e2.trans e))
    unfold ordR at q2
    cases hb : mayB Y gs with
    | true =>
      rw [hb] at q2
      exact ⟨_, rfl, t, dx, _, rfl, e2 _ _ h1, tF_no _ _ _ _ (by decide +kernel) (by decide +kernel) (by decide +kernel) (by decide +kernel), t, Y, gs, rfl, ht.mono e2, h7, ok.fo, og, q2⟩
    | false =>
      rw [hb] at q2
      exact q2 H2 (Ex.refl _)
end
end K16
set_option maxHeartbeats 4000000
/-! ### the law's drawing -/
namespace K16
open PySem PySem.Spec PyProof.Rows L2 Evl
/-- the drawing's state at st, of the script at sc -/
def StAt (H : Hp) (st sc : Addr) : Prop := ∃ a m r : Int, H st = some (.lst [.ref sc, .int a, .int m, .int r]) ∧ 0 ≤ a ∧ 0 ≤ m ∧ m < 2147483647
/-- the script, apart from the state -/
def ScAt (K : PySem.W.Frag) (H : Hp) (st sc : Addr) : Prop := ∃ ns : List Int, SqL K (hid st H) sc (ns.map V.int)
section
variable {K : PySem.W.Frag} {H H' : Hp} {st sc : Addr}
theorem hid_l {D a : Addr} {xs : List V} (h : SqL K H a xs) (ne : H D = none ∨ a ≠ D) : SqL K (hid D H) a xs := by
  rcases h with h | h
  · refine .inl ?_
    rcases h with h | ⟨o, h⟩
    · exact .inl (hid_at h (ne.elim (fun n => ne_of_none h n) fun n => n))
    · exact .inr ⟨o, hid_at h (ne.elim (fun n => ne_of_none h n) fun n => n)⟩
  · exact .inr h
theorem hid_t {D a : Addr} {xs ys : List V} (h : SqT K H a xs) (hD : H D = some (.lst ys)) : SqT K (hid D H) a xs := by
  rcases h with h | h
  · refine .inl ?_
    rcases h with h | ⟨o, h⟩
    · exact .inl (hid_at h (ne_of h hD (by intro z; cases z)))
    · exact .inr ⟨o, hid_at h (ne_of h hD (by intro z; cases z))⟩
  · exact .inr h
theorem hid_no {b : Addr} {o : HO} (h : hid st H b = some o) : b ≠ st ∧ H b = some o := by
  unfold hid at h
  by_cases hb : b = st
  · rw [if_pos hb] at h; cases h
  · rw [if_neg hb] at h
    exact ⟨hb, h⟩
theorem hid_at' {b : Addr} {o : HO} (h : H b = some o) (n : b ≠ st) : hid st H b = some o := hid_at h n
theorem hid_mut {o : HO} : Ex (hid st H) (upd H st o) := fun b u h => by
  obtain ⟨h1, h2⟩ := hid_no h
  rw [upd_ne h1]
  exact h2
theorem hid_hid (e : Ex (hid st H) H') : Ex (hid st H) (hid st H') := fun b o h => hid_at (e b o h) (hid_no h).1
theorem hid_go {H2 : Hp} (a : Ex (hid st H) H') (b : Ex (hid st H') H2) : Ex (hid st H) H2 := (hid_hid a).trans b
theorem ScAt.mono (e : Ex (hid st H) H') (x : ScAt K H st sc) : ScAt K H' st sc := let ⟨ns, h⟩ := x; ⟨ns, ex_l (hid_hid e) h⟩
theorem StAt.mono (e : Ex H H') (x : StAt H st sc) : StAt H' st sc := let ⟨a, m, r, h, g⟩ := x; ⟨a, m, r, e _ _ h, g⟩
theorem StAt.upd {b : Addr} {o : HO} (x : StAt H st sc) (n : b ≠ st) : StAt (upd H b o) st sc := let ⟨a, m, r, h, g⟩ := x; ⟨a, m, r, by rw [upd_ne (Ne.symm n)]; exact h, g⟩
theorem StAt.lst (x : StAt H st sc) : ∃ ys, H st = some (.lst ys) := let ⟨_, _, _, h, _⟩ := x; ⟨_, h⟩
theorem StAt.set {xs : List V} {a m r : Int} (h3 : 0 ≤ a) (h4 : 0 ≤ m) (h5 : m < 2147483647) (e : xs = [.ref sc, .int a, .int m, .int r]) : StAt (L2.upd H st (.lst xs)) st sc := by
  subst e
  exact ⟨a, m, r, upd_same, h3, h4, h5⟩
end
section
variable {P : Program} {w : World} {K : PySem.W.Frag} {mg : Str → Option Value} {base : Heap}
abbrev s__law_start : Stmt := K16.top 42
abbrev N__law_start : List Str := ["_law_script", "_law_mixed", "_law_cell"]
abbrev P__law_start : List Str := ["_law_script"]
theorem sc__law_start : FnScope N__law_start P__law_start (C8.fnScope s__law_start) := C8.fnScope_by (by decide +kernel)
def sp__law_start (K : PySem.W.Frag) : Sp := fun vs H Q _ => ∃ (sc : Addr) (ns : List Int), vs = [.ref sc] ∧ SqL K H sc (ns.map V.int) ∧ ∀ st, H st = none → ∀ H', Ex H H' → StAt H' st sc → Q (.ref st) H'
theorem c__law_start {f : Addr} {fd : FuncData} (T : Gb mg) (F : C8.Def K mg "_law_start" s__law_start f fd) (b : Binds K fd P__law_start []) : C8.Cal P w K mg base 1 "_law_start" (sp__law_start K) [] := by
  refine C8.cal0 (k := 0) F b .nil sc__law_start (fun vs H Q E h => ?_) (fun cdv A outer s H vs Q E hr h => ?_)
  · obtain ⟨sc, ns, rfl, _⟩ := h
    rfl
  · obtain ⟨sc, ns, rfl, hS, q⟩ := h
    refine ⟨_, (pss_cons (ps_set (i := 1) sc__law_start.nd rfl (Or.inl rfl) pe_int)
      (pss_cons (ps_for PassesOwn.never rfl (pi_list (pv 0)) (pg_name (i := 2) sc__law_start.nd rfl (Or.inl rfl))
        (pss_one (ps_set (i := 1) sc__law_start.nd rfl (Or.inl rfl) (pe_op op_mod (pe_op op_add (pe_op op_add (pe_op op_mul (pv 1) pe_int) (pv 2)) pe_int) pe_int))))
      (pss_one (ps_ret (pe_lst (pa_cons (pv 0) (pa_cons pe_int (pa_cons (pv 1) (pa_cons pe_int pa_nil))))))))), ?_⟩
    refine ⟨_, rfl, sc, rfl, ⟨_, hS⟩, for_list (xs := ns.map V.int) (fun i σ H1 => ∃ (m : Int) (v : Option V), σ = [some (.ref sc), some (.int m), v] ∧ H1 = H ∧ 0 ≤ m ∧ m < 2147483647) ⟨1, none, rfl, rfl, by decide, by decide⟩ (fun i σ H1 _ ⟨_, _, _, e, _⟩ => e ▸ hS) ?_ ?_⟩
    · rintro i x σ H1 hx ⟨m, v, rfl, rfl, h1, h2⟩
      rw [List.getElem?_map] at hx
      cases en : ns[i]? with
      | none => rw [en] at hx; cases hx
      | some n =>
        rw [en] at hx
        cases Option.some.inj hx
        refine ⟨_, rfl, _, _, rfl, rfl, .inr ⟨by decide, by decide⟩, _, rfl, _, _, rfl, rfl, _, _, rfl, rfl, _, _, rfl, rfl, (by decide : (0 : Int) < 2147483647), ?_⟩
        exact ⟨_, _, rfl, rfl, Int.emod_nonneg _ (by decide), Int.emod_lt_of_pos _ (by decide)⟩
    · rintro σ H1 ⟨m, v, rfl, rfl, h1, h2⟩
      refine ⟨_, rfl, _, rfl, lineE (by show 4 ≤ 1000; decide), fun p hp => q p hp _ (Ex.new hp) ?_⟩
      exact ⟨0, m, 0, upd_same, Int.le_refl _, h1, h2⟩
abbrev s__law_drawn : Stmt := K16.top 43
abbrev N__law_drawn : List Str := ["_law_state", "_law_many", "_law_found", "_law_cell"]
abbrev P__law_drawn : List Str := ["_law_state", "_law_many"]
theorem sc__law_drawn : FnScope N__law_drawn P__law_drawn (C8.fnScope s__law_drawn) := C8.fnScope_by (by decide +kernel)
def sp__law_drawn (K : PySem.W.Frag) : Sp := fun vs H Q _ => ∃ (st sc : Addr) (many : Int), vs = [.ref st, .int many] ∧ 0 < many ∧ many < 1073741824 ∧ StAt H st sc ∧ ScAt K H st sc ∧ ∀ x H', 0 ≤ x → x < many → Ex (hid st H) H' → StAt H' st sc → Q (.int x) H'
theorem c__law_drawn {f : Addr} {fd : FuncData} (T : Gb mg) (F : C8.Def K mg "_law_drawn" s__law_drawn f fd) (b : Binds K fd P__law_drawn []) : C8.Cal P w K mg base 1 "_law_drawn" (sp__law_drawn K) [] := by
  refine C8.cal0 (k := 0) F b .nil sc__law_drawn (fun vs H Q E h => ?_) (fun cdv A outer s H vs Q E hr h => ?_)
  · obtain ⟨st, sc, many, rfl, _⟩ := h
    rfl
  · obtain ⟨st, sc, many, rfl, p1, p2, ⟨a, m, r, h1, h3, h4, h5⟩, ⟨ns, h2⟩, q⟩ := h
    refine ⟨_, (pss_cons (ps_if (pt_cmpR op_gt (pe_ix ix_list (pv 0) pe_int (fun _ _ => rfl)) pe_int (nomark _)) (pss_cons (ps_set (i := 2) sc__law_drawn.nd rfl (Or.inl rfl) (pe_op op_mod (pe_ix ix_list (pv 0) pe_int (fun _ _ => rfl)) (pv 1)))
      (pss_cons (ps_asg (pe_op op_fdiv (pe_ix ix_list (pv 0) pe_int (fun _ _ => rfl)) (pv 1)) (pg_sub (pv 0) pe_int set_list))
      (pss_one (ps_ret (pv 2))))) pss_nil)
      (pss_cons (ps_asg (pe_op op_add (pe_ix ix_list (pv 0) pe_int (fun _ _ => rfl)) pe_int) (pg_sub (pv 0) pe_int set_list))
      (pss_cons (ps_if (pt_cmpR op_le (pe_ix ix_list (pv 0) pe_int (fun _ _ => rfl)) (pe_callB call_len_seq (by rfl) T.n_len (by decide +kernel) (pa_cons (pe_ix ix_list (pv 0) pe_int (fun _ _ => rfl)) pa_nil)) (nomark _)) (pss_cons (ps_set (i := 3) sc__law_drawn.nd rfl (Or.inl rfl) (pe_ix ix_list (pe_ix ix_list (pv 0) pe_int (fun _ _ => rfl)) (pe_op op_sub (pe_ix ix_list (pv 0) pe_int (fun _ _ => rfl)) pe_int) (fun _ _ => rfl)))
      (pss_cons (ps_asg (pe_ifExp (pt_cmpR op_ge (pv 3) (pe_op op_pow pe_int pe_int) (nomark _)) (pe_op op_fdiv (pv 3) (pv 1)) pe_int) (pg_sub (pv 0) pe_int set_list))
      (pss_one (ps_ret (pe_op op_mod (pv 3) (pv 1)))))) pss_nil)
      (pss_cons (ps_asg (pe_op op_mod (pe_op op_add (pe_op op_mul (pe_ix ix_list (pv 0) pe_int (fun _ _ => rfl)) pe_int) pe_int) pe_int) (pg_sub (pv 0) pe_int set_list))
      (pss_one (ps_ret (pe_op op_mod (pe_op op_fdiv (pe_ix ix_list (pv 0) pe_int (fun _ _ => rfl)) pe_int) (pv 1)))))))), ?_⟩
    have md : ∀ x : Int, 0 ≤ x % many ∧ x % many < many := fun x => ⟨Int.emod_nonneg _ (by omega), Int.emod_lt_of_pos _ p1⟩
    refine ⟨_, rfl, st, _, _, _, rfl, rfl, SqL.of h1, atI_nat (j := 3) rfl, _, _, rfl, rfl, decide (r > 0), rfl, ?_⟩
    by_cases hr0 : r > 0
    · rw [decide_eq_true hr0]
      refine ⟨_, rfl, st, _, _, _, rfl, rfl, SqL.of h1, atI_nat (j := 3) rfl, _, rfl, _, _, rfl, rfl, p1, ?_⟩
      refine ⟨_, rfl, st, _, _, _, rfl, rfl, SqL.of h1, atI_nat (j := 3) rfl, _, rfl, _, _, rfl, rfl, ⟨p1, p2⟩, ?_⟩
      refine ⟨_, rfl, st, _, _, 3, rfl, rfl, h1, ixN_nat (j := 3) (show 3 < 4 by decide), _, rfl, ?_⟩
      exact q _ _ (md r).1 (md r).2 hid_mut (StAt.set h3 h4 h5 rfl)
    · rw [decide_eq_false hr0]
      refine ⟨_, rfl, st, _, _, _, rfl, rfl, SqL.of h1, atI_nat (j := 1) rfl, _, _, rfl, rfl, _, rfl, st, _, _, 1, rfl, rfl, h1, ixN_nat (j := 1) (show 1 < 4 by decide), ?_⟩
      have e1 : Ex (hid st H) (upd H st (.lst [.ref sc, .int (a + 1), .int m, .int r])) := hid_mut
      have g1 : upd H st (.lst [.ref sc, .int (a + 1), .int m, .int r]) st = some (.lst [.ref sc, .int (a + 1), .int m, .int r]) := upd_same
      have hS := ex_l e1 h2
      have w1 : hid st (upd H st (.lst [.ref sc, .int (a + 1), .int m, .int r])) = hid st H := hid_upd _ _ _
      show tSeq _ _ _ _ (upd H st (.lst [.ref sc, .int (a + 1), .int m, .int r]))
      generalize upd H st (.lst [.ref sc, .int (a + 1), .int m, .int r]) = H1 at e1 g1 hS w1 ⊢
      refine ⟨_, rfl, st, _, _, _, rfl, rfl, SqL.of g1, atI_nat (j := 1) rfl, _, rfl, st, _, _, _, rfl, rfl, SqL.of g1, atI_nat (j := 0) rfl, sc, _, rfl, .inl hS, _, _, rfl, rfl, decide (a + 1 ≤ ((ns.map V.int).length : Nat)), rfl, ?_⟩
      by_cases hl : a + 1 ≤ ((ns.map V.int).length : Nat)
      · rw [decide_eq_true hl]
        obtain ⟨j, hj⟩ := Int.eq_ofNat_of_zero_le h3
        have hj2 : j < ns.length := by rw [List.length_map] at hl; omega
        have ea : a + 1 - 1 = (j : Int) := by omega
        refine ⟨_, rfl, st, _, _, _, rfl, rfl, SqL.of g1, atI_nat (j := 0) rfl, _, rfl, st, _, _, _, rfl, rfl, SqL.of g1, atI_nat (j := 1) rfl, _, _, rfl, rfl, ?_⟩
        refine ⟨sc, _, _, _, rfl, rfl, hS, by rw [ea]; exact atI_nat (v := V.int (ns[j])) (by simp [hj2]), ?_⟩
        have wr : ∀ r' : Int, hid st H = hid st H1 → Q (.int (ns[j] % many)) (upd H1 st (.lst [.ref sc, .int (a + 1), .int m, .int r'])) := fun r' ew => by
          refine q _ _ (md _).1 (md _).2 (hid_go e1 hid_mut) (StAt.set (by omega) h4 h5 rfl)
        refine ⟨_, rfl, _, _, rfl, rfl, ⟨by decide, by decide, by decide⟩, _, _, rfl, rfl, decide (ns[j] ≥ 10 ^ (18 : Int).toNat), rfl, ?_⟩
        by_cases hc : ns[j] ≥ 10 ^ (18 : Int).toNat
        · rw [decide_eq_true hc]
          refine ⟨_, rfl, _, rfl, _, _, rfl, rfl, ⟨p1, p2⟩, ?_⟩
          exact ⟨_, rfl, st, _, _, 3, rfl, rfl, g1, ixN_nat (j := 3) (show 3 < 4 by decide), _, rfl, _, rfl, _, _, rfl, rfl, p1, wr _ w1.symm⟩
        · rw [decide_eq_false hc]
          exact ⟨_, rfl, st, _, _, 3, rfl, rfl, g1, ixN_nat (j := 3) (show 3 < 4 by decide), _, rfl, _, rfl, _, _, rfl, rfl, p1, wr _ w1.symm⟩
      · rw [decide_eq_false hl]
        refine ⟨_, rfl, st, _, _, _, rfl, rfl, SqL.of g1, atI_nat (j := 2) rfl, _, _, rfl, rfl, .inr ⟨by decide, by decide⟩, _, _, rfl, rfl, _, _, rfl, rfl, (by decide : (0 : Int) < 2147483647), ?_⟩
        refine ⟨_, rfl, st, _, _, 2, rfl, rfl, g1, ixN_nat (j := 2) (show 2 < 4 by decide), ?_⟩
        refine ⟨_, rfl, st, _, _, _, rfl, rfl, SqL.of upd_same, atI_nat (j := 2) rfl, _, _, rfl, rfl, ⟨by decide, by decide⟩, _, rfl, _, _, rfl, rfl, p1, ?_⟩
        exact q _ _ (md _).1 (md _).2 (hid_go e1 hid_mut) (StAt.set (by omega) (Int.emod_nonneg _ (by decide)) (Int.emod_lt_of_pos _ (by decide)) rfl)
theorem erase_perm {α : Type} : ∀ (l : List α) (j : Nat) (h : j < l.length), (l[j] :: l.eraseIdx j).Perm l
  | [], _, h => absurd h (Nat.not_lt_zero _)
  | x :: l, 0, _ => List.Perm.refl _
  | x :: l, j + 1, h => by
    have h2 : j < l.length := by simpa using h
    show (l[j] :: x :: l.eraseIdx j).Perm (x :: l)
    exact (List.Perm.swap _ _ _).trans (List.Perm.cons x (erase_perm l j h2))
abbrev s__law_turned : Stmt := K16.top 44
abbrev N__law_turned : List Str := ["_law_state", "_law_many", "_law_left", "_law_found"]
abbrev P__law_turned : List Str := ["_law_state", "_law_many"]
theorem sc__law_turned : FnScope N__law_turned P__law_turned (C8.fnScope s__law_turned) := C8.fnScope_by (by decide +kernel)
def sp__law_turned (K : PySem.W.Frag) : Sp := fun vs H Q _ => ∃ (st sc : Addr) (n : Nat), vs = [.ref st, nV n] ∧ n ≤ 100 ∧ StAt H st sc ∧ ScAt K H st sc ∧ ∀ D H' (N : List Nat), N.Perm (List.range n) → Ex (hid st H) H' → StAt H' st sc → H D = none → H' D = some (.lst (N.map nV)) → Q (.ref D) H'
theorem c__law_turned {f : Addr} {fd : FuncData} (T : Gb mg) (F : C8.Def K mg "_law_turned" s__law_turned f fd) (b : Binds K fd P__law_turned []) (c__law_drawn : C8.Cal P w K mg base 1 "_law_drawn" (sp__law_drawn K) []) : C8.Cal P w K mg base 2 "_law_turned" (sp__law_turned K) [] := by
  refine C8.cal0 (k := 1) F b .nil sc__law_turned (fun vs H Q E h => ?_) (fun cdv A outer s H vs Q E hr h => ?_)
  · obtain ⟨st, sc, n, rfl, _⟩ := h
    rfl
  · obtain ⟨st, sc, n, rfl, hn, hst, hsc, q⟩ := h
    refine ⟨_, (pss_cons (ps_par (i := 2) (j := 3) rfl sc__law_turned.nd rfl rfl (by decide) rfl rfl (pa_cons (pe_listRg rfl (by rfl) T.n_list (prg_1 (by rfl) T.n_range (pv 1))) (pa_cons (pe_lst pa_nil) pa_nil)) (by rfl))
      (pss_cons (ps_while PassesOwn.never (pt_cmpR (op_neD hr.units) (pv 2) (pe_lst pa_nil) (nomark _))
        (pss_one (ps_expr (pe_bm PySem.F.plainAttrs_list PySem.F.slot_list_append PySem.F.type_list_append mt_append (pv 3) (pa_cons (pe_bm PySem.F.plainAttrs_list PySem.F.slot_list_pop PySem.F.type_list_pop mt_popAt (pv 2) (pa_cons (C8.pe_c c__law_drawn hr (by decide) rfl (pa_cons (pv 0) (pa_cons (pe_callB call_len_seq (by rfl) T.n_len (by decide +kernel) (pa_cons (pv 2) pa_nil)) pa_nil))) pa_nil)) pa_nil)))))
      (pss_one (ps_ret (pv 3))))), ?_⟩
    refine ⟨_, rfl, _, rfl, RgOk.of_le (by decide) (by omega) (by decide) (by omega), fun L nL => ⟨lineE (Nat.zero_le _), fun F nF => ⟨_, _, rfl, ?_⟩⟩⟩
    have neLF : F ≠ L := fun z => by rw [z, upd_same] at nF; cases nF
    have nF0 : H F = none := by rwa [upd_ne neLF] at nF
    have eR : rgV 0 (n : Int) = (List.range n).map nV := by
      unfold rgV
      rw [show ((n : Int) - 0).toNat = n by omega]
      exact List.map_congr_left fun i _ => by rw [Int.zero_add]
    obtain ⟨ys0, hst0⟩ := hst.lst
    have neL : L ≠ st := Ne.symm (ne_of_none hst0 nL)
    have neF : F ≠ st := Ne.symm (ne_of_none hst0 nF0)
    refine ⟨fun m σ H1 => ∃ (le fo : List Nat), σ = [some (.ref st), some (nV n), some (.ref L), some (.ref F)] ∧ Ex (hid st H) H1 ∧ StAt H1 st sc ∧ H1 L = some (.lst (le.map nV)) ∧ H1 F = some (.lst (fo.map nV)) ∧ (fo ++ le).Perm (List.range n) ∧ m = le.length, ⟨n, List.range n, [], rfl, ?_, ?_, ?_, upd_same, List.Perm.refl _, by rw [List.length_range]⟩, ?_⟩
    · exact ((hid_le st H).trans (Ex.new nL)).trans (Ex.new nF)
    · exact (hst.mono (Ex.new nL)).mono (Ex.new nF)
    · rw [upd_ne (Ne.symm neLF), upd_same]
      exact congrArg _ (congrArg _ eR)
    · rintro m σ H1 ⟨le, fo, rfl, e1, s1, hL, hF, pm, rfl⟩
      have hlen : fo.length + le.length = n := by
        have := pm.length_eq
        rwa [List.length_append, List.length_range] at this
      refine ⟨_, rfl, lineE (Nat.zero_le _), fun p np => ?_⟩
      have e2 := Ex.new (o := .lst []) np
      refine ⟨.list (le.map fun n : Nat => PyData.int (n : Int)), .list [], dp_nats (SqL.of (e2 _ _ hL)), .lst (SqL.of upd_same) .nil, sh_ok (sh_nats le), rfl, !decide (le = []), congrArg V.bl (congrArg Bool.not (eqv_empty le)), ?_⟩
      cases le with
      | nil =>
        rw [List.append_nil] at pm
        exact ⟨_, rfl, q F _ fo pm (e1.trans e2) (s1.mono e2) nF0 (e2 _ _ hF)⟩
      | cons x le =>
        rw [List.length_cons] at hlen
        refine ⟨_, fun σ' H' z => ⟨le.length, by rw [List.length_cons]; exact Nat.lt_succ_self _, z⟩, ?_⟩
        refine ⟨_, rfl, .inl ⟨rfl, _, SqL.of (e2 _ _ hF)⟩, _, rfl, .inl ⟨rfl, _, SqL.of (e2 _ _ hL)⟩, _, rfl, _, rfl, L, _, rfl, .inl (SqL.of (e2 _ _ hL)), ?_⟩
        refine ⟨st, sc, _, rfl, by rw [List.length_map, List.length_cons]; omega, by rw [List.length_map, List.length_cons]; omega, s1.mono e2, hsc.mono (e1.trans e2), fun y H3 y0 y1 e3 s3 => ?_⟩
        obtain ⟨j, rfl⟩ := Int.eq_ofNat_of_zero_le y0
        have hj : j < (x :: le).length := by rw [List.length_map] at y1; omega
        have hL3 : H3 L = some (.lst ((x :: le).map nV)) := e3 _ _ (hid_at (e2 _ _ hL) neL)
        have hF3 : H3 F = some (.lst (fo.map nV)) := e3 _ _ (hid_at (e2 _ _ hF) neF)
        refine ⟨L, _, _, j, nV (x :: le)[j], rfl, rfl, hL3, by omega, by rw [List.length_cons] at hj; omega, ?_, by rw [List.getElem?_map, List.getElem?_eq_getElem hj] <;> rfl, ?_⟩
        · rw [seqIndex_of (by omega) (by rw [List.length_map]; omega)] <;> rfl
        refine ⟨F, _, _, rfl, rfl, by rw [upd_ne neLF]; exact hF3, lineL (by rw [List.length_map]; omega), ?_⟩
        refine ⟨(x :: le).eraseIdx j, fo ++ [(x :: le)[j]], rfl, ?_, (s3.upd neL).upd neF, ?_, ?_, ?_, ?_⟩
        · exact ((hid_go e1 ((hid_ex e2).trans e3)).mut (by unfold hid; rw [if_neg neL]; exact nL)).mut (by unfold hid; rw [if_neg neF]; exact nF0)
        · rw [upd_ne (Ne.symm neLF), upd_same, DT.map_erase]
        · rw [upd_same, List.map_append] <;> rfl
        · refine List.Perm.trans ?_ pm
          rw [List.append_assoc]
          exact List.Perm.append_left fo (erase_perm _ j hj)
        · rw [List.length_eraseIdx_of_lt hj, List.length_cons] <;> rfl
end
end K16
set_option maxHeartbeats 4000000
/-! ### the law's nestings and yards -/
namespace K16
open PySem PySem.Spec PyProof.Rows L2 Evl
/-- where each holder ranks below what it holds, each box comes to the floor -/
theorem for_rank {hs : List (Option Nat)} (cl : Clo hs) (rk : Nat → Nat) (h : ∀ b x, up hs b = some x → rk x < rk b) : For hs := by
  refine ⟨cl, fun b => ?_⟩
  have key : ∀ (n b : Nat), rk b < n → ∃ l, Chain (up hs) (some b) l := by
    intro n
    induction n with
    | zero => intro b hb; exact absurd hb (Nat.not_lt_zero _)
    | succ n ih =>
      intro b hb
      cases e : up hs b with
      | none => exact ⟨[b], .step (by rw [e]; exact .stop)⟩
      | some x =>
        obtain ⟨l, c⟩ := ih x (by have := h b x e; omega)
        exact ⟨b :: l, .step (by rw [e]; exact c)⟩
  exact key (rk b + 1) b (Nat.lt_succ_self _)
theorem idx_of {N : List Nat} (nd : N.Nodup) {k : Nat} (hk : k < N.length) : N.idxOf N[k] = k := List.Nodup.idxOf_getElem nd k hk
theorem perm_range {N : List Nat} {n : Nat} (p : N.Perm (List.range n)) : N.length = n ∧ N.Nodup ∧ (∀ x ∈ N, x < n) :=
  ⟨by rw [p.length_eq, List.length_range], p.nodup_iff.mpr List.nodup_range, fun x hx => List.mem_range.mp (p.mem_iff.mp hx)⟩
/-- what the law's nesting is while it is made -/
def NestP (N : List Nat) (fs : List (Option Nat)) : Prop := fs.length = N.length ∧ ∀ b x, up fs b = some x → x ∈ N ∧ N.idxOf x < N.idxOf b
theorem NestP.set {N : List Nat} {fs : List (Option Nat)} (x : NestP N fs) (nd : N.Nodup) {k : Nat} (hk : k < N.length) (hN : N[k] < fs.length) {o : Option Nat} (ho : ∀ y, o = some y → ∃ j, ∃ h : j < N.length, y = N[j] ∧ j < k) : NestP N (fs.set N[k] o) := by
  refine ⟨by rw [List.length_set]; exact x.1, fun b y e => ?_⟩
  rw [up_set hN] at e
  by_cases hb : b = N[k]
  · rw [if_pos hb] at e
    obtain ⟨j, hj, rfl, hjk⟩ := ho y e
    exact ⟨List.getElem_mem hj, by rw [hb, idx_of nd hj, idx_of nd hk]; exact hjk⟩
  · rw [if_neg hb] at e
    exact x.2 b y e
theorem rep_none : ∀ n : Nat, (List.replicate n [V.non]).flatten = (List.replicate n (none : Option Nat)).map hV
  | 0 => rfl
  | n + 1 => by
    rw [List.replicate_succ, List.replicate_succ, List.flatten_cons, List.map_cons, rep_none n] <;> rfl
theorem hid_fresh {st sc p : Addr} {H H' : Hp} (e : Ex (hid st H) H') (s : StAt H' st sc) (n : H' p = none) : H p = none ∧ p ≠ st := by
  obtain ⟨ys, hs⟩ := s.lst
  have ne : p ≠ st := Ne.symm (ne_of_none hs n)
  refine ⟨?_, ne⟩
  cases hp : H p with
  | none => rfl
  | some o =>
    rw [e p o (hid_at hp ne)] at n
    cases n
section
variable {P : Program} {w : World} {K : PySem.W.Frag} {mg : Str → Option Value} {base : Heap}
abbrev s__law_nesting : Stmt := K16.top 45
abbrev N__law_nesting : List Str := ["_law_state", "_law_many", "_law_turned_here", "_law_deep", "_law_found", "_law_k", "_law_some"]
abbrev P__law_nesting : List Str := ["_law_state", "_law_many"]
theorem sc__law_nesting : FnScope N__law_nesting P__law_nesting (C8.fnScope s__law_nesting) := C8.fnScope_by (by decide +kernel)
def sp__law_nesting (K : PySem.W.Frag) : Sp := fun vs H Q _ => ∃ (st sc : Addr) (n : Nat), vs = [.ref st, nV n] ∧ 1 ≤ n ∧ n ≤ 100 ∧ StAt H st sc ∧ ScAt K H st sc ∧ ∀ p H' (gs : List (Option Nat)), gs.length = n → For gs → Ex (hid st H) H' → StAt H' st sc → H' p = some (.tup (gs.map hV)) → Q (.ref p) H'
theorem c__law_nesting {f : Addr} {fd : FuncData} (T : Gb mg) (F : C8.Def K mg "_law_nesting" s__law_nesting f fd) (b : Binds K fd P__law_nesting []) (c__law_drawn : C8.Cal P w K mg base 1 "_law_drawn" (sp__law_drawn K) []) (c__law_turned : C8.Cal P w K mg base 2 "_law_turned" (sp__law_turned K) []) :
    C8.Cal P w K mg base 3 "_law_nesting" (sp__law_nesting K) [] := by
  refine C8.cal0 (k := 2) F b .nil sc__law_nesting (fun vs H Q E h => ?_) (fun cdv A outer s H vs Q E hr h => ?_)
  · obtain ⟨st, sc, n, rfl, _⟩ := h
    rfl
  · obtain ⟨st, sc, n, rfl, hn1, hn, hst, hsc, q⟩ := h
    refine ⟨_, (pss_cons (ps_par (i := 2) (j := 3) rfl sc__law_nesting.nd rfl rfl (by decide) rfl rfl (pa_cons (C8.pe_c c__law_turned hr (by decide) rfl (pa_cons (pv 0) (pa_cons (pv 1) pa_nil))) (pa_cons (C8.pe_c c__law_drawn hr (by decide) rfl (pa_cons (pv 0) (pa_cons pe_int pa_nil))) pa_nil)) (by rfl))
      (pss_cons (ps_set (i := 4) sc__law_nesting.nd rfl (Or.inl rfl) (pe_op op_rep (pe_lst (pa_cons pe_non pa_nil)) (pv 1)))
      (pss_cons (ps_for PassesOwn.never rfl (pi_range1 (by rfl) T.n_range (pa_cons (pv 1) pa_nil)) (pg_name (i := 5) sc__law_nesting.nd rfl (Or.inl rfl))
        (pss_cons (ps_set (i := 6) sc__law_nesting.nd rfl (Or.inl rfl) (pe_lst (pa_cons pe_non (pa_cons (pe_ix ix_list (pv 2) (pe_op op_sub (pv 5) pe_int) (fun _ _ => rfl)) (pa_cons (pe_ix ix_list (pv 2) (C8.pe_c c__law_drawn hr (by decide) rfl (pa_cons (pv 0) (pa_cons (pe_callB (call_max2 rfl) (by rfl) T.n_max (by decide +kernel) (pa_cons pe_int (pa_cons (pv 5) pa_nil))) pa_nil))) (fun _ _ => rfl)) pa_nil)))))
      (pss_one (ps_asg (pe_ifExp (pt_cmpR op_gt (pv 5) pe_int (nomark _)) (pe_ix ix_list (pv 6) (pe_callB (call_min2 rfl) (by rfl) T.n_min (by decide +kernel) (pa_cons (pv 3) (pa_cons (C8.pe_c c__law_drawn hr (by decide) rfl (pa_cons (pv 0) (pa_cons pe_int pa_nil))) pa_nil))) (fun _ _ => rfl)) pe_non) (pg_sub (pv 4) (pe_ix ix_list (pv 2) (pv 5) (fun _ _ => rfl)) set_list)))))
      (pss_one (ps_ret (pe_callTy call_tuple_of (by rfl) T.n_tuple (by decide +kernel) (pa_cons (pv 4) pa_nil))))))), ?_⟩
    refine ⟨_, rfl, _, rfl, st, sc, n, rfl, hn, hst, hsc, fun D H1 N pm e1 s1 nD hD => ?_⟩
    obtain ⟨lN, nd, ltN⟩ := perm_range pm
    obtain ⟨ys0, hst0⟩ := hst.lst
    have neD : D ≠ st := Ne.symm (ne_of_none hst0 nD)
    refine ⟨_, rfl, st, sc, 4, rfl, by decide, by decide, s1, hsc.mono e1, fun dp H2 d0 d1 e2 s2 => ⟨_, _, rfl, ?_⟩⟩
    have e12 := hid_go e1 e2
    have hD2 : H2 D = some (.lst (N.map nV)) := e2 _ _ (hid_at hD neD)
    refine ⟨lineE (by show 1 ≤ 1000; decide), fun u nu => ⟨_, rfl, u, _, [.non], rfl, rfl, upd_same, by omega, by omega, lineE (by show 1 * _ ≤ 1000; omega), fun F0 nF => ?_⟩⟩
    have e3 : Ex H2 (upd (upd H2 u (.lst [.non])) F0 (.lst ((List.replicate ((n : Int)).toNat [V.non]).flatten))) := (Ex.new nu).trans (Ex.new nF)
    have hF : upd (upd H2 u (.lst [.non])) F0 (.lst ((List.replicate ((n : Int)).toNat [V.non]).flatten)) F0 = some (.lst ((List.replicate n (none : Option Nat)).map hV)) := by
      rw [upd_same, show ((n : Int)).toNat = n by omega, rep_none]
    have nF2 : H2 F0 = none := by
      by_cases e : F0 = u
      · rw [e]; exact nu
      · rwa [upd_ne e] at nF
    have s3 := s2.mono e3
    have e13 := e12.trans e3
    have hD3 := e3 _ _ hD2
    generalize upd (upd H2 u (.lst [.non])) F0 (.lst ((List.replicate ((n : Int)).toNat [V.non]).flatten)) = H3 at e3 hF s3 e13 hD3 ⊢
    obtain ⟨nF0, neF⟩ := hid_fresh e12 s2 nF2
    have neFD : F0 ≠ D := fun z => by rw [z, hD2] at nF2; cases nF2
    refine ⟨_, rfl, n, rfl, by omega, by omega, ?_⟩
    refine for_range (lo := 0) (n := n) (fun i σ H4 => ∃ (fs : List (Option Nat)) (v5 v6 : Option V), σ = [some (.ref st), some (nV n), some (.ref D), some (.int dp), some (.ref F0), v5, v6] ∧ Ex (hid st H) H4 ∧ StAt H4 st sc ∧ H4 D = some (.lst (N.map nV)) ∧ H4 F0 = some (.lst (fs.map hV)) ∧ NestP N fs) ?_ ?_ ?_
    · refine ⟨_, none, none, rfl, e13, s3, hD3, hF, by rw [List.length_replicate, lN], fun b x e => ?_⟩
      have : up (List.replicate n none) b = none := by
        unfold up
        rw [List.getD_eq_getElem?_getD, List.getElem?_replicate]
        split <;> rfl
      rw [this] at e
      cases e
    · rintro i σ H4 hi ⟨fs, v5, v6, rfl, e4, s4, hD4, hF4, np⟩
      have e0 : ((0 : Int) + (i : Int)) = (i : Int) := Int.zero_add _
      rw [e0]
      have hiN : i < N.length := by omega
      obtain ⟨a, ha, ha2⟩ : ∃ a, atI (N.map nV) ((i : Int) - 1) = some (nV a) ∧ (0 < i → ∃ h : i - 1 < N.length, a = N[i - 1]) := by
        by_cases h0 : 0 < i
        · refine ⟨N[i - 1], ?_, fun _ => ⟨by omega, rfl⟩⟩
          rw [show ((i : Int) - 1) = ((i - 1 : Nat) : Int) by omega]
          exact atI_nat (by simp [show i - 1 < N.length by omega])
        · refine ⟨N[N.length - 1], ?_, fun h => absurd h h0⟩
          have : i = 0 := by omega
          subst this
          unfold atI ixN
          rw [if_neg (by decide), if_pos (by rw [List.length_map]; omega)]
          show (N.map nV)[((-1 : Int) + ((N.map nV).length : Nat)).toNat]? = _
          rw [List.length_map, show ((-1 : Int) + (N.length : Nat)).toNat = N.length - 1 by omega]
          simp [show N.length - 1 < N.length by omega]
      refine ⟨_, rfl, _, rfl, _, _, rfl, rfl, D, _, _, _, rfl, rfl, SqL.of hD4, ha, ?_⟩
      refine ⟨_, rfl, _, rfl, _, rfl, _, _, rfl, ?_⟩
      have mx : (0 : Int) < (if (i : Int) > 1 then (i : Int) else 1) ∧ (if (i : Int) > 1 then (i : Int) else 1) < 1073741824 := by split <;> omega
      refine ⟨st, sc, _, rfl, mx.1, mx.2, s4, hsc.mono e4, fun y H5 y0 y1 e5 s5 => ?_⟩
      obtain ⟨j, rfl⟩ := Int.eq_ofNat_of_zero_le y0
      have hj : j < N.length ∧ (0 < i → j < i) := by
        split at y1
        · omega
        · constructor <;> omega
      have hD5 := e5 _ _ (hid_at hD4 neD)
      have hF5 := e5 _ _ (hid_at hF4 neF)
      have e45 := hid_go e4 e5
      refine ⟨D, _, _, nV N[j], rfl, rfl, SqL.of hD5, atI_nat (by simp [hj.1]), lineE (by show 3 ≤ 1000; decide), fun S nS => ?_⟩
      have e6 := Ex.new (o := .lst [V.non, nV a, nV N[j]]) nS
      have s6 := s5.mono e6
      have e46 := e45.trans e6
      have hS6 : upd H5 S (.lst [V.non, nV a, nV N[j]]) S = some (.lst [V.non, nV a, nV N[j]]) := upd_same
      have hD6 := e6 _ _ hD5
      have hF6 := e6 _ _ hF5
      have neS : S ≠ st := by
        obtain ⟨ys, h⟩ := s5.lst
        exact Ne.symm (ne_of_none h nS)
      have neFS : F0 ≠ S := ne_of_none hF5 nS
      have ltN2 : N[i] < fs.length := by rw [np.1, lN]; exact ltN _ (List.getElem_mem hiN)
      have fin : ∀ (o : Option Nat) (H7 : Hp), (∀ y, o = some y → ∃ j, ∃ h : j < N.length, y = N[j] ∧ j < i) → Ex (hid st H) H7 → StAt H7 st sc → H7 D = some (.lst (N.map nV)) → H7 F0 = some (.lst (fs.map hV)) →
          ∃ (gs : List (Option Nat)) (v5 v7 : Option V), [some (.ref st), some (nV n), some (.ref D), some (.int dp), some (.ref F0), some (nV i), some (.ref S)] = [some (.ref st), some (nV n), some (.ref D), some (.int dp), some (.ref F0), v5, v7] ∧
          Ex (hid st H) (upd H7 F0 (.lst ((fs.map hV).set N[i] (hV o)))) ∧ StAt (upd H7 F0 (.lst ((fs.map hV).set N[i] (hV o)))) st sc ∧ upd H7 F0 (.lst ((fs.map hV).set N[i] (hV o))) D = some (.lst (N.map nV)) ∧ upd H7 F0 (.lst ((fs.map hV).set N[i] (hV o))) F0 = some (.lst (gs.map hV)) ∧ NestP N gs := fun o H7 ho e7 s7 hD7 hF7 =>
        ⟨fs.set N[i] o, _, _, rfl, e7.mut (by unfold hid; rw [if_neg neF]; exact nF0), s7.upd neF, by rw [upd_ne (Ne.symm neFD)]; exact hD7, by rw [upd_same, List.map_set], np.set nd hiN ltN2 ho⟩
      refine ⟨_, rfl, _, _, rfl, rfl, decide ((i : Int) > 0), rfl, ?_⟩
      by_cases hi0 : (i : Int) > 0
      · rw [decide_eq_true hi0]
        have hi0' : 0 < i := by omega
        refine ⟨_, rfl, _, rfl, _, rfl, st, sc, 3, rfl, by decide, by decide, s6, hsc.mono e46, fun z H7 z0 z1 e7 s7 => ⟨_, _, rfl, ?_⟩⟩
        obtain ⟨o, ho, ho2⟩ : ∃ o, atI [V.non, nV a, nV N[j]] (if z < dp then z else dp) = some (hV o) ∧ ∀ y, o = some y → ∃ j, ∃ h : j < N.length, y = N[j] ∧ j < i := by
          generalize hm : (if z < dp then z else dp) = mn
          have m0 : 0 ≤ mn ∧ mn < 3 := by rw [← hm]; split <;> omega
          obtain ⟨k, rfl⟩ := Int.eq_ofNat_of_zero_le m0.1
          have hk : k = 0 ∨ k = 1 ∨ k = 2 := by omega
          rcases hk with rfl | rfl | rfl
          · exact ⟨none, rfl, fun y h => by cases h⟩
          · obtain ⟨h, e⟩ := ha2 hi0'
            exact ⟨some a, rfl, fun y hy => ⟨i - 1, h, by cases hy; exact e, by omega⟩⟩
          · exact ⟨some N[j], rfl, fun y hy => ⟨j, hj.1, by cases hy; rfl, hj.2 hi0'⟩⟩
        refine ⟨S, _, _, _, rfl, rfl, SqL.of (e7 _ _ (hid_at hS6 neS)), ho, ?_⟩
        refine ⟨_, rfl, _, rfl, _, rfl, D, _, _, _, rfl, rfl, SqL.of (e7 _ _ (hid_at hD6 neD)), atI_nat (v := nV N[i]) (by simp [hiN]), F0, _, _, N[i], rfl, rfl, e7 _ _ (hid_at hF6 neF), ixN_nat (by rw [List.length_map]; exact ltN2), ?_⟩
        exact fin o H7 ho2 (hid_go e46 e7) s7 (e7 _ _ (hid_at hD6 neD)) (e7 _ _ (hid_at hF6 neF))
      · rw [decide_eq_false hi0]
        refine ⟨_, rfl, _, rfl, _, rfl, D, _, _, _, rfl, rfl, SqL.of hD6, atI_nat (v := nV N[i]) (by simp [hiN]), F0, _, _, N[i], rfl, rfl, hF6, ixN_nat (by rw [List.length_map]; exact ltN2), ?_⟩
        exact fin none _ (fun y h => by cases h) e46 s6 hD6 hF6
    · rintro σ H4 ⟨fs, v5, v6, rfl, e4, s4, hD4, hF4, np⟩
      have hfs : fs.length = n := by rw [np.1, lN]
      refine ⟨_, rfl, F0, _, rfl, .inl ⟨SqL.of hF4, fun p hp => ?_⟩⟩
      refine q p _ fs hfs (for_rank (fun b x e => ?_) (fun b => N.idxOf b) fun b x e => (np.2 b x e).2) (e4.trans (Ex.new hp)) (s4.mono (Ex.new hp)) upd_same
      rw [hfs]
      exact ltN x (np.2 b x e).1
end
end K16
set_option maxHeartbeats 4000000
/-! ### the law's yards, goals, wishes -/
namespace K16
open PySem PySem.Spec PyProof.Rows L2 Evl
section
variable {P : Program} {w : World} {K : PySem.W.Frag} {mg : Str → Option Value} {base : Heap}
theorem for_hs {Y : Yd} {ps : List (Option Int)} {gs : List (Option Nat)} (e : Y = ps.zip gs) (h : ps.length = gs.length) : hsOf Y = gs := by
  subst e
  unfold hsOf
  exact List.map_snd_zip (Nat.le_of_eq h.symm)
/-- the pairs of prices and holders, as rows -/
theorem zip_at {ps : List (Option Int)} {gs : List (Option Nat)} {i : Nat} {z : Option Int × Option Nat} (h : (ps.zip gs)[i]? = some z) : ps[i]? = some z.1 ∧ gs[i]? = some z.2 := by
  rw [List.getElem?_zip_eq_some] at h
  exact h
abbrev s__law_yard : Stmt := K16.top 46
abbrev N__law_yard : List Str := ["_law_state", "_law_most", "_law_many", "_law_rare", "_law_dear", "_law_holders", "_law_prices", "_law_holder", "_law_k"]
abbrev P__law_yard : List Str := ["_law_state", "_law_most"]
theorem sc__law_yard : FnScope N__law_yard P__law_yard (C8.fnScope s__law_yard) := C8.fnScope_by (by decide +kernel)
def sp__law_yard (K : PySem.W.Frag) : Sp := fun vs H Q _ => ∃ (st sc : Addr), vs = [.ref st, .int 12] ∧ StAt H st sc ∧ ScAt K H st sc ∧ ∀ p H' Y, VY Y → YAt K H' p Y → p ≠ st → Ex (hid st H) H' → StAt H' st sc → Q (.ref p) H'
theorem c__law_yard {f : Addr} {fd : FuncData} (T : Gb mg) (F : C8.Def K mg "_law_yard" s__law_yard f fd) (b : Binds K fd P__law_yard []) (c__law_drawn : C8.Cal P w K mg base 1 "_law_drawn" (sp__law_drawn K) []) (c__law_nesting : C8.Cal P w K mg base 3 "_law_nesting" (sp__law_nesting K) []) :
    C8.Cal P w K mg base 4 "_law_yard" (sp__law_yard K) [] := by
  refine C8.cal0 (k := 3) F b .nil sc__law_yard (fun vs H Q E h => ?_) (fun cdv A outer s H vs Q E hr h => ?_)
  · obtain ⟨st, sc, rfl, _⟩ := h
    rfl
  · obtain ⟨st, sc, rfl, hst, hsc, q⟩ := h
    refine ⟨_, (pss_cons (ps_set (i := 2) sc__law_yard.nd rfl (Or.inl rfl) (pe_op op_add pe_int (C8.pe_c c__law_drawn hr (by decide) rfl (pa_cons (pv 0) (pa_cons (pv 1) pa_nil)))))
      (pss_cons (ps_asg (pe_tup (pa_cons (pe_ix ix_list (pe_lst (pa_cons pe_int (pa_cons pe_int (pa_cons pe_int pa_nil)))) (C8.pe_c c__law_drawn hr (by decide) rfl (pa_cons (pv 0) (pa_cons pe_int pa_nil))) (fun _ _ => rfl)) (pa_cons (pe_ix ix_list (pe_lst (pa_cons pe_int (pa_cons pe_int pa_nil))) (C8.pe_c c__law_drawn hr (by decide) rfl (pa_cons (pv 0) (pa_cons pe_int pa_nil))) (fun _ _ => rfl)) pa_nil))) (pg_tup rfl (pgs_cons (pg_name (i := 3) sc__law_yard.nd rfl (Or.inr rfl)) (pgs_cons (pg_name (i := 4) sc__law_yard.nd rfl (Or.inr rfl)) pgs_nil))))
      (pss_cons (ps_set (i := 5) sc__law_yard.nd rfl (Or.inr rfl) (C8.pe_c c__law_nesting hr (by decide) rfl (pa_cons (pv 0) (pa_cons (pv 2) pa_nil))))
      (pss_cons (ps_set (i := 6) sc__law_yard.nd rfl (Or.inr rfl) (pe_lc (own := [("_law_holder", 7)]) (g := (gName 7)) (tt := tYes) (te := (tIf (tTest (tOp rEq (tCall (sp__law_drawn K) [] C8.E0 (tCons (tVar 0) (tCons (tVar 3) tNil))) (tC (.int 0)))) (tC .non) (tOp (rI0 fun i j => .int (i + j)) (tC (.int 1)) (tCall (sp__law_drawn K) [] C8.E0 (tCons (tVar 0) (tCons (tVar 4) tNil)))))) rfl sc__law_yard.nd (pi_tup (pv 5)) (blkOk_by (own := [("_law_holder", 7)]) (N := N__law_yard) (sc := C8.fnScope s__law_yard) (by decide +kernel)) (fun _ _ _ _ _ => by exact (pg_name (i := 7) sc__law_yard.nd rfl (Or.inl rfl))) (fun _ _ _ _ _ => by exact pts_nil) (fun _ _ _ _ _ => by exact (pe_ifExp (pt_cmpR op_eq (C8.pe_c c__law_drawn hr (by decide) rfl (pa_cons (pv 0) (pa_cons (pv 3) pa_nil))) pe_int (nomark _)) pe_non (pe_op op_add pe_int (C8.pe_c c__law_drawn hr (by decide) rfl (pa_cons (pv 0) (pa_cons (pv 4) pa_nil))))))))
      (pss_one (ps_ret (pe_callTy call_tuple_of (by rfl) T.n_tuple (by decide +kernel) (pa_cons (pe_lc (own := [("_law_k", 8)]) (g := (gName 8)) (tt := tYes) (te := (tTup (tCons (tOp (rIxL K) (tVar 6) (tVar 8)) (tCons (tOp (rIxT K) (tVar 5) (tVar 8)) tNil)))) rfl sc__law_yard.nd (pi_range1 (by rfl) T.n_range (pa_cons (pv 2) pa_nil)) (blkOk_by (own := [("_law_k", 8)]) (N := N__law_yard) (sc := C8.fnScope s__law_yard) (by decide +kernel)) (fun _ _ _ _ _ => by exact (pg_name (i := 8) sc__law_yard.nd rfl (Or.inl rfl))) (fun _ _ _ _ _ => by exact pts_nil) (fun _ _ _ _ _ => by exact (pe_tup (pa_cons (pe_ix ix_list (pv 6) (pv 8) (fun _ _ => rfl)) (pa_cons (pe_ix ix_tup (pv 5) (pv 8) (fun _ _ => rfl)) pa_nil))))) pa_nil)))))))), ?_⟩
    refine ⟨_, rfl, _, rfl, st, sc, 12, rfl, by decide, by decide, hst, hsc, fun x H1 x0 x1 e1 s1 => ⟨_, _, rfl, rfl, ?_⟩⟩
    obtain ⟨n0, rfl⟩ := Int.eq_ofNat_of_zero_le x0
    have en : (1 : Int) + (n0 : Int) = ((n0 + 1 : Nat) : Int) := by omega
    refine ⟨lineE (by show 3 ≤ 1000; decide), fun u1 nu1 => ⟨_, rfl, st, sc, 3, rfl, by decide, by decide, s1.mono (Ex.new nu1), hsc.mono (e1.trans (Ex.new nu1)), fun x2 H2 x20 x21 e2 s2 => ?_⟩⟩
    have ne1 : u1 ≠ st := by
      obtain ⟨ys, h⟩ := s1.lst
      exact Ne.symm (ne_of_none h nu1)
    have hu1 : H2 u1 = some (.lst [.int 3, .int 12, .int 60]) := e2 _ _ (hid_at upd_same ne1)
    have e12 := hid_go (e1.trans (Ex.new nu1)) e2
    obtain ⟨ra, hra, hra2⟩ : ∃ ra : Int, atI [V.int 3, .int 12, .int 60] x2 = some (.int ra) ∧ 0 < ra ∧ ra < 1000 := by
      obtain ⟨k, rfl⟩ := Int.eq_ofNat_of_zero_le x20
      have hk : k = 0 ∨ k = 1 ∨ k = 2 := by omega
      rcases hk with rfl | rfl | rfl
      · exact ⟨3, rfl, by decide⟩
      · exact ⟨12, rfl, by decide⟩
      · exact ⟨60, rfl, by decide⟩
    refine ⟨u1, _, _, _, rfl, rfl, SqL.of hu1, hra, lineE (by show 2 ≤ 1000; decide), fun u2 nu2 => ⟨_, rfl, st, sc, 2, rfl, by decide, by decide, s2.mono (Ex.new nu2), hsc.mono (e12.trans (Ex.new nu2)), fun x3 H3 x30 x31 e3 s3 => ?_⟩⟩
    have ne2 : u2 ≠ st := by
      obtain ⟨ys, h⟩ := s2.lst
      exact Ne.symm (ne_of_none h nu2)
    have hu2 : H3 u2 = some (.lst [.int 2, .int 99]) := e3 _ _ (hid_at upd_same ne2)
    have e13 := hid_go (e12.trans (Ex.new nu2)) e3
    obtain ⟨de, hde, hde2⟩ : ∃ de : Int, atI [V.int 2, .int 99] x3 = some (.int de) ∧ 0 < de ∧ de ≤ 99 := by
      obtain ⟨k, rfl⟩ := Int.eq_ofNat_of_zero_le x30
      have hk : k = 0 ∨ k = 1 := by omega
      rcases hk with rfl | rfl
      · exact ⟨2, rfl, by decide⟩
      · exact ⟨99, rfl, by decide⟩
    refine ⟨u2, _, _, _, rfl, rfl, SqL.of hu2, hde, lineE (by show 2 ≤ 1000; decide), fun u3 nu3 => ⟨u3, _, rfl, SqT.of upd_same, rfl, _, _, rfl, _, _, rfl, rfl, ?_⟩⟩
    have e33 := Ex.new (o := .tup [V.int ra, V.int de]) nu3
    refine ⟨_, rfl, _, rfl, st, sc, n0 + 1, congrArg (fun z => [V.ref st, V.int z]) en, by omega, by omega, s3.mono e33, hsc.mono (e13.trans e33), fun hp H4 gs lg fo e4 s4 hg => ?_⟩
    have e14 := hid_go (e13.trans e33) e4
    refine ⟨_, rfl, hp, rfl, ⟨_, SqT.of hg⟩, fun D nD => ?_⟩
    obtain ⟨nD0, neD⟩ := hid_fresh e14 s4 nD
    refine lc_tup (K := K) (a := hp) (xs := gs.map hV) (fun i H5 => Ex (hid st H4) H5 ∧ StAt H5 st sc ∧ ∃ ps : List (Option Int), H5 D = some (.lst (ps.map pV)) ∧ ps.length = i ∧ ∀ p ∈ ps, ∀ z, p = some z → 1 ≤ z ∧ z ≤ 99) ?_ ?_ ?_ ?_
    · exact ⟨(hid_le _ _).trans (Ex.new nD), s4.mono (Ex.new nD), [], upd_same, rfl, fun p hp => absurd hp (by simp)⟩
    · intro i H5 _ z
      obtain ⟨ys, h⟩ := s4.lst
      exact SqT.of (z.1 _ _ (hid_at hg (ne_of hg h (by intro z; cases z))))
    · rintro i x H5 hx ⟨e5, s5, ps, hps, lps, okp⟩
      have hi : i < gs.length := by simpa using (List.getElem?_eq_some_iff.mp hx).1
      refine ⟨rfl, _, rfl, _, rfl, st, sc, ra, rfl, hra2.1, by omega, s5, hsc.mono (hid_go e14 e5), fun y H6 y0 y1 e6 s6 => ⟨rfl, decide (V.int y = V.int 0), rfl, ?_⟩⟩
      have hps6 : H6 D = some (.lst (ps.map pV)) := e6 _ _ (hid_at hps neD)
      have nD4 : hid st H4 D = none := by unfold hid; rw [if_neg neD]; exact nD
      by_cases hy : V.int y = V.int 0
      · rw [decide_eq_true hy]
        exact ⟨_, hps6, lineL (by rw [List.length_map]; omega), (hid_go e5 e6).mut nD4, s6.upd neD, ps ++ [none], by rw [upd_same, List.map_append] <;> rfl, by rw [List.length_append, List.length_singleton, lps], fun p hp z hz => by
          rcases List.mem_append.mp hp with hp | hp
          · exact okp p hp z hz
          · rw [List.mem_singleton.mp hp] at hz
            cases hz⟩
      · rw [decide_eq_false hy]
        refine ⟨_, rfl, _, rfl, st, sc, de, rfl, hde2.1, by omega, s6, hsc.mono (hid_go e14 (hid_go e5 e6)), fun d H7 d0 d1 e7 s7 => ⟨_, _, rfl, rfl, ?_⟩⟩
        have hps7 : H7 D = some (.lst (ps.map pV)) := e7 _ _ (hid_at hps6 neD)
        exact ⟨_, hps7, lineL (by rw [List.length_map]; omega), (hid_go (hid_go e5 e6) e7).mut nD4, s7.upd neD, ps ++ [some (1 + d)], by rw [upd_same, List.map_append] <;> rfl, by rw [List.length_append, List.length_singleton, lps], fun p hp z hz => by
          rcases List.mem_append.mp hp with hp | hp
          · exact okp p hp z hz
          · rw [List.mem_singleton.mp hp] at hz
            cases hz
            omega⟩
    · rintro H5 ⟨e5, s5, ps, hps, lps, okp⟩
      rw [List.length_map] at lps
      have e15 := hid_go e14 e5
      have hg5 : H5 hp = some (.tup (gs.map hV)) := by
        obtain ⟨ys, h⟩ := s4.lst
        exact e5 _ _ (hid_at hg (ne_of hg h (by intro z; cases z)))
      refine ⟨_, rfl, _, rfl, by omega, by omega, fun D2 nD2 => ?_⟩
      have en2 : ((1 : Int) + (n0 : Int)).toNat = n0 + 1 := by omega
      refine lc_range (lo := 0) (n := ((1 : Int) + (n0 : Int)).toNat) (fun i H6 => Ex H5 H6 ∧ ∃ rs, H6 D2 = some (.lst rs) ∧ Rows K (hid D2 H6) rs ((ps.zip gs).take i)) ?_ ?_ ?_
      · exact ⟨Ex.new nD2, [], upd_same, rfl, fun i z h => by rw [List.take_zero] at h; cases h⟩
      · rintro i H6 hi ⟨e6, rs, hrs, R⟩
        have e0 : ((0 : Int) + (i : Int)) = (i : Int) := Int.zero_add _
        rw [e0]
        have hi2 : i < ps.length := by omega
        have hi3 : i < gs.length := by omega
        have lrs : rs.length = i := by
          rw [R.len, List.length_take, List.length_zip]
          omega
        refine ⟨rfl, _, rfl, _, rfl, D, _, _, _, rfl, rfl, SqL.of (e6 _ _ hps), atI_nat (v := pV ps[i]) (by simp [hi2]), _, rfl, _, rfl, hp, _, _, _, rfl, rfl, SqT.of (e6 _ _ hg5), atI_nat (v := hV gs[i]) (by simp [hi3]), ?_⟩
        refine ⟨lineE (by show 2 ≤ 1000; decide), fun q1 nq => ?_⟩
        have e7 := Ex.new (o := .tup [pV ps[i], hV gs[i]]) nq
        have ne : q1 ≠ D2 := Ne.symm (ne_of_none hrs nq)
        refine ⟨_, e7 _ _ hrs, lineL (by omega), (e6.trans e7).mut nD2, rs ++ [V.ref q1], upd_same, ?_⟩
        rw [hid_upd]
        refine ⟨?_, fun k z hz => ?_⟩
        · rw [List.length_append, List.length_singleton, lrs, List.length_take, List.length_zip]
          omega
        · by_cases hk : k < i
          · have hz2 : ((ps.zip gs).take i)[k]? = some z := by
              rw [List.getElem?_take_of_lt (by omega)] at hz
              rw [List.getElem?_take_of_lt hk]
              exact hz
            obtain ⟨q2, h1, h2⟩ := R.at_ k z hz2
            exact ⟨q2, by rw [List.getElem?_append_left (by omega)]; exact h1, ex_t (hid_ex e7) h2⟩
          · have hk2 : k = i := by
              have := (List.getElem?_eq_some_iff.mp hz).1
              rw [List.length_take] at this
              omega
            subst hk2
            rw [List.getElem?_take_of_lt (by omega)] at hz
            obtain ⟨z1, z2⟩ := zip_at hz
            rw [List.getElem?_eq_getElem hi2] at z1
            rw [List.getElem?_eq_getElem hi3] at z2
            refine ⟨q1, by rw [List.getElem?_append_right (by omega), lrs, Nat.sub_self] <;> rfl, SqT.of ?_⟩
            refine hid_at ?_ ne
            rw [upd_same, ← Option.some.inj z1, ← Option.some.inj z2]
      · rintro H6 ⟨e6, rs, hrs, R⟩
        rw [en2, List.take_of_length_le (by rw [List.length_zip]; omega)] at R
        refine ⟨D2, _, rfl, .inl ⟨SqL.of hrs, fun p np => ?_⟩⟩
        have e7 := Ex.new (o := .tup rs) np
        have s6 := (s5.mono e6).mono e7
        have hl : (ps.zip gs).length = n0 + 1 := by rw [List.length_zip]; omega
        refine q p _ (ps.zip gs) ⟨by omega, by omega, fun z hz p hp => ?_, ?_⟩ ⟨rs, SqT.of upd_same, (R.mono (hid_le _ _)).mono e7⟩ ?_ ((e15.trans e6).trans e7) s6
        · exact okp z.1 (List.of_mem_zip hz).1 p hp
        · rw [for_hs rfl (by omega)]
          exact fo
        · obtain ⟨ys, h⟩ := (s5.mono e6).lst
          exact Ne.symm (ne_of_none h np)
end
end K16
set_option maxHeartbeats 4000000
/-! ### the law's goals and wishes -/
namespace K16
open PySem PySem.Spec PyProof.Rows L2 Evl
section
variable {P : Program} {w : World} {K : PySem.W.Frag} {mg : Str → Option Value} {base : Heap}
abbrev s__law_up : Stmt := K16.top 47
abbrev N__law_up : List Str := ["_law_holders", "_law_box", "_law_found", "_law_here"]
abbrev P__law_up : List Str := ["_law_holders", "_law_box"]
theorem sc__law_up : FnScope N__law_up P__law_up (C8.fnScope s__law_up) := C8.fnScope_by (by decide +kernel)
def sp__law_up (K : PySem.W.Frag) : Sp := fun vs H Q _ => ∃ (a : Addr) (hs : List (Option Nat)) (b : Nat), vs = [.ref a, nV b] ∧ SqT K H a (hs.map hV) ∧ For hs ∧ hs.length ≤ 100 ∧ b < hs.length ∧
  ∀ q H', Ex H H' → H q = none → H' q = some (.lst ((chn hs b).map nV)) → Q (.ref q) H'
theorem c__law_up {f : Addr} {fd : FuncData} (T : Gb mg) (F : C8.Def K mg "_law_up" s__law_up f fd) (b : Binds K fd P__law_up []) : C8.Cal P w K mg base 1 "_law_up" (sp__law_up K) [] := by
  refine C8.cal0 (k := 0) F b .nil sc__law_up (fun vs H Q E h => ?_) (fun cdv A outer s H vs Q E hr h => ?_)
  · obtain ⟨a, hs, b, rfl, _⟩ := h
    rfl
  · obtain ⟨a, hs, b, rfl, hS, fo, hz, hb, q⟩ := h
    have hl := for_chn_len fo b
    refine ⟨_, (pss_cons (ps_par (i := 2) (j := 3) rfl sc__law_up.nd rfl rfl (by decide) rfl rfl (pa_cons (pe_lst pa_nil) (pa_cons (pe_ix ix_tup (pv 0) (pv 1) (fun _ _ => rfl)) pa_nil)) (by rfl))
      (pss_cons (ps_while PassesOwn.never (PW.pt (pw_and (pt_cmpR op_notN (pv 3) pe_non (nomark _)) (pw_and1 (pt_cmpR op_lt (pe_callB call_len_seq (by rfl) T.n_len (by decide +kernel) (pa_cons (pv 2) pa_nil)) (pe_callB call_len_seq (by rfl) T.n_len (by decide +kernel) (pa_cons (pv 0) pa_nil)) (nomark _)))))
        (pss_cons (ps_expr (pe_bm PySem.F.plainAttrs_list PySem.F.slot_list_append PySem.F.type_list_append mt_append (pv 2) (pa_cons (pv 3) pa_nil)))
      (pss_one (ps_set (i := 3) sc__law_up.nd rfl (Or.inl rfl) (pe_ix ix_tup (pv 0) (pv 3) (fun _ _ => rfl))))))
      (pss_one (ps_ret (pv 2))))), ?_⟩
    refine ⟨lineE (Nat.zero_le _), fun L hL => ⟨_, rfl, _, rfl, a, _, _, _, rfl, rfl, ex_t (Ex.new hL) hS, at_up hb, _, _, rfl, ?_⟩⟩
    refine ⟨fun m σ H1 => ∃ (l : List Nat) (o : Option Nat), σ = [some (.ref a), some (nV b), some (.ref L), some (hV o)] ∧ Ex H H1 ∧ H1 L = some (.lst (l.map nV)) ∧ ∃ r, r.length = m ∧ Chain (up hs) o r ∧ l ++ r = chn hs b ∧ (∀ x, o = some x → x < hs.length),
      ⟨_, [], up hs b, rfl, Ex.new hL, upd_same, chn hs b, rfl, for_chn fo b, rfl, fun x hx => fo.1 b x hx⟩, ?_⟩
    rintro m σ H1 ⟨l, o, rfl, e, hl1, r, hm, hc, hlr, lo⟩
    cases hc with
    | stop =>
      refine ⟨_, rfl, rfl, false, rfl, ?_⟩
      rw [List.append_nil] at hlr
      exact ⟨_, rfl, q L H1 e hL (by rw [← hlr]; exact hl1)⟩
    | @step h r hc =>
      have hll := congrArg List.length hlr
      rw [List.length_append, List.length_cons] at hll
      refine ⟨_, rfl, rfl, true, rfl, ?_⟩
      refine ⟨_, rfl, L, _, rfl, .inl (SqL.of hl1), _, rfl, a, _, rfl, .inr (ex_t e hS), _, _, rfl, rfl, true, congrArg V.bl (decide_eq_true (by rw [List.length_map, List.length_map]; omega)), ?_⟩
      refine ⟨_, fun σ' H' z => ⟨r.length, by rw [← hm, List.length_cons]; exact Nat.lt_succ_self _, z⟩, ?_⟩
      refine ⟨_, rfl, .inl ⟨rfl, _, SqL.of hl1⟩, _, rfl, L, _, _, rfl, rfl, hl1, lineL (by rw [List.length_map]; omega), ?_⟩
      refine ⟨_, rfl, _, rfl, a, _, _, _, rfl, rfl, ex_t (Ex.mut e hL) hS, at_up (lo h rfl), ?_⟩
      refine ⟨l ++ [h], up hs h, rfl, Ex.mut e hL, by rw [upd_same, List.map_append]; rfl, r, rfl, hc, ?_, fun x hx => fo.1 h x hx⟩
      rw [List.append_assoc]
      exact hlr
theorem if_hV {σ : L2.St} {H : Hp} {Q : VK} {i h : Nat} {n : Nat} (hσ : σ[i]? = some (some (nV h))) (k : ∀ o : Option Nat, (∀ x, o = some x → x = h ∧ h ≠ n) → Q (hV o) H) : if decide (V.int (h : Int) = V.int (n : Int)) = true then tC .non σ H Q else tVar i σ H Q := by
  by_cases e : V.int (h : Int) = V.int (n : Int)
  · rw [if_pos (decide_eq_true e)]
    exact k none fun x hx => by cases hx
  · rw [if_neg (by rw [decide_eq_false e]; decide)]
    exact ⟨_, hσ, k (some h) fun x hx => ⟨(Option.some.inj hx).symm, fun z => e (by rw [z])⟩⟩
theorem fits_go {σ : L2.St} {H : Hp} {Q : VK} {p : Addr} {gs : List (Option Nat)} {b : Nat} {o : Option Nat} (h6 : σ[6]? = some (some (hV o))) (h2 : σ[2]? = some (some (nV b))) (h3 : σ[3]? = some (some (.ref p))) (hp : SqT K H p (gs.map hV)) (fo : For gs) (hz : gs.length ≤ 100) (ho : ∀ x, o = some x → x < gs.length)
    (k : ∀ H', Ex H H' → Q (.bl (!undr gs b o)) H') : tOrV (tOp rIsN (tVar 6) (tC .non)) (tAndV (tOp rNe (tVar 6) (tVar 2)) (tOp (rIn K true) (tVar 2) (tCall (sp__law_up K) [] C8.E0 (tCons (tVar 3) (tCons (tVar 6) tNil))))) σ H Q := by
  cases o with
  | none => exact ⟨_, h6, rfl, true, rfl, k H (Ex.refl H)⟩
  | some x =>
    refine ⟨_, h6, rfl, false, rfl, _, h6, _, h2, rfl, !decide (nV x = nV b), rfl, ?_⟩
    have un : undr gs b (some x) = (decide (x = b) || decide (b ∈ chn gs x)) := rfl
    by_cases e : nV x = nV b
    · rw [decide_eq_true e]
      have ex : x = b := by have := V.int.inj e; omega
      rw [un, decide_eq_true ex] at k
      exact k H (Ex.refl H)
    · rw [decide_eq_false e]
      have ex : ¬ x = b := fun z => e (by rw [z])
      rw [un, decide_eq_false ex, Bool.false_or] at k
      refine ⟨_, h2, _, h3, _, h6, p, gs, x, rfl, hp, fo, hz, ho x rfl, fun L H' e' _ hL => ⟨L, _, rfl, .inl (SqL.of hL), rfl, nVs_flat _, ?_⟩⟩
      show Q (V.bl (!inV (nV b) ((chn gs x).map nV))) H'
      rw [inV_nV]
      exact k H' e'
theorem or_go {σ : L2.St} {H : Hp} {Qb : Bool → Hp → Prop} {a : Addr} {Y : Yd} {b : Nat} {wy tu : Int} (h1 : σ[1]? = some (some (.ref a))) (h2 : σ[2]? = some (some (nV b))) (h4 : σ[4]? = some (some (.int wy))) (h5 : σ[5]? = some (some (.int tu))) (hY : YAt K H a Y) (hb : b < Y.length) (k : ∀ c, Qb c H) :
    tOr (tTest (tOp rNotN (tOp (rIxT K) (tOp (rIxT K) (tVar 1) (tVar 2)) (tC (.int 0))) (tC .non))) (tAnd (tTest (tOp rEq (tVar 4) (tC (.int 1)))) (tTest (tOp rEq (tVar 5) (tC (.int 3))))) σ H Qb := by
  obtain ⟨rs, hS, R⟩ := hY
  obtain ⟨q, hq1, hq2⟩ := rows_pr R hb
  refine ⟨_, h1, _, h2, a, rs, _, _, rfl, rfl, hS, hq1, q, _, 0, pV (pr Y b), rfl, rfl, hq2, rfl, rfl, _, rfl, ?_⟩
  cases !decide (pV (pr Y b) = V.non) with
  | true => exact k true
  | false =>
    refine ⟨_, h4, rfl, decide (V.int wy = V.int 1), rfl, ?_⟩
    cases decide (V.int wy = V.int 1) with
    | true => exact ⟨_, h5, rfl, _, rfl, k _⟩
    | false => exact k false
theorem YAt.hid {H : Hp} {a D : Addr} {ys : List V} {Y : Yd} (y : YAt K H a Y) (hD : H D = some (.lst ys)) : YAt K (K16.hid D H) a Y := let ⟨rs, h1, r⟩ := y; ⟨rs, hid_t h1 hD, r.len, fun i z h => let ⟨q, h2, h3⟩ := r.at_ i z h; ⟨q, h2, hid_t h3 hD⟩⟩
abbrev s__law_goal : Stmt := K16.top 48
abbrev N__law_goal : List Str := ["_law_state", "_law_yard_here", "_law_box", "_law_holders", "_law_way", "_law_turn", "_law_there", "_law_fits"]
abbrev P__law_goal : List Str := ["_law_state", "_law_yard_here"]
theorem sc__law_goal : FnScope N__law_goal P__law_goal (C8.fnScope s__law_goal) := C8.fnScope_by (by decide +kernel)
def sp__law_goal (K : PySem.W.Frag) : Sp := fun vs H Q _ => ∃ (st sc a : Addr) (Y : Yd), vs = [.ref st, .ref a] ∧ YAt K H a Y ∧ VY Y ∧ StAt H st sc ∧ ScAt K H st sc ∧ ∀ p H' gs, VG Y.length gs → H' p = some (.tup (gs.map hV)) → p ≠ st → Ex (hid st H) H' → StAt H' st sc → Q (.ref p) H'
theorem c__law_goal {f : Addr} {fd : FuncData} (T : Gb mg) (F : C8.Def K mg "_law_goal" s__law_goal f fd) (b : Binds K fd P__law_goal []) (c__law_drawn : C8.Cal P w K mg base 1 "_law_drawn" (sp__law_drawn K) []) (c__law_nesting : C8.Cal P w K mg base 3 "_law_nesting" (sp__law_nesting K) [])
    (c__law_up : C8.Cal P w K mg base 1 "_law_up" (sp__law_up K) []) : C8.Cal P w K mg base 4 "_law_goal" (sp__law_goal K) [] := by
  refine C8.cal0 (k := 3) F b .nil sc__law_goal (fun vs H Q E h => ?_) (fun cdv A outer s H vs Q E hr h => ?_)
  · obtain ⟨st, sc, a, Y, rfl, _⟩ := h
    rfl
  · obtain ⟨st, sc, a, Y, rfl, hY, ok, hst, hsc, q⟩ := h
    have hle := ok.le
    have hne := ok.ne
    obtain ⟨ys0, hst0⟩ := hst.lst
    have hYh := hY.hid hst0
    refine ⟨_, (pss_cons (ps_par (i := 3) (j := 4) rfl sc__law_goal.nd rfl rfl (by decide) rfl rfl (pa_cons (pe_callTy call_tuple_of (by rfl) T.n_tuple (by decide +kernel) (pa_cons (pe_lc (own := [("_law_box", 2)]) (g := (gName 2)) (tt := tYes) (te := (tOp (rIxT K) (tVar 2) (tC (.int 1)))) rfl sc__law_goal.nd (pi_tup (pv 1)) (blkOk_by (own := [("_law_box", 2)]) (N := N__law_goal) (sc := C8.fnScope s__law_goal) (by decide +kernel)) (fun _ _ _ _ _ => by exact (pg_name (i := 2) sc__law_goal.nd rfl (Or.inl rfl))) (fun _ _ _ _ _ => by exact pts_nil) (fun _ _ _ _ _ => by exact (pe_ix ix_tup (pv 2) pe_int (fun _ _ => rfl)))) pa_nil)) (pa_cons (C8.pe_c c__law_drawn hr (by decide) rfl (pa_cons (pv 0) (pa_cons pe_int pa_nil))) pa_nil)) (by rfl))
      (pss_cons (ps_if (pt_cmpR op_eq (pv 4) pe_int (nomark _)) (pss_one (ps_ret (C8.pe_c c__law_nesting hr (by decide) rfl (pa_cons (pv 0) (pa_cons (pe_callB call_len_seq (by rfl) T.n_len (by decide +kernel) (pa_cons (pv 1) pa_nil)) pa_nil))))) pss_nil)
      (pss_cons (ps_for PassesOwn.never rfl (pi_range1 (by rfl) T.n_range (pa_cons (C8.pe_c c__law_drawn hr (by decide) rfl (pa_cons (pv 0) (pa_cons (pe_op op_add (pe_op op_mul pe_int (pe_callB call_len_seq (by rfl) T.n_len (by decide +kernel) (pa_cons (pv 1) pa_nil))) pe_int) pa_nil))) pa_nil)) (pg_name (i := 5) sc__law_goal.nd rfl (Or.inl rfl))
        (pss_cons (ps_par (i := 2) (j := 6) rfl sc__law_goal.nd rfl rfl (by decide) rfl rfl (pa_cons (C8.pe_c c__law_drawn hr (by decide) rfl (pa_cons (pv 0) (pa_cons (pe_callB call_len_seq (by rfl) T.n_len (by decide +kernel) (pa_cons (pv 1) pa_nil)) pa_nil))) (pa_cons (C8.pe_c c__law_drawn hr (by decide) rfl (pa_cons (pv 0) (pa_cons (pe_op op_add (pe_callB call_len_seq (by rfl) T.n_len (by decide +kernel) (pa_cons (pv 1) pa_nil)) pe_int) pa_nil))) pa_nil)) (by rfl))
      (pss_cons (ps_set (i := 6) sc__law_goal.nd rfl (Or.inl rfl) (pe_ifExp (pt_cmpR op_eq (pv 6) (pe_callB call_len_seq (by rfl) T.n_len (by decide +kernel) (pa_cons (pv 1) pa_nil)) (nomark _)) pe_non (pv 6)))
      (pss_cons (ps_set (i := 7) sc__law_goal.nd rfl (Or.inl rfl) (pe_or (pe_cmpR op_isN (pv 6) pe_non (nomark _)) (pe_one (pe_and (pe_cmpR op_ne (pv 6) (pv 2) (nomark _)) (pe_one (pe_cmpR op_notIn_seq (pv 2) (C8.pe_c c__law_up hr (by decide) rfl (pa_cons (pv 3) (pa_cons (pv 6) pa_nil))) (by with_unfolding_all rfl)))))))
      (pss_one (ps_if (PW.pt (pw_and (pt_val (pv 7)) (pw_and1 (PW.pt (pw_or (pt_cmpR op_notN (pe_ix ix_tup (pe_ix ix_tup (pv 1) (pv 2) (fun _ _ => rfl)) pe_int (fun _ _ => rfl)) pe_non (nomark _)) (pw_or1 (PW.pt (pw_and (pt_cmpR op_eq (pv 4) pe_int (nomark _)) (pw_and1 (pt_cmpR op_eq (pv 5) pe_int (nomark _))))))))))) (pss_one (ps_set (i := 3) sc__law_goal.nd rfl (Or.inl rfl) (pe_op op_catA (pe_op op_catA (pe_slice sl_tupA (pv 3) po_none (po_some (pv 2))) (pe_tup (pa_cons (pv 6) pa_nil))) (pe_slice sl_tupA (pv 3) (po_some (pe_op op_add (pv 2) pe_int)) po_none)))) pss_nil))))))
      (pss_one (ps_ret (pv 3)))))), ?_⟩
    obtain ⟨rs, hS, R⟩ := id hY
    refine ⟨_, rfl, a, rfl, ⟨_, hS⟩, fun D nD => lc_tup (K := K) (a := a) (xs := rs) (fun i H1 => Ex H H1 ∧ H1 D = some (.lst (((hsOf Y).take i).map hV))) ⟨Ex.new nD, upd_same⟩ (fun i H1 _ p => ex_t p.1 hS) ?_ ?_⟩
    · rintro i x H1 hx ⟨e, hl⟩
      obtain ⟨z, p, hz1, rfl, hp⟩ := R.get hx
      have hi := (List.getElem?_eq_some_iff.mp hz1).1
      refine ⟨rfl, _, rfl, p, _, 1, hV z.2, rfl, rfl, ex_t e hp, rfl, _, hl, lineL (by rw [List.length_map, List.length_take, hsOf_len]; omega), Ex.mut e nD, ?_⟩
      rw [upd_same, take_more (show (hsOf Y)[i]? = some z.2 by unfold hsOf; rw [List.getElem?_map, hz1] <;> rfl)]
    · rintro H1 ⟨e1, hl⟩
      rw [R.len, ← hsOf_len, List.take_length] at hl
      refine ⟨D, _, rfl, .inl ⟨SqL.of hl, fun p np => ?_⟩⟩
      have e2 := e1.trans (Ex.new (o := .tup ((hsOf Y).map hV)) np)
      have e2h := (hid_le st H).trans e2
      refine ⟨_, rfl, st, sc, 4, rfl, by decide, by decide, hst.mono e2, hsc.mono e2h, fun wy H3 w0 w1 e3 s3 => ⟨_, _, rfl, ?_⟩⟩
      have neP : p ≠ st := by
        obtain ⟨ys, h⟩ := (hst.mono e1).lst
        exact Ne.symm (ne_of_none h np)
      have hp3 : H3 p = some (.tup ((hsOf Y).map hV)) := e3 _ _ (hid_at upd_same neP)
      have e03 := hid_go e2h e3
      have rl := R.len
      refine ⟨_, rfl, rfl, decide (V.int wy = V.int 0), rfl, ?_⟩
      by_cases hw : V.int wy = V.int 0
      · rw [decide_eq_true hw]
        obtain ⟨rs4, hS4, R4⟩ := hYh.mono e03
        have rl4 := R4.len
        refine ⟨_, rfl, _, rfl, a, _, rfl, .inr hS4, st, sc, rs4.length, rfl, by omega, by omega, s3, hsc.mono e03, fun p5 H5 gs lg fo e5 s5 hp5 => ?_⟩
        refine q p5 H5 gs ⟨by omega, fo⟩ hp5 ?_ (hid_go e03 e5) s5
        obtain ⟨ys, h⟩ := s5.lst
        exact ne_of hp5 h (by intro z; cases z)
      · rw [decide_eq_false hw]
        obtain ⟨rs4, hS4, R4⟩ := hYh.mono e03
        have rl4 := R4.len
        refine ⟨_, rfl, _, rfl, a, _, rfl, .inr hS4, _, _, rfl, rfl, .inl ⟨by decide, by decide⟩, _, _, rfl, rfl, st, sc, _, rfl, by omega, by omega, s3, hsc.mono e03, fun tu H5 t0 t1 e5 s5 => ⟨tu, rfl, by omega, by omega, ?_⟩⟩
        have hp5 : H5 p = some (.tup ((hsOf Y).map hV)) := e5 _ _ (hid_at hp3 neP)
        refine for_range (lo := 0) (n := tu.toNat) (fun i σ H6 => ∃ (p : Addr) (gs : List (Option Nat)) (v2 v5 v6 v7 : Option V), σ = [some (.ref st), some (.ref a), v2, some (.ref p), some (.int wy), v5, v6, v7] ∧ Ex (hid st H) H6 ∧ StAt H6 st sc ∧ H6 p = some (.tup (gs.map hV)) ∧ VG Y.length gs) ?_ ?_ ?_
        · exact ⟨p, hsOf Y, none, none, none, none, rfl, hid_go e03 e5, s5, hp5, hsOf_len Y, ok.fo⟩
        · rintro i σ H6 hi ⟨p, gs, v2, v5, v6, v7, rfl, e6, s6, hp6, og⟩
          have neP6 : p ≠ st := by
            obtain ⟨ys, h⟩ := s6.lst
            exact ne_of hp6 h (by intro z; cases z)
          obtain ⟨rs6, hS6, R6⟩ := hYh.mono e6
          have rl6 := R6.len
          refine ⟨_, rfl, _, rfl, a, _, rfl, .inr hS6, st, sc, _, rfl, by omega, by omega, s6, hsc.mono e6, fun bx H7 b0 b1 e7 s7 => ?_⟩
          have e07 := hid_go e6 e7
          obtain ⟨rs7, hS7, R7⟩ := hYh.mono e07
          have rl7 := R7.len
          refine ⟨_, rfl, _, rfl, a, _, rfl, .inr hS7, _, _, rfl, rfl, st, sc, _, rfl, by omega, by omega, s7, hsc.mono e07, fun th H8 h0 h1 e8 s8 => ⟨_, _, rfl, ?_⟩⟩
          have e08 := hid_go e07 e8
          obtain ⟨rs8, hS8, R8⟩ := hYh.mono e08
          have rl8 := R8.len
          have hp8 : H8 p = some (.tup (gs.map hV)) := e8 _ _ (hid_at (e7 _ _ (hid_at hp6 neP6)) neP6)
          obtain ⟨b, rfl⟩ := Int.eq_ofNat_of_zero_le b0
          obtain ⟨h, rfl⟩ := Int.eq_ofNat_of_zero_le h0
          have hb : b < Y.length := by omega
          refine ⟨_, rfl, _, rfl, a, _, rfl, .inr hS8, rfl, decide (V.int (h : Int) = V.int (rs8.length : Int)), rfl, if_hV rfl fun o ho => ?_⟩
          have ho2 : ∀ x, o = some x → x < gs.length := fun x hx => by
            obtain ⟨h1, h2⟩ := ho x hx
            rw [og.len]
            omega
          refine fits_go rfl rfl rfl (SqT.of hp8) og.fo (by rw [og.len]; omega) ho2 fun H9 e9 => ?_
          have s9 := s8.mono e9
          have e09 := e08.trans e9
          have hp9 := e9 _ _ hp8
          refine ⟨_, rfl, !undr gs b o, rfl, ?_⟩
          have stay : ∃ (p' : Addr) (gs' : List (Option Nat)) (v2 v5 v6 v7 : Option V), [some (.ref st), some (.ref a), some (nV b), some (.ref p), some (.int wy), some (.int (0 + (i : Int))), some (hV o), some (.bl (!undr gs b o))] = [some (.ref st), some (.ref a), v2, some (.ref p'), some (.int wy), v5, v6, v7] ∧ Ex (hid st H) H9 ∧ StAt H9 st sc ∧ H9 p' = some (.tup (gs'.map hV)) ∧ VG Y.length gs' := ⟨p, gs, _, _, _, _, rfl, e09, s9, hp9, og⟩
          cases hu : undr gs b o with
          | true =>
            rw [hu] at stay
            exact stay
          | false =>
            rw [hu] at stay
            refine or_go rfl rfl rfl rfl (hYh.mono e09) hb fun c => ?_
            cases c with
            | false => exact stay
            | true =>
              have hbg : b < gs.length := by rw [og.len]; exact hb
              have hl : (gs.map hV).length = gs.length := List.length_map _
              have hz := og.len
              refine ⟨_, rfl, _, rfl, b, rfl, sl_go (SqT.of hp9) ?_ fun p1 hp1 => ?_⟩
              · rw [HT.sIx_nat, hl]
                omega
              refine ⟨_, rfl, lineE (by show 1 ≤ 1000; decide), fun p2 hp2 => ?_⟩
              rw [cut_to _ _ (by rw [hl]; omega)]
              have n12 : p1 ≠ p2 := ne_of_none (upd_same (H := H9) (a := p1) (o := .tup ((gs.map hV).take b))) (by rw [← cut_to (gs.map hV) b (by rw [hl]; omega)]; exact hp2)
              rw [cut_to _ _ (by rw [hl]; omega)] at hp2
              refine cat_go (xs := (gs.map hV).take b) (ys := [hV o]) (by rw [upd_ne n12, upd_same]) upd_same (by rw [List.length_take]; simp; omega) fun p3 H3' e3' h3 => ?_
              have e93 : Ex H9 H3' := (Ex.new hp1).trans ((Ex.new hp2).trans e3')
              refine ⟨_, rfl, _, rfl, b, 1, rfl, rfl, _, rfl, ?_⟩
              dsimp only [tNoPart]
              refine sl_go (SqT.of (e93 _ _ hp9)) ?_ fun p4 hp4 => ?_
              · have : ((b : Int) + 1) = ((b + 1 : Nat) : Int) := by omega
                rw [this, HT.sIx_nat, hl]
                omega
              have eb : ((b : Int) + 1) = ((b + 1 : Nat) : Int) := by omega
              rw [eb, cut_fr _ _ (by rw [hl]; omega)]
              have hp5' : H3' p4 = none := hp4
              have n34 : p3 ≠ p4 := ne_of_none h3 hp5'
              refine cat_go (xs := (gs.map hV).take b ++ [hV o]) (ys := (gs.map hV).drop (b + 1)) (by rw [upd_ne n34]; exact h3) upd_same ?_ fun p5 H5' e5' h5 => ?_
              · rw [List.length_append, List.length_take, List.length_drop, hl]
                simp
                omega
              have e95 : Ex H9 H5' := e93.trans ((Ex.new hp5').trans e5')
              refine ⟨p5, gs.set b o, _, _, _, _, rfl, e09.trans e95, s9.mono e95, by rw [h5, set_split o hbg], by rw [List.length_set]; exact og.len, for_set og.fo hbg ho2 hu⟩
        · rintro σ H6 ⟨p, gs, v2, v5, v6, v7, rfl, e6, s6, hp6, og⟩
          refine ⟨_, rfl, q p H6 gs og hp6 ?_ e6 s6⟩
          obtain ⟨ys, h⟩ := s6.lst
          exact ne_of hp6 h (by intro z; cases z)
abbrev s__law_wish : Stmt := K16.top 49
abbrev N__law_wish : List Str := ["_law_state", "_law_yard_here", "_law_found", "_law_rare", "_law_goal_here", "_law_many", "_law_k", "_law_there", "_law_some"]
abbrev P__law_wish : List Str := ["_law_state", "_law_yard_here"]
theorem sc__law_wish : FnScope N__law_wish P__law_wish (C8.fnScope s__law_wish) := C8.fnScope_by (by decide +kernel)
def sp__law_wish (K : PySem.W.Frag) : Sp := fun vs H Q _ => ∃ (st sc a : Addr) (Y : Yd), vs = [.ref st, .ref a] ∧ YAt K H a Y ∧ VY Y ∧ StAt H st sc ∧ ScAt K H st sc ∧ ∀ p H' W, VW Y.length W → H' p = some (.tup (W.map wV)) → p ≠ st → Ex (hid st H) H' → StAt H' st sc → Q (.ref p) H'
theorem c__law_wish {f : Addr} {fd : FuncData} (T : Gb mg) (F : C8.Def K mg "_law_wish" s__law_wish f fd) (b : Binds K fd P__law_wish []) (c__law_drawn : C8.Cal P w K mg base 1 "_law_drawn" (sp__law_drawn K) []) (c__law_goal : C8.Cal P w K mg base 4 "_law_goal" (sp__law_goal K) []) :
    C8.Cal P w K mg base 5 "_law_wish" (sp__law_wish K) [] := by
  refine C8.cal0 (k := 4) F b .nil sc__law_wish (fun vs H Q E h => ?_) (fun cdv A outer s H vs Q E hr h => ?_)
  · obtain ⟨st, sc, a, Y, rfl, _⟩ := h
    rfl
  · obtain ⟨st, sc, a, Y, rfl, hY, ok, hst, hsc, q⟩ := h
    have hle := ok.le
    have hne := ok.ne
    obtain ⟨ys0, hst0⟩ := hst.lst
    have hYh := hY.hid hst0
    refine ⟨_, (pss_cons (ps_par (i := 2) (j := 3) rfl sc__law_wish.nd rfl rfl (by decide) rfl rfl (pa_cons (pe_lst pa_nil) (pa_cons (pe_op op_add pe_int (C8.pe_c c__law_drawn hr (by decide) rfl (pa_cons (pv 0) (pa_cons pe_int pa_nil)))) pa_nil)) (by rfl))
      (pss_cons (ps_par (i := 4) (j := 5) rfl sc__law_wish.nd rfl rfl (by decide) rfl rfl (pa_cons (C8.pe_c c__law_goal hr (by decide) rfl (pa_cons (pv 0) (pa_cons (pv 1) pa_nil))) (pa_cons (pe_callB call_len_seq (by rfl) T.n_len (by decide +kernel) (pa_cons (pv 1) pa_nil)) pa_nil)) (by rfl))
      (pss_cons (ps_for PassesOwn.never rfl (pi_range1 (by rfl) T.n_range (pa_cons (pv 5) pa_nil)) (pg_name (i := 6) sc__law_wish.nd rfl (Or.inl rfl))
        (pss_cons (ps_set (i := 7) sc__law_wish.nd rfl (Or.inl rfl) (C8.pe_c c__law_drawn hr (by decide) rfl (pa_cons (pv 0) (pa_cons (pe_op op_add (pv 5) pe_int) pa_nil))))
      (pss_cons (ps_set (i := 8) sc__law_wish.nd rfl (Or.inl rfl) (pe_lst (pa_cons pe_str (pa_cons (pe_ix ix_tup (pv 4) (pv 6) (fun _ _ => rfl)) (pa_cons (pe_ifExp (pt_cmpR op_eq (pv 7) (pv 5) (nomark _)) pe_non (pv 7)) (pa_cons pe_str pa_nil))))))
      (pss_one (ps_expr (pe_bm PySem.F.plainAttrs_list PySem.F.slot_list_append PySem.F.type_list_append mt_append (pv 2) (pa_cons (pe_ix ix_list (pv 8) (pe_callB (call_min2 rfl) (by rfl) T.n_min (by decide +kernel) (pa_cons (pv 3) (pa_cons (C8.pe_c c__law_drawn hr (by decide) rfl (pa_cons (pv 0) (pa_cons pe_int pa_nil))) pa_nil))) (fun _ _ => rfl)) pa_nil)))))))
      (pss_one (ps_ret (pe_callTy call_tuple_of (by rfl) T.n_tuple (by decide +kernel) (pa_cons (pv 2) pa_nil))))))), ?_⟩
    refine ⟨lineE (Nat.zero_le _), fun L nL => ⟨_, rfl, st, sc, 3, rfl, by decide, by decide, hst.mono (Ex.new nL), hsc.mono ((hid_le st H).trans (Ex.new nL)), fun x H1 x0 x1 e1 s1 => ⟨_, _, rfl, rfl, _, _, rfl, ?_⟩⟩⟩
    have neL : L ≠ st := Ne.symm (ne_of_none hst0 nL)
    have e01 := hid_go ((hid_le st H).trans (Ex.new (o := .lst []) nL)) e1
    have hL1 : H1 L = some (.lst []) := e1 _ _ (hid_at upd_same neL)
    refine ⟨_, rfl, _, rfl, st, sc, a, Y, rfl, (hYh.mono e01), ok, s1, hsc.mono e01, fun g H2 gs og hg neg e2 s2 => ?_⟩
    have e02 := hid_go e01 e2
    have hL2 : H2 L = some (.lst []) := e2 _ _ (hid_at hL1 neL)
    obtain ⟨rs2, hS2, R2⟩ := hYh.mono e02
    have rl2 := R2.len
    refine ⟨_, rfl, a, _, rfl, .inr hS2, _, _, rfl, ?_⟩
    refine ⟨_, rfl, _, rfl, by omega, by omega, ?_⟩
    refine for_range (lo := 0) (n := ((rs2.length : Nat) : Int).toNat) (fun i σ H3 => ∃ (W : List (Option (Option Nat))) (v6 v7 v8 : Option V), σ = [some (.ref st), some (.ref a), some (.ref L), some (.int (2 + x)), some (.ref g), some (.int (rs2.length : Nat)), v6, v7, v8] ∧ (Ex (hid st H) H3 ∧ H3 g = some (.tup (gs.map hV))) ∧ StAt H3 st sc ∧ H3 L = some (.lst (W.map wV)) ∧ W.length = i ∧ ∀ x ∈ W, ∀ h, x = some (some h) → h < Y.length) ?_ ?_ ?_
    · exact ⟨[], none, none, none, rfl, ⟨e02, hg⟩, s2, hL2, rfl, fun x hx => absurd hx (by simp)⟩
    · rintro i σ H3 hi ⟨W, v6, v7, v8, rfl, ⟨e03, hg3⟩, s3, hL3, lW, okW⟩
      have e0 : ((0 : Int) + (i : Int)) = (i : Int) := Int.zero_add _
      rw [e0]
      have hi2 : i < Y.length := by omega
      have hig : i < gs.length := by rw [og.len]; exact hi2
      refine ⟨_, rfl, _, rfl, _, _, rfl, rfl, st, sc, _, rfl, by omega, by omega, s3, hsc.mono e03, fun th H4 h0 h1 e4 s4 => ?_⟩
      obtain ⟨h, rfl⟩ := Int.eq_ofNat_of_zero_le h0
      have hg4 : H4 g = some (.tup (gs.map hV)) := e4 _ _ (hid_at hg3 neg)
      have hL4 : H4 L = some (.lst (W.map wV)) := e4 _ _ (hid_at hL3 neL)
      refine ⟨_, rfl, _, rfl, g, _, _, _, rfl, rfl, SqT.of hg4, at_up hig, _, rfl, _, rfl, rfl, decide (V.int (h : Int) = V.int (rs2.length : Int)), rfl, if_hV rfl fun o ho => ?_⟩
      have ho2 : ∀ x, o = some x → x < Y.length := fun x hx => by
        obtain ⟨h1, h2⟩ := ho x hx
        omega
      refine ⟨lineE (by show 4 ≤ 1000; decide), fun S nS => ?_⟩
      have e5 := Ex.new (o := .lst [V.str "open", hV (up gs i), hV o, V.str "open"]) nS
      have neS : S ≠ st := by
        obtain ⟨ys, h⟩ := s4.lst
        exact Ne.symm (ne_of_none h nS)
      have s5 := s4.mono e5
      have e05 := (hid_go e03 e4).trans e5
      refine ⟨_, rfl, .inl ⟨rfl, _, SqL.of (e5 _ _ hL4)⟩, _, rfl, _, rfl, _, rfl, st, sc, 4, rfl, by decide, by decide, s5, hsc.mono e05, fun z H6 z0 z1 e6 s6 => ⟨_, _, rfl, ?_⟩⟩
      have hS6 : H6 S = some (.lst [V.str "open", hV (up gs i), hV o, V.str "open"]) := e6 _ _ (hid_at upd_same neS)
      have hL6 : H6 L = some (.lst (W.map wV)) := e6 _ _ (hid_at (e5 _ _ hL4) neL)
      obtain ⟨u, hu, hu2⟩ : ∃ u, atI [V.str "open", hV (up gs i), hV o, V.str "open"] (if z < 2 + x then z else 2 + x) = some (wV u) ∧ ∀ h, u = some (some h) → h < Y.length := by
        generalize hm : (if z < 2 + x then z else 2 + x) = mn
        have m0 : 0 ≤ mn ∧ mn < 4 := by rw [← hm]; split <;> omega
        obtain ⟨k, rfl⟩ := Int.eq_ofNat_of_zero_le m0.1
        have hk : k = 0 ∨ k = 1 ∨ k = 2 ∨ k = 3 := by omega
        rcases hk with rfl | rfl | rfl | rfl
        · exact ⟨none, rfl, fun h e => by cases e⟩
        · exact ⟨some (up gs i), rfl, fun h e => by rw [← og.len]; exact og.fo.1 i h (Option.some.inj e)⟩
        · exact ⟨some o, rfl, fun h e => ho2 h (Option.some.inj e)⟩
        · exact ⟨none, rfl, fun h e => by cases e⟩
      refine ⟨S, _, _, _, rfl, rfl, SqL.of hS6, hu, L, _, _, rfl, rfl, hL6, lineL (by rw [List.length_map]; omega), ?_⟩
      have ngL : g ≠ L := ne_of hg hL2 (by intro z; cases z)
      refine ⟨W ++ [u], _, _, _, rfl, ⟨(hid_go e05 e6).mut (by unfold hid; rw [if_neg neL]; exact nL), by rw [upd_ne ngL]; exact e6 _ _ (hid_at (e5 _ _ hg4) neg)⟩, s6.upd neL, by rw [upd_same, List.map_append] <;> rfl, by rw [List.length_append, List.length_singleton, lW], fun y hy h e => ?_⟩
      rcases List.mem_append.mp hy with hy | hy
      · exact okW y hy h e
      · rw [List.mem_singleton.mp hy] at e
        exact hu2 h e
    · rintro σ H3 ⟨W, v6, v7, v8, rfl, ⟨e03, hg3⟩, s3, hL3, lW, okW⟩
      refine ⟨_, rfl, L, _, rfl, .inl ⟨SqL.of hL3, fun p np => ?_⟩⟩
      refine q p _ W ⟨by rw [lW]; omega, okW⟩ upd_same ?_ (e03.trans (Ex.new np)) (s3.mono (Ex.new np))
      obtain ⟨ys, h⟩ := s3.lst
      exact Ne.symm (ne_of_none h np)
end
end K16
set_option maxHeartbeats 4000000
/-! ### the law's renaming and costs -/
namespace K16
open PySem PySem.Spec PyProof.Rows L2 LamX Evl
/-- an entry under the new names -/
def rn (N : List Nat) : Option (Option Nat) → Option (Option Nat)
  | none => none
  | some none => some none
  | some (some h) => some (some (N.getD h 0))
/-- row by row under the new names -/
def Mvd (N : List Nat) (W W' : List (Option (Option Nat))) : Prop := W'.length = W.length ∧ ∀ k x, W[k]? = some x → W'[N.getD k 0]? = some (rn N x)
theorem wV_in (x : Option (Option Nat)) : inV (wV x) [V.non, V.str "open"] = (match x with | some (some _) => false | _ => true) := by
  cases x with
  | none => rfl
  | some o => cases o <;> rfl
theorem wV_flat (x : Option (Option Nat)) : flatV (wV x) = true := by
  cases x with
  | none => rfl
  | some o => cases o <;> rfl
theorem rep_w : ∀ n : Nat, (List.replicate n [V.non]).flatten = (List.replicate n (some (none : Option Nat))).map wV
  | 0 => rfl
  | n + 1 => by
    rw [List.replicate_succ, List.replicate_succ, List.flatten_cons, List.map_cons, rep_w n] <;> rfl
theorem getD_at {N : List Nat} {k : Nat} (h : k < N.length) : N.getD k 0 = N[k] := by
  rw [List.getD_eq_getElem?_getD, List.getElem?_eq_getElem h] <;> rfl
theorem names_at {N : List Nat} {k : Nat} (h : k < N.length) : atI (N.map nV) (k : Int) = some (nV (N.getD k 0)) := by
  rw [getD_at h]
  exact atI_nat (by simp [h])
theorem wv_hV (gs : List (Option Nat)) : (gs.map some).map wV = gs.map hV := by
  rw [List.map_map] <;> rfl
section
variable {P : Program} {w : World} {K : PySem.W.Frag} {mg : Str → Option Value} {base : Heap}
abbrev s__law_moved : Stmt := K16.top 53
abbrev N__law_moved : List Str := ["_law_row", "_law_names", "_law_found", "_law_k"]
abbrev P__law_moved : List Str := ["_law_row", "_law_names"]
theorem sc__law_moved : FnScope N__law_moved P__law_moved (C8.fnScope s__law_moved) := C8.fnScope_by (by decide +kernel)
def sp__law_moved (K : PySem.W.Frag) : Sp := fun vs H Q _ => ∃ (a D : Addr) (W : List (Option (Option Nat))) (N : List Nat), vs = [.ref a, .ref D] ∧ SqT K H a (W.map wV) ∧ SqL K H D (N.map nV) ∧ N.Perm (List.range W.length) ∧ VW W.length W ∧ W.length ≤ 100 ∧ ∀ p H' W', Mvd N W W' → Ex H H' → H p = none → H' p = some (.tup (W'.map wV)) → Q (.ref p) H'
theorem c__law_moved {f : Addr} {fd : FuncData} (T : Gb mg) (F : C8.Def K mg "_law_moved" s__law_moved f fd) (b : Binds K fd P__law_moved []) : C8.Cal P w K mg base 1 "_law_moved" (sp__law_moved K) [] := by
  refine C8.cal0 (k := 0) F b .nil sc__law_moved (fun vs H Q E h => ?_) (fun cdv A outer s H vs Q E hr h => ?_)
  · obtain ⟨a, D, W, N, rfl, _⟩ := h
    rfl
  · obtain ⟨a, D, W, N, rfl, hW, hN, pm, ow, hz, q⟩ := h
    obtain ⟨lN, nd, ltN⟩ := perm_range pm
    refine ⟨_, (pss_cons (ps_set (i := 2) sc__law_moved.nd rfl (Or.inl rfl) (pe_op op_rep (pe_lst (pa_cons pe_non pa_nil)) (pe_callB call_len_seq (by rfl) T.n_len (by decide +kernel) (pa_cons (pv 0) pa_nil))))
      (pss_cons (ps_for PassesOwn.never rfl (pi_range1 (by rfl) T.n_range (pa_cons (pe_callB call_len_seq (by rfl) T.n_len (by decide +kernel) (pa_cons (pv 0) pa_nil)) pa_nil)) (pg_name (i := 3) sc__law_moved.nd rfl (Or.inl rfl))
        (pss_one (ps_asg (pe_ifExp (pt_cmpR op_in_seq (pe_ix ix_tup (pv 0) (pv 3) (fun _ _ => rfl)) (pe_tup (pa_cons pe_non (pa_cons pe_str pa_nil))) (by with_unfolding_all rfl)) (pe_ix ix_tup (pv 0) (pv 3) (fun _ _ => rfl)) (pe_ix ix_list (pv 1) (pe_ix ix_tup (pv 0) (pv 3) (fun _ _ => rfl)) (fun _ _ => rfl))) (pg_sub (pv 2) (pe_ix ix_list (pv 1) (pv 3) (fun _ _ => rfl)) set_list))))
      (pss_one (ps_ret (pe_callTy call_tuple_of (by rfl) T.n_tuple (by decide +kernel) (pa_cons (pv 2) pa_nil)))))), ?_⟩
    refine ⟨lineE (by show 1 ≤ 1000; decide), fun u nu => ⟨_, rfl, a, _, rfl, .inr (ex_t (Ex.new nu) hW), u, _, [.non], rfl, rfl, upd_same, by omega, by rw [List.length_map]; omega, lineE (by rw [List.length_map]; show 1 * _ ≤ 1000; omega), fun F0 nF => ?_⟩⟩
    have e1 := (Ex.new (o := .lst [.non]) nu).trans (Ex.new (o := .lst (List.replicate (((W.map wV).length : Nat) : Int).toNat [V.non]).flatten) nF)
    have hF : upd (upd H u (.lst [.non])) F0 (.lst (List.replicate (((W.map wV).length : Nat) : Int).toNat [V.non]).flatten) F0 = some (.lst ((List.replicate W.length (some (none : Option Nat))).map wV)) := by
      rw [upd_same, show (((W.map wV).length : Nat) : Int).toNat = W.length by rw [List.length_map]; omega, rep_w]
    have nF0 : H F0 = none := fresh_back (Ex.new nu) nF
    refine ⟨_, rfl, a, _, rfl, .inr (ex_t e1 hW), _, rfl, by omega, by rw [List.length_map]; omega, ?_⟩
    have en : (((W.map wV).length : Nat) : Int).toNat = W.length := by rw [List.length_map]; omega
    refine for_range (lo := 0) (n := (((W.map wV).length : Nat) : Int).toNat) (fun i σ H1 => ∃ (U : List (Option (Option Nat))) (v : Option V), σ = [some (.ref a), some (.ref D), some (.ref F0), v] ∧ Ex H H1 ∧ H1 F0 = some (.lst (U.map wV)) ∧ U.length = W.length ∧ ∀ k x, k < i → W[k]? = some x → U[N.getD k 0]? = some (rn N x)) ?_ ?_ ?_
    · exact ⟨_, none, rfl, e1, hF, List.length_replicate, fun k x h => absurd h (Nat.not_lt_zero _)⟩
    · rintro i σ H1 hi ⟨U, v, rfl, e2, hU, lU, okU⟩
      have e0 : ((0 : Int) + (i : Int)) = (i : Int) := Int.zero_add _
      rw [e0]
      have hiW : i < W.length := by omega
      have hiN : i < N.length := by omega
      have hxi : (W.map wV)[i]? = some (wV W[i]) := by simp [hiW]
      have ltU : N.getD i 0 < U.length := by rw [getD_at hiN, lU]; exact ltN _ (List.getElem_mem hiN)
      have fin : ∀ H2, Ex H1 H2 → ∃ (U' : List (Option (Option Nat))) (v : Option V), [some (.ref a), some (.ref D), some (.ref F0), some (.int (i : Int))] = [some (.ref a), some (.ref D), some (.ref F0), v] ∧ Ex H (upd H2 F0 (.lst ((U.map wV).set (N.getD i 0) (wV (rn N W[i]))))) ∧ upd H2 F0 (.lst ((U.map wV).set (N.getD i 0) (wV (rn N W[i])))) F0 = some (.lst (U'.map wV)) ∧ U'.length = W.length ∧ ∀ k x, k < i + 1 → W[k]? = some x → U'[N.getD k 0]? = some (rn N x) := fun H2 e3 => by
        refine ⟨U.set (N.getD i 0) (rn N W[i]), _, rfl, (e2.trans e3).mut nF0, by rw [upd_same, List.map_set], by rw [List.length_set]; exact lU, fun k x hk hx => ?_⟩
        have hkW := (List.getElem?_eq_some_iff.mp hx).1
        by_cases hki : k = i
        · subst hki
          rw [List.getElem?_set_self ltU]
          rw [List.getElem?_eq_getElem hkW] at hx
          rw [Option.some.inj hx]
        · have hkN : k < N.length := by omega
          rw [List.getElem?_set_ne (fun z => hki (by
            rw [getD_at hiN, getD_at hkN] at z
            exact ((List.getElem_inj nd).mp z).symm))]
          exact okU k x (by omega) hx
      have e3 := fun (T : Addr) (nT : H1 T = none) => Ex.new (o := .tup [V.non, V.str "open"]) nT
      have last : ∀ H2, Ex H1 H2 → gSub (tVar 2) (tOp (rIxL K) (tVar 1) (tVar 3)) rSetL (wV (rn N W[i])) [some (.ref a), some (.ref D), some (.ref F0), some (.int (i : Int))] H2 fun σ' H' => ∃ (U' : List (Option (Option Nat))) (v : Option V), σ' = [some (.ref a), some (.ref D), some (.ref F0), v] ∧ Ex H H' ∧ H' F0 = some (.lst (U'.map wV)) ∧ U'.length = W.length ∧ ∀ k x, k < i + 1 → W[k]? = some x → U'[N.getD k 0]? = some (rn N x) := fun H2 e4 =>
        ⟨_, rfl, _, rfl, _, rfl, D, _, _, _, rfl, rfl, ex_l (e2.trans e4) hN, names_at hiN, F0, _, _, N.getD i 0, rfl, rfl, e4 _ _ hU, ixN_nat (by rw [List.length_map]; exact ltU), fin H2 e4⟩
      refine ⟨_, rfl, _, rfl, a, _, _, _, rfl, rfl, ex_t e2 hW, atI_nat hxi, lineE (by show 2 ≤ 1000; decide), fun T nT => ⟨T, _, rfl, .inr (SqT.of upd_same), wV_flat _, rfl, _, congrArg V.bl (wV_in W[i]), ?_⟩⟩
      have e4 := e3 T nT
      have hm := List.getElem_mem hiW
      cases hc : W[i] with
      | none =>
        refine ⟨_, rfl, _, rfl, a, _, _, _, rfl, rfl, ex_t (e2.trans e4) hW, atI_nat hxi, ?_⟩
        rw [hc] at last ⊢
        exact last _ e4
      | some o =>
        cases o with
        | none =>
          refine ⟨_, rfl, _, rfl, a, _, _, _, rfl, rfl, ex_t (e2.trans e4) hW, atI_nat hxi, ?_⟩
          rw [hc] at last ⊢
          exact last _ e4
        | some h =>
          have hh : h < N.length := by rw [lN]; exact ow.lt _ hm h hc
          refine ⟨_, rfl, _, rfl, _, rfl, a, _, _, _, rfl, rfl, ex_t (e2.trans e4) hW, atI_nat hxi, D, _, (h : Int), _, rfl, by rw [hc] <;> rfl, ex_l (e2.trans e4) hN, names_at hh, ?_⟩
          rw [hc] at last
          exact last _ e4
    · rintro σ H1 ⟨U, v, rfl, e2, hU, lU, okU⟩
      refine ⟨_, rfl, F0, _, rfl, .inl ⟨SqL.of hU, fun p np => ?_⟩⟩
      exact q p _ U ⟨lU, fun k x hx => okU k x (by have := (List.getElem?_eq_some_iff.mp hx).1; omega) hx⟩ (e2.trans (Ex.new np)) (fresh_back e2 np) upd_same
/-- what the law asks of the costs -/
noncomputable def leastV (Y : Yd) (gs : List (Option Nat)) : V := if mayB Y gs = true then .int (costN Y gs) else .non
noncomputable def cheapV (Y : Yd) (W : List (Option (Option Nat))) : V := if barB Y W = true then .non else .int (costN Y (bestG Y W))
noncomputable def costsV (Y : Yd) (gs : List (Option Nat)) (W : List (Option (Option Nat))) : List V := [leastV Y gs, fewV Y gs, .int (reachN Y), cheapV Y W]
theorem told_go {σ : L2.St} {H : Hp} {Q : VK} {i : Nat} {v : V} {Y : Yd} {gs : List (Option Nat)} (hσ : σ[i]? = some (some v)) (p : LeastP H v Y gs) (k : Q (leastV Y gs) H) : tIf (tTest (tOp rIsN (tVar i) (tC .non))) (tC .non) (tOp (rIxT K) (tVar i) (tC (.int 0))) σ H Q := by
  unfold leastV at k
  rcases p with ⟨h, rfl⟩ | ⟨h, t, g, rfl, ht⟩
  · rw [h] at k
    exact ⟨_, hσ, rfl, true, rfl, k⟩
  · rw [h] at k
    exact ⟨_, hσ, rfl, false, rfl, _, hσ, t, _, 0, _, rfl, rfl, SqT.of ht, rfl, k⟩
theorem near_go {σ : L2.St} {H : Hp} {Q : VK} {i : Nat} {v : V} {Y : Yd} {W : List (Option (Option Nat))} (hσ : σ[i]? = some (some v)) (p : CheapP H v Y W) (k : Q (cheapV Y W) H) : tIf (tTest (tOp rIsN (tVar i) (tC .non))) (tC .non) (tOp (rIxT K) (tVar i) (tC (.int 0))) σ H Q := by
  unfold cheapV at k
  rcases p with ⟨h, rfl⟩ | ⟨h, t, g, rfl, ht⟩
  · rw [h] at k
    exact ⟨_, hσ, rfl, true, rfl, k⟩
  · rw [h] at k
    exact ⟨_, hσ, rfl, false, rfl, _, hσ, t, _, 0, _, rfl, rfl, SqT.of ht, rfl, k⟩
abbrev s__law_costs : Stmt := K16.top 54
abbrev N__law_costs : List Str := ["_law_yard_here", "_law_goal_here", "_law_wish_here", "_law_told", "_law_near", "_law_found"]
abbrev P__law_costs : List Str := ["_law_yard_here", "_law_goal_here", "_law_wish_here"]
theorem sc__law_costs : FnScope N__law_costs P__law_costs (C8.fnScope s__law_costs) := C8.fnScope_by (by decide +kernel)
def sp__law_costs (K : PySem.W.Frag) (TT : List (Addr × Str)) : Sp := fun vs H Q _ => ∃ (a c d : Addr) (Y : Yd) (gs : List (Option Nat)) (W : List (Option (Option Nat))), vs = [.ref a, .ref c, .ref d] ∧ YAt K H a Y ∧ VY Y ∧ VG Y.length gs ∧ SqT K H c (gs.map hV) ∧ VW Y.length W ∧ SqT K H d (W.map wV) ∧ Tabs TT H ∧
  ∀ p H', ExtN H H' → Tabs TT H' → H' p = some (.tup (costsV Y gs W)) → Q (.ref p) H'
theorem c__law_costs {f P1 : Addr} {fd : FuncData} (T : Gb mg) (F : C8.Def K mg "_law_costs" s__law_costs f fd) (b : Binds K fd P__law_costs []) (c_least : C8.Cal P w K mg base 6 "least" (sp_least K [(P1, qway)]) []) (c_cheapest : C8.Cal P w K mg base 5 "cheapest" (sp_cheapest K) [])
    (c_fewest : C8.Cal P w K mg base 5 "fewest" (sp_fewest K) []) (c_reach : C8.Cal P w K mg base 4 "reach" (sp_reach K) []) : C8.Cal P w K mg base 7 "_law_costs" (sp__law_costs K [(P1, qway)]) [] := by
  refine C8.cal0 (k := 6) F b .nil sc__law_costs (fun vs H Q E h => ?_) (fun cdv A outer s H vs Q E hr h => ?_)
  · obtain ⟨a, c, d, Y, gs, W, rfl, _⟩ := h
    rfl
  · obtain ⟨a, c, d, Y, gs, W, rfl, hY, ok, og, hc, ow, hd, hTab, q⟩ := h
    refine ⟨_, (pss_cons (ps_par (i := 3) (j := 4) rfl sc__law_costs.nd rfl rfl (by decide) rfl rfl (pa_cons (C8.pe_c c_least hr (by decide) rfl (pa_cons (pv 0) (pa_cons (pv 1) pa_nil))) (pa_cons (C8.pe_c c_cheapest hr (by decide) rfl (pa_cons (pv 0) (pa_cons (pv 2) pa_nil))) pa_nil)) (by rfl))
      (pss_cons (ps_set (i := 5) sc__law_costs.nd rfl (Or.inl rfl) (pe_tup (pa_cons (pe_ifExp (pt_cmpR op_isN (pv 3) pe_non (nomark _)) pe_non (pe_ix ix_tup (pv 3) pe_int (fun _ _ => rfl))) (pa_cons (C8.pe_c c_fewest hr (by decide) rfl (pa_cons (pv 0) (pa_cons (pv 1) pa_nil))) (pa_cons (C8.pe_c c_reach hr (by decide) rfl (pa_cons (pv 0) pa_nil)) pa_nil)))))
      (pss_one (ps_ret (pe_op op_catA (pv 5) (pe_tup (pa_cons (pe_ifExp (pt_cmpR op_isN (pv 4) pe_non (nomark _)) pe_non (pe_ix ix_tup (pv 4) pe_int (fun _ _ => rfl))) pa_nil))))))), ?_⟩
    refine ⟨_, rfl, _, rfl, a, c, Y, gs, rfl, hY, ok, og, hc, hTab, fun v1 H1 e1 T1 p1 => ?_⟩
    refine ⟨_, rfl, _, rfl, a, d, Y, W, rfl, hY.monoN e1, ok, ow, exn_t e1 hd, fun v2 H2 e2 p2 => ⟨_, _, rfl, ?_⟩⟩
    have e12 := e1.trans (exn_of e2)
    have T2 := tabs_ex T1 e2
    have p12 := p1.mono (exn_of e2)
    refine told_go rfl p12 ?_
    refine ⟨_, rfl, _, rfl, a, c, Y, gs, rfl, hY.monoN e12, ok, og, exn_t e12 hc, fun H3 e3 => ?_⟩
    have e13 := e12.trans (exn_of e3)
    refine ⟨_, rfl, a, Y, rfl, hY.monoN e13, ok, fun H4 e4 => ?_⟩
    refine ⟨lineE (by show 3 ≤ 1000; decide), fun p3 np3 => ?_⟩
    have e5 := (e3.trans e4).trans (Ex.new (o := .tup [leastV Y gs, fewV Y gs, .int (reachN Y)]) np3)
    have h5 : upd H4 p3 (.tup [leastV Y gs, fewV Y gs, .int (reachN Y)]) p3 = some (.tup [leastV Y gs, fewV Y gs, .int (reachN Y)]) := upd_same
    refine ⟨_, rfl, near_go rfl (p2.mono e5) ?_⟩
    refine ⟨lineE (by show 1 ≤ 1000; decide), fun p6 np6 => ?_⟩
    have e6 := Ex.new (o := .tup [cheapV Y W]) np6
    refine cat_go (xs := [leastV Y gs, fewV Y gs, .int (reachN Y)]) (ys := [cheapV Y W]) (e6 _ _ h5) upd_same (by show 4 ≤ 1000; decide) fun p7 H7 e7 h7 => ?_
    have e27 := (e5.trans e6).trans e7
    exact q p7 H7 (e12.trans (exn_of e27)) (tabs_ex T2 e27) h7
end
end K16
set_option maxHeartbeats 4000000
/-! ### the law's rings -/
namespace K16
open PySem PySem.Spec PyProof.Rows L2 LamX Evl
abbrev iN (R : List Nat) : List Int := R.map fun n : Nat => (n : Int)
theorem iN_inj : ∀ {a b : List Nat}, iN a = iN b → a = b
  | [], [], _ => rfl
  | [], _ :: _, h => by cases h
  | _ :: _, [], h => by cases h
  | x :: xs, y :: ys, h => by
    have h : ((x : Int) :: iN xs) = ((y : Int) :: iN ys) := h
    injection h with h1 h2
    rw [iN_inj h2, Int.ofNat.inj h1]
theorem lex_anti : ∀ a b : List Int, HT.lexLt a b = false → HT.lexLt b a = false → a = b
  | [], [], _, _ => rfl
  | [], _ :: _, h, _ => by simp [HT.lexLt] at h
  | _ :: _, [], _, h => by simp [HT.lexLt] at h
  | x :: xs, y :: ys, h1, h2 => by
    rw [HT.lexLt_cons] at h1 h2
    by_cases e : x = y
    · rw [if_pos e] at h1
      rw [if_pos e.symm] at h2
      rw [e, lex_anti xs ys h1 h2]
    · rw [if_neg e] at h1
      rw [if_neg fun z => e z.symm] at h2
      simp only [decide_eq_false_iff_not] at h1 h2
      omega
/-- the one order of some lists -/
def CanS (Ms : List (List Nat)) : Prop := Ms.Pairwise fun x y => HT.lexLt (iN y) (iN x) = false
theorem can_one : ∀ {l m : List (List Nat)}, l.Perm m → CanS l → CanS m → l = m
  | [], m, p, _, _ => (List.nil_perm.mp p).symm
  | x :: l, [], p, _, _ => absurd p (by simp)
  | x :: l, y :: m, p, h1, h2 => by
    have e : x = y := by
      have a := List.mem_cons.mp (p.mem_iff.mp (List.mem_cons_self : x ∈ x :: l))
      have b := List.mem_cons.mp (p.symm.mem_iff.mp (List.mem_cons_self : y ∈ y :: m))
      have a' := (List.pairwise_cons.mp h1).1
      have b' := (List.pairwise_cons.mp h2).1
      rcases a with a | a
      · exact a
      · rcases b with b | b
        · exact b.symm
        · exact iN_inj (lex_anti _ _ (b' x a) (a' y b))
    subst e
    rw [can_one (List.Perm.cons_inv p) (List.pairwise_cons.mp h1).2 (List.pairwise_cons.mp h2).2]
def kI (H : Hp) : V → List Int
  | .ref t => match H t with
    | some (.lst ys) => ys.map fun y => match y with
      | .int i => i
      | _ => 0
    | _ => []
  | _ => []
theorem kI_at {H : Hp} {q : Addr} {R : List Nat} (h : H q = some (.lst (R.map nV))) : kI H (.ref q) = iN R := by
  unfold kI
  dsimp only
  rw [h]
  dsimp only
  rw [List.map_map] <;> rfl
def kNs (H : Hp) (x : V) : List Nat := (kI H x).map Int.toNat
theorem kNs_at {H : Hp} {q : Addr} {R : List Nat} (h : H q = some (.lst (R.map nV))) : kNs H (.ref q) = R := by
  unfold kNs
  rw [kI_at h, List.map_map]
  refine (List.map_congr_left fun n _ => ?_).trans (List.map_id R)
  rfl
theorem Lsts.keys {H : Hp} {xs : List V} {Ls : List (List Nat)} (t : Lsts H xs Ls) : xs.map (kNs H) = Ls := by
  apply List.ext_getElem
  · rw [List.length_map]; exact t.len
  · intro i h1 h2
    obtain ⟨q, e1, e2⟩ := t.at_ i Ls[i] (by simp [h2])
    have h3 : i < xs.length := by rw [t.len]; exact h2
    rw [List.getElem?_eq_getElem h3] at e1
    rw [List.getElem_map, Option.some.inj e1, kNs_at e2]
theorem sorted_go {K : PySem.W.Frag} {H : Hp} {a : Addr} {xs : List V} {Ls : List (List Nat)} {Q : VK} (hl : SqL K H a xs) (t : Lsts H xs Ls) (k : ∀ p zs Ms, Ms.Perm Ls → CanS Ms → H p = none → Lsts H zs Ms → Q (.ref p) (upd H p (.lst zs))) : rSortedLL K [.ref a] H Q := by
  have mem : ∀ x ∈ xs, ∃ (R : List Nat) (q : Addr), x = .ref q ∧ H q = some (.lst (R.map nV)) := fun x hx => by
    obtain ⟨i, hi⟩ := List.mem_iff_getElem?.mp hx
    obtain ⟨R, q, _, h2, h3⟩ := t.get hi
    exact ⟨R, q, h2, h3⟩
  refine ⟨a, xs, kI H, rfl, hl, fun x hx => ?_, fun zs p pm so np => ?_⟩
  · obtain ⟨R, q, rfl, hq⟩ := mem x hx
    refine ⟨q, rfl, SqL.of ?_⟩
    rw [kI_at hq, ← nVs_D]
    exact hq
  · refine k p zs (zs.map (kNs H)) (by rw [← t.keys]; exact pm.map _) ?_ np ⟨(List.length_map _).symm, fun i R h => ?_⟩
    · refine List.pairwise_map.mpr (so.imp_of_mem fun {x y} hx hy h => ?_)
      obtain ⟨R1, q1, rfl, h1⟩ := mem x (pm.mem_iff.mp hx)
      obtain ⟨R2, q2, rfl, h2⟩ := mem y (pm.mem_iff.mp hy)
      rw [kNs_at h1, kNs_at h2]
      rw [kI_at h1, kI_at h2] at h
      exact h
    · rw [List.getElem?_map] at h
      cases e : zs[i]? with
      | none => rw [e] at h; cases h
      | some z =>
        rw [e] at h
        obtain ⟨R1, q1, rfl, h1⟩ := mem z (pm.mem_iff.mp (List.mem_of_getElem? e))
        have h := Option.some.inj h
        rw [kNs_at h1] at h
        exact ⟨q1, rfl, by rw [← h]; exact h1⟩
/-- lists of lists as data -/
abbrev llD (Ms : List (List Nat)) : PyData := .list (Ms.map fun R => .list (R.map fun n : Nat => PyData.int (n : Int)))
theorem dp_ll {K : PySem.W.Frag} {H : Hp} {p : Addr} {zs : List V} {Ms : List (List Nat)} (h : SqL K H p zs) (t : Lsts H zs Ms) : Dp K H (.ref p) (llD Ms) := by
  refine .lst h (dps_of (by rw [List.length_map]; exact t.len) fun i x d hx hd => ?_)
  obtain ⟨R, q, h1, rfl, h3⟩ := t.get hx
  rw [List.getElem?_map, h1] at hd
  cases Option.some.inj hd
  exact dp_nats (SqL.of h3)
theorem sh_ll (Ms : List (List Nat)) : Sh 2 (llD Ms) := sh_list fun d hd => by
  obtain ⟨R, _, rfl⟩ := List.mem_map.mp hd
  exact sh_nats R
theorem eqv_ll (Ms : List (List Nat)) : PyData.eqv (llD Ms) (llD Ms) = true := SeqAt.eqv_refl _ (sh_ll Ms).1

section
variable {K : PySem.W.Frag} {H : Hp} {Q : VK} {D : Addr} {N R : List Nat} {v0 v1 v3 v4 v6 : Option V} {g : Addr}
/-- sorted([names[k] for k in row]), the row a tuple -/
theorem row_go (hg : SqT K H g (R.map nV)) (hN : SqL K H D (N.map nV)) (hR : ∀ x ∈ R, x < N.length) (hz : R.length ≤ 900) (k : ∀ p H', Ex H H' → H p = none → H' p = some (.lst ((srt (R.map fun x => N.getD x 0)).map nV)) → Q (.ref p) H') :
    tCB (rSortedI K) (tCons (tLc (iTup K (tVar 5)) (gName 6) tYes (tOp (rIxL K) (tVar 2) (tVar 6)) [6]) tNil) [v0, v1, some (.ref D), v3, v4, some (.ref g), v6] H Q := by
  refine ⟨_, rfl, g, rfl, ⟨_, hg⟩, fun D2 nD2 => ?_⟩
  refine lc_tup (K := K) (a := g) (xs := R.map nV) (fun i H1 => Ex H H1 ∧ H1 D2 = some (.lst (((R.take i).map fun x => N.getD x 0).map nV))) ⟨Ex.new nD2, upd_same⟩ (fun i H1 _ z => ex_t z.1 hg) ?_ ?_
  · rintro i x H1 hx ⟨e1, hl⟩
    rw [List.getElem?_map] at hx
    cases er : R[i]? with
    | none => rw [er] at hx; cases hx
    | some r =>
      rw [er] at hx
      cases Option.some.inj hx
      have hi := (List.getElem?_eq_some_iff.mp er).1
      refine ⟨rfl, _, rfl, _, rfl, D, _, _, _, rfl, rfl, ex_l e1 hN, names_at (hR r (List.mem_of_getElem? er)), _, hl, lineL (by rw [List.length_map, List.length_map, List.length_take]; omega), Ex.mut e1 nD2, ?_⟩
      rw [upd_same, take_more er, List.map_append] <;> rfl
  · rintro H1 ⟨e1, hl⟩
    rw [List.length_map, List.take_length] at hl
    refine ⟨D2, iN (R.map fun x => N.getD x 0), rfl, SqL.of (by rw [hl, nVs_D]), fun ms p pm so np => ?_⟩
    have em := srt_is pm so
    refine k p _ (e1.trans (Ex.new np)) (fresh_back e1 np) ?_
    rw [upd_same, em, ← nVs_D]
theorem row_goL (hg : SqL K H g (R.map nV)) (hN : SqL K H D (N.map nV)) (hR : ∀ x ∈ R, x < N.length) (hz : R.length ≤ 900) (k : ∀ p H', Ex H H' → H p = none → H' p = some (.lst ((srt (R.map fun x => N.getD x 0)).map nV)) → Q (.ref p) H') :
    tCB (rSortedI K) (tCons (tLc (iList K (tVar 5)) (gName 6) tYes (tOp (rIxL K) (tVar 2) (tVar 6)) [6]) tNil) [v0, v1, some (.ref D), v3, v4, some (.ref g), v6] H Q := by
  refine ⟨_, rfl, g, rfl, ⟨_, hg⟩, fun D2 nD2 => ?_⟩
  refine lc_list (K := K) (a := g) (xs := R.map nV) (fun i H1 => Ex H H1 ∧ H1 D2 = some (.lst (((R.take i).map fun x => N.getD x 0).map nV))) ⟨Ex.new nD2, upd_same⟩ (fun i H1 _ z => ex_l z.1 hg) ?_ ?_
  · rintro i x H1 hx ⟨e1, hl⟩
    rw [List.getElem?_map] at hx
    cases er : R[i]? with
    | none => rw [er] at hx; cases hx
    | some r =>
      rw [er] at hx
      cases Option.some.inj hx
      have hi := (List.getElem?_eq_some_iff.mp er).1
      refine ⟨rfl, _, rfl, _, rfl, D, _, _, _, rfl, rfl, ex_l e1 hN, names_at (hR r (List.mem_of_getElem? er)), _, hl, lineL (by rw [List.length_map, List.length_map, List.length_take]; omega), Ex.mut e1 nD2, ?_⟩
      rw [upd_same, take_more er, List.map_append] <;> rfl
  · rintro H1 ⟨e1, hl⟩
    rw [List.length_map, List.take_length] at hl
    refine ⟨D2, iN (R.map fun x => N.getD x 0), rfl, SqL.of (by rw [hl, nVs_D]), fun ms p pm so np => ?_⟩
    have em := srt_is pm so
    refine k p _ (e1.trans (Ex.new np)) (fresh_back e1 np) ?_
    rw [upd_same, em, ← nVs_D]
/-- sorted(list(row)) -/
theorem row_go2 {v2 : Option V} (hg : SqT K H g (R.map nV)) (k : ∀ p H', Ex H H' → H p = none → H' p = some (.lst ((srt R).map nV)) → Q (.ref p) H') :
    tCB (rSortedI K) (tCons (tCB (rListS K) (tCons (tVar 5) tNil)) tNil) [v0, v1, v2, v3, v4, some (.ref g), v6] H Q := by
  refine ⟨_, rfl, g, _, rfl, .inr hg, fun l nl => ⟨l, iN R, rfl, SqL.of (by rw [upd_same, nVs_D]), fun ms p pm so np => ?_⟩⟩
  have em := srt_is pm so
  refine k p _ ((Ex.new nl).trans (Ex.new np)) (fresh_back (Ex.new nl) np) ?_
  rw [upd_same, em, ← nVs_D]
end
/-- rows through a comprehension: what is collected -/
theorem Lsts.snoc {H H' : Hp} {D q : Addr} {us : List V} {Ls : List (List Nat)} {R : List Nat} (t : Lsts (hid D H) us Ls) (e : Ex H H') (hq : H' q = some (.lst (R.map nV))) (ne : q ≠ D) (o : HO) : Lsts (hid D (upd H' D o)) (us ++ [.ref q]) (Ls ++ [R]) := by
  rw [hid_upd]
  exact t.more (hid_ex e) (hid_at hq ne)

section
variable {P : Program} {w : World} {K : PySem.W.Frag} {mg : Str → Option Value} {base : Heap}
theorem loops_few {as : List (Option Nat)} : (loops as).length ≤ as.length := by
  unfold loops
  rw [List.length_map]
  have := List.length_filter_le (repB as) (List.range as.length)
  rwa [List.length_range] at this
theorem brkL_at {Y : Yd} {W : List (Option (Option Nat))} {n : Nat} (h : ∀ R ∈ loops (arr (hsOf Y) W), (∀ x ∈ R, x < n) ∧ R.length ≤ n) : ∀ R ∈ brkL Y W, (∀ x ∈ R, x < n) ∧ R.length ≤ n := fun R hR => by
  obtain ⟨R0, h0, rfl⟩ := List.mem_map.mp hR
  obtain ⟨h1, h2⟩ := h R0 h0
  exact ⟨fun x hx => h1 x ((srt_perm R0).mem_iff.mp (List.mem_filter.mp (brk_sub hx)).1), Nat.le_trans (brk_len Y W R0) h2⟩
abbrev s__law_rings_so : Stmt := K16.top 55
abbrev N__law_rings_so : List Str := ["_law_pair", "_law_wishes", "_law_names", "_law_some", "_law_broken", "_law_row", "_law_k"]
abbrev P__law_rings_so : List Str := ["_law_pair", "_law_wishes", "_law_names"]
theorem sc__law_rings_so : FnScope N__law_rings_so P__law_rings_so (C8.fnScope s__law_rings_so) := C8.fnScope_by (by decide +kernel)
def sp__law_rings_so (K : PySem.W.Frag) : Sp := fun vs H Q _ => ∃ (tp tw D a a' c c' : Addr) (Y Y' : Yd) (W W' : List (Option (Option Nat))) (N : List Nat), vs = [.ref tp, .ref tw, .ref D] ∧ SqT K H tp [.ref a, .ref a'] ∧ SqT K H tw [.ref c, .ref c'] ∧ SqL K H D (N.map nV) ∧ N.length = Y.length ∧
  YAt K H a Y ∧ VY Y ∧ VW Y.length W ∧ SqT K H c (W.map wV) ∧ YAt K H a' Y' ∧ VY Y' ∧ VW Y'.length W' ∧ SqT K H c' (W'.map wV) ∧ ((loops (arr (hsOf Y') W')).map srt).Perm ((loops (arr (hsOf Y) W)).map fun R => srt (R.map fun x => N.getD x 0)) ∧ (brkL Y' W').Perm ((brkL Y W).map fun R => srt (R.map fun x => N.getD x 0)) ∧
  ∀ H', Ex H H' → Q (.bl true) H'
theorem c__law_rings_so {f : Addr} {fd : FuncData} (T : Gb mg) (F : C8.Def K mg "_law_rings_so" s__law_rings_so f fd) (b : Binds K fd P__law_rings_so []) (c_rings : C8.Cal P w K mg base 5 "rings" (sp_rings K) []) (c_breakers : C8.Cal P w K mg base 5 "breakers" (sp_breakers K) []) :
    C8.Cal P w K mg base 6 "_law_rings_so" (sp__law_rings_so K) [] := by
  refine C8.cal0 (k := 5) F b .nil sc__law_rings_so (fun vs H Q E h => ?_) (fun cdv A outer s H vs Q E hr h => ?_)
  · obtain ⟨tp, tw, D, a, a', c, c', Y, Y', W, W', N, rfl, _⟩ := h
    rfl
  · obtain ⟨tp, tw, D, a, a', c, c', Y, Y', W, W', N, rfl, hp, hw, hN, lN, hY, ok, ow, hc, hY', ok', ow', hc', pm1, pm2, q⟩ := h
    have hle := ok.le
    have hle' := ok'.le
    have hal : (arr (hsOf Y) W).length = Y.length := (arr_len (by rw [hsOf_len, ow.len])).trans (hsOf_len Y)
    have acl : Clo (arr (hsOf Y) W) := arr_clo ok.fo.1 (by rw [hsOf_len]; exact ow)
    have hal' : (arr (hsOf Y') W').length = Y'.length := (arr_len (by rw [hsOf_len, ow'.len])).trans (hsOf_len Y')
    have lp : ∀ R ∈ loops (arr (hsOf Y) W), (∀ x ∈ R, x < Y.length) ∧ R.length ≤ Y.length := fun R hR => by
      have := loops_lt acl hR
      rw [hal] at this
      exact ⟨this.1, this.2.1⟩
    have few := loops_few (as := arr (hsOf Y) W)
    have few' := loops_few (as := arr (hsOf Y') W')
    rw [hal] at few
    rw [hal'] at few'
    refine ⟨_, (pss_cons (ps_set (i := 3) sc__law_rings_so.nd rfl (Or.inl rfl) (pe_callB (K16.cr_sortedLL hr.units) (by rfl) T.n_sorted (by decide +kernel) (pa_cons (pe_lc (own := [("_law_row", 5)]) (g := (gName 5)) (tt := tYes) (te := (tCB (rSortedI K) (tCons (tLc (iTup K (tVar 5)) (gName 6) tYes (tOp (rIxL K) (tVar 2) (tVar 6)) [6]) tNil))) rfl sc__law_rings_so.nd (pi_list (C8.pe_c c_rings hr (by decide) rfl (pa_cons (pe_ix ix_tup (pv 0) pe_int (fun _ _ => rfl)) (pa_cons (pe_ix ix_tup (pv 1) pe_int (fun _ _ => rfl)) pa_nil)))) (blkOk_by (own := [("_law_row", 5)]) (N := N__law_rings_so) (sc := C8.fnScope s__law_rings_so) (by decide +kernel)) (fun _ _ _ _ _ => by exact (pg_name (i := 5) sc__law_rings_so.nd rfl (Or.inl rfl))) (fun _ _ _ _ _ => by exact pts_nil) (fun _ _ _ _ _ => by exact (pe_callB cr_sortedI (by rfl) T.n_sorted (by decide +kernel) (pa_cons (pe_lc (own := [("_law_k", 6)]) (g := (gName 6)) (tt := tYes) (te := (tOp (rIxL K) (tVar 2) (tVar 6))) rfl sc__law_rings_so.nd (pi_tup (pv 5)) (blkOk_by (own := [("_law_k", 6)]) (N := N__law_rings_so) (by rfl)) (fun _ _ _ _ _ => by exact (pg_name (i := 6) sc__law_rings_so.nd rfl (Or.inl rfl))) (fun _ _ _ _ _ => by exact pts_nil) (fun _ _ _ _ _ => by exact (pe_ix ix_list (pv 2) (pv 6) (fun _ _ => rfl)))) pa_nil)))) pa_nil)))
      (pss_cons (ps_if (pt_cmpR (op_neD hr.units) (pe_callB (K16.cr_sortedLL hr.units) (by rfl) T.n_sorted (by decide +kernel) (pa_cons (pe_lc (own := [("_law_row", 5)]) (g := (gName 5)) (tt := tYes) (te := (tCB (rSortedI K) (tCons (tCB (rListS K) (tCons (tVar 5) tNil)) tNil))) rfl sc__law_rings_so.nd (pi_list (C8.pe_c c_rings hr (by decide) rfl (pa_cons (pe_ix ix_tup (pv 0) pe_int (fun _ _ => rfl)) (pa_cons (pe_ix ix_tup (pv 1) pe_int (fun _ _ => rfl)) pa_nil)))) (blkOk_by (own := [("_law_row", 5)]) (N := N__law_rings_so) (sc := C8.fnScope s__law_rings_so) (by decide +kernel)) (fun _ _ _ _ _ => by exact (pg_name (i := 5) sc__law_rings_so.nd rfl (Or.inl rfl))) (fun _ _ _ _ _ => by exact pts_nil) (fun _ _ _ _ _ => by exact (pe_callB cr_sortedI (by rfl) T.n_sorted (by decide +kernel) (pa_cons (pe_callTy call_list_of (by rfl) T.n_list (by decide +kernel) (pa_cons (pv 5) pa_nil)) pa_nil)))) pa_nil)) (pv 3) (nomark _)) (pss_one (ps_ret pe_bl)) pss_nil)
      (pss_cons (ps_set (i := 4) sc__law_rings_so.nd rfl (Or.inl rfl) (pe_callB (K16.cr_sortedLL hr.units) (by rfl) T.n_sorted (by decide +kernel) (pa_cons (pe_lc (own := [("_law_row", 5)]) (g := (gName 5)) (tt := tYes) (te := (tCB (rSortedI K) (tCons (tLc (iList K (tVar 5)) (gName 6) tYes (tOp (rIxL K) (tVar 2) (tVar 6)) [6]) tNil))) rfl sc__law_rings_so.nd (pi_list (C8.pe_c c_breakers hr (by decide) rfl (pa_cons (pe_ix ix_tup (pv 0) pe_int (fun _ _ => rfl)) (pa_cons (pe_ix ix_tup (pv 1) pe_int (fun _ _ => rfl)) pa_nil)))) (blkOk_by (own := [("_law_row", 5)]) (N := N__law_rings_so) (sc := C8.fnScope s__law_rings_so) (by decide +kernel)) (fun _ _ _ _ _ => by exact (pg_name (i := 5) sc__law_rings_so.nd rfl (Or.inl rfl))) (fun _ _ _ _ _ => by exact pts_nil) (fun _ _ _ _ _ => by exact (pe_callB cr_sortedI (by rfl) T.n_sorted (by decide +kernel) (pa_cons (pe_lc (own := [("_law_k", 6)]) (g := (gName 6)) (tt := tYes) (te := (tOp (rIxL K) (tVar 2) (tVar 6))) rfl sc__law_rings_so.nd (pi_list (pv 5)) (blkOk_by (own := [("_law_k", 6)]) (N := N__law_rings_so) (by rfl)) (fun _ _ _ _ _ => by exact (pg_name (i := 6) sc__law_rings_so.nd rfl (Or.inl rfl))) (fun _ _ _ _ _ => by exact pts_nil) (fun _ _ _ _ _ => by exact (pe_ix ix_list (pv 2) (pv 6) (fun _ _ => rfl)))) pa_nil)))) pa_nil)))
      (pss_one (ps_ret (pe_cmpR (op_eqD hr.units) (pe_callB (K16.cr_sortedLL hr.units) (by rfl) T.n_sorted (by decide +kernel) (pa_cons (C8.pe_c c_breakers hr (by decide) rfl (pa_cons (pe_ix ix_tup (pv 0) pe_int (fun _ _ => rfl)) (pa_cons (pe_ix ix_tup (pv 1) pe_int (fun _ _ => rfl)) pa_nil))) pa_nil)) (pv 4) (nomark _))))))), ?_⟩
    refine ⟨_, rfl, tp, _, 0, _, rfl, rfl, hp, rfl, _, rfl, tw, _, 0, _, rfl, rfl, hw, rfl, a, c, Y, W, rfl, hY, ok, ow, hc, fun l H1 e1 ⟨ts, hl, ht⟩ => ?_⟩
    refine ⟨l, rfl, ⟨_, SqL.of hl⟩, fun D1 nD1 => ?_⟩
    refine lc_list (K := K) (a := l) (xs := ts) (fun i H2 => Ex H1 H2 ∧ ∃ us, H2 D1 = some (.lst us) ∧ us.length ≤ i ∧ Lsts (hid D1 H2) us (((loops (arr (hsOf Y) W)).take i).map fun R => srt (R.map fun x => N.getD x 0))) ⟨Ex.new nD1, [], upd_same, Nat.le_refl _, rfl, fun i R h => nomatch h⟩ (fun i H2 _ z => SqL.of (z.1 _ _ hl)) ?_ ?_
    · rintro i x H2 hx ⟨e2, us, hu, lu, tu⟩
      obtain ⟨R, g, hR, rfl, hg⟩ := ht.get hx
      have hi := (List.getElem?_eq_some_iff.mp hR).1
      obtain ⟨lt1, lt2⟩ := lp R (List.mem_of_getElem? hR)
      refine ⟨rfl, row_go (SqT.of (e2 _ _ hg)) (ex_l (e1.trans e2) hN) (fun x hx => by rw [lN]; exact lt1 x hx) (by omega) fun p H3 e3 np hp3 => ?_⟩
      refine ⟨us, e3 _ _ hu, lineL (by omega), (e2.trans e3).mut nD1, us ++ [.ref p], upd_same, by rw [List.length_append, List.length_singleton]; omega, ?_⟩
      rw [take_more hR]
      exact tu.snoc e3 hp3 (Ne.symm (ne_of_none hu np)) _
    rintro H2 ⟨e2, us, hu, lu, tu⟩
    rw [ht.len, List.take_length] at tu
    dsimp only [tNil]
    refine sorted_go (SqL.of hu) (tu.mono (hid_le _ _)) fun p1 z1 M1 pm1' cs1 np1 t1 => ?_
    have e3 := (e1.trans e2).trans (Ex.new (o := .lst z1) np1)
    have h1 : upd H2 p1 (.lst z1) p1 = some (.lst z1) := upd_same
    have t1 := t1.mono (Ex.new (o := .lst z1) np1)
    show tSeq _ _ _ _ (upd H2 p1 (.lst z1))
    generalize upd H2 p1 (.lst z1) = H3 at e3 h1 t1 ⊢
    refine ⟨_, rfl, tp, _, 1, _, rfl, rfl, ex_t e3 hp, rfl, _, rfl, tw, _, 1, _, rfl, rfl, ex_t e3 hw, rfl, a', c', Y', W', rfl, hY'.mono e3, ok', ow', ex_t e3 hc', fun l4 H4 e4 ⟨ts4, hl4, ht4⟩ => ?_⟩
    refine ⟨l4, rfl, ⟨_, SqL.of hl4⟩, fun D5 nD5 => ?_⟩
    refine lc_list (K := K) (a := l4) (xs := ts4) (fun i H6 => Ex H4 H6 ∧ ∃ us, H6 D5 = some (.lst us) ∧ us.length ≤ i ∧ Lsts (hid D5 H6) us (((loops (arr (hsOf Y') W')).take i).map srt)) ⟨Ex.new nD5, [], upd_same, Nat.le_refl _, rfl, fun i R h => nomatch h⟩ (fun i H6 _ z => SqL.of (z.1 _ _ hl4)) ?_ ?_
    · rintro i x H6 hx ⟨e6, us, hu, lu, tu⟩
      obtain ⟨R, g, hR, rfl, hg⟩ := ht4.get hx
      have hi := (List.getElem?_eq_some_iff.mp hR).1
      refine ⟨rfl, row_go2 (SqT.of (e6 _ _ hg)) fun p H7 e7 np hp7 => ?_⟩
      refine ⟨us, e7 _ _ hu, lineL (by omega), (e6.trans e7).mut nD5, us ++ [.ref p], upd_same, by rw [List.length_append, List.length_singleton]; omega, ?_⟩
      rw [take_more hR]
      exact tu.snoc e7 hp7 (Ne.symm (ne_of_none hu np)) _
    rintro H6 ⟨e6, us6, hu6, lu6, tu6⟩
    rw [ht4.len, List.take_length] at tu6
    dsimp only [tNil]
    refine sorted_go (SqL.of hu6) (tu6.mono (hid_le _ _)) fun p7 z7 M7 pm7 cs7 np7 t7 => ?_
    have e38 := (e4.trans e6).trans (Ex.new (o := .lst z7) np7)
    have eM : M7 = M1 := can_one (pm7.trans (pm1.trans pm1'.symm)) cs7 cs1
    have t7 := t7.mono (Ex.new (o := .lst z7) np7)
    refine ⟨_, rfl, llD M7, llD M1, dp_ll (SqL.of upd_same) t7, dp_ll (SqL.of (e38 _ _ h1)) (t1.mono e38), sh_ok (sh_ll _), sh_ok (sh_ll _), false, ?_, ?_⟩
    · rw [eM, eqv_ll] <;> rfl
    have e08 := e3.trans e38
    generalize upd H6 p7 (.lst z7) = H8 at e38 e08 ⊢
    have h18 := e38 _ _ h1
    have t18 := t1.mono e38
    have bl := brkL_at (W := W) lp
    refine ⟨_, rfl, tp, _, 0, _, rfl, rfl, ex_t e08 hp, rfl, _, rfl, tw, _, 0, _, rfl, rfl, ex_t e08 hw, rfl, a, c, Y, W, rfl, hY.mono e08, ok, ow, ex_t e08 hc, fun l9 H9 e9 ⟨ts9, hl9, ht9⟩ => ?_⟩
    refine ⟨l9, rfl, ⟨_, SqL.of hl9⟩, fun D9 nD9 => ?_⟩
    have few2 : (brkL Y W).length ≤ Y.length := by
      unfold brkL
      rw [List.length_map]
      exact few
    refine lc_list (K := K) (a := l9) (xs := ts9) (fun i H2 => Ex H9 H2 ∧ ∃ us, H2 D9 = some (.lst us) ∧ us.length ≤ i ∧ Lsts (hid D9 H2) us (((brkL Y W).take i).map fun R => srt (R.map fun x => N.getD x 0))) ⟨Ex.new nD9, [], upd_same, Nat.le_refl _, rfl, fun i R h => nomatch h⟩ (fun i H2 _ z => SqL.of (z.1 _ _ hl9)) ?_ ?_
    · rintro i x H2 hx ⟨e2, us, hu, lu, tu⟩
      obtain ⟨R, g, hR, rfl, hg⟩ := ht9.get hx
      have hi := (List.getElem?_eq_some_iff.mp hR).1
      obtain ⟨lt1, lt2⟩ := bl R (List.mem_of_getElem? hR)
      refine ⟨rfl, row_goL (SqL.of (e2 _ _ hg)) (ex_l ((e08.trans e9).trans e2) hN) (fun x hx => by rw [lN]; exact lt1 x hx) (by omega) fun p H3 e3 np hp3 => ?_⟩
      refine ⟨us, e3 _ _ hu, lineL (by omega), (e2.trans e3).mut nD9, us ++ [.ref p], upd_same, by rw [List.length_append, List.length_singleton]; omega, ?_⟩
      rw [take_more hR]
      exact tu.snoc e3 hp3 (Ne.symm (ne_of_none hu np)) _
    rintro H10 ⟨e10, us10, hu10, lu10, tu10⟩
    rw [ht9.len, List.take_length] at tu10
    dsimp only [tNil]
    refine sorted_go (SqL.of hu10) (tu10.mono (hid_le _ _)) fun p11 z11 M11 pm11 cs11 np11 t11 => ?_
    have e11 := ((e08.trans e9).trans e10).trans (Ex.new (o := .lst z11) np11)
    have h11 : upd H10 p11 (.lst z11) p11 = some (.lst z11) := upd_same
    have t11 := t11.mono (Ex.new (o := .lst z11) np11)
    generalize upd H10 p11 (.lst z11) = H11 at e11 h11 t11 ⊢
    refine ⟨_, rfl, tp, _, 1, _, rfl, rfl, ex_t e11 hp, rfl, _, rfl, tw, _, 1, _, rfl, rfl, ex_t e11 hw, rfl, a', c', Y', W', rfl, hY'.mono e11, ok', ow', ex_t e11 hc', fun l12 H12 e12 ⟨ts12, hl12, ht12⟩ => ?_⟩
    dsimp only [tNil]
    refine sorted_go (SqL.of hl12) ht12 fun p13 z13 M13 pm13 cs13 np13 t13 => ?_
    have e13 := e12.trans (Ex.new (o := .lst z13) np13)
    have eM : M13 = M11 := can_one (pm13.trans (pm2.trans pm11.symm)) cs13 cs11
    refine ⟨_, rfl, llD M13, llD M11, dp_ll (SqL.of upd_same) (t13.mono (Ex.new np13)), dp_ll (SqL.of (e13 _ _ h11)) (t11.mono e13), sh_ok (sh_ll _), sh_ok (sh_ll _), ?_⟩
    rw [eM, eqv_ll]
    exact q _ (e11.trans e13)
end
end K16
set_option maxHeartbeats 4000000
/-! ### the mathematics: the boxes under other names -/
namespace K16
/-- nu names n boxes anew -/
structure Bij (n : Nat) (nu : Nat → Nat) : Prop where
  perm : ((List.range n).map nu).Perm (List.range n)
section
variable {n : Nat} {nu : Nat → Nat}
theorem Bij.lt (B : Bij n nu) {k : Nat} (h : k < n) : nu k < n := List.mem_range.mp (B.perm.mem_iff.mp (List.mem_map.mpr ⟨k, List.mem_range.mpr h, rfl⟩))
theorem Bij.sur (B : Bij n nu) {b : Nat} (h : b < n) : ∃ k, k < n ∧ nu k = b := by
  obtain ⟨k, h1, h2⟩ := List.mem_map.mp (B.perm.mem_iff.mpr (List.mem_range.mpr h))
  exact ⟨k, List.mem_range.mp h1, h2⟩
theorem Bij.inj (B : Bij n nu) {j k : Nat} (hj : j < n) (hk : k < n) (e : nu j = nu k) : j = k := by
  have nd := B.perm.nodup_iff.mpr List.nodup_range
  have h1 : ((List.range n).map nu)[j]'(by simpa using hj) = ((List.range n).map nu)[k]'(by simpa using hk) := by simp [e]
  exact (List.getElem_inj nd).mp h1
theorem bij_names {N : List Nat} {n : Nat} (p : N.Perm (List.range n)) : Bij n fun k => N.getD k 0 := by
  obtain ⟨lN, _, _⟩ := perm_range p
  refine ⟨?_⟩
  have e : (List.range n).map (fun k => N.getD k 0) = N := by
    apply List.ext_getElem
    · rw [List.length_map, List.length_range, lN]
    · intro i h1 h2
      rw [List.getElem_map, List.getElem_range, getD_at h2]
  rw [e]
  exact p
/-- the boxes that are told by p', among the new names -/
theorem Bij.filter (B : Bij n nu) {p p' : Nat → Bool} (h : ∀ k, k < n → p' (nu k) = p k) : ((List.range n).filter p').Perm (((List.range n).filter p).map nu) := by
  refine (B.perm.symm.filter p').trans (List.Perm.of_eq ?_)
  rw [List.filter_map]
  congr 1
  exact List.filter_congr fun k hk => h k (List.mem_range.mp hk)
end
theorem perm_sum {l m : List Int} (p : l.Perm m) : l.sum = m.sum := by
  induction p with
  | nil => rfl
  | cons x _ ih => rw [List.sum_cons, List.sum_cons, ih]
  | swap x y l => rw [List.sum_cons, List.sum_cons, List.sum_cons, List.sum_cons]; omega
  | trans _ _ h1 h2 => rw [h1, h2]
theorem perm_all {l m : List Nat} (p : l.Perm m) (f : Nat → Bool) : l.all f = m.all f := by
  rw [Bool.eq_iff_iff, List.all_eq_true, List.all_eq_true]
  exact ⟨fun h x hx => h x (p.mem_iff.mpr hx), fun h x hx => h x (p.mem_iff.mp hx)⟩
/-- f', of the new names, follows f -/
def Fol (n : Nat) (nu : Nat → Nat) (f f' : Nat → Option Nat) : Prop := ∀ k, k < n → f' (nu k) = (f k).map nu
/-- gs' is gs under the new names -/
structure Ren (n : Nat) (nu : Nat → Nat) (gs gs' : List (Option Nat)) : Prop where
  len : gs.length = n
  len' : gs'.length = n
  fol : Fol n nu (up gs) (up gs')
section
variable {n : Nat} {nu : Nat → Nat} {hs hs' gs gs' : List (Option Nat)}
theorem Ren.clo (R : Ren n nu hs hs') (B : Bij n nu) (cl : Clo hs) : Clo hs' := fun b h e => by
  rw [R.len']
  by_cases hb : b < n
  · obtain ⟨k, hk, rfl⟩ := B.sur hb
    rw [R.fol k hk] at e
    cases ek : up hs k with
    | none => rw [ek] at e; cases e
    | some x =>
      rw [ek] at e
      cases e
      have := cl k x ek
      rw [R.len] at this
      exact B.lt this
  · rw [up_out (by rw [R.len']; omega)] at e
    cases e
theorem Ren.chain (R : Ren n nu hs hs') (cl : Clo hs) {o : Option Nat} {l : List Nat} (c : Chain (up hs) o l) : (∀ x, o = some x → x < n) → Chain (up hs') (o.map nu) (l.map nu) := by
  induction c with
  | stop => intro _; exact .stop
  | @step h l c ih =>
    intro ho
    have hh := ho h rfl
    have := ih fun x hx => by
      have := cl h x hx
      rwa [R.len] at this
    refine .step ?_
    rw [R.fol h hh]
    exact this
theorem Ren.for' (R : Ren n nu hs hs') (B : Bij n nu) (F : For hs) : For hs' := by
  refine ⟨R.clo B F.1, fun b => ?_⟩
  by_cases hb : b < n
  · obtain ⟨k, hk, rfl⟩ := B.sur hb
    obtain ⟨l, c⟩ := F.2 k
    exact ⟨_, R.chain F.1 c fun x hx => by cases hx; exact hk⟩
  · exact ⟨[b], .step (by rw [up_out (by rw [R.len']; omega)]; exact .stop)⟩
theorem Ren.chn_ (R : Ren n nu hs hs') (B : Bij n nu) (F : For hs) {k : Nat} (hk : k < n) : K16.chn hs' (nu k) = (K16.chn hs k).map nu := by
  have c := R.chain F.1 (for_chn F k) fun x hx => by
    have := F.1 k x hx
    rwa [R.len] at this
  rw [← R.fol k hk] at c
  exact (for_chn (R.for' B F) (nu k)).det c
theorem chn_lt (F : For hs) {k : Nat} : ∀ x ∈ chn hs k, x < hs.length := (for_chn F k).lt F.1 fun x hx => F.1 k x hx
theorem mem_nu (B : Bij n nu) {l : List Nat} (h : ∀ x ∈ l, x < n) {k : Nat} (hk : k < n) : nu k ∈ l.map nu ↔ k ∈ l := by
  refine ⟨fun hm => ?_, fun hm => List.mem_map.mpr ⟨k, hm, rfl⟩⟩
  obtain ⟨x, hx, e⟩ := List.mem_map.mp hm
  rw [B.inj (h x hx) hk e] at hx
  exact hx
theorem opt_nu (B : Bij n nu) {o u : Option Nat} (ho : ∀ x, o = some x → x < n) (hu : ∀ x, u = some x → x < n) : o.map nu = u.map nu ↔ o = u := by
  refine ⟨fun e => ?_, fun e => by rw [e]⟩
  cases o with
  | none => cases u with
    | none => rfl
    | some y => cases e
  | some x => cases u with
    | none => cases e
    | some y => rw [B.inj (ho x rfl) (hu y rfl) (Option.some.inj e)]
theorem Ren.bnd (R : Ren n nu hs hs') (cl : Clo hs) {k : Nat} : ∀ x, up hs k = some x → x < n := fun x hx => by
  have := cl k x hx
  rwa [R.len] at this
theorem Ren.eq_ (R : Ren n nu hs hs') (G : Ren n nu gs gs') (B : Bij n nu) (cl : Clo hs) (cg : Clo gs) {k : Nat} (hk : k < n) : decide (up hs' (nu k) = up gs' (nu k)) = decide (up hs k = up gs k) := by
  rw [R.fol k hk, G.fol k hk]
  exact decide_eq_decide.mpr (opt_nu B (R.bnd cl) (G.bnd cg))
theorem Ren.some_ (R : Ren n nu hs hs') (G : Ren n nu gs gs') (B : Bij n nu) (cl : Clo hs) (cg : Clo gs) : (someOf hs' gs').Perm ((someOf hs gs).map nu) := by
  unfold someOf
  rw [R.len, R.len']
  exact B.filter fun k hk => by rw [R.eq_ G B cl cg hk]
theorem Ren.undr_ (R : Ren n nu hs hs') (B : Bij n nu) (F : For hs) {k : Nat} (hk : k < n) {o : Option Nat} (ho : ∀ x, o = some x → x < n) : undr hs' (nu k) (o.map nu) = undr hs k o := by
  cases o with
  | none => rfl
  | some h =>
    have hh := ho h rfl
    show (decide (nu h = nu k) || decide (nu k ∈ chn hs' (nu h))) = (decide (h = k) || decide (k ∈ chn hs h))
    rw [R.chn_ B F hh]
    congr 1
    · exact decide_eq_decide.mpr ⟨fun e => B.inj hh hk e, fun e => by rw [e]⟩
    · refine decide_eq_decide.mpr (mem_nu B (fun x hx => ?_) hk)
      have := chn_lt F x hx
      rwa [R.len] at this
theorem Ren.ok_ (R : Ren n nu hs hs') (G : Ren n nu gs gs') (B : Bij n nu) (F : For hs) (cg : Clo gs) {k : Nat} (hk : k < n) : okM gs' hs' (nu k) = okM gs hs k := by
  unfold okM
  rw [R.eq_ G B F.1 cg hk, G.fol k hk, R.undr_ B F hk (G.bnd cg)]
theorem Ren.mvd_ (R : Ren n nu hs hs') (G : Ren n nu gs gs') (B : Bij n nu) {k : Nat} (hk : k < n) : Ren n nu (mvd gs hs k) (mvd gs' hs' (nu k)) := by
  unfold mvd
  refine ⟨by rw [List.length_set]; exact R.len, by rw [List.length_set]; exact R.len', fun j hj => ?_⟩
  rw [up_set (by rw [R.len']; exact B.lt hk), up_set (by rw [R.len]; exact hk)]
  by_cases e : j = k
  · rw [e, if_pos rfl, if_pos rfl, G.fol k hk]
  · rw [if_neg e, if_neg fun z => e (B.inj hj hk z), R.fol j hj]
/-- as many orders under the new names -/
theorem ord_nu (G : Ren n nu gs gs') (B : Bij n nu) (Fg : For gs) {S S' : List Nat} (p : S'.Perm (S.map nu)) (hS : ∀ x ∈ S, x < n) : ∀ (t : Nat) (hs hs' : List (Option Nat)), Ren n nu hs hs' → For hs → ordN gs' S' t hs' = ordN gs S t hs
  | 0, _, _, _, _ => rfl
  | t + 1, hs, hs', R, F => by
    show turnN gs' S' (ordN gs' S' t) hs' = turnN gs S (ordN gs S t) hs
    unfold turnN
    have e1 : (S'.filter fun b => okM gs' hs' b).Perm ((S.filter fun b => okM gs hs b).map nu) := by
      refine (p.filter _).trans (List.Perm.of_eq ?_)
      rw [List.filter_map]
      congr 1
      exact List.filter_congr fun k hk => R.ok_ G B F Fg.1 (hS k hk)
    rw [perm_sum (e1.map _), List.map_map]
    congr 1
    refine List.map_congr_left fun k hk => ?_
    obtain ⟨h1, h2⟩ := List.mem_filter.mp hk
    have hk := hS k h1
    have hu : undr hs k (up gs k) = false := by
      unfold okM at h2
      rw [Bool.and_eq_true] at h2
      simpa using h2.2
    exact ord_nu G B Fg p hS t _ _ (R.mvd_ G B hk) (for_set F (by rw [R.len]; exact hk) (fun x hx => by rw [R.len]; exact G.bnd Fg.1 x hx) hu)
/-- what is in a box, under the new names -/
theorem insd_nu (R : Ren n nu hs hs') (B : Bij n nu) (F : For hs) {b : Nat} (hb : b < n) : insd hs' n (nu b) = srt ((insd hs n b).map nu) := by
  have pm : (insd hs' n (nu b)).Perm ((insd hs n b).map nu) := by
    unfold insd
    refine B.filter fun k hk => ?_
    rw [R.chn_ B F hk]
    refine decide_eq_decide.mpr (mem_nu B (fun x hx => ?_) hb)
    have := chn_lt F x hx
    rwa [R.len] at this
  refine iN_inj ?_
  refine srt_is (pm.map _) ?_
  refine List.pairwise_map.mpr ?_
  have : (insd hs' n (nu b)).Pairwise (· < ·) := List.Pairwise.filter _ List.pairwise_lt_range
  exact this.imp fun {a b} h => by omega
end
end K16
set_option maxHeartbeats 4000000
/-! ### the mathematics: the costs under other names -/
namespace K16
open L2
/-- Y' is the yard Y under the new names -/
structure YRen (n : Nat) (nu : Nat → Nat) (Y Y' : Yd) : Prop where
  len : Y.length = n
  len' : Y'.length = n
  hs : Ren n nu (hsOf Y) (hsOf Y')
  pr : ∀ k, k < n → pr Y' (nu k) = pr Y k
section
variable {n : Nat} {nu : Nat → Nat} {Y Y' : Yd} {gs gs' : List (Option Nat)}
theorem sum_nu {S S' : List Nat} {f f' : Nat → Int} (p : S'.Perm (S.map nu)) (h : ∀ k ∈ S, f' (nu k) = f k) : (S'.map f').sum = (S.map f).sum := by
  rw [perm_sum (p.map f'), List.map_map]
  congr 1
  exact List.map_congr_left fun k hk => h k hk
theorem YRen.some_ (R : YRen n nu Y Y') (G : Ren n nu gs gs') (B : Bij n nu) (cl : Clo (hsOf Y)) (cg : Clo gs) : (someOf (hsOf Y') gs').Perm ((someOf (hsOf Y) gs).map nu) := R.hs.some_ G B cl cg
theorem YRen.may_ (R : YRen n nu Y Y') (G : Ren n nu gs gs') (B : Bij n nu) (cl : Clo (hsOf Y)) (cg : Clo gs) : mayB Y' gs' = mayB Y gs := by
  unfold mayB
  rw [perm_all (R.some_ G B cl cg), List.all_map]
  rw [Bool.eq_iff_iff, List.all_eq_true, List.all_eq_true]
  have e : ∀ k ∈ someOf (hsOf Y) gs, (K16.pr Y' (nu k)).isSome = (K16.pr Y k).isSome := fun k hk => by
    have := some_lt hk
    rw [R.hs.len] at this
    rw [R.pr k this]
  exact ⟨fun h k hk => by rw [← e k hk]; exact h k hk, fun h k hk => by show (K16.pr Y' (nu k)).isSome = true; rw [e k hk]; exact h k hk⟩
theorem YRen.cost_ (R : YRen n nu Y Y') (G : Ren n nu gs gs') (B : Bij n nu) (cl : Clo (hsOf Y)) (cg : Clo gs) : costN Y' gs' = costN Y gs := by
  unfold costN
  refine sum_nu (R.some_ G B cl cg) fun k hk => ?_
  have := some_lt hk
  rw [R.hs.len] at this
  rw [R.pr k this]
theorem YRen.least_ (R : YRen n nu Y Y') (G : Ren n nu gs gs') (B : Bij n nu) (cl : Clo (hsOf Y)) (cg : Clo gs) : leastV Y' gs' = leastV Y gs := by
  unfold leastV
  rw [R.may_ G B cl cg, R.cost_ G B cl cg]
theorem YRen.few_ (R : YRen n nu Y Y') (G : Ren n nu gs gs') (B : Bij n nu) (cl : Clo (hsOf Y)) (cg : Clo gs) : fewV Y' gs' = fewV Y gs := by
  unfold fewV
  rw [R.may_ G B cl cg, (R.some_ G B cl cg).length_eq, List.length_map]
theorem YRen.ord_ (R : YRen n nu Y Y') (G : Ren n nu gs gs') (B : Bij n nu) (F : For (hsOf Y)) (Fg : For gs) : ordR Y' gs' = ordR Y gs := by
  unfold ordR ordV
  have p := R.some_ G B F.1 Fg.1
  have lt : ∀ x ∈ someOf (hsOf Y) gs, x < n := fun x hx => by
    have := some_lt hx
    rwa [R.hs.len] at this
  rw [R.may_ G B F.1 Fg.1, p.length_eq, List.length_map, ord_nu G B Fg p lt _ _ _ R.hs F]
theorem free_eq (Y : Yd) : freeN Y = ((List.range Y.length).filter fun b => (K16.pr Y b).isSome).length := by
  unfold freeN
  have : Y = (List.range Y.length).map fun b => (K16.pr Y b, up (hsOf Y) b) := by
    apply List.ext_getElem
    · simp
    · intro i h1 h2
      rw [List.getElem_map, List.getElem_range, pr_at (z := Y[i]) (by simp [h1]), up_hs (z := Y[i]) (by simp [h1])]
  have e : Y.filter (fun z => z.1.isSome) = ((List.range Y.length).map fun b => (K16.pr Y b, up (hsOf Y) b)).filter (fun z => z.1.isSome) := congrArg (fun l : Yd => l.filter fun z => z.1.isSome) this
  rw [e, List.filter_map, List.length_map]
  rfl
theorem YRen.free_ (R : YRen n nu Y Y') (B : Bij n nu) : freeN Y' = freeN Y := by
  rw [free_eq, free_eq, R.len, R.len', (B.filter (p := fun b => (K16.pr Y b).isSome) fun k hk => by rw [R.pr k hk]).length_eq, List.length_map]
theorem find_nu {p p' : Nat → Bool} : ∀ {l : List Nat}, (∀ x ∈ l, p' (nu x) = p x) → (l.map nu).find? p' = (l.find? p).map nu
  | [], _ => rfl
  | x :: l, h => by
    rw [List.map_cons, List.find?_cons, List.find?_cons, h x List.mem_cons_self]
    cases p x with
    | true => rfl
    | false => exact find_nu fun y hy => h y (List.mem_cons_of_mem _ hy)
theorem YRen.tops_ (R : YRen n nu Y Y') (B : Bij n nu) (F : For (hsOf Y)) : topsN Y' = topsN Y := by
  unfold topsN
  rw [R.len, R.len', (B.filter (p := fun b => (topF Y b).isNone) fun k hk => ?_).length_eq, List.length_map]
  have : topF Y' (nu k) = (topF Y k).map nu := by
    unfold topF
    rw [R.hs.chn_ B F hk, ← List.map_cons]
    refine find_nu fun x hx => ?_
    have hx : x < n := by
      rcases List.mem_cons.mp hx with e | hx
      · rw [e]; exact hk
      · have := chn_lt F x hx
        rwa [R.hs.len] at this
    rw [R.pr x hx]
  rw [this]
  cases topF Y k <;> rfl
theorem YRen.reach_ (R : YRen n nu Y Y') (B : Bij n nu) (F : For (hsOf Y)) : reachN Y' = reachN Y := by
  unfold reachN
  rw [R.free_ B, R.tops_ B F, R.len, R.len']
end
end K16
set_option maxHeartbeats 4000000
/-! ### the mathematics: the rings under other names -/
namespace K16
open L2
/-- a trail along f: from o0 through the boxes to o -/
inductive Trail (f : Nat → Option Nat) : Option Nat → List Nat → Option Nat → Prop where
  | nil {o : Option Nat} : Trail f o [] o
  | cons {h : Nat} {p : List Nat} {o : Option Nat} : Trail f (f h) p o → Trail f (some h) (h :: p) o
section
variable {f f' : Nat → Option Nat}
theorem Trail.app {o u v : Option Nat} {p q : List Nat} (a : Trail f o p u) (b : Trail f u q v) : Trail f o (p ++ q) v := by
  induction a with
  | nil => exact b
  | cons _ ih => exact .cons (ih b)
theorem Trail.split : ∀ {p q : List Nat} {o v : Option Nat}, Trail f o (p ++ q) v → ∃ u, Trail f o p u ∧ Trail f u q v
  | [], q, o, v, t => ⟨o, .nil, t⟩
  | h :: p, q, o, v, t => by
    cases t with
    | cons t =>
      obtain ⟨u, h1, h2⟩ := Trail.split (p := p) t
      exact ⟨u, .cons h1, h2⟩
theorem path_trail {k : Nat} {p p' : List Nat} {o o' : Option Nat} (a : Path f k p o p' o') : ∃ q, p' = p ++ q ∧ Trail f o q o' ∧ (o' = none ∨ ∃ h, o' = some h ∧ h ∈ p') := by
  induction a with
  | floor => exact ⟨[], by simp, .nil, .inl rfl⟩
  | @again p h hm => exact ⟨[], by simp, .nil, .inr ⟨h, rfl, hm⟩⟩
  | @step k h p p' o' hm _ ih =>
    obtain ⟨q, e, t, l⟩ := ih
    exact ⟨h :: q, by rw [e, List.append_assoc] <;> rfl, .cons t, l⟩
theorem trail_path : ∀ {q p : List Nat} {o : Option Nat} {h : Nat}, Trail f o q (some h) → (p ++ q).Nodup → h ∈ p ++ q → ∃ k, Path f k p o (p ++ q) (some h)
  | [], p, o, h, t, nd, hm => by
    cases t
    rw [List.append_nil] at hm ⊢
    exact ⟨0, .again hm⟩
  | x :: q, p, o, h, t, nd, hm => by
    cases t with
    | cons t =>
      have e : p ++ x :: q = (p ++ [x]) ++ q := by rw [List.append_assoc] <;> rfl
      have hx : x ∉ p := fun hp => (List.nodup_append.mp nd).2.2 x hp x List.mem_cons_self rfl
      rw [e] at nd hm ⊢
      obtain ⟨k, a⟩ := trail_path t nd hm
      exact ⟨k + 1, .step hx a⟩
/-- r goes round from b to b -/
structure CycL (f : Nat → Option Nat) (b : Nat) (r : List Nat) : Prop where
  tr : Trail f (some b) r (some b)
  ne : r ≠ []
  nd : r.Nodup
theorem CycL.head {b : Nat} {r : List Nat} (c : CycL f b r) : ∃ q, r = b :: q := by
  cases r with
  | nil => exact absurd rfl c.ne
  | cons x q =>
    have := c.tr
    cases this
    exact ⟨q, rfl⟩
theorem CycL.rot {b x : Nat} {r : List Nat} (c : CycL f b r) (hx : x ∈ r) : ∃ r', CycL f x r' ∧ r'.Perm r := by
  obtain ⟨r1, r2, rfl⟩ := List.append_of_mem hx
  obtain ⟨u, t1, t2⟩ := c.tr.split
  have eu : u = some x := by cases t2; rfl
  subst eu
  exact ⟨x :: r2 ++ r1, ⟨t2.app t1, by simp, (List.perm_append_comm.nodup_iff).mpr c.nd⟩, List.perm_append_comm⟩
end
section
variable {as : List (Option Nat)} {b : Nat}
theorem rng_cyc (cl : Clo as) (hb : b < as.length) (h : (rng as b).head? = some b) : CycL (up as) b (rng as b) := by
  obtain ⟨k, p, o, pa, e⟩ := rng_spec cl hb
  obtain ⟨q, e2, t, l⟩ := path_trail pa
  rw [List.nil_append] at e2
  subst e2
  have nd := path_nd pa List.nodup_nil
  rw [e] at h ⊢
  cases o with
  | none => cases h
  | some x =>
    have hx : x ∈ p := by
      rcases l with z | ⟨y, z, hy⟩
      · cases z
      · cases z; exact hy
    have hi : p.idxOf x < p.length := List.idxOf_lt_length_iff.mpr hx
    have e3 : (p.drop (p.idxOf x)).head? = some x := by
      rw [List.head?_drop, List.getElem?_eq_getElem hi, List.getElem_idxOf hi]
    have ex : x = b := by
      have h : (p.drop (p.idxOf x)).head? = some b := h
      rw [e3] at h
      exact Option.some.inj h
    subst ex
    cases p with
    | nil => cases hx
    | cons y p =>
      have ey : y = x := by cases t; rfl
      subst ey
      have e4 : ringOf (y :: p) (some y) = y :: p := by
        unfold ringOf
        simp
      rw [e4]
      exact ⟨t, by simp, nd⟩
theorem cyc_rng {r : List Nat} (cl : Clo as) (hb : b < as.length) (c : CycL (up as) b r) : rng as b = r := by
  obtain ⟨q, e⟩ := c.head
  obtain ⟨k, pa⟩ := trail_path (p := []) c.tr (by simpa using c.nd) (by rw [e]; simp)
  rw [List.nil_append] at pa
  obtain ⟨k2, p2, o2, pa2, e2⟩ := rng_spec cl hb
  obtain ⟨_, e3, e4⟩ := pa2.det pa
  rw [e2, e3, e4, e]
  unfold ringOf
  simp
theorem cyc_lt {r : List Nat} (cl : Clo as) (hb : b < as.length) (c : CycL (up as) b r) : ∀ x ∈ r, x < as.length := by
  rw [← cyc_rng cl hb c]
  exact rng_lt cl hb
theorem srt_eq {l m : List Nat} : srt l = srt m ↔ l.Perm m := by
  refine ⟨fun e => (srt_perm l).symm.trans (by rw [e]; exact srt_perm m), fun p => iN_inj (srt_is (((srt_perm l).trans p).map _) ?_)⟩
  refine List.pairwise_map.mpr ?_
  have h := List.pairwise_mergeSort (le := fun a b : Nat => decide (a ≤ b)) (fun a b c h1 h2 => by simp at *; omega) (fun a b => by simp; omega) l
  exact h.imp fun {a b} h => by simpa using h
theorem min_mem : ∀ (l : List Nat), l ≠ [] → ∃ m ∈ l, ∀ x ∈ l, m ≤ x
  | [], h => absurd rfl h
  | [x], _ => ⟨x, by simp, fun y hy => by rw [List.mem_singleton.mp hy]; exact Nat.le_refl _⟩
  | x :: y :: l, _ => by
    obtain ⟨m, hm, h⟩ := min_mem (y :: l) (by simp)
    by_cases e : x ≤ m
    · exact ⟨x, List.mem_cons_self, fun z hz => by
        rcases List.mem_cons.mp hz with rfl | hz
        · exact Nat.le_refl _
        · have := h z hz; omega⟩
    · exact ⟨m, List.mem_cons_of_mem _ hm, fun z hz => by
        rcases List.mem_cons.mp hz with rfl | hz
        · omega
        · exact h z hz⟩
theorem rep_of (h : repB as b = true) : (rng as b).head? = some b ∧ ∀ x ∈ rng as b, b ≤ x := by
  unfold repB at h
  rw [Bool.and_eq_true, decide_eq_true_eq, List.all_eq_true] at h
  exact ⟨h.1, fun x hx => by simpa using h.2 x hx⟩
/-- the rings, each seen from any of its boxes -/
theorem loops_mem (cl : Clo as) {g : List Nat → List Nat} (hg : ∀ l m : List Nat, l.Perm m → g l = g m) {T : List Nat} : T ∈ (loops as).map g ↔ ∃ b r, b < as.length ∧ CycL (up as) b r ∧ T = g r := by
  constructor
  · intro h
    obtain ⟨R, hR, rfl⟩ := List.mem_map.mp h
    obtain ⟨b, hb, rfl⟩ := List.mem_map.mp hR
    obtain ⟨h1, h2⟩ := List.mem_filter.mp hb
    have hb := List.mem_range.mp h1
    exact ⟨b, _, hb, rng_cyc cl hb (rep_of h2).1, rfl⟩
  · rintro ⟨b, r, hb, c, rfl⟩
    obtain ⟨m, hm, hmin⟩ := min_mem r c.ne
    obtain ⟨r', c', pm⟩ := c.rot hm
    have hm2 : m < as.length := cyc_lt cl hb c m hm
    have e := cyc_rng cl hm2 c'
    refine List.mem_map.mpr ⟨r', List.mem_map.mpr ⟨m, List.mem_filter.mpr ⟨List.mem_range.mpr hm2, ?_⟩, e⟩, hg _ _ pm⟩
    unfold repB
    rw [e, Bool.and_eq_true, decide_eq_true_eq, List.all_eq_true]
    obtain ⟨q, eq⟩ := c'.head
    exact ⟨by rw [eq] <;> rfl, fun x hx => by simpa using hmin x (pm.mem_iff.mp hx)⟩
theorem loops_nd (cl : Clo as) {α : Type} {g : List Nat → α} (hg : ∀ l ∈ loops as, ∀ m ∈ loops as, g l = g m → l.Perm m) : ((loops as).map g).Nodup := by
  have key : ∀ l : List Nat, l.Nodup → (∀ b ∈ l, b < as.length ∧ repB as b = true) → (l.map (g ∘ rng as)).Nodup := by
    intro l
    induction l with
    | nil => exact fun _ _ => List.nodup_nil
    | cons b l ih =>
      intro nd h
      rw [List.nodup_cons] at nd
      rw [List.map_cons, List.nodup_cons]
      refine ⟨fun hm => ?_, ih nd.2 fun x hx => h x (List.mem_cons_of_mem _ hx)⟩
      obtain ⟨c, hc, e⟩ := List.mem_map.mp hm
      obtain ⟨b1, b2⟩ := h b List.mem_cons_self
      obtain ⟨c1, c2⟩ := h c (List.mem_cons_of_mem _ hc)
      have inl : ∀ {x : Nat}, x < as.length → repB as x = true → rng as x ∈ loops as := fun {x} h1 h2 => List.mem_map.mpr ⟨x, List.mem_filter.mpr ⟨List.mem_range.mpr h1, h2⟩, rfl⟩
      have pm := hg _ (inl c1 c2) _ (inl b1 b2) e
      have m1 : b ∈ rng as c := pm.mem_iff.mpr (List.mem_of_mem_head? (rep_of b2).1)
      have m2 : c ∈ rng as b := pm.mem_iff.mp (List.mem_of_mem_head? (rep_of c2).1)
      have := (rep_of b2).2 c m2
      have := (rep_of c2).2 b m1
      have e2 : b = c := by omega
      exact nd.1 (e2 ▸ hc)
  have e : (loops as).map g = ((List.range as.length).filter (repB as)).map (g ∘ rng as) := by
    show (((List.range as.length).filter (repB as)).map (rng as)).map g = _
    rw [List.map_map]
  rw [e]
  exact key _ (List.nodup_range.sublist List.filter_sublist) fun b hb => by
    obtain ⟨h1, h2⟩ := List.mem_filter.mp hb
    exact ⟨List.mem_range.mp h1, h2⟩
/-- rings that share a box are one ring -/
theorem loops_meet (cl : Clo as) {l m : List Nat} (hl : l ∈ loops as) (hm : m ∈ loops as) {x : Nat} (h1 : x ∈ l) (h2 : x ∈ m) : l.Perm m := by
  have hx := (loops_lt cl hl).1 x h1
  have go : ∀ {l : List Nat}, l ∈ loops as → x ∈ l → (rng as x).Perm l := fun {l} hl h => by
    obtain ⟨b, hb, rfl⟩ := List.mem_map.mp hl
    obtain ⟨h3, h4⟩ := List.mem_filter.mp hb
    obtain ⟨r, c, pm⟩ := (rng_cyc cl (List.mem_range.mp h3) (rep_of h4).1).rot h
    rw [cyc_rng cl hx c]
    exact pm
  exact (go hl h1).symm.trans (go hm h2)
/-- a box on a ring is held -/
theorem loops_up (cl : Clo as) {l : List Nat} (hl : l ∈ loops as) {x : Nat} (hx : x ∈ l) : up as x ≠ none := by
  obtain ⟨b, hb, rfl⟩ := List.mem_map.mp hl
  obtain ⟨h3, h4⟩ := List.mem_filter.mp hb
  obtain ⟨r, c, pm⟩ := (rng_cyc cl (List.mem_range.mp h3) (rep_of h4).1).rot hx
  obtain ⟨q, rfl⟩ := c.head
  have t := c.tr
  cases t with
  | cons t =>
    intro e
    rw [e] at t
    cases t
end
section
variable {n : Nat} {nu : Nat → Nat} {as as' : List (Option Nat)}
theorem Ren.trail (R : Ren n nu as as') (cl : Clo as) {o u : Option Nat} {p : List Nat} (t : Trail (up as) o p u) : (∀ x, o = some x → x < n) → Trail (up as') (o.map nu) (p.map nu) (u.map nu) := by
  induction t with
  | nil => exact fun _ => .nil
  | @cons h p o t ih =>
    intro ho
    have := ih fun x hx => R.bnd cl x hx
    rw [← R.fol h (ho h rfl)] at this
    exact .cons this
theorem Ren.back (R : Ren n nu as as') (cl : Clo as) : ∀ {p' : List Nat} {o u' : Option Nat}, Trail (up as') (o.map nu) p' u' → (∀ x, o = some x → x < n) → ∃ p u, p' = p.map nu ∧ u' = u.map nu ∧ Trail (up as) o p u ∧ (∀ x, u = some x → x < n) ∧ ∀ x ∈ p, x < n
  | [], o, u', t, ho => by
    have e : u' = o.map nu := by
      generalize o.map nu = z at t
      cases t
      rfl
    exact ⟨[], o, rfl, e, .nil, ho, fun x hx => absurd hx (by simp)⟩
  | y :: p', o, u', t, ho => by
    cases o with
    | none =>
      have t : Trail (up as') none (y :: p') u' := t
      cases t
    | some h =>
      have t : Trail (up as') (some (nu h)) (y :: p') u' := t
      cases t with
      | cons t =>
        rw [R.fol h (ho h rfl)] at t
        obtain ⟨p, u, e1, e2, t2, b1, b2⟩ := R.back cl t fun x hx => R.bnd cl x hx
        refine ⟨h :: p, u, by rw [e1] <;> rfl, e2, .cons t2, b1, fun x hx => ?_⟩
        rcases List.mem_cons.mp hx with rfl | hx
        · exact ho _ rfl
        · exact b2 x hx
theorem map_nd (B : Bij n nu) : ∀ {l : List Nat}, (∀ x ∈ l, x < n) → (l.Nodup ↔ (l.map nu).Nodup)
  | [], _ => ⟨fun _ => List.nodup_nil, fun _ => List.nodup_nil⟩
  | x :: l, h => by
    rw [List.map_cons, List.nodup_cons, List.nodup_cons, mem_nu B (fun y hy => h y (List.mem_cons_of_mem _ hy)) (h x List.mem_cons_self), map_nd B fun y hy => h y (List.mem_cons_of_mem _ hy)]
theorem map_pm (B : Bij n nu) {l m : List Nat} (hl : ∀ x ∈ l, x < n) (hm : ∀ x ∈ m, x < n) (p : (l.map nu).Perm (m.map nu)) : l.Perm m := by
  rw [List.perm_iff_count]
  intro a
  by_cases ha : a < n
  · have := p.count_eq (nu a)
    have e : ∀ l : List Nat, (∀ x ∈ l, x < n) → (l.map nu).count (nu a) = l.count a := by
      intro l
      induction l with
      | nil => intro _; rfl
      | cons x l ih =>
        intro h
        rw [List.map_cons, List.count_cons, List.count_cons, ih fun y hy => h y (List.mem_cons_of_mem _ hy)]
        have : (nu x == nu a) = (x == a) := by
          rw [Bool.eq_iff_iff, beq_iff_eq, beq_iff_eq]
          exact ⟨fun e => B.inj (h x List.mem_cons_self) ha e, fun e => by rw [e]⟩
        rw [this]
    rw [e l hl, e m hm] at this
    exact this
  · rw [List.count_eq_zero_of_not_mem fun h => ha (hl a h), List.count_eq_zero_of_not_mem fun h => ha (hm a h)]
/-- the rings under the new names are the rings -/
theorem loops_nu (R : Ren n nu as as') (B : Bij n nu) (cl : Clo as) : ((loops as').map srt).Perm ((loops as).map fun r => srt (r.map nu)) := by
  have cl' := R.clo B cl
  have g1 : ∀ l m : List Nat, l.Perm m → srt l = srt m := fun l m p => srt_eq.mpr p
  have g2 : ∀ l m : List Nat, l.Perm m → srt (l.map nu) = srt (m.map nu) := fun l m p => srt_eq.mpr (p.map nu)
  refine (List.perm_ext_iff_of_nodup (loops_nd cl' fun l _ m _ e => srt_eq.mp e) (loops_nd cl fun l hl m hm e => ?_)).mpr fun T => ?_
  · have hl := (loops_lt cl hl).1
    have hm := (loops_lt cl hm).1
    rw [R.len] at hl hm
    exact map_pm B hl hm (srt_eq.mp e)
  · rw [loops_mem cl' g1, loops_mem cl g2]
    constructor
    · rintro ⟨b', r', hb', c, rfl⟩
      rw [R.len'] at hb'
      obtain ⟨b, hb, rfl⟩ := B.sur hb'
      obtain ⟨p, u, e1, e2, t, b1, b2⟩ := R.back cl (o := some b) c.tr fun x hx => by cases hx; exact hb
      have eu : u = some b := (opt_nu B b1 (fun x hx => by cases hx; exact hb)).mp e2.symm
      subst eu
      refine ⟨b, p, by rw [R.len]; exact hb, ⟨t, fun z => c.ne (by rw [e1, z] <;> rfl), (map_nd B b2).mpr (by rw [← e1]; exact c.nd)⟩, by rw [e1]⟩
    · rintro ⟨b, r, hb, c, rfl⟩
      have lt := cyc_lt cl hb c
      rw [R.len] at hb lt
      exact ⟨nu b, r.map nu, by rw [R.len']; exact B.lt hb, ⟨R.trail cl c.tr fun x hx => by cases hx; exact hb, fun z => c.ne (List.map_eq_nil_iff.mp z), (map_nd B lt).mp c.nd⟩, rfl⟩
end
end K16
set_option maxHeartbeats 4000000
/-! ### the mathematics: breakers and the cheapest goal under other names -/
namespace K16
open L2
theorem brk_pm {Y : Yd} {W : List (Option (Option Nat))} {R S : List Nat} (p : R.Perm S) : brk Y W R = brk Y W S := by
  unfold brk cand
  rw [srt_eq.mpr p]
theorem brk_lt {Y : Yd} {W : List (Option (Option Nat))} {R : List Nat} {x : Nat} (h : x ∈ brk Y W R) : x ∈ R ∧ isOpen W x = true ∧ (pr Y x).isSome = true := cand_sub (brk_sub h)
theorem brk_pr {Y : Yd} {W : List (Option (Option Nat))} {R : List Nat} {x : Nat} (h : x ∈ brk Y W R) : pr Y x = lowP Y (cand Y W R) := by
  have := (List.mem_filter.mp h).2
  simpa using this
theorem srt_le (R : List Nat) : (srt R).Pairwise (· ≤ ·) := by
  have h := List.pairwise_mergeSort (le := fun a b : Nat => decide (a ≤ b)) (fun a b c h1 h2 => by simp at *; omega) (fun a b => by simp; omega) R
  exact h.imp fun {a b} h => by simpa using h
theorem srt_of {l R : List Nat} (p : l.Perm R) (o : l.Pairwise (· ≤ ·)) : l = srt R := iN_inj (srt_is (p.map _) (List.pairwise_map.mpr (o.imp fun {a b} h => by omega)))
theorem min_pm {l m : List Int} (p : l.Perm m) : l.min? = m.min? := by
  cases e : m.min? with
  | none =>
    rw [List.min?_eq_none_iff] at e ⊢
    rw [e] at p
    exact List.perm_nil.mp p
  | some a =>
    obtain ⟨h1, h2⟩ := List.min?_eq_some_iff.mp e
    exact List.min?_eq_some_iff.mpr ⟨p.mem_iff.mpr h1, fun b hb => h2 b (p.mem_iff.mp hb)⟩
/-- W' is the wish W under the new names -/
structure WRen (n : Nat) (nu : Nat → Nat) (Y Y' : Yd) (W W' : List (Option (Option Nat))) : Prop where
  opn : ∀ k, k < n → isOpen W' (nu k) = isOpen W k
  arr : Ren n nu (arr (hsOf Y) W) (arr (hsOf Y') W')
section
variable {n : Nat} {nu : Nat → Nat} {Y Y' : Yd} {W W' : List (Option (Option Nat))}
theorem cand_nu (R : YRen n nu Y Y') (w : WRen n nu Y Y' W W') {r : List Nat} (hr : ∀ x ∈ r, x < n) : (cand Y' W' (r.map nu)).Perm ((cand Y W r).map nu) := by
  unfold cand
  refine ((srt_perm (r.map nu)).trans ((srt_perm r).symm.map nu)).filter _ |>.trans (List.Perm.of_eq ?_)
  rw [List.filter_map]
  congr 1
  refine List.filter_congr fun k hk => ?_
  have hk := hr k ((srt_perm r).mem_iff.mp hk)
  show (isOpen W' (nu k) && (pr Y' (nu k)).isSome) = _
  rw [w.opn k hk, R.pr k hk]
theorem cand_n {r : List Nat} (hr : ∀ x ∈ r, x < n) : ∀ x ∈ cand Y W r, x < n := fun x hx => hr x (cand_sub hx).1
theorem low_nu (R : YRen n nu Y Y') {l l' : List Nat} (p : l'.Perm (l.map nu)) (hl : ∀ x ∈ l, x < n) : lowP Y' l' = lowP Y l := by
  unfold lowP
  rw [min_pm (p.map _), List.map_map]
  congr 1
  exact List.map_congr_left fun k hk => by
    show (pr Y' (nu k)).getD 0 = _
    rw [R.pr k (hl k hk)]
theorem brk_nu (R : YRen n nu Y Y') (w : WRen n nu Y Y' W W') {r : List Nat} (hr : ∀ x ∈ r, x < n) : brk Y' W' (r.map nu) = srt ((brk Y W r).map nu) := by
  refine srt_of ?_ (List.Pairwise.filter _ (List.Pairwise.filter _ (srt_le _)))
  unfold brk
  rw [low_nu R (cand_nu R w hr) (cand_n hr)]
  refine ((cand_nu R w hr).filter _).trans (List.Perm.of_eq ?_)
  rw [List.filter_map]
  congr 1
  refine List.filter_congr fun k hk => ?_
  show decide (pr Y' (nu k) = _) = _
  rw [R.pr k (cand_n hr k hk)]
theorem map_srt {β : Type} {L : List (List Nat)} {g : List Nat → β} (hg : ∀ l m : List Nat, l.Perm m → g l = g m) : L.map g = (L.map srt).map g := by
  rw [List.map_map]
  exact List.map_congr_left fun r _ => hg _ _ (srt_perm r).symm
/-- what is asked of each ring, under the new names -/
theorem rings_nu (w : WRen n nu Y Y' W W') (B : Bij n nu) (cl : Clo (arr (hsOf Y) W)) {β : Type} {g g' : List Nat → β} (h1 : ∀ l m : List Nat, l.Perm m → g' l = g' m) (h2 : ∀ r ∈ loops (arr (hsOf Y) W), g' (r.map nu) = g r) : ((loops (arr (hsOf Y') W')).map g').Perm ((loops (arr (hsOf Y) W)).map g) := by
  rw [map_srt h1]
  refine ((loops_nu w.arr B cl).map g').trans (List.Perm.of_eq ?_)
  rw [List.map_map]
  exact List.map_congr_left fun r hr => by
    show g' (srt (r.map nu)) = g r
    rw [h1 _ _ (srt_perm _), h2 r hr]
theorem ring_n (w : WRen n nu Y Y' W W') (cl : Clo (arr (hsOf Y) W)) {r : List Nat} (hr : r ∈ loops (arr (hsOf Y) W)) : ∀ x ∈ r, x < n := by
  have := (loops_lt cl hr).1
  rwa [w.arr.len] at this
theorem brkL_nu (R : YRen n nu Y Y') (w : WRen n nu Y Y' W W') (B : Bij n nu) (cl : Clo (arr (hsOf Y) W)) : (brkL Y' W').Perm ((brkL Y W).map fun l => srt (l.map nu)) := by
  unfold brkL
  rw [List.map_map]
  exact rings_nu w B cl (fun l m p => brk_pm p) fun r hr => brk_nu R w (ring_n w cl hr)
theorem any_nu (B : Bij n nu) {p p' : Nat → Bool} (h : ∀ k, k < n → p' (nu k) = p k) : (List.range n).any p' = (List.range n).any p := by
  rw [Bool.eq_iff_iff, List.any_eq_true, List.any_eq_true]
  constructor
  · rintro ⟨b, hb, hp⟩
    obtain ⟨k, hk, rfl⟩ := B.sur (List.mem_range.mp hb)
    exact ⟨k, List.mem_range.mpr hk, by rw [← h k hk]; exact hp⟩
  · rintro ⟨k, hk, hp⟩
    have hk := List.mem_range.mp hk
    exact ⟨nu k, List.mem_range.mpr (B.lt hk), by rw [h k hk]; exact hp⟩
theorem bar_nu (R : YRen n nu Y Y') (w : WRen n nu Y Y' W W') (B : Bij n nu) (cl : Clo (arr (hsOf Y) W)) (ch : Clo (hsOf Y)) : barB Y' W' = barB Y W := by
  unfold barB
  rw [R.len, R.len']
  congr 1
  · refine any_nu B fun k hk => ?_
    unfold badB
    rw [R.pr k hk, w.arr.eq_ R.hs B cl ch hk]
  · have e : ∀ (Y : Yd) (W : List (Option (Option Nat))), (loops (arr (hsOf Y) W)).any (fun R => (brk Y W R).isEmpty) = ((loops (arr (hsOf Y) W)).map fun R => (brk Y W R).isEmpty).any id := fun Y W => by rw [List.any_map] <;> rfl
    rw [e, e]
    have p := rings_nu (g := fun r => (brk Y W r).isEmpty) (g' := fun r => (brk Y' W' r).isEmpty) w B cl (fun l m p => by rw [brk_pm p]) fun r hr => by
      rw [brk_nu R w (ring_n w cl hr), Bool.eq_iff_iff, List.isEmpty_iff, List.isEmpty_iff]
      refine ⟨fun z => ?_, fun z => List.eq_nil_of_length_eq_zero (by rw [z]; exact (srt_perm _).length_eq)⟩
      have := (srt_perm ((brk Y W r).map nu)).length_eq
      rw [z, List.length_map] at this
      exact List.length_eq_zero_iff.mp this.symm
    rw [Bool.eq_iff_iff, List.any_eq_true, List.any_eq_true]
    exact ⟨fun ⟨x, h1, h2⟩ => ⟨x, p.mem_iff.mp h1, h2⟩, fun ⟨x, h1, h2⟩ => ⟨x, p.mem_iff.mpr h1, h2⟩⟩
end
/-! ### the cheapest goal's cost, box by box and ring by ring -/
theorem filter_or (f : Nat → Int) (p q : Nat → Bool) : ∀ {l : List Nat}, (∀ b ∈ l, p b = true → q b = false) → ((l.filter fun b => p b || q b).map f).sum = ((l.filter p).map f).sum + ((l.filter q).map f).sum
  | [], _ => rfl
  | b :: l, h => by
    have ih := filter_or f p q (l := l) fun x hx => h x (List.mem_cons_of_mem _ hx)
    have hb := h b List.mem_cons_self
    rw [List.filter_cons, List.filter_cons, List.filter_cons]
    cases hp : p b with
    | true =>
      rw [hb hp, if_pos (by rfl), if_pos rfl, if_neg (by decide), List.map_cons, List.map_cons, List.sum_cons, List.sum_cons, ih]
      omega
    | false =>
      cases hq : q b with
      | true =>
        rw [if_pos (by rfl), if_neg (by decide), if_pos rfl, List.map_cons, List.map_cons, List.sum_cons, List.sum_cons, ih]
        omega
      | false =>
        rw [if_neg (by decide), if_neg (by decide), if_neg (by decide)]
        exact ih
/-- the price of a ring's breaker -/
noncomputable def ringP (Y : Yd) (W : List (Option (Option Nat))) (r : List Nat) : Int := (pr Y ((brk Y W r).headD 0)).getD 0
section
variable {Y : Yd} {W : List (Option (Option Nat))}
theorem open_up (hW : W.length = Y.length) {b : Nat} (hb : b < Y.length) (h : isOpen W b = true) : up (arr (hsOf Y) W) b = up (hsOf Y) b := by
  obtain ⟨x, hx⟩ := get_ex (l := W) (i := b) (by omega)
  rw [open_at hx] at h
  rw [arr_at hx (up_at (by rw [hsOf_len]; exact hb))]
  cases x with
  | none => rfl
  | some o => cases h
theorem best_cost (ok : VY Y) (ow : VW Y.length W) (h : barB Y W = false) : costN Y (bestG Y W) =
    (((List.range Y.length).filter fun b => !decide (up (hsOf Y) b = up (arr (hsOf Y) W) b)).map fun b => (pr Y b).getD 0).sum + ((loops (arr (hsOf Y) W)).map (ringP Y W)).sum := by
  have acl : Clo (arr (hsOf Y) W) := arr_clo ok.fo.1 (by rw [hsOf_len]; exact ow)
  have mem : ∀ b ∈ brks Y W, b < Y.length ∧ up (arr (hsOf Y) W) b = up (hsOf Y) b ∧ up (hsOf Y) b ≠ none := fun b hb => by
    obtain ⟨r, hr, h1, _⟩ := brks_mem h hb
    obtain ⟨h2, h3, _⟩ := brk_lt h1
    have lt := (loops_lt acl hr).1 b h2
    rw [arr_len (by rw [hsOf_len]; exact ow.len), hsOf_len] at lt
    have e := open_up ow.len lt h3
    exact ⟨lt, e, by rw [← e]; exact loops_up acl hr h2⟩
  have e1 : someOf (hsOf Y) (bestG Y W) = (List.range Y.length).filter fun b => (!decide (up (hsOf Y) b = up (arr (hsOf Y) W) b)) || decide (b ∈ brks Y W) := by
    unfold someOf
    rw [hsOf_len]
    refine List.filter_congr fun b hb => ?_
    have hb := List.mem_range.mp hb
    rw [best_up W hb]
    by_cases hm : b ∈ brks Y W
    · rw [if_pos hm, decide_eq_true hm, Bool.or_true, decide_eq_false (mem b hm).2.2] <;> rfl
    · rw [if_neg hm, decide_eq_false hm, Bool.or_false]
  unfold costN
  rw [e1, filter_or]
  · congr 1
    have nd : (brks Y W).Nodup := by
      refine loops_nd acl fun l hl m hm e => ?_
      have h1 : (brk Y W l).headD 0 ∈ l := by
        have := (bar_no h).2 l hl
        cases eb : brk Y W l with
        | nil => exact absurd eb this
        | cons x t => exact (brk_lt (show x ∈ brk Y W l by rw [eb]; exact List.mem_cons_self)).1
      have h2 : (brk Y W m).headD 0 ∈ m := by
        have := (bar_no h).2 m hm
        cases eb : brk Y W m with
        | nil => exact absurd eb this
        | cons x t => exact (brk_lt (show x ∈ brk Y W m by rw [eb]; exact List.mem_cons_self)).1
      rw [e] at h1
      exact loops_meet acl hl hm h1 h2
    have p : ((List.range Y.length).filter fun b => decide (b ∈ brks Y W)).Perm (brks Y W) := by
      refine (List.perm_ext_iff_of_nodup (List.nodup_range.sublist List.filter_sublist) nd).mpr fun b => ?_
      rw [List.mem_filter, List.mem_range, decide_eq_true_eq]
      exact ⟨fun z => z.2, fun z => ⟨(mem b z).1, z⟩⟩
    rw [perm_sum (p.map _)]
    unfold brks
    rw [List.map_map]
    rfl
  · intro b hb hp
    have hp : (!decide (up (hsOf Y) b = up (arr (hsOf Y) W) b)) = true := hp
    refine decide_eq_false fun hm => ?_
    rw [(mem b hm).2.1, decide_eq_true rfl] at hp
    cases hp
end
section
variable {n : Nat} {nu : Nat → Nat} {Y Y' : Yd} {W W' : List (Option (Option Nat))}
theorem cheap_nu (R : YRen n nu Y Y') (w : WRen n nu Y Y' W W') (B : Bij n nu) (ok : VY Y) (ow : VW Y.length W) (ok' : VY Y') (ow' : VW Y'.length W') : cheapV Y' W' = cheapV Y W := by
  have cl : Clo (arr (hsOf Y) W) := arr_clo ok.fo.1 (by rw [hsOf_len]; exact ow)
  have eb := bar_nu R w B cl ok.fo.1
  unfold cheapV
  rw [eb]
  cases hb : barB Y W with
  | true => rfl
  | false =>
    rw [if_neg (by decide), if_neg (by decide)]
    congr 1
    rw [best_cost ok ow hb, best_cost ok' ow' (by rw [eb]; exact hb), R.len, R.len']
    congr 1
    · refine sum_nu (B.filter fun k hk => ?_) fun k hk => ?_
      · rw [R.hs.eq_ w.arr B ok.fo.1 cl hk]
      · rw [R.pr k (List.mem_range.mp (List.mem_filter.mp hk).1)]
    · refine perm_sum (rings_nu w B cl (fun l m p => by unfold ringP; rw [brk_pm p]) fun r hr => ?_)
      have hn := ring_n w cl hr
      have ne := (bar_no hb).2 r hr
      unfold ringP
      rw [brk_nu R w hn]
      congr 1
      -- both are the lowest price
      have hd : ∀ {l : List Nat}, l ≠ [] → l.headD 0 ∈ l := fun {l} h => by
        cases l with
        | nil => exact absurd rfl h
        | cons x t => exact List.mem_cons_self
      have ne2 : srt ((brk Y W r).map nu) ≠ [] := fun z => by
        have := (srt_perm ((brk Y W r).map nu)).length_eq
        rw [z, List.length_map] at this
        exact ne (List.length_eq_zero_iff.mp this.symm)
      obtain ⟨y, hy, e⟩ := List.mem_map.mp ((srt_perm _).mem_iff.mp (hd ne2))
      rw [← e, R.pr y (hn y (brk_lt hy).1), brk_pr hy, brk_pr (hd ne)]
end
end K16
set_option maxHeartbeats 4000000
/-! ### the mathematics: what the law's rows are; dearer prices -/
namespace K16
open L2
abbrev nuOf (N : List Nat) : Nat → Nat := fun k => N.getD k 0
theorem mvd_ren {N : List Nat} {n : Nat} {gs : List (Option Nat)} {W' : List (Option (Option Nat))} (pm : N.Perm (List.range n)) (lg : gs.length = n) (M : Mvd N (gs.map some) W') : ∃ gs', W' = gs'.map some ∧ Ren n (nuOf N) gs gs' := by
  have B := bij_names pm
  have l' : W'.length = n := by rw [M.1, List.length_map, lg]
  have at_ : ∀ k, k < n → W'[nuOf N k]? = some (some ((up gs k).map (nuOf N))) := fun k hk => by
    have h := M.2 k (some (up gs k)) (by rw [List.getElem?_map, up_at (by omega)] <;> rfl)
    rw [h]
    cases up gs k <;> rfl
  refine ⟨W'.map fun x => x.getD none, ?_, lg, by rw [List.length_map, l'], fun k hk => ?_⟩
  · apply List.ext_getElem
    · simp
    · intro i h1 h2
      rw [l'] at h1
      obtain ⟨k, hk, e⟩ := B.sur h1
      have h := at_ k hk
      have e : nuOf N k = i := e
      rw [e, List.getElem?_eq_getElem (by omega)] at h
      simp [Option.some.inj h]
  · refine up_of ?_
    rw [List.getElem?_map, at_ k hk] <;> rfl
theorem wren_of {N : List Nat} {n : Nat} {Y Y' : Yd} {W W' : List (Option (Option Nat))} (pm : N.Perm (List.range n)) (R : YRen n (nuOf N) Y Y') (lw : W.length = n) (M : Mvd N W W') (ow : VW n W) : WRen n (nuOf N) Y Y' W W' ∧ VW n W' := by
  have B := bij_names pm
  have l' : W'.length = n := by rw [M.1, lw]
  have lh : (hsOf Y).length = n := R.hs.len
  have lh' : (hsOf Y').length = n := R.hs.len'
  refine ⟨⟨fun k hk => ?_, (arr_len (hs := hsOf Y) (W := W) (by omega)).trans lh, ?_, fun k hk => ?_⟩, l', fun x hx h e => ?_⟩
  · have hx : W[k]? = some W[k] := by simp [show k < W.length by omega]
    have h2 := M.2 k _ hx
    rw [open_at hx, open_at (W := W') (x := rn N W[k]) h2]
    cases W[k] with
    | none => rfl
    | some o => cases o <;> rfl
  · rw [arr_len (hs := hsOf Y') (W := W') (by omega), lh']
  · have hx : W[k]? = some W[k] := by simp [show k < W.length by omega]
    have h2 := M.2 k _ hx
    have hb : nuOf N k < n := B.lt hk
    rw [arr_at hx (up_at (by omega)), arr_at (W := W') (x := rn N W[k]) h2 (up_at (by rw [lh']; exact hb)), R.hs.fol k hk]
    cases W[k] with
    | none => rfl
    | some o => cases o <;> rfl
  · subst e
    obtain ⟨b, hb⟩ := List.mem_iff_getElem?.mp hx
    have hbn := (List.getElem?_eq_some_iff.mp hb).1
    rw [l'] at hbn
    obtain ⟨k, hk, rfl⟩ := B.sur hbn
    have hxk : W[k]? = some W[k] := by simp [show k < W.length by omega]
    have h2 := M.2 k _ hxk
    have hb : W'[N.getD k 0]? = some (some (some h)) := hb
    rw [h2] at hb
    have hb := Option.some.inj hb
    cases ew : W[k] with
    | none => rw [ew] at hb; cases hb
    | some o =>
      cases o with
      | none => rw [ew] at hb; cases hb
      | some y =>
        rw [ew] at hb
        cases hb
        exact B.lt (ow.lt _ (List.getElem_mem _) y ew)
/-- the law's other yard -/
theorem yren_of {N : List Nat} {n : Nat} {Y : Yd} {ps : List (Option Int)} {hs' : List (Option Nat)} (pm : N.Perm (List.range n)) (ok : VY Y) (ln : Y.length = n) (R : Ren n (nuOf N) (hsOf Y) hs') (lp : ps.length = n) (hp : ∀ k, k < n → ps[nuOf N k]? = some (pr Y k)) : YRen n (nuOf N) Y (ps.zip hs') ∧ VY (ps.zip hs') := by
  have B := bij_names pm
  have eh : hsOf (ps.zip hs') = hs' := for_hs rfl (by rw [lp, R.len'])
  have lz : (ps.zip hs').length = n := by rw [List.length_zip, lp, R.len', Nat.min_self]
  have prb : ∀ b, b < n → ∃ k, k < n ∧ nuOf N k = b ∧ (ps.zip hs')[b]? = some (pr Y k, up hs' b) := fun b hb => by
    obtain ⟨k, hk, e⟩ := B.sur hb
    refine ⟨k, hk, e, ?_⟩
    rw [List.getElem?_zip_eq_some]
    exact ⟨by rw [← e]; exact hp k hk, up_at (by rw [R.len']; exact hb)⟩
  refine ⟨⟨ln, lz, by rw [eh]; exact R, fun k hk => ?_⟩, ⟨by have := ok.ne; omega, by have := ok.le; omega, fun z hz p e => ?_, by rw [eh]; exact R.for' B ok.fo⟩⟩
  · obtain ⟨j, hj, ej, h⟩ := prb (nuOf N k) (B.lt hk)
    have := B.inj hj hk ej
    subst this
    rw [pr_at h]
  · obtain ⟨b, hb⟩ := List.mem_iff_getElem?.mp hz
    have hbn := (List.getElem?_eq_some_iff.mp hb).1
    rw [lz] at hbn
    obtain ⟨k, hk, _, h⟩ := prb b hbn
    rw [h] at hb
    cases hb
    have hk2 : k < Y.length := by omega
    exact ok.pr Y[k] (List.getElem_mem hk2) p (by rw [← pr_at (b := k) (z := Y[k]) (List.getElem?_eq_getElem hk2)]; exact e)
/-! ### dearer prices -/
def scl (o : Int) (Y : Yd) : Yd := Y.map fun z => (z.1.map (· * o), z.2)
def sclV (o : Int) : V → V
  | .int i => .int (i * o)
  | v => v
section
variable {o : Int} {Y : Yd} {gs : List (Option Nat)} {W : List (Option (Option Nat))}
theorem scl_hs : hsOf (scl o Y) = hsOf Y := by
  unfold hsOf scl
  rw [List.map_map] <;> rfl
theorem scl_len : (scl o Y).length = Y.length := List.length_map _
theorem scl_pr (b : Nat) : pr (scl o Y) b = (pr Y b).map (· * o) := by
  unfold pr scl
  rw [List.getD_eq_getElem?_getD, List.getD_eq_getElem?_getD, List.getElem?_map]
  cases Y[b]? <;> rfl
theorem scl_get (b : Nat) : (pr (scl o Y) b).getD 0 = (pr Y b).getD 0 * o := by
  rw [scl_pr]
  cases pr Y b with
  | none => show (0 : Int) = 0 * o; omega
  | some z => rfl
theorem scl_some (b : Nat) : (pr (scl o Y) b).isSome = (pr Y b).isSome := by
  rw [scl_pr]
  cases pr Y b <;> rfl
theorem sum_mul (f : Nat → Int) : ∀ l : List Nat, (l.map fun b => f b * o).sum = (l.map f).sum * o
  | [] => by show (0 : Int) = 0 * o; omega
  | b :: l => by rw [List.map_cons, List.map_cons, List.sum_cons, List.sum_cons, sum_mul f l, Int.add_mul]
theorem scl_may : mayB (scl o Y) gs = mayB Y gs := by
  unfold mayB
  rw [scl_hs]
  congr 1
  funext b
  exact scl_some b
theorem scl_cost : costN (scl o Y) gs = costN Y gs * o := by
  unfold costN
  rw [scl_hs, ← sum_mul]
  congr 1
  exact List.map_congr_left fun b _ => scl_get b
theorem scl_least : leastV (scl o Y) gs = sclV o (leastV Y gs) := by
  unfold leastV
  rw [scl_may, scl_cost]
  cases mayB Y gs <;> rfl
theorem scl_few : fewV (scl o Y) gs = fewV Y gs := by
  unfold fewV
  rw [scl_may, scl_hs]
theorem scl_reach : reachN (scl o Y) = reachN Y := by
  have e1 : freeN (scl o Y) = freeN Y := by
    rw [free_eq, free_eq, scl_len]
    congr 2
    funext b
    exact scl_some b
  have e2 : topsN (scl o Y) = topsN Y := by
    unfold topsN topF
    rw [scl_hs, scl_len]
    congr 2
    funext b
    congr 2
    funext x
    exact scl_some x
  unfold reachN
  rw [e1, e2, scl_len]
theorem mul_inj (ho : 0 < o) {a b : Int} : a * o = b * o ↔ a = b := ⟨fun h => Int.eq_of_mul_eq_mul_right (by omega) h, fun h => by rw [h]⟩
theorem min_mul (ho : 0 < o) (l : List Int) : (l.map (· * o)).min? = l.min?.map (· * o) := by
  cases e : l.min? with
  | none =>
    rw [List.min?_eq_none_iff] at e
    rw [e] <;> rfl
  | some a =>
    obtain ⟨h1, h2⟩ := List.min?_eq_some_iff.mp e
    refine List.min?_eq_some_iff.mpr ⟨List.mem_map.mpr ⟨a, h1, rfl⟩, fun b hb => ?_⟩
    obtain ⟨c, hc, rfl⟩ := List.mem_map.mp hb
    exact Int.mul_le_mul_of_nonneg_right (h2 c hc) (by omega)
theorem scl_cand (r : List Nat) : cand (scl o Y) W r = cand Y W r := by
  unfold cand
  congr 1
  funext b
  rw [scl_some]
theorem scl_low (ho : 0 < o) (l : List Nat) : lowP (scl o Y) l = (lowP Y l).map (· * o) := by
  unfold lowP
  rw [← min_mul ho, List.map_map]
  congr 1
  exact List.map_congr_left fun b _ => scl_get b
theorem scl_brk (ho : 0 < o) (r : List Nat) : brk (scl o Y) W r = brk Y W r := by
  unfold brk
  rw [scl_cand, scl_low ho]
  congr 1
  funext b
  rw [scl_pr]
  refine decide_eq_decide.mpr ?_
  cases pr Y b <;> cases lowP Y (cand Y W r) <;> simp [mul_inj ho]
theorem scl_bar (ho : 0 < o) : barB (scl o Y) W = barB Y W := by
  unfold barB
  rw [scl_hs, scl_len]
  congr 1
  · congr 1
    funext b
    unfold badB
    rw [scl_hs, scl_pr]
    cases pr Y b <;> rfl
  · congr 1
    funext r
    rw [scl_brk ho]
theorem scl_best (ho : 0 < o) : bestG (scl o Y) W = bestG Y W := by
  have e : brks (scl o Y) W = brks Y W := by
    unfold brks
    rw [scl_hs]
    exact List.map_congr_left fun r _ => by rw [scl_brk ho]
  unfold bestG
  rw [scl_hs, scl_len, e]
theorem scl_cheap (ho : 0 < o) : cheapV (scl o Y) W = sclV o (cheapV Y W) := by
  unfold cheapV
  rw [scl_bar ho, scl_best ho, scl_cost]
  cases barB Y W <;> rfl
theorem scl_ok (ok : VY Y) (ho : 1 ≤ o) (h : ∀ z ∈ Y, ∀ p, z.1 = some p → p * o ≤ 99) : VY (scl o Y) := by
  refine ⟨by rw [scl_len]; exact ok.ne, by rw [scl_len]; exact ok.le, fun z hz p e => ?_, by rw [scl_hs]; exact ok.fo⟩
  obtain ⟨y, hy, rfl⟩ := List.mem_map.mp hz
  cases ey : y.1 with
  | none => rw [show (y.1.map (· * o), y.2).1 = y.1.map (· * o) from rfl, ey] at e; cases e
  | some q =>
    rw [show (y.1.map (· * o), y.2).1 = y.1.map (· * o) from rfl, ey] at e
    cases e
    have h1 := (ok.pr y hy q ey).1
    refine ⟨?_, h y hy q ey⟩
    have : q * 1 ≤ q * o := Int.mul_le_mul_of_nonneg_left ho (by omega)
    show 1 ≤ q * o
    omega
end
end K16
set_option maxHeartbeats 8000000
/-! ### the law -/
namespace K16
open PySem PySem.Spec PyProof.Rows L2 LamX Evl
/-- all stays but the drawing's state and the tables -/
abbrev Sy (st : Addr) (H H' : Hp) : Prop := ExtN (hid st H) H'
section
variable {K : PySem.W.Frag} {st sc : Addr} {H H1 H2 : Hp} {TT : List (Addr × Str)}
theorem sy_of (e : Ex (hid st H) H1) : Sy st H H1 := exn_of e
theorem sy_ex (e : Ex H H1) : Sy st H H1 := fun b o h _ => e b o (hid_no h).2
theorem sy_n (e : ExtN H H1) : Sy st H H1 := fun b o h n => e b o (hid_no h).2 n
theorem sy_go (a : Sy st H H1) (b : Sy st H1 H2) : Sy st H H2 := fun c o h n => b c o (hid_at (a c o h n) (hid_no h).1) n
theorem sy_at (e : Sy st H H1) {b : Addr} {o : HO} (h : H b = some o) (n : b ≠ st) (t : ∀ ps, o ≠ .tbl ps) : H1 b = some o := e b o (hid_at h n) t
theorem st_n (s : StAt H st sc) (e : ExtN H H1) : StAt H1 st sc := let ⟨a, m, r, h, g⟩ := s; ⟨a, m, r, e _ _ h (fun ps z => by cases z), g⟩
theorem sy_t {a : Addr} {xs : List V} (s : StAt H st sc) (e : Sy st H H1) (h : SqT K H a xs) : SqT K H1 a xs := by
  obtain ⟨ys, hs⟩ := s.lst
  exact exn_t e (hid_t h hs)
theorem sy_y {a : Addr} {Y : Yd} (s : StAt H st sc) (e : Sy st H H1) (h : YAt K H a Y) : YAt K H1 a Y := by
  obtain ⟨ys, hs⟩ := s.lst
  exact (h.hid hs).monoN e
theorem sy_sc (e : Sy st H H1) (x : ScAt K H st sc) : ScAt K H1 st sc := by
  obtain ⟨ns, h⟩ := x
  refine ⟨ns, exn_l (H := hid st H) (fun b o h n => hid_at (e b o h n) (hid_no h).1) h⟩
theorem sy_tabs (s : StAt H st sc) (T : Tabs TT H) (e : Ex (hid st H) H1) : Tabs TT H1 := by
  obtain ⟨ys, hs⟩ := s.lst
  refine Tabs.ext (H := hid st H) (fun p hp => ?_) e
  obtain ⟨ps, h1, h2, h3⟩ := T p hp
  refine ⟨ps, hid_at h1 (ne_of h1 hs (by intro z; cases z)), h2, fun pos cv hc => ?_⟩
  obtain ⟨c, e1, e2⟩ := h3 pos cv hc
  refine ⟨c, e1, hid_at e2 (ne_of e2 hs ?_)⟩
  unfold CodeO
  intro z
  cases z
/-- ints and Nones as data -/
def vD : V → PyData
  | .int i => .int i
  | _ => .none
theorem dp_vs {p : Addr} {xs : List V} (h : SqT K H p xs) (hx : ∀ x ∈ xs, x = .non ∨ ∃ i, x = .int i) : Dp K H (.ref p) (.tuple (xs.map vD)) := by
  refine .tup h (dps_of (List.length_map _).symm fun i x d h1 h2 => ?_)
  rw [List.getElem?_map, h1] at h2
  cases Option.some.inj h2
  rcases hx x (List.mem_of_getElem? h1) with rfl | ⟨i, rfl⟩
  · exact .non
  · exact .int i
theorem sh_vs (xs : List V) : Sh 1 (.tuple (xs.map vD)) := sh_tup fun d hd => by
  obtain ⟨x, _, rfl⟩ := List.mem_map.mp hd
  cases x <;> first | exact sh_int _ | exact sh_non
theorem eqv_vs (xs : List V) : PyData.eqv (.tuple (xs.map vD)) (.tuple (xs.map vD)) = true := SeqAt.eqv_refl _ (sh_vs xs).1
theorem eqv_nats (R : List Nat) : PyData.eqv (.list (R.map fun n : Nat => PyData.int (n : Int))) (.list (R.map fun n : Nat => PyData.int (n : Int))) = true := SeqAt.eqv_refl _ (sh_nats R).1
theorem costs_flat (Y : Yd) (gs : List (Option Nat)) (W : List (Option (Option Nat))) : ∀ x ∈ costsV Y gs W, x = .non ∨ ∃ i, x = .int i := fun x hx => by
  have l : ∀ (b : Bool) (i : Int), (if b = true then V.int i else V.non) = .non ∨ ∃ j, (if b = true then V.int i else V.non) = .int j := fun b i => by
    cases b
    · exact .inl rfl
    · exact .inr ⟨i, rfl⟩
  rcases List.mem_cons.mp hx with rfl | hx
  · exact l _ _
  rcases List.mem_cons.mp hx with rfl | hx
  · exact l _ _
  rcases List.mem_cons.mp hx with rfl | hx
  · exact .inr ⟨_, rfl⟩
  rw [List.mem_singleton.mp hx]
  unfold cheapV
  cases barB Y W
  · exact .inr ⟨_, rfl⟩
  · exact .inl rfl
end
end K16
set_option maxHeartbeats 8000000
namespace K16
open PySem PySem.Spec PyProof.Rows L2 LamX Evl
theorem rows_snoc {K : PySem.W.Frag} {H H' : Hp} {rs : List V} {ps : List (Option Int)} {hs : List (Option Nat)} {j : Nat} {q : Addr} (R : Rows K H rs ((ps.zip hs).take j)) (e : Ex H H') (h1 : j < ps.length) (h2 : j < hs.length) (l : rs.length = j) (hq : SqT K H' q [pV ps[j], hV hs[j]]) : Rows K H' (rs ++ [.ref q]) ((ps.zip hs).take (j + 1)) := by
  refine ⟨?_, fun k z hz => ?_⟩
  · rw [List.length_append, List.length_singleton, l, List.length_take, List.length_zip]
    omega
  · by_cases hk : k < j
    · have hz2 : ((ps.zip hs).take j)[k]? = some z := by
        rw [List.getElem?_take_of_lt (by omega)] at hz
        rw [List.getElem?_take_of_lt hk]
        exact hz
      obtain ⟨q2, g1, g2⟩ := R.at_ k z hz2
      exact ⟨q2, by rw [List.getElem?_append_left (by omega)]; exact g1, ex_t e g2⟩
    · have hk2 : k = j := by
        have := (List.getElem?_eq_some_iff.mp hz).1
        rw [List.length_take] at this
        omega
      subst hk2
      rw [List.getElem?_take_of_lt (by omega)] at hz
      obtain ⟨z1, z2⟩ := zip_at hz
      rw [List.getElem?_eq_getElem h1] at z1
      rw [List.getElem?_eq_getElem h2] at z2
      refine ⟨q, by rw [List.getElem?_append_right (by omega), l, Nat.sub_self] <;> rfl, ?_⟩
      rw [← Option.some.inj z1, ← Option.some.inj z2]
      exact hq
theorem rows_snocL {K : PySem.W.Frag} {H H' : Hp} {rs : List V} {L : Yd} {j : Nat} {q : Addr} {z : Option Int × Option Nat} (R : Rows K H rs (L.take j)) (e : Ex H H') (h1 : L[j]? = some z) (hq : SqT K H' q [pV z.1, hV z.2]) : Rows K H' (rs ++ [.ref q]) (L.take (j + 1)) := by
  have hj := (List.getElem?_eq_some_iff.mp h1).1
  have l : rs.length = j := by
    rw [R.len, List.length_take]
    omega
  refine ⟨?_, fun k y hy => ?_⟩
  · rw [List.length_append, List.length_singleton, l, List.length_take]
    omega
  · by_cases hk : k < j
    · have hz2 : (L.take j)[k]? = some y := by
        rw [List.getElem?_take_of_lt (by omega)] at hy
        rw [List.getElem?_take_of_lt hk]
        exact hy
      obtain ⟨q2, g1, g2⟩ := R.at_ k y hz2
      exact ⟨q2, by rw [List.getElem?_append_left (by omega)]; exact g1, ex_t e g2⟩
    · have hk2 : k = j := by
        have := (List.getElem?_eq_some_iff.mp hy).1
        rw [List.length_take] at this
        omega
      subst hk2
      rw [List.getElem?_take_of_lt (by omega), h1] at hy
      cases hy
      exact ⟨q, by rw [List.getElem?_append_right (by omega), l, Nat.sub_self] <;> rfl, hq⟩
theorem due_go {K : PySem.W.Frag} {σ : L2.St} {H : Hp} {Q : VK} {p : Addr} {xs : List V} {c o : Int} {v : V} (h15 : σ[15]? = some (some (.ref p))) (h18 : σ[18]? = some (some (.int o))) (hx : SqT K H p xs) (hc : atI xs c = some v) (hv : v = .non ∨ ∃ i, v = .int i) (o1 : 0 ≤ o) (o2 : o ≤ 1000) (k : Q (sclV o v) H) :
    tIf (tTest (tOp rIsN (tOp (rIxT K) (tVar 15) (tC (.int c))) (tC .non))) (tC .non) (tOp (rI CMul fun i j => .int (i * j)) (tOp (rIxT K) (tVar 15) (tC (.int c))) (tVar 18)) σ H Q := by
  rcases hv with rfl | ⟨i, rfl⟩
  · exact ⟨_, h15, p, xs, c, _, rfl, rfl, hx, hc, rfl, true, rfl, k⟩
  · exact ⟨_, h15, p, xs, c, _, rfl, rfl, hx, hc, rfl, false, rfl, _, h15, p, xs, c, _, rfl, rfl, hx, hc, _, h18, _, _, rfl, rfl, .inr ⟨by omega, by omega⟩, k⟩
theorem vw_some {gs : List (Option Nat)} (cl : Clo gs) : VW (gs.map some).length (gs.map some) := ⟨rfl, fun x hx h e => by
  subst e
  obtain ⟨o, ho, e⟩ := List.mem_map.mp hx
  obtain ⟨b, hb⟩ := List.mem_iff_getElem?.mp ho
  rw [List.length_map]
  exact cl b h (by rw [up_of hb]; exact Option.some.inj e)⟩
theorem tAnd_go {a b : TT} {σ : L2.St} {H : Hp} {Qb : Bool → Hp → Prop} {cnd : Prop} (ha : ∀ Q' : Bool → Hp → Prop, (∀ c, (c = true → cnd) → Q' c H) → a σ H Q') (hb : cnd → ∀ Q' : Bool → Hp → Prop, (∀ H', Ex H H' → Q' false H') → b σ H Q') (k : ∀ H', Ex H H' → Qb false H') : tAnd a b σ H Qb := by
  refine ha _ fun c hc => ?_
  cases c with
  | true => exact hb (hc rfl) _ k
  | false => exact k H (Ex.refl H)
theorem no_go {p q : Prop} (h : q) : if false = true then p else q := h
theorem tNext_go {D : Ends} {σ : L2.St} {H : Hp} (h : D.nx σ H) : tNext D σ H := h
theorem tSeq_go {t u : TS} {D : Ends} {σ : L2.St} {H : Hp} (h : t { D with nx := u D } σ H) : tSeq t u D σ H := h
theorem tIfS_go {c : TT} {t u : TS} {D : Ends} {σ : L2.St} {H : Hp} (h : c σ H fun b H1 => if b = true then t D σ H1 else u D σ H1) : tIfS c t u D σ H := h
theorem rep_p : ∀ n : Nat, (List.replicate n [V.non]).flatten = (List.replicate n (none : Option Int)).map pV
  | 0 => rfl
  | n + 1 => by
    rw [List.replicate_succ, List.replicate_succ, List.flatten_cons, List.map_cons, rep_p n] <;> rfl
section
variable {P : Program} {w : World} {K : PySem.W.Frag} {mg : Str → Option Value} {base : Heap}
abbrev s_law : Stmt := K16.top 56
abbrev N_law : List Str := ["_law_script", "_law_state", "_law_turn", "_law_yard_here", "_law_goal_here", "_law_wish_here", "_law_many", "_law_names", "_law_box", "_law_holders", "_law_prices", "_law_k", "_law_other", "_law_there", "_law_hope", "_law_due", "_law_told", "_law_found", "_law_often", "_law_dear", "_law_price", "_law_holder"]
abbrev P_law : List Str := ["_law_script"]
theorem sc_law : FnScope N_law P_law (C8.fnScope s_law) := C8.fnScope_by (by decide +kernel)
def sp_law (K : PySem.W.Frag) (TT : List (Addr × Str)) : Sp := fun vs H Q _ => ∃ (sc : Addr) (ns : List Int), vs = [.ref sc] ∧ SqL K H sc (ns.map V.int) ∧ Tabs TT H ∧ ∀ H', Q (.bl true) H'
theorem ok_law {f P1 : Addr} {fd : FuncData} (T : Gb mg) (F : C8.Def K mg "law" s_law f fd) (c__law_start : C8.Cal P w K mg base 1 "_law_start" (sp__law_start K) []) (c__law_yard : C8.Cal P w K mg base 4 "_law_yard" (sp__law_yard K) [])
    (c__law_goal : C8.Cal P w K mg base 4 "_law_goal" (sp__law_goal K) []) (c__law_wish : C8.Cal P w K mg base 5 "_law_wish" (sp__law_wish K) []) (c__law_turned : C8.Cal P w K mg base 2 "_law_turned" (sp__law_turned K) []) (c__law_drawn : C8.Cal P w K mg base 1 "_law_drawn" (sp__law_drawn K) [])
    (c__law_moved : C8.Cal P w K mg base 1 "_law_moved" (sp__law_moved K) []) (c__law_costs : C8.Cal P w K mg base 7 "_law_costs" (sp__law_costs K [(P1, qway)]) []) (c_orders : C8.Cal P w K mg base 5 "orders" (sp_orders K) []) (c__law_rings_so : C8.Cal P w K mg base 6 "_law_rings_so" (sp__law_rings_so K) [])
    (c_depths : C8.Cal P w K mg base 4 "depths" (sp_depths K) []) (c_inside : C8.Cal P w K mg base 4 "inside" (sp_inside K) []) : FnOk P w K mg base C8.CX0 8 f fd P_law (sp_law K [(P1, qway)]) := by
  refine C8.fn0 (k := 7) F.fn sc_law (fun vs H Q E h => ?_) (fun cdv A outer s H vs Q E hr h => ?_)
  · obtain ⟨sc, ns, rfl, _⟩ := h
    rfl
  · obtain ⟨sc, ns, rfl, hS, hTab, q⟩ := h
    refine ⟨_, (pss_cons (ps_set (i := 1) sc_law.nd rfl (Or.inl rfl) (C8.pe_c c__law_start hr (by decide) rfl (pa_cons (pv 0) pa_nil)))
      (pss_cons (ps_for PassesOwn.never rfl (pi_range1 (by rfl) T.n_range (pa_cons pe_int pa_nil)) (pg_name (i := 2) sc_law.nd rfl (Or.inl rfl))
        (pss_cons (ps_set (i := 3) sc_law.nd rfl (Or.inl rfl) (C8.pe_c c__law_yard hr (by decide) rfl (pa_cons (pv 1) (pa_cons pe_int pa_nil))))
      (pss_cons (ps_par3 (i := 4) (j := 5) (l := 6) rfl sc_law.nd rfl rfl rfl (by decide) (by decide) (by decide) rfl rfl rfl (pa_cons (C8.pe_c c__law_goal hr (by decide) rfl (pa_cons (pv 1) (pa_cons (pv 3) pa_nil))) (pa_cons (C8.pe_c c__law_wish hr (by decide) rfl (pa_cons (pv 1) (pa_cons (pv 3) pa_nil))) (pa_cons (pe_callB call_len_seq (by rfl) T.n_len (by decide +kernel) (pa_cons (pv 3) pa_nil)) pa_nil))) (by rfl))
      (pss_cons (ps_set (i := 7) sc_law.nd rfl (Or.inr rfl) (C8.pe_c c__law_turned hr (by decide) rfl (pa_cons (pv 1) (pa_cons (pv 6) pa_nil))))
      (pss_cons (ps_asg (pe_tup (pa_cons (C8.pe_c c__law_moved hr (by decide) rfl (pa_cons (pe_callTy call_tuple_of (by rfl) T.n_tuple (by decide +kernel) (pa_cons (pe_lc (own := [("_law_box", 8)]) (g := (gName 8)) (tt := tYes) (te := (tOp (rIxT K) (tVar 8) (tC (.int 1)))) rfl sc_law.nd (pi_tup (pv 3)) (blkOk_by (own := [("_law_box", 8)]) (N := N_law) (sc := C8.fnScope s_law) (by decide +kernel)) (fun _ _ _ _ _ => by exact (pg_name (i := 8) sc_law.nd rfl (Or.inl rfl))) (fun _ _ _ _ _ => by exact pts_nil) (fun _ _ _ _ _ => by exact (pe_ix ix_tup (pv 8) pe_int (fun _ _ => rfl)))) pa_nil)) (pa_cons (pv 7) pa_nil))) (pa_cons (pe_op op_rep (pe_lst (pa_cons pe_non pa_nil)) (pv 6)) pa_nil))) (pg_tup rfl (pgs_cons (pg_name (i := 9) sc_law.nd rfl (Or.inr rfl)) (pgs_cons (pg_name (i := 10) sc_law.nd rfl (Or.inr rfl)) pgs_nil))))
      (pss_cons (ps_for PassesOwn.never rfl (pi_range1 (by rfl) T.n_range (pa_cons (pv 6) pa_nil)) (pg_name (i := 11) sc_law.nd rfl (Or.inl rfl))
        (pss_one (ps_asg (pe_ix ix_tup (pe_ix ix_tup (pv 3) (pv 11) (fun _ _ => rfl)) pe_int (fun _ _ => rfl)) (pg_sub (pv 10) (pe_ix ix_list (pv 7) (pv 11) (fun _ _ => rfl)) set_list))))
      (pss_cons (ps_set (i := 12) sc_law.nd rfl (Or.inl rfl) (pe_callTy call_tuple_of (by rfl) T.n_tuple (by decide +kernel) (pa_cons (pe_lc (own := [("_law_k", 11)]) (g := (gName 11)) (tt := tYes) (te := (tTup (tCons (tOp (rIxL K) (tVar 10) (tVar 11)) (tCons (tOp (rIxT K) (tVar 9) (tVar 11)) tNil)))) rfl sc_law.nd (pi_range1 (by rfl) T.n_range (pa_cons (pv 6) pa_nil)) (blkOk_by (own := [("_law_k", 11)]) (N := N_law) (sc := C8.fnScope s_law) (by decide +kernel)) (fun _ _ _ _ _ => by exact (pg_name (i := 11) sc_law.nd rfl (Or.inl rfl))) (fun _ _ _ _ _ => by exact pts_nil) (fun _ _ _ _ _ => by exact (pe_tup (pa_cons (pe_ix ix_list (pv 10) (pv 11) (fun _ _ => rfl)) (pa_cons (pe_ix ix_tup (pv 9) (pv 11) (fun _ _ => rfl)) pa_nil))))) pa_nil)))
      (pss_cons (ps_par (i := 13) (j := 14) rfl sc_law.nd rfl rfl (by decide) rfl rfl (pa_cons (C8.pe_c c__law_moved hr (by decide) rfl (pa_cons (pv 4) (pa_cons (pv 7) pa_nil))) (pa_cons (C8.pe_c c__law_moved hr (by decide) rfl (pa_cons (pv 5) (pa_cons (pv 7) pa_nil))) pa_nil)) (by rfl))
      (pss_cons (ps_set (i := 15) sc_law.nd rfl (Or.inl rfl) (C8.pe_c c__law_costs hr (by decide) rfl (pa_cons (pv 3) (pa_cons (pv 4) (pa_cons (pv 5) pa_nil)))))
      (pss_cons (ps_if (pt_cmpR (op_neD hr.units) (C8.pe_c c__law_costs hr (by decide) rfl (pa_cons (pv 12) (pa_cons (pv 13) (pa_cons (pv 14) pa_nil)))) (pv 15) (nomark _)) (pss_one (ps_ret pe_bl)) pss_nil)
      (pss_cons (ps_if (PW.pt (pw_and (pt_cmpR op_lt (pv 6) pe_int (nomark _)) (pw_and1 (pt_cmpR op_ne (C8.pe_c c_orders hr (by decide) rfl (pa_cons (pv 12) (pa_cons (pv 13) pa_nil))) (C8.pe_c c_orders hr (by decide) rfl (pa_cons (pv 3) (pa_cons (pv 4) pa_nil))) (nomark _))))) (pss_one (ps_ret pe_bl)) pss_nil)
      (pss_cons (ps_if (pt_not (pt_val (C8.pe_c c__law_rings_so hr (by decide) rfl (pa_cons (pe_tup (pa_cons (pv 3) (pa_cons (pv 12) pa_nil))) (pa_cons (pe_tup (pa_cons (pv 5) (pa_cons (pv 14) pa_nil))) (pa_cons (pv 7) pa_nil)))))) (pss_one (ps_ret pe_bl)) pss_nil)
      (pss_cons (ps_asg (pe_tup (pa_cons (C8.pe_c c_depths hr (by decide) rfl (pa_cons (pv 3) pa_nil)) (pa_cons (C8.pe_c c_depths hr (by decide) rfl (pa_cons (pv 12) pa_nil)) pa_nil))) (pg_tup rfl (pgs_cons (pg_name (i := 16) sc_law.nd rfl (Or.inl rfl)) (pgs_cons (pg_name (i := 17) sc_law.nd rfl (Or.inr rfl)) pgs_nil))))
      (pss_cons (ps_if (pt_cmpR (op_neD hr.units) (pe_lc (own := [("_law_k", 11)]) (g := (gName 11)) (tt := tYes) (te := (tOp (rIxL K) (tVar 17) (tOp (rIxL K) (tVar 7) (tVar 11)))) rfl sc_law.nd (pi_range1 (by rfl) T.n_range (pa_cons (pv 6) pa_nil)) (blkOk_by (own := [("_law_k", 11)]) (N := N_law) (sc := C8.fnScope s_law) (by decide +kernel)) (fun _ _ _ _ _ => by exact (pg_name (i := 11) sc_law.nd rfl (Or.inl rfl))) (fun _ _ _ _ _ => by exact pts_nil) (fun _ _ _ _ _ => by exact (pe_ix ix_list (pv 17) (pe_ix ix_list (pv 7) (pv 11) (fun _ _ => rfl)) (fun _ _ => rfl)))) (pv 16) (nomark _)) (pss_one (ps_ret pe_bl)) pss_nil)
      (pss_cons (ps_set (i := 8) sc_law.nd rfl (Or.inl rfl) (C8.pe_c c__law_drawn hr (by decide) rfl (pa_cons (pv 1) (pa_cons (pv 6) pa_nil))))
      (pss_cons (ps_if (pt_cmpR (op_neD hr.units) (C8.pe_c c_inside hr (by decide) rfl (pa_cons (pv 12) (pa_cons (pe_ix ix_list (pv 7) (pv 8) (fun _ _ => rfl)) pa_nil))) (pe_callB cr_sortedI (by rfl) T.n_sorted (by decide +kernel) (pa_cons (pe_lc (own := [("_law_k", 11)]) (g := (gName 11)) (tt := tYes) (te := (tOp (rIxL K) (tVar 7) (tVar 11))) rfl sc_law.nd (pi_list (C8.pe_c c_inside hr (by decide) rfl (pa_cons (pv 3) (pa_cons (pv 8) pa_nil)))) (blkOk_by (own := [("_law_k", 11)]) (N := N_law) (sc := C8.fnScope s_law) (by decide +kernel)) (fun _ _ _ _ _ => by exact (pg_name (i := 11) sc_law.nd rfl (Or.inl rfl))) (fun _ _ _ _ _ => by exact pts_nil) (fun _ _ _ _ _ => by exact (pe_ix ix_list (pv 7) (pv 11) (fun _ _ => rfl)))) pa_nil)) (nomark _)) (pss_one (ps_ret pe_bl)) pss_nil)
      (pss_cons (ps_set (i := 18) sc_law.nd rfl (Or.inr rfl) (pe_op op_add pe_int (C8.pe_c c__law_drawn hr (by decide) rfl (pa_cons (pv 1) (pa_cons (pe_callB (call_max2 rfl) (by rfl) T.n_max (by decide +kernel) (pa_cons pe_int (pa_cons (pe_op op_fdiv pe_int (pe_callB (cr_max rfl) (by rfl) T.n_max (by decide +kernel) (pa_cons (pe_op op_cat (pe_lst (pa_cons pe_int pa_nil)) (pe_lc (own := [("_law_price", 20)]) (g := (gName 20)) (tt := (tTest (tOp rNotN (tVar 20) (tC .non)))) (te := (tVar 20)) rfl sc_law.nd (pi_list (pv 10)) (blkOk_by (own := [("_law_price", 20)]) (N := N_law) (sc := C8.fnScope s_law) (by decide +kernel)) (fun _ _ _ _ _ => by exact (pg_name (i := 20) sc_law.nd rfl (Or.inl rfl))) (fun _ _ _ _ _ => by exact (pts_one (pt_cmpR op_notN (pv 20) pe_non (nomark _)))) (fun _ _ _ _ _ => by exact (pv 20)))) pa_nil))) pa_nil))) pa_nil)))))
      (pss_cons (ps_set (i := 19) sc_law.nd rfl (Or.inl rfl) (pe_callTy call_tuple_of (by rfl) T.n_tuple (by decide +kernel) (pa_cons (pe_lc (own := [("_law_price", 20), ("_law_holder", 21)]) (g := (gTup K 2 (gCons (gName 20) (gCons (gName 21) gNil)))) (tt := tYes) (te := (tTup (tCons (tIf (tTest (tOp rIsN (tVar 20) (tC .non))) (tC .non) (tOp (rI CMul fun i j => .int (i * j)) (tVar 20) (tVar 18))) (tCons (tVar 21) tNil)))) rfl sc_law.nd (pi_tup (pv 3)) (blkOk_by (own := [("_law_price", 20), ("_law_holder", 21)]) (N := N_law) (sc := C8.fnScope s_law) (by decide +kernel)) (fun _ _ _ _ _ => by exact (pg_tup rfl (pgs_cons (pg_name (i := 20) sc_law.nd rfl (Or.inl rfl)) (pgs_cons (pg_name (i := 21) sc_law.nd rfl (Or.inl rfl)) pgs_nil)))) (fun _ _ _ _ _ => by exact pts_nil) (fun _ _ _ _ _ => by exact (pe_tup (pa_cons (pe_ifExp (pt_cmpR op_isN (pv 20) pe_non (nomark _)) pe_non (pe_op op_mul (pv 20) (pv 18))) (pa_cons (pv 21) pa_nil))))) pa_nil)))
      (pss_cons (ps_set (i := 16) sc_law.nd rfl (Or.inl rfl) (C8.pe_c c__law_costs hr (by decide) rfl (pa_cons (pv 19) (pa_cons (pv 4) (pa_cons (pv 5) pa_nil)))))
      (pss_cons (ps_set (i := 15) sc_law.nd rfl (Or.inl rfl) (pe_op op_catA (pe_op op_catA (pe_tup (pa_cons (pe_ifExp (pt_cmpR op_isN (pe_ix ix_tup (pv 15) pe_int (fun _ _ => rfl)) pe_non (nomark _)) pe_non (pe_op op_mul (pe_ix ix_tup (pv 15) pe_int (fun _ _ => rfl)) (pv 18))) pa_nil)) (pe_slice sl_tupA (pv 15) (po_some pe_int) (po_some pe_int))) (pe_tup (pa_cons (pe_ifExp (pt_cmpR op_isN (pe_ix ix_tup (pv 15) pe_int (fun _ _ => rfl)) pe_non (nomark _)) pe_non (pe_op op_mul (pe_ix ix_tup (pv 15) pe_int (fun _ _ => rfl)) (pv 18))) pa_nil))))
      (pss_one (ps_if (pt_cmpR (op_neD hr.units) (pv 16) (pv 15) (nomark _)) (pss_one (ps_ret pe_bl)) pss_nil))))))))))))))))))))))
      (pss_one (ps_ret pe_bl)))), ?_⟩
    refine ⟨_, rfl, sc, ns, rfl, hS, fun st nst H0 e0 s0 => ?_⟩
    have c0 : ScAt K H0 st sc := ⟨ns, ex_l (H := H) (fun b o hb => hid_at (e0 b o hb) (ne_of_none hb nst)) hS⟩
    have T0 := tabs_ex hTab e0
    clear hS hTab e0 nst
    refine ⟨3, rfl, by decide, by decide, ?_⟩
    refine for_range (lo := 0) (n := (3 : Int).toNat) (fun i σ H1 => ∃ v2 v3 v4 v5 v6 v7 v8 v9 v10 v11 v12 v13 v14 v15 v16 v17 v18 v19 v20 v21 : Option V, σ = [some (.ref sc), some (.ref st), v2, v3, v4, v5, v6, v7, v8, v9, v10, v11, v12, v13, v14, v15, v16, v17, v18, v19, v20, v21] ∧ StAt H1 st sc ∧ ScAt K H1 st sc ∧ Tabs [(P1, qway)] H1) ?_ ?_ ?_
    · exact ⟨none, none, none, none, none, none, none, none, none, none, none, none, none, none, none, none, none, none, none, none, rfl, s0, c0, T0⟩
    · rintro i σ H1 hi ⟨v2, v3, v4, v5, v6, v7, v8, v9, v10, v11, v12, v13, v14, v15, v16, v17, v18, v19, v20, v21, rfl, s1, c1, T1⟩
      clear s0 c0 T0 H0
      refine ⟨_, rfl, st, sc, rfl, s1, c1, fun p3 H2 Y ok hY2 ne3 e2 s2 => ?_⟩
      have c2 := c1.mono e2
      have T2 := sy_tabs s1 T1 e2
      refine ⟨_, rfl, _, rfl, st, sc, p3, Y, rfl, hY2, ok, s2, c2, fun p4 H3 gs og hg3 ne4 e3 s3 => ?_⟩
      have c3 := c2.mono e3
      have T3 := sy_tabs s2 T2 e3
      have hY3 := sy_y s2 (sy_of e3) hY2
      refine ⟨_, rfl, _, rfl, st, sc, p3, Y, rfl, hY3, ok, s3, c3, fun p5 H4 W ow hw4 ne5 e4 s4 => ?_⟩
      have c4 := c3.mono e4
      have T4 := sy_tabs s3 T3 e4
      have hY4 := sy_y s3 (sy_of e4) hY3
      have hg4 := sy_at (sy_of e4) hg3 ne4 (fun ps z => by cases z)
      obtain ⟨rs4, hrs4, R4⟩ := id hY4
      have lrs := R4.len
      have hle := ok.le
      have hne := ok.ne
      refine ⟨_, rfl, p3, _, rfl, .inr hrs4, _, _, _, rfl, ?_⟩
      refine ⟨_, rfl, _, rfl, st, sc, rs4.length, rfl, by omega, s4, c4, fun D H5 N pm e5 s5 nD hN5 => ?_⟩
      have c5 := c4.mono e5
      have T5 := sy_tabs s4 T4 e5
      have hY5 := sy_y s4 (sy_of e5) hY4
      have hg5 := sy_at (sy_of e5) hg4 ne4 (fun ps z => by cases z)
      have hw5 := sy_at (sy_of e5) hw4 ne5 (fun ps z => by cases z)
      have neD : D ≠ st := by
        obtain ⟨ys, h⟩ := s4.lst
        exact Ne.symm (ne_of_none h nD)
      rw [lrs] at pm
      clear s1 c1 T1 e2 s2 c2 T2 hY2 e3 s3 c3 T3 hY3 e4 s4 c4 T4 hY4 hg3 hg4 hw4 hrs4 R4 e5 nD
      obtain ⟨rs5, hrs5, R5⟩ := id hY5
      refine ⟨_, rfl, p3, rfl, ⟨_, hrs5⟩, fun D6 nD6 => lc_tup (K := K) (a := p3) (xs := rs5) (fun i H6 => Ex H5 H6 ∧ H6 D6 = some (.lst (((hsOf Y).take i).map hV))) ⟨Ex.new nD6, upd_same⟩ (fun i H6 _ z => ex_t z.1 hrs5) ?_ ?_⟩
      · rintro i x H6 hx ⟨e, hl⟩
        obtain ⟨z, p, hz1, rfl, hp⟩ := R5.get hx
        have hi := (List.getElem?_eq_some_iff.mp hz1).1
        refine ⟨rfl, _, rfl, p, _, 1, hV z.2, rfl, rfl, ex_t e hp, rfl, _, hl, lineL (by rw [List.length_map, List.length_take, hsOf_len]; omega), Ex.mut e nD6, ?_⟩
        rw [upd_same, take_more (show (hsOf Y)[i]? = some z.2 by unfold hsOf; rw [List.getElem?_map, hz1] <;> rfl)]
      rintro H6 ⟨e6, hl6⟩
      rw [R5.len, ← hsOf_len, List.take_length] at hl6
      refine ⟨D6, _, rfl, .inl ⟨SqL.of hl6, fun p7 np7 => ?_⟩⟩
      have e57 : Ex H5 (upd H6 p7 (.tup ((hsOf Y).map hV))) := e6.trans (Ex.new np7)
      have h7 : upd H6 p7 (.tup ((hsOf Y).map hV)) p7 = some (.tup ((hsOf Y).map hV)) := upd_same
      generalize upd H6 p7 (.tup ((hsOf Y).map hV)) = H7 at e57 h7 ⊢
      refine ⟨_, rfl, p7, D, (hsOf Y).map some, N, rfl, SqT.of (by rw [wv_hV]; exact h7), SqL.of (e57 _ _ hN5), by rw [List.length_map, hsOf_len]; exact pm, ?_, by rw [List.length_map, hsOf_len]; omega, fun p9 H8 W9 mv9 e8 np9 h9 => ?_⟩
      · exact vw_some ok.fo.1
      obtain ⟨hs', rfl, Rh⟩ := mvd_ren (n := Y.length) pm (hsOf_len Y) mv9
      rw [wv_hV] at h9
      have e58 := e57.trans e8
      refine ⟨lineE (by show 1 ≤ 1000; decide), fun u nu => ⟨_, rfl, u, _, [.non], rfl, rfl, upd_same, by omega, by omega, lineE (by show 1 * _ ≤ 1000; omega), fun D10 nD10 => ⟨lineE (by show 2 ≤ 1000; decide), fun tp ntp => ⟨tp, _, rfl, SqT.of upd_same, rfl, _, _, rfl, _, _, rfl, rfl, ?_⟩⟩⟩⟩
      have en : ((rs4.length : Nat) : Int).toNat = Y.length := by omega
      have e9 : Ex H8 (upd (upd (upd H8 u (.lst [.non])) D10 (.lst (List.replicate ((rs4.length : Nat) : Int).toNat [V.non]).flatten)) tp (.tup [.ref p9, .ref D10])) := ((Ex.new nu).trans (Ex.new nD10)).trans (Ex.new ntp)
      have nD10' : H8 D10 = none := fresh_back (Ex.new nu) nD10
      have hD10 : (upd (upd (upd H8 u (.lst [.non])) D10 (.lst (List.replicate ((rs4.length : Nat) : Int).toNat [V.non]).flatten)) tp (.tup [.ref p9, .ref D10])) D10 = some (.lst ((List.replicate Y.length (none : Option Int)).map pV)) := by
        rw [upd_ne (fun z => by rw [← z, upd_same] at ntp; cases ntp), upd_same, en]
        rw [rep_p]
      have e59 := e58.trans e9
      have h9' := e9 _ _ h9
      have neD10 : D10 ≠ D := fun z => by rw [z, e58 _ _ hN5] at nD10'; cases nD10'
      have nD10H : H5 D10 = none := fresh_back e58 nD10'
      have neD10s : D10 ≠ st := by
        obtain ⟨ys, h⟩ := s5.lst
        exact Ne.symm (ne_of_none h nD10H)
      have ne9 : p9 ≠ D10 := ne_of_none h9 nD10'
      generalize upd (upd (upd H8 u (.lst [.non])) D10 (.lst (List.replicate ((rs4.length : Nat) : Int).toNat [V.non]).flatten)) tp (.tup [.ref p9, .ref D10]) = H9 at e9 hD10 e59 h9' ⊢
      refine ⟨_, rfl, _, rfl, by omega, by omega, ?_⟩
      refine for_range (lo := 0) (n := ((rs4.length : Nat) : Int).toNat) (fun j σ H10 => ∃ (ps : List (Option Int)) (v11 : Option V), σ = [some (.ref sc), some (.ref st), some (.int (0 + (i : Int))), some (.ref p3), some (.ref p4), some (.ref p5), some (.int (rs4.length : Nat)), some (.ref D), v8, some (.ref p9), some (.ref D10), v11, v12, v13, v14, v15, v16, v17, v18, v19, v20, v21] ∧ Ex H5 H10 ∧ H10 D10 = some (.lst (ps.map pV)) ∧ H10 p9 = some (.tup (hs'.map hV)) ∧ ps.length = Y.length ∧ ∀ k, k < j → ps[nuOf N k]? = some (pr Y k)) ?_ ?_ ?_
      · exact ⟨_, v11, rfl, e59, hD10, h9', List.length_replicate, fun k h => absurd h (Nat.not_lt_zero _)⟩
      · rintro j σ H10 hj ⟨ps, w11, rfl, e10, hp10, hh10, lps, okp⟩
        have e0 : ((0 : Int) + (j : Int)) = (j : Int) := Int.zero_add _
        rw [e0]
        have hjY : j < Y.length := by omega
        have B := bij_names pm
        have lN := (perm_range pm).1
        have hb : nuOf N j < Y.length := B.lt hjY
        obtain ⟨rs, hS, R⟩ := hY5.mono e10
        obtain ⟨q1, hq1, hq2⟩ := rows_pr R hjY
        refine ⟨_, rfl, _, rfl, p3, rs, _, _, rfl, rfl, hS, hq1, q1, _, 0, pV (pr Y j), rfl, rfl, hq2, rfl, _, rfl, _, rfl, _, rfl, D, _, _, _, rfl, rfl, SqL.of (e10 _ _ hN5), names_at (by omega), D10, _, _, nuOf N j, rfl, rfl, hp10, ixN_nat (by rw [List.length_map, lps]; exact hb), ?_⟩
        refine ⟨ps.set (nuOf N j) (pr Y j), _, rfl, e10.mut nD10H, by rw [upd_same, List.map_set], by rw [upd_ne ne9]; exact hh10, by rw [List.length_set]; exact lps, fun k hk => ?_⟩
        by_cases ek : k = j
        · rw [ek, List.getElem?_set_self (by omega)]
        · rw [List.getElem?_set_ne fun z => ek (B.inj hjY (by omega) z).symm]
          exact okp k (by omega)
      rintro σ H10 ⟨ps, w11, rfl, e10, hp10, hh10, lps, okp⟩
      rw [en] at okp
      obtain ⟨Ry, ok'⟩ := yren_of pm ok rfl Rh lps okp
      clear e59 hD10 h9' nD10' e9 e58 h9 e8 mv9 e57 h7 e6 hl6
      have lh' : hs'.length = Y.length := Rh.len'
      refine ⟨_, rfl, _, rfl, by omega, by omega, fun D2 nD2 => ?_⟩
      refine lc_range (lo := 0) (n := ((rs4.length : Nat) : Int).toNat) (fun j H11 => Ex H10 H11 ∧ ∃ rs, H11 D2 = some (.lst rs) ∧ Rows K (hid D2 H11) rs ((ps.zip hs').take j)) ?_ ?_ ?_
      · exact ⟨Ex.new nD2, [], upd_same, rfl, fun i z h => by rw [List.take_zero] at h; cases h⟩
      · rintro j H11 hj ⟨e11, rs, hrs, R⟩
        have e0 : ((0 : Int) + (j : Int)) = (j : Int) := Int.zero_add _
        rw [e0]
        have hi2 : j < ps.length := by omega
        have hi3 : j < hs'.length := by omega
        have lrs : rs.length = j := by
          rw [R.len, List.length_take, List.length_zip]
          omega
        refine ⟨rfl, _, rfl, _, rfl, D10, _, _, _, rfl, rfl, SqL.of (e11 _ _ hp10), atI_nat (v := pV ps[j]) (by simp [hi2]), _, rfl, _, rfl, p9, _, _, _, rfl, rfl, SqT.of (e11 _ _ hh10), atI_nat (v := hV hs'[j]) (by simp [hi3]), ?_⟩
        refine ⟨lineE (by show 2 ≤ 1000; decide), fun q1 nq => ?_⟩
        have e7 := Ex.new (o := .tup [pV ps[j], hV hs'[j]]) nq
        have ne : q1 ≠ D2 := Ne.symm (ne_of_none hrs nq)
        refine ⟨_, e7 _ _ hrs, lineL (by omega), (e11.trans e7).mut nD2, rs ++ [V.ref q1], upd_same, ?_⟩
        rw [hid_upd]
        exact rows_snoc R (hid_ex e7) hi2 hi3 lrs (SqT.of (hid_at upd_same ne))
      rintro H11 ⟨e11, rs, hrs, R⟩
      rw [en, List.take_of_length_le (by rw [List.length_zip]; omega)] at R
      refine ⟨D2, _, rfl, .inl ⟨SqL.of hrs, fun p12 np12 => ?_⟩⟩
      have e12 := e11.trans (Ex.new (o := .tup rs) np12)
      have hY12 : YAt K (upd H11 p12 (.tup rs)) p12 (ps.zip hs') := ⟨rs, SqT.of upd_same, (R.mono (hid_le _ _)).mono (Ex.new np12)⟩
      have e512 := e10.trans e12
      have hp12 := e12 _ _ hp10
      have neD10b : D10 ≠ p12 := ne_of_none (e11 _ _ hp10) np12
      generalize upd H11 p12 (.tup rs) = H12 at e12 hY12 e512 hp12 ⊢
      refine ⟨_, rfl, _, rfl, p4, D, gs.map some, N, rfl, SqT.of (by rw [wv_hV]; exact e512 _ _ hg5), SqL.of (e512 _ _ hN5), by rw [List.length_map, og.len]; exact pm, vw_some og.fo.1, by rw [List.length_map, og.len]; omega, fun p13 H13 W13 mv13 e13 np13 h13 => ?_⟩
      obtain ⟨gs', rfl, Rg⟩ := mvd_ren (n := Y.length) pm og.len mv13
      rw [wv_hV] at h13
      refine ⟨_, rfl, _, rfl, p5, D, W, N, rfl, SqT.of (e13 _ _ (e512 _ _ hw5)), SqL.of (e13 _ _ (e512 _ _ hN5)), by rw [ow.len]; exact pm, by rw [ow.len]; exact ow, by rw [ow.len]; omega, fun p14 H14 W' mv14 e14 np14 h14 => ⟨_, _, rfl, ?_⟩⟩
      obtain ⟨Rw, ow'⟩ := wren_of pm Ry ow.len mv14 ow
      have B := bij_names pm
      have og' : VG (ps.zip hs').length gs' := ⟨by rw [Rg.len', Ry.len'], Rg.for' B og.fo⟩
      have ow'' : VW (ps.zip hs').length W' := by rw [Ry.len']; exact ow'
      have e514 := e512.trans (e13.trans e14)
      have e1214 := e13.trans e14
      have hY := hY5.mono e514
      have hY' := hY12.mono e1214
      have hg : SqT K H14 p4 (gs.map hV) := SqT.of (e514 _ _ hg5)
      have hw : SqT K H14 p5 (W.map wV) := SqT.of (e514 _ _ hw5)
      have hg' : SqT K H14 p13 (gs'.map hV) := SqT.of (e14 _ _ h13)
      have hw' : SqT K H14 p14 (W'.map wV) := SqT.of h14
      have hN := e514 _ _ hN5
      have hps := e1214 _ _ hp12
      have s14 := s5.mono e514
      have c14 := c5.mono ((hid_le st H5).trans e514)
      have T14 := tabs_ex T5 e514
      clear hY12 e1214 e514 e14 e13 h13 h14 np13 np14 mv13 mv14 hp12 neD10b e512 e12 np12 hrs R e11 hh10 hp10 e10 hrs5 R5 hY5 hg5 hw5 hN5 s5 c5 T5 nD2
      have l12 := Ry.len'
      refine ⟨_, rfl, _, rfl, _, rfl, p3, p4, p5, Y, gs, W, rfl, hY, ok, og, hg, ow, hw, T14, fun p15 H15 e15 T15 h15 => ?_⟩
      refine ⟨_, rfl, _, rfl, _, rfl, p12, p13, p14, ps.zip hs', gs', W', rfl, hY'.monoN e15, ok', og', exn_t e15 hg', ow'', exn_t e15 hw', T15, fun p16 H16 e16 T16 h16 => ?_⟩
      have e1416 := e15.trans e16
      have eqc : costsV (ps.zip hs') gs' W' = costsV Y gs W := by
        unfold costsV
        rw [Ry.least_ Rg B ok.fo.1 og.fo.1, Ry.few_ Rg B ok.fo.1 og.fo.1, Ry.reach_ B ok.fo, cheap_nu Ry Rw B ok ow ok' ow'']
      rw [eqc] at h16
      have h15' := e16 _ _ h15 (fun ps z => by cases z)
      refine ⟨_, rfl, _, _, dp_vs (SqT.of h16) (costs_flat Y gs W), dp_vs (SqT.of h15') (costs_flat Y gs W), sh_ok (sh_vs _), sh_ok (sh_vs _), false, by rw [eqv_vs] <;> rfl, ?_⟩
      refine no_go ?_
      refine tNext_go ?_
      dsimp only
      refine tSeq_go ?_
      refine tIfS_go ?_
      refine tAnd_go (cnd := Y.length ≤ 7) (fun Q' h => ⟨_, rfl, _, _, rfl, rfl, decide (((rs4.length : Nat) : Int) < 8), rfl, h _ fun hc => ?_⟩) (fun h7 Q' k => ?_) fun H18 e18 => ?_
      · have := of_decide_eq_true hc
        omega
      · refine ⟨_, rfl, _, rfl, p12, p13, ps.zip hs', gs', rfl, hY'.monoN e1416, ok', og', exn_t e1416 hg', by omega, fun H17 e17 => ?_⟩
        have e1417 := e1416.trans (exn_of e17)
        refine ⟨_, rfl, _, rfl, p3, p4, Y, gs, rfl, hY.monoN e1417, ok, og, exn_t e1417 hg, h7, fun H18 e18 => ⟨rfl, false, ?_, k H18 (e17.trans e18)⟩⟩
        rw [Ry.ord_ Rg B ok.fo og.fo, decide_eq_true rfl] <;> rfl
      have e1418 := e1416.trans (exn_of e18)
      have T18 := tabs_ex T16 e18
      have h15 := e18 _ _ h15'
      clear h16 e16 e15 T15 T16 e1416 h15'
      have acl : Clo (arr (hsOf Y) W) := arr_clo ok.fo.1 (by rw [hsOf_len]; exact ow)
      refine ⟨_, rfl, _, rfl, lineE (by show 2 ≤ 1000; decide), fun t1 nt1 => ⟨_, rfl, _, rfl, lineE (by show 2 ≤ 1000; decide), fun t2 nt2 => ⟨_, rfl, ?_⟩⟩⟩
      have e2 := (Ex.new (o := .tup [.ref p3, .ref p12]) nt1).trans (Ex.new (o := .tup [.ref p5, .ref p14]) nt2)
      have g1 : SqT K (upd (upd H18 t1 (.tup [.ref p3, .ref p12])) t2 (.tup [.ref p5, .ref p14])) t1 [.ref p3, .ref p12] := SqT.of ((Ex.new nt2) _ _ upd_same)
      have e20 := e1418.trans (exn_of e2)
      refine ⟨t1, t2, D, p3, p12, p5, p14, Y, ps.zip hs', W, W', N, rfl, g1, SqT.of upd_same, SqL.of (e20 _ _ hN (fun ps z => by cases z)), (perm_range pm).1, hY.monoN e20, ok, ow, exn_t e20 hw, hY'.monoN e20, ok', ow'', exn_t e20 hw', loops_nu Rw.arr B acl, brkL_nu Ry Rw B acl, fun H21 e21 => ?_⟩
      have e1421 := e20.trans (exn_of e21)
      have T21 := tabs_ex T18 (e2.trans e21)
      have h15b := (e2.trans e21) _ _ h15
      clear e20 g1 e2 e1418 T18 h15
      refine ⟨true, rfl, ?_⟩
      refine ⟨_, rfl, p3, Y, rfl, hY.monoN e1421, ok, fun q1 H22 e22 h22 => ⟨_, rfl, p12, ps.zip hs', rfl, (hY'.monoN e1421).mono e22, ok', fun q2 H23 e23 h23 => ⟨lineE (by show 2 ≤ 1000; decide), fun tp ntp => ⟨tp, _, rfl, SqT.of upd_same, rfl, _, _, rfl, _, _, rfl, rfl, ?_⟩⟩⟩⟩
      have e24 := Ex.new (o := .tup [.ref q1, .ref q2]) ntp
      have e2124 := (e22.trans e23).trans e24
      have h22' := e24 _ _ (e23 _ _ h22)
      have h23' := e24 _ _ h23
      generalize upd H23 tp (.tup [.ref q1, .ref q2]) = H24 at e24 e2124 h22' h23' ⊢
      have e1424 := e1421.trans (exn_of e2124)
      have T24 := tabs_ex T21 e2124
      have h15c := e2124 _ _ h15b
      clear e24 e23 e22 h22 h23 h15b T21 e1421 e2124
      refine ⟨_, rfl, _, rfl, by omega, by omega, fun D9 nD9 => ?_⟩
      refine lc_range (lo := 0) (n := ((rs4.length : Nat) : Int).toNat) (fun j H25 => Ex H24 H25 ∧ H25 D9 = some (.lst (((List.range j).map fun b => (chn (hsOf Y) b).length).map nV))) ⟨Ex.new nD9, upd_same⟩ ?_ ?_
      · rintro j H25 hj ⟨e25, hl⟩
        have e0 : ((0 : Int) + (j : Int)) = (j : Int) := Int.zero_add _
        rw [e0]
        have hjY : j < Y.length := by omega
        have hb : nuOf N j < Y.length := B.lt hjY
        have hx : ((List.range (ps.zip hs').length).map fun b => nV (chn (hsOf (ps.zip hs')) b).length)[nuOf N j]? = some (nV (chn (hsOf Y) j).length) := by
          rw [List.getElem?_map, List.getElem?_range (by omega)]
          show some (nV (chn (hsOf (ps.zip hs')) (nuOf N j)).length) = _
          rw [Ry.hs.chn_ B ok.fo hjY, List.length_map]
        refine ⟨rfl, _, rfl, _, rfl, _, rfl, D, _, _, _, rfl, rfl, SqL.of (e25 _ _ (e1424 _ _ hN (fun ps z => by cases z))), names_at (by have := (perm_range pm).1; omega), q2, _, _, _, rfl, rfl, SqL.of (e25 _ _ h23'), atI_nat hx, ?_⟩
        refine ⟨_, hl, lineL (by rw [List.length_map, List.length_map, List.length_range]; omega), e25.mut nD9, ?_⟩
        rw [upd_same, List.range_succ, List.map_append, List.map_append] <;> rfl
      rintro H25 ⟨e25, hl⟩
      rw [en] at hl
      have ed : ((List.range Y.length).map fun b => nV (chn (hsOf Y) b).length) = ((List.range Y.length).map fun b => (chn (hsOf Y) b).length).map nV := by rw [List.map_map] <;> rfl
      rw [ed] at h22'
      refine ⟨_, rfl, _, _, dp_nats (SqL.of hl), dp_nats (SqL.of (e25 _ _ h22')), sh_ok (sh_nats _), sh_ok (sh_nats _), false, by rw [eqv_nats] <;> rfl, ?_⟩
      have e1425 := e1424.trans (exn_of e25)
      have T25 := tabs_ex T24 e25
      have h15d := e25 _ _ h15c
      clear e1424 T24 h15c ed hl h22' h23'
      have s25 := st_n s14 e1425
      refine ⟨_, rfl, _, rfl, st, sc, rs4.length, rfl, by omega, by omega, s25, sy_sc (sy_n e1425) c14, fun x H26 x0 x1 e26 s26 => ?_⟩
      obtain ⟨bx, rfl⟩ := Int.eq_ofNat_of_zero_le x0
      have hbx : bx < Y.length := by omega
      have y1426 : Sy st H14 H26 := sy_go (sy_n e1425) (sy_of e26)
      have T26 := sy_tabs s25 T25 e26
      have ne15 : p15 ≠ st := by
        obtain ⟨ys, h⟩ := s25.lst
        exact ne_of h15d h (by intro z; cases z)
      have h15e : H26 p15 = some (.tup (costsV Y gs W)) := e26 _ _ (hid_at h15d ne15)
      have hY26 := sy_y s14 y1426 hY
      have hY26' := sy_y s14 y1426 hY'
      have hN26 := sy_at y1426 hN neD (fun ps z => by cases z)
      clear e1425 T25 h15d s25 e26
      refine ⟨_, rfl, _, rfl, _, rfl, D, _, _, _, rfl, rfl, SqL.of hN26, names_at (by have := (perm_range pm).1; omega), p12, ps.zip hs', nuOf N bx, rfl, hY26', ok', by rw [l12]; exact B.lt hbx, fun q1 H27 e27 h27 => ?_⟩
      refine ⟨_, rfl, _, rfl, p3, Y, bx, rfl, hY26.mono e27, ok, hbx, fun q2 H28 e28 h28 => ⟨q2, rfl, ⟨_, SqL.of h28⟩, fun D9 nD9 => ?_⟩⟩
      have ilen : (insd (hsOf Y) Y.length bx).length ≤ Y.length := by
        unfold insd
        have := List.length_filter_le (fun x => decide (bx ∈ chn (hsOf Y) x)) (List.range Y.length)
        rwa [List.length_range] at this
      refine lc_list (K := K) (a := q2) (xs := (insd (hsOf Y) Y.length bx).map nV) (fun j H29 => Ex H28 H29 ∧ H29 D9 = some (.lst ((((insd (hsOf Y) Y.length bx).take j).map (nuOf N)).map nV))) ⟨Ex.new nD9, upd_same⟩ (fun j H29 _ z => SqL.of (z.1 _ _ h28)) ?_ ?_
      · rintro j y H29 hy ⟨e29, hl⟩
        rw [List.getElem?_map] at hy
        cases er : (insd (hsOf Y) Y.length bx)[j]? with
        | none => rw [er] at hy; cases hy
        | some r =>
          rw [er] at hy
          cases Option.some.inj hy
          have hj := (List.getElem?_eq_some_iff.mp er).1
          have hr := List.mem_range.mp (List.mem_filter.mp (List.mem_of_getElem? er)).1
          refine ⟨rfl, _, rfl, _, rfl, D, _, _, _, rfl, rfl, SqL.of (e29 _ _ (e28 _ _ (e27 _ _ hN26))), names_at (by have := (perm_range pm).1; omega), _, hl, lineL (by rw [List.length_map, List.length_map, List.length_take]; omega), e29.mut nD9, ?_⟩
          rw [upd_same, take_more er, List.map_append] <;> rfl
      rintro H29 ⟨e29, hl⟩
      rw [List.length_map, List.take_length] at hl
      refine ⟨D9, iN ((insd (hsOf Y) Y.length bx).map (nuOf N)), rfl, SqL.of (by rw [hl, nVs_D]), fun ms p30 pm30 so np30 => ?_⟩
      have em := srt_is pm30 so
      have e30 := Ex.new (o := .lst (ms.map V.int)) np30
      have h30 : upd H29 p30 (.lst (ms.map V.int)) p30 = some (.lst ((srt ((insd (hsOf Y) Y.length bx).map (nuOf N))).map nV)) := by rw [upd_same, em, ← nVs_D]
      have ei : insd (hsOf (ps.zip hs')) (ps.zip hs').length (nuOf N bx) = srt ((insd (hsOf Y) Y.length bx).map (nuOf N)) := by
        rw [l12]
        exact insd_nu Ry.hs B ok.fo hbx
      have e2730 := (e28.trans e29).trans e30
      rw [ei] at h27
      refine ⟨_, _, dp_nats (SqL.of (e2730 _ _ h27)), dp_nats (SqL.of h30), sh_ok (sh_nats _), sh_ok (sh_nats _), false, by rw [eqv_nats] <;> rfl, ?_⟩
      have e2630 := e27.trans e2730
      have y1430 : Sy st H14 _ := sy_go y1426 (sy_ex (st := st) e2630)
      have s30 := s26.mono e2630
      have T30 := tabs_ex T26 e2630
      have h15f := e2630 _ _ h15e
      clear h30 h27 ei em so pm30 hl e29 e30 h28 e28 e27 e2730 e2630 h15e T26 s26 hY26 hY26' hN26 y1426
      generalize upd H29 p30 (.lst (ms.map V.int)) = H30 at y1430 s30 T30 h15f ⊢
      have hps30 := sy_at y1430 hps neD10s (fun ps z => by cases z)
      have hY30 := sy_y s14 y1430 hY
      have hg30 := sy_t s14 y1430 hg
      have hw30 := sy_t s14 y1430 hw
      have c30 := sy_sc y1430 c14
      have prs : ∀ z ∈ Y, ∀ p, z.1 = some p → p ∈ ps.filterMap id := fun z hz p e => by
        obtain ⟨k, hk⟩ := List.mem_iff_getElem?.mp hz
        have hkY := (List.getElem?_eq_some_iff.mp hk).1
        have := okp k hkY
        rw [pr_at hk, e] at this
        exact List.mem_filterMap.mpr ⟨_, List.mem_of_getElem? this, rfl⟩
      have prb : ∀ p ∈ ps.filterMap id, p ≤ 99 := fun p hp => by
        obtain ⟨o, ho, e⟩ := List.mem_filterMap.mp hp
        have e : o = some p := e
        subst e
        obtain ⟨b, hb⟩ := List.mem_iff_getElem?.mp ho
        have hbl := (List.getElem?_eq_some_iff.mp hb).1
        obtain ⟨k, hk, ek⟩ := B.sur (b := b) (by omega)
        have ek : nuOf N k = b := ek
        have := okp k hk
        rw [ek, hb] at this
        have hz : Y[k]? = some Y[k] := List.getElem?_eq_getElem hk
        have := (Option.some.inj this).symm
        rw [pr_at hz] at this
        exact (ok.pr _ (List.getElem_mem hk) p this).2
      clear y1430 s14 c14 T14 hY hY' hg hg' hw hw' hN hps
      refine ⟨_, rfl, lineE (by show 1 ≤ 1000; decide), fun u nu1 => ⟨_, rfl, D10, rfl, ⟨_, SqL.of ((Ex.new nu1) _ _ hps30)⟩, fun D9' nD9' => ?_⟩⟩
      have hu : upd H30 u (.lst [.int 1]) u = some (.lst [.int 1]) := upd_same
      have e31 := Ex.new (o := .lst [.int 1]) nu1
      have hps31 := e31 _ _ hps30
      generalize upd H30 u (.lst [.int 1]) = H31 at nD9' hu e31 hps31 ⊢
      refine lc_list (K := K) (a := D10) (xs := ps.map pV) (fun j H32 => Ex H31 H32 ∧ H32 D9' = some (.lst (((ps.take j).filterMap id).map V.int))) ⟨Ex.new nD9', upd_same⟩ (fun j H32 _ z => SqL.of (z.1 _ _ hps31)) ?_ ?_
      · rintro j y H32 hy ⟨e32, hl⟩
        rw [List.getElem?_map] at hy
        cases er : ps[j]? with
        | none => rw [er] at hy; cases hy
        | some r =>
          rw [er] at hy
          cases Option.some.inj hy
          have hj := (List.getElem?_eq_some_iff.mp er).1
          have et : ps.take (j + 1) = ps.take j ++ [r] := by rw [List.take_add_one, er] <;> rfl
          cases r with
          | none =>
            refine ⟨rfl, _, rfl, rfl, false, rfl, e32, ?_⟩
            rw [hl, et, List.filterMap_append]
            simp
          | some z =>
            have ll := List.length_filterMap_le (id : Option Int → Option Int) (ps.take j)
            rw [List.length_take] at ll
            refine ⟨rfl, _, rfl, rfl, true, rfl, _, rfl, _, hl, lineL (by rw [List.length_map]; omega), e32.mut nD9', ?_⟩
            rw [upd_same, et, List.filterMap_append, List.map_append] <;> rfl
      rintro H32 ⟨e32, hl⟩
      rw [List.length_map, List.take_length] at hl
      have lfm := List.length_filterMap_le (id : Option Int → Option Int) ps
      refine ⟨u, D9', [.int 1], _, rfl, rfl, e32 _ _ hu, hl, lineE (by rw [List.length_map]; simp; omega), fun p33 np33 => ⟨p33, 1 :: ps.filterMap id, rfl, SqL.of upd_same, by simp, fun m hm hle => ?_⟩⟩
      have m1 : 1 ≤ m := hle 1 List.mem_cons_self
      have m2 : m ≤ 99 := by
        rcases List.mem_cons.mp hm with e | hm
        · omega
        · exact prb m hm
      have e3033 := (e31.trans e32).trans (Ex.new (o := .lst ([V.int 1] ++ (ps.filterMap id).map V.int)) np33)
      refine ⟨_, _, rfl, rfl, ⟨by omega, by omega⟩, _, _, rfl, ?_⟩
      have dv : 1 ≤ 99 / m ∧ 99 / m ≤ 99 := ⟨by rw [Int.le_ediv_iff_mul_le (by omega)]; omega, by
        have := Int.ediv_le_self m (show (0 : Int) ≤ 99 by decide)
        omega⟩
      have mx : (if 99 / m > 1 then 99 / m else 1) = 99 / m := by split <;> omega
      refine ⟨st, sc, _, rfl, by omega, by omega, s30.mono e3033, c30.mono ((hid_le st H30).trans e3033), fun d H34 d0 d1 e34 s34 => ⟨_, _, rfl, rfl, ?_⟩⟩
      rw [mx] at d1
      have ob : ∀ z ∈ Y, ∀ p, z.1 = some p → p * (1 + d) ≤ 99 := fun z hz p e => by
        have hp := hle p (List.mem_cons_of_mem _ (prs z hz p e))
        have h1 : p * (1 + d) ≤ m * (99 / m) := Int.mul_le_mul hp (by omega) (by omega) (by omega)
        have h2 := Int.mul_ediv_self_le (x := 99) (k := m) (by omega)
        omega
      have okd := scl_ok ok (show 1 ≤ 1 + d by omega) ob
      have y3034 : Sy st H30 H34 := sy_go (sy_ex e3033) (sy_of e34)
      have T34 := sy_tabs (s30.mono e3033) (tabs_ex T30 e3033) e34
      have c34 := sy_sc y3034 c30
      have hY34 := sy_y s30 y3034 hY30
      have hg34 := sy_t s30 y3034 hg30
      have hw34 := sy_t s30 y3034 hw30
      have h15g : H34 p15 = some (.tup (costsV Y gs W)) := sy_at y3034 h15f ne15 (fun ps z => by cases z)
      clear y3034 e34 mx e3033 np33 hl e32 hps31 e31 hu nD9' prs prb hps30 c30 T30 s30 hY30 hg30 hw30 h15f
      obtain ⟨rs34, hS34, R34⟩ := id hY34
      refine ⟨_, rfl, p3, rfl, ⟨_, hS34⟩, fun D35 nD35 => ?_⟩
      refine lc_tup (K := K) (a := p3) (xs := rs34) (fun j H35 => Ex H34 H35 ∧ ∃ rs, H35 D35 = some (.lst rs) ∧ Rows K (hid D35 H35) rs ((scl (1 + d) Y).take j)) ⟨Ex.new nD35, [], upd_same, rfl, fun i z h => by rw [List.take_zero] at h; cases h⟩ (fun j H35 _ z => ex_t z.1 hS34) ?_ ?_
      · rintro j y H35 hy ⟨e35, rs, hrs, R⟩
        obtain ⟨z, q1, hz, rfl, hq1⟩ := R34.get hy
        have hj := (List.getElem?_eq_some_iff.mp hz).1
        have hz2 : (scl (1 + d) Y)[j]? = some (z.1.map (· * (1 + d)), z.2) := by
          unfold scl
          rw [List.getElem?_map, hz] <;> rfl
        have lrs : rs.length = j := by
          rw [R.len, List.length_take, scl_len]
          omega
        have fin : ∀ (q3 : Addr) (H36 : Hp), Ex H35 H36 → H35 q3 = none → H36 q3 = some (.tup [pV (z.1.map (· * (1 + d))), hV z.2]) → ∃ acc, H36 D35 = some (.lst acc) ∧ acc.length < sizeLine ∧ (Ex H34 (upd H36 D35 (.lst (acc ++ [V.ref q3]))) ∧ ∃ rs, (upd H36 D35 (.lst (acc ++ [V.ref q3]))) D35 = some (.lst rs) ∧ Rows K (hid D35 (upd H36 D35 (.lst (acc ++ [V.ref q3])))) rs ((scl (1 + d) Y).take (j + 1))) := fun q3 H36 e36 nq hq3 => by
          refine ⟨rs, e36 _ _ hrs, lineL (by omega), (e35.trans e36).mut nD35, rs ++ [V.ref q3], upd_same, ?_⟩
          rw [hid_upd]
          exact rows_snocL R (hid_ex e36) hz2 (SqT.of (hid_at hq3 (Ne.symm (ne_of_none hrs nq))))
        refine ⟨q1, _, rfl, ex_t e35 hq1, rfl, _, _, rfl, _, _, rfl, rfl, rfl, ?_⟩
        cases ez : z.1 with
        | none =>
          rw [ez] at fin
          refine ⟨_, rfl, rfl, true, rfl, _, rfl, lineE (by show 2 ≤ 1000; decide), fun q3 nq => fin q3 _ (Ex.new nq) nq upd_same⟩
        | some p =>
          rw [ez] at fin
          have hp := ok.pr z (List.mem_of_getElem? hz) p ez
          refine ⟨_, rfl, rfl, false, rfl, _, rfl, _, rfl, _, _, rfl, rfl, .inl ⟨by omega, by omega⟩, _, rfl, lineE (by show 2 ≤ 1000; decide), fun q3 nq => fin q3 _ (Ex.new nq) nq upd_same⟩
      rintro H35 ⟨e35, rs, hrs, R⟩
      rw [R34.len, List.take_of_length_le (by rw [scl_len]; exact Nat.le_refl _)] at R
      refine ⟨D35, _, rfl, .inl ⟨SqL.of hrs, fun p19 np19 => ?_⟩⟩
      have e36 := e35.trans (Ex.new (o := .tup rs) np19)
      have hY36 : YAt K (upd H35 p19 (.tup rs)) p19 (scl (1 + d) Y) := ⟨rs, SqT.of upd_same, (R.mono (hid_le _ _)).mono (Ex.new np19)⟩
      generalize upd H35 p19 (.tup rs) = H36 at e36 hY36 ⊢
      have hg36 := ex_t e36 hg34
      have hw36 := ex_t e36 hw34
      have h15h := e36 _ _ h15g
      refine ⟨_, rfl, _, rfl, _, rfl, p19, p4, p5, scl (1 + d) Y, gs, W, rfl, hY36, okd, by rw [scl_len]; exact og, hg36, by rw [scl_len]; exact ow, hw36, tabs_ex T34 e36, fun p37 H37 e37 T37 h37 => ?_⟩
      have s37 := st_n (s34.mono e36) e37
      have y3437 : Sy st H34 H37 := sy_go (sy_ex e36) (sy_n e37)
      have c37 := sy_sc y3437 c34
      have h15i := e37 _ _ h15h (fun ps z => by cases z)
      clear y3437 hY36 hg36 hw36 h15h e36 R hrs e35
      have cf := costs_flat Y gs W
      have d99 : 1 + d ≤ 1000 := by omega
      clear ob
      refine due_go rfl rfl (SqT.of h15i) (show atI (costsV Y gs W) 0 = some (leastV Y gs) from rfl) (cf _ (by simp [costsV])) (by omega) d99 ?_
      refine ⟨lineE (by show 1 ≤ 1000; decide), fun q1 nq1 => ⟨_, rfl, 1, rfl, 3, rfl, ?_⟩⟩
      have g1 := Ex.new (o := .tup [sclV (1 + d) (leastV Y gs)]) nq1
      refine sl_go (xs := costsV Y gs W) (SqT.of (g1 _ _ h15i)) (show ¬ (HT.sIx 4 0 (some 1) = 0 ∧ HT.sIx 4 4 (some 3) = 4) by decide) fun q2 nq2 => ?_
      have ec : cutV (costsV Y gs W) (some 1) (some 3) = [fewV Y gs, .int (reachN Y)] := rfl
      rw [ec]
      have g2 := Ex.new (o := .tup [fewV Y gs, .int (reachN Y)]) nq2
      refine cat_go (xs := [sclV (1 + d) (leastV Y gs)]) (ys := [fewV Y gs, .int (reachN Y)]) (g2 _ _ upd_same) upd_same (by show 3 ≤ 1000; decide) fun q3 H38 e38 h38 => ?_
      have g3 := (g1.trans g2).trans e38
      refine due_go rfl rfl (SqT.of (g3 _ _ h15i)) (show atI (costsV Y gs W) 3 = some (cheapV Y W) from rfl) (cf _ (by simp [costsV])) (by omega) d99 ?_
      refine ⟨lineE (by show 1 ≤ 1000; decide), fun q4 nq4 => ?_⟩
      have g4 := Ex.new (o := .tup [sclV (1 + d) (cheapV Y W)]) nq4
      refine cat_go (xs := [sclV (1 + d) (leastV Y gs)] ++ [fewV Y gs, .int (reachN Y)]) (ys := [sclV (1 + d) (cheapV Y W)]) (g4 _ _ h38) upd_same (by show 4 ≤ 1000; decide) fun q5 H39 e39 h39 => ?_
      have g5 := (g3.trans g4).trans e39
      have o0 : (0 : Int) < 1 + d := by omega
      have es : costsV (scl (1 + d) Y) gs W = ([sclV (1 + d) (leastV Y gs)] ++ [fewV Y gs, .int (reachN Y)]) ++ [sclV (1 + d) (cheapV Y W)] := by
        show [leastV (scl (1 + d) Y) gs, fewV (scl (1 + d) Y) gs, V.int (reachN (scl (1 + d) Y)), cheapV (scl (1 + d) Y) W] = _
        rw [scl_least, scl_few, scl_reach, scl_cheap o0]
        rfl
      rw [← es] at h39
      refine ⟨_, rfl, _, rfl, _, _, dp_vs (SqT.of (g5 _ _ h37)) (costs_flat _ _ _), dp_vs (SqT.of h39) (costs_flat _ _ _), sh_ok (sh_vs _), sh_ok (sh_vs _), false, by rw [eqv_vs] <;> rfl, ?_⟩
      exact ⟨_, _, _, _, _, _, _, _, _, _, _, _, _, _, _, _, _, _, _, _, rfl, s37.mono g5, c37.mono ((hid_le st H37).trans g5), tabs_ex T37 g5⟩
    · rintro σ H1 ⟨v2, v3, v4, v5, v6, v7, v8, v9, v10, v11, v12, v13, v14, v15, v16, v17, v18, v19, v20, v21, rfl, _⟩
      exact q H1
end
end K16
set_option maxHeartbeats 8000000
namespace K16
open PySem PySem.Spec PyProof.Rows L2 LamX Evl
/-! ### the facts of the top -/
def dF (x : Str) (st : Stmt) : He.FnD := ⟨(x, none), x, x, C8.fnArgs st, C8.fnBody st, C8.fnScope st⟩
def dM (C m q : Str) (st : Stmt) : He.FnD := ⟨(C, some m), m, q, C8.fnArgs st, C8.fnBody st, C8.fnScope st⟩
def fns : List He.FnD := [dF "is_number" s_is_number, dF "is_price" s_is_price, dF "is_holder" s_is_holder, dF "holders_of" s_holders_of, dF "ring_from" s_ring_from, dF "first_in_itself" s_first_in_itself, dF "need_yard" s_need_yard, dF "need_wish" s_need_wish, dF "need_goal" s_need_goal, dF "need_box" s_need_box, dF "chain_of" s_chain_of, dF "inside" s_inside, dF "depths" s_depths, dF "is_under" s_is_under, dF "placed" s_placed, dF "task_of" s_task_of, dF "fewest" s_fewest, dF "top_of" s_top_of, dF "reach" s_reach, dF "hope_of" s_hope_of, dF "rings" s_rings, dF "breakers" s_breakers, dF "cheapest" s_cheapest, dF "orders" s_orders, dF "_law_start" s__law_start, dF "_law_drawn" s__law_drawn, dF "_law_turned" s__law_turned, dF "_law_nesting" s__law_nesting, dF "_law_yard" s__law_yard, dF "_law_up" s__law_up, dF "_law_goal" s__law_goal, dF "_law_wish" s__law_wish, dF "least" s_least, dF "_law_moved" s__law_moved, dF "_law_costs" s__law_costs, dF "_law_rings_so" s__law_rings_so, dF "law" s_law, dM "Task" "__init__" "Task.__init__" s_Task_init, dM "Task" "may" "Task.may" s_Task_may, dM "Task" "cost" "Task.cost" s_Task_cost, dM "Hope" "__init__" "Hope.__init__" s_Hope_init, dM "Hope" "breaking" "Hope.breaking" s_Hope_breaking, dM "Hope" "bar" "Hope.bar" s_Hope_bar, dM "Hope" "best_goal" "Hope.best_goal" s_Hope_best_goal, dM "Task" "orders" "Task.orders" s_Task_orders, dM "Task" "way" "Task.way" s_Task_way]
def fas0 : List He.Fa := [.glo "is_number", .keep "is_number", .glo "is_price", .keep "is_price", .glo "is_holder", .keep "is_holder", .glo "holders_of", .keep "holders_of", .glo "ring_from", .keep "ring_from", .glo "first_in_itself", .keep "first_in_itself", .glo "need_yard", .keep "need_yard", .glo "need_wish", .keep "need_wish", .glo "need_goal", .keep "need_goal", .glo "need_box", .keep "need_box", .glo "chain_of", .keep "chain_of", .glo "inside", .keep "inside", .glo "depths", .keep "depths", .glo "is_under", .keep "is_under", .glo "placed", .keep "placed"]
def fas1 : List He.Fa := [.glo "task_of", .keep "task_of", .glo "fewest", .keep "fewest", .glo "top_of", .keep "top_of", .glo "reach", .keep "reach", .glo "hope_of", .keep "hope_of", .glo "rings", .keep "rings", .glo "breakers", .keep "breakers", .glo "cheapest", .keep "cheapest", .glo "orders", .keep "orders", .glo "_law_start", .keep "_law_start", .glo "_law_drawn", .keep "_law_drawn", .glo "_law_turned", .keep "_law_turned", .glo "_law_nesting", .keep "_law_nesting", .glo "_law_yard", .keep "_law_yard", .glo "_law_up", .keep "_law_up"]
def fas2 : List He.Fa := [.glo "_law_goal", .keep "_law_goal", .glo "_law_wish", .keep "_law_wish", .glo "least", .keep "least", .glo "_law_moved", .keep "_law_moved", .glo "_law_costs", .keep "_law_costs", .glo "_law_rings_so", .keep "_law_rings_so", .glo "law", .keep "law", .code ("is_number", none) "is_number", .code ("is_price", none) "is_price", .code ("is_holder", none) "is_holder", .code ("holders_of", none) "holders_of", .code ("ring_from", none) "ring_from", .code ("first_in_itself", none) "first_in_itself", .code ("need_yard", none) "need_yard", .code ("need_wish", none) "need_wish", .code ("need_goal", none) "need_goal", .code ("need_box", none) "need_box", .code ("chain_of", none) "chain_of", .code ("inside", none) "inside", .code ("depths", none) "depths", .code ("is_under", none) "is_under", .code ("placed", none) "placed", .code ("task_of", none) "task_of"]
def fas3 : List He.Fa := [.code ("fewest", none) "fewest", .code ("top_of", none) "top_of", .code ("reach", none) "reach", .code ("hope_of", none) "hope_of", .code ("rings", none) "rings", .code ("breakers", none) "breakers", .code ("cheapest", none) "cheapest", .code ("orders", none) "orders", .code ("_law_start", none) "_law_start", .code ("_law_drawn", none) "_law_drawn", .code ("_law_turned", none) "_law_turned", .code ("_law_nesting", none) "_law_nesting", .code ("_law_yard", none) "_law_yard", .code ("_law_up", none) "_law_up", .code ("_law_goal", none) "_law_goal", .code ("_law_wish", none) "_law_wish", .code ("least", none) "least", .code ("_law_moved", none) "_law_moved", .code ("_law_costs", none) "_law_costs", .code ("_law_rings_so", none) "_law_rings_so", .code ("law", none) "law", .free "int", .free "bool", .free "str", .free "tuple", .free "list", .free "isinstance", .free "len", .free "range", .free "enumerate"]
def fas4 : List He.Fa := [.free "zip", .free "sum", .free "any", .free "min", .free "max", .free "sorted", .int "MOST_BOXES" 12, .int "MOST_PRICE" 99, .str "OPEN" "open", .str "PRICE" "price", .str "RING" "ring", .glo "Task", .cls "Task", .mkr "Task", .noat "Task" "boxes", .noat "Task" "wanted", .noat "Task" "holders", .noat "Task" "some", .glo "Hope", .cls "Hope", .mkr "Hope", .noat "Hope" "boxes", .noat "Hope" "wish", .noat "Hope" "arrows", .noat "Hope" "loops", .meth "Task" "may", .meth "Task" "cost", .meth "Hope" "breaking", .meth "Hope" "bar", .meth "Hope" "best_goal"]
def fas5 : List He.Fa := [.meth "Task" "orders", .meth "Task" "way"]
section
variable {P : Program} {w : World} {K : PySem.W.Frag} {mg : Str → Option Value} {base h : Heap}
def allB (K : PySem.W.Frag) (l : List He.Fa) : Bool := l.all fun f => f.ok K
theorem allB_ok {l : List He.Fa} (e : allB K l = true) : ∀ f ∈ l, f.ok K = true := List.all_eq_true.mp e
/-- what the head is asked -/
structure Facts (K : PySem.W.Frag) : Prop where
  a0 : allB K fas0 = true
  a1 : allB K fas1 = true
  a2 : allB K fas2 = true
  a3 : allB K fas3 = true
  a4 : allB K fas4 = true
  a5 : allB K fas5 = true
  f : (fns.map fun d => He.fnObs K d.at_) = fns.map He.FnD.val
  c : (fns.all fun d => (He.Fa.code d.at_ d.qual).ok K) = true
theorem fdef (S : Facts K) (i : Nat) {d : He.FnD} (e0 : fns[i]? = some d) : ∃ oc od osl kV doc pm an cdv ct, K.lookup (He.fAd K d.at_) = some ⟨oc, od, .func (PySem.W.fnOf d.name d.qual d.params d.body d.scope .none kV doc pm an cdv ct), osl⟩ ∧ PySem.W.codeIn K cdv d.qual = true := by
  have e2 : (fns.map fun d => He.fnObs K d.at_)[i]? = (fns.map He.FnD.val)[i]? := by rw [S.f]
  rw [List.getElem?_map, List.getElem?_map, e0] at e2
  exact He.fn_ok (Option.some.inj e2) (List.all_eq_true.mp S.c d (List.mem_of_getElem? e0))
theorem cdef (X : K.In h) (G : h.Ns mainGlobals mg) (S : Facts K) {x : Str} {st : Stmt} (i : Nat) (e0 : fns[i]? = some (dF x st)) (hg : (He.Fa.glo x).ok K = true) (hk : (He.Fa.keep x).ok K = true) : ∃ fd, C8.Def K mg x st (He.ga K x) fd ∧ fd.defaults = .none := by
  obtain ⟨oc, od, osl, kV, doc, pm, an, cdv, ct, lk, hc⟩ := fdef S i e0
  exact ⟨_, ⟨⟨oc, od, .none, kV, doc, pm, an, cdv, ct, osl, rfl, lk, hc⟩, He.glo_ok X G hg, He.keep_ok hk⟩, rfl⟩
theorem mdef (S : Facts K) {C m q : Str} {st : Stmt} (i : Nat) (e0 : fns[i]? = some (dM C m q st)) : ∃ fd, C8.Fun K m q st (He.ma K (He.ga K C) m) fd ∧ fd.defaults = .none ∧ ∃ oc od osl, K.lookup (He.ma K (He.ga K C) m) = some ⟨oc, od, .func fd, osl⟩ := by
  obtain ⟨oc, od, osl, kV, doc, pm, an, cdv, ct, lk, hc⟩ := fdef S i e0
  exact ⟨_, ⟨oc, od, .none, kV, doc, pm, an, cdv, ct, osl, rfl, lk, hc⟩, rfl, oc, od, osl, lk⟩
/-- the code object of Task.way -/
def wayC (K : PySem.W.Frag) : Addr := match K.lookup (He.ma K (He.ga K "Task") "way") with
  | some ⟨_, _, .func fd, _⟩ => (match fd.code with
    | .ref c => c
    | _ => 0)
  | _ => 0
def wayB (K : PySem.W.Frag) : Bool := match K.lookup (He.ma K (He.ga K "Task") "way") with
  | some ⟨_, _, .func fd, _⟩ => decide (fd.code = .ref (wayC K))
  | _ => false
theorem fun_to {x qual : Str} {st : Stmt} {f : Addr} {fd : FuncData} (F : C8.Fun K x qual st f fd) (df : fd.defaults = .none) {ps : List Str}
    (h : ∀ (kV doc pm : Value) (an : Option Addr) (cdv ct : Value) (us : List Value), us.length = ps.length → bindArgs (PySem.W.fnOf x qual (C8.fnArgs st) (C8.fnBody st) (C8.fnScope st) .none kV doc pm an cdv ct) ⟨us, []⟩ = pure (ps.zip us)) (s : Shared) (us : List Value) (hl : us.length = ps.length) : BindsTo s fd ⟨us, []⟩ (ps.zip us) := by
  obtain ⟨oc, od, dV, kV, doc, pm, an, cdv, ct, osl, rfl, lk, hcd⟩ := F.ex
  have e : dV = .none := df
  subst e
  exact .of_eq (h kV doc pm an cdv ct us hl)
theorem gb (X : K.In h) (G : h.Ns mainGlobals mg) (S : Facts K) : Gb mg := by
  have H0 := allB_ok S.a0
  have H1 := allB_ok S.a1
  have H2 := allB_ok S.a2
  have H3 := allB_ok S.a3
  have H4 := allB_ok S.a4
  have H5 := allB_ok S.a5
  constructor
  · exact He.free_ok X G (H3 _ (List.mem_of_getElem? (i := 21) (a := He.Fa.free "int") rfl))
  · exact He.free_ok X G (H3 _ (List.mem_of_getElem? (i := 22) (a := He.Fa.free "bool") rfl))
  · exact He.free_ok X G (H3 _ (List.mem_of_getElem? (i := 23) (a := He.Fa.free "str") rfl))
  · exact He.free_ok X G (H3 _ (List.mem_of_getElem? (i := 24) (a := He.Fa.free "tuple") rfl))
  · exact He.free_ok X G (H3 _ (List.mem_of_getElem? (i := 25) (a := He.Fa.free "list") rfl))
  · exact He.free_ok X G (H3 _ (List.mem_of_getElem? (i := 26) (a := He.Fa.free "isinstance") rfl))
  · exact He.free_ok X G (H3 _ (List.mem_of_getElem? (i := 27) (a := He.Fa.free "len") rfl))
  · exact He.free_ok X G (H3 _ (List.mem_of_getElem? (i := 28) (a := He.Fa.free "range") rfl))
  · exact He.free_ok X G (H3 _ (List.mem_of_getElem? (i := 29) (a := He.Fa.free "enumerate") rfl))
  · exact He.free_ok X G (H4 _ (List.mem_of_getElem? (i := 0) (a := He.Fa.free "zip") rfl))
  · exact He.free_ok X G (H4 _ (List.mem_of_getElem? (i := 1) (a := He.Fa.free "sum") rfl))
  · exact He.free_ok X G (H4 _ (List.mem_of_getElem? (i := 2) (a := He.Fa.free "any") rfl))
  · exact He.free_ok X G (H4 _ (List.mem_of_getElem? (i := 3) (a := He.Fa.free "min") rfl))
  · exact He.free_ok X G (H4 _ (List.mem_of_getElem? (i := 4) (a := He.Fa.free "max") rfl))
  · exact He.free_ok X G (H4 _ (List.mem_of_getElem? (i := 5) (a := He.Fa.free "sorted") rfl))
  · obtain ⟨t, e⟩ := He.int_ok X G (H4 _ (List.mem_of_getElem? (i := 6) (a := He.Fa.int "MOST_BOXES" 12) rfl))
    exact ⟨_, e, t, rfl⟩
  · obtain ⟨t, e⟩ := He.int_ok X G (H4 _ (List.mem_of_getElem? (i := 7) (a := He.Fa.int "MOST_PRICE" 99) rfl))
    exact ⟨_, e, t, rfl⟩
  · obtain ⟨t, e⟩ := He.str_ok X G (H4 _ (List.mem_of_getElem? (i := 8) (a := He.Fa.str "OPEN" "open") rfl))
    exact ⟨_, e, t, rfl⟩
  · obtain ⟨t, e⟩ := He.str_ok X G (H4 _ (List.mem_of_getElem? (i := 9) (a := He.Fa.str "PRICE" "price") rfl))
    exact ⟨_, e, t, rfl⟩
  · obtain ⟨t, e⟩ := He.str_ok X G (H4 _ (List.mem_of_getElem? (i := 10) (a := He.Fa.str "RING" "ring") rfl))
    exact ⟨_, e, t, rfl⟩
/-- the end: every promise, from the first def to the law -/
theorem fin {l : PySem.W.OpenLaw} {fa P1 : Addr} {n : Nat} (S : Facts K) (hw : wayB K = true) (hc : PySem.W.codeHdIn K (wayC K) P1 = true) (hl : K.lookup P1 = none) (ht : h.get? P1 = some { cls := .none, data := .fields #[] }) (X : K.In h) (G : h.Ns mainGlobals mg) (hmg : mg "law" = some (.ref fa)) :
    LamX.LawAtS l w K C8.CX0 8 n "_law_script" mg fa h := by
  have H0 := allB_ok S.a0
  have H1 := allB_ok S.a1
  have H2 := allB_ok S.a2
  have H3 := allB_ok S.a3
  have H4 := allB_ok S.a4
  have H5 := allB_ok S.a5
  have T := gb X G S
  obtain ⟨fd_is_number, F_is_number, D_is_number⟩ := cdef X G S (x := "is_number") (st := s_is_number) 0 rfl (H0 _ (List.mem_of_getElem? (i := 0) (a := He.Fa.glo "is_number") rfl)) (H0 _ (List.mem_of_getElem? (i := 1) (a := He.Fa.keep "is_number") rfl))
  have b_is_number := F_is_number.fn.binds (ps := P_is_number) D_is_number fun _ _ _ _ _ _ us hl => match us, hl with | [_, _, _], _ => rfl
  obtain ⟨fd_is_price, F_is_price, D_is_price⟩ := cdef X G S (x := "is_price") (st := s_is_price) 1 rfl (H0 _ (List.mem_of_getElem? (i := 2) (a := He.Fa.glo "is_price") rfl)) (H0 _ (List.mem_of_getElem? (i := 3) (a := He.Fa.keep "is_price") rfl))
  have b_is_price := F_is_price.fn.binds (ps := P_is_price) D_is_price fun _ _ _ _ _ _ us hl => match us, hl with | [_], _ => rfl
  obtain ⟨fd_is_holder, F_is_holder, D_is_holder⟩ := cdef X G S (x := "is_holder") (st := s_is_holder) 2 rfl (H0 _ (List.mem_of_getElem? (i := 4) (a := He.Fa.glo "is_holder") rfl)) (H0 _ (List.mem_of_getElem? (i := 5) (a := He.Fa.keep "is_holder") rfl))
  have b_is_holder := F_is_holder.fn.binds (ps := P_is_holder) D_is_holder fun _ _ _ _ _ _ us hl => match us, hl with | [_, _], _ => rfl
  obtain ⟨fd_holders_of, F_holders_of, D_holders_of⟩ := cdef X G S (x := "holders_of") (st := s_holders_of) 3 rfl (H0 _ (List.mem_of_getElem? (i := 6) (a := He.Fa.glo "holders_of") rfl)) (H0 _ (List.mem_of_getElem? (i := 7) (a := He.Fa.keep "holders_of") rfl))
  have b_holders_of := F_holders_of.fn.binds (ps := P_holders_of) D_holders_of fun _ _ _ _ _ _ us hl => match us, hl with | [_], _ => rfl
  obtain ⟨fd_ring_from, F_ring_from, D_ring_from⟩ := cdef X G S (x := "ring_from") (st := s_ring_from) 4 rfl (H0 _ (List.mem_of_getElem? (i := 8) (a := He.Fa.glo "ring_from") rfl)) (H0 _ (List.mem_of_getElem? (i := 9) (a := He.Fa.keep "ring_from") rfl))
  have b_ring_from := F_ring_from.fn.binds (ps := P_ring_from) D_ring_from fun _ _ _ _ _ _ us hl => match us, hl with | [_, _], _ => rfl
  obtain ⟨fd_first_in_itself, F_first_in_itself, D_first_in_itself⟩ := cdef X G S (x := "first_in_itself") (st := s_first_in_itself) 5 rfl (H0 _ (List.mem_of_getElem? (i := 10) (a := He.Fa.glo "first_in_itself") rfl)) (H0 _ (List.mem_of_getElem? (i := 11) (a := He.Fa.keep "first_in_itself") rfl))
  have b_first_in_itself := F_first_in_itself.fn.binds (ps := P_first_in_itself) D_first_in_itself fun _ _ _ _ _ _ us hl => match us, hl with | [_], _ => rfl
  obtain ⟨fd_need_yard, F_need_yard, D_need_yard⟩ := cdef X G S (x := "need_yard") (st := s_need_yard) 6 rfl (H0 _ (List.mem_of_getElem? (i := 12) (a := He.Fa.glo "need_yard") rfl)) (H0 _ (List.mem_of_getElem? (i := 13) (a := He.Fa.keep "need_yard") rfl))
  have b_need_yard := F_need_yard.fn.binds (ps := P_need_yard) D_need_yard fun _ _ _ _ _ _ us hl => match us, hl with | [_], _ => rfl
  obtain ⟨fd_need_wish, F_need_wish, D_need_wish⟩ := cdef X G S (x := "need_wish") (st := s_need_wish) 7 rfl (H0 _ (List.mem_of_getElem? (i := 14) (a := He.Fa.glo "need_wish") rfl)) (H0 _ (List.mem_of_getElem? (i := 15) (a := He.Fa.keep "need_wish") rfl))
  have b_need_wish := F_need_wish.fn.binds (ps := P_need_wish) D_need_wish fun _ _ _ _ _ _ us hl => match us, hl with | [_, _], _ => rfl
  obtain ⟨fd_need_goal, F_need_goal, D_need_goal⟩ := cdef X G S (x := "need_goal") (st := s_need_goal) 8 rfl (H0 _ (List.mem_of_getElem? (i := 16) (a := He.Fa.glo "need_goal") rfl)) (H0 _ (List.mem_of_getElem? (i := 17) (a := He.Fa.keep "need_goal") rfl))
  have b_need_goal := F_need_goal.fn.binds (ps := P_need_goal) D_need_goal fun _ _ _ _ _ _ us hl => match us, hl with | [_, _], _ => rfl
  obtain ⟨fd_need_box, F_need_box, D_need_box⟩ := cdef X G S (x := "need_box") (st := s_need_box) 9 rfl (H0 _ (List.mem_of_getElem? (i := 18) (a := He.Fa.glo "need_box") rfl)) (H0 _ (List.mem_of_getElem? (i := 19) (a := He.Fa.keep "need_box") rfl))
  have b_need_box := F_need_box.fn.binds (ps := P_need_box) D_need_box fun _ _ _ _ _ _ us hl => match us, hl with | [_, _], _ => rfl
  obtain ⟨fd_chain_of, F_chain_of, D_chain_of⟩ := cdef X G S (x := "chain_of") (st := s_chain_of) 10 rfl (H0 _ (List.mem_of_getElem? (i := 20) (a := He.Fa.glo "chain_of") rfl)) (H0 _ (List.mem_of_getElem? (i := 21) (a := He.Fa.keep "chain_of") rfl))
  have b_chain_of := F_chain_of.fn.binds (ps := P_chain_of) D_chain_of fun _ _ _ _ _ _ us hl => match us, hl with | [_, _], _ => rfl
  obtain ⟨fd_inside, F_inside, D_inside⟩ := cdef X G S (x := "inside") (st := s_inside) 11 rfl (H0 _ (List.mem_of_getElem? (i := 22) (a := He.Fa.glo "inside") rfl)) (H0 _ (List.mem_of_getElem? (i := 23) (a := He.Fa.keep "inside") rfl))
  have b_inside := F_inside.fn.binds (ps := P_inside) D_inside fun _ _ _ _ _ _ us hl => match us, hl with | [_, _], _ => rfl
  obtain ⟨fd_depths, F_depths, D_depths⟩ := cdef X G S (x := "depths") (st := s_depths) 12 rfl (H0 _ (List.mem_of_getElem? (i := 24) (a := He.Fa.glo "depths") rfl)) (H0 _ (List.mem_of_getElem? (i := 25) (a := He.Fa.keep "depths") rfl))
  have b_depths := F_depths.fn.binds (ps := P_depths) D_depths fun _ _ _ _ _ _ us hl => match us, hl with | [_], _ => rfl
  obtain ⟨fd_is_under, F_is_under, D_is_under⟩ := cdef X G S (x := "is_under") (st := s_is_under) 13 rfl (H0 _ (List.mem_of_getElem? (i := 26) (a := He.Fa.glo "is_under") rfl)) (H0 _ (List.mem_of_getElem? (i := 27) (a := He.Fa.keep "is_under") rfl))
  have b_is_under := F_is_under.fn.binds (ps := P_is_under) D_is_under fun _ _ _ _ _ _ us hl => match us, hl with | [_, _, _], _ => rfl
  obtain ⟨fd_placed, F_placed, D_placed⟩ := cdef X G S (x := "placed") (st := s_placed) 14 rfl (H0 _ (List.mem_of_getElem? (i := 28) (a := He.Fa.glo "placed") rfl)) (H0 _ (List.mem_of_getElem? (i := 29) (a := He.Fa.keep "placed") rfl))
  have b_placed := F_placed.fn.binds (ps := P_placed) D_placed fun _ _ _ _ _ _ us hl => match us, hl with | [_, _, _], _ => rfl
  obtain ⟨fd_task_of, F_task_of, D_task_of⟩ := cdef X G S (x := "task_of") (st := s_task_of) 15 rfl (H1 _ (List.mem_of_getElem? (i := 0) (a := He.Fa.glo "task_of") rfl)) (H1 _ (List.mem_of_getElem? (i := 1) (a := He.Fa.keep "task_of") rfl))
  have b_task_of := F_task_of.fn.binds (ps := P_task_of) D_task_of fun _ _ _ _ _ _ us hl => match us, hl with | [_, _], _ => rfl
  obtain ⟨fd_fewest, F_fewest, D_fewest⟩ := cdef X G S (x := "fewest") (st := s_fewest) 16 rfl (H1 _ (List.mem_of_getElem? (i := 2) (a := He.Fa.glo "fewest") rfl)) (H1 _ (List.mem_of_getElem? (i := 3) (a := He.Fa.keep "fewest") rfl))
  have b_fewest := F_fewest.fn.binds (ps := P_fewest) D_fewest fun _ _ _ _ _ _ us hl => match us, hl with | [_, _], _ => rfl
  obtain ⟨fd_top_of, F_top_of, D_top_of⟩ := cdef X G S (x := "top_of") (st := s_top_of) 17 rfl (H1 _ (List.mem_of_getElem? (i := 4) (a := He.Fa.glo "top_of") rfl)) (H1 _ (List.mem_of_getElem? (i := 5) (a := He.Fa.keep "top_of") rfl))
  have b_top_of := F_top_of.fn.binds (ps := P_top_of) D_top_of fun _ _ _ _ _ _ us hl => match us, hl with | [_, _], _ => rfl
  obtain ⟨fd_reach, F_reach, D_reach⟩ := cdef X G S (x := "reach") (st := s_reach) 18 rfl (H1 _ (List.mem_of_getElem? (i := 6) (a := He.Fa.glo "reach") rfl)) (H1 _ (List.mem_of_getElem? (i := 7) (a := He.Fa.keep "reach") rfl))
  have b_reach := F_reach.fn.binds (ps := P_reach) D_reach fun _ _ _ _ _ _ us hl => match us, hl with | [_], _ => rfl
  obtain ⟨fd_hope_of, F_hope_of, D_hope_of⟩ := cdef X G S (x := "hope_of") (st := s_hope_of) 19 rfl (H1 _ (List.mem_of_getElem? (i := 8) (a := He.Fa.glo "hope_of") rfl)) (H1 _ (List.mem_of_getElem? (i := 9) (a := He.Fa.keep "hope_of") rfl))
  have b_hope_of := F_hope_of.fn.binds (ps := P_hope_of) D_hope_of fun _ _ _ _ _ _ us hl => match us, hl with | [_, _], _ => rfl
  obtain ⟨fd_rings, F_rings, D_rings⟩ := cdef X G S (x := "rings") (st := s_rings) 20 rfl (H1 _ (List.mem_of_getElem? (i := 10) (a := He.Fa.glo "rings") rfl)) (H1 _ (List.mem_of_getElem? (i := 11) (a := He.Fa.keep "rings") rfl))
  have b_rings := F_rings.fn.binds (ps := P_rings) D_rings fun _ _ _ _ _ _ us hl => match us, hl with | [_, _], _ => rfl
  obtain ⟨fd_breakers, F_breakers, D_breakers⟩ := cdef X G S (x := "breakers") (st := s_breakers) 21 rfl (H1 _ (List.mem_of_getElem? (i := 12) (a := He.Fa.glo "breakers") rfl)) (H1 _ (List.mem_of_getElem? (i := 13) (a := He.Fa.keep "breakers") rfl))
  have b_breakers := F_breakers.fn.binds (ps := P_breakers) D_breakers fun _ _ _ _ _ _ us hl => match us, hl with | [_, _], _ => rfl
  obtain ⟨fd_cheapest, F_cheapest, D_cheapest⟩ := cdef X G S (x := "cheapest") (st := s_cheapest) 22 rfl (H1 _ (List.mem_of_getElem? (i := 14) (a := He.Fa.glo "cheapest") rfl)) (H1 _ (List.mem_of_getElem? (i := 15) (a := He.Fa.keep "cheapest") rfl))
  have b_cheapest := F_cheapest.fn.binds (ps := P_cheapest) D_cheapest fun _ _ _ _ _ _ us hl => match us, hl with | [_, _], _ => rfl
  obtain ⟨fd_orders, F_orders, D_orders⟩ := cdef X G S (x := "orders") (st := s_orders) 23 rfl (H1 _ (List.mem_of_getElem? (i := 16) (a := He.Fa.glo "orders") rfl)) (H1 _ (List.mem_of_getElem? (i := 17) (a := He.Fa.keep "orders") rfl))
  have b_orders := F_orders.fn.binds (ps := P_orders) D_orders fun _ _ _ _ _ _ us hl => match us, hl with | [_, _], _ => rfl
  obtain ⟨fd__law_start, F__law_start, D__law_start⟩ := cdef X G S (x := "_law_start") (st := s__law_start) 24 rfl (H1 _ (List.mem_of_getElem? (i := 18) (a := He.Fa.glo "_law_start") rfl)) (H1 _ (List.mem_of_getElem? (i := 19) (a := He.Fa.keep "_law_start") rfl))
  have b__law_start := F__law_start.fn.binds (ps := P__law_start) D__law_start fun _ _ _ _ _ _ us hl => match us, hl with | [_], _ => rfl
  obtain ⟨fd__law_drawn, F__law_drawn, D__law_drawn⟩ := cdef X G S (x := "_law_drawn") (st := s__law_drawn) 25 rfl (H1 _ (List.mem_of_getElem? (i := 20) (a := He.Fa.glo "_law_drawn") rfl)) (H1 _ (List.mem_of_getElem? (i := 21) (a := He.Fa.keep "_law_drawn") rfl))
  have b__law_drawn := F__law_drawn.fn.binds (ps := P__law_drawn) D__law_drawn fun _ _ _ _ _ _ us hl => match us, hl with | [_, _], _ => rfl
  obtain ⟨fd__law_turned, F__law_turned, D__law_turned⟩ := cdef X G S (x := "_law_turned") (st := s__law_turned) 26 rfl (H1 _ (List.mem_of_getElem? (i := 22) (a := He.Fa.glo "_law_turned") rfl)) (H1 _ (List.mem_of_getElem? (i := 23) (a := He.Fa.keep "_law_turned") rfl))
  have b__law_turned := F__law_turned.fn.binds (ps := P__law_turned) D__law_turned fun _ _ _ _ _ _ us hl => match us, hl with | [_, _], _ => rfl
  obtain ⟨fd__law_nesting, F__law_nesting, D__law_nesting⟩ := cdef X G S (x := "_law_nesting") (st := s__law_nesting) 27 rfl (H1 _ (List.mem_of_getElem? (i := 24) (a := He.Fa.glo "_law_nesting") rfl)) (H1 _ (List.mem_of_getElem? (i := 25) (a := He.Fa.keep "_law_nesting") rfl))
  have b__law_nesting := F__law_nesting.fn.binds (ps := P__law_nesting) D__law_nesting fun _ _ _ _ _ _ us hl => match us, hl with | [_, _], _ => rfl
  obtain ⟨fd__law_yard, F__law_yard, D__law_yard⟩ := cdef X G S (x := "_law_yard") (st := s__law_yard) 28 rfl (H1 _ (List.mem_of_getElem? (i := 26) (a := He.Fa.glo "_law_yard") rfl)) (H1 _ (List.mem_of_getElem? (i := 27) (a := He.Fa.keep "_law_yard") rfl))
  have b__law_yard := F__law_yard.fn.binds (ps := P__law_yard) D__law_yard fun _ _ _ _ _ _ us hl => match us, hl with | [_, _], _ => rfl
  obtain ⟨fd__law_up, F__law_up, D__law_up⟩ := cdef X G S (x := "_law_up") (st := s__law_up) 29 rfl (H1 _ (List.mem_of_getElem? (i := 28) (a := He.Fa.glo "_law_up") rfl)) (H1 _ (List.mem_of_getElem? (i := 29) (a := He.Fa.keep "_law_up") rfl))
  have b__law_up := F__law_up.fn.binds (ps := P__law_up) D__law_up fun _ _ _ _ _ _ us hl => match us, hl with | [_, _], _ => rfl
  obtain ⟨fd__law_goal, F__law_goal, D__law_goal⟩ := cdef X G S (x := "_law_goal") (st := s__law_goal) 30 rfl (H2 _ (List.mem_of_getElem? (i := 0) (a := He.Fa.glo "_law_goal") rfl)) (H2 _ (List.mem_of_getElem? (i := 1) (a := He.Fa.keep "_law_goal") rfl))
  have b__law_goal := F__law_goal.fn.binds (ps := P__law_goal) D__law_goal fun _ _ _ _ _ _ us hl => match us, hl with | [_, _], _ => rfl
  obtain ⟨fd__law_wish, F__law_wish, D__law_wish⟩ := cdef X G S (x := "_law_wish") (st := s__law_wish) 31 rfl (H2 _ (List.mem_of_getElem? (i := 2) (a := He.Fa.glo "_law_wish") rfl)) (H2 _ (List.mem_of_getElem? (i := 3) (a := He.Fa.keep "_law_wish") rfl))
  have b__law_wish := F__law_wish.fn.binds (ps := P__law_wish) D__law_wish fun _ _ _ _ _ _ us hl => match us, hl with | [_, _], _ => rfl
  obtain ⟨fd_least, F_least, D_least⟩ := cdef X G S (x := "least") (st := s_least) 32 rfl (H2 _ (List.mem_of_getElem? (i := 4) (a := He.Fa.glo "least") rfl)) (H2 _ (List.mem_of_getElem? (i := 5) (a := He.Fa.keep "least") rfl))
  have b_least := F_least.fn.binds (ps := P_least) D_least fun _ _ _ _ _ _ us hl => match us, hl with | [_, _], _ => rfl
  obtain ⟨fd__law_moved, F__law_moved, D__law_moved⟩ := cdef X G S (x := "_law_moved") (st := s__law_moved) 33 rfl (H2 _ (List.mem_of_getElem? (i := 6) (a := He.Fa.glo "_law_moved") rfl)) (H2 _ (List.mem_of_getElem? (i := 7) (a := He.Fa.keep "_law_moved") rfl))
  have b__law_moved := F__law_moved.fn.binds (ps := P__law_moved) D__law_moved fun _ _ _ _ _ _ us hl => match us, hl with | [_, _], _ => rfl
  obtain ⟨fd__law_costs, F__law_costs, D__law_costs⟩ := cdef X G S (x := "_law_costs") (st := s__law_costs) 34 rfl (H2 _ (List.mem_of_getElem? (i := 8) (a := He.Fa.glo "_law_costs") rfl)) (H2 _ (List.mem_of_getElem? (i := 9) (a := He.Fa.keep "_law_costs") rfl))
  have b__law_costs := F__law_costs.fn.binds (ps := P__law_costs) D__law_costs fun _ _ _ _ _ _ us hl => match us, hl with | [_, _, _], _ => rfl
  obtain ⟨fd__law_rings_so, F__law_rings_so, D__law_rings_so⟩ := cdef X G S (x := "_law_rings_so") (st := s__law_rings_so) 35 rfl (H2 _ (List.mem_of_getElem? (i := 10) (a := He.Fa.glo "_law_rings_so") rfl)) (H2 _ (List.mem_of_getElem? (i := 11) (a := He.Fa.keep "_law_rings_so") rfl))
  have b__law_rings_so := F__law_rings_so.fn.binds (ps := P__law_rings_so) D__law_rings_so fun _ _ _ _ _ _ us hl => match us, hl with | [_, _, _], _ => rfl
  obtain ⟨fd_law, F_law, D_law⟩ := cdef X G S (x := "law") (st := s_law) 36 rfl (H2 _ (List.mem_of_getElem? (i := 12) (a := He.Fa.glo "law") rfl)) (H2 _ (List.mem_of_getElem? (i := 13) (a := He.Fa.keep "law") rfl))
  obtain ⟨fd_Task_init, F_Task_init, D_Task_init, oc_Task_init, od_Task_init, os_Task_init, lk_Task_init⟩ := mdef S (C := "Task") (m := "__init__") (q := "Task.__init__") (st := s_Task_init) 37 rfl
  have b_Task_init := F_Task_init.binds (ps := P_Task_init) D_Task_init fun _ _ _ _ _ _ us hl => match us, hl with | [_, _, _], _ => rfl
  obtain ⟨fd_Task_may, F_Task_may, D_Task_may, oc_Task_may, od_Task_may, os_Task_may, lk_Task_may⟩ := mdef S (C := "Task") (m := "may") (q := "Task.may") (st := s_Task_may) 38 rfl
  have b_Task_may := F_Task_may.binds (ps := P_Task_may) D_Task_may fun _ _ _ _ _ _ us hl => match us, hl with | [_], _ => rfl
  have me_Task_may := He.meth_ok (H4 _ (List.mem_of_getElem? (i := 25) (a := He.Fa.meth "Task" "may") rfl))
  obtain ⟨fd_Task_cost, F_Task_cost, D_Task_cost, oc_Task_cost, od_Task_cost, os_Task_cost, lk_Task_cost⟩ := mdef S (C := "Task") (m := "cost") (q := "Task.cost") (st := s_Task_cost) 39 rfl
  have b_Task_cost := F_Task_cost.binds (ps := P_Task_cost) D_Task_cost fun _ _ _ _ _ _ us hl => match us, hl with | [_], _ => rfl
  have me_Task_cost := He.meth_ok (H4 _ (List.mem_of_getElem? (i := 26) (a := He.Fa.meth "Task" "cost") rfl))
  obtain ⟨fd_Hope_init, F_Hope_init, D_Hope_init, oc_Hope_init, od_Hope_init, os_Hope_init, lk_Hope_init⟩ := mdef S (C := "Hope") (m := "__init__") (q := "Hope.__init__") (st := s_Hope_init) 40 rfl
  have b_Hope_init := F_Hope_init.binds (ps := P_Hope_init) D_Hope_init fun _ _ _ _ _ _ us hl => match us, hl with | [_, _, _], _ => rfl
  obtain ⟨fd_Hope_breaking, F_Hope_breaking, D_Hope_breaking, oc_Hope_breaking, od_Hope_breaking, os_Hope_breaking, lk_Hope_breaking⟩ := mdef S (C := "Hope") (m := "breaking") (q := "Hope.breaking") (st := s_Hope_breaking) 41 rfl
  have b_Hope_breaking := F_Hope_breaking.binds (ps := P_Hope_breaking) D_Hope_breaking fun _ _ _ _ _ _ us hl => match us, hl with | [_, _], _ => rfl
  have me_Hope_breaking := He.meth_ok (H4 _ (List.mem_of_getElem? (i := 27) (a := He.Fa.meth "Hope" "breaking") rfl))
  obtain ⟨fd_Hope_bar, F_Hope_bar, D_Hope_bar, oc_Hope_bar, od_Hope_bar, os_Hope_bar, lk_Hope_bar⟩ := mdef S (C := "Hope") (m := "bar") (q := "Hope.bar") (st := s_Hope_bar) 42 rfl
  have b_Hope_bar := F_Hope_bar.binds (ps := P_Hope_bar) D_Hope_bar fun _ _ _ _ _ _ us hl => match us, hl with | [_], _ => rfl
  have me_Hope_bar := He.meth_ok (H4 _ (List.mem_of_getElem? (i := 28) (a := He.Fa.meth "Hope" "bar") rfl))
  obtain ⟨fd_Hope_best_goal, F_Hope_best_goal, D_Hope_best_goal, oc_Hope_best_goal, od_Hope_best_goal, os_Hope_best_goal, lk_Hope_best_goal⟩ := mdef S (C := "Hope") (m := "best_goal") (q := "Hope.best_goal") (st := s_Hope_best_goal) 43 rfl
  have b_Hope_best_goal := F_Hope_best_goal.binds (ps := P_Hope_best_goal) D_Hope_best_goal fun _ _ _ _ _ _ us hl => match us, hl with | [_], _ => rfl
  have me_Hope_best_goal := He.meth_ok (H4 _ (List.mem_of_getElem? (i := 29) (a := He.Fa.meth "Hope" "best_goal") rfl))
  obtain ⟨fd_Task_orders, F_Task_orders, D_Task_orders, oc_Task_orders, od_Task_orders, os_Task_orders, lk_Task_orders⟩ := mdef S (C := "Task") (m := "orders") (q := "Task.orders") (st := s_Task_orders) 44 rfl
  have b_Task_orders := F_Task_orders.binds (ps := P_Task_orders) D_Task_orders fun _ _ _ _ _ _ us hl => match us, hl with | [_], _ => rfl
  have me_Task_orders := He.meth_ok (H5 _ (List.mem_of_getElem? (i := 0) (a := He.Fa.meth "Task" "orders") rfl))
  obtain ⟨fd_Task_way, F_Task_way, D_Task_way, oc_Task_way, od_Task_way, os_Task_way, lk_Task_way⟩ := mdef S (C := "Task") (m := "way") (q := "Task.way") (st := s_Task_way) 45 rfl
  have b_Task_way := F_Task_way.binds (ps := P_Task_way) D_Task_way fun _ _ _ _ _ _ us hl => match us, hl with | [_], _ => rfl
  have me_Task_way := He.meth_ok (H5 _ (List.mem_of_getElem? (i := 1) (a := He.Fa.meth "Task" "way") rfl))
  have TC_Task : TaskC K (He.ga K "Task") := ⟨He.cls_ok (H4 _ (List.mem_of_getElem? (i := 12) (a := He.Fa.cls "Task") rfl)), He.noat_ok (H4 _ (List.mem_of_getElem? (i := 14) (a := He.Fa.noat "Task" "boxes") rfl)), He.noat_ok (H4 _ (List.mem_of_getElem? (i := 15) (a := He.Fa.noat "Task" "wanted") rfl)), He.noat_ok (H4 _ (List.mem_of_getElem? (i := 16) (a := He.Fa.noat "Task" "holders") rfl)), He.noat_ok (H4 _ (List.mem_of_getElem? (i := 17) (a := He.Fa.noat "Task" "some") rfl))⟩
  have M_Task := He.mkr_ok (H4 _ (List.mem_of_getElem? (i := 13) (a := He.Fa.mkr "Task") rfl))
  have g_Task := He.glo_ok X G (H4 _ (List.mem_of_getElem? (i := 11) (a := He.Fa.glo "Task") rfl))
  have TC_Hope : HopeC K (He.ga K "Hope") := ⟨He.cls_ok (H4 _ (List.mem_of_getElem? (i := 19) (a := He.Fa.cls "Hope") rfl)), He.noat_ok (H4 _ (List.mem_of_getElem? (i := 21) (a := He.Fa.noat "Hope" "boxes") rfl)), He.noat_ok (H4 _ (List.mem_of_getElem? (i := 22) (a := He.Fa.noat "Hope" "wish") rfl)), He.noat_ok (H4 _ (List.mem_of_getElem? (i := 23) (a := He.Fa.noat "Hope" "arrows") rfl)), He.noat_ok (H4 _ (List.mem_of_getElem? (i := 24) (a := He.Fa.noat "Hope" "loops") rfl))⟩
  have M_Hope := He.mkr_ok (H4 _ (List.mem_of_getElem? (i := 20) (a := He.Fa.mkr "Hope") rfl))
  have g_Hope := He.glo_ok X G (H4 _ (List.mem_of_getElem? (i := 18) (a := He.Fa.glo "Hope") rfl))
  have ea : fa = He.ga K "law" := by
    have e := hmg.symm.trans F_law.mgf
    cases e
    rfl
  subst ea
  have hcw : fd_Task_way.code = .ref (wayC K) := by
    have z : (match K.lookup (He.ma K (He.ga K "Task") "way") with
      | some ⟨_, _, .func fd, _⟩ => decide (fd.code = .ref (wayC K))
      | _ => false) = true := hw
    rw [lk_Task_way] at z
    exact of_decide_eq_true z
  refine ⟨fd_law, [(wayC K, P1)], sp_law K [(P1, qway)], fun p hp => ?_, fun p hp => ?_, fun p hp => ?_, fun s u => ?_, fun H a ns _ _ hH hS => ?_, fun base KB GB TB => ?_⟩
  · rw [List.mem_singleton.mp hp]
    exact ht
  · rw [List.mem_singleton.mp hp]
    exact hl
  · rw [List.mem_singleton.mp hp]
    exact PySem.W.codeHd_of_K X hc
  · exact fun_to F_law.fn D_law (ps := P_law) (fun _ _ _ _ _ _ us hl => match us, hl with | [_], _ => rfl) s [u] rfl
  · refine ⟨a, ns, rfl, hS, fun p hp => ?_, fun _ => rfl⟩
    rw [List.mem_singleton.mp hp]
    exact TabS.nil (hH _ (List.mem_singleton.mpr rfl))
  · have TB1 : TabB base mg (wayC K) P1 := TB _ (List.mem_singleton.mpr rfl)
    have c_is_number := c_is_number (P := l.prog) (w := w) (base := base) T F_is_number b_is_number
    have c_is_price := c_is_price (P := l.prog) (w := w) (base := base) T F_is_price b_is_price c_is_number
    have c_is_holder := c_is_holder (P := l.prog) (w := w) (base := base) T F_is_holder b_is_holder c_is_number
    have c_holders_of := c_holders_of (P := l.prog) (w := w) (base := base) T F_holders_of b_holders_of
    have c_ring_from := c_ring_from (P := l.prog) (w := w) (base := base) T F_ring_from b_ring_from
    have c_first_in_itself := c_first_in_itself (P := l.prog) (w := w) (base := base) T F_first_in_itself b_first_in_itself c_ring_from
    have c_need_yard := c_need_yard (P := l.prog) (w := w) (base := base) T F_need_yard b_need_yard c_is_price c_is_holder c_holders_of c_first_in_itself
    have c_need_wish := c_need_wish (P := l.prog) (w := w) (base := base) T F_need_wish b_need_wish c_is_holder
    have c_need_goal := c_need_goal (P := l.prog) (w := w) (base := base) T F_need_goal b_need_goal c_is_holder c_first_in_itself
    have c_need_box := c_need_box (P := l.prog) (w := w) (base := base) T F_need_box b_need_box c_is_number
    have c_chain_of := c_chain_of (P := l.prog) (w := w) (base := base) T F_chain_of b_chain_of
    have c_inside := c_inside (P := l.prog) (w := w) (base := base) T F_inside b_inside c_need_yard c_need_box c_holders_of c_chain_of
    have c_depths := c_depths (P := l.prog) (w := w) (base := base) T F_depths b_depths c_need_yard c_holders_of c_chain_of
    have c_is_under := c_is_under (P := l.prog) (w := w) (base := base) T F_is_under b_is_under c_chain_of
    have c_placed := c_placed (P := l.prog) (w := w) (base := base) T F_placed b_placed
    have k_Task := k_Task_mk (P := l.prog) (w := w) (base := base) T TC_Task M_Task g_Task F_Task_init b_Task_init c_holders_of
    have c_may := c_may_mk (P := l.prog) (w := w) (base := base) T TC_Task me_Task_may F_Task_may b_Task_may
    have c_cost := c_cost_mk (P := l.prog) (w := w) (base := base) T TC_Task me_Task_cost F_Task_cost b_Task_cost
    have c_task_of := c_task_of (P := l.prog) (w := w) (base := base) T F_task_of b_task_of c_need_yard c_need_goal k_Task
    have c_fewest := c_fewest (P := l.prog) (w := w) (base := base) T TC_Task F_fewest b_fewest c_task_of c_may
    have c_top_of := c_top_of (P := l.prog) (w := w) (base := base) T F_top_of b_top_of
    have c_reach := c_reach (P := l.prog) (w := w) (base := base) T F_reach b_reach c_need_yard c_top_of
    have k_Hope := k_Hope_mk (P := l.prog) (w := w) (base := base) T TC_Hope M_Hope g_Hope F_Hope_init b_Hope_init c_holders_of c_ring_from
    have c_breaking := c_breaking_mk (P := l.prog) (w := w) (base := base) T TC_Hope me_Hope_breaking F_Hope_breaking b_Hope_breaking
    have c_bar := c_bar_mk (P := l.prog) (w := w) (base := base) T TC_Hope me_Hope_bar F_Hope_bar b_Hope_bar c_breaking
    have c_best_goal := c_best_goal_mk (P := l.prog) (w := w) (base := base) T TC_Hope me_Hope_best_goal F_Hope_best_goal b_Hope_best_goal c_breaking
    have c_hope_of := c_hope_of (P := l.prog) (w := w) (base := base) T F_hope_of b_hope_of c_need_yard c_need_wish k_Hope
    have c_rings := c_rings (P := l.prog) (w := w) (base := base) T TC_Hope F_rings b_rings c_hope_of
    have c_breakers := c_breakers (P := l.prog) (w := w) (base := base) T TC_Hope F_breakers b_breakers c_hope_of c_breaking
    have c_cheapest := c_cheapest (P := l.prog) (w := w) (base := base) T TC_Hope F_cheapest b_cheapest c_hope_of c_bar c_best_goal k_Task c_cost
    have c_orders_m := c_orders_mk (P := l.prog) (w := w) (base := base) T TC_Task me_Task_orders F_Task_orders b_Task_orders c_is_under c_placed
    have c_orders := c_orders (P := l.prog) (w := w) (base := base) T TC_Task F_orders b_orders c_task_of c_may c_orders_m
    have c__law_start := c__law_start (P := l.prog) (w := w) (base := base) T F__law_start b__law_start
    have c__law_drawn := c__law_drawn (P := l.prog) (w := w) (base := base) T F__law_drawn b__law_drawn
    have c__law_turned := c__law_turned (P := l.prog) (w := w) (base := base) T F__law_turned b__law_turned c__law_drawn
    have c__law_nesting := c__law_nesting (P := l.prog) (w := w) (base := base) T F__law_nesting b__law_nesting c__law_drawn c__law_turned
    have c__law_yard := c__law_yard (P := l.prog) (w := w) (base := base) T F__law_yard b__law_yard c__law_drawn c__law_nesting
    have c__law_up := c__law_up (P := l.prog) (w := w) (base := base) T F__law_up b__law_up
    have c__law_goal := c__law_goal (P := l.prog) (w := w) (base := base) T F__law_goal b__law_goal c__law_drawn c__law_nesting c__law_up
    have c__law_wish := c__law_wish (P := l.prog) (w := w) (base := base) T F__law_wish b__law_wish c__law_drawn c__law_goal
    have c_way := c_way_mk (P := l.prog) (w := w) (base := base) T TC_Task me_Task_way F_Task_way hcw TB1 b_Task_way c_chain_of
    have c_least := c_least (P := l.prog) (w := w) (base := base) T TC_Task F_least b_least c_task_of c_may c_cost c_way
    have c__law_moved := c__law_moved (P := l.prog) (w := w) (base := base) T F__law_moved b__law_moved
    have c__law_costs := c__law_costs (P := l.prog) (w := w) (base := base) T F__law_costs b__law_costs c_least c_cheapest c_fewest c_reach
    have c__law_rings_so := c__law_rings_so (P := l.prog) (w := w) (base := base) T F__law_rings_so b__law_rings_so c_rings c_breakers
    exact ok_law T F_law c__law_start c__law_yard c__law_goal c__law_wish c__law_turned c__law_drawn c__law_moved c__law_costs c_orders c__law_rings_so c_depths c_inside
end
end K16
set_option maxHeartbeats 0
section
open PySem PySem.W PyProof.Rows
theorem PySem.Challenge.cw_nestboxes_k16_whole_numbers_exchanged_holds : PySem.Challenge.rw_nestboxes_k16_whole_numbers_exchanged.Holds := by
  w_on; o_law; k_head; (case hw => w_witness2)
  k_fill
  refine LamX.walk_ofTs (l := PySem.Challenge.rw_nestboxes_k16_whole_numbers_exchanged) (k := 8) (x := "_law_script") (CX := fun _ => C8.CX0) rfl (by decide) (by kernel_rfl) ⟨rfl, by decide, by decide⟩ (fun w h Y => km_in_of Y) ?F (fun _ _ _ _ _ z => z)
  intro w mg fa h Y KX G hmg
  refine K16.fin (P1 := 200) ⟨?_, ?_, ?_, ?_, ?_, ?_, ?_, ?_⟩ ?_ ?_ ?_ (km_tabs_of Y 200 (List.mem_singleton.mpr rfl)) KX G hmg
  all_goals kernel_rfl
end
